import PyProof.Rows.All
import Wide.All
import OpenK.AllK
import Wide.FinOn
import KE.KDictCopyH
import HandS.ForMost
import HandS.ForExc
import HandS.Walk
import HandS.IsInst
import HandS.Wide
import HandS.TupAny
import HandS.Deep
import HandS.Style
import HandS.SortRule
import KE.SortData
import HandS.HeadHook1
import HandS.Zip
import KE.GoesNew
import HandS.More
import HandS.ExcIs
import HandS.ExcOwn
import HandS.Codes
import HandS.Flow
import HandS.SetTxt0
import HandS.Set
import HandS.Strs
import HandS.SetFor
import HandS.Replace
import HandS.DeepEq
import HandS.Conv
import HandS.HeadHook2
import KE.DataMinMax
import PyProof.MinMaxWalk
import PyProof.FString5
import HandS.Head0
import HandS.Head1
import HandS.Head2
import HandS.HeadEnd
import HandS.HeadHook4
import PyProof.AutoSeq1
import HandS.ReplaceList
import HandS.TupSets
import HandS.Dict
import HandS.Lambda
import HandS.EndTab
import HandS.ReplaceLit
import PySem.Challenge.RW_dialslips_k52_formats
set_option Elab.async false
set_option linter.all false
set_option maxRecDepth 100000
set_option maxHeartbeats 0
namespace Pv
/-! ### pure data, results, slots -/
inductive D where
  | non | bl (b : Bool) | int (i : Int) | str (l : List Nat)
  | tup (ds : List D) | lst (ds : List D) | dic (kvs : List (List Nat × D)) | obj (a : Nat) | fn (n : String)
  /-- a dict's keys, texts and None, the values all True -/
  | kd (ks : List (Option (List Nat)))
  deriving Inhabited
abbrev LIM : Nat := 16777216
inductive Sl where
  | fz (d : D) | ow (d : D)
abbrev En := List (Option Sl)
def gt : En → Nat → Option Sl
  | [], _ => none
  | x :: _, 0 => x
  | _ :: r, i + 1 => gt r i
def pt : En → Nat → Option Sl → En
  | [], _, _ => []
  | _ :: r, 0, s => s :: r
  | x :: r, i + 1, s => x :: pt r i s
def wipeE (env : En) : List Nat → En
  | [] => env
  | v :: vs => pt (wipeE env vs) v none
inductive Res (α : Type) where
  | ok (a : α) | exc (c : String) | bad
def Res.bind {α β : Type} : Res α → (α → Res β) → Res β
  | .ok a, f => f a
  | .exc c, _ => .exc c
  | .bad, _ => .bad
/-- where nothing may be raised -/
def Res.calm {α : Type} : Res α → Res α
  | .ok a => .ok a
  | .exc _ => .bad
  | .bad => .bad
inductive Fl where
  | nx (env : En) | ret (d : D) | brk (env : En) | cont (env : En) | exc (c : String) (env : En) | bad
def Res.fl {α : Type} (r : Res α) (env : En) (f : α → Fl) : Fl := match r with
  | .ok a => f a
  | .exc c => .exc c env
  | .bad => .bad
/-! ### expressions -/
abbrev Xv := En → Res D
abbrev Tv := En → Res Bool
abbrev Av := En → Res (List D)
def rdV (i : Nat) : Xv := fun env => match gt env i with
  | some (.fz d) => .ok d
  | _ => .bad
def rdB (i : Nat) : Xv := fun env => match gt env i with
  | some (.fz d) => .ok d
  | some (.ow d) => .ok d
  | none => .bad
def xC (d : D) : Xv := fun _ => .ok d
def xU (f : D → Res D) (a : Xv) : Xv := fun env => (a env).bind fun x => (f x).calm
def xOp (f : D → D → Res D) (a b : Xv) : Xv := fun env => (a env).bind fun x => (b env).bind fun y => (f x y).calm
def x3 (f : D → D → D → Res D) (a b c : Xv) : Xv := fun env => (a env).bind fun x => (b env).bind fun y => (c env).bind fun z => (f x y z).calm
def asB : D → Res Bool
  | .bl b => .ok b
  | _ => .bad
def xChain (f g : D → D → Res D) (a b c : Xv) : Xv := fun env => (a env).bind fun x => (b env).bind fun y => (f x y).calm.bind fun z => (asB z).bind fun k => if k = true then (c env).bind fun w => (g y w).calm else .ok (.bl false)
def xAnd (a b : Xv) : Xv := fun env => (a env).bind fun x => (asB x).bind fun c => if c = true then b env else .ok (.bl false)
def xOr (a b : Xv) : Xv := fun env => (a env).bind fun x => (asB x).bind fun c => if c = true then .ok (.bl true) else b env
def xNot (a : Xv) : Xv := fun env => (a env).bind fun x => (asB x).bind fun c => .ok (.bl (!c))
def xIf (t : Tv) (a b : Xv) : Xv := fun env => (t env).bind fun x => if x = true then a env else b env
def tVal (a : Xv) : Tv := fun env => (a env).bind asB
def tNt (t : Tv) : Tv := fun env => (t env).bind fun b => .ok (!b)
def tAn (t u : Tv) : Tv := fun env => (t env).bind fun x => if x = true then u env else .ok false
def tOr' (t u : Tv) : Tv := fun env => (t env).bind fun x => if x = true then .ok true else u env
def tYs : Tv := fun _ => .ok true
def aNil : Av := fun _ => .ok []
def aCons (a : Xv) (r : Av) : Av := fun env => (a env).bind fun x => (r env).bind fun xs => .ok (x :: xs)
def xTup (a : Av) : Xv := fun env => (a env).bind fun xs => if xs.length ≤ LIM then .ok (.tup xs) else .bad
def xLst (a : Av) : Xv := fun env => (a env).bind fun xs => if xs.length ≤ LIM then .ok (.lst xs) else .bad
def xCall (f : List D → Res D) (a : Av) : Xv := fun env => (a env).bind f
/-! ### targets, walks -/
inductive Tg where
  | nm (i : Nat) | tp (is : List Nat)
def ptAll : List Nat → List D → En → Option En
  | [], [], env => some env
  | i :: is, d :: ds, env => ptAll is ds (pt env i (some (.fz d)))
  | _, _, _ => none
def stT : Tg → D → En → Option En
  | .nm i, d, env => some (pt env i (some (.fz d)))
  | .tp is, .tup ds, env => ptAll is ds env
  | .tp _, _, _ => none
def itD : D → Res (List D)
  | .lst ds => .ok ds
  | .tup ds => .ok ds
  | .str l => .ok (l.map fun c => .str [c])
  | .dic kvs => .ok (kvs.map fun kv => .str kv.1)
  | _ => .bad
def iAny (a : Xv) : Av := fun env => (a env).bind itD
def rngD (lo : Int) (n : Nat) : List D := (List.range n).map fun (i : Nat) => D.int (lo + (i : Int))
def rng1 : D → Res (List D)
  | .int j => if -(2 ^ 62) ≤ j ∧ j < 2 ^ 62 ∧ j.toNat ≤ LIM then .ok (rngD 0 j.toNat) else .bad
  | _ => .bad
def rng2 : D → D → Res (List D)
  | .int i, .int j => if (-(2 ^ 62) ≤ i ∧ i < 2 ^ 62 ∧ -(2 ^ 62) ≤ j ∧ j < 2 ^ 62) ∧ (j - i).toNat ≤ LIM then .ok (rngD i (j - i).toNat) else .bad
  | _, _ => .bad
def iR1 (a : Xv) : Av := fun env => (a env).bind rng1
def iR2 (a b : Xv) : Av := fun env => (a env).bind fun x => (b env).bind fun y => rng2 x y
/-- zip of two, a list, a tuple or a text each (no dict) -/
def zpD : D → Res (List D)
  | .lst ds => .ok ds
  | .tup ds => .ok ds
  | .str l => .ok (l.map fun c => .str [c])
  | _ => .bad
def zipW (xs ys : List D) : List D := List.zipWith (fun p q => .tup [p, q]) xs ys
def zipD : D → D → Res (List D)
  | .lst a, .lst b => .ok (zipW a b)
  | .tup a, .tup b => .ok (zipW a b)
  | .str a, .str b => .ok (zipW (a.map fun c => .str [c]) (b.map fun c => .str [c]))
  | _, _ => .bad
def iZip (a b : Xv) : Av := fun env => (a env).bind fun x => (b env).bind fun y => zipD x y
def enumD (n : Nat) : List D → List D
  | [] => []
  | d :: r => .tup [.int (n : Int), d] :: enumD (n + 1) r
def iEnum (a : Xv) : Av := fun env => (a env).bind fun x => (zpD x).bind fun xs => .ok (enumD 0 xs)
/-- [e for T in xs if t] -/
def lcD (T : Tg) (t : Tv) (e : Xv) (env : En) : List D → Res (List D)
  | [] => .ok []
  | x :: xs => match stT T x env with
    | none => .bad
    | some env2 => (t env2).calm.bind fun b => if b = true then (e env2).calm.bind fun y => (lcD T t e env xs).bind fun r => .ok (y :: r) else lcD T t e env xs
def xLc (T : Tg) (own : List Nat) (iv : Av) (t : Tv) (e : Xv) : Xv := fun env => (iv env).bind fun xs => (lcD T t e (wipeE env own) xs).bind fun r => .ok (.lst r)
/-! ### statements -/
abbrev Sv := En → Fl
def sNil : Sv := fun env => .nx env
def sSeq (s r : Sv) : Sv := fun env => match s env with
  | .nx env' => r env'
  | f => f
def sExpr (a : Xv) : Sv := fun env => (a env).fl env fun _ => .nx env
def sRet (a : Xv) : Sv := fun env => (a env).fl env fun d => .ret d
def sIf (t : Tv) (s r : Sv) : Sv := fun env => (t env).fl env fun b => if b = true then s env else r env
def sAsg (T : Tg) (a : Xv) : Sv := fun env => (a env).fl env fun d => match stT T d env with
  | some env' => .nx env'
  | none => .bad
def sRaise (c : String) : Sv := fun env => .exc c env
def sCont : Sv := fun env => .cont env
def sBrk : Sv := fun env => .brk env
/-- owned things, several at once -/
abbrev Ov := En → Res (List Sl)
def oNil : Ov := fun _ => .ok []
def oF (a : Xv) (r : Ov) : Ov := fun env => (a env).bind fun x => (r env).bind fun xs => .ok (.fz x :: xs)
def oL (a : Av) (r : Ov) : Ov := fun env => (a env).bind fun xs => if xs.length ≤ LIM then (r env).bind fun ss => .ok (.ow (.lst xs) :: ss) else .bad
def oD (r : Ov) : Ov := fun env => (r env).bind fun ss => .ok (.ow (.dic []) :: ss)
def ptSl : List Nat → List Sl → En → Option En
  | [], [], env => some env
  | i :: is, s :: ss, env => ptSl is ss (pt env i (some s))
  | _, _, _ => none
def sOwn (is : List Nat) (o : Ov) : Sv := fun env => (o env).fl env fun ss => match ptSl is ss env with
  | some env' => .nx env'
  | none => .bad
def sApp (i : Nat) (a : Xv) : Sv := fun env => match gt env i with
  | some (.ow (.lst ds)) => (a env).fl env fun d => if ds.length < LIM then .nx (pt env i (some (.ow (.lst (ds ++ [d]))))) else .bad
  | _ => .bad
def exD : D → Res (List D)
  | .lst es => .ok es
  | _ => .bad
def sExt (i : Nat) (a : Xv) : Sv := fun env => match gt env i with
  | some (.ow (.lst ds)) => (a env).fl env fun d => match exD d with
    | .ok es => if ds.length + es.length ≤ LIM then .nx (pt env i (some (.ow (.lst (ds ++ es))))) else .bad
    | _ => .bad
  | _ => .bad
def putD (kvs : List (List Nat × D)) (k : List Nat) (v : D) : List (List Nat × D) :=
  if kvs.any (fun kv => decide (kv.1 = k)) then kvs.map fun kv => if kv.1 = k then (kv.1, v) else kv else kvs ++ [(k, v)]
/-- d[k] = v: the value first -/
def sPut (i : Nat) (kx vx : Xv) : Sv := fun env => (vx env).fl env fun v => match gt env i with
  | some (.ow (.dic kvs)) => (kx env).fl env fun k => match k with
    | .str key => if kvs.length < LIM then .nx (pt env i (some (.ow (.dic (putD kvs key v))))) else .bad
    | _ => .bad
  | _ => .bad
def frz (i : Nat) (env : En) : En := match gt env i with
  | some (.ow d) => pt env i (some (.fz d))
  | _ => env
def sFrz (i : Nat) (s : Sv) : Sv := fun env => s (frz i env)
def forD (T : Tg) (b : Sv) : List D → En → Fl
  | [], env => .nx env
  | x :: xs, env => match stT T x env with
    | none => .bad
    | some env2 => match b env2 with
      | .nx e => forD T b xs e
      | .cont e => forD T b xs e
      | .brk e => .nx e
      | f => f
def sFor (T : Tg) (iv : Av) (b : Sv) : Sv := fun env => (iv env).fl env fun xs => forD T b xs env
def whD (t : Tv) (b : Sv) : Nat → En → Fl
  | 0, _ => .bad
  | n + 1, env => (t env).fl env fun c => if c = true then (match b env with
      | .nx e => whD t b n e
      | .cont e => whD t b n e
      | .brk e => .nx e
      | f => f) else .nx env
def noX : Fl → Fl
  | .exc _ _ => .bad
  | f => f
/-- for T in e, e a list, a tuple, a text, or a dict (its keys; nothing is raised then) -/
def forA (T : Tg) (b : Sv) (env : En) : D → Fl
  | .dic kvs => noX (forD T b (kvs.map fun kv => .str kv.1) env)
  | d => match zpD d with
    | .ok xs => forD T b xs env
    | _ => .bad
def sForA (T : Tg) (a : Xv) (b : Sv) : Sv := fun env => (a env).fl env fun d => forA T b env d
def iSeq (a : Xv) : Av := fun env => (a env).bind zpD
def sWh (fu : En → Nat) (t : Tv) (b : Sv) : Sv := fun env => whD t b (fu env) env
/-- try: b, except that returns -/
def sTry (i : Nat) (cat : String → Option Bool) (r : String → Option D) (b : Sv) : Sv := fun env => match b env with
  | .exc c env' => (match cat c with
    | some true => if i < env'.length then (match r c with
      | some d => .ret d
      | none => .bad) else .bad
    | some false => .exc c env'
    | none => .bad)
  | f => f
/-- isinstance(e, C) in the except suite -/
def xIs (i : Nat) (a : Nat) (b : Bool) : Xv := fun env => match gt env i with
  | some (.fz (.obj a')) => if a' = a then .ok (.bl b) else .bad
  | _ => .bad
/-! ### defs -/
def iniE (n : Nat) (ds : List D) : En := ds.map (fun d => some (.fz d)) ++ List.replicate (n - ds.length) none
def outOf : Fl → Res D
  | .ret d => .ok d
  | .nx _ => .ok .non
  | .exc c _ => .exc c
  | _ => .bad
def mkFn (n m : Nat) (sv : Sv) (ds : List D) : Res D := if ds.length = n then outOf (sv (iniE m ds)) else .bad
def fuel (i : Nat) (env : En) : Nat := match gt env i with
  | some (.fz (.int j)) => j.toNat + 1
  | _ => 0
def f0 (g : Res D) : List D → Res D
  | [] => g
  | _ => .bad
def f1 (g : D → Res D) : List D → Res D
  | [a] => g a
  | _ => .bad
def f2 (g : D → D → Res D) : List D → Res D
  | [a, b] => g a b
  | _ => .bad
def f3 (g : D → D → D → Res D) : List D → Res D
  | [a, b, c] => g a b c
  | _ => .bad
def f4 (g : D → D → D → D → Res D) : List D → Res D
  | [a, b, c, d] => g a b c d
  | _ => .bad
end Pv

namespace Pv
/-! ### shapes of data -/
mutual
/-- no dict, no other object within -/
def plain : D → Bool
  | .tup ds => plains ds
  | .lst ds => plains ds
  | .dic _ => false
  | .obj _ => false
  | .fn _ => false
  | .kd _ => false
  | _ => true
def plains : List D → Bool
  | [] => true
  | d :: ds => plain d && plains ds
end
mutual
def dep : D → Nat
  | .tup ds => deps ds + 1
  | .lst ds => deps ds + 1
  | _ => 0
def deps : List D → Nat
  | [] => 0
  | d :: ds => max (dep d) (deps ds)
end
mutual
def deq : D → D → Bool
  | .non, .non => true
  | .bl a, .bl b => a == b
  | .bl a, .int j => (if a then 1 else 0) == j
  | .int i, .bl b => i == (if b then 1 else 0)
  | .int i, .int j => i == j
  | .str x, .str y => x == y
  | .lst xs, .lst ys => deqs xs ys
  | .tup xs, .tup ys => deqs xs ys
  | _, _ => false
def deqs : List D → List D → Bool
  | [], [] => true
  | x :: xs, y :: ys => deq x y && deqs xs ys
  | _, _ => false
end
mutual
/-- comparable place by place -/
def alk : D → D → Bool
  | .non, .non => true
  | .bl _, .bl _ => true
  | .int _, .int _ => true
  | .str _, .str _ => true
  | .lst xs, .lst ys => alks xs ys
  | .tup xs, .tup ys => alks xs ys
  | _, _ => false
def alks : List D → List D → Bool
  | x :: xs, y :: ys => alk x y && alks xs ys
  | _, _ => true
end
mutual
def dlt : D → D → Bool
  | .bl a, .bl b => decide ((if a then 1 else 0 : Int) < (if b then 1 else 0))
  | .int i, .int j => decide (i < j)
  | .str x, .str y => decide (x < y)
  | .lst xs, .lst ys => dlts xs ys
  | .tup xs, .tup ys => dlts xs ys
  | _, _ => false
def dlts : List D → List D → Bool
  | [], [] => false
  | [], _ :: _ => true
  | _ :: _, [] => false
  | x :: xs, y :: ys => if deq x y = true then dlts xs ys else dlt x y
end
def isNon : D → Bool
  | .non => true
  | _ => false
def flat : D → Bool
  | .non => true
  | .bl _ => true
  | .int _ => true
  | .str _ => true
  | _ => false
/-! ### operators -/
def addD : D → D → Res D
  | .int i, .int j => .ok (.int (i + j))
  | .str a, .str b => if a.length + b.length ≤ LIM then .ok (.str (a ++ b)) else .bad
  | .lst a, .lst b => if a.length + b.length ≤ LIM then .ok (.lst (a ++ b)) else .bad
  | .tup a, .tup b => if a.length + b.length ≤ LIM then .ok (.tup (a ++ b)) else .bad
  | _, _ => .bad
def subD : D → D → Res D
  | .int i, .int j => .ok (.int (i - j))
  | _, _ => .bad
def mulD : D → D → Res D
  | .int i, .int j => if (-(2 ^ 64) < i ∧ i < 2 ^ 64) ∨ (-(2 ^ 64) < j ∧ j < 2 ^ 64) then .ok (.int (i * j)) else .bad
  | .str a, .int j => if 0 ≤ j ∧ a.length * j.toNat ≤ LIM ∧ j ≤ LIM then .ok (.str (List.replicate j.toNat a).flatten) else .bad
  | .lst a, .int j => if -(2 ^ 63) ≤ j ∧ j < 2 ^ 63 ∧ a.length * j.toNat ≤ LIM then .ok (.lst (List.replicate j.toNat a).flatten) else .bad
  | _, _ => .bad
def fdivD : D → D → Res D
  | .int i, .int j => if 0 < j ∧ j < 2 ^ 64 then .ok (.int (i / j)) else .bad
  | _, _ => .bad
def modD : D → D → Res D
  | .int i, .int j => if 0 < j then .ok (.int (i % j)) else .bad
  | _, _ => .bad
def powD : D → D → Res D
  | .int i, .int j => if 0 ≤ j ∧ j ≤ 1000000 ∧ i.natAbs < 2 ^ 64 then .ok (.int (i ^ j.toNat)) else .bad
  | _, _ => .bad
/-! ### comparisons -/
def ltD (d e : D) : Res D := if plain d = true ∧ plain e = true ∧ alk d e = true ∧ isNon d = false ∧ min (dep d) (dep e) ≤ 60 then .ok (.bl (dlt d e)) else .bad
def leD : D → D → Res D
  | .int i, .int j => .ok (.bl (decide (i ≤ j)))
  | _, _ => .bad
def gtD : D → D → Res D
  | .int i, .int j => .ok (.bl (decide (j < i)))
  | _, _ => .bad
def geD : D → D → Res D
  | .int i, .int j => .ok (.bl (decide (j ≤ i)))
  | _, _ => .bad
def eqD (d e : D) : Res D := if plain d = true ∧ plain e = true ∧ min (dep d) (dep e) ≤ 60 then .ok (.bl (deq d e)) else .bad
def neD (d e : D) : Res D := if plain d = true ∧ plain e = true ∧ min (dep d) (dep e) ≤ 60 then .ok (.bl (!deq d e)) else .bad
def isD : D → D → Res D
  | .bl a, .bl b => .ok (.bl (decide (a = b)))
  | .dic _, .non => .bad
  | .obj _, .non => .bad
  | .fn _, .non => .bad
  | .kd _, .non => .bad
  | d, .non => .ok (.bl (isNon d))
  | _, _ => .bad
def isnD (d e : D) : Res D := (isD d e).bind fun z => match z with
  | .bl b => .ok (.bl (!b))
  | _ => .bad
/-- x in y -/
def inB : D → D → Res Bool
  | .str [c], .str l => .ok (decide (c ∈ l))
  | d, .lst ds => if flat d = true ∧ ds.all flat = true then .ok (ds.any fun z => deq z d) else if plain d = true ∧ plains ds = true ∧ dep d + deps ds ≤ 60 then .ok (ds.any fun z => deq z d) else .bad
  | d, .tup ds => if flat d = true ∧ ds.all flat = true then .ok (ds.any fun z => deq z d) else .bad
  | .str k, .dic kvs => .ok (kvs.any fun kv => decide (kv.1 = k))
  | _, _ => .bad
def inD (d e : D) : Res D := (inB d e).bind fun b => .ok (.bl b)
def ninD (d e : D) : Res D := (inB d e).bind fun b => .ok (.bl (!b))
/-! ### items, slices -/
def ixN (n : Nat) (i : Int) : Option Nat := if 0 ≤ i then (if i < n then some i.toNat else none) else if -(n : Int) ≤ i then some (i + n).toNat else none
def atD {α : Type} (xs : List α) (i : Int) : Option α := (ixN xs.length i).bind fun j => xs[j]?
def lookD (kvs : List (List Nat × D)) (k : List Nat) : Option D := (kvs.find? fun kv => decide (kv.1 = k)).map (·.2)
def ixD : D → D → Res D
  | .lst ds, .int i => match atD ds i with
    | some d => .ok d
    | none => .bad
  | .tup ds, .int i => match atD ds i with
    | some d => .ok d
    | none => .bad
  | .str l, .int i => match atD l i with
    | some c => .ok (.str [c])
    | none => .bad
  | .dic kvs, .str k => match lookD kvs k with
    | some d => .ok d
    | none => .bad
  | _, _ => .bad
def sIx (n d : Nat) : Option Int → Nat
  | none => d
  | some v => (if v < 0 then max (v + (n : Int)) 0 else min v (n : Int)).toNat
def cutD {α : Type} (xs : List α) (lo hi : Option Int) : List α := (xs.drop (sIx xs.length 0 lo)).take (sIx xs.length xs.length hi - sIx xs.length 0 lo)
def slD (lo hi : Option Int) : D → Res D
  | .lst ds => .ok (.lst (cutD ds lo hi))
  | .tup ds => .ok (.tup (cutD ds lo hi))
  | .str l => .ok (.str (cutD l lo hi))
  | _ => .bad
def asI : D → Res Int
  | .int i => .ok i
  | _ => .bad
def oI : Option Xv → En → Res (Option Int)
  | none, _ => .ok none
  | some a, env => (a env).bind fun d => (asI d).bind fun i => .ok (some i)
def xSl (a : Xv) (lo hi : Option Xv) : Xv := fun env => (a env).bind fun x => (oI lo env).bind fun l => (oI hi env).bind fun h => (slD l h x).calm
def isDic : D → Bool
  | .dic _ => true
  | _ => false
def isStr : D → Bool
  | .str _ => true
  | _ => false
def isLst : D → Bool
  | .lst _ => true
  | _ => false
/-- o.m(b), o.m(b, c): the object's kind is asked first -/
def xM (ok : D → Bool) (f : D → D → Res D) (a b : Xv) : Xv := fun env => (a env).bind fun x => if ok x = true then (b env).bind fun y => (f x y).calm else .bad
def xM2 (ok : D → Bool) (f : D → D → D → Res D) (a b c : Xv) : Xv := fun env => (a env).bind fun x => if ok x = true then (b env).bind fun y => (c env).bind fun z => (f x y z).calm else .bad
/-! ### built-ins -/
def lenD : D → Res D
  | .lst ds => .ok (.int ds.length)
  | .tup ds => .ok (.int ds.length)
  | .str l => .ok (.int l.length)
  | .dic kvs => .ok (.int kvs.length)
  | _ => .bad
def asBs : List D → Option (List Bool)
  | [] => some []
  | .bl b :: r => (asBs r).map (b :: ·)
  | _ => none
def allD : D → Res D
  | .lst ds => match asBs ds with
    | some bs => .ok (.bl (bs.all id))
    | none => .bad
  | _ => .bad
def anyD : D → Res D
  | .lst ds => match asBs ds with
    | some bs => .ok (.bl (bs.any id))
    | none => .bad
  | _ => .bad
inductive Ty where
  | int | bool | str | tuple | list
def isiB : Ty → D → Option Bool
  | _, .obj _ => none
  | _, .fn _ => none
  | _, .kd _ => none
  | .int, .int _ => some true
  | .int, .bl _ => some true
  | .bool, .bl _ => some true
  | .str, .str _ => some true
  | .tuple, .tup _ => some true
  | .list, .lst _ => some true
  | _, _ => some false
def isiD (T : Ty) (d : D) : Res D := match isiB T d with
  | some b => .ok (.bl b)
  | none => .bad
def intD : D → Res D
  | .int i => .ok (.int i)
  | .bl b => .ok (.int (if b then 1 else 0))
  | _ => .bad
def tupD : D → Res D
  | .lst ds => .ok (.tup ds)
  | .tup ds => .ok (.tup ds)
  | _ => .bad
def lisD : D → Res D
  | .lst ds => .ok (.lst ds)
  | .tup ds => .ok (.lst ds)
  | .dic kvs => .ok (.lst (kvs.map fun kv => .str kv.1))
  | _ => .bad
def asSs : List D → Option (List (List Nat))
  | [] => some []
  | .str l :: r => (asSs r).map (l :: ·)
  | _ => none
def joinL (sep : List Nat) : List (List Nat) → List Nat
  | [] => []
  | [a] => a
  | a :: r => a ++ sep ++ joinL sep r
def joinD : D → D → Res D
  | .str sep, .lst ds => match asSs ds with
    | some ls => if (ls.map List.length).sum + ls.length * sep.length ≤ LIM then .ok (.str (joinL sep ls)) else .bad
    | none => .bad
  | _, _ => .bad
def get1 : D → D → Res D
  | .dic kvs, .str k => .ok ((lookD kvs k).getD .non)
  | _, _ => .bad
def get2 : D → D → D → Res D
  | .dic kvs, .str k, d => .ok ((lookD kvs k).getD d)
  | _, _, _ => .bad
/-- sorted -/
def dle (a b : D) : Bool := !dlt b a
def alkAll (ds : List D) : Bool := ds.all fun a => ds.all fun b => alk a b
def srtOk (ds : List D) : Bool := plains ds && alkAll ds && decide (deps ds ≤ 60) && (ds.all (fun d => match d with | .tup (_ :: _) => true | _ => false) || ds.all (fun d => match d with | .non => false | .tup _ => false | _ => true))
def sortD : D → Res D
  | .lst ds => if srtOk ds = true then .ok (.lst (ds.mergeSort dle)) else .bad
  | .dic kvs => .ok (.lst ((kvs.map fun kv => D.str kv.1).mergeSort dle))
  | _ => .bad
def fstT : List Bool → Nat → Option Nat
  | [], _ => none
  | true :: _, j => some j
  | false :: r, j => fstT r (j + 1)
def idxT : D → Res D
  | .lst ds => match asBs ds with
    | some bs => match fstT bs 0 with
      | some j => .ok (.int (j : Nat))
      | none => .bad
    | none => .bad
  | _ => .bad
/-! ### slots -/
theorem pt_len : ∀ (e : En) (i : Nat) (s : Option Sl), (pt e i s).length = e.length
  | [], _, _ => rfl
  | _ :: _, 0, _ => rfl
  | _ :: r, i + 1, s => congrArg (· + 1) (pt_len r i s)
theorem gt_pt_same : ∀ (e : En) (i : Nat) (s : Option Sl), i < e.length → gt (pt e i s) i = s
  | [], _, _, h => absurd h (Nat.not_lt_zero _)
  | _ :: _, 0, _, _ => rfl
  | _ :: r, i + 1, s, h => gt_pt_same r i s (Nat.lt_of_succ_lt_succ h)
theorem gt_pt_ne : ∀ (e : En) (i j : Nat) (s : Option Sl), i ≠ j → gt (pt e i s) j = gt e j
  | [], _, _, _, _ => rfl
  | _ :: _, 0, 0, _, h => absurd rfl h
  | _ :: _, 0, _ + 1, _, _ => rfl
  | _ :: _, _ + 1, 0, _, _ => rfl
  | _ :: r, i + 1, j + 1, s, h => gt_pt_ne r i j s (fun e => h (congrArg (· + 1) e))
theorem gt_lt : ∀ (e : En) (i : Nat) (s : Sl), gt e i = some s → i < e.length
  | [], _, _, h => by cases h
  | _ :: _, 0, _, _ => Nat.succ_pos _
  | _ :: r, i + 1, s, h => Nat.succ_lt_succ (gt_lt r i s h)
end Pv

namespace Pv
open PySem PySem.Spec L2

theorem lim : sizeLine = LIM := sizeLine_eq
def tx (l : List Nat) : Str := ⟨l.toArray⟩
theorem tx_inj {a b : List Nat} (h : tx a = tx b) : a = b := by
  have e : a.toArray = b.toArray := congrArg Str.cps h
  have := congrArg Array.toList e
  simpa using this
theorem tx_list (l : List Nat) : (tx l).cps.toList = l := by simp [tx]
theorem tx_len (l : List Nat) : (tx l).length = l.length := by simp [tx, Str.length]
def E0h : Hp := fun _ => none
def okS (l : List Nat) : Prop := l.length ≤ LIM ∧ ∀ c ∈ l, c < 1114112
instance (l : List Nat) : Decidable (okS l) := by unfold okS; infer_instance
def Ts (K : PySem.W.Frag) (F : Hp) (a : Addr) (vs : List V) : Prop := F a = some (.tup vs) ∨ SqT K E0h a vs
theorem sqT_up {K : PySem.W.Frag} {H : Hp} {a : Addr} {vs : List V} (h : SqT K E0h a vs) : SqT K H a vs := by
  rcases h with (h | ⟨o, h⟩) | h
  · exact absurd h (by simp [E0h])
  · exact absurd h (by simp [E0h])
  · exact .inr h
/-- the program and the world, known to the representation -/
class HasW where
  P : Program
  w : World
variable [HasW]
/-- a key that is a text or None -/
def lfK : Option (List Nat) → PySem.Leaf
  | none => .none
  | some l => .text (tx l)
/-- the dict at a has these keys, all True -/
def kdH (a : Addr) (ks : List (Option (List Nat))) (h : Heap) : Prop := (a == sysModules) = false ∧ h.DictOf (leafKind HasW.P HasW.w) a (ks.map fun k => (lfK k, Value.bool true))
mutual
inductive Rp (K : PySem.W.Frag) (F : Hp) : V → D → Prop
  | non : Rp K F .non .non
  | bl (b : Bool) : Rp K F (.bl b) (.bl b)
  | int (i : Int) : Rp K F (.int i) (.int i)
  | str (l : List Nat) : okS l → Rp K F (.str (tx l)) (.str l)
  | tup {a : Addr} {vs : List V} {ds : List D} : Ts K F a vs → vs.length ≤ LIM → RpA K F vs ds → Rp K F (.ref a) (.tup ds)
  | lst {a : Addr} {vs : List V} {ds : List D} : F a = some (.lst vs) → vs.length ≤ LIM → RpA K F vs ds → Rp K F (.ref a) (.lst ds)
  | dic {a : Addr} {kvs : List (Key × V)} {ds : List (List Nat × D)} : F a = some (.dK kvs) → kvs.length ≤ LIM → RpK K F kvs ds → Rp K F (.ref a) (.dic ds)
  | obj (a : Addr) : Rp K F (.ref a) (.obj a)
  | fn (n : String) : Rp K F (.ref (He.ga K (Str.ofString n))) (.fn n)
  | kd {a : Addr} {ks : List (Option (List Nat))} : F a = some (.ext (kdH a ks)) → ks.length ≤ LIM → (∀ l, some l ∈ ks → okS l) → Rp K F (.ref a) (.kd ks)
inductive RpA (K : PySem.W.Frag) (F : Hp) : List V → List D → Prop
  | nil : RpA K F [] []
  | cons {v : V} {vs : List V} {d : D} {ds : List D} : Rp K F v d → RpA K F vs ds → RpA K F (v :: vs) (d :: ds)
inductive RpK (K : PySem.W.Frag) (F : Hp) : List (Key × V) → List (List Nat × D) → Prop
  | nil : RpK K F [] []
  | cons {k : List Nat} {v : V} {kvs : List (Key × V)} {d : D} {ds : List (List Nat × D)} : okS k → Rp K F v d → RpK K F kvs ds → RpK K F ((Sum.inr (tx k), v) :: kvs) ((k, d) :: ds)
end
section
variable {K : PySem.W.Frag} {F F' : Hp}
mutual
theorem Rp.mono (h : ∀ a u, F a = some u → F' a = some u) : ∀ {v : V} {d : D}, Rp K F v d → Rp K F' v d
  | _, _, .non => .non
  | _, _, .bl b => .bl b
  | _, _, .int i => .int i
  | _, _, .str l z => .str l z
  | _, _, .tup q z r => .tup (q.imp (h _ _) id) z (RpA.mono h r)
  | _, _, .lst q z r => .lst (h _ _ q) z (RpA.mono h r)
  | _, _, .dic q z r => .dic (h _ _ q) z (RpK.mono h r)
  | _, _, .obj a => .obj a
  | _, _, .fn n => .fn n
  | _, _, .kd q z r => .kd (h _ _ q) z r
theorem RpA.mono (h : ∀ a u, F a = some u → F' a = some u) : ∀ {vs : List V} {ds : List D}, RpA K F vs ds → RpA K F' vs ds
  | _, _, .nil => .nil
  | _, _, .cons r t => .cons (Rp.mono h r) (RpA.mono h t)
theorem RpK.mono (h : ∀ a u, F a = some u → F' a = some u) : ∀ {vs : List (Key × V)} {ds : List (List Nat × D)}, RpK K F vs ds → RpK K F' vs ds
  | _, _, .nil => .nil
  | _, _, .cons z r t => .cons z (Rp.mono h r) (RpK.mono h t)
end
theorem RpA.length : ∀ {vs : List V} {ds : List D}, RpA K F vs ds → vs.length = ds.length
  | _, _, .nil => rfl
  | _, _, .cons _ t => congrArg (· + 1) (RpA.length t)
theorem RpA.append : ∀ {vs ws : List V} {ds es : List D}, RpA K F vs ds → RpA K F ws es → RpA K F (vs ++ ws) (ds ++ es)
  | _, _, _, _, .nil, t => t
  | _, _, _, _, .cons r s, t => .cons r (RpA.append s t)
theorem RpA.get : ∀ {vs : List V} {ds : List D} {i : Nat} {v : V}, RpA K F vs ds → vs[i]? = some v → ∃ d, ds[i]? = some d ∧ Rp K F v d
  | _, _, _, _, .nil, e => by simp at e
  | _, _, 0, _, .cons r _, e => by simp at e; subst e; exact ⟨_, rfl, r⟩
  | _, _, i + 1, v, .cons _ t, e => by
    obtain ⟨d, h1, h2⟩ := RpA.get (i := i) (v := v) t (by simpa using e)
    exact ⟨d, by simpa using h1, h2⟩
theorem RpA.getD : ∀ {vs : List V} {ds : List D} {i : Nat} {d : D}, RpA K F vs ds → ds[i]? = some d → ∃ v, vs[i]? = some v ∧ Rp K F v d
  | _, _, _, _, .nil, e => by simp at e
  | _, _, 0, _, .cons r _, e => by simp at e; subst e; exact ⟨_, rfl, r⟩
  | _, _, i + 1, v, .cons _ t, e => by
    obtain ⟨d, h1, h2⟩ := RpA.getD (i := i) (d := v) t (by simpa using e)
    exact ⟨d, by simpa using h1, h2⟩
theorem RpA.take : ∀ {vs : List V} {ds : List D} (n : Nat), RpA K F vs ds → RpA K F (vs.take n) (ds.take n)
  | _, _, 0, _ => .nil
  | _, _, _ + 1, .nil => .nil
  | _, _, n + 1, .cons r t => .cons r (RpA.take n t)
theorem RpA.drop : ∀ {vs : List V} {ds : List D} (n : Nat), RpA K F vs ds → RpA K F (vs.drop n) (ds.drop n)
  | _, _, 0, r => r
  | _, _, _ + 1, .nil => .nil
  | _, _, n + 1, .cons _ t => RpA.drop n t
theorem RpK.length : ∀ {vs : List (Key × V)} {ds : List (List Nat × D)}, RpK K F vs ds → vs.length = ds.length
  | _, _, .nil => rfl
  | _, _, .cons _ _ t => congrArg (· + 1) (RpK.length t)
end

/-! ### the frozen part, growth -/
def Sub (F H : Hp) : Prop := ∀ a u, F a = some u → Rd H a u
structure Gd (F H F' H' : Hp) : Prop where
  ff : ∀ a u, F a = some u → F' a = some u
  hh : Same H H'
  sub : Sub F' H'
  nw : ∀ a, F' a ≠ none → F a ≠ none ∨ H a = none
section
variable {F H F1 H1 F2 H2 : Hp}
theorem Gd.refl (s : Sub F H) : Gd F H F H := ⟨fun _ _ h => h, Same.refl H, s, fun _ h => .inl h⟩
theorem Gd.trans (g : Gd F H F1 H1) (k : Gd F1 H1 F2 H2) : Gd F H F2 H2 :=
  ⟨fun a u h => k.ff a u (g.ff a u h), g.hh.trans k.hh, k.sub, fun a h => by
    rcases k.nw a h with q | q
    · exact g.nw a q
    · exact .inr (g.hh.free q)⟩
/-- a new object, frozen -/
theorem Gd.new {p : Addr} {o : HO} (s : Sub F H) (np : H p = none) : Gd F H (upd F p o) (upd H p o) := by
  refine ⟨fun a u h => ?_, fun b x e => ?_, fun a u h => ?_, fun a h => ?_⟩
  · have ne : a ≠ p := fun e => by
      subst e
      rcases s a u h with q | ⟨o', q⟩
      · rw [np] at q; cases q
      · rw [np] at q; cases q
    rw [upd_ne ne]; exact h
  · rw [upd_ne (ne_of_none e np)]; exact e
  · by_cases e : a = p
    · subst e; rw [upd_same] at h; cases h; exact .inl upd_same
    · rw [upd_ne e] at h
      rcases s a u h with q | ⟨o', q⟩
      · exact .inl (by rw [upd_ne e]; exact q)
      · exact .inr ⟨o', by rw [upd_ne e]; exact q⟩
  · by_cases e : a = p
    · subst e; exact .inr np
    · rw [upd_ne e] at h; exact .inl h
/-- a new object that is not frozen (owned or dropped) -/
theorem Gd.drop {p : Addr} {o : HO} (s : Sub F H) (np : H p = none) : Gd F H F (upd H p o) := by
  refine ⟨fun a u h => h, fun b x e => ?_, fun a u h => ?_, fun a h => .inl h⟩
  · rw [upd_ne (ne_of_none e np)]; exact e
  · rcases s a u h with q | ⟨o', q⟩
    · exact .inl (by rw [upd_ne (ne_of_none q np)]; exact q)
    · exact .inr ⟨o', by rw [upd_ne (ne_of_none q np)]; exact q⟩
end
theorem Sub.tup {K : PySem.W.Frag} {F H : Hp} {a : Addr} {vs : List V} (s : Sub F H) (h : Ts K F a vs) : SqT K H a vs := by
  rcases h with h | h
  · exact .inl (s _ _ h)
  · exact sqT_up h

/-! ### slots -/
/-- what an owned slot holds -/
inductive RpO (K : PySem.W.Frag) (F H : Hp) (a : Addr) : D → Prop
  | kd {ks : List (Option (List Nat))} : H a = some (.ext (kdH a ks)) → ks.length ≤ LIM → (∀ l, some l ∈ ks → okS l) → RpO K F H a (.kd ks)
  | lst {vs : List V} {ds : List D} : H a = some (.lst vs) → vs.length ≤ LIM → RpA K F vs ds → RpO K F H a (.lst ds)
  | dic {kvs : List (Key × V)} {ds : List (List Nat × D)} : H a = some (.dK kvs) → kvs.length ≤ LIM → RpK K F kvs ds → RpO K F H a (.dic ds)
theorem RpO.mono {K : PySem.W.Frag} {F H F' H' : Hp} {a : Addr} {d : D} (r : RpO K F H a d) (h : ∀ a u, F a = some u → F' a = some u) (e : ∀ o, H a = some o → H' a = some o) : RpO K F' H' a d := by
  cases r with
  | kd q z r => exact .kd (e _ q) z r
  | lst q z r => exact .lst (e _ q) z (r.mono h)
  | dic q z r => exact .dic (e _ q) z (r.mono h)
theorem RpO.there {K : PySem.W.Frag} {F H : Hp} {a : Addr} {d : D} (r : RpO K F H a d) : ∃ o, H a = some o := by
  cases r with
  | kd q z r => exact ⟨_, q⟩
  | lst q z r => exact ⟨_, q⟩
  | dic q z r => exact ⟨_, q⟩
structure SR (K : PySem.W.Frag) (H0 F0 F H : Hp) (σ : St) (env : En) : Prop where
  gd : Gd F0 H0 F H
  len : σ.length = env.length
  fz : ∀ i d, gt env i = some (.fz d) → ∃ v, σ[i]? = some (some v) ∧ Rp K F v d
  ow : ∀ i d, gt env i = some (.ow d) → ∃ a, σ[i]? = some (some (.ref a)) ∧ H0 a = none ∧ F a = none ∧ RpO K F H a d
  ap : ∀ i j d d' a, gt env i = some (.ow d) → gt env j = some (.ow d') → σ[i]? = some (some (.ref a)) → σ[j]? = some (some (.ref a)) → i = j
section
variable {K : PySem.W.Frag} {H0 F0 F H F1 H1 : Hp} {σ : St} {env : En}
theorem SR.grow (S : SR K H0 F0 F H σ env) (g : Gd F H F1 H1) : SR K H0 F0 F1 H1 σ env := by
  refine ⟨S.gd.trans g, S.len, fun i d e => ?_, fun i d e => ?_, S.ap⟩
  · obtain ⟨v, h1, h2⟩ := S.fz i d e
    exact ⟨v, h1, h2.mono g.ff⟩
  · obtain ⟨a, h1, h2, h3, h4⟩ := S.ow i d e
    refine ⟨a, h1, h2, ?_, h4.mono g.ff (fun o q => g.hh a o q)⟩
    cases q : F1 a with
    | none => rfl
    | some u =>
      rcases g.nw a (by rw [q]; simp) with z | z
      · exact absurd h3 z
      · obtain ⟨o, ho⟩ := h4.there
        rw [z] at ho; cases ho
theorem SR.sub (S : SR K H0 F0 F H σ env) : Sub F H := S.gd.sub
end

/-! ### results and readings -/
abbrev WS := String → St → Hp → Prop
def WF : WS := fun _ _ _ => False
def wx (ct : String → Addr) (W : WS) : WX := fun cls d σ H => ∃ c, cls = .ref (ct c) ∧ d = none ∧ W c σ H
def Got {α β : Type} (Rel : Hp → Hp → β → α → Prop) (W : WS) (F H : Hp) (σ : St) (Q : β → Hp → Prop) : Res α → Prop
  | .ok d => ∀ v F' H', Gd F H F' H' → Rel F' H' v d → Q v H'
  | .exc c => ∀ F' H', Gd F H F' H' → W c σ H'
  | .bad => False
def rd {α β : Type} (K : PySem.W.Frag) (Rel : Hp → Hp → β → α → Prop) (W : WS) (ev : En → Res α) : St → Hp → (β → Hp → Prop) → Prop :=
  fun σ H Q => ∃ H0 F0 F env, SR K H0 F0 F H σ env ∧ Got Rel W F H σ Q (ev env)
theorem Got.grow {α β : Type} {Rel : Hp → Hp → β → α → Prop} {W : WS} {F H F1 H1 : Hp} {σ : St} {Q : β → Hp → Prop} {r : Res α} (g : Gd F H F1 H1) (h : Got Rel W F H σ Q r) : Got Rel W F1 H1 σ Q r := by
  cases r with
  | ok d => exact fun v F' H' g' r => h v F' H' (g.trans g') r
  | exc c => exact fun F' H' g' => h F' H' (g.trans g')
  | bad => exact h
theorem seq {α β γ δ : Type} {Rel : Hp → Hp → β → α → Prop} {Rel2 : Hp → Hp → δ → γ → Prop} {W : WS} {K : PySem.W.Frag} {ev : En → Res α} {kk : α → Res γ} {Q : δ → Hp → Prop} {R : β → Hp → Prop}
    {H0 F0 F H : Hp} {σ : St} {env : En} (S : SR K H0 F0 F H σ env) (g : Got Rel2 W F H σ Q ((ev env).bind kk))
    (h : ∀ v d F1 H1, SR K H0 F0 F1 H1 σ env → Gd F H F1 H1 → Rel F1 H1 v d → Got Rel2 W F1 H1 σ Q (kk d) → R v H1) : rd K Rel W ev σ H R := by
  refine ⟨H0, F0, F, env, S, ?_⟩
  cases e : ev env with
  | ok d => rw [e] at g; exact fun v F1 H1 gd r => h v d F1 H1 (S.grow gd) gd r (Got.grow gd g)
  | exc c => rw [e] at g; exact g
  | bad => rw [e] at g; exact g.elim
abbrev RE (K : PySem.W.Frag) : Hp → Hp → V → D → Prop := fun F _ v d => Rp K F v d
abbrev RA (K : PySem.W.Frag) : Hp → Hp → List V → List D → Prop := fun F _ vs ds => RpA K F vs ds
abbrev RB : Hp → Hp → Bool → Bool → Prop := fun _ _ b c => b = c
/-- borrowed: frozen, or an owned slot's own -/
def RBo (K : PySem.W.Frag) : Hp → Hp → V → D → Prop := fun F H v d => Rp K F v d ∨ ∃ a, v = .ref a ∧ F a = none ∧ RpO K F H a d
theorem RBo.grow {K : PySem.W.Frag} {F H F1 H1 : Hp} {v : V} {d : D} (r : RBo K F H v d) (g : Gd F H F1 H1) : RBo K F1 H1 v d := by
  rcases r with r | ⟨a, e, n, r⟩
  · exact .inl (r.mono g.ff)
  · refine .inr ⟨a, e, ?_, r.mono g.ff (fun o q => g.hh a o q)⟩
    cases q : F1 a with
    | none => rfl
    | some u =>
      rcases g.nw a (by rw [q]; simp) with z | z
      · exact absurd n z
      · obtain ⟨o, ho⟩ := r.there
        rw [z] at ho; cases ho
/-- what an expression stands in -/
structure Cz (ct : String → Addr) (k : Nat) (X : Cx) (W : WS) : Prop where
  tk : Takes X (wx ct W)
  po : PassesOwn (model X.prog X.w) X.A X.env X.xe
  calm : X.calm = true
  nd : X.N.Nodup
  room : Room k X.A
def PEv (ct : String → Addr) (k : Nat) (X : Cx) (W : WS) (e : Expr) (ev : En → Res D) : Prop := Cz ct k X W → PE X e (rd X.K (RE X.K) W ev)
def PBv (ct : String → Addr) (k : Nat) (X : Cx) (W : WS) (e : Expr) (ev : En → Res D) : Prop := Cz ct k X W → PE X e (rd X.K (RBo X.K) W ev)
def PTv (ct : String → Addr) (k : Nat) (X : Cx) (W : WS) (e : Expr) (ev : En → Res Bool) : Prop := Cz ct k X W → PT X e (rd X.K RB W ev)
def PAv (ct : String → Addr) (k : Nat) (X : Cx) (W : WS) (es : List Expr) (ev : En → Res (List D)) : Prop := Cz ct k X W → PA X es (rd X.K (RA X.K) W ev)
theorem _root_.L2.PE.imp {X : Cx} {e : Expr} {t t' : TE} (h : PE X e t) (i : ∀ σ H Q, t' σ H Q → t σ H Q) : PE X e t' := ⟨fun pins s σ H Q I q => h.run pins s σ H Q I (i _ _ _ q)⟩
theorem _root_.L2.PT.imp {X : Cx} {e : Expr} {t t' : TT} (h : PT X e t) (i : ∀ σ H Q, t' σ H Q → t σ H Q) : PT X e t' := ⟨fun pins s σ H Q I q => h.run pins s σ H Q I (i _ _ _ q)⟩
theorem _root_.L2.PA.imp {X : Cx} {e : List Expr} {t t' : TA} (h : PA X e t) (i : ∀ σ H Q, t' σ H Q → t σ H Q) : PA X e t' := ⟨fun pos pins s σ H Q I q => h.run pos pins s σ H Q I (i _ _ _ q)⟩
theorem _root_.L2.PS.imp {X : Cx} {e : Stmt} {t t' : TS} (h : PS X e t) (i : ∀ D σ H, t' D σ H → t D σ H) : PS X e t' := ⟨fun pins s σ H Q I q => h.run pins s σ H Q I (i _ _ _ q)⟩
theorem _root_.L2.PSs.imp {X : Cx} {e : List Stmt} {t t' : TS} (h : PSs X e t) (i : ∀ D σ H, t' D σ H → t D σ H) : PSs X e t' := ⟨fun pins s σ H Q I q => h.run pins s σ H Q I (i _ _ _ q)⟩

section
variable {ct : String → Addr} {k : Nat} {X : Cx} {W : WS} {e a b c : Expr} {es : List Expr} {pos : Pos} {ev ea eb ec : Xv}
/-! ### names, constants -/
theorem e_var (i : Nat) {x : Str} (hN : X.N[i]? = some x := by rfl) (hv : Vis X.env.scope x := by first | exact Or.inl rfl | exact Or.inr (Or.inl rfl) | exact Or.inr (Or.inr rfl)) (hd : (x == ("__debug__" : Str)) = false := by decide)
    (hcd : (x == ("__classdict__" : Str)) = false := by decide) : PEv ct k X W (.Name x pos) (rdV i) := fun C => (pe_var hN hv hd hcd).imp fun σ H Q ⟨H0, F0, F, env, S, g⟩ => by
  unfold rdV at g
  cases q : gt env i with
  | none => rw [q] at g; exact g.elim
  | some s =>
    rw [q] at g
    cases s with
    | fz d =>
      obtain ⟨v, h1, h2⟩ := S.fz i d q
      exact ⟨v, h1, g v F H (.refl S.sub) h2⟩
    | ow d => exact g.elim
theorem b_var (i : Nat) {x : Str} (hN : X.N[i]? = some x := by rfl) (hv : Vis X.env.scope x := by first | exact Or.inl rfl | exact Or.inr (Or.inl rfl) | exact Or.inr (Or.inr rfl)) (hd : (x == ("__debug__" : Str)) = false := by decide)
    (hcd : (x == ("__classdict__" : Str)) = false := by decide) : PBv ct k X W (.Name x pos) (rdB i) := fun C => (pe_var hN hv hd hcd).imp fun σ H Q ⟨H0, F0, F, env, S, g⟩ => by
  unfold rdB at g
  cases q : gt env i with
  | none => rw [q] at g; exact g.elim
  | some s =>
    rw [q] at g
    cases s with
    | fz d =>
      obtain ⟨v, h1, h2⟩ := S.fz i d q
      exact ⟨v, h1, g v F H (.refl S.sub) (.inl h2)⟩
    | ow d =>
      obtain ⟨a, h1, h2, h3, h4⟩ := S.ow i d q
      exact ⟨_, h1, g _ F H (.refl S.sub) (.inr ⟨a, rfl, h3, h4⟩)⟩
theorem PEv.bo (h : PEv ct k X W e ev) : PBv ct k X W e ev := fun C => (h C).imp fun σ H Q ⟨H0, F0, F, env, S, g⟩ => ⟨H0, F0, F, env, S, by
  cases q : ev env with
  | ok d => rw [q] at g; exact fun v F' H' gd r => g v F' H' gd (.inl r)
  | exc c => rw [q] at g; exact g
  | bad => rw [q] at g; exact g⟩
theorem e_int {i j} : PEv ct k X W (.Constant (.int i) j pos) (xC (.int i)) := fun C => pe_int.imp fun σ H Q ⟨H0, F0, F, env, S, g⟩ => g _ F H (.refl S.sub) (.int i)
theorem e_bl {i j} : PEv ct k X W (.Constant (.bool i) j pos) (xC (.bl i)) := fun C => pe_bl.imp fun σ H Q ⟨H0, F0, F, env, S, g⟩ => g _ F H (.refl S.sub) (.bl i)
theorem e_non {j} : PEv ct k X W (.Constant .none j pos) (xC .non) := fun C => pe_non.imp fun σ H Q ⟨H0, F0, F, env, S, g⟩ => g _ F H (.refl S.sub) .non
theorem tx_of {x : Str} {l : List Nat} (h : x.cps.toList = l) : x = tx l := by
  cases x with
  | mk cps =>
    unfold tx
    congr 1
    subst h
    simp
theorem e_str (l : List Nat) {x : Str} {j} (h : x.cps.toList = l := by rfl) (hz : okS l := by decide) : PEv ct k X W (.Constant (.str x) j pos) (xC (.str l)) := fun C => pe_str.imp fun σ H Q ⟨H0, F0, F, env, S, g⟩ => by
  have e := tx_of h
  subst e
  exact g _ F H (.refl S.sub) (.str l hz)
/-- a constant of the module -/
theorem e_glob {x : Str} {v : V} {u : Value} {d : D} (hm : X.mg x = some u) (r : RelV v u) (hd : ∀ F, Rp X.K F v d) (hg : Gl X x := by rfl) (hdb : (x == ("__debug__" : Str)) = false := by decide) : PEv ct k X W (.Name x pos) (xC d) := fun C =>
  (pe_glob hg hm r hdb).imp fun σ H Q ⟨H0, F0, F, env, S, g⟩ => g v F H (.refl S.sub) (hd F)
theorem e_gint {x : Str} {i : Int} (hm : ∃ t, X.mg x = some (.int i t)) (hg : Gl X x := by rfl) (hdb : (x == ("__debug__" : Str)) = false := by decide) : PEv ct k X W (.Name x pos) (xC (.int i)) := by
  obtain ⟨t, hm⟩ := hm
  exact e_glob hm (v := .int i) ⟨t, rfl⟩ (fun F => .int i) hg hdb
theorem e_gstr {x : Str} {z : Str} (l : List Nat) (hm : ∃ t, X.mg x = some (.str z t)) (h : z.cps.toList = l := by rfl) (hz : okS l := by decide) (hg : Gl X x := by rfl) (hdb : (x == ("__debug__" : Str)) = false := by decide) : PEv ct k X W (.Name x pos) (xC (.str l)) := by
  obtain ⟨t, hm⟩ := hm
  have e := tx_of h
  subst e
  exact e_glob hm (v := .str (tx l)) ⟨t, rfl⟩ (fun F => .str l hz) hg hdb

/-! ### operations on values -/
/-- what r asks, from data, where f gives ok; r a two-place reading -/
def OpD (K : PySem.W.Frag) (r : R2) (f : D → D → Res D) : Prop :=
  ∀ F H x y d e (Q : VK), Sub F H → RBo K F H x d → RBo K F H y e → Got (RE K) WF F H [] Q (f d e) → r x y H Q
theorem got_wf {α β : Type} {Rel : Hp → Hp → β → α → Prop} {W : WS} {F H : Hp} {σ : St} {Q : β → Hp → Prop} {r : Res α} (h : Got Rel W F H σ Q r.calm) : Got Rel WF F H [] Q r := by
  cases r with
  | ok d => exact h
  | exc c => exact (show False from h).elim
  | bad => exact h
theorem e_op {op : Operator} {r : R2} {f : D → D → Res D} (hd : OpD X.K r f) (ho : OpR X (binaryOp op) r) (ha : PBv ct k X W a ea) (hb : PBv ct k X W b eb) :
    PEv ct k X W (.BinOp a op b pos) (xOp f ea eb) := fun C =>
  (pe_op ho (ha C) (hb C)).imp fun σ H Q ⟨H0, F0, F, env, S, g⟩ => seq S g fun x d F1 H1 S1 g1 rx q1 => seq S1 q1 fun y e F2 H2 S2 g2 ry q2 =>
    hd F2 H2 x y d e Q S2.sub (rx.grow g2) ry (got_wf q2)
theorem e_cmp {op : CmpOp} {r : R2} {f : D → D → Res D} (hd : OpD X.K r f) (ho : OpR X (compareOp op) r) (ha : PBv ct k X W a ea) (hb : PBv ct k X W b eb) (hm : behindInMarks op b = false := by first | exact nomark _ | with_unfolding_all rfl) :
    PEv ct k X W (.Compare a [op] [b] pos) (xOp f ea eb) := fun C =>
  (pe_cmpR ho (ha C) (hb C) hm).imp fun σ H Q ⟨H0, F0, F, env, S, g⟩ => seq S g fun x d F1 H1 S1 g1 rx q1 => seq S1 q1 fun y e F2 H2 S2 g2 ry q2 =>
    hd F2 H2 x y d e Q S2.sub (rx.grow g2) ry (got_wf q2)
theorem rp_bl {K : PySem.W.Frag} {F : Hp} {v : V} {b : Bool} (h : Rp K F v (.bl b)) : v = .bl b := by cases h; rfl
theorem t_of {v : V} {d : D} {F1 H1 : Hp} {σ : St} {Q : Bool → Hp → Prop} (s : Sub F1 H1) (r : Rp X.K F1 v d) (q : Got RB W F1 H1 σ Q (asB d)) : ∃ kk, v = .bl kk ∧ Q kk H1 := by
  cases d with
  | bl b => exact ⟨b, rp_bl r, q b F1 H1 (.refl s) rfl⟩
  | _ => exact q.elim
theorem t_cmp {op : CmpOp} {r : R2} {f : D → D → Res D} (hd : OpD X.K r f) (ho : OpR X (compareOp op) r) (ha : PBv ct k X W a ea) (hb : PBv ct k X W b eb) (hm : behindInMarks op b = false := by first | exact nomark _ | with_unfolding_all rfl) :
    PTv ct k X W (.Compare a [op] [b] pos) (tVal (xOp f ea eb)) := fun C =>
  (pt_cmpR ho (ha C) (hb C) hm).imp fun σ H Q ⟨H0, F0, F, env, S, g⟩ => by
    have g' : Got RB W F H σ Q ((ea env).bind fun x => (eb env).bind fun y => (f x y).calm.bind asB) := by
      have e : tVal (xOp f ea eb) env = ((ea env).bind fun x => (eb env).bind fun y => (f x y).calm.bind asB) := by
        unfold tVal xOp
        cases ea env with
        | ok x => cases eb env <;> rfl
        | exc c => rfl
        | bad => rfl
      rw [e] at g; exact g
    exact seq S g' fun x d F1 H1 S1 g1 rx q1 => seq S1 q1 fun y e F2 H2 S2 g2 ry q2 => by
      refine hd F2 H2 x y d e _ S2.sub (rx.grow g2) ry ?_
      cases z : f d e with
      | ok w' => rw [z] at q2; exact fun v F' H' g' r' => t_of g'.sub r' (W := W) (σ := σ) (Got.grow g' q2)
      | exc c => rw [z] at q2; exact (show False from q2).elim
      | bad => rw [z] at q2; exact (show False from q2).elim
/-- a value that is a bool, as a test -/
theorem t_val (h : PEv ct k X W e ev) (he : ∀ whole, isTrue e X.env whole = (do let v ← whole; standAt e.pos; holding [v] (truthy v)) := by intro _; rfl) : PTv ct k X W e (tVal ev) := fun C =>
  (pt_val (h C) he).imp fun σ H Q ⟨H0, F0, F, env, S, g⟩ => seq S g fun x d F1 H1 S1 g1 rx q1 => t_of S1.sub rx q1
variable {ta tb : En → Res Bool} {rest : List Expr}
theorem t_not (h : PTv ct k X W a ta) : PTv ct k X W (.UnaryOp .Not a pos) (tNt ta) := fun C =>
  (pt_not (h C)).imp fun σ H Q ⟨H0, F0, F, env, S, g⟩ => seq S g fun x d F1 H1 S1 g1 rx q1 => by
    cases rx
    exact q1 (!x) F1 H1 (.refl S1.sub) rfl
def PWv (ct : String → Addr) (k : Nat) (X : Cx) (W : WS) (e : Expr) (ev : En → Res Bool) : Prop := Cz ct k X W → PW X e (rd X.K RB W ev)
theorem _root_.L2.PW.imp {X : Cx} {e : Expr} {t t' : TT} (h : PW X e t) (i : ∀ σ H Q, t' σ H Q → t σ H Q) : PW X e t' := ⟨fun wh pins s σ H Q I q => h.run wh pins s σ H Q I (i _ _ _ q)⟩
theorem w_and1 (h : PTv ct k X W a ta) : PWv ct k X W (.BoolOp .And [a] pos) ta := fun C => pw_and1 (h C)
theorem w_or1 (h : PTv ct k X W a ta) : PWv ct k X W (.BoolOp .Or [a] pos) ta := fun C => pw_or1 (h C)
theorem w_and (ha : PTv ct k X W a ta) (hb : PWv ct k X W (.BoolOp .And (b :: rest) pos) tb) : PWv ct k X W (.BoolOp .And (a :: b :: rest) pos) (tAn ta tb) := fun C =>
  L2.PW.imp (pw_and (ha C) (hb C)) fun σ H Q ⟨H0, F0, F, env, S, g⟩ => seq S g fun x d F1 H1 S1 g1 rx q1 => by
    cases rx
    cases x with
    | true => exact ⟨H0, F0, F1, env, S1, q1⟩
    | false => exact q1 false F1 H1 (.refl S1.sub) rfl
theorem w_or (ha : PTv ct k X W a ta) (hb : PWv ct k X W (.BoolOp .Or (b :: rest) pos) tb) : PWv ct k X W (.BoolOp .Or (a :: b :: rest) pos) (tOr' ta tb) := fun C =>
  L2.PW.imp (pw_or (ha C) (hb C)) fun σ H Q ⟨H0, F0, F, env, S, g⟩ => seq S g fun x d F1 H1 S1 g1 rx q1 => by
    cases rx
    cases x with
    | true => exact q1 true F1 H1 (.refl S1.sub) rfl
    | false => exact ⟨H0, F0, F1, env, S1, q1⟩
theorem PWv.t (h : PWv ct k X W e ta) : PTv ct k X W e ta := fun C => (h C).pt
/-- and, or, not as values -/
theorem e_one {op} (h : PEv ct k X W a ea) : PEv ct k X W (.BoolOp op [a] pos) ea := fun C => pe_one (h C)
theorem e_and (ha : PEv ct k X W a ea) (hb : PEv ct k X W (.BoolOp .And (b :: rest) pos) eb) : PEv ct k X W (.BoolOp .And (a :: b :: rest) pos) (xAnd ea eb) := fun C =>
  (pe_and (ha C) (hb C)).imp fun σ H Q ⟨H0, F0, F, env, S, g⟩ => seq S g fun x d F1 H1 S1 g1 rx q1 => by
    cases d with
    | bl c =>
      refine ⟨c, rp_bl rx, ?_⟩
      cases c with
      | true => exact ⟨H0, F0, F1, env, S1, q1⟩
      | false => exact q1 _ F1 H1 (.refl S1.sub) (.bl false)
    | _ => exact q1.elim
theorem e_or (ha : PEv ct k X W a ea) (hb : PEv ct k X W (.BoolOp .Or (b :: rest) pos) eb) : PEv ct k X W (.BoolOp .Or (a :: b :: rest) pos) (xOr ea eb) := fun C =>
  (pe_or (ha C) (hb C)).imp fun σ H Q ⟨H0, F0, F, env, S, g⟩ => seq S g fun x d F1 H1 S1 g1 rx q1 => by
    cases d with
    | bl c =>
      refine ⟨c, rp_bl rx, ?_⟩
      cases c with
      | true => exact q1 _ F1 H1 (.refl S1.sub) (.bl true)
      | false => exact ⟨H0, F0, F1, env, S1, q1⟩
    | _ => exact q1.elim
theorem e_not (ha : PEv ct k X W a ea) : PEv ct k X W (.UnaryOp .Not a pos) (xNot ea) := fun C =>
  (pe_not (ha C)).imp fun σ H Q ⟨H0, F0, F, env, S, g⟩ => seq S g fun x d F1 H1 S1 g1 rx q1 => by
    cases d with
    | bl c => exact ⟨c, rp_bl rx, q1 _ F1 H1 (.refl S1.sub) (.bl _)⟩
    | _ => exact q1.elim
theorem e_if (hc : PTv ct k X W c ta) (ha : PEv ct k X W a ea) (hb : PEv ct k X W b eb) : PEv ct k X W (.IfExp c a b pos) (xIf ta ea eb) := fun C =>
  (pe_ifExp (hc C) (ha C) (hb C)).imp fun σ H Q ⟨H0, F0, F, env, S, g⟩ => seq S g fun x d F1 H1 S1 g1 rx q1 => by
    cases rx
    cases x with
    | true => exact ⟨H0, F0, F1, env, S1, q1⟩
    | false => exact ⟨H0, F0, F1, env, S1, q1⟩
/-! ### argument lists, displays -/
variable {aa : En → Res (List D)}
theorem a_nil : PAv ct k X W [] aNil := fun C => pa_nil.imp fun σ H Q ⟨H0, F0, F, env, S, g⟩ => g [] F H (.refl S.sub) .nil
theorem a_cons (ha : PEv ct k X W e ea) (hr : PAv ct k X W es aa) (hs : starEach (e :: es) X.env = (false, eval e X.env) :: starEach es X.env := by rfl) : PAv ct k X W (e :: es) (aCons ea aa) := fun C =>
  (pa_cons (ha C) (hr C) hs).imp fun σ H Q ⟨H0, F0, F, env, S, g⟩ => seq S g fun x d F1 H1 S1 g1 rx q1 => seq S1 q1 fun xs ds F2 H2 S2 g2 rxs q2 =>
    q2 (x :: xs) F2 H2 (.refl S2.sub) (.cons (Rp.mono g2.ff rx) rxs)
theorem e_tup {x1} (h : PAv ct k X W es aa) : PEv ct k X W (.Tuple es x1 pos) (xTup aa) := fun C =>
  (pe_tup (h C)).imp fun σ H Q ⟨H0, F0, F, env, S, g⟩ => seq S g fun vs ds F1 H1 S1 g1 r q1 => by
    by_cases z : ds.length ≤ LIM
    · rw [if_pos z] at q1
      have z' : vs.length ≤ LIM := by rw [r.length]; exact z
      refine ⟨by rw [lim]; exact z', fun p np => ?_⟩
      have gn := Gd.new (o := .tup vs) S1.sub np
      exact q1 _ _ _ gn (.tup (.inl upd_same) z' (RpA.mono gn.ff r))
    · rw [if_neg z] at q1; exact q1.elim
theorem e_lst (h : PAv ct k X W es aa) : PEv ct k X W (.List es pos) (xLst aa) := fun C =>
  (pe_lst (h C)).imp fun σ H Q ⟨H0, F0, F, env, S, g⟩ => seq S g fun vs ds F1 H1 S1 g1 r q1 => by
    by_cases z : ds.length ≤ LIM
    · rw [if_pos z] at q1
      have z' : vs.length ≤ LIM := by rw [r.length]; exact z
      refine ⟨by rw [lim]; exact z', fun p np => ?_⟩
      have gn := Gd.new (o := .lst vs) S1.sub np
      exact q1 _ _ _ gn (.lst upd_same z' (RpA.mono gn.ff r))
    · rw [if_neg z] at q1; exact q1.elim
end
end Pv

namespace Pv
variable [HasW]
open PySem PySem.Spec L2
/-! ### statements -/
def GotS (K : PySem.W.Frag) (W : WS) (H0 F0 : Hp) (Dn : Ends) : Fl → Prop
  | .nx env => ∀ σ F H, SR K H0 F0 F H σ env → Dn.nx σ H
  | .ret d => ∀ v F H, Gd F0 H0 F H → Rp K F v d → Dn.rt v H
  | .brk env => ∀ σ F H, SR K H0 F0 F H σ env → Dn.bk σ H
  | .cont env => ∀ σ F H, SR K H0 F0 F H σ env → Dn.ct σ H
  | .exc c env => ∀ σ F H, SR K H0 F0 F H σ env → W c σ H
  | .bad => False
def rs (K : PySem.W.Frag) (W : WS) (sv : Sv) : TS := fun Dn σ H => ∃ H0 F0 F env, SR K H0 F0 F H σ env ∧ GotS K W H0 F0 Dn (sv env)
def PSv (ct : String → Addr) (k : Nat) (X : Cx) (W : WS) (st : Stmt) (sv : Sv) : Prop := Cz ct k X W → PS X st (rs X.K W sv)
def PSsv (ct : String → Addr) (k : Nat) (X : Cx) (W : WS) (st : List Stmt) (sv : Sv) : Prop := Cz ct k X W → PSs X st (rs X.K W sv)
theorem sseq {α β : Type} {Rel : Hp → Hp → β → α → Prop} {W : WS} {K : PySem.W.Frag} {ev : En → Res α} {kk : α → Fl} {Dn : Ends} {R : β → Hp → Prop} {H0 F0 F H : Hp} {σ : St} {env : En} (S : SR K H0 F0 F H σ env)
    (g : GotS K W H0 F0 Dn ((ev env).fl env kk)) (h : ∀ v d F1 H1, SR K H0 F0 F1 H1 σ env → Gd F H F1 H1 → Rel F1 H1 v d → GotS K W H0 F0 Dn (kk d) → R v H1) : rd K Rel W ev σ H R := by
  refine ⟨H0, F0, F, env, S, ?_⟩
  cases e : ev env with
  | ok d => rw [e] at g; exact fun v F1 H1 gd r => h v d F1 H1 (S.grow gd) gd r g
  | exc c => rw [e] at g; exact fun F' H' gd => g σ F' H' (S.grow gd)
  | bad => rw [e] at g; exact g.elim
section
variable {ct : String → Addr} {k : Nat} {X : Cx} {W : WS} {e a b c : Expr} {es : List Expr} {pos : Pos} {ev ea eb ec : Xv} {st : Stmt} {rest : List Stmt} {s r : Sv}
theorem ss_nil : PSsv ct k X W [] sNil := fun C => pss_nil.imp fun Dn σ H ⟨H0, F0, F, env, S, g⟩ => g σ F H S
theorem ss_cons (h1 : PSv ct k X W st s) (h2 : PSsv ct k X W rest r) : PSsv ct k X W (st :: rest) (sSeq s r) := fun C => (pss_cons (h1 C) (h2 C)).imp fun Dn σ H ⟨H0, F0, F, env, S, g⟩ => by
  refine ⟨H0, F0, F, env, S, ?_⟩
  unfold sSeq at g
  cases q : s env with
  | nx env' => rw [q] at g; exact fun σ' F' H' S' => ⟨H0, F0, F', env', S', g⟩
  | ret d => rw [q] at g; exact g
  | brk env' => rw [q] at g; exact g
  | cont env' => rw [q] at g; exact g
  | exc c env' => rw [q] at g; exact g
  | bad => rw [q] at g; exact g
theorem ss_one (h1 : PSv ct k X W st s) : PSsv ct k X W [st] s := fun C => pss_one (h1 C)
theorem s_pass : PSv ct k X W (.Pass pos) sNil := fun C => ps_pass.imp fun Dn σ H ⟨H0, F0, F, env, S, g⟩ => g σ F H S
theorem s_brk : PSv ct k X W (.Break pos) sBrk := fun C => ps_break.imp fun Dn σ H ⟨H0, F0, F, env, S, g⟩ => g σ F H S
theorem s_cont : PSv ct k X W (.Continue pos) sCont := fun C => ps_continue.imp fun Dn σ H ⟨H0, F0, F, env, S, g⟩ => g σ F H S
theorem s_expr (h : PEv ct k X W e ev) (hs : swapsWith e none pos.line X.env = pure false := by rfl) : PSv ct k X W (.Expr e pos) (sExpr ev) := fun C =>
  (ps_expr (h C) hs).imp fun Dn σ H ⟨H0, F0, F, env, S, g⟩ => sseq S g fun v d F1 H1 S1 g1 rv q => q σ F1 H1 S1
theorem s_ret (h : PEv ct k X W e ev) : PSv ct k X W (.Return (some e) pos) (sRet ev) := fun C =>
  (ps_ret (h C)).imp fun Dn σ H ⟨H0, F0, F, env, S, g⟩ => sseq S g fun v d F1 H1 S1 g1 rv q => q v F1 H1 S1.gd rv
theorem s_if {x y : List Stmt} {t : Tv} (hc : PTv ct k X W c t) (h1 : PSsv ct k X W x s) (h2 : PSsv ct k X W y r) : PSv ct k X W (.If c x y pos) (sIf t s r) := fun C =>
  (ps_if (hc C) (h1 C) (h2 C)).imp fun Dn σ H ⟨H0, F0, F, env, S, g⟩ => sseq S g fun v d F1 H1 S1 g1 rv q => by
    cases rv
    cases v with
    | true => exact ⟨H0, F0, F1, env, S1, q⟩
    | false => exact ⟨H0, F0, F1, env, S1, q⟩
/-! ### targets -/
section
variable {K : PySem.W.Frag} {H0 F0 F H : Hp} {σ : St} {env : En}
theorem gt_pt (e : En) (i j : Nat) (s : Option Sl) (x : Sl) (h : gt (pt e i s) j = some x) : (i = j ∧ s = some x ∧ j < e.length) ∨ (i ≠ j ∧ gt e j = some x) := by
  by_cases q : i = j
  · subst q
    have l := gt_lt _ _ _ h
    rw [pt_len] at l
    rw [gt_pt_same _ _ _ l] at h
    exact .inl ⟨rfl, h, l⟩
  · rw [gt_pt_ne _ _ _ _ q] at h
    exact .inr ⟨q, h⟩
theorem SR.set (S : SR K H0 F0 F H σ env) {v : V} {d : D} (i : Nat) (r : Rp K F v d) : SR K H0 F0 F H (σ.set i (some v)) (pt env i (some (.fz d))) := by
  refine ⟨S.gd, by rw [List.length_set, pt_len]; exact S.len, fun j d' e => ?_, fun j d' e => ?_, fun j j' d1 d2 a e1 e2 h1 h2 => ?_⟩
  · rcases gt_pt _ _ _ _ _ e with ⟨rfl, e', l⟩ | ⟨ne, e'⟩
    · cases e'
      exact ⟨v, by rw [List.getElem?_set_self (by rw [S.len]; exact l)], r⟩
    · obtain ⟨w, h1, h2⟩ := S.fz j d' e'
      exact ⟨w, by rw [List.getElem?_set_ne ne]; exact h1, h2⟩
  · rcases gt_pt _ _ _ _ _ e with ⟨rfl, e', l⟩ | ⟨ne, e'⟩
    · cases e'
    · obtain ⟨w, h1, h2⟩ := S.ow j d' e'
      exact ⟨w, by rw [List.getElem?_set_ne ne]; exact h1, h2⟩
  · rcases gt_pt _ _ _ _ _ e1 with ⟨rfl, e', l⟩ | ⟨ne, e1'⟩
    · cases e'
    · rcases gt_pt _ _ _ _ _ e2 with ⟨rfl, e', l⟩ | ⟨ne2, e2'⟩
      · cases e'
      · rw [List.getElem?_set_ne ne] at h1
        rw [List.getElem?_set_ne ne2] at h2
        exact S.ap j j' d1 d2 a e1' e2' h1 h2
/-- a slot forgotten -/
theorem SR.unset (S : SR K H0 F0 F H σ env) (i : Nat) (o : Option V) : SR K H0 F0 F H (σ.set i o) (pt env i none) := by
  refine ⟨S.gd, by rw [List.length_set, pt_len]; exact S.len, fun j d' e => ?_, fun j d' e => ?_, fun j j' d1 d2 a e1 e2 h1 h2 => ?_⟩
  · rcases gt_pt _ _ _ _ _ e with ⟨rfl, e', l⟩ | ⟨ne, e'⟩
    · cases e'
    · obtain ⟨w, h1, h2⟩ := S.fz j d' e'
      exact ⟨w, by rw [List.getElem?_set_ne ne]; exact h1, h2⟩
  · rcases gt_pt _ _ _ _ _ e with ⟨rfl, e', l⟩ | ⟨ne, e'⟩
    · cases e'
    · obtain ⟨w, h1, h2⟩ := S.ow j d' e'
      exact ⟨w, by rw [List.getElem?_set_ne ne]; exact h1, h2⟩
  · rcases gt_pt _ _ _ _ _ e1 with ⟨rfl, e', l⟩ | ⟨ne, e1'⟩
    · cases e'
    · rcases gt_pt _ _ _ _ _ e2 with ⟨rfl, e', l⟩ | ⟨ne2, e2'⟩
      · cases e'
      · rw [List.getElem?_set_ne ne] at h1
        rw [List.getElem?_set_ne ne2] at h2
        exact S.ap j j' d1 d2 a e1' e2' h1 h2
theorem SR.wipe (S : SR K H0 F0 F H σ env) : ∀ vs : List Nat, SR K H0 F0 F H (wipe σ vs) (wipeE env vs)
  | [] => S
  | v :: vs => (SR.wipe S vs).unset v none
def gNs : List Nat → TGs
  | [] => gNil
  | i :: is => gCons (gName i) (gNs is)
def gT (K : PySem.W.Frag) : Tg → TG
  | .nm i => gName i
  | .tp is => gTup K is.length (gNs is)
def PGv (X : Cx) (tg : Expr) (T : Tg) : Prop := PG X tg (gT X.K T)
def ixs : Tg → List Nat
  | .nm i => [i]
  | .tp is => is
/-- the slots outside vs are as they were -/
def Out (vs : List Nat) (σ σ' : St) : Prop := wipe σ' vs = wipe σ vs
theorem wipe_set (σ : St) (i : Nat) (o : Option V) : ∀ vs : List Nat, i ∈ vs → L2.wipe (σ.set i o) vs = L2.wipe σ vs
  | [], h => absurd h (by simp)
  | v :: vs, h => by
    show (L2.wipe (σ.set i o) vs).set v none = (L2.wipe σ vs).set v none
    by_cases q : i ∈ vs
    · rw [wipe_set σ i o vs q]
    · have e : i = v := by rcases List.mem_cons.mp h with e | e; exact e; exact absurd e q
      subst e
      have key : ∀ ws : List Nat, i ∉ ws → L2.wipe (σ.set i o) ws = (L2.wipe σ ws).set i o := by
        intro ws
        induction ws with
        | nil => intro _; rfl
        | cons w ws ih =>
          intro hn
          have h1 : i ≠ w := fun e => hn (by simp [e])
          have h2 : i ∉ ws := fun e => hn (by simp [e])
          show (L2.wipe (σ.set i o) ws).set w none = ((L2.wipe σ ws).set w none).set i o
          rw [ih h2, List.set_comm _ _ h1]
      rw [key vs q, List.set_set]
theorem g_nms (own : List Nat) : ∀ (is : List Nat) (vs : List V) (ds : List D) (σ : St) (env env' : En) (Q : St → Hp → Prop), SR K H0 F0 F H σ env → RpA K F vs ds → ptAll is ds env = some env' → (∀ i ∈ is, i ∈ own) →
    (∀ σ', SR K H0 F0 F H σ' env' → L2.wipe σ' own = L2.wipe σ own → Q σ' H) → gNs is vs σ H Q
  | [], vs, ds, σ, env, env', Q, S, r, e, ho, h => by
    cases r with
    | nil =>
      have e' : env = env' := Option.some.inj e
      subst e'
      exact ⟨rfl, h σ S rfl⟩
    | cons r t => cases e
  | i :: is, vs, ds, σ, env, env', Q, S, r, e, ho, h => by
    cases r with
    | nil => cases e
    | cons r t =>
      exact ⟨_, _, rfl, g_nms own is _ _ _ _ env' Q (S.set i r) t e (fun j hj => ho j (List.mem_cons_of_mem _ hj)) fun σ' S' q => h σ' S' (q.trans (wipe_set σ i _ own (ho i List.mem_cons_self)))⟩
theorem g_run {T : Tg} {v : V} {d : D} {env' : En} {Q : St → Hp → Prop} (own : List Nat) (ho : ∀ i ∈ ixs T, i ∈ own) (S : SR K H0 F0 F H σ env) (r : Rp K F v d) (e : stT T d env = some env')
    (h : ∀ σ', SR K H0 F0 F H σ' env' → L2.wipe σ' own = L2.wipe σ own → Q σ' H) : gT K T v σ H Q := by
  cases T with
  | nm i =>
    have e' : pt env i (some (.fz d)) = env' := Option.some.inj e
    subst e'
    exact h _ (S.set i r) (wipe_set σ i _ own (ho i List.mem_cons_self))
  | tp is =>
    cases r with
    | tup q z r =>
      have l : ∀ (is : List Nat) (ds : List D) (env : En), ptAll is ds env = some env' → is.length = ds.length := by
        intro is
        induction is with
        | nil => intro ds env e; cases ds with | nil => rfl | cons _ _ => cases e
        | cons i is ih => intro ds env e; cases ds with | nil => cases e | cons d ds => exact congrArg (· + 1) (ih ds _ e)
      exact ⟨_, _, rfl, S.sub.tup q, r.length.trans (l _ _ _ e).symm, g_nms own is _ _ σ env env' Q S r e ho h⟩
    | _ => cases e
theorem g_nm (i : Nat) {x : Str} (hN : X.N.Nodup) (hi : X.N[i]? = some x := by rfl) (hx : Loc X.env.scope x := by first | exact Or.inl rfl | exact Or.inr rfl) (hf : X.fn x = true ∨ X.env.scope.names.lookup x = some .local := by first | exact .inl rfl | exact .inr rfl) : PGv X (.Name x pos) (.nm i) := pg_name hN hi hx hf
def PGsv (X : Cx) (ts : List Expr) (is : List Nat) : Prop := PGs X ts (gNs is)
theorem gs_nil : PGsv X [] [] := pgs_nil
theorem gs_cons {i : Nat} {is : List Nat} (h1 : PGv X e (.nm i)) (h2 : PGsv X es is) (hs : (assignEach (e :: es) X.env).map (·.2) = assign e X.env :: (assignEach es X.env).map (·.2) := by rfl) : PGsv X (e :: es) (i :: is) := pgs_cons h1 h2 hs
theorem g_tp {is : List Nat} {kk : Nat} (hc : X.calm = true) (h : PGsv X es is) (hn : (assignEach es X.env).length = is.length := by rfl) (hst : (assignEach es X.env).findIdx? (·.1) = none := by rfl) : PGv X (.Tuple es kk pos) (.tp is) := pg_tup hc h hn hst
end
/-- target = e -/
theorem s_asg {tg : Expr} {T : Tg} (h : PEv ct k X W e ev) (hg : X.N.Nodup → X.calm = true → PGv X tg T) (hs : swapsWithSole [tg] e pos.line X.env = pure false := by rfl) (hw : swappedStores [tg] e X.env = pure none := by rfl)
    (h1 : (assignEach [tg] X.env).map (·.2) = [assign tg X.env] := by rfl) : PSv ct k X W (.Assign [tg] e pos) (sAsg T ev) := fun C =>
  (ps_asg (h C) (hg C.nd C.calm) hs hw h1).imp fun Dn σ H ⟨H0, F0, F, env, S, g⟩ => sseq S g fun v d F1 H1 S1 g1 rv q => by
    cases z : stT T d env with
    | none => rw [z] at q; exact q.elim
    | some env' =>
      rw [z] at q
      exact g_run (ixs T) (fun i h => h) S1 rv z fun σ' S' _ => q σ' F1 H1 S'
/-! ### the loop's own ground -/
open Classical in
noncomputable def bse (env : En) (σ : St) (H : Hp) : Hp := fun b => if (∃ i d, gt env i = some (.ow d) ∧ σ[i]? = some (some (.ref b))) then none else H b
section
variable {K : PySem.W.Frag} {H0 F0 F H F1 H1 : Hp} {σ σ1 : St} {env env1 : En}
theorem bse_some {b : Addr} {o : HO} (h : bse env σ H b = some o) : H b = some o := by
  unfold bse at h
  split at h
  · cases h
  · exact h
theorem SR.rebase (S : SR K H0 F0 F H σ env) : SR K (bse env σ H) F F H σ env := by
  refine ⟨⟨fun _ _ h => h, fun b o h => bse_some h, S.sub, fun a h => .inl h⟩, S.len, S.fz, fun i d e => ?_, S.ap⟩
  obtain ⟨a, h1, h2, h3, h4⟩ := S.ow i d e
  refine ⟨a, h1, ?_, h3, h4⟩
  unfold bse
  rw [if_pos ⟨i, d, e, h1⟩]
theorem bse_none (S : SR K H0 F0 F H σ env) {a : Addr} (h : bse env σ H a = none) : H0 a = none := by
  unfold bse at h
  split at h
  · rename_i q
    obtain ⟨i, d, e, h1⟩ := q
    obtain ⟨a', h1', h2, _⟩ := S.ow i d e
    rw [h1] at h1'
    cases h1'
    exact h2
  · exact S.gd.hh.free h
theorem Gd.unbase (S : SR K H0 F0 F H σ env) (g : Gd F (bse env σ H) F1 H1) : Gd F0 H0 F1 H1 := by
  refine ⟨fun a u h => g.ff a u (S.gd.ff a u h), fun b o h => ?_, g.sub, fun a h => ?_⟩
  · refine g.hh b o ?_
    unfold bse
    rw [if_neg]
    · exact S.gd.hh b o h
    · rintro ⟨i, d, e, h1⟩
      obtain ⟨a', h1', h2, _⟩ := S.ow i d e
      rw [h1] at h1'
      cases h1'
      rw [h] at h2; cases h2
  · rcases g.nw a h with q | q
    · exact S.gd.nw a q
    · exact .inr (bse_none S q)
theorem SR.unbase (S : SR K H0 F0 F H σ env) (S1 : SR K (bse env σ H) F F1 H1 σ1 env1) : SR K H0 F0 F1 H1 σ1 env1 :=
  ⟨Gd.unbase S S1.gd, S1.len, S1.fz, fun i d e => let ⟨a, h1, h2, h3, h4⟩ := S1.ow i d e; ⟨a, h1, bse_none S h2, h3, h4⟩, S1.ap⟩
end
/-! ### walks -/
structure WalkD (K : PySem.W.Frag) (F : Hp) (L : Hp → Prop) (J : It) (ds : List D) : Prop where
  go : ∀ i H F', i < ds.length → (∀ a u, F a = some u → F' a = some u) → Sub F' H → L H → J.go i H
  stop : ∀ H F', (∀ a u, F a = some u → F' a = some u) → Sub F' H → L H → J.stop ds.length H
  yld : ∀ i H F' x H', i < ds.length → (∀ a u, F a = some u → F' a = some u) → Sub F' H → L H → J.yld i H x H' → ∃ F'', Gd F' H F'' H' ∧ ∃ d, ds[i]? = some d ∧ Rp K F'' x d
def NoL : Hp → Prop := fun _ => True
/-- a walk of frozen things; one that may be of an owned slot's -/
def RF (K : PySem.W.Frag) : Hp → Hp → It → List D → Prop := fun F _ J ds => WalkD K F NoL J ds ∧ ds.length ≤ LIM
def RW (K : PySem.W.Frag) : Hp → Hp → It → List D → Prop := fun F H J ds => ∃ L : Hp → Prop, WalkD K F L J ds ∧ L H ∧ (∀ H H', L H → Same H H' → L H') ∧ ds.length ≤ LIM
def PFv (ct : String → Addr) (k : Nat) (X : Cx) (W : WS) (tg iter : Expr) (iv : Av) : Prop := Cz ct k X W → PI X tg iter (rd X.K (RF X.K) W iv)
def PWkv (ct : String → Addr) (k : Nat) (X : Cx) (W : WS) (tg iter : Expr) (iv : Av) : Prop := Cz ct k X W → PI X tg iter (rd X.K (RW X.K) W iv)
theorem _root_.L2.PI.imp {X : Cx} {tg iter : Expr} {t t' : TI} (h : PI X tg iter t) (i : ∀ σ H Q, t' σ H Q → t σ H Q) : PI X tg iter t' := ⟨fun pins s σ H R I q => h.run pins s σ H R I (i _ _ _ q)⟩
theorem _root_.L2.PI.or {X : Cx} {tg iter : Expr} {t t' : TI} (h : PI X tg iter t) (h' : PI X tg iter t') : PI X tg iter (fun σ H R => t σ H R ∨ t' σ H R) := ⟨fun pins s σ H R I q => q.elim (h.run pins s σ H R I) (h'.run pins s σ H R I)⟩
theorem PFv.w {tg iter : Expr} {iv : Av} (h : PFv ct k X W tg iter iv) : PWkv ct k X W tg iter iv := fun C => (h C).imp fun σ H Q ⟨H0, F0, F, env, S, g⟩ => ⟨H0, F0, F, env, S, by
  cases q : iv env with
  | ok d => rw [q] at g; exact fun v F' H' gd r => g v F' H' gd ⟨NoL, r.1, trivial, fun _ _ _ _ => trivial, r.2⟩
  | exc c => rw [q] at g; exact g
  | bad => rw [q] at g; exact g⟩
/-- for T in iter: body -/
theorem s_for {tg iter : Expr} {body : List Stmt} {T : Tg} {iv : Av} {bv : Sv} (hi : PFv ct k X W tg iter iv) (hg : X.N.Nodup → X.calm = true → PGv X tg T) (hb : PSsv ct k X W body bv)
    (hs : ∀ x, foldedSetIterable iter X.env x = pure x := by intro _; rfl) : PSv ct k X W (.For tg iter body [] pos) (sFor T iv bv) := fun C =>
  (ps_for C.po C.calm (hi C) (hg C.nd C.calm) (hb C) hs).imp fun Dn σ H ⟨H0, F0, F, env, S, g⟩ => sseq S g fun J ds F1 H1 S1 g1 rJ q => by
    obtain ⟨wk, hz⟩ := rJ
    refine ⟨fun i m σ' H' => m = ds.length - i ∧ i ≤ ds.length ∧ ∃ F' env', SR X.K (bse env σ H1) F1 F' H' σ' env' ∧ GotS X.K W H0 F0 Dn (forD T bv (ds.drop i) env'),
      ⟨ds.length, by omega, Nat.zero_le _, F1, env, S1.rebase, q⟩, ?_⟩
    rintro i m σ' H' ⟨rfl, hi, F', env', S', q'⟩
    by_cases hlt : i < ds.length
    · refine .inr ⟨wk.go i H' F' hlt S'.gd.ff S'.sub trivial, fun σ2 H2 => ∃ F2 env2, SR X.K (bse env σ H1) F1 F2 H2 σ2 env2 ∧ GotS X.K W H0 F0 Dn (forD T bv (ds.drop (i + 1)) env2),
        fun σ2 H2 ⟨F2, env2, S2, q2⟩ => ⟨ds.length - (i + 1), by omega, rfl, hlt, F2, env2, S2, q2⟩, fun x H2 hy => ?_⟩
      obtain ⟨F2, gd2, d, hd, rx⟩ := wk.yld i H' F' x H2 hlt S'.gd.ff S'.sub trivial hy
      have hdr : ds.drop i = d :: ds.drop (i + 1) := by
        rw [List.drop_eq_getElem_cons hlt]
        congr 1
        rw [List.getElem?_eq_getElem hlt] at hd
        exact Option.some.inj hd
      rw [hdr] at q'
      unfold forD at q'
      cases z : stT T d env' with
      | none => rw [z] at q'; exact q'.elim
      | some env2 =>
        rw [z] at q'
        refine g_run (ixs T) (fun i h => h) (S'.grow gd2) rx z fun σ2 S2 _ => ⟨bse env σ H1, F1, F2, env2, S2, ?_⟩
        dsimp only at q'
        cases y : bv env2 with
        | nx e => rw [y] at q'; exact fun σ3 F3 H3 S3 => ⟨F3, e, S3, q'⟩
        | cont e => rw [y] at q'; exact fun σ3 F3 H3 S3 => ⟨F3, e, S3, q'⟩
        | brk e => rw [y] at q'; exact fun σ3 F3 H3 S3 => q' σ3 F3 H3 (S1.unbase S3)
        | ret d => rw [y] at q'; exact fun v F3 H3 g3 r3 => q' v F3 H3 (Gd.unbase S1 g3) r3
        | exc c e => rw [y] at q'; exact fun σ3 F3 H3 S3 => q' σ3 F3 H3 (S1.unbase S3)
        | bad => rw [y] at q'; exact q'.elim
    · have e : i = ds.length := by omega
      subst e
      rw [List.drop_length] at q'
      exact .inl ⟨wk.stop H' F' S'.gd.ff S'.sub trivial, q' σ' F' H' (S1.unbase S')⟩
/-- while -/
theorem s_wh {body : List Stmt} {t : Tv} {bv : Sv} (fu : En → Nat) (hc : PTv ct k X W c t) (hb : PSsv ct k X W body bv) : PSv ct k X W (.While c body [] pos) (sWh fu t bv) := fun C =>
  (ps_while C.po (hc C) (hb C)).imp fun Dn σ H ⟨H0, F0, F, env, S, g⟩ => by
    refine ⟨fun m σ' H' => ∃ F' env', SR X.K H0 F0 F' H' σ' env' ∧ GotS X.K W H0 F0 Dn (whD t bv m env'), ⟨fu env, F, env, S, g⟩, ?_⟩
    rintro m σ' H' ⟨F', env', S', q⟩
    cases m with
    | zero => exact q.elim
    | succ n =>
      unfold whD at q
      refine sseq S' q fun v d F1 H1 S1 g1 rv q1 => ?_
      cases rv
      cases v with
      | false => exact q1 σ' F1 H1 S1
      | true =>
        refine ⟨fun σ2 H2 => ∃ F2 env2, SR X.K H0 F0 F2 H2 σ2 env2 ∧ GotS X.K W H0 F0 Dn (whD t bv n env2), fun σ2 H2 ⟨F2, env2, S2, q2⟩ => ⟨n, Nat.lt_succ_self n, F2, env2, S2, q2⟩, ⟨H0, F0, F1, env', S1, ?_⟩⟩
        simp only [if_true] at q1
        cases y : bv env' with
        | nx e => rw [y] at q1; exact fun σ3 F3 H3 S3 => ⟨F3, e, S3, q1⟩
        | cont e => rw [y] at q1; exact fun σ3 F3 H3 S3 => ⟨F3, e, S3, q1⟩
        | brk e => rw [y] at q1; exact fun σ3 F3 H3 S3 => q1 σ3 F3 H3 S3
        | ret d => rw [y] at q1; exact fun v F3 H3 g3 r3 => q1 v F3 H3 g3 r3
        | exc c e => rw [y] at q1; exact fun σ3 F3 H3 S3 => q1 σ3 F3 H3 S3
        | bad => rw [y] at q1; exact q1.elim
/-! ### comprehensions -/
def PTsv (ct : String → Addr) (k : Nat) (X : Cx) (W : WS) (ifs : List Expr) (t : Tv) : Prop := Cz ct k X W → PTs X ifs (rd X.K RB W t)
theorem _root_.L2.PTs.imp {X : Cx} {e : List Expr} {t t' : TT} (h : PTs X e t) (i : ∀ σ H Q, t' σ H Q → t σ H Q) : PTs X e t' := ⟨fun pins s σ H Q I q => h.run pins s σ H Q I (i _ _ _ q)⟩
theorem ts_nil : PTsv ct k X W [] tYs := fun C => pts_nil.imp fun σ H Q ⟨H0, F0, F, env, S, g⟩ => g true F H (.refl S.sub) rfl
theorem ts_one {t : Tv} (h : PTv ct k X W e t) : PTsv ct k X W [e] t := fun C => pts_one (h C)
theorem Cz.blk {s : Shared} {H : Hp} {scope : Scope} {ce : Env} {fp : List Addr} (C : Cz ct k X W) : Cz ct k (X.blk s H scope ce fp) WF :=
  ⟨fun _ _ x => by
    obtain ⟨_, _, _, _, _, _, _, _, _, _, _, _, _, _, _, _, z⟩ := x
    obtain ⟨_, _, _, z⟩ := z
    exact z.elim, PassesOwn.never, C.calm, C.nd, C.room⟩
theorem lc_read {K : PySem.W.Frag} {T : Tg} {own : List Nat} {tv : Tv} {ee : Xv} {σ : St} {env : En} {H0 F0 F1 H1 : Hp} {ds : List D} {J : It} {Q : VK} (ho : ∀ i ∈ ixs T, i ∈ own) (S1 : SR K H0 F0 F1 H1 σ env) (rJ : RW K F1 H1 J ds)
    (q : Got (RE K) W F1 H1 σ Q ((lcD T tv ee (wipeE env own) ds).bind fun r => .ok (.lst r))) :
    ∀ A, H1 A = none → ∃ Wv : Nat → Nat → Hp → Prop, (∃ m, Wv 0 m (upd H1 A (.lst []))) ∧ ∀ i m H, Wv i m H → (J.stop i H ∧ Q (.ref A) H) ∨ (J.go i H ∧ ∃ Nx : Hp → Prop, (∀ H', Nx H' → ∃ m', m' < m ∧ Wv (i + 1) m' H') ∧
      ∀ x H', J.yld i H x H' → gT K T x (L2.wipe σ own) H' fun σ2 H2 => L2.wipe σ2 own = L2.wipe σ own ∧ rd K RB WF tv σ2 H2 fun b H3 =>
        if b = true then rd K (RE K) WF ee σ2 H3 fun y H4 => ∃ acc, H4 A = some (.lst acc) ∧ acc.length < sizeLine ∧ Nx (upd H4 A (.lst (acc ++ [y]))) else Nx H3) := by
  obtain ⟨L, wk, l1, ls, hz⟩ := rJ
  intro A nA
  refine ⟨fun i m H => m = ds.length - i ∧ i ≤ ds.length ∧ ∃ Fc accV accD, Gd F1 H1 Fc H ∧ H A = some (.lst accV) ∧ Fc A = none ∧ accV.length ≤ i ∧ RpA K Fc accV accD ∧
      ∃ r, lcD T tv ee (wipeE env own) (ds.drop i) = .ok r ∧ lcD T tv ee (wipeE env own) ds = .ok (accD ++ r), ?_, ?_⟩
  · cases z : lcD T tv ee (wipeE env own) ds with
    | ok r =>
      refine ⟨ds.length, by omega, Nat.zero_le _, F1, [], [], Gd.drop S1.sub nA, upd_same, ?_, Nat.zero_le _, .nil, r, by rw [List.drop_zero]; exact z, rfl⟩
      cases y : F1 A with
      | none => rfl
      | some u =>
        rcases S1.sub A u y with e | ⟨_, e⟩ <;> (rw [nA] at e; cases e)
    | exc c =>
      exfalso
      have key : ∀ (l : List D), lcD T tv ee (wipeE env own) l ≠ .exc c := by
        intro l
        induction l with
        | nil => intro h; cases h
        | cons x xs ih =>
          intro h
          unfold lcD at h
          cases y : stT T x (wipeE env own) with
          | none => rw [y] at h; cases h
          | some env2 =>
            rw [y] at h
            dsimp only at h
            cases t1 : tv env2 with
            | ok b =>
              rw [t1] at h
              cases b with
              | true =>
                cases t2 : ee env2 with
                | ok y =>
                  rw [t2] at h
                  cases w : lcD T tv ee (wipeE env own) xs with
                  | ok r => rw [w] at h; cases h
                  | exc c' => rw [w] at h; cases h; exact ih w
                  | bad => rw [w] at h; cases h
                | exc c => rw [t2] at h; cases h
                | bad => rw [t2] at h; cases h
              | false => exact ih h
            | exc c => rw [t1] at h; cases h
            | bad => rw [t1] at h; cases h
      exact key _ z
    | bad => rw [z] at q; exact q.elim
  · rintro i m H ⟨rfl, hi, Fc, accV, accD, gc, hA, fA, hl, ra, r, e1, e2⟩
    have Lh : L H := ls _ _ l1 gc.hh
    have Sc : SR K H0 F0 Fc H σ env := S1.grow gc
    by_cases hlt : i < ds.length
    · refine .inr ⟨wk.go i H Fc hlt gc.ff gc.sub Lh, fun H' => i + 1 ≤ ds.length ∧ ∃ Fc accV accD, Gd F1 H1 Fc H' ∧ H' A = some (.lst accV) ∧ Fc A = none ∧ accV.length ≤ i + 1 ∧ RpA K Fc accV accD ∧
        ∃ r, lcD T tv ee (wipeE env own) (ds.drop (i + 1)) = .ok r ∧ lcD T tv ee (wipeE env own) ds = .ok (accD ++ r), fun H' ⟨h1, h2⟩ => ⟨ds.length - (i + 1), by omega, rfl, h1, h2⟩, fun x H2 hy => ?_⟩
      obtain ⟨F2, gd2, d, hd, rx⟩ := wk.yld i H Fc x H2 hlt gc.ff gc.sub Lh hy
      have hdr : ds.drop i = d :: ds.drop (i + 1) := by
        rw [List.drop_eq_getElem_cons hlt]
        congr 1
        rw [List.getElem?_eq_getElem hlt] at hd
        exact Option.some.inj hd
      rw [hdr] at e1
      unfold lcD at e1
      have noneA : ∀ {F' H' F'' H'' : Hp}, Gd F' H' F'' H'' → H' A = some (.lst accV) → F' A = none → F'' A = none ∧ H'' A = some (.lst accV) := fun {F' H' F'' H''} g h f => by
        refine ⟨?_, g.hh _ _ h⟩
        cases y : F'' A with
        | none => rfl
        | some u =>
          rcases g.nw A (by rw [y]; simp) with z | z
          · exact absurd f z
          · rw [h] at z; cases z
      obtain ⟨f2, h2⟩ := noneA gd2 hA fA
      cases z : stT T d (wipeE env own) with
      | none => rw [z] at e1; cases e1
      | some env2 =>
        rw [z] at e1
        dsimp only at e1
        have S2 : SR K H0 F0 F2 H2 (L2.wipe σ own) (wipeE env own) := (Sc.grow gd2).wipe own
        refine g_run own ho S2 rx z fun σ2 S3 hw => ⟨?_, H0, F0, F2, env2, S3, ?_⟩
        · rw [hw]
          have idem : ∀ (vs ws : List Nat), (∀ v ∈ vs, v ∈ ws) → L2.wipe (L2.wipe σ vs) ws = L2.wipe σ ws := by
            intro vs
            induction vs with
            | nil => intro ws _; rfl
            | cons v vs ih =>
              intro ws h
              show L2.wipe ((L2.wipe σ vs).set v none) ws = _
              rw [wipe_set _ v none ws (h v List.mem_cons_self), ih ws fun u hu => h u (List.mem_cons_of_mem _ hu)]
          exact idem own own fun v h => h
        · cases y : tv env2 with
          | ok b =>
            rw [y] at e1
            intro b' F4 H4 g4 eb
            have eb' : b' = b := eb
            subst eb'
            obtain ⟨f4, h4⟩ := noneA g4 h2 f2
            cases b' with
            | false =>
              show i + 1 ≤ ds.length ∧ _
              exact ⟨hlt, F4, accV, accD, (gc.trans gd2).trans g4, h4, f4, by omega, ra.mono fun a u h => g4.ff a u (gd2.ff a u h), r, e1, e2⟩
            | true =>
              refine ⟨H0, F0, F4, env2, S3.grow g4, ?_⟩
              cases w : ee env2 with
              | ok y' =>
                rw [w] at e1
                intro yv F5 H5 g5 ry
                obtain ⟨f5, h5⟩ := noneA g5 h4 f4
                have hlen : accV.length < sizeLine := by rw [lim]; omega
                cases v : lcD T tv ee (wipeE env own) (ds.drop (i + 1)) with
                | ok r' =>
                  have e1' : Res.ok (y' :: r') = Res.ok r := by
                    have := e1
                    simp only [Res.calm, Res.bind, v] at this
                    exact this
                  have e3 : r = y' :: r' := by cases e1'; rfl
                  subst e3
                  refine ⟨accV, h5, hlen, hlt, F5, accV ++ [yv], accD ++ [y'], ?_, upd_same, f5, by simp; omega, ?_, r', rfl, by rw [e2]; simp⟩
                  · have g15 := ((gc.trans gd2).trans g4).trans g5
                    refine ⟨g15.ff, fun b o h => ?_, fun a u h => ?_, g15.nw⟩
                    · have ne : b ≠ A := fun e => by subst e; rw [nA] at h; cases h
                      rw [upd_ne ne]; exact g15.hh b o h
                    · have ne : a ≠ A := fun e => by subst e; rw [f5] at h; cases h
                      rcases g15.sub a u h with z | ⟨o, z⟩
                      · exact .inl (by rw [upd_ne ne]; exact z)
                      · exact .inr ⟨o, by rw [upd_ne ne]; exact z⟩
                  · exact (ra.mono fun a u h => g5.ff a u (g4.ff a u (gd2.ff a u h))).append (.cons ry .nil)
                | exc c =>
                  exfalso
                  simp only [Res.calm, Res.bind, v] at e1
                  cases e1
                | bad =>
                  exfalso
                  simp only [Res.calm, Res.bind, v] at e1
                  cases e1
              | exc c => rw [w] at e1; simp only [Res.calm, Res.bind] at e1; cases e1
              | bad => rw [w] at e1; simp only [Res.calm, Res.bind] at e1; cases e1
          | exc c => rw [y] at e1; cases e1
          | bad => rw [y] at e1; cases e1
    · have e : i = ds.length := by omega
      subst e
      rw [List.drop_length] at e1
      have er : r = [] := by
        have e' : Res.ok [] = Res.ok r := e1
        cases e'; rfl
      subst er
      rw [List.append_nil] at e2
      rw [e2] at q
      refine .inl ⟨wk.stop H Fc gc.ff gc.sub Lh, ?_⟩
      have gf : Gd F1 H1 (upd Fc A (.lst accV)) H := by
        refine ⟨fun a u h => ?_, gc.hh, fun a u h => ?_, fun a h => ?_⟩
        · have h' := gc.ff a u h
          have ne : a ≠ A := fun e => by subst e; rw [fA] at h'; cases h'
          rw [upd_ne ne]; exact h'
        · by_cases e : a = A
          · subst e; rw [upd_same] at h; cases h; exact .inl hA
          · rw [upd_ne e] at h; exact gc.sub a u h
        · by_cases e : a = A
          · subst e; exact .inr nA
          · rw [upd_ne e] at h; exact gc.nw a h
      refine q _ _ _ gf (.lst upd_same (by omega) (ra.mono fun a u h => ?_))
      have ne : a ≠ A := fun e => by subst e; rw [fA] at h; cases h
      rw [upd_ne ne]; exact h
/-- [elt for tg in iter if ..] -/
theorem e_lc {elt tg iter : Expr} {ifs : List Expr} {scope : Scope} {own : List (Str × Nat)} {T : Tg} {iv : Av} {tv : Tv} {ee : Xv} (hi : PWkv ct k X W tg iter iv) (ok : blkC X.N X.env.scope scope own = true) (ho : ∀ i ∈ ixs T, i ∈ own.map (·.2))
    (hg : ∀ (s : Shared) (H : Hp) (A : Addr) (cl : List (Str × Addr)) (fp : List Addr), X.N.Nodup → X.calm = true → PGv (X.blk s H scope (compEnvC scope cl A X.env) fp) tg T)
    (ht : ∀ (s : Shared) (H : Hp) (A : Addr) (cl : List (Str × Addr)) (fp : List Addr), PTsv ct k (X.blk s H scope (compEnvC scope cl A X.env) fp) WF ifs tv)
    (he : ∀ (s : Shared) (H : Hp) (A : Addr) (cl : List (Str × Addr)) (fp : List Addr), PEv ct k (X.blk s H scope (compEnvC scope cl A X.env) fp) WF elt ee) (hs : ∀ x, foldedSetIterable iter X.env x = pure x := by intro _; rfl) :
    PEv ct k X W (.ListComp elt [⟨tg, iter, ifs, 0⟩] scope pos) (xLc T (own.map (·.2)) iv tv ee) := fun C =>
  (pe_lc (g := gT X.K T) (tt := rd X.K RB WF tv) (te := rd X.K (RE X.K) WF ee) C.calm C.nd (hi C) (blkOk_by ok) (fun s H A cl fp => hg s H A cl fp C.nd C.calm) (fun s H A cl fp => ht s H A cl fp C.blk) (fun s H A cl fp => he s H A cl fp C.blk) hs).imp fun σ H Q ⟨H0, F0, F, env, S, g⟩ =>
    seq S g fun J ds F1 H1 S1 g1 rJ q => lc_read ho S1 rJ q
/-- y = [..], y a plain local -/
theorem s_lc {elt tg iter : Expr} {ifs : List Expr} {scope : Scope} {own : List (Str × Nat)} {T : Tg} {iv : Av} {tv : Tv} {ee : Xv} {y : Str} {py spos : Pos} (i : Nat) (hi : PWkv ct k X W tg iter iv) (ok : blkC X.N X.env.scope scope own = true) (ho : ∀ i ∈ ixs T, i ∈ own.map (·.2))
    (hg : ∀ (s : Shared) (H : Hp) (A : Addr) (cl : List (Str × Addr)) (fp : List Addr), X.N.Nodup → X.calm = true → PGv (X.blk s H scope (compEnvC scope cl A X.env) fp) tg T)
    (ht : ∀ (s : Shared) (H : Hp) (A : Addr) (cl : List (Str × Addr)) (fp : List Addr), PTsv ct k (X.blk s H scope (compEnvC scope cl A X.env) fp) WF ifs tv)
    (he : ∀ (s : Shared) (H : Hp) (A : Addr) (cl : List (Str × Addr)) (fp : List Addr), PEv ct k (X.blk s H scope (compEnvC scope cl A X.env) fp) WF elt ee)
    (hsw : swapsWith (.ListComp elt [⟨tg, iter, ifs, 0⟩] scope pos) (some (.Name y py)) spos.line X.env = pure true) (hy : X.N[i]? = some y := by rfl) (hyl : X.env.scope.names.lookup y = some .local := by rfl)
    (hs : ∀ x, foldedSetIterable iter X.env x = pure x := by intro _; rfl) :
    PSv ct k X W (.Assign [.Name y py] (.ListComp elt [⟨tg, iter, ifs, 0⟩] scope pos) spos) (sAsg (.nm i) (xLc T (own.map (·.2)) iv tv ee)) := fun C =>
  (ps_setLc (g := gT X.K T) (tt := rd X.K RB WF tv) (te := rd X.K (RE X.K) WF ee) C.calm C.nd hy hyl hsw (hi C) (blkOk_by ok) (fun s H A cl fp => hg s H A cl fp C.nd C.calm) (fun s H A cl fp => ht s H A cl fp C.blk) (fun s H A cl fp => he s H A cl fp C.blk) hs).imp fun Dn σ H ⟨H0, F0, F, env, S, g⟩ => by
    have g' : GotS X.K W H0 F0 Dn ((iv env).fl env fun xs => (((lcD T tv ee (wipeE env (own.map (·.2))) xs).bind fun r => Res.ok (D.lst r))).fl env fun d => .nx (pt env i (some (.fz d)))) := by
      have e : sAsg (.nm i) (xLc T (own.map (·.2)) iv tv ee) env = ((iv env).fl env fun xs => (((lcD T tv ee (wipeE env (own.map (·.2))) xs).bind fun r => Res.ok (D.lst r))).fl env fun d => .nx (pt env i (some (.fz d)))) := by
        unfold sAsg xLc
        cases iv env <;> rfl
      rw [e] at g; exact g
    refine sseq S g' fun J ds F1 H1 S1 g1 rJ q => ?_
    refine lc_read (W := W) (Q := fun v H' => gName i v σ H' Dn.nx) ho S1 rJ ?_
    cases z : ((lcD T tv ee (wipeE env (own.map (·.2))) ds).bind fun r => Res.ok (D.lst r)) with
    | ok d => rw [z] at q; exact fun v F' H' gd r => q _ F' H' ((S1.grow gd).set i r)
    | exc c => rw [z] at q; exact fun F' H' gd => q σ F' H' (S1.grow gd)
    | bad => rw [z] at q; exact q.elim
/-! ### calls, defs -/
def spF (K : PySem.W.Frag) (ct : String → Addr) (Fn : List D → Res D) : Sp := fun vs H Q E => ∃ F ds, Sub F H ∧ RpA K F vs ds ∧ (match Fn ds with
  | .ok d => ∀ v F' H', Gd F H F' H' → Rp K F' v d → Q v H'
  | .exc c => ∀ F' H', Gd F H F' H' → E (.ref (ct c)) none H'
  | .bad => False)
theorem e_call {f : Addr} {fd : FuncData} {ps : List Str} {j : Nat} {x : Str} {p : Pos} {Fn : List D → Res D} {aa : Av} (G : FnOk X.prog X.w X.K X.mg X.base (L2.CX X.prog X.w) j f fd ps (spF X.K ct Fn)) (hm : X.mg x = some (.ref f)) (hk : PySem.W.keepIn X.K (.ref f) = true) (hb : Binds X.K fd ps [])
    (ha : PAv ct k X W (e :: es) aa) (hj : j ≤ k := by decide) (hg : Gl X x := by rfl) (hdb : (x == ("__debug__" : Str)) = false := by decide) (he : starEach (e :: es) X.env = (false, eval e X.env) :: starEach es X.env := by rfl) (hpl : (backTo pos (starEach es X.env)).any (·.1) = false := by rfl) :
    PEv ct k X W (.Call (.Name x p) (e :: es) [] pos) (xCall Fn aa) := fun C =>
  (pe_callS G (C.room.mono hj) hg hm hk hb (fun σ => passAt C.tk σ) (ha C) hdb he hpl).imp fun σ H Q ⟨H0, F0, F, env, S, g⟩ => seq S g fun vs ds F1 H1 S1 g1 rv q => ⟨F1, ds, S1.sub, rv, by
    cases z : Fn ds with
    | ok d => rw [z] at q; exact q
    | exc c => rw [z] at q; exact fun F' H' gd => ⟨c, rfl, rfl, q F' H' gd⟩
    | bad => rw [z] at q; exact q⟩
theorem e_call0 {f : Addr} {fd : FuncData} {ps : List Str} {j : Nat} {x : Str} {p : Pos} {Fn : List D → Res D} (G : FnOk X.prog X.w X.K X.mg X.base (L2.CX X.prog X.w) j f fd ps (spF X.K ct Fn)) (hm : X.mg x = some (.ref f)) (hk : PySem.W.keepIn X.K (.ref f) = true) (hb : Binds X.K fd ps [])
    (hj : j ≤ k := by decide) (hg : Gl X x := by rfl) (hdb : (x == ("__debug__" : Str)) = false := by decide) :
    PEv ct k X W (.Call (.Name x p) [] [] pos) (xCall Fn aNil) := fun C => by
  have h0 : PE X (.Call (.Name x p) [] [] pos) (fun σ H Q => spF X.K ct Fn [] H Q (WE (wx ct W) σ)) := by
    refine ⟨fun pins s σ H Q I h => ?_⟩
    refine wpAny_Call_Name_kw (ld_glob I hg hm ?_ hdb)
    exact PySem.W.callWith_K0 I.kIn hk (run_fnS (us := []) (E := fun _ => WE (wx ct W) σ) G (C.room.mono hj) hb (passAt C.tk σ) I .nil h)
  refine h0.imp fun σ H Q ⟨H0, F0, F, env, S, g⟩ => ⟨F, [], S.sub, .nil, ?_⟩
  have g' : Got (RE X.K) W F H σ Q (Fn []) := g
  cases z : Fn [] with
  | ok d => rw [z] at g'; exact g'
  | exc c => rw [z] at g'; exact fun F' H' gd => ⟨c, rfl, rfl, g' F' H' gd⟩
  | bad => rw [z] at g'; exact g'
end
theorem gt_ini : ∀ (n : Nat) (ds : List D) (i : Nat) (s : Sl), gt (iniE n ds) i = some s → ∃ d, ds[i]? = some d ∧ s = .fz d := by
  intro n ds i s h
  have key : ∀ (ds : List D) (m i : Nat), gt (ds.map (fun d => some (Sl.fz d)) ++ List.replicate m none) i = some s → ∃ d, ds[i]? = some d ∧ s = .fz d := by
    intro ds
    induction ds with
    | nil =>
      intro m
      induction m with
      | zero => intro i h; cases h
      | succ m ih =>
        intro i h
        cases i with
        | zero => cases h
        | succ i =>
          obtain ⟨d, e, _⟩ := ih i h
          simp at e
    | cons d ds ih =>
      intro m i h
      cases i with
      | zero =>
        have e : some (Sl.fz d) = some s := h
        exact ⟨d, rfl, (Option.some.inj e).symm⟩
      | succ i =>
        obtain ⟨d', e, q⟩ := ih m i h
        exact ⟨d', by simpa using e, q⟩
  exact key ds _ i h
theorem sr_ini {K : PySem.W.Frag} {F H : Hp} {N : List Str} {vs : List V} {ds : List D} (s : Sub F H) (r : RpA K F vs ds) : SR K H F F H (L2.start N vs) (iniE N.length ds) := by
  refine ⟨.refl s, ?_, fun i d e => ?_, fun i d e => ?_, fun i j d d' a e1 _ _ _ => ?_⟩
  · unfold L2.start iniE
    simp [r.length]
  · obtain ⟨d', h1, h2⟩ := gt_ini _ _ _ _ e
    cases h2
    obtain ⟨v, e1, e2⟩ := r.getD h1
    refine ⟨v, ?_, e2⟩
    unfold L2.start
    have hl : i < vs.length := (List.getElem?_eq_some_iff.mp e1).1
    rw [List.getElem?_append_left (by simpa using hl), List.getElem?_map, e1]
    rfl
  · obtain ⟨_, _, h2⟩ := gt_ini _ _ _ _ e
    cases h2
  · obtain ⟨_, _, h2⟩ := gt_ini _ _ _ _ e1
    cases h2
/-- a def keeps its pure promise -/
theorem def_ok {P : Program} {w : World} {K : PySem.W.Frag} {mg : Str → Option Value} {base : Heap} {ct : String → Addr} {x qual : Str} {st : Stmt} {f : Addr} {fd : FuncData} {N ps : List Str} {k : Nat} {Fn : List D → Res D} {sv : Sv}
    (F : Fun K x qual st f fd) (S : FnScope N ps (defScope st)) (hl : ∀ ds, Fn ds ≠ .bad → ds.length = ps.length)
    (hb : ∀ (cdv : Value) (A : Around) (outer : List Env) (s : Shared) (H : Hp) (E : XK) (W : WS), PSsv ct k (cxOf (L2.CX P w) P w K mg base N qual (defScope st) f cdv A outer s H E) W (defBody st) sv)
    (hF : ∀ ds, Fn ds ≠ .bad → outOf (sv (iniE N.length ds)) = Fn ds) : FnOk P w K mg base (L2.CX P w) (k + 1) f fd ps (spF K ct Fn) := by
  refine F.okX S (fun vs H Q E h => ?_) (fun cdv A outer s H vs Q E hr h => ?_)
  · obtain ⟨F0, ds, hs, r, h⟩ := h
    rw [r.length]
    exact hl ds fun e => by rw [e] at h; exact h
  · obtain ⟨F0, ds, hs, r, h⟩ := h
    have hn : Fn ds ≠ .bad := fun e => by rw [e] at h; exact h
    have C : Cz ct k (cxOf (L2.CX P w) P w K mg base N qual (defScope st) f cdv A outer s H E) (fun c _ H' => E (.ref (ct c)) none H') :=
      ⟨(takes_of rfl rfl rfl rfl).imp fun c d σ H' ⟨c', e1, e2, z⟩ => by rw [e1, e2]; exact z, passes_of rfl, rfl, S.nd, hr⟩
    refine ⟨_, hb cdv A outer s H E _ C, H, F0, F0, iniE N.length ds, sr_ini hs r, ?_⟩
    have e := hF ds hn
    cases z : sv (iniE N.length ds) with
    | ret d =>
      rw [z] at e
      rw [← e] at h
      exact h
    | nx env' =>
      rw [z] at e
      rw [← e] at h
      exact fun σ F' H' S' => h .non F' H' S'.gd .non
    | exc c env' =>
      rw [z] at e
      rw [← e] at h
      exact fun σ F' H' S' => h F' H' S'.gd
    | brk env' => rw [z] at e; exact (hn e.symm).elim
    | cont env' => rw [z] at e; exact (hn e.symm).elim
    | bad => rw [z] at e; exact (hn e.symm).elim
end Pv

namespace Pv
variable [HasW]
open PySem PySem.Spec L2
/-! ### reading borrowed things -/
section
variable {K : PySem.W.Frag} {F H : Hp} {x : V}
theorem bo_int {i : Int} (r : RBo K F H x (.int i)) : x = .int i := by
  rcases r with r | ⟨a, e, _, r⟩
  · cases r; rfl
  · cases r
theorem bo_bl {i : Bool} (r : RBo K F H x (.bl i)) : x = .bl i := by
  rcases r with r | ⟨a, e, _, r⟩
  · cases r; rfl
  · cases r
theorem bo_non (r : RBo K F H x .non) : x = .non := by
  rcases r with r | ⟨a, e, _, r⟩
  · cases r; rfl
  · cases r
theorem bo_str {l : List Nat} (r : RBo K F H x (.str l)) : x = .str (tx l) ∧ okS l := by
  rcases r with r | ⟨a, e, _, r⟩
  · cases r with | str _ z => exact ⟨rfl, z⟩
  · cases r
theorem bo_lst {ds : List D} (s : Sub F H) (r : RBo K F H x (.lst ds)) : ∃ a vs, x = .ref a ∧ Rd H a (.lst vs) ∧ vs.length ≤ LIM ∧ RpA K F vs ds := by
  rcases r with r | ⟨a, e, _, r⟩
  · cases r with | lst q z r => exact ⟨_, _, rfl, s _ _ q, z, r⟩
  · cases r with | lst q z r => exact ⟨_, _, e, .inl q, z, r⟩
theorem bo_tup {ds : List D} (s : Sub F H) (r : RBo K F H x (.tup ds)) : ∃ a vs, x = .ref a ∧ SqT K H a vs ∧ vs.length ≤ LIM ∧ RpA K F vs ds ∧ Rp K F x (.tup ds) := by
  rcases r with r | ⟨a, e, _, r⟩
  · cases r with | tup q z r => exact ⟨_, _, rfl, s.tup q, z, r, .tup q z r⟩
  · cases r
theorem bo_dic {ds : List (List Nat × D)} (s : Sub F H) (r : RBo K F H x (.dic ds)) : ∃ a kvs, x = .ref a ∧ Rd H a (.dK kvs) ∧ kvs.length ≤ LIM ∧ RpK K F kvs ds := by
  rcases r with r | ⟨a, e, _, r⟩
  · cases r with | dic q z r => exact ⟨_, _, rfl, s _ _ q, z, r⟩
  · cases r with | dic q z r => exact ⟨_, _, e, .inl q, z, r⟩
/-- what a reading gives back -/
theorem got_ok {Q : VK} {v : V} {d : D} (s : Sub F H) (g : Got (RE K) WF F H [] Q (.ok d)) (r : Rp K F v d) : Q v H := g v F H (.refl s) r
theorem got_new {Q : VK} {d : D} {o : HO} {p : Addr} (s : Sub F H) (g : Got (RE K) WF F H [] Q (.ok d)) (np : H p = none) (r : (∀ a u, F a = some u → (upd F p o) a = some u) → Rp K (upd F p o) (.ref p) d) : Q (.ref p) (upd H p o) :=
  g _ _ _ (Gd.new s np) (r (Gd.new s np).ff)
end
theorem tx_app (a b : List Nat) : tx a ++ tx b = tx (a ++ b) := by
  have e : (tx a ++ tx b : Str) = ⟨a.toArray ++ b.toArray⟩ := rfl
  rw [e]
  unfold tx
  simp
theorem okS_app {a b : List Nat} (ha : okS a) (hb : okS b) (h : a.length + b.length ≤ LIM) : okS (a ++ b) := ⟨by simpa using h, fun c hc => (List.mem_append.mp hc).elim (ha.2 c) (hb.2 c)⟩
section
variable {X : Cx}
theorem Inv.lstR {pins : List (Addr × Obj)} {σ : St} {H : Hp} {s : Shared} {l : Addr} {xs : List V} (I : Inv X pins σ H s) (hH : Rd H l (.lst xs)) : xs.length ≤ sizeLine ∧ ∃ (its : List Value) (n : Nat), Vals xs its ∧ xs.length = its.length ∧ s.heap.get? l = some { cls := .type "list", data := .seq its.toArray n } := by
  obtain ⟨z, its, n, r, e⟩ := hH.ok I.hok
  exact ⟨z, its, n, r, r.length, e⟩
/-! ### + -/
def rCatR : R2 := fun x y H Q => ∃ l b xs zs, x = .ref l ∧ y = .ref b ∧ Rd H l (.lst xs) ∧ Rd H b (.lst zs) ∧ xs.length + zs.length ≤ sizeLine ∧ ∀ p, H p = none → Q (.ref p) (upd H p (.lst (xs ++ zs)))
theorem op_catR : OpR X (binaryOp .Add) rCatR := by
  intro pins s σ H x y v u Q I rx ry h
  obtain ⟨l, b, xs, zs, rfl, rfl, hH, hB, hz, q⟩ := h
  cases rx
  cases ry
  obtain ⟨z, its, n, r, hl, e⟩ := Inv.lstR I hH
  obtain ⟨z2, its2, n2, r2, hl2, e2⟩ := Inv.lstR I hB
  refine PySem.P.add_list e e2 ?_ (by rw [List.size_toArray, List.size_toArray]; omega)
  have ea : its.toArray ++ its2.toArray = (its ++ its2).toArray := by simp
  rw [ea]
  exact ⟨.ref _, _, I.lnew (t' := s.toks) (r.append r2) (by rw [List.length_append]; omega), rfl, q _ I.fresh⟩
def rAddI : R2 := rI0 fun i j => .int (i + j)
def rAddS : R2 := fun x y H Q => ∃ i j, x = .str i ∧ y = .str j ∧ i.length + j.length ≤ sizeLine ∧ Q (.str (i ++ j)) H
def rAddA (K : PySem.W.Frag) : R2 := fun x y H Q => rAddI x y H Q ∨ rAddS x y H Q ∨ rCatR x y H Q ∨ rCatA K x y H Q
theorem op_addA : OpR X (binaryOp .Add) (rAddA X.K) := OpR.or op_add (OpR.or op_add_str (OpR.or op_catR op_catA))
theorem od_add {K : PySem.W.Frag} : OpD K (rAddA K) addD := by
  intro F H x y d e Q s rx ry g
  cases d with
  | int i =>
    cases e with
    | int j => rw [bo_int rx, bo_int ry]; exact .inl ⟨i, j, rfl, rfl, got_ok s g (.int _)⟩
    | _ => exact g.elim
  | str a =>
    cases e with
    | str b =>
      obtain ⟨ex, ha⟩ := bo_str rx
      obtain ⟨ey, hb⟩ := bo_str ry
      subst ex ey
      dsimp only [addD] at g
      by_cases z : a.length + b.length ≤ LIM
      · rw [if_pos z] at g
        refine .inr (.inl ⟨_, _, rfl, rfl, by rw [tx_len, tx_len, lim]; exact z, ?_⟩)
        rw [tx_app]
        exact got_ok s g (.str _ (okS_app ha hb z))
      · rw [if_neg z] at g; exact g.elim
    | _ => exact g.elim
  | lst a =>
    cases e with
    | lst b =>
      obtain ⟨p, vs, rfl, hp, zp, rp⟩ := bo_lst s rx
      obtain ⟨q, ws, rfl, hq, zq, rq⟩ := bo_lst s ry
      dsimp only [addD] at g
      by_cases z : a.length + b.length ≤ LIM
      · rw [if_pos z] at g
        have zz : vs.length + ws.length ≤ LIM := by rw [rp.length, rq.length]; exact z
        refine .inr (.inr (.inl ⟨p, q, vs, ws, rfl, rfl, hp, hq, by rw [lim]; exact zz, fun p' np => got_new s g np fun ff => .lst upd_same (by simpa using zz) ((rp.append rq).mono ff)⟩))
      · rw [if_neg z] at g; exact g.elim
    | _ => exact g.elim
  | tup a =>
    cases e with
    | tup b =>
      obtain ⟨p, vs, ex, hp, zp, rp, Rx⟩ := bo_tup s rx
      obtain ⟨q, ws, ey, hq, zq, rq, Ry⟩ := bo_tup s ry
      subst ex ey
      dsimp only [addD] at g
      by_cases z : a.length + b.length ≤ LIM
      · rw [if_pos z] at g
        have zz : vs.length + ws.length ≤ LIM := by rw [rp.length, rq.length]; exact z
        refine .inr (.inr (.inr ⟨p, q, vs, ws, rfl, rfl, hp, hq, by rw [lim]; exact zz, fun e => ?_, fun _ e => ?_, fun _ _ p' np => got_new s g np fun ff => .tup (.inl upd_same) (by simpa using zz) ((rp.append rq).mono ff)⟩))
        · subst e
          cases rp
          exact got_ok s g (by simpa using Ry)
        · subst e
          cases rq
          exact got_ok s g (by simpa using Rx)
      · rw [if_neg z] at g; exact g.elim
    | _ => exact g.elim
  | _ => exact g.elim
/-! ### - * // % ** -/
theorem od_sub {K : PySem.W.Frag} : OpD K (rI0 fun i j => .int (i - j)) subD := by
  intro F H x y d e Q s rx ry g
  cases d with
  | int i =>
    cases e with
    | int j => rw [bo_int rx, bo_int ry]; exact ⟨i, j, rfl, rfl, got_ok s g (.int _)⟩
    | _ => exact g.elim
  | _ => exact g.elim
def rRepR : R2 := fun x y H Q => ∃ l k xs, x = .ref l ∧ y = .int k ∧ Rd H l (.lst xs) ∧ -(2 ^ 63) ≤ k ∧ k < 2 ^ 63 ∧ xs.length * k.toNat ≤ sizeLine ∧
  ∀ p, H p = none → Q (.ref p) (upd H p (.lst (List.replicate k.toNat xs).flatten))
theorem op_repR : OpR X (binaryOp .Mult) rRepR := by
  intro pins s σ H x y v u Q I rx ry h
  obtain ⟨l, k, xs, rfl, rfl, hH, h1, h2, hz, q⟩ := h
  cases rx
  obtain ⟨t, rfl⟩ := ry
  obtain ⟨z, its, n, r, hl, e⟩ := Inv.lstR I hH
  have hlen : its.toArray.size * k.toNat ≤ sizeLine := by rw [List.size_toArray, ← hl]; exact hz
  have hcap : ¬ its.toArray.size * k.toNat > (2 ^ 63 - 1) / 8 := by
    have : (sizeLine : Nat) ≤ (2 ^ 63 - 1) / 8 := by decide
    omega
  have hfit : ¬ (!Builtin.List.listFitsIndex k) = true := by
    rw [PySem.fitsIndex_both h1 h2]
    exact Bool.false_ne_true
  have hlong : ¬ Builtin.List.listTooLong (its.toArray.size * k.toNat) = true := by
    rw [notLongL hlen]
    exact Bool.false_ne_true
  have hnew : List.foldl (fun x1 x2 => x1 ++ x2) #[] (List.replicate (if its.toArray.isEmpty = true then 0 else k.toNat) its.toArray) = (List.replicate k.toNat its).flatten.toArray := by
    have f0 : ∀ m : Nat, List.foldl (fun x1 x2 => x1 ++ x2) #[] (List.replicate m its.toArray) = (List.replicate m its).flatten.toArray := fun m => by
      have := foldl_rep its m []
      rw [List.nil_append] at this
      exact this
    rw [f0]
    cases its with
    | nil => simp
    | cons a r' => rw [if_neg (by simp)]
  refine wpAny_binaryOp_repeat_ref (T := "list") (U := "int") (by decide) ⟨_, e, rfl⟩ (fun s' => typeIs_int s' k t) noFill_list_mul F.fills_int_mul F.slot_int_rmul repeat_list F.slot_int_index.lookup
    (call_meets F.slot_int_rmul (typeIs_int s k t) F.entry_int_rmul (F.args_int_rmul_2 _ _) (int___rmul___int_list k t l its.toArray n)
      ⟨e, rfl, ⟨_, e, rfl⟩, call_meets F.slot_list_mul ⟨_, e, rfl⟩ F.entry_list_mul (F.args_list_mul_2 _ _) (AutoListH.list___mul___list_int_3 l its.toArray n k t hfit hcap hlong) ⟨e, ?_⟩⟩)
  rw [hnew]
  exact ⟨.ref _, _, I.lnew (t' := s.toks) (r.rep k.toNat) (by rw [PyProof.Rows.lm_len_rep_flat, Nat.mul_comm]; exact hz), rfl, q _ I.fresh⟩
/-- text * n, n at least 0 -/
def rRepS : R2 := fun x y H Q => ∃ (a : List Nat) (k : Int), x = .str (tx a) ∧ y = .int k ∧ 0 ≤ k ∧ a.length * k.toNat ≤ LIM ∧ k ≤ LIM ∧ Q (.str (tx (List.replicate k.toNat a).flatten)) H
theorem flat_len {α : Type} (l : List α) : ∀ k : Nat, (List.replicate k l).flatten.length = l.length * k
  | 0 => by simp
  | k + 1 => by rw [List.replicate_succ, List.flatten_cons, List.length_append, flat_len l k, Nat.mul_succ]; omega
theorem foldl_tx (a : List Nat) : ∀ (m : Nat) (acc : List Nat), List.foldl (fun x1 x2 => x1 ++ x2) acc.toArray (List.replicate m a.toArray) = (acc ++ (List.replicate m a).flatten).toArray
  | 0, acc => by simp
  | m + 1, acc => by
    rw [List.replicate_succ, List.foldl_cons, show acc.toArray ++ a.toArray = (acc ++ a).toArray by simp, foldl_tx a m (acc ++ a)]
    simp [List.replicate_succ]
theorem op_repS : OpR X (binaryOp .Mult) rRepS := by
  intro pins s σ H x y v u Q I rx ry h
  obtain ⟨a, k, rfl, rfl, h0, hz, hk, q⟩ := h
  obtain ⟨t, rfl⟩ := rx
  obtain ⟨t', rfl⟩ := ry
  have hlim : LIM = 16777216 := rfl
  refine PySem.P.mul_str ?_ (fun h1 h2 h3 => ?_) (fun h1 h2 => ?_) ?_
  · have e1 : decide (k < -(2 ^ 63 : Int)) = false := decide_eq_false (by omega)
    have e2 : decide (k ≥ 2 ^ 63) = false := decide_eq_false (by omega)
    rw [e1, e2]; rfl
  · rw [tx_len] at h3
    have hk1 : 1 ≤ k := by omega
    have : (a.length : Int) ≤ (2 ^ 63 - 1) / k := by
      refine (Int.le_ediv_iff_mul_le (by omega)).mpr ?_
      have e : (a.length : Int) * k = ((a.length * k.toNat : Nat) : Int) := by
        rw [Int.natCast_mul, Int.toNat_of_nonneg h0]
      rw [e]
      omega
    omega
  · rw [tx_len]
    have : Builtin.Str.tooLong (a.length * k.toNat) = false := by
      unfold Builtin.Str.tooLong
      exact decide_eq_false (by rw [lim]; omega)
    exact this
  · have ef : (⟨(List.replicate k.toNat (tx a).cps).foldl (· ++ ·) #[]⟩ : Str) = tx (List.replicate k.toNat a).flatten := by
      have := foldl_tx a k.toNat []
      rw [List.nil_append] at this
      show (⟨(List.replicate k.toNat a.toArray).foldl (· ++ ·) #[]⟩ : Str) = tx _
      unfold tx
      congr 1
    by_cases h1 : k < 1
    · rw [if_pos h1]
      have e0 : k = 0 := by omega
      subst e0
      exact ⟨Nat.zero_le _, V.str (tx []), H, I.tok _, ⟨_, rfl⟩, q⟩
    · rw [if_neg h1]
      by_cases h2 : (k == 1 || (tx a).length == 0) = true
      · rw [if_pos h2]
        refine ⟨V.str (tx (List.replicate k.toNat a).flatten), H, I, ⟨t, ?_⟩, q⟩
        congr 1
        rw [Bool.or_eq_true, beq_iff_eq, beq_iff_eq, tx_len] at h2
        rcases h2 with h2 | h2
        · subst h2; simp
        · have : a = [] := List.eq_nil_of_length_eq_zero h2
          subst this
          simp
      · rw [if_neg h2, ef]
        refine ⟨?_, V.str (tx (List.replicate k.toNat a).flatten), H, I.tok _, ⟨s.toks, rfl⟩, q⟩
        rw [tx_len, flat_len, lim]
        exact hz
def rMulA : R2 := fun x y H Q => rI CMul (fun i j => .int (i * j)) x y H Q ∨ rRepS x y H Q ∨ rRepR x y H Q
theorem op_mulA : OpR X (binaryOp .Mult) rMulA := OpR.or op_mul (OpR.or op_repS op_repR)
theorem RpA.rep {K : PySem.W.Frag} {F : Hp} {vs : List V} {ds : List D} (h : RpA K F vs ds) : ∀ k : Nat, RpA K F (List.replicate k vs).flatten (List.replicate k ds).flatten
  | 0 => by simp; exact .nil
  | k + 1 => by
    rw [List.replicate_succ, List.replicate_succ, List.flatten_cons, List.flatten_cons]
    exact h.append (RpA.rep h k)
theorem od_mul {K : PySem.W.Frag} : OpD K rMulA mulD := by
  intro F H x y d e Q s rx ry g
  cases d with
  | int i =>
    cases e with
    | int j =>
      rw [bo_int rx, bo_int ry]
      dsimp only [mulD] at g
      split at g
      · rename_i z
        exact .inl ⟨i, j, rfl, rfl, z, got_ok s g (.int _)⟩
      · exact g.elim
    | _ => exact g.elim
  | str a =>
    cases e with
    | int j =>
      obtain ⟨ex, ha⟩ := bo_str rx
      subst ex
      rw [bo_int ry]
      dsimp only [mulD] at g
      split at g
      · rename_i z
        refine .inr (.inl ⟨a, j, rfl, rfl, z.1, z.2.1, z.2.2, got_ok s g (.str _ ⟨by rw [flat_len]; exact z.2.1, fun c hc => ?_⟩)⟩)
        obtain ⟨l, hl, hcl⟩ := List.mem_flatten.mp hc
        rw [List.mem_replicate] at hl
        rw [hl.2] at hcl
        exact ha.2 c hcl
      · exact g.elim
    | _ => exact g.elim
  | lst a =>
    cases e with
    | int j =>
      obtain ⟨p, vs, rfl, hp, zp, rp⟩ := bo_lst s rx
      rw [bo_int ry]
      dsimp only [mulD] at g
      split at g
      · rename_i z
        have zz : vs.length * j.toNat ≤ LIM := by rw [rp.length]; exact z.2.2
        exact .inr (.inr ⟨p, j, vs, rfl, rfl, hp, z.1, z.2.1, by rw [lim]; exact zz, fun p' np => got_new s g np fun ff => .lst upd_same (by rw [flat_len]; exact zz) ((rp.rep _).mono ff)⟩)
      · exact g.elim
    | _ => exact g.elim
  | _ => exact g.elim
theorem od_fdiv {K : PySem.W.Frag} : OpD K (rI CDivW fun i j => .int (i / j)) fdivD := by
  intro F H x y d e Q s rx ry g
  cases d with
  | int i =>
    cases e with
    | int j =>
      rw [bo_int rx, bo_int ry]
      dsimp only [fdivD] at g
      split at g
      · rename_i z
        exact ⟨i, j, rfl, rfl, wide_div (b := 64) z.1 (by omega) (by decide) (by decide), got_ok s g (.int _)⟩
      · exact g.elim
    | _ => exact g.elim
  | _ => exact g.elim
theorem od_mod {K : PySem.W.Frag} : OpD K (rI (fun _ j => 0 < j) fun i j => .int (i % j)) modD := by
  intro F H x y d e Q s rx ry g
  cases d with
  | int i =>
    cases e with
    | int j =>
      rw [bo_int rx, bo_int ry]
      dsimp only [modD] at g
      split at g
      · rename_i z
        exact ⟨i, j, rfl, rfl, z, got_ok s g (.int _)⟩
      · exact g.elim
    | _ => exact g.elim
  | _ => exact g.elim
theorem od_pow {K : PySem.W.Frag} : OpD K (rI CPow fun i j => .int (i ^ j.toNat)) powD := by
  intro F H x y d e Q s rx ry g
  cases d with
  | int i =>
    cases e with
    | int j =>
      rw [bo_int rx, bo_int ry]
      dsimp only [powD] at g
      split at g
      · rename_i z
        exact ⟨i, j, rfl, rfl, z, got_ok s g (.int _)⟩
      · exact g.elim
    | _ => exact g.elim
  | _ => exact g.elim
/-! ### order of ints -/
theorem od_le {K : PySem.W.Frag} : OpD K (rI0 fun i j => .bl (decide (i ≤ j))) leD := by
  intro F H x y d e Q s rx ry g
  cases d with
  | int i =>
    cases e with
    | int j => rw [bo_int rx, bo_int ry]; exact ⟨i, j, rfl, rfl, got_ok s g (.bl _)⟩
    | _ => exact g.elim
  | _ => exact g.elim
theorem od_gt {K : PySem.W.Frag} : OpD K (rI0 fun i j => .bl (decide (j < i))) gtD := by
  intro F H x y d e Q s rx ry g
  cases d with
  | int i =>
    cases e with
    | int j => rw [bo_int rx, bo_int ry]; exact ⟨i, j, rfl, rfl, got_ok s g (.bl _)⟩
    | _ => exact g.elim
  | _ => exact g.elim
theorem od_ge {K : PySem.W.Frag} : OpD K (rI0 fun i j => .bl (decide (j ≤ i))) geD := by
  intro F H x y d e Q s rx ry g
  cases d with
  | int i =>
    cases e with
    | int j => rw [bo_int rx, bo_int ry]; exact ⟨i, j, rfl, rfl, got_ok s g (.bl _)⟩
    | _ => exact g.elim
  | _ => exact g.elim
end
end Pv

namespace Pv
variable [HasW]
open PySem PySem.Spec L2
/-! ### as the library's data -/
mutual
def toP : D → PyData
  | .non => .none
  | .bl b => .bool b
  | .int i => .int i
  | .str l => .str (tx l)
  | .tup ds => .tuple (toPs ds)
  | .lst ds => .list (toPs ds)
  | .dic _ => .none
  | .obj _ => .none
  | .fn _ => .none
  | .kd _ => .none
def toPs : List D → List PyData
  | [] => []
  | d :: ds => toP d :: toPs ds
end
theorem toPs_map : ∀ ds : List D, toPs ds = ds.map toP
  | [] => rfl
  | d :: ds => by rw [toPs, toPs_map ds]; rfl
mutual
theorem toP_dep : ∀ d : D, (toP d).depth = dep d
  | .non => by simp [toP, dep, PyData.depth]
  | .bl b => by simp [toP, dep, PyData.depth]
  | .int i => by simp [toP, dep, PyData.depth]
  | .str l => by simp [toP, dep, PyData.depth]
  | .tup ds => by simp [toP, dep, PyData.depth, toPs_dep ds]
  | .lst ds => by simp [toP, dep, PyData.depth, toPs_dep ds]
  | .dic _ => by simp [toP, dep, PyData.depth]
  | .obj _ => by simp [toP, dep, PyData.depth]
  | .fn _ => by simp [toP, dep, PyData.depth]
  | .kd _ => by simp [toP, dep, PyData.depth]
theorem toPs_dep : ∀ ds : List D, PyData.depthAll (toPs ds) = deps ds
  | [] => by simp [toPs, deps, PyData.depthAll]
  | d :: ds => by simp [toPs, deps, PyData.depthAll, toP_dep d, toPs_dep ds]
end
theorem tx_beq (a b : List Nat) : (tx a == tx b) = (a == b) := by
  by_cases h : a = b
  · subst h; simp
  · have h2 : tx a ≠ tx b := fun e => h (tx_inj e)
    rw [beq_eq_false_iff_ne.mpr h2, beq_eq_false_iff_ne.mpr h]
mutual
theorem toP_eqv : ∀ d e : D, plain d = true → plain e = true → PyData.eqv (toP d) (toP e) = deq d e
  | .non, e, h1, h2 => by cases e <;> first | (simp [plain] at h2; done) | simp [toP, deq, PyData.eqv]
  | .bl b, e, h1, h2 => by cases e <;> first | (simp [plain] at h2; done) | simp [toP, deq, PyData.eqv]
  | .int i, e, h1, h2 => by cases e <;> first | (simp [plain] at h2; done) | simp [toP, deq, PyData.eqv]
  | .str l, e, h1, h2 => by cases e <;> first | (simp [plain] at h2; done) | simp [toP, deq, PyData.eqv, tx_beq]
  | .tup ds, e, h1, h2 => by
    cases e with
    | tup es => simp only [toP, deq, PyData.eqv]; exact toPs_eqv ds es (by simpa [plain] using h1) (by simpa [plain] using h2)
    | dic _ => simp [plain] at h2
    | obj _ => simp [plain] at h2
    | fn _ => simp [plain] at h2
    | _ => simp [toP, deq, PyData.eqv]
  | .lst ds, e, h1, h2 => by
    cases e with
    | lst es => simp only [toP, deq, PyData.eqv]; exact toPs_eqv ds es (by simpa [plain] using h1) (by simpa [plain] using h2)
    | dic _ => simp [plain] at h2
    | obj _ => simp [plain] at h2
    | fn _ => simp [plain] at h2
    | _ => simp [toP, deq, PyData.eqv]
  | .dic _, e, h1, h2 => by simp [plain] at h1
  | .obj _, e, h1, h2 => by simp [plain] at h1
  | .fn _, e, h1, h2 => by simp [plain] at h1
  | .kd _, e, h1, h2 => by simp [plain] at h1
theorem toPs_eqv : ∀ ds es : List D, plains ds = true → plains es = true → PyData.eqvAll (toPs ds) (toPs es) = deqs ds es
  | [], [], _, _ => by simp [toPs, deqs, PyData.eqvAll]
  | [], e :: es, _, _ => by simp [toPs, deqs, PyData.eqvAll]
  | d :: ds, [], _, _ => by simp [toPs, deqs, PyData.eqvAll]
  | d :: ds, e :: es, h1, h2 => by
    rw [plains, Bool.and_eq_true] at h1 h2
    simp only [toPs, deqs, PyData.eqvAll]
    rw [toP_eqv d e h1.1 h2.1, toPs_eqv ds es h1.2 h2.2]
end
section
variable {K : PySem.W.Frag} {F H : Hp}
theorem okS_strOk {l : List Nat} (h : okS l) : PyData.strOk (tx l) = true := by
  unfold PyData.strOk tx
  simp only [List.all_toArray, List.all_eq_true, decide_eq_true_eq]
  exact h.2
mutual
theorem rp_dp (s : Sub F H) : ∀ {v : V} {d : D}, Rp K F v d → plain d = true → Dp K H v (toP d) ∧ (toP d).canLay0 = true
  | _, _, .non, _ => ⟨by rw [toP]; exact .non, by simp [toP, PyData.canLay0]⟩
  | _, _, .bl b, _ => ⟨by rw [toP]; exact .bl b, by simp [toP, PyData.canLay0]⟩
  | _, _, .int i, _ => ⟨by rw [toP]; exact .int i, by simp [toP, PyData.canLay0]⟩
  | _, _, .str l z, _ => ⟨by rw [toP]; exact .str _, by simp [toP, PyData.canLay0, okS_strOk z]⟩
  | _, _, .tup q z r, h => by
    obtain ⟨h1, h2⟩ := rpA_dp s r (by simpa [plain] using h)
    rw [toP]
    exact ⟨.tup (s.tup q) h1, by simpa [PyData.canLay0] using h2⟩
  | _, _, .lst q z r, h => by
    obtain ⟨h1, h2⟩ := rpA_dp s r (by simpa [plain] using h)
    rw [toP]
    exact ⟨.lst (.inl (s _ _ q)) h1, by simpa [PyData.canLay0] using h2⟩
  | _, _, .dic q z r, h => by simp [plain] at h
  | _, _, .obj a, h => by simp [plain] at h
  | _, _, .fn a, h => by simp [plain] at h
  | _, _, .kd _ _ _, h => by simp [plain] at h
theorem rpA_dp (s : Sub F H) : ∀ {vs : List V} {ds : List D}, RpA K F vs ds → plains ds = true → DpAll K H vs (toPs ds) ∧ PyData.canLayAll0 (toPs ds) = true
  | _, _, .nil, _ => ⟨by rw [toPs]; exact .nil, by simp [toPs, PyData.canLayAll0]⟩
  | _, _, .cons r t, h => by
    rw [plains, Bool.and_eq_true] at h
    obtain ⟨h1, h2⟩ := rp_dp s r h.1
    obtain ⟨h3, h4⟩ := rpA_dp s t h.2
    rw [toPs]
    exact ⟨.cons h1 h3, by simp [PyData.canLayAll0, h2, h4]⟩
end
theorem bo_dp (s : Sub F H) {v : V} {d : D} (r : RBo K F H v d) (h : plain d = true) : Dp K H v (toP d) ∧ (toP d).canLay0 = true := by
  rcases r with r | ⟨a, e, n, r⟩
  · exact rp_dp s r h
  · subst e
    cases r with
    | lst q z r =>
      obtain ⟨h1, h2⟩ := rpA_dp s r (by simpa [plain] using h)
      rw [toP]
      exact ⟨.lst (.inl (.inl q)) h1, by simpa [PyData.canLay0] using h2⟩
    | dic q z r => simp [plain] at h
    | kd q z r => simp [plain] at h
end
/-! ### == != -/
section
variable {X : Cx} {k : Nat}
def rEqP (K : PySem.W.Frag) (neg : Bool) : R2 := fun x y H Q => ∃ d e, Dp K H x d ∧ Dp K H y e ∧ d.canLay0 = true ∧ e.canLay0 = true ∧ min d.depth e.depth ≤ 60 ∧ Q (.bl (if neg then !PyData.eqv d e else PyData.eqv d e)) H
theorem op_eqP (hr : Room k X.A) : OpR X (compareOp .Eq) (rEqP X.K false) := by
  intro pins s σ H x y v u Q I rx ry h
  obtain ⟨d, e, hd, he, sd, se, hm, q⟩ := h
  obtain ⟨as, r1⟩ := Dp.reads I d x v hd rx
  obtain ⟨bs, r2⟩ := Dp.reads I e y u he ry
  exact SeqAt.compareEq_reads r1 r2 sd se (by have := hr.units; omega) ⟨.bl _, H, I, rfl, q⟩
theorem op_neP (hr : Room k X.A) : OpR X (compareOp .NotEq) (rEqP X.K true) := by
  intro pins s σ H x y v u Q I rx ry h
  obtain ⟨d, e, hd, he, sd, se, hm, q⟩ := h
  obtain ⟨as, r1⟩ := Dp.reads I d x v hd rx
  obtain ⟨bs, r2⟩ := Dp.reads I e y u he ry
  exact SeqAt.compareNe_reads r1 r2 sd se (by have := hr.units; omega) ⟨.bl _, H, I, rfl, q⟩
theorem od_eq {K : PySem.W.Frag} : OpD K (rEqP K false) eqD := by
  intro F H x y d e Q s rx ry g
  unfold eqD at g
  split at g
  · rename_i z
    obtain ⟨d1, d2⟩ := bo_dp s rx z.1
    obtain ⟨e1, e2⟩ := bo_dp s ry z.2.1
    refine ⟨_, _, d1, e1, d2, e2, by rw [toP_dep, toP_dep]; exact z.2.2, ?_⟩
    rw [toP_eqv d e z.1 z.2.1]
    exact got_ok s g (.bl _)
  · exact g.elim
theorem od_ne {K : PySem.W.Frag} : OpD K (rEqP K true) neD := by
  intro F H x y d e Q s rx ry g
  unfold neD at g
  split at g
  · rename_i z
    obtain ⟨d1, d2⟩ := bo_dp s rx z.1
    obtain ⟨e1, e2⟩ := bo_dp s ry z.2.1
    refine ⟨_, _, d1, e1, d2, e2, by rw [toP_dep, toP_dep]; exact z.2.2, ?_⟩
    rw [toP_eqv d e z.1 z.2.1]
    exact got_ok s g (.bl _)
  · exact g.elim
/-! ### < -/
mutual
theorem toP_alike : ∀ d e : D, alk d e = true → plain d = true → plain e = true → PySem.W.alike (toP d) (toP e) = true
  | .non, e, h, h1, h2 => by cases e <;> first | (simp [alk] at h; done) | simp [toP, PySem.W.alike]
  | .bl b, e, h, h1, h2 => by cases e <;> first | (simp [alk] at h; done) | simp [toP, PySem.W.alike]
  | .int i, e, h, h1, h2 => by cases e <;> first | (simp [alk] at h; done) | simp [toP, PySem.W.alike]
  | .str l, e, h, h1, h2 => by cases e <;> first | (simp [alk] at h; done) | simp [toP, PySem.W.alike]
  | .tup ds, e, h, h1, h2 => by
    cases e with
    | tup es => simp only [toP, PySem.W.alike]; exact toPs_alike ds es (by simpa [alk] using h) (by simpa [plain] using h1) (by simpa [plain] using h2)
    | _ => simp [alk] at h
  | .lst ds, e, h, h1, h2 => by
    cases e with
    | lst es => simp only [toP, PySem.W.alike]; exact toPs_alike ds es (by simpa [alk] using h) (by simpa [plain] using h1) (by simpa [plain] using h2)
    | _ => simp [alk] at h
  | .dic _, e, h, h1, h2 => by simp [plain] at h1
  | .obj _, e, h, h1, h2 => by simp [plain] at h1
  | .fn _, e, h, h1, h2 => by simp [plain] at h1
  | .kd _, e, h, h1, h2 => by simp [plain] at h1
theorem toPs_alike : ∀ ds es : List D, alks ds es = true → plains ds = true → plains es = true → PySem.W.alikeAll (toPs ds) (toPs es) = true
  | [], es, _, _, _ => by cases es <;> simp [toPs, PySem.W.alikeAll]
  | d :: ds, [], _, _, _ => by simp [toPs, PySem.W.alikeAll]
  | d :: ds, e :: es, h, h1, h2 => by
    rw [plains, Bool.and_eq_true] at h1 h2
    rw [alks, Bool.and_eq_true] at h
    simp only [toPs, PySem.W.alikeAll, Bool.and_eq_true]
    exact ⟨toP_alike d e h.1 h1.1 h2.1, toPs_alike ds es h.2 h1.2 h2.2⟩
end
mutual
theorem toP_lt : ∀ d e : D, alk d e = true → plain d = true → plain e = true → isNon d = false → PySem.W.dataLt (toP d) (toP e) = dlt d e
  | .non, e, h, h1, h2, hn => by simp [isNon] at hn
  | .bl a, e, h, h1, h2, hn => by
    cases e with
    | bl b => simp only [toP, dlt]; rw [PySem.W.dataLt_bool]; cases a <;> cases b <;> rfl
    | _ => simp [alk] at h
  | .int i, e, h, h1, h2, hn => by
    cases e with
    | int j => simp only [toP, dlt]; rw [PySem.W.dataLt_int]
    | _ => simp [alk] at h
  | .str l, e, h, h1, h2, hn => by
    cases e with
    | str m => simp only [toP, dlt]; rw [PySem.W.dataLt_str, tx_list, tx_list]
    | _ => simp [alk] at h
  | .tup ds, e, h, h1, h2, hn => by
    cases e with
    | tup es =>
      simp only [toP, dlt]
      rw [PySem.W.dataLt_tuple]
      exact toPs_lt ds es (by simpa [alk] using h) (by simpa [plain] using h1) (by simpa [plain] using h2)
    | _ => simp [alk] at h
  | .lst ds, e, h, h1, h2, hn => by
    cases e with
    | lst es =>
      simp only [toP, dlt]
      rw [PySem.W.dataLt_list]
      exact toPs_lt ds es (by simpa [alk] using h) (by simpa [plain] using h1) (by simpa [plain] using h2)
    | _ => simp [alk] at h
  | .dic _, e, h, h1, h2, hn => by simp [plain] at h1
  | .obj _, e, h, h1, h2, hn => by simp [plain] at h1
  | .fn _, e, h, h1, h2, hn => by simp [plain] at h1
  | .kd _, e, h, h1, h2, hn => by simp [plain] at h1
theorem toPs_lt : ∀ ds es : List D, alks ds es = true → plains ds = true → plains es = true → PyProof.Rows.lexLt PyProof.Rows.itemOrd (PySem.W.keyToksAll (toPs ds)) (PySem.W.keyToksAll (toPs es)) = dlts ds es
  | [], [], _, _, _ => by simp [toPs, dlts, PySem.W.keyToksAll, PyProof.Rows.lex_irrefl]
  | [], e :: es, _, _, _ => by
    simp only [toPs, dlts, PySem.W.keyToksAll]
    rw [PyProof.Rows.lex_diff (O := PyProof.Rows.itemOrd) (by simp)]
    simp [PyProof.Rows.itemOrd, PyProof.Rows.itemLt]
  | d :: ds, [], _, _, _ => by
    simp only [toPs, dlts, PySem.W.keyToksAll]
    rw [PyProof.Rows.lex_diff (O := PyProof.Rows.itemOrd) (by simp)]
    simp [PyProof.Rows.itemOrd, PyProof.Rows.itemLt]
  | d :: ds, e :: es, h, h1, h2 => by
    rw [plains, Bool.and_eq_true] at h1 h2
    rw [alks, Bool.and_eq_true] at h
    have ha := toP_alike d e h.1 h1.1 h2.1
    simp only [toPs, dlts]
    rw [PySem.W.dataLt_cons ha, toP_eqv d e h1.1 h2.1, toPs_lt ds es h.2 h1.2 h2.2]
    cases z : deq d e with
    | true => rfl
    | false =>
      simp only [Bool.false_eq_true, if_false]
      refine toP_lt d e h.1 h1.1 h2.1 ?_
      cases d with
      | non => cases e <;> first | (simp [alk] at h; done) | (simp [deq] at z; done)
      | _ => rfl
end
def rLtP (K : PySem.W.Frag) : R2 := fun x y H Q => ∃ d e, Dp K H x d ∧ Dp K H y e ∧ PySem.W.alike d e = true ∧ d ≠ .none ∧ min d.depth e.depth ≤ 60 ∧ Q (.bl (PySem.W.dataLt d e)) H
theorem op_ltP (hr : Room k X.A) : OpR X (compareOp .Lt) (rLtP X.K) := by
  intro pins s σ H x y v u Q I rx ry h
  obtain ⟨d, e, hd, he, ha, hn, hm, q⟩ := h
  obtain ⟨as, r1⟩ := Dp.reads I d x v hd rx
  obtain ⟨bs, r2⟩ := Dp.reads I e y u he ry
  exact PySem.W.rcLt_alike d e X.A s v u as bs r1 r2 ha hn (by have := hr.units; omega) X.prog X.w X.xe _ ⟨.bl _, H, I, rfl, q⟩
theorem od_lt {K : PySem.W.Frag} : OpD K (rLtP K) ltD := by
  intro F H x y d e Q s rx ry g
  unfold ltD at g
  split at g
  · rename_i z
    obtain ⟨z1, z2, z3, z4, z5⟩ := z
    obtain ⟨d1, d2⟩ := bo_dp s rx z1
    obtain ⟨e1, e2⟩ := bo_dp s ry z2
    refine ⟨_, _, d1, e1, toP_alike d e z3 z1 z2, ?_, by rw [toP_dep, toP_dep]; exact z5, ?_⟩
    · cases d <;> first | (simp [plain] at z1; done) | (simp [isNon] at z4; done) | (intro q; simp [toP] at q; done)
    · rw [toP_lt d e z3 z1 z2 z4]
      exact got_ok s g (.bl _)
  · exact g.elim
end
end Pv

namespace Pv
variable [HasW]
open PySem PySem.Spec L2
theorem _root_.L2.PE.or {X : Cx} {e : Expr} {t t' : TE} (h : PE X e t) (h' : PE X e t') : PE X e (fun σ H Q => t σ H Q ∨ t' σ H Q) := ⟨fun pins s σ H Q I q => q.elim (h.run pins s σ H Q I) (h'.run pins s σ H Q I)⟩
/-! ### is -/
section
variable {X : Cx} {k : Nat}
def rIsA : R2 := fun x y H Q => rIsB x y H Q ∨ (y = .non ∧ Q (.bl (decide (x = .non))) H)
def rNotA : R2 := fun x y H Q => rNotB x y H Q ∨ (y = .non ∧ Q (.bl (!decide (x = .non))) H)
theorem op_isA : OpR X (compareOp .Is) rIsA := OpR.or op_isBl op_isN
theorem op_notA : OpR X (compareOp .IsNot) rNotA := OpR.or op_notBl op_notN
theorem bo_isnon {K : PySem.W.Frag} {F H : Hp} {x : V} {d : D} (r : RBo K F H x d) (h : ∀ a, d ≠ .obj a) : decide (x = .non) = isNon d := by
  rcases r with r | ⟨a, e, _, r⟩
  · cases r <;> first | rfl | exact absurd rfl (h _)
  · subst e
    cases r <;> rfl
theorem od_is {K : PySem.W.Frag} : OpD K rIsA isD := by
  intro F H x y d e Q s rx ry g
  have key : ∀ b : Bool, (∀ a, d ≠ .obj a) → isNon d = b → e = .non → Got (RE K) WF F H [] Q (.ok (.bl b)) → rIsA x y H Q := fun b hd hb he g2 => by
    clear g
    subst he
    refine .inr ⟨bo_non ry, ?_⟩
    rw [bo_isnon rx hd, hb]
    exact got_ok s g2 (.bl b)
  cases e with
  | bl b =>
    cases d with
    | bl a => rw [bo_bl rx, bo_bl ry]; exact .inl ⟨a, b, rfl, rfl, got_ok s g (.bl _)⟩
    | _ => exact g.elim
  | non =>
    cases d with
    | dic _ => exact g.elim
    | obj _ => exact g.elim
    | fn _ => exact g.elim
    | kd _ => exact g.elim
    | _ => exact key _ (by intro a h; cases h) rfl rfl g
  | _ => cases d <;> exact g.elim
theorem od_isn {K : PySem.W.Frag} : OpD K rNotA isnD := by
  intro F H x y d e Q s rx ry g
  have key : ∀ b : Bool, (∀ a, d ≠ .obj a) → isNon d = b → e = .non → Got (RE K) WF F H [] Q (.ok (.bl (!b))) → rNotA x y H Q := fun b hd hb he g2 => by
    clear g
    subst he
    refine .inr ⟨bo_non ry, ?_⟩
    rw [bo_isnon rx hd, hb]
    exact got_ok s g2 (.bl _)
  cases e with
  | bl b =>
    cases d with
    | bl a => rw [bo_bl rx, bo_bl ry]; exact .inl ⟨a, b, rfl, rfl, got_ok s g (.bl _)⟩
    | _ => exact g.elim
  | non =>
    cases d with
    | dic _ => exact g.elim
    | obj _ => exact g.elim
    | fn _ => exact g.elim
    | kd _ => exact g.elim
    | _ => exact key _ (by intro a h; cases h) rfl rfl g
  | _ => cases d <;> exact g.elim
/-! ### dicts by keys -/
theorem rpk_look {K : PySem.W.Frag} {F : Hp} {key : List Nat} : ∀ {kvs : List (Key × V)} {ds : List (List Nat × D)}, RpK K F kvs ds → (∃ v d, valV kvs (Sum.inr (tx key)) = some v ∧ lookD ds key = some d ∧ Rp K F v d) ∨ (valV kvs (Sum.inr (tx key)) = none ∧ lookD ds key = none)
  | _, _, .nil => .inr ⟨rfl, rfl⟩
  | _, _, @RpK.cons _ _ _ k v kvs d ds z r t => by
    by_cases h : k = key
    · subst h
      exact .inl ⟨v, d, valV_pos rfl, by simp [lookD, List.find?_cons], r⟩
    · have h1 : ¬ ((Sum.inr (tx k) : Key) = Sum.inr (tx key)) := fun e => h (tx_inj (Sum.inr.inj e))
      have e1 : valV ((Sum.inr (tx k), v) :: kvs) (Sum.inr (tx key)) = valV kvs (Sum.inr (tx key)) := valV_neg h1
      have e2 : lookD ((k, d) :: ds) key = lookD ds key := by simp [lookD, List.find?_cons, h]
      rw [e1, e2]
      exact rpk_look t
theorem lookD_any (kvs : List (List Nat × D)) (k : List Nat) : (kvs.any fun kv => decide (kv.1 = k)) = (lookD kvs k).isSome := by
  induction kvs with
  | nil => rfl
  | cons kv r ih =>
    by_cases h : kv.1 = k
    · simp [lookD, List.find?_cons, h]
    · simp only [lookD, List.find?_cons, List.any_cons, decide_eq_false h, Bool.false_or] at ih ⊢
      exact ih
/-! ### in -/
def rInK (neg : Bool) : R2 := fun x y H Q => ∃ a o, y = .ref a ∧ DGet H a x o ∧ Q (.bl (if neg then !o.isSome else o.isSome)) H
theorem op_inK (hr : Room k X.A) : OpR X (compareOp .In) (rInK false) := by
  intro pins s σ H x y v u Q I rx ry h
  obtain ⟨a, o, rfl, g, q⟩ := h
  cases ry
  exact d_in (hu_of hr) I g rx fun s' I' => ⟨.bl _, H, I', rfl, q⟩
theorem op_ninK (hr : Room k X.A) : OpR X (compareOp .NotIn) (rInK true) := by
  intro pins s σ H x y v u Q I rx ry h
  obtain ⟨a, o, rfl, g, q⟩ := h
  cases ry
  exact d_notIn (hu_of hr) I g rx fun s' I' => ⟨.bl _, H, I', rfl, q⟩
def rInSg (neg : Bool) : R2 := fun x y H Q => ∃ (c : Nat) (z : Str), x = .str ⟨#[c]⟩ ∧ y = .str z ∧ Q (.bl (if neg then !decide (c ∈ z.cps.toList) else decide (c ∈ z.cps.toList))) H
def rInDp (K : PySem.W.Frag) (neg : Bool) : R2 := fun x y H Q => ∃ d ds, Dp K H x d ∧ Dp K H y (.list ds) ∧ SeqAt.shaped d = true ∧ SeqAt.shaped (.list ds) = true ∧ Q (.bl (if neg then !ds.any (fun z => PyData.eqv z d) else ds.any fun z => PyData.eqv z d)) H
def rInAll (K : PySem.W.Frag) (neg : Bool) : R2 := fun x y H Q => rInSg neg x y H Q ∨ rIn K neg x y H Q ∨ rInDp K neg x y H Q ∨ rInK neg x y H Q
theorem op_inAll (hr : Room k X.A) : OpR X (compareOp .In) (rInAll X.K false) := OpR.or op_in_sign (OpR.or op_in_seq (OpR.or (op_inD (by have := hr.un; omega)) (op_inK hr)))
theorem op_ninAll (hr : Room k X.A) : OpR X (compareOp .NotIn) (rInAll X.K true) := OpR.or op_notIn_sign (OpR.or op_notIn_seq (OpR.or (op_notInD (by have := hr.un; omega)) (op_ninK hr)))
theorem flat_V {K : PySem.W.Frag} {F H : Hp} {x : V} {d : D} (r : RBo K F H x d) (h : flat d = true) : flatV x = true ∧ Rp K F x d := by
  rcases r with r | ⟨a, e, _, r⟩
  · cases r <;> first | (rename_i z; exact ⟨rfl, .str _ z⟩) | exact ⟨rfl, by constructor⟩ | (simp [flat] at h)
  · cases r <;> simp [flat] at h
theorem eqV_deq {K : PySem.W.Frag} {F : Hp} {x y : V} {d e : D} (rx : Rp K F x d) (ry : Rp K F y e) (hd : flat d = true) (he : flat e = true) : eqV x y = deq d e := by
  cases rx <;> cases ry <;> first
    | (simp [flat] at hd; done)
    | (simp [flat] at he; done)
    | (simp [eqV, deq]; done)
    | (rename_i l1 z1 l2 z2; show (tx l1 == tx l2) = _; rw [tx_beq]; rfl)
    | (rename_i a b; cases a <;> simp [eqV, deq])
    | (rename_i a b; cases b <;> simp [eqV, deq])
theorem inV_deq {K : PySem.W.Frag} {F : Hp} {x : V} {d : D} (rx : Rp K F x d) (hd : flat d = true) : ∀ {vs : List V} {ds : List D}, RpA K F vs ds → ds.all flat = true → vs.all flatV = true ∧ inV x vs = ds.any fun z => deq z d
  | _, _, .nil, _ => ⟨rfl, rfl⟩
  | _, _, .cons r t, h => by
    rw [List.all_cons, Bool.and_eq_true] at h
    obtain ⟨h1, h2⟩ := inV_deq rx hd t h.2
    obtain ⟨f1, _⟩ := flat_V (H := E0h) (.inl r) h.1
    refine ⟨by rw [List.all_cons, f1, h1]; rfl, ?_⟩
    show (List.any (_ :: _) fun y => eqV y x) = _
    rw [List.any_cons, List.any_cons, eqV_deq r rx h.1 hd]
    show (_ || inV x _) = _
    rw [h2]
theorem any_eqv : ∀ (ds : List D) (d : D), plains ds = true → plain d = true → (toPs ds).any (fun z => PyData.eqv z (toP d)) = ds.any fun z => deq z d
  | [], _, _, _ => rfl
  | e :: ds, d, h, hd => by
    rw [plains, Bool.and_eq_true] at h
    rw [toPs, List.any_cons, List.any_cons, toP_eqv e d h.1 hd, any_eqv ds d h.2 hd]
theorem in_all {K : PySem.W.Frag} {neg : Bool} {F H : Hp} {x y : V} {d e : D} {Q : VK} (s : Sub F H) (rx : RBo K F H x d) (ry : RBo K F H y e) (g : Got (RE K) WF F H [] Q ((inB d e).bind fun b => .ok (.bl (if neg then !b else b)))) : rInAll K neg x y H Q := by
  have seqs : ∀ (a : Addr) (vs : List V) (ds : List D), y = .ref a → (SqL K H a vs ∨ SqT K H a vs) → RpA K F vs ds → flat d = true → ds.all flat = true → Got (RE K) WF F H [] Q (.ok (.bl (if neg then !(ds.any fun z => deq z d) else ds.any fun z => deq z d))) → rInAll K neg x y H Q := by
    intro a vs ds ey hq rv hd hds g
    obtain ⟨f1, rx'⟩ := flat_V rx hd
    obtain ⟨f2, e2⟩ := inV_deq rx' hd rv hds
    refine .inr (.inl ⟨a, vs, ey, hq, f1, f2, ?_⟩)
    rw [e2]
    exact got_ok s g (.bl _)
  cases e with
  | str l =>
    cases d with
    | str m =>
      obtain ⟨ex, hx⟩ := bo_str rx
      obtain ⟨ey, hy⟩ := bo_str ry
      match m with
      | [c] =>
        subst ex ey
        refine .inl ⟨c, tx l, rfl, rfl, ?_⟩
        rw [tx_list]
        exact got_ok s g (.bl _)
      | [] => exact g.elim
      | _ :: _ :: _ => exact g.elim
    | _ => exact g.elim
  | tup ds =>
    obtain ⟨a, vs, ey, hq, z, rv, _⟩ := bo_tup s ry
    have hB : inB d (.tup ds) = if flat d = true ∧ ds.all flat = true then .ok (ds.any fun z => deq z d) else .bad := by
      cases d <;> first | rfl | (rename_i m; match m with | [c] => rfl | [] => rfl | _ :: _ :: _ => rfl)
    rw [hB] at g
    by_cases h : flat d = true ∧ ds.all flat = true
    · rw [if_pos h] at g
      exact seqs a vs ds ey (.inr hq) rv h.1 h.2 g
    · rw [if_neg h] at g; exact g.elim
  | lst ds =>
    obtain ⟨a, vs, ey, hq, z, rv⟩ := bo_lst s ry
    have hB : inB d (.lst ds) = if flat d = true ∧ ds.all flat = true then .ok (ds.any fun z => deq z d) else if plain d = true ∧ plains ds = true ∧ dep d + deps ds ≤ 60 then .ok (ds.any fun z => deq z d) else .bad := by
      cases d <;> first | rfl | (rename_i m; match m with | [c] => rfl | [] => rfl | _ :: _ :: _ => rfl)
    rw [hB] at g
    by_cases h : flat d = true ∧ ds.all flat = true
    · rw [if_pos h] at g
      exact seqs a vs ds ey (.inl (.inl hq)) rv h.1 h.2 g
    · rw [if_neg h] at g
      by_cases h' : plain d = true ∧ plains ds = true ∧ dep d + deps ds ≤ 60
      · rw [if_pos h'] at g
        obtain ⟨p1, p2⟩ := bo_dp s rx h'.1
        obtain ⟨q1, q2⟩ := bo_dp s ry (show plain (.lst ds) = true by simpa [plain] using h'.2.1)
        rw [toP] at q1 q2
        refine .inr (.inr (.inl ⟨_, _, p1, q1, ?_, ?_, ?_⟩))
        · unfold SeqAt.shaped
          rw [p2, Bool.true_and]
          exact decide_eq_true (by rw [toP_dep]; omega)
        · unfold SeqAt.shaped
          rw [q2, Bool.true_and]
          exact decide_eq_true (by simp only [PyData.depth, toPs_dep]; omega)
        · rw [any_eqv ds d h'.2.1 h'.1]
          exact got_ok s g (.bl _)
      · rw [if_neg h'] at g; exact g.elim
  | dic ds =>
    obtain ⟨a, kvs, ey, hq, z, rv⟩ := bo_dic s ry
    cases d with
    | str m =>
      obtain ⟨ex, hx⟩ := bo_str rx
      have hB : inB (.str m) (.dic ds) = .ok (ds.any fun kv => decide (kv.1 = m)) := by
        match m with | [c] => rfl | [] => rfl | _ :: _ :: _ => rfl
      rw [hB] at g
      refine .inr (.inr (.inr ⟨a, valV kvs (Sum.inr (tx m)), ey, .inl ⟨kvs, Sum.inr (tx m), hq, ex, rfl⟩, ?_⟩))
      have e : (valV kvs (Sum.inr (tx m))).isSome = ds.any fun kv => decide (kv.1 = m) := by
        rw [lookD_any]
        rcases rpk_look (key := m) rv with ⟨v, d, h1, h2, _⟩ | ⟨h1, h2⟩ <;> rw [h1, h2] <;> rfl
      rw [e]
      exact got_ok s g (.bl _)
    | _ => exact g.elim
  | _ => cases d <;> first | exact g.elim | (rename_i m; match m with | [c] => exact g.elim | [] => exact g.elim | _ :: _ :: _ => exact g.elim) | (rename_i m _; match m with | [c] => exact g.elim | [] => exact g.elim | _ :: _ :: _ => exact g.elim)
theorem od_in {K : PySem.W.Frag} : OpD K (rInAll K false) inD := fun F H x y d e Q s rx ry g => in_all s rx ry g
theorem od_nin {K : PySem.W.Frag} : OpD K (rInAll K true) ninD := fun F H x y d e Q s rx ry g => in_all s rx ry g
/-! ### the operators by name -/
variable {ct : String → Addr} {W : WS} {e a b c : Expr} {es : List Expr} {pos : Pos} {ev ea eb ec : Xv}
theorem e_add (ha : PBv ct k X W a ea) (hb : PBv ct k X W b eb) : PEv ct k X W (.BinOp a .Add b pos) (xOp addD ea eb) := e_op od_add op_addA ha hb
theorem e_sub (ha : PBv ct k X W a ea) (hb : PBv ct k X W b eb) : PEv ct k X W (.BinOp a .Sub b pos) (xOp subD ea eb) := e_op od_sub op_sub ha hb
theorem e_mul (ha : PBv ct k X W a ea) (hb : PBv ct k X W b eb) : PEv ct k X W (.BinOp a .Mult b pos) (xOp mulD ea eb) := e_op od_mul op_mulA ha hb
theorem e_fdiv (ha : PBv ct k X W a ea) (hb : PBv ct k X W b eb) : PEv ct k X W (.BinOp a .FloorDiv b pos) (xOp fdivD ea eb) := e_op od_fdiv op_fdivW ha hb
theorem e_mod (ha : PBv ct k X W a ea) (hb : PBv ct k X W b eb) : PEv ct k X W (.BinOp a .Mod b pos) (xOp modD ea eb) := e_op od_mod op_mod ha hb
theorem e_pow (ha : PBv ct k X W a ea) (hb : PBv ct k X W b eb) : PEv ct k X W (.BinOp a .Pow b pos) (xOp powD ea eb) := e_op od_pow op_pow ha hb
theorem e_lt (ha : PBv ct k X W a ea) (hb : PBv ct k X W b eb) : PEv ct k X W (.Compare a [.Lt] [b] pos) (xOp ltD ea eb) := fun C => e_cmp od_lt (op_ltP C.room) ha hb (nomark _) C
theorem e_le (ha : PBv ct k X W a ea) (hb : PBv ct k X W b eb) : PEv ct k X W (.Compare a [.LtE] [b] pos) (xOp leD ea eb) := fun C => e_cmp od_le op_le ha hb (nomark _) C
theorem e_gt (ha : PBv ct k X W a ea) (hb : PBv ct k X W b eb) : PEv ct k X W (.Compare a [.Gt] [b] pos) (xOp gtD ea eb) := fun C => e_cmp od_gt op_gt ha hb (nomark _) C
theorem e_ge (ha : PBv ct k X W a ea) (hb : PBv ct k X W b eb) : PEv ct k X W (.Compare a [.GtE] [b] pos) (xOp geD ea eb) := fun C => e_cmp od_ge op_ge ha hb (nomark _) C
theorem e_eq (ha : PBv ct k X W a ea) (hb : PBv ct k X W b eb) : PEv ct k X W (.Compare a [.Eq] [b] pos) (xOp eqD ea eb) := fun C => e_cmp od_eq (op_eqP C.room) ha hb (nomark _) C
theorem e_ne (ha : PBv ct k X W a ea) (hb : PBv ct k X W b eb) : PEv ct k X W (.Compare a [.NotEq] [b] pos) (xOp neD ea eb) := fun C => e_cmp od_ne (op_neP C.room) ha hb (nomark _) C
theorem e_is (ha : PBv ct k X W a ea) (hb : PBv ct k X W b eb) : PEv ct k X W (.Compare a [.Is] [b] pos) (xOp isD ea eb) := fun C => e_cmp od_is op_isA ha hb (nomark _) C
theorem e_isn (ha : PBv ct k X W a ea) (hb : PBv ct k X W b eb) : PEv ct k X W (.Compare a [.IsNot] [b] pos) (xOp isnD ea eb) := fun C => e_cmp od_isn op_notA ha hb (nomark _) C
theorem e_in (ha : PBv ct k X W a ea) (hb : PBv ct k X W b eb) (hm : behindInMarks .In b = false := by with_unfolding_all rfl) : PEv ct k X W (.Compare a [.In] [b] pos) (xOp inD ea eb) := fun C => e_cmp od_in (op_inAll C.room) ha hb hm C
theorem e_nin (ha : PBv ct k X W a ea) (hb : PBv ct k X W b eb) (hm : behindInMarks .NotIn b = false := by with_unfolding_all rfl) : PEv ct k X W (.Compare a [.NotIn] [b] pos) (xOp ninD ea eb) := fun C => e_cmp od_nin (op_ninAll C.room) ha hb hm C
theorem t_lt (ha : PBv ct k X W a ea) (hb : PBv ct k X W b eb) : PTv ct k X W (.Compare a [.Lt] [b] pos) (tVal (xOp ltD ea eb)) := fun C => t_cmp od_lt (op_ltP C.room) ha hb (nomark _) C
theorem t_le (ha : PBv ct k X W a ea) (hb : PBv ct k X W b eb) : PTv ct k X W (.Compare a [.LtE] [b] pos) (tVal (xOp leD ea eb)) := fun C => t_cmp od_le op_le ha hb (nomark _) C
theorem t_gt (ha : PBv ct k X W a ea) (hb : PBv ct k X W b eb) : PTv ct k X W (.Compare a [.Gt] [b] pos) (tVal (xOp gtD ea eb)) := fun C => t_cmp od_gt op_gt ha hb (nomark _) C
theorem t_ge (ha : PBv ct k X W a ea) (hb : PBv ct k X W b eb) : PTv ct k X W (.Compare a [.GtE] [b] pos) (tVal (xOp geD ea eb)) := fun C => t_cmp od_ge op_ge ha hb (nomark _) C
theorem t_eq (ha : PBv ct k X W a ea) (hb : PBv ct k X W b eb) : PTv ct k X W (.Compare a [.Eq] [b] pos) (tVal (xOp eqD ea eb)) := fun C => t_cmp od_eq (op_eqP C.room) ha hb (nomark _) C
theorem t_ne (ha : PBv ct k X W a ea) (hb : PBv ct k X W b eb) : PTv ct k X W (.Compare a [.NotEq] [b] pos) (tVal (xOp neD ea eb)) := fun C => t_cmp od_ne (op_neP C.room) ha hb (nomark _) C
theorem t_is (ha : PBv ct k X W a ea) (hb : PBv ct k X W b eb) : PTv ct k X W (.Compare a [.Is] [b] pos) (tVal (xOp isD ea eb)) := fun C => t_cmp od_is op_isA ha hb (nomark _) C
theorem t_isn (ha : PBv ct k X W a ea) (hb : PBv ct k X W b eb) : PTv ct k X W (.Compare a [.IsNot] [b] pos) (tVal (xOp isnD ea eb)) := fun C => t_cmp od_isn op_notA ha hb (nomark _) C
theorem t_in (ha : PBv ct k X W a ea) (hb : PBv ct k X W b eb) (hm : behindInMarks .In b = false := by with_unfolding_all rfl) : PTv ct k X W (.Compare a [.In] [b] pos) (tVal (xOp inD ea eb)) := fun C => t_cmp od_in (op_inAll C.room) ha hb hm C
theorem t_nin (ha : PBv ct k X W a ea) (hb : PBv ct k X W b eb) (hm : behindInMarks .NotIn b = false := by with_unfolding_all rfl) : PTv ct k X W (.Compare a [.NotIn] [b] pos) (tVal (xOp ninD ea eb)) := fun C => t_cmp od_nin (op_ninAll C.room) ha hb hm C
/-- a <= b <= c -/
theorem e_chain {op op' : CmpOp} {r r' : R2} {f g' : D → D → Res D} (hd : OpD X.K r f) (hd' : OpD X.K r' g') (ho : OpR X (compareOp op) r) (ho' : OpR X (compareOp op') r') (ha : PBv ct k X W a ea) (hb : PBv ct k X W b eb) (hc : PBv ct k X W c ec)
    (hm : lastMarks [op, op'] [b, c] = false := by with_unfolding_all rfl) : PEv ct k X W (.Compare a [op, op'] [b, c] pos) (xChain f g' ea eb ec) := fun C =>
  (pe_chain ho ho' (ha C) (hb C) (hc C) hm).imp fun σ H Q ⟨H0, F0, F, env, S, g⟩ => seq S g fun x d F1 H1 S1 g1 rx q1 => seq S1 q1 fun y e F2 H2 S2 g2 ry q2 => by
    refine hd F2 H2 x y d e _ S2.sub (rx.grow g2) ry ?_
    cases z : f d e with
    | ok w' =>
      rw [z] at q2
      intro v F' H' g3 r3
      cases w' with
      | bl kk =>
        refine ⟨kk, rp_bl r3, ?_⟩
        have q3 : Got (RE X.K) W F2 H2 σ Q (if kk = true then (ec env).bind fun w => (g' e w).calm else .ok (.bl false)) := q2
        cases kk with
        | true =>
          simp only [if_true] at q3 ⊢
          exact seq (S2.grow g3) (Got.grow g3 q3) fun w d3 F4 H4 S4 g4 rw4 q4 => hd' F4 H4 y w e d3 Q S4.sub ((ry.grow g3).grow g4) rw4 (got_wf q4)
        | false =>
          simp only [Bool.false_eq_true, if_false] at q3 ⊢
          exact q3 _ F' H' g3 (.bl false)
      | _ => exact (show False from q2).elim
    | exc c => rw [z] at q2; exact (show False from q2).elim
    | bad => rw [z] at q2; exact (show False from q2).elim
theorem e_lele (ha : PBv ct k X W a ea) (hb : PBv ct k X W b eb) (hc : PBv ct k X W c ec) (hm : lastMarks [.LtE, .LtE] [b, c] = false := by with_unfolding_all rfl) : PEv ct k X W (.Compare a [.LtE, .LtE] [b, c] pos) (xChain leD leD ea eb ec) := e_chain od_le od_le op_le op_le ha hb hc hm
theorem e_neg {i : Int} {j} {p} : PEv ct k X W (.UnaryOp .USub (.Constant (.int i) j p) pos) (xC (.int (-i))) := fun C =>
  (pe_un un_neg pe_int).imp fun σ H Q ⟨H0, F0, F, env, S, g⟩ => ⟨i, rfl, g _ F H (.refl S.sub) (.int _)⟩
end
end Pv

namespace Pv
variable [HasW]
open PySem PySem.Spec L2
theorem seqE {α β γ δ : Type} {Rel : Hp → Hp → β → α → Prop} {Rel2 : Hp → Hp → δ → γ → Prop} {W : WS} {K : PySem.W.Frag} {ev : En → Res α} {kk : α → Res γ} {Q : δ → Hp → Prop} {R : β → Hp → Prop}
    {H0 F0 F H : Hp} {σ : St} {env : En} (S : SR K H0 F0 F H σ env) (g : Got Rel2 W F H σ Q ((ev env).bind kk))
    (h : ∀ v d F1 H1, ev env = .ok d → SR K H0 F0 F1 H1 σ env → Gd F H F1 H1 → Rel F1 H1 v d → Got Rel2 W F1 H1 σ Q (kk d) → R v H1) : rd K Rel W ev σ H R := by
  refine ⟨H0, F0, F, env, S, ?_⟩
  cases e : ev env with
  | ok d => rw [e] at g; exact fun v F1 H1 gd r => h v d F1 H1 e (S.grow gd) gd r (Got.grow gd g)
  | exc c => rw [e] at g; exact g
  | bad => rw [e] at g; exact g.elim
section
variable {ct : String → Addr} {k : Nat} {X : Cx} {W : WS} {e a b c : Expr} {es : List Expr} {pos : Pos} {ev ea eb ec : Xv}
/-! ### items -/
theorem ixN_eq (n : Nat) (i : Int) : Pv.ixN n i = L2.ixN n i := rfl
theorem atI_rp {K : PySem.W.Frag} {F : Hp} {vs : List V} {ds : List D} {i : Int} {d : D} (r : RpA K F vs ds) (h : atD ds i = some d) : ∃ v, atI vs i = some v ∧ Rp K F v d := by
  unfold atD at h
  rw [ixN_eq] at h
  cases z : L2.ixN ds.length i with
  | none => rw [z] at h; cases h
  | some j =>
    rw [z] at h
    obtain ⟨v, h1, h2⟩ := r.getD (show ds[j]? = some d from h)
    refine ⟨v, ?_, h2⟩
    unfold atI
    rw [r.length, z]
    exact h1
theorem ix_seqD {K : PySem.W.Frag} {F H : Hp} {x y : V} {d e : D} {Q : VK} (hd : isDic d = false) (s : Sub F H) (rx : RBo K F H x d) (ry : RBo K F H y e) (g : Got (RE K) WF F H [] Q (ixD d e)) : rIx K x y H Q := by
  cases d with
  | lst ds =>
    cases e with
    | int i =>
      obtain ⟨p, vs, ex, hq, z, rv⟩ := bo_lst s rx
      dsimp only [ixD] at g
      cases q : atD ds i with
      | none => rw [q] at g; exact g.elim
      | some d3 =>
        rw [q] at g
        obtain ⟨v, h1, h2⟩ := atI_rp rv q
        exact .inl ⟨p, vs, i, v, ex, bo_int ry, .inl hq, h1, got_ok s g h2⟩
    | _ => exact g.elim
  | tup ds =>
    cases e with
    | int i =>
      obtain ⟨p, vs, ex, hq, z, rv, _⟩ := bo_tup s rx
      dsimp only [ixD] at g
      cases q : atD ds i with
      | none => rw [q] at g; exact g.elim
      | some d3 =>
        rw [q] at g
        obtain ⟨v, h1, h2⟩ := atI_rp rv q
        exact .inr (.inl ⟨p, vs, i, v, ex, bo_int ry, hq, h1, got_ok s g h2⟩)
    | _ => exact g.elim
  | str l =>
    cases e with
    | int i =>
      obtain ⟨ex, hx⟩ := bo_str rx
      dsimp only [ixD] at g
      cases q : atD l i with
      | none => rw [q] at g; exact g.elim
      | some c =>
        rw [q] at g
        have hc : c ∈ l := by
          unfold atD at q
          cases z : Pv.ixN l.length i with
          | none => rw [z] at q; cases q
          | some j => rw [z] at q; exact List.mem_of_getElem? q
        refine .inr (.inr ⟨tx l, i, c, ex, bo_int ry, by rw [tx_len, lim]; exact hx.1, ?_, ?_⟩)
        · rw [tx_list]; exact q
        · exact got_ok s g (.str [c] ⟨(by show (1:Nat) ≤ 16777216; decide), fun c' h => by rw [List.mem_singleton.mp h]; exact hx.2 c hc⟩)
    | _ => exact g.elim
  | dic _ => cases hd
  | _ => cases e <;> exact g.elim
theorem e_ix (ha : PBv ct k X W a ea) (hb : PBv ct k X W b eb) (hs : ∀ o i, subscripted b false o i = operate [o, i] (getItem o i) := by exact fun _ _ => rfl) : PEv ct k X W (.Subscript a b pos) (xOp ixD ea eb) := fun C =>
  ((pe_ix ix_seq (ha C) (hb C) hs).or (pe_dget (hu_of C.room) (ha C) (hb C) hs)).imp fun σ H Q ⟨H0, F0, F, env, S, g⟩ => by
    by_cases hD : ∃ kvs, ea env = .ok (.dic kvs)
    · obtain ⟨kvs, z⟩ := hD
      refine .inr (seqE S g fun x d' F1 H1 ee S1 g1 rx q1 => seq S1 q1 fun y e F2 H2 S2 g2 ry q2 => ?_)
      rw [z] at ee
      cases ee
      have q3 := got_wf q2
      cases e with
      | str m =>
        obtain ⟨a', kvs', ex, hq, _, rv⟩ := bo_dic S2.sub (rx.grow g2)
        obtain ⟨ey, hy⟩ := bo_str ry
        rcases rpk_look (key := m) rv with ⟨v, d3, h1, h2, r3⟩ | ⟨h1, h2⟩
        · refine ⟨a', v, ex, .inl ⟨kvs', Sum.inr (tx m), hq, ey, h1.symm⟩, ?_⟩
          dsimp only [ixD] at q3
          rw [h2] at q3
          exact got_ok S2.sub q3 r3
        · dsimp only [ixD] at q3
          rw [h2] at q3
          exact q3.elim
      | _ => exact q3.elim
    · refine .inl (seqE S g fun x d' F1 H1 ee S1 g1 rx q1 => seq S1 q1 fun y e F2 H2 S2 g2 ry q2 => ix_seqD ?_ S2.sub (rx.grow g2) ry (got_wf q2))
      cases d' with
      | dic kvs => exact absurd ⟨kvs, ee⟩ hD
      | _ => rfl
/-! ### slices -/
theorem sIx_eq (n d : Nat) (o : Option Int) : Pv.sIx n d o = HT.sIx n d o := by
  cases o with
  | none => rfl
  | some v =>
    have h := HT.clip_eq v n d
    unfold Pv.sIx
    dsimp only
    rw [h]
    rfl
theorem cut_len {α : Type} (xs : List α) (lo hi : Option Int) : (cutD xs lo hi).length ≤ xs.length := by
  unfold cutD
  rw [List.length_take, List.length_drop]
  omega
theorem cut_rp {K : PySem.W.Frag} {F : Hp} {vs : List V} {ds : List D} (r : RpA K F vs ds) (lo hi : Option Int) : RpA K F (cutV vs lo hi) (cutD ds lo hi) := by
  unfold cutV cutD
  rw [r.length, ← sIx_eq, ← sIx_eq]
  exact (r.drop _).take _
theorem cut_tx (l : List Nat) (lo hi : Option Int) : cutS (tx l) lo hi = tx (cutD l lo hi) := by
  apply tx_of
  unfold cutS
  simp only [tx_len, tx_list]
  unfold cutD
  rw [← sIx_eq, ← sIx_eq]
def POv (ct : String → Addr) (k : Nat) (X : Cx) (W : WS) (e : Option Expr) (o : Option Xv) : Prop := Cz ct k X W → PO X e (rd X.K (fun _ _ (x y : Option Int) => x = y) W (oI o))
theorem _root_.L2.PO.imp {X : Cx} {e : Option Expr} {t t' : TO} (h : PO X e t) (i : ∀ σ H Q, t' σ H Q → t σ H Q) : PO X e t' := ⟨fun pins s σ H Q I q => h.run pins s σ H Q I (i _ _ _ q)⟩
theorem o_none : POv ct k X W none none := fun C => po_none.imp fun σ H Q ⟨H0, F0, F, env, S, g⟩ => g none F H (.refl S.sub) rfl
theorem o_some (h : PEv ct k X W e ev) : POv ct k X W (some e) (some ev) := fun C => (po_some (h C)).imp fun σ H Q ⟨H0, F0, F, env, S, g⟩ => seq S g fun v d F1 H1 S1 g1 rv q => by
  cases d with
  | int i => exact ⟨i, bo_int (H := H1) (.inl rv), q _ F1 H1 (.refl S1.sub) rfl⟩
  | _ => exact q.elim
def rSlAll (K : PySem.W.Frag) : V → Option Int → Option Int → Hp → VK → Prop := fun x lo hi H Q => rSlL K x lo hi H Q ∨ rSlA K x lo hi H Q ∨ rSlS x lo hi H Q
theorem sl_all : SlR X (rSlAll X.K) := SlR.or sl_list (SlR.or sl_tupA sl_str)
theorem e_sl {lo hi : Option Expr} {olo ohi : Option Xv} {p2 : Pos} (ha : PBv ct k X W a ea) (hl : POv ct k X W lo olo) (hh : POv ct k X W hi ohi) : PEv ct k X W (.Subscript a (.Slice lo hi none p2) pos) (xSl ea olo ohi) := fun C =>
  (pe_slice sl_all (ha C) (hl C) (hh C)).imp fun σ H Q ⟨H0, F0, F, env, S, g⟩ => seq S g fun x d F1 H1 S1 g1 rx q1 => seq S1 q1 fun l l' F2 H2 S2 g2 el q2 => seq S2 q2 fun h h' F3 H3 S3 g3 eh q3 => by
    subst el eh
    have g4 := got_wf q3
    have rx := (rx.grow g2).grow g3
    cases d with
    | lst ds =>
      obtain ⟨p, vs, ex, hq, z, rv⟩ := bo_lst S3.sub rx
      refine .inl ⟨p, vs, ex, .inl hq, fun p' np => got_new S3.sub g4 np fun ff => .lst upd_same ?_ ((cut_rp rv _ _).mono ff)⟩
      exact Nat.le_trans (cutV_length _ _ _) z
    | tup ds =>
      obtain ⟨p, vs, ex, hq, z, rv, Rx⟩ := bo_tup S3.sub rx
      refine .inr (.inl ⟨p, vs, ex, hq, fun hw => ?_, fun _ p' np => got_new S3.sub g4 np fun ff => .tup (.inl upd_same) (Nat.le_trans (cutV_length _ _ _) z) ((cut_rp rv _ _).mono ff)⟩)
      have e : cutD ds l h = ds := by
        unfold cutD
        rw [sIx_eq, sIx_eq, ← rv.length, hw.1, hw.2, rv.length]
        simp
      have g5 : Got (RE X.K) WF F3 H3 [] Q (.ok (.tup (cutD ds l h))) := g4
      rw [e] at g5
      rw [← ex]
      exact got_ok S3.sub g5 Rx
    | str m =>
      obtain ⟨ex, hx⟩ := bo_str rx
      refine .inr (.inr ⟨tx m, ex, by rw [tx_len, lim]; exact hx.1, ?_⟩)
      rw [cut_tx]
      refine got_ok S3.sub g4 (.str _ ⟨Nat.le_trans (cut_len _ _ _) hx.1, fun c hc => hx.2 c ?_⟩)
      unfold cutD at hc
      exact List.mem_of_mem_drop (List.mem_of_mem_take hc)
    | _ => exact g4.elim
/-! ### built-ins of one argument -/
def UnD (K : PySem.W.Frag) (r : List V → Hp → VK → Prop) (f : D → Res D) : Prop := ∀ F H x d (Q : VK), Sub F H → RBo K F H x d → Got (RE K) WF F H [] Q (f d) → r [x] H Q
theorem e_blt {id : String} {r : List V → Hp → VK → Prop} {f : D → Res D} {x : Str} {p : Pos} (hd : UnD X.K r f) (hc : X.calm = true → CallR X (.builtin id) r) (hm : X.mg x = none) (hv : bootBuiltins x = some (.builtin id)) (ha : PBv ct k X W a ea)
    (hg : Gl X x := by rfl) (hn : x ≠ "__name__" := by decide) (hdb : (x == ("__debug__" : Str)) = false := by decide) (he : starEach [a] X.env = (false, eval a X.env) :: starEach [] X.env := by rfl) : PEv ct k X W (.Call (.Name x p) [a] [] pos) (xU f ea) := fun C =>
  (pe_callB (hc C.calm) hg hm hv (pa_cons (ha C) pa_nil he) hn hdb he).imp fun σ H Q ⟨H0, F0, F, env, S, g⟩ => seq S g fun v d F1 H1 S1 g1 rv q => hd F1 H1 v d Q S1.sub rv (got_wf q)
theorem e_bty {T : String} {r : List V → Hp → VK → Prop} {f : D → Res D} {x : Str} {p : Pos} (hd : UnD X.K r f) (hc : X.calm = true → CallR X (.type T) r) (hm : X.mg x = none) (hv : bootBuiltins x = some (.type T)) (ha : PBv ct k X W a ea)
    (hg : Gl X x := by rfl) (hn : x ≠ "__name__" := by decide) (hdb : (x == ("__debug__" : Str)) = false := by decide) (he : starEach [a] X.env = (false, eval a X.env) :: starEach [] X.env := by rfl) : PEv ct k X W (.Call (.Name x p) [a] [] pos) (xU f ea) := fun C =>
  (pe_callTy (hc C.calm) hg hm hv (pa_cons (ha C) pa_nil he) hn hdb he).imp fun σ H Q ⟨H0, F0, F, env, S, g⟩ => seq S g fun v d F1 H1 S1 g1 rv q => hd F1 H1 v d Q S1.sub rv (got_wf q)
def rLenA (K : PySem.W.Frag) : List V → Hp → VK → Prop := fun xs H Q => (∃ x n, xs = [x] ∧ LenV K x H n ∧ Q (.int n) H) ∨ ∃ a kvs, xs = [.ref a] ∧ Rd H a (.dK kvs) ∧ Q (.int kvs.length) H
theorem cr_lenA : CallR X (.builtin "len") (rLenA X.K) := CallR.or call_len (by
  intro pins s σ H xs us Q I r h
  obtain ⟨p, kvs, rfl, hp, q⟩ := h
  obtain ⟨u, rfl, ru⟩ := vals1 r
  cases ru
  exact d_len I hp fun t s' I' => ⟨.int _, H, I', ⟨t, rfl⟩, q⟩)
theorem ud_len {K : PySem.W.Frag} : UnD K (rLenA K) lenD := by
  intro F H x d Q s rx g
  cases d with
  | lst ds =>
    obtain ⟨p, vs, ex, hq, z, rv⟩ := bo_lst s rx
    subst ex
    refine .inl ⟨_, _, rfl, .inl ⟨vs, .inl hq, rfl⟩, ?_⟩
    rw [rv.length]
    exact got_ok s g (.int _)
  | tup ds =>
    obtain ⟨p, vs, ex, hq, z, rv, _⟩ := bo_tup s rx
    subst ex
    refine .inl ⟨_, _, rfl, .inr ⟨vs, hq, rfl⟩, ?_⟩
    rw [rv.length]
    exact got_ok s g (.int _)
  | str l =>
    obtain ⟨ex, hx⟩ := bo_str rx
    subst ex
    refine .inl ⟨_, _, rfl, ⟨by rw [tx_len, lim]; exact hx.1, rfl⟩, ?_⟩
    rw [tx_len]
    exact got_ok s g (.int _)
  | dic ds =>
    obtain ⟨p, vs, ex, hq, z, rv⟩ := bo_dic s rx
    subst ex
    refine .inr ⟨_, _, rfl, hq, ?_⟩
    rw [rv.length]
    exact got_ok s g (.int _)
  | _ => exact g.elim
theorem asBs_rp {K : PySem.W.Frag} {F : Hp} : ∀ {vs : List V} {ds : List D} {bs : List Bool}, RpA K F vs ds → asBs ds = some bs → vs = bs.map V.bl
  | _, _, bs, .nil, h => by
    have e : [] = bs := Option.some.inj h
    subst e; rfl
  | _, _, bs, .cons r t, h => by
    cases r with
    | bl b =>
      unfold asBs at h
      cases z : asBs _ with
      | none => rw [z] at h; cases h
      | some bs' =>
        rw [z] at h
        have e : b :: bs' = bs := Option.some.inj h
        subst e
        rw [asBs_rp t z]
        rfl
    | _ => cases h
theorem ud_all {K : PySem.W.Frag} : UnD K (rAll K) allD := by
  intro F H x d Q s rx g
  cases d with
  | lst ds =>
    obtain ⟨p, vs, ex, hq, z, rv⟩ := bo_lst s rx
    subst ex
    dsimp only [allD] at g
    cases q : asBs ds with
    | none => rw [q] at g; exact g.elim
    | some bs =>
      rw [q] at g
      have e := asBs_rp rv q
      subst e
      exact ⟨p, bs, rfl, .inl hq, got_ok s g (.bl _)⟩
  | _ => exact g.elim
theorem ud_any {K : PySem.W.Frag} : UnD K (rAny K) anyD := by
  intro F H x d Q s rx g
  cases d with
  | lst ds =>
    obtain ⟨p, vs, ex, hq, z, rv⟩ := bo_lst s rx
    subst ex
    dsimp only [anyD] at g
    cases q : asBs ds with
    | none => rw [q] at g; exact g.elim
    | some bs =>
      rw [q] at g
      have e := asBs_rp rv q
      subst e
      exact ⟨p, bs, rfl, .inl hq, got_ok s g (.bl _)⟩
  | _ => exact g.elim
theorem ud_int {K : PySem.W.Frag} : UnD K (fun xs H Q => (∃ i, xs = [.int i] ∧ Q (.int i) H) ∨ ∃ k, xs = [.bl k] ∧ Q (.int (if k then 1 else 0)) H) intD := by
  intro F H x d Q s rx g
  cases d with
  | int i => rw [bo_int rx]; exact .inl ⟨i, rfl, got_ok s g (.int _)⟩
  | bl b => rw [bo_bl rx]; exact .inr ⟨b, rfl, got_ok s g (.int _)⟩
  | _ => exact g.elim
theorem ud_tup {K : PySem.W.Frag} : UnD K (fun xs H Q => ∃ p ys, xs = [.ref p] ∧ ((SqL K H p ys ∧ ∀ l, H l = none → Q (.ref l) (upd H l (.tup ys))) ∨ (SqT K H p ys ∧ Q (.ref p) H))) tupD := by
  intro F H x d Q s rx g
  cases d with
  | lst ds =>
    obtain ⟨p, vs, ex, hq, z, rv⟩ := bo_lst s rx
    subst ex
    exact ⟨p, vs, rfl, .inl ⟨.inl hq, fun l nl => got_new s g nl fun ff => .tup (.inl upd_same) z (rv.mono ff)⟩⟩
  | tup ds =>
    obtain ⟨p, vs, ex, hq, z, rv, Rx⟩ := bo_tup s rx
    subst ex
    exact ⟨p, vs, rfl, .inr ⟨hq, got_ok s g Rx⟩⟩
  | _ => exact g.elim
theorem e_len {p : Pos} (hm : X.mg "len" = none) (ha : PBv ct k X W a ea) (hg : Gl X "len" := by rfl) (he : starEach [a] X.env = (false, eval a X.env) :: starEach [] X.env := by rfl) : PEv ct k X W (.Call (.Name "len" p) [a] [] pos) (xU lenD ea) := e_blt ud_len (fun _ => cr_lenA) hm PySem.boot_len ha hg (by decide) (by decide) he
theorem e_all {p : Pos} (hm : X.mg "all" = none) (ha : PBv ct k X W a ea) (hg : Gl X "all" := by rfl) (he : starEach [a] X.env = (false, eval a X.env) :: starEach [] X.env := by rfl) : PEv ct k X W (.Call (.Name "all" p) [a] [] pos) (xU allD ea) := e_blt ud_all (fun h => cr_all h) hm (by decide +kernel) ha hg (by decide) (by decide) he
theorem e_any {p : Pos} (hm : X.mg "any" = none) (ha : PBv ct k X W a ea) (hg : Gl X "any" := by rfl) (he : starEach [a] X.env = (false, eval a X.env) :: starEach [] X.env := by rfl) : PEv ct k X W (.Call (.Name "any" p) [a] [] pos) (xU anyD ea) := e_blt ud_any (fun h => cr_any h) hm (by decide +kernel) ha hg (by decide) (by decide) he
theorem e_toint {p : Pos} (hm : X.mg "int" = none) (ha : PBv ct k X W a ea) (hg : Gl X "int" := by rfl) (he : starEach [a] X.env = (false, eval a X.env) :: starEach [] X.env := by rfl) : PEv ct k X W (.Call (.Name "int" p) [a] [] pos) (xU intD ea) := e_bty ud_int (fun _ => call_int1) hm (by decide +kernel) ha hg (by decide) (by decide) he
theorem e_totup {p : Pos} (hm : X.mg "tuple" = none) (ha : PBv ct k X W a ea) (hg : Gl X "tuple" := by rfl) (he : starEach [a] X.env = (false, eval a X.env) :: starEach [] X.env := by rfl) : PEv ct k X W (.Call (.Name "tuple" p) [a] [] pos) (xU tupD ea) := e_bty ud_tup (fun _ => call_tuple_of) hm (by decide +kernel) ha hg (by decide) (by decide) he
/-! ### isinstance(x, T) -/
def tyN : Ty → String
  | .int => "int" | .bool => "bool" | .str => "str" | .tuple => "tuple" | .list => "list"
theorem kit_one {K : PySem.W.Frag} : ∀ T : Ty, PySem.W.kitOne K (.type "NoneType") (.type (tyN T)) = some false ∧ PySem.W.kitOne K (.type "bool") (.type (tyN T)) = some (match T with | .int => true | .bool => true | _ => false) ∧
    PySem.W.kitOne K (.type "int") (.type (tyN T)) = some (match T with | .int => true | _ => false) ∧ PySem.W.kitOne K (.type "str") (.type (tyN T)) = some (match T with | .str => true | _ => false) ∧
    PySem.W.kitOne K (.type "tuple") (.type (tyN T)) = some (match T with | .tuple => true | _ => false) ∧ PySem.W.kitOne K (.type "list") (.type (tyN T)) = some (match T with | .list => true | _ => false) ∧
    PySem.W.kitOne K (.type "dict") (.type (tyN T)) = some false := by
  intro T
  cases T <;> exact ⟨kit_ty (by decide +kernel), kit_ty (by decide +kernel), kit_ty (by decide +kernel), kit_ty (by decide +kernel), kit_ty (by decide +kernel), kit_ty (by decide +kernel), kit_ty (by decide +kernel)⟩
theorem isi_read {K : PySem.W.Frag} {F H : Hp} {x : V} {d : D} {Q : VK} {T : Ty} (s : Sub F H) (rx : RBo K F H x d) (g : Got (RE K) WF F H [] Q (isiD T d)) : rIsi K [x, .ty (tyN T)] H Q := by
  obtain ⟨k1, k2, k3, k4, k5, k6, k7⟩ := kit_one (K := K) T
  have fin : ∀ (t : String) (bb : Bool), TyX K H x (.type t) → PySem.W.kitOne K (.type t) (.type (tyN T)) = some bb → isiB T d = some bb → rIsi K [x, .ty (tyN T)] H Q := fun t bb ty kk e => by
    unfold isiD at g
    rw [e] at g
    exact ⟨x, _, _, _, bb, rfl, .ty _, ty, kk, got_ok s g (.bl _)⟩
  rcases rx with r | ⟨a, e, _, r⟩
  · cases r with
    | non => exact fin _ _ (.base .non) k1 (by cases T <;> rfl)
    | bl b => exact fin _ _ (.base (.bl b)) k2 (by cases T <;> rfl)
    | int i => exact fin _ _ (.base (.int i)) k3 (by cases T <;> rfl)
    | str l z => exact fin _ _ (.base (.str _)) k4 (by cases T <;> rfl)
    | tup q z r =>
      refine fin "tuple" _ ?_ k5 (by cases T <;> rfl)
      rcases s.tup q with (h | ⟨o, h⟩) | ⟨o, its, n, h1, h2, _⟩
      · exact .base (.tup h)
      · exact .fTuple h
      · exact .kTuple h1 h2
    | lst q z r =>
      refine fin "list" _ ?_ k6 (by cases T <;> rfl)
      rcases s _ _ q with h | ⟨o, h⟩
      · exact .base (.lst h)
      · exact .base (.frz h)
    | dic q z r =>
      refine fin "dict" _ ?_ k7 (by cases T <;> rfl)
      rcases s _ _ q with h | ⟨o, h⟩
      · exact .base (.dK h)
      · exact .fDict h
    | obj a =>
      unfold isiD at g
      cases T <;> exact g.elim
    | fn a =>
      unfold isiD at g
      cases T <;> exact g.elim
    | kd _ _ _ =>
      unfold isiD at g
      cases T <;> exact g.elim
  · subst e
    cases r with
    | lst q z r => exact fin "list" _ (.base (.lst q)) k6 (by cases T <;> rfl)
    | dic q z r => exact fin "dict" _ (.base (.dK q)) k7 (by cases T <;> rfl)
    | kd q z r =>
      unfold isiD at g
      cases T <;> exact g.elim
theorem e_isi {p p2 : Pos} {x : Str} (T : Ty) (hm : X.mg "isinstance" = none) (hmx : X.mg x = none) (hx : bootBuiltins x = some (.type (tyN T))) (ha : PBv ct k X W a ea) (hg : Gl X "isinstance" := by rfl) (hgx : Gl X x := by rfl) (hnx : x ≠ "__name__" := by decide) (hdx : (x == ("__debug__" : Str)) = false := by decide)
    (he : starEach [a, .Name x p2] X.env = (false, eval a X.env) :: starEach [.Name x p2] X.env := by rfl) (he2 : starEach [.Name x p2] X.env = (false, eval (.Name x p2) X.env) :: starEach [] X.env := by rfl)
    (hpl : (backTo pos (starEach [.Name x p2] X.env)).any (·.1) = false := by rfl) : PEv ct k X W (.Call (.Name "isinstance" p) [a, .Name x p2] [] pos) (xU (isiD T) ea) := fun C =>
  (pe_callB call_isi hg hm (by decide +kernel) (pa_cons (ha C) (pa_cons (pe_bltn (v := .ty (tyN T)) hgx hmx hx rfl hnx hdx) pa_nil he2) he) (by decide) (by decide) he hpl).imp fun σ H Q ⟨H0, F0, F, env, S, g⟩ => seq S g fun v d F1 H1 S1 g1 rv q => isi_read S1.sub rv (got_wf q)
/-! ### methods -/
theorem e_get1 {apos : Pos} (ha : PBv ct k X W a ea) (hb : PEv ct k X W b eb) (hbase : attributeBase a "get" X.env (eval a X.env) = eval a X.env := by rfl)
    (few : ((backTo pos (starEach [b] X.env)).all (fun x => !x.1) && (backToKw pos (keywordEach [] X.env)).all (fun x => x.1.isSome) && decide (([b] : List Expr).length + ([] : List Keyword).length + (if ([] : List Keyword).isEmpty then 0 else 1) < 30)) = true := by rfl)
    (line : (apos.endLine == pos.line) = true := by rfl) (trees : backTo pos (starEach [b] X.env) = [(false, eval b X.env)] := by rfl) : PEv ct k X W (.Call (.Attribute a "get" apos) [b] [] pos) (xM isDic get1 ea eb) := fun C =>
  (pe_dget1 (hu_of C.room) (ha C) (hb C) ⟨hbase, few, line, trees⟩).imp fun σ H Q ⟨H0, F0, F, env, S, g⟩ => seq S g fun x d F1 H1 S1 g1 rx q1 => by
    cases d with
    | dic ds =>
      obtain ⟨p, kvs, ex, hq, z, rv⟩ := bo_dic S1.sub rx
      refine ⟨p, ex, .inl ⟨kvs, hq⟩, seq S1 q1 fun y e F2 H2 S2 g2 ry q2 => ?_⟩
      have q3 := got_wf q2
      cases e with
      | str m =>
        obtain ⟨p', kvs', ex', hq', z', rv'⟩ := bo_dic S2.sub (rx.grow g2)
        rw [ex] at ex'
        cases ex'
        obtain ⟨ey, hy⟩ := bo_str (H := H2) (.inl ry)
        refine ⟨_, .inl ⟨kvs', Sum.inr (tx m), hq', ey, rfl⟩, ?_⟩
        dsimp only [get1] at q3
        rcases rpk_look (key := m) rv' with ⟨v, d3, h1, h2, r3⟩ | ⟨h1, h2⟩
        · rw [h1]; rw [h2] at q3; exact got_ok S2.sub q3 r3
        · rw [h1]; rw [h2] at q3; exact got_ok S2.sub q3 .non
      | _ => exact q3.elim
    | _ => exact q1.elim
theorem e_get2 {apos : Pos} (ha : PBv ct k X W a ea) (hb : PEv ct k X W b eb) (hc : PEv ct k X W c ec) (hbase : attributeBase a "get" X.env (eval a X.env) = eval a X.env := by rfl)
    (few : ((backTo pos (starEach [b, c] X.env)).all (fun x => !x.1) && (backToKw pos (keywordEach [] X.env)).all (fun x => x.1.isSome) && decide (([b, c] : List Expr).length + ([] : List Keyword).length + (if ([] : List Keyword).isEmpty then 0 else 1) < 30)) = true := by rfl)
    (line : (apos.endLine == pos.line) = true := by rfl) (trees : backTo pos (starEach [b, c] X.env) = [(false, eval b X.env), (false, eval c X.env)] := by rfl) : PEv ct k X W (.Call (.Attribute a "get" apos) [b, c] [] pos) (xM2 isDic get2 ea eb ec) := fun C =>
  (pe_dget2 (hu_of C.room) (ha C) (hb C) (hc C) ⟨hbase, few, line, trees⟩).imp fun σ H Q ⟨H0, F0, F, env, S, g⟩ => seq S g fun x d F1 H1 S1 g1 rx q1 => by
    cases d with
    | dic ds =>
      obtain ⟨p, kvs, ex, hq, z, rv⟩ := bo_dic S1.sub rx
      refine ⟨p, ex, .inl ⟨kvs, hq⟩, seq S1 q1 fun y e F2 H2 S2 g2 ry q2 => seq S2 q2 fun w dw F3 H3 S3 g3 rw3 q4 => ?_⟩
      have q3 := got_wf q4
      cases e with
      | str m =>
        obtain ⟨p', kvs', ex', hq', z', rv'⟩ := bo_dic S3.sub ((rx.grow g2).grow g3)
        rw [ex] at ex'
        cases ex'
        obtain ⟨ey, hy⟩ := bo_str (H := H2) (.inl ry)
        refine ⟨_, .inl ⟨kvs', Sum.inr (tx m), hq', ey, rfl⟩, ?_⟩
        dsimp only [get2] at q3
        rcases rpk_look (key := m) rv' with ⟨v, d3, h1, h2, r3⟩ | ⟨h1, h2⟩
        · rw [h1]; rw [h2] at q3; exact got_ok S3.sub q3 r3
        · rw [h1]; rw [h2] at q3; exact got_ok S3.sub q3 rw3
      | _ => exact q3.elim
    | _ => exact q1.elim
theorem asSs_rp {K : PySem.W.Frag} {F : Hp} : ∀ {vs : List V} {ds : List D} {ls : List (List Nat)}, RpA K F vs ds → asSs ds = some ls → vs = (ls.map tx).map V.str ∧ ds.length = ls.length ∧ ∀ l ∈ ls, okS l
  | _, _, ls, .nil, h => by
    have e : [] = ls := Option.some.inj h
    subst e; exact ⟨rfl, rfl, fun _ h => nomatch h⟩
  | _, _, ls, .cons r t, h => by
    cases r with
    | str l z =>
      unfold asSs at h
      cases q : asSs _ with
      | none => rw [q] at h; cases h
      | some ls' =>
        rw [q] at h
        have e : l :: ls' = ls := Option.some.inj h
        subst e
        obtain ⟨h1, h2, h3⟩ := asSs_rp t q
        refine ⟨by rw [h1]; rfl, by simp [h2], fun m hm => ?_⟩
        rcases List.mem_cons.mp hm with e | hm
        · rw [e]; exact z
        · exact h3 m hm
    | _ => cases h
end
end Pv

namespace Pv
variable [HasW]
open PySem PySem.Spec L2
/-! ### iterators that hand out pairs -/
def ItP (n : Nat) (C : Hp → Prop) (R1 R2 : Nat → V → Prop) : It :=
  ⟨fun i H => i < n ∧ C H, fun i H v H' => ∃ T x y, v = .ref T ∧ H T = none ∧ H' = upd H T (.tup [x, y]) ∧ R1 i x ∧ R2 i y, fun i H => i = n ∧ C H⟩
theorem turn_goes {P : Program} {w : World} {K : PySem.W.Frag} {tg : Expr} {it : Addr} {fp fp' wr : List Addr} {n : Nat} {P1 P2 : Nat → Value → Prop} {R1 R2 : Nat → V → Prop} {St tn : Nat → Heap → Prop} (C : Hp → Prop)
    (G : ∀ A : Around, A.handled = none → GoesN P w A tg it fp' wr n (fun i h0 v h => ∃ T x y, v = .ref T ∧ h0.objs.size ≤ T ∧ P1 i x ∧ P2 i y ∧ h.IsTuple T #[x, y]) St)
    (up : ∀ (X : Cx) pins σ H s i, X.K = K → Inv X pins σ H s → C H → tn i s.heap → St i s.heap) (down : ∀ i h, St i h → tn i h) (hw : ∀ b ∈ wr, b ∈ fp) (hm : it ∈ fp)
    (obj : ∀ i h, tn i h → ∀ b ∈ fp, ∃ o, h.get? b = some o ∧ ∀ v, o.data ≠ .cell v) (keep : ∀ i h h', tn i h → (∀ b ∈ fp, ∀ o, h.get? b = some o → h'.get? b = some o) → tn i h')
    (self : ∀ (A : Around) (i : Nat) (s : Shared) (Q : Value → Shared → Prop) (E : Value → Shared → Prop), tn i s.heap → Q (.ref it) s → wpAny (model P w) A (pyIter (.ref it)) Q E s)
    (h1 : ∀ i x, P1 i x → ∃ v, RelV v x ∧ R1 i v) (h2 : ∀ i x, P2 i x → ∃ v, RelV v x ∧ R2 i v) : Turn P w K tg (ItP n C R1 R2) fp it tn where
  mem := hm
  obj := obj
  keep := keep
  item := by
    intro X hP hw' hK hc i pins s σ H E I hf st hg
    subst hP hw'
    refine (G X.A (I.ok.hd hc)).goes i s (fun u s2 => ∃ x H', Inv X pins σ H' s2 ∧ RelV x u ∧ (ItP n C R1 R2).yld i H x H' ∧ tn (i + 1) s2.heap ∧ ∀ b ∈ fp, H' b = none) E hg.1 (up X pins σ H s i hK I hg.2 st) fun v h' tk hY st' hk htk => ?_
    obtain ⟨T, x, y, rfl, hT, p1, p2, ht⟩ := hY
    obtain ⟨xv, rx, r1⟩ := h1 i x p1
    obtain ⟨yv, ry, r2⟩ := h2 i y p2
    have new : ObjOk X.prog X.w (upd H T (.tup [xv, yv])) h' T (.tup [xv, yv]) := ⟨by show 2 ≤ sizeLine; decide, [x, y], .cons rx (.cons ry .nil), ht⟩
    have I1 : Inv X pins σ (upd H T (.tup [xv, yv])) { s with heap := h', toks := tk } := I.turnedNew (ch := wr) hk (fun b hb => hf b (hw b hb)) hT new
    refine ⟨.ref T, _, I1, rfl, ⟨T, xv, yv, rfl, I.hok.fresh hT, rfl, r1, r2⟩, down _ _ st', fun b hb => ?_⟩
    obtain ⟨o, ho, _⟩ := obj i s.heap st b hb
    have hlt : b < T := Nat.lt_of_lt_of_le (Heap.lt_size ho) hT
    rw [upd_ne (Nat.ne_of_lt hlt)]
    exact (hf b hb).1
  done := by
    intro X hP hw' hK hc i pins s σ H E I hf st hg
    subst hP hw'
    obtain ⟨rfl, hC⟩ := hg
    exact (G X.A (I.ok.hd hc)).stops s (fun s1 => Inv X pins σ H s1) E (up X pins σ H s _ hK I hC st) fun h' tk hk htk => I.turnedL (ch := wr) hk fun b hb => hf b (hw b hb)
  self := self
/-- signs of a text -/
def SgR (x : Str) : Nat → V → Prop := fun i v => ∃ c, x.cps[i]? = some c ∧ v = .str ⟨#[c]⟩
theorem sg_of {x : Str} (i : Nat) (v : Value) (h : ∃ c u, x.cps[i]? = some c ∧ v = .str ⟨#[c]⟩ u) : ∃ z, RelV z v ∧ SgR x i z := by
  obtain ⟨c, u, h1, rfl⟩ := h
  exact ⟨.str ⟨#[c]⟩, ⟨u, rfl⟩, c, h1, rfl⟩
theorem strIter_obj {h : Heap} {it : Addr} {ty : String} {x : Str} {t : Tok} {i : Nat} (st : h.IsStrIter it ty x t i) : ∃ o, h.get? it = some o ∧ ∀ v, o.data ≠ .cell v := by
  obtain ⟨o, ho, _, hd⟩ := st
  exact ⟨o, ho, fun v q => by rw [hd] at q; cases q⟩
theorem strIter_at {h h' : Heap} {it : Addr} {ty : String} {x : Str} {t : Tok} {i : Nat} (st : h.IsStrIter it ty x t i) (k : ∀ o, h.get? it = some o → h'.get? it = some o) : h'.IsStrIter it ty x t i := by
  obtain ⟨o, ho, r⟩ := st
  exact ⟨o, k o ho, r⟩
/-- enumerate(text) -/
theorem turn_enumS {P : Program} {w : World} {K : PySem.W.Frag} {elts : List Expr} {kk : Nat} {tpos : Pos} (x : Str) (t : Tok) (e it : Addr) (hne : e ≠ it) :
    Turn P w K (.Tuple elts kk tpos) (ItP x.cps.size NoL (fun i v => v = .int (i : Nat)) (SgR x)) [e, it] e (fun i h => (∃ old, IsEnum h e it ((0 : Int) + (i : Int)) old) ∧ h.IsStrIter it (strIterType x) x t i) := by
  refine turn_goes (fp' := [e, it]) (wr := [e, it]) (P1 := fun i v => ∃ t, v = .int ((0 : Int) + (i : Int)) t) (P2 := fun i v => ∃ c u, x.cps[i]? = some c ∧ v = .str ⟨#[c]⟩ u) NoL
    (fun A hh => (GoesN.enumFrom 0 (Draws.text (A := A.in1) hh it x t) e hne (by simpa using hne) (by simp)).mono fun i h0 v h _ ⟨T, t', y, ev, hn, hp, hT⟩ => ⟨T, _, y, ev, hn, ⟨t', rfl⟩, hp, hT⟩)
    (fun X pins σ H s i _ I _ st => st) (fun i h st => st) (fun b hb => hb) (by simp) (fun i h st b hb => ?_) (fun i h h' st k => ?_) (fun A i s Q E st h => ?_) (fun i v h => ?_) (fun i v h => sg_of i v h)
  · obtain ⟨⟨old, he⟩, hi⟩ := st
    have e' : b = e ∨ b = it := by simpa using hb
    rcases e' with z | z
    · rw [z]; exact ⟨_, he, fun v q => nomatch q⟩
    · rw [z]; exact strIter_obj hi
  · obtain ⟨⟨old, he⟩, hi⟩ := st
    exact ⟨⟨old, k e (by simp) _ he⟩, strIter_at hi fun o q => k it (by simp) o q⟩
  · obtain ⟨⟨old, he⟩, hi⟩ := st
    exact wpAny_pyIter_enum he h
  · obtain ⟨t', rfl⟩ := h
    exact ⟨.int ((0 : Int) + (i : Int)), ⟨t', rfl⟩, by simp⟩
/-- zip(text, text) -/
theorem turn_zipS {P : Program} {w : World} {K : PySem.W.Frag} {elts : List Expr} {kk : Nat} {tpos : Pos} (x y : Str) (t u : Tok) (N : Nat) :
    Turn P w K (.Tuple elts kk tpos) (ItP (min x.cps.size y.cps.size) NoL (SgR x) (SgR y)) [N + 4, N + 2, N + 3, N, N + 1] (N + 4) (fun i h => IsZip h (N + 4) (N + 2) (N + 3) .none ∧ IsTupOf2 h (N + 2) (.ref N) (.ref (N + 1)) ∧ (∃ a1 a2, IsTupOf2 h (N + 3) a1 a2) ∧ h.IsStrIter N (strIterType x) x t i ∧ h.IsStrIter (N + 1) (strIterType y) y u i) := by
  refine turn_goes (fp' := (N + 4) :: (N + 2) :: (N + 3) :: ([N] ++ [N + 1])) (wr := [N + 4, N + 3, N, N + 1]) NoL
    (fun A hh => GoesN.zip2 (zip_sep2 (N := N) (fp1 := []) (fp2 := []) (fun _ h => nomatch h) (fun _ h => nomatch h)) (Draws.text (A := A.in1) hh N x t) (Draws.text (A := A.in1) hh (N + 1) y u))
    (fun X pins σ H s i _ I _ st => st) (fun i h st => st) (fun b hb => ?_) (by simp) (fun i h st b hb => ?_) (fun i h h' st k => ?_) (fun A i s Q E st h => wpAny_pyIter_zip st.1 h) (fun i v h => sg_of i v h) (fun i v h => sg_of i v h)
  · simp only [List.mem_cons, List.not_mem_nil, or_false] at hb ⊢
    rcases hb with h | h | h | h <;> simp [h]
  · obtain ⟨hz, hI, ⟨a1, a2, hO⟩, h1, h2⟩ := st
    have e' : b = N + 4 ∨ b = N + 2 ∨ b = N + 3 ∨ b = N ∨ b = N + 1 := by simpa using hb
    rcases e' with z | z | z | z | z
    · rw [z]; exact ⟨_, hz, fun v q => nomatch q⟩
    · rw [z]; exact ⟨_, hI, fun v q => nomatch q⟩
    · rw [z]; exact ⟨_, hO, fun v q => nomatch q⟩
    · rw [z]; exact strIter_obj h1
    · rw [z]; exact strIter_obj h2
  · obtain ⟨hz, hI, ⟨a1, a2, hO⟩, h1, h2⟩ := st
    exact ⟨k _ (by simp) _ hz, k _ (by simp) _ hI, ⟨a1, a2, k _ (by simp) _ hO⟩, strIter_at h1 fun o q => k _ (by simp) o q, strIter_at h2 fun o q => k _ (by simp) o q⟩
/-- enumerate(tuple) -/
theorem turn_enumT {P : Program} {w : World} {K : PySem.W.Frag} {elts : List Expr} {kk : Nat} {tpos : Pos} (a e it : Addr) (xs : List V) (hne : e ≠ it) (hai : a ≠ it) (hae : e ≠ a) :
    Turn P w K (.Tuple elts kk tpos) (ItP xs.length (fun H => SqT K H a xs) (fun i v => v = .int (i : Nat)) (fun i v => xs[i]? = some v)) [e, it] e (fun i h => (∃ old, IsEnum h e it ((i : Nat) : Int) old) ∧ h.IsTupleIter it a i) where
  mem := by simp
  obj := fun i h st b hb => by
    obtain ⟨⟨old, he⟩, ⟨o, ho, hc, hd⟩⟩ := st
    have e' : b = e ∨ b = it := by simpa using hb
    rcases e' with z | z
    · rw [z]; exact ⟨_, he, fun v q => nomatch q⟩
    · rw [z]; exact ⟨o, ho, fun v q => by rw [hd] at q; cases q⟩
  keep := fun i h h' st k => let ⟨⟨old, he⟩, hi⟩ := st; ⟨⟨old, k e (by simp) _ he⟩, hi.at fun o q => k it (by simp) o q⟩
  item := by
    intro X hP hw' hK hc i pins s σ H E I hf st hg
    subst hP hw' hK
    obtain ⟨its, rv, ht, _⟩ := I.tuple hg.2
    have G := GoesN.enumFrom (prog := X.prog) (w := X.w) (A := X.A) (elts := elts) (x1 := kk) (pos := tpos) 0 (Draws.tuple (A := X.A.in1) (I.ok.hd hc) it a hai its.toArray) e hne (by simp [hne, hae]) (by simp)
    have hn : i < its.toArray.size := by rw [List.size_toArray, ← rv.length]; exact hg.1
    refine G.goes i s (fun u s2 => ∃ x H', Inv X pins σ H' s2 ∧ RelV x u ∧ (ItP xs.length (fun H => SqT X.K H a xs) (fun i v => v = .int (i : Nat)) (fun i v => xs[i]? = some v)).yld i H x H' ∧ ((∃ old, IsEnum s2.heap e it ((i + 1 : Nat) : Int) old) ∧ s2.heap.IsTupleIter it a (i + 1)) ∧ ∀ b ∈ [e, it], H' b = none) E hn
      ⟨by simpa using st.1, st.2, ht⟩ fun v h' tk hY st' hk htk => ?_
    obtain ⟨T, t', x, rfl, hT, hx, htup⟩ := hY
    have hx' : its[i]? = some x := by simpa using hx
    have hxi : i < xs.length := hg.1
    obtain ⟨u, hu, ru⟩ := rv.get (List.getElem?_eq_getElem hxi)
    rw [hx'] at hu
    cases hu
    have new : ObjOk X.prog X.w (upd H T (.tup [.int (i : Nat), xs[i]])) h' T (.tup [.int (i : Nat), xs[i]]) := ⟨by show 2 ≤ sizeLine; decide, [.int ((0 : Int) + (i : Int)) t', x], .cons ⟨t', by simp⟩ (.cons ru .nil), htup⟩
    have I1 : Inv X pins σ (upd H T (.tup [.int (i : Nat), xs[i]])) { s with heap := h', toks := tk } := I.turnedNew (ch := [e, it]) hk hf hT new
    refine ⟨.ref T, _, I1, rfl, ⟨T, _, _, rfl, I.hok.fresh hT, rfl, rfl, List.getElem?_eq_getElem hxi⟩, ⟨?_, st'.2.1⟩, fun b hb => ?_⟩
    · obtain ⟨old, ho⟩ := st'.1
      exact ⟨old, by simpa using ho⟩
    · obtain ⟨⟨old, he⟩, ⟨o, ho, _, _⟩⟩ := st
      have hlt : b < T := by
        have e' : b = e ∨ b = it := by simpa using hb
        rcases e' with z | z
        · rw [z]; exact Nat.lt_of_lt_of_le (Heap.lt_size he) hT
        · rw [z]; exact Nat.lt_of_lt_of_le (Heap.lt_size ho) hT
      rw [upd_ne (Nat.ne_of_lt hlt)]
      exact (hf b hb).1
  done := by
    intro X hP hw' hK hc i pins s σ H E I hf st hg
    subst hP hw' hK
    obtain ⟨rfl, hC⟩ := hg
    obtain ⟨its, rv, ht, _⟩ := I.tuple hC
    have G := GoesN.enumFrom (prog := X.prog) (w := X.w) (A := X.A) (elts := elts) (x1 := kk) (pos := tpos) 0 (Draws.tuple (A := X.A.in1) (I.ok.hd hc) it a hai its.toArray) e hne (by simp [hne, hae]) (by simp)
    have hn : its.toArray.size = xs.length := by rw [List.size_toArray]; exact rv.length.symm
    refine G.stops s (fun s1 => Inv X pins σ H s1) E ?_ fun h' tk hk htk => I.turnedL (ch := [e, it]) hk hf
    rw [hn]
    exact ⟨by simpa using st.1, st.2, ht⟩
  self := fun A i s Q E st h => let ⟨⟨_, he⟩, _⟩ := st; wpAny_pyIter_enum he h
theorem meets_enumB1 {v : Value} {o : Obj} {H : Heap → Prop} (B : Begins v o H) : Meets (Builtin.«enumerate.__new__» ⟨[.type "enumerate", v], []⟩) (fun _ R s => H s.heap ∧
    R (.ok (.ret (.ref (s.heap.push o).objs.size))) { s with heap := (s.heap.push o).push { cls := .type "enumerate", data := .fields #[.none, .bool false, .ref s.heap.objs.size, rawInt 0, .none, .none] } }) :=
  .of_wp fun prog w A R s h => by
    obtain ⟨hp, g, d, tk, os⟩ := s; obtain ⟨h1, h⟩ := h
    have hsub := sub_enumerate
    have q1 : ∀ {A' : Around} {E : Value → Shared → Prop} {Q : Value → Shared → Prop}, Q (.ref hp.objs.size) ⟨hp.push o, g, d, tk, os⟩ → wpAny (model prog w) A' (pyIter v) Q E ⟨hp, g, d, tk, os⟩ :=
      fun q => B.iter prog w _ _ ⟨hp, g, d, tk, os⟩ _ h1 q
    wp_walk using q1
    refine wpAny_stack_any fun st => wpAny_pure ?_
    split
    · rename_i c _ _ _ _ _
      cases (c == Value.type "enumerate")
      · wp_walk using q1
        exact ⟨_, rfl, h⟩
      · wp_walk using q1
        exact ⟨_, rfl, h⟩
    · wp_walk using q1
      exact ⟨_, rfl, h⟩
theorem call_enumB1 {prog : Program} {w : World} {A : Around} {E : Value → Shared → Prop} {s : Shared} {v : Value} {o : Obj} {H : Heap → Prop} {Q : Value → Shared → Prop} (B : Begins v o H) (h1 : H s.heap)
    (h : ∀ h', IsEnum h' (s.heap.objs.size + 1) s.heap.objs.size 0 .none → h'.get? s.heap.objs.size = some o → h'.objs.size = s.heap.objs.size + 2 →
      (∀ b o, s.heap.get? b = some o → h'.get? b = some o) → Q (.ref (s.heap.objs.size + 1)) { s with heap := h' }) :
    wpAny (model prog w) A (call (.type "enumerate") [v]) Q E s := by
  refine callType_new F.called_enumerate (by decide) (F.typeCall_enumerate_1 _) (F.newCall_enumerate_1 _) (fun obj => F.args_object_init_2 obj _) F.entry_enumerate_new (meets_enumB1 B) ⟨h1, ?_⟩
  have hz : (s.heap.push o).objs.size = s.heap.objs.size + 1 := Heap.size_push ..
  show _ ∧ _
  rw [hz]
  have he : IsEnum ((s.heap.push o).push { cls := .type "enumerate", data := .fields #[.none, .bool false, .ref s.heap.objs.size, rawInt 0, .none, .none] }) (s.heap.objs.size + 1) s.heap.objs.size 0 .none := by
    have := Heap.get?_push_size (s.heap.push o) (o := { cls := .type "enumerate", data := .fields #[.none, .bool false, .ref s.heap.objs.size, rawInt 0, .none, .none] }) rfl
    rw [hz] at this; exact this
  refine ⟨⟨_, he, rfl⟩, h _ he (Heap.get?_push_of_some _ (Heap.get?_push_size _ B.free)) (by rw [Heap.size_push, hz]) fun b o x => Heap.get?_push_of_some _ (Heap.get?_push_of_some _ x)⟩
/-! ### as walks -/
def iEnumX (K : PySem.W.Frag) (ta : TA) : TI := fun σ H R => ta σ H fun vs H1 => ∃ v, vs = [v] ∧ ((∃ a xs, v = .ref a ∧ SqT K H1 a xs ∧ R (ItP xs.length (fun H => SqT K H a xs) (fun i v => v = .int (i : Nat)) (fun i v => xs[i]? = some v)) H1) ∨
  ∃ x, v = .str x ∧ R (ItP x.cps.size NoL (fun i v => v = .int (i : Nat)) (SgR x)) H1)
theorem pi_enumX {X : Cx} {e : Expr} {ta : TA} {p pos tpos : Pos} {elts : List Expr} {kk : Nat} (hg : Gl X "enumerate") (hm : X.mg "enumerate" = none) (ha : PA X [e] ta) (hs : starEach [e] X.env = [(false, eval e X.env)] := by rfl) :
    PI X (.Tuple elts kk tpos) (.Call (.Name "enumerate" p) [e] [] pos) (iEnumX X.K ta) := by
  refine ⟨fun pins s σ H R I h => ?_⟩
  refine PyProof.Rows.Call_ (ld_blt I hg hm PyProof.Rows.boot_enumerate (PyProof.Rows.callWith_type1 (thn (ha.run pos pins s σ H _ I h) fun us s1 ⟨vs, H1, I1, r1, q1⟩ => ?_) hs rfl))
  obtain ⟨v, rfl, q1⟩ := q1
  obtain ⟨u, rfl, ru⟩ := vals1 r1
  have fresh2 : ∀ b ∈ [s1.heap.objs.size + 1, s1.heap.objs.size], FpOk X pins H1 b := fun b hb => by
    have e' : b = s1.heap.objs.size + 1 ∨ b = s1.heap.objs.size := by simpa using hb
    have hle : s1.heap.objs.size ≤ b := by
      rcases e' with z | z
      · rw [z]; exact Nat.le_add_right _ _
      · rw [z]; exact Nat.le_refl _
    exact I1.fpOk hle (I1.hok.fresh hle)
  rcases q1 with ⟨a, xs, rfl, hq, q⟩ | ⟨x, rfl, q⟩
  · cases ru
    obtain ⟨its, rv, ht, _⟩ := I1.tuple hq
    have hlt : a < s1.heap.objs.size := ht.lt
    refine call_enumB1 (begins_tuple a its.toArray) ht fun h' he hit hsz hk => wpAny_pyIter_enum he ?_
    have I2 : Inv X pins σ H1 { s1 with heap := h' } := I1.kept (t' := s1.toks) hk
    exact ⟨s1.heap.objs.size + 1, [s1.heap.objs.size + 1, s1.heap.objs.size], _, _, H1, rfl, I2, turn_enumT a (s1.heap.objs.size + 1) s1.heap.objs.size xs (Nat.succ_ne_self _) (Nat.ne_of_lt hlt) (Nat.ne_of_gt (Nat.lt_succ_of_lt hlt)), ⟨⟨.none, he⟩, ⟨_, hit, rfl, rfl⟩⟩, fresh2, q⟩
  · obtain ⟨t, rfl⟩ := ru
    refine call_enumB1 (begins_text x t) trivial fun h' he hit hsz hk => wpAny_pyIter_enum he ?_
    have I2 : Inv X pins σ H1 { s1 with heap := h' } := I1.kept (t' := s1.toks) hk
    exact ⟨s1.heap.objs.size + 1, [s1.heap.objs.size + 1, s1.heap.objs.size], _, _, H1, rfl, I2, turn_enumS x t (s1.heap.objs.size + 1) s1.heap.objs.size (Nat.succ_ne_self _), ⟨⟨.none, he⟩, ⟨_, hit, rfl, rfl⟩⟩, fresh2, q⟩
def iZipS (ta : TA) : TI := fun σ H R => ta σ H fun vs H1 => ∃ x y, vs = [.str x, .str y] ∧ R (ItP (min x.cps.size y.cps.size) NoL (SgR x) (SgR y)) H1
theorem pi_zipS {X : Cx} {e e2 : Expr} {ta : TA} {p pos tpos : Pos} {elts : List Expr} {kk : Nat} (hg : Gl X "zip") (hm : X.mg "zip" = none) (ha : PA X [e, e2] ta)
    (hs : starEach [e, e2] X.env = (false, eval e X.env) :: starEach [e2] X.env := by rfl) (hpl : (backTo pos (starEach [e2] X.env)).any (·.1) = false := by rfl) :
    PI X (.Tuple elts kk tpos) (.Call (.Name "zip" p) [e, e2] [] pos) (iZipS ta) := by
  refine ⟨fun pins s σ H R I h => ?_⟩
  refine PyProof.Rows.Call_ (ld_blt I hg hm PyProof.Rows.boot_zip (PyProof.Rows.callWith_type1 (thn (ha.run pos pins s σ H _ I h) fun us s1 ⟨vs, H1, I1, r1, q1⟩ => ?_) hs hpl))
  obtain ⟨x, y, rfl, q⟩ := q1
  obtain ⟨u1, u2, rfl, ⟨t, rfl⟩, ⟨t', rfl⟩⟩ := vals2 r1
  refine zip_begins2 (begins_text x t) (begins_text y t') trivial trivial fun h' hz hTI hTO h1 h2 hsz hk => wpAny_pyIter_zip hz ?_
  have I2 : Inv X pins σ H1 { s1 with heap := h' } := I1.kept (t' := s1.toks) hk
  refine ⟨s1.heap.objs.size + 4, [s1.heap.objs.size + 4, s1.heap.objs.size + 2, s1.heap.objs.size + 3, s1.heap.objs.size, s1.heap.objs.size + 1], _, _, H1, rfl, I2, turn_zipS x y t t' s1.heap.objs.size, ⟨hz, hTI, ⟨_, _, hTO⟩, ⟨_, h1, rfl, rfl⟩, ⟨_, h2, rfl, rfl⟩⟩, fun c hcm => ?_, q⟩
  have e' : c = s1.heap.objs.size + 4 ∨ c = s1.heap.objs.size + 2 ∨ c = s1.heap.objs.size + 3 ∨ c = s1.heap.objs.size ∨ c = s1.heap.objs.size + 1 := by simpa using hcm
  have hle : s1.heap.objs.size ≤ c := by
    rcases e' with z | z | z | z | z
    · rw [z]; exact Nat.le_add_right _ _
    · rw [z]; exact Nat.le_add_right _ _
    · rw [z]; exact Nat.le_add_right _ _
    · rw [z]; exact Nat.le_refl _
    · rw [z]; exact Nat.le_add_right _ _
  exact I1.fpOk hle (I1.hok.fresh hle)
end Pv

namespace Pv
variable [HasW]
open PySem PySem.Spec L2
/-! ### walks of data -/
section
variable {K : PySem.W.Frag} {F H : Hp}
theorem wk_lst {a : Addr} {vs : List V} {ds : List D} (q : F a = some (.lst vs)) (r : RpA K F vs ds) : WalkD K F NoL (Itl K a) ds := by
  refine ⟨fun i H F' hi ff s _ => ?_, fun H F' ff s _ => ?_, fun i H F' x H' hi ff s _ y => ?_⟩
  · have hv : i < vs.length := by rw [r.length]; exact hi
    exact ⟨vs, vs[i], .inl (s _ _ (ff _ _ q)), List.getElem?_eq_getElem hv⟩
  · exact ⟨vs, .inl (s _ _ (ff _ _ q)), Nat.le_of_eq r.length⟩
  · obtain ⟨e, y⟩ := y
    subst e
    obtain ⟨d, h1, h2⟩ := r.get (y vs (.inl (s _ _ (ff _ _ q))))
    exact ⟨F', .refl s, d, h1, h2.mono ff⟩
theorem wk_own {a : Addr} {vs : List V} {ds : List D} (r : RpA K F vs ds) : WalkD K F (fun H => H a = some (.lst vs)) (Itl K a) ds := by
  refine ⟨fun i H F' hi ff s l => ?_, fun H F' ff s l => ?_, fun i H F' x H' hi ff s l y => ?_⟩
  · have hv : i < vs.length := by rw [r.length]; exact hi
    exact ⟨vs, vs[i], .inl (.inl l), List.getElem?_eq_getElem hv⟩
  · exact ⟨vs, .inl (.inl l), Nat.le_of_eq r.length⟩
  · obtain ⟨e, y⟩ := y
    subst e
    obtain ⟨d, h1, h2⟩ := r.get (y vs (.inl (.inl l)))
    exact ⟨F', .refl s, d, h1, h2.mono ff⟩
theorem ts_ext {F' : Hp} {a : Addr} {vs : List V} (ff : ∀ a u, F a = some u → F' a = some u) (q : Ts K F a vs) : Ts K F' a vs := q.imp (ff _ _) id
theorem wk_tup {a : Addr} {vs : List V} {ds : List D} (q : Ts K F a vs) (r : RpA K F vs ds) : WalkD K F NoL (Itt K a) ds := by
  refine ⟨fun i H F' hi ff s _ => ?_, fun H F' ff s _ => ?_, fun i H F' x H' hi ff s _ y => ?_⟩
  · have hv : i < vs.length := by rw [r.length]; exact hi
    exact ⟨vs, vs[i], s.tup (ts_ext ff q), List.getElem?_eq_getElem hv⟩
  · exact ⟨vs, s.tup (ts_ext ff q), Nat.le_of_eq r.length⟩
  · obtain ⟨e, y⟩ := y
    subst e
    obtain ⟨d, h1, h2⟩ := r.get (y vs (s.tup (ts_ext ff q)))
    exact ⟨F', .refl s, d, h1, h2.mono ff⟩
theorem sg_rp {l : List Nat} (h : okS l) {i : Nat} {v : V} (y : SgR (tx l) i v) : ∃ d, (l.map fun c => D.str [c])[i]? = some d ∧ Rp K F v d := by
  obtain ⟨c, hc, rfl⟩ := y
  have hc' : l[i]? = some c := by
    rw [← Array.getElem?_toList, tx_list] at hc
    exact hc
  refine ⟨.str [c], by rw [List.getElem?_map, hc']; rfl, .str [c] ⟨(by show (1:Nat) ≤ 16777216; decide), fun c' h' => ?_⟩⟩
  rw [List.mem_singleton.mp h']
  exact h.2 c (List.mem_of_getElem? hc')
theorem wk_str {l : List Nat} (h : okS l) : WalkD K F NoL (Its (tx l)) (l.map fun c => D.str [c]) := by
  have hl : (l.map fun c => D.str [c]).length = (tx l).cps.size := by simp [tx]
  refine ⟨fun i H F' hi ff s _ => by rw [hl] at hi; exact hi, fun H F' ff s _ => Nat.le_of_eq hl.symm, fun i H F' x H' hi ff s _ y => ?_⟩
  obtain ⟨e, c, hc, rfl⟩ := y
  subst e
  obtain ⟨d, h1, h2⟩ := sg_rp (K := K) (F := F') h ⟨c, hc, rfl⟩
  exact ⟨F', .refl s, d, h1, h2⟩
theorem rngD_len (lo : Int) (n : Nat) : (rngD lo n).length = n := by simp [rngD]
theorem wk_rng {lo : Int} {n : Nat} : WalkD K F NoL (Itr lo n) (rngD lo n) := by
  refine ⟨fun i H F' hi ff s _ => by rw [rngD_len] at hi; exact hi, fun H F' ff s _ => Nat.le_of_eq (rngD_len lo n).symm, fun i H F' x H' hi ff s _ y => ?_⟩
  obtain ⟨e, rfl⟩ := y
  subst e
  rw [rngD_len] at hi
  exact ⟨F', .refl s, .int (lo + i), by simp [rngD, hi], .int _⟩
/-- pairs -/
theorem wk_pair {n : Nat} {C : Hp → Prop} {R1 R2 : Nat → V → Prop} {xs ys : List D} {zs : List D} (hz : zs.length = n) (hC : ∀ H F', (∀ a u, F a = some u → F' a = some u) → Sub F' H → C H)
    (h1 : ∀ F' i v, i < n → (∀ a u, F a = some u → F' a = some u) → R1 i v → ∃ d, xs[i]? = some d ∧ Rp K F' v d) (h2 : ∀ F' i v, i < n → (∀ a u, F a = some u → F' a = some u) → R2 i v → ∃ d, ys[i]? = some d ∧ Rp K F' v d)
    (h3 : ∀ i x y, i < n → xs[i]? = some x → ys[i]? = some y → zs[i]? = some (.tup [x, y])) : WalkD K F NoL (ItP n C R1 R2) zs := by
  refine ⟨fun i H F' hi ff s _ => ⟨hz ▸ hi, hC H F' ff s⟩, fun H F' ff s _ => ⟨hz, hC H F' ff s⟩, fun i H F' x H' hi ff s _ y => ?_⟩
  obtain ⟨T, v, w, rfl, nT, rfl, r1, r2⟩ := y
  obtain ⟨d, e1, rd⟩ := h1 F' i v (hz ▸ hi) ff r1
  obtain ⟨e, e2, re⟩ := h2 F' i w (hz ▸ hi) ff r2
  have gn := Gd.new (o := .tup [v, w]) s nT
  exact ⟨_, gn, _, h3 i d e (hz ▸ hi) e1 e2, .tup (.inl upd_same) (by show (2:Nat) ≤ 16777216; decide) (.cons (rd.mono gn.ff) (.cons (re.mono gn.ff) .nil))⟩
end
section
variable {ct : String → Addr} {k : Nat} {X : Cx} {W : WS} {e a b c : Expr} {es : List Expr} {pos : Pos} {ev ea eb ec : Xv} {tg : Expr}
/-- a list, a tuple, a text -/
theorem i_seq (h : PEv ct k X W e ev) : PFv ct k X W tg e (iSeq ev) := fun C =>
  ((pi_list (h C)).or ((pi_tup (h C)).or (pi_str (h C)))).imp fun σ H Q ⟨H0, F0, F, env, S, g⟩ => by
    by_cases h1 : ∃ ds, ev env = .ok (.lst ds)
    · obtain ⟨ds, z⟩ := h1
      refine .inl (seqE S g fun x d' F1 H1 ee S1 g1 rx q1 => ?_)
      rw [z] at ee; cases ee
      cases rx with
      | lst q zz r => exact ⟨_, rfl, ⟨_, .inl (S1.sub _ _ q)⟩, q1 _ F1 H1 (.refl S1.sub) ⟨wk_lst q r, by rw [← r.length]; exact zz⟩⟩
    · by_cases h2 : ∃ ds, ev env = .ok (.tup ds)
      · obtain ⟨ds, z⟩ := h2
        refine .inr (.inl (seqE S g fun x d' F1 H1 ee S1 g1 rx q1 => ?_))
        rw [z] at ee; cases ee
        cases rx with
        | tup q zz r => exact ⟨_, rfl, ⟨_, S1.sub.tup q⟩, q1 _ F1 H1 (.refl S1.sub) ⟨wk_tup q r, by rw [← r.length]; exact zz⟩⟩
      · refine .inr (.inr (seqE S g fun x d' F1 H1 ee S1 g1 rx q1 => ?_))
        cases d' with
        | lst ds => exact absurd ⟨ds, ee⟩ h1
        | tup ds => exact absurd ⟨ds, ee⟩ h2
        | str l =>
          cases rx with
          | str _ z => exact ⟨_, rfl, q1 _ F1 H1 (.refl S1.sub) ⟨wk_str z, by simpa using z.1⟩⟩
        | _ => exact q1.elim
/-- .. or an owned list (a comprehension) -/
theorem w_seq (h : PBv ct k X W e ev) : PWkv ct k X W tg e (iSeq ev) := fun C =>
  ((pi_list (h C)).or ((pi_tup (h C)).or (pi_str (h C)))).imp fun σ H Q ⟨H0, F0, F, env, S, g⟩ => by
    by_cases h1 : ∃ ds, ev env = .ok (.lst ds)
    · obtain ⟨ds, z⟩ := h1
      refine .inl (seqE S g fun x d' F1 H1 ee S1 g1 rx q1 => ?_)
      rw [z] at ee; cases ee
      rcases rx with rx | ⟨a, ex, na, rx⟩
      · cases rx with
        | lst q zz r => exact ⟨_, rfl, ⟨_, .inl (S1.sub _ _ q)⟩, q1 _ F1 H1 (.refl S1.sub) ⟨NoL, wk_lst q r, trivial, fun _ _ _ _ => trivial, by rw [← r.length]; exact zz⟩⟩
      · cases rx with
        | lst q zz r => exact ⟨a, ex, ⟨_, .inl (.inl q)⟩, q1 _ F1 H1 (.refl S1.sub) ⟨_, wk_own (a := a) r, q, fun H H' l s => s _ _ l, by rw [← r.length]; exact zz⟩⟩
    · by_cases h2 : ∃ ds, ev env = .ok (.tup ds)
      · obtain ⟨ds, z⟩ := h2
        refine .inr (.inl (seqE S g fun x d' F1 H1 ee S1 g1 rx q1 => ?_))
        rw [z] at ee; cases ee
        rcases rx with rx | ⟨a, ex, na, rx⟩
        · cases rx with
          | tup q zz r => exact ⟨_, rfl, ⟨_, S1.sub.tup q⟩, q1 _ F1 H1 (.refl S1.sub) ⟨NoL, wk_tup q r, trivial, fun _ _ _ _ => trivial, by rw [← r.length]; exact zz⟩⟩
        · cases rx
      · refine .inr (.inr (seqE S g fun x d' F1 H1 ee S1 g1 rx q1 => ?_))
        cases d' with
        | lst ds => exact absurd ⟨ds, ee⟩ h1
        | tup ds => exact absurd ⟨ds, ee⟩ h2
        | str l =>
          obtain ⟨ex, z⟩ := bo_str rx
          exact ⟨_, ex, q1 _ F1 H1 (.refl S1.sub) ⟨NoL, wk_str z, trivial, fun _ _ _ _ => trivial, by simpa using z.1⟩⟩
        | _ => exact q1.elim
theorem i_r1 {p : Pos} (hm : X.mg "range" = none) (ha : PEv ct k X W a ea) (hg : Gl X "range" := by rfl) (hs : starEach [a] X.env = [(false, eval a X.env)] := by rfl) : PFv ct k X W tg (.Call (.Name "range" p) [a] [] pos) (iR1 ea) := fun C =>
  (pi_range1 hg hm (pa_cons (ha C) pa_nil hs) hs).imp fun σ H Q ⟨H0, F0, F, env, S, g⟩ => seq S g fun x d F1 H1 S1 g1 rx q1 => by
    cases d with
    | int j =>
      have ex := bo_int (H := H1) (.inl rx)
      subst ex
      dsimp only [rng1] at q1
      split at q1
      · rename_i z
        exact ⟨j, rfl, z.1, z.2.1, q1 _ F1 H1 (.refl S1.sub) ⟨wk_rng, by rw [rngD_len]; exact z.2.2⟩⟩
      · exact q1.elim
    | _ => exact q1.elim
theorem i_r2 {p : Pos} (hm : X.mg "range" = none) (ha : PEv ct k X W a ea) (hb : PEv ct k X W b eb) (hg : Gl X "range" := by rfl) (hs : starEach [a, b] X.env = [(false, eval a X.env), (false, eval b X.env)] := by rfl) (hs2 : starEach [b] X.env = [(false, eval b X.env)] := by rfl)
    (hs3 : starEach [a, b] X.env = (false, eval a X.env) :: starEach [b] X.env := by rfl) : PFv ct k X W tg (.Call (.Name "range" p) [a, b] [] pos) (iR2 ea eb) := fun C =>
  (pi_range2 hg hm (pa_cons (ha C) (pa_cons (hb C) pa_nil hs2) hs3) hs hs2).imp fun σ H Q ⟨H0, F0, F, env, S, g⟩ => seq S g fun x d F1 H1 S1 g1 rx q1 => seq S1 q1 fun y e F2 H2 S2 g2 ry q2 => by
    cases d with
    | int i =>
      cases e with
      | int j =>
        have ex := bo_int (H := H1) (.inl rx)
        have ey := bo_int (H := H2) (.inl ry)
        subst ex ey
        dsimp only [rng2] at q2
        split at q2
        · rename_i z
          exact ⟨i, j, rfl, z.1, q2 _ F2 H2 (.refl S2.sub) ⟨wk_rng, by rw [rngD_len]; exact z.2⟩⟩
        · exact q2.elim
      | _ => exact q2.elim
    | _ => exact q2.elim
/-! ### zip, enumerate -/
theorem zip_at {xs ys : List D} {i : Nat} {x y : D} (h1 : xs[i]? = some x) (h2 : ys[i]? = some y) : (zipW xs ys)[i]? = some (.tup [x, y]) := by
  unfold zipW
  rw [List.getElem?_zipWith, h1, h2]
theorem enum_len : ∀ (n : Nat) (ds : List D), (enumD n ds).length = ds.length
  | _, [] => rfl
  | n, d :: r => by rw [enumD, List.length_cons, enum_len (n + 1) r]; rfl
theorem enum_at : ∀ (n : Nat) (ds : List D) (i : Nat) (d : D), ds[i]? = some d → (enumD n ds)[i]? = some (.tup [.int ((n + i : Nat) : Int), d])
  | n, [], i, d, h => by simp at h
  | n, e :: r, 0, d, h => by
    simp at h; subst h; rfl
  | n, e :: r, i + 1, d, h => by
    have := enum_at (n + 1) r i d (by simpa using h)
    rw [enumD, List.getElem?_cons_succ, this]
    congr 4
    omega
theorem zipW_len (xs ys : List D) : (zipW xs ys).length = min xs.length ys.length := by simp [zipW]
theorem wk_zipL {K : PySem.W.Frag} {F : Hp} {a b : Addr} {vs ws : List V} {ds es : List D} (qa : F a = some (.lst vs)) (qb : F b = some (.lst ws)) (ra : RpA K F vs ds) (rb : RpA K F ws es) : WalkD K F NoL (Itz K a b) (zipW ds es) := by
  have la := ra.length
  have lb := rb.length
  refine ⟨fun i H F' hi ff s _ => ?_, fun H F' ff s _ => ?_, fun i H F' x H' hi ff s _ y => ?_⟩
  · rw [zipW_len] at hi
    have h1 : i < vs.length := by omega
    have h2 : i < ws.length := by omega
    exact ⟨vs, ws, vs[i], ws[i], .inl (s _ _ (ff _ _ qa)), .inl (s _ _ (ff _ _ qb)), List.getElem?_eq_getElem h1, List.getElem?_eq_getElem h2⟩
  · exact ⟨vs, ws, .inl (s _ _ (ff _ _ qa)), .inl (s _ _ (ff _ _ qb)), by rw [zipW_len]; omega⟩
  · obtain ⟨T, v, w, rfl, nT, rfl, h1, h2⟩ := y
    obtain ⟨d, e1, r1⟩ := ra.get (h1 vs (.inl (s _ _ (ff _ _ qa))))
    obtain ⟨e, e2, r2⟩ := rb.get (h2 ws (.inl (s _ _ (ff _ _ qb))))
    have gn := Gd.new (o := .tup [v, w]) s nT
    exact ⟨_, gn, _, zip_at e1 e2, .tup (.inl upd_same) (by show (2:Nat) ≤ 16777216; decide) (.cons ((r1.mono ff).mono gn.ff) (.cons ((r2.mono ff).mono gn.ff) .nil))⟩
theorem wk_zipT {K : PySem.W.Frag} {F : Hp} {a b : Addr} {vs ws : List V} {ds es : List D} (qa : Ts K F a vs) (qb : Ts K F b ws) (ra : RpA K F vs ds) (rb : RpA K F ws es) : WalkD K F NoL (RZ.ItzT K a b) (zipW ds es) := by
  have la := ra.length
  have lb := rb.length
  refine ⟨fun i H F' hi ff s _ => ?_, fun H F' ff s _ => ?_, fun i H F' x H' hi ff s _ y => ?_⟩
  · rw [zipW_len] at hi
    have h1 : i < vs.length := by omega
    have h2 : i < ws.length := by omega
    exact ⟨vs, ws, vs[i], ws[i], s.tup (ts_ext ff qa), s.tup (ts_ext ff qb), List.getElem?_eq_getElem h1, List.getElem?_eq_getElem h2⟩
  · exact ⟨vs, ws, s.tup (ts_ext ff qa), s.tup (ts_ext ff qb), by rw [zipW_len]; omega⟩
  · obtain ⟨T, v, w, rfl, nT, rfl, h1, h2⟩ := y
    obtain ⟨d, e1, r1⟩ := ra.get (h1 vs (s.tup (ts_ext ff qa)))
    obtain ⟨e, e2, r2⟩ := rb.get (h2 ws (s.tup (ts_ext ff qb)))
    have gn := Gd.new (o := .tup [v, w]) s nT
    exact ⟨_, gn, _, zip_at e1 e2, .tup (.inl upd_same) (by show (2:Nat) ≤ 16777216; decide) (.cons ((r1.mono ff).mono gn.ff) (.cons ((r2.mono ff).mono gn.ff) .nil))⟩
theorem i_zip {p tpos : Pos} {elts : List Expr} {kk : Nat} (hm : X.mg "zip" = none) (ha : PEv ct k X W a ea) (hb : PEv ct k X W b eb) (hg : Gl X "zip" := by rfl)
    (hs : starEach [a, b] X.env = (false, eval a X.env) :: starEach [b] X.env := by rfl) (hs2 : starEach [b] X.env = (false, eval b X.env) :: starEach [] X.env := by rfl) (hpl : (backTo pos (starEach [b] X.env)).any (·.1) = false := by rfl) :
    PFv ct k X W (.Tuple elts kk tpos) (.Call (.Name "zip" p) [a, b] [] pos) (iZip ea eb) := fun C =>
  ((RZ.pi_zipA hg hm (pa_cons (ha C) (pa_cons (hb C) pa_nil hs2) hs) hs hpl).or (pi_zipS hg hm (pa_cons (ha C) (pa_cons (hb C) pa_nil hs2) hs) hs hpl)).imp fun σ H Q ⟨H0, F0, F, env, S, g⟩ => by
    by_cases hS : ∃ l, ea env = .ok (.str l)
    · obtain ⟨l, z⟩ := hS
      refine .inr (seqE S g fun x d F1 H1 ee S1 g1 rx q1 => seq S1 q1 fun y e F2 H2 S2 g2 ry q2 => ?_)
      rw [z] at ee; cases ee
      cases e with
      | str m =>
        obtain ⟨ex, hl⟩ := bo_str (H := H1) (.inl rx)
        obtain ⟨ey, hm'⟩ := bo_str (H := H2) (.inl ry)
        subst ex ey
        refine ⟨_, _, rfl, q2 _ F2 H2 (.refl S2.sub) ⟨wk_pair (xs := l.map fun c => D.str [c]) (ys := m.map fun c => D.str [c]) ?_ (fun _ _ _ _ => trivial) (fun F' i v _ ff y => sg_rp hl y) (fun F' i v _ ff y => sg_rp hm' y) (fun i x y _ h1 h2 => zip_at h1 h2), ?_⟩⟩
        · rw [zipW_len]; simp [tx]
        · rw [zipW_len, List.length_map]
          exact Nat.le_trans (Nat.min_le_left _ _) hl.1
      | _ => exact q2.elim
    · refine .inl (seqE S g fun x d F1 H1 ee S1 g1 rx q1 => seq S1 q1 fun y e F2 H2 S2 g2 ry q2 => ?_)
      cases d with
      | str l => exact absurd ⟨l, ee⟩ hS
      | lst ds =>
        cases e with
        | lst es =>
          cases rx with
          | lst qa za ra =>
            cases ry with
            | lst qb zb rb =>
              have qa' := g2.ff _ _ qa
              refine ⟨_, _, _, _, rfl, .inl ⟨.inl (S2.sub _ _ qa'), .inl (S2.sub _ _ qb), q2 _ F2 H2 (.refl S2.sub) ⟨wk_zipL qa' qb (ra.mono g2.ff) rb, ?_⟩⟩⟩
              rw [zipW_len, ← ra.length]
              exact Nat.le_trans (Nat.min_le_left _ _) za
        | _ => exact q2.elim
      | tup ds =>
        cases e with
        | tup es =>
          cases rx with
          | tup qa za ra =>
            cases ry with
            | tup qb zb rb =>
              have qa' := ts_ext g2.ff qa
              refine ⟨_, _, _, _, rfl, .inr ⟨S2.sub.tup qa', S2.sub.tup qb, q2 _ F2 H2 (.refl S2.sub) ⟨wk_zipT qa' qb (ra.mono g2.ff) rb, ?_⟩⟩⟩
              rw [zipW_len, ← ra.length]
              exact Nat.le_trans (Nat.min_le_left _ _) za
        | _ => exact q2.elim
      | _ => exact q2.elim
theorem wk_enumL {K : PySem.W.Frag} {F : Hp} {a : Addr} {vs : List V} {ds : List D} (q : F a = some (.lst vs)) (r : RpA K F vs ds) : WalkD K F NoL (Ite K a) (enumD 0 ds) := by
  have la := r.length
  refine ⟨fun i H F' hi ff s _ => ?_, fun H F' ff s _ => ?_, fun i H F' x H' hi ff s _ y => ?_⟩
  · rw [enum_len] at hi
    have h1 : i < vs.length := by omega
    exact ⟨vs, vs[i], .inl (s _ _ (ff _ _ q)), List.getElem?_eq_getElem h1⟩
  · exact ⟨vs, .inl (s _ _ (ff _ _ q)), by rw [enum_len]; omega⟩
  · obtain ⟨T, v, rfl, nT, rfl, h1⟩ := y
    obtain ⟨d, e1, r1⟩ := r.get (h1 vs (.inl (s _ _ (ff _ _ q))))
    have gn := Gd.new (o := .tup [.int (i : Nat), v]) s nT
    refine ⟨_, gn, _, enum_at 0 ds i d e1, .tup (.inl upd_same) (by show (2:Nat) ≤ 16777216; decide) (.cons ?_ (.cons ((r1.mono ff).mono gn.ff) .nil))⟩
    rw [Nat.zero_add]
    exact .int _
theorem i_enum {p tpos : Pos} {elts : List Expr} {kk : Nat} (hm : X.mg "enumerate" = none) (ha : PEv ct k X W a ea) (hg : Gl X "enumerate" := by rfl) (hs : starEach [a] X.env = [(false, eval a X.env)] := by rfl) :
    PFv ct k X W (.Tuple elts kk tpos) (.Call (.Name "enumerate" p) [a] [] pos) (iEnum ea) := fun C =>
  ((pi_enum hg hm (pa_cons (ha C) pa_nil hs) hs).or (pi_enumX hg hm (pa_cons (ha C) pa_nil hs) hs)).imp fun σ H Q ⟨H0, F0, F, env, S, g⟩ => by
    by_cases hL : ∃ ds, ea env = .ok (.lst ds)
    · obtain ⟨ds, z⟩ := hL
      refine .inl (seqE S g fun x d F1 H1 ee S1 g1 rx q1 => ?_)
      rw [z] at ee; cases ee
      cases rx with
      | lst q zz r => exact ⟨_, _, rfl, .inl (S1.sub _ _ q), q1 _ F1 H1 (.refl S1.sub) ⟨wk_enumL q r, by rw [enum_len, ← r.length]; exact zz⟩⟩
    · refine .inr (seqE S g fun x d F1 H1 ee S1 g1 rx q1 => ⟨x, rfl, ?_⟩)
      cases d with
      | lst ds => exact absurd ⟨ds, ee⟩ hL
      | tup ds =>
        cases rx with
        | tup q zz r =>
          refine .inl ⟨_, _, rfl, S1.sub.tup q, q1 _ F1 H1 (.refl S1.sub) ⟨wk_pair (xs := rngD 0 ds.length) (ys := ds) (by rw [enum_len, r.length]) (fun H F' ff s => s.tup (ts_ext ff q)) (fun F' i v hi ff y => ?_) (fun F' i v hi ff y => ?_) (fun i x y hi h1 h2 => ?_), by rw [enum_len, ← r.length]; exact zz⟩⟩
          · subst y
            rw [r.length] at hi
            exact ⟨.int (i : Nat), by simp [rngD, hi], .int _⟩
          · obtain ⟨d, e1, r1⟩ := r.get y
            exact ⟨d, e1, r1.mono ff⟩
          · rw [r.length] at hi
            have e : x = .int (i : Nat) := by simpa [rngD, hi] using h1.symm
            subst e
            have := enum_at 0 ds i y h2
            rwa [Nat.zero_add] at this
      | str l =>
        obtain ⟨ex, hl⟩ := bo_str (H := H1) (.inl rx)
        have hn : (tx l).cps.size = l.length := by simp [tx]
        refine .inr ⟨_, ex, q1 _ F1 H1 (.refl S1.sub) ⟨wk_pair (xs := rngD 0 l.length) (ys := l.map fun c => D.str [c]) (by rw [enum_len, hn, List.length_map]) (fun _ _ _ _ => trivial) (fun F' i v hi ff y => ?_) (fun F' i v _ ff y => sg_rp hl y) (fun i x y hi h1 h2 => ?_), by rw [enum_len, List.length_map]; exact hl.1⟩⟩
        · subst y
          rw [hn] at hi
          exact ⟨.int (i : Nat), by simp [rngD, hi], .int _⟩
        · rw [hn] at hi
          have e : x = .int (i : Nat) := by simpa [rngD, hi] using h1.symm
          subst e
          have := enum_at 0 _ i y h2
          rwa [Nat.zero_add] at this
      | _ => exact q1.elim
/-! ### the keys of a dict: locked while it is walked -/
def iKL (X : Cx) (td : TE) : TI := fun σ H R => td σ H fun x H1 => ∃ d kvs, x = .ref d ∧ ((H1 d = some (.dK kvs) ∧ ∀ od, (∀ o' u', X.H_0 d ≠ some (.frz o' u')) → R (Itk d od kvs) (upd H1 d (.frz od (.dK kvs)))) ∨ ∃ od, H1 d = some (.frz od (.dK kvs)) ∧ R (Itk d od kvs) H1)
theorem pi_keysL {td : TE} (he : PE X e td) : PI X tg e (iKL X td) := by
  refine ⟨fun pins s σ H R I h => ?_⟩
  refine thn (he.run pins s σ H _ I h) fun u s1 ⟨x, H1, I1, rx, d, kvs, ex, q⟩ => ?_
  subst ex
  obtain rfl : u = Value.ref d := rx
  rcases q with ⟨hd, q⟩ | ⟨od, hd, q⟩
  · obtain ⟨od, I2⟩ := I1.lock hd trivial
    have q := q od (I1.nofrz hd trivial)
    obtain ⟨hs, hgd, hx, es, ep, vs, hdt, hsz, kv, hm⟩ := I2.frzK upd_same
    refine iter_keys hs hgd hx hdt (pi_one (tk := s1.toks) I2 _ (turn_keys _ hdt) ⟨_, Heap.get?_push_size _ rfl, rfl, ?_⟩ q)
    rw [hsz] <;> rfl
  · obtain ⟨hs, hgd, hx, es, ep, vs, hdt, hsz, kv, hm⟩ := I1.frzK hd
    refine iter_keys hs hgd hx hdt (pi_one (tk := s1.toks) I1 _ (turn_keys _ hdt) ⟨_, Heap.get?_push_size _ rfl, rfl, ?_⟩ q)
    rw [hsz] <;> rfl
/-- what is wanted, behind an unlocking -/
def Ul (X : Cx) {α : Type} (f : α → Hp → Prop) : α → Hp → Prop := fun v H' => f v H' ∨ ∃ d od u, H' d = some (.frz od u) ∧ (∀ o' u', X.H_0 d ≠ some (.frz o' u')) ∧ f v (upd H' d u)
theorem ps_ul {st : Stmt} {t : TS} (h : PS X st t) : PS X st (fun D σ H => t ⟨Ul X D.nx, Ul X D.rt, Ul X D.bk, Ul X D.ct⟩ σ H) := by
  refine ⟨fun pins s σ H D I hw => ?_⟩
  refine thn (h.run pins s σ H _ I hw) fun f s1 q => ?_
  cases f with
  | next =>
    obtain ⟨σ', H', I2, q | ⟨d, od, u, e, hn, q⟩⟩ := q
    · exact ⟨σ', H', I2, q⟩
    · exact ⟨σ', _, I2.unlock e hn, q⟩
  | brk =>
    obtain ⟨σ', H', I2, q | ⟨d, od, u, e, hn, q⟩⟩ := q
    · exact ⟨σ', H', I2, q⟩
    · exact ⟨σ', _, I2.unlock e hn, q⟩
  | cont =>
    obtain ⟨σ', H', I2, q | ⟨d, od, u, e, hn, q⟩⟩ := q
    · exact ⟨σ', H', I2, q⟩
    · exact ⟨σ', _, I2.unlock e hn, q⟩
  | ret v =>
    obtain ⟨x, σ', H', I2, r, q | ⟨d, od, u, e, hn, q⟩⟩ := q
    · exact ⟨x, σ', H', I2, r, q⟩
    · exact ⟨x, σ', _, I2.unlock e hn, r, q⟩
theorem pe_ul {t : TE} (h : PE X e t) : PE X e (fun σ H Q => t σ H (Ul X Q)) := by
  refine ⟨fun pins s σ H Q I hw => ?_⟩
  refine thn (h.run pins s σ H _ I hw) fun v s1 q => ?_
  obtain ⟨x, H', I2, r, q | ⟨d, od, u, e, hn, q⟩⟩ := q
  · exact ⟨x, H', I2, r, q⟩
  · exact ⟨x, _, I2.unlock e hn, r, q⟩
end
end Pv

namespace Pv
variable [HasW]
open PySem PySem.Spec L2
theorem lcD_noexc {T : Tg} {tv : Tv} {ee : Xv} {env : En} {c : String} : ∀ l : List D, lcD T tv ee env l ≠ .exc c := by
  intro l
  induction l with
  | nil => intro h; cases h
  | cons x xs ih =>
    intro h
    unfold lcD at h
    cases y : stT T x env with
    | none => rw [y] at h; cases h
    | some env2 =>
      rw [y] at h
      dsimp only at h
      cases t1 : tv env2 with
      | ok b =>
        rw [t1] at h
        cases b with
        | true =>
          cases t2 : ee env2 with
          | ok y =>
            rw [t2] at h
            cases w : lcD T tv ee env xs with
            | ok r => rw [w] at h; cases h
            | exc c' => rw [w] at h; cases h; exact ih w
            | bad => rw [w] at h; cases h
          | exc c => rw [t2] at h; cases h
          | bad => rw [t2] at h; cases h
        | false => exact ih h
      | exc c => rw [t1] at h; cases h
      | bad => rw [t1] at h; cases h
section
variable {K : PySem.W.Frag} {H0 F0 F H F1 H1 : Hp} {σ σ1 : St} {env env1 : En} {a : Addr} {od : Obj} {u : HO}
/-! ### a lock -/
theorem sub_lock (s : Sub F H) (fa : F a = some u) (ha : H a = some u) : Sub F (upd H a (.frz od u)) := fun b x h => by
  by_cases e : b = a
  · subst e
    rw [fa] at h
    cases h
    exact .inr ⟨od, upd_same⟩
  · rcases s b x h with q | ⟨o, q⟩
    · exact .inl (by rw [upd_ne e]; exact q)
    · exact .inr ⟨o, by rw [upd_ne e]; exact q⟩
theorem SR.rebaseL (S : SR K H0 F0 F H σ env) (fa : F a = some u) (ha : H a = some u) : SR K (bse env σ (upd H a (.frz od u))) F F (upd H a (.frz od u)) σ env := by
  refine ⟨⟨fun _ _ h => h, fun b o h => bse_some h, sub_lock S.sub fa ha, fun a h => .inl h⟩, S.len, S.fz, fun i d e => ?_, S.ap⟩
  obtain ⟨b, h1, h2, h3, h4⟩ := S.ow i d e
  have ne : b ≠ a := fun z => by subst z; rw [fa] at h3; cases h3
  refine ⟨b, h1, ?_, h3, h4.mono (fun _ _ h => h) fun o q => by rw [upd_ne ne]; exact q⟩
  unfold bse
  rw [if_pos ⟨i, d, e, h1⟩]
theorem not_own (S : SR K H0 F0 F H σ env) (fa : F a = some u) : ¬ ∃ i d, gt env i = some (.ow d) ∧ σ[i]? = some (some (.ref a)) := by
  rintro ⟨i, d, e, h1⟩
  obtain ⟨b, h1', _, h3, _⟩ := S.ow i d e
  rw [h1] at h1'
  cases h1'
  rw [fa] at h3; cases h3
theorem lock_still (S : SR K H0 F0 F H σ env) (fa : F a = some u) (g : Same (bse env σ (upd H a (.frz od u))) H1) : H1 a = some (.frz od u) := by
  refine g a _ ?_
  unfold bse
  rw [if_neg (not_own S fa), upd_same]
theorem Gd.unbaseL (S : SR K H0 F0 F H σ env) (fa : F a = some u) (ha : H a = some u) (g : Gd F (bse env σ (upd H a (.frz od u))) F1 H1) : Gd F0 H0 F1 (upd H1 a u) := by
  refine ⟨fun b x h => g.ff b x (S.gd.ff b x h), fun b o h => ?_, fun b x h => ?_, fun b h => ?_⟩
  · by_cases e : b = a
    · subst e
      have q := S.gd.hh b o h
      rw [ha] at q
      cases q
      exact upd_same
    · rw [upd_ne e]
      refine g.hh b o ?_
      unfold bse
      rw [if_neg, upd_ne e]
      · exact S.gd.hh b o h
      · rintro ⟨i, d, e', h1⟩
        obtain ⟨b', h1', h2, _⟩ := S.ow i d e'
        rw [h1] at h1'
        cases h1'
        rw [h] at h2; cases h2
  · by_cases e : b = a
    · subst e
      rw [g.ff _ _ fa] at h
      cases h
      exact .inl upd_same
    · rcases g.sub b x h with q | ⟨o, q⟩
      · exact .inl (by rw [upd_ne e]; exact q)
      · exact .inr ⟨o, by rw [upd_ne e]; exact q⟩
  · rcases g.nw b h with q | q
    · exact S.gd.nw b q
    · refine .inr ?_
      unfold bse at q
      split at q
      · rename_i z
        obtain ⟨i, d, e, h1⟩ := z
        obtain ⟨b', h1', h2, _⟩ := S.ow i d e
        rw [h1] at h1'
        cases h1'
        exact h2
      · have ne : b ≠ a := fun z => by subst z; rw [upd_same] at q; cases q
        rw [upd_ne ne] at q
        exact S.gd.hh.free q
theorem SR.unbaseL (S : SR K H0 F0 F H σ env) (fa : F a = some u) (ha : H a = some u) (S1 : SR K (bse env σ (upd H a (.frz od u))) F F1 H1 σ1 env1) : SR K H0 F0 F1 (upd H1 a u) σ1 env1 := by
  have fa1 := S1.gd.ff _ _ fa
  refine ⟨Gd.unbaseL S fa ha S1.gd, S1.len, S1.fz, fun i d e => ?_, S1.ap⟩
  obtain ⟨b, h1, h2, h3, h4⟩ := S1.ow i d e
  have ne : b ≠ a := fun z => by subst z; rw [fa1] at h3; cases h3
  refine ⟨b, h1, ?_, h3, h4.mono (fun _ _ h => h) fun o q => by rw [upd_ne ne]; exact q⟩
  unfold bse at h2
  split at h2
  · rename_i z
    obtain ⟨j, d', e', h1'⟩ := z
    obtain ⟨b', h1'', h2', _⟩ := S.ow j d' e'
    rw [h1'] at h1''
    cases h1''
    exact h2'
  · rw [upd_ne ne] at h2
    exact S.gd.hh.free h2
end
/-! ### the loop's heart -/
theorem for_core {K : PySem.W.Frag} {W : WS} {J : It} {ds : List D} {T : Tg} {bv : Sv} {B F1 HL : Hp} {σ : St} {env : En} {D2 : Ends} {L : Hp → Prop} (wk : WalkD K F1 L J ds) (hL : ∀ H', Same B H' → L H') (S : SR K B F1 F1 HL σ env) (q : GotS K W B F1 D2 (forD T bv ds env)) :
    ∃ Wv : Nat → Nat → St → Hp → Prop, (∃ m, Wv 0 m σ HL) ∧ ∀ i m σ H, Wv i m σ H →
      (J.stop i H ∧ D2.nx σ H) ∨ (J.go i H ∧ ∃ N : St → Hp → Prop, (∀ σ' H', N σ' H' → ∃ m', m' < m ∧ Wv (i + 1) m' σ' H') ∧ ∀ x H', J.yld i H x H' → gT K T x σ H' fun σ2 H2 => rs K W bv { D2 with nx := N, ct := N, bk := D2.nx } σ2 H2) := by
  refine ⟨fun i m σ' H' => m = ds.length - i ∧ i ≤ ds.length ∧ ∃ F' env', SR K B F1 F' H' σ' env' ∧ GotS K W B F1 D2 (forD T bv (ds.drop i) env'), ⟨ds.length, by omega, Nat.zero_le _, F1, env, S, q⟩, ?_⟩
  rintro i m σ' H' ⟨rfl, hi, F', env', S', q'⟩
  have Lh := hL H' S'.gd.hh
  by_cases hlt : i < ds.length
  · refine .inr ⟨wk.go i H' F' hlt S'.gd.ff S'.sub Lh, fun σ2 H2 => ∃ F2 env2, SR K B F1 F2 H2 σ2 env2 ∧ GotS K W B F1 D2 (forD T bv (ds.drop (i + 1)) env2),
      fun σ2 H2 ⟨F2, env2, S2, q2⟩ => ⟨ds.length - (i + 1), by omega, rfl, hlt, F2, env2, S2, q2⟩, fun x H2 hy => ?_⟩
    obtain ⟨F2, gd2, d, hd, rx⟩ := wk.yld i H' F' x H2 hlt S'.gd.ff S'.sub Lh hy
    have hdr : ds.drop i = d :: ds.drop (i + 1) := by
      rw [List.drop_eq_getElem_cons hlt]
      congr 1
      rw [List.getElem?_eq_getElem hlt] at hd
      exact Option.some.inj hd
    rw [hdr] at q'
    unfold forD at q'
    cases z : stT T d env' with
    | none => rw [z] at q'; exact q'.elim
    | some env2 =>
      rw [z] at q'
      refine g_run (ixs T) (fun i h => h) (S'.grow gd2) rx z fun σ2 S2 _ => ⟨B, F1, F2, env2, S2, ?_⟩
      dsimp only at q'
      cases y : bv env2 with
      | nx e => rw [y] at q'; exact fun σ3 F3 H3 S3 => ⟨F3, e, S3, q'⟩
      | cont e => rw [y] at q'; exact fun σ3 F3 H3 S3 => ⟨F3, e, S3, q'⟩
      | brk e => rw [y] at q'; exact fun σ3 F3 H3 S3 => q' σ3 F3 H3 S3
      | ret d => rw [y] at q'; exact fun v F3 H3 g3 r3 => q' v F3 H3 g3 r3
      | exc c e => rw [y] at q'; exact fun σ3 F3 H3 S3 => q' σ3 F3 H3 S3
      | bad => rw [y] at q'; exact q'.elim
  · have e : i = ds.length := by omega
    subst e
    rw [List.drop_length] at q'
    exact .inl ⟨wk.stop H' F' S'.gd.ff S'.sub Lh, q' σ' F' H' S'⟩
theorem rpK_at {K : PySem.W.Frag} {F : Hp} : ∀ {kvs : List (Key × V)} {ds : List (List Nat × D)} {i : Nat} {k : Key} {v : V}, RpK K F kvs ds → kvs[i]? = some (k, v) → ∃ key, k = Sum.inr (tx key) ∧ okS key ∧ (ds.map fun kv => D.str kv.1)[i]? = some (.str key)
  | _, _, _, _, _, .nil, e => by simp at e
  | _, _, 0, _, _, @RpK.cons _ _ _ key _ _ _ _ z r t, e => by
    simp at e
    obtain ⟨e1, e2⟩ := e
    exact ⟨key, e1.symm, z, rfl⟩
  | _, _, i + 1, _, _, .cons z r t, e => by
    obtain ⟨key, h1, h3, h2⟩ := rpK_at (i := i) t (by simpa using e)
    exact ⟨key, h1, h3, by simpa using h2⟩
theorem wk_keys {K : PySem.W.Frag} {F : Hp} {a : Addr} {od : Obj} {kvs : List (Key × V)} {ds : List (List Nat × D)} (r : RpK K F kvs ds) : WalkD K F (fun H => H a = some (.frz od (.dK kvs))) (Itk a od kvs) (ds.map fun kv => D.str kv.1) := by
  have hl : (ds.map fun kv => D.str kv.1).length = kvs.length := by rw [List.length_map, r.length]
  refine ⟨fun i H F' hi ff s l => ⟨l, by rw [hl] at hi; exact hi⟩, fun H F' ff s l => ⟨l, Nat.le_of_eq hl.symm⟩, fun i H F' x H' hi ff s l y => ?_⟩
  obtain ⟨e, k, v, h1, rfl⟩ := y
  subst e
  obtain ⟨key, rfl, ok, h2⟩ := rpK_at r h1
  exact ⟨F', .refl s, _, h2, .str key ok⟩
end Pv

namespace Pv
variable [HasW]
open PySem PySem.Spec L2
/-! ### owned slots -/
section
variable {K : PySem.W.Frag} {H0 F0 F H F1 H1 Hs : Hp} {σ σ1 : St} {env env1 : En}
theorem SR.setO (S : SR K H0 F0 F H σ env) {a : Addr} {d : D} (i : Nat) (n0 : H0 a = none) (nf : F a = none) (r : RpO K F H a d) (nw : ∀ j d', gt env j = some (.ow d') → i ≠ j → σ[j]? ≠ some (some (.ref a))) :
    SR K H0 F0 F H (σ.set i (some (.ref a))) (pt env i (some (.ow d))) := by
  refine ⟨S.gd, by rw [List.length_set, pt_len]; exact S.len, fun j d' e => ?_, fun j d' e => ?_, fun j j' d1 d2 b e1 e2 h1 h2 => ?_⟩
  · rcases gt_pt _ _ _ _ _ e with ⟨rfl, e', l⟩ | ⟨ne, e'⟩
    · cases e'
    · obtain ⟨w, h1, h2⟩ := S.fz j d' e'
      exact ⟨w, by rw [List.getElem?_set_ne ne]; exact h1, h2⟩
  · rcases gt_pt _ _ _ _ _ e with ⟨rfl, e', l⟩ | ⟨ne, e'⟩
    · cases e'
      exact ⟨a, by rw [List.getElem?_set_self (by rw [S.len]; exact l)], n0, nf, r⟩
    · obtain ⟨w, h1, h2⟩ := S.ow j d' e'
      exact ⟨w, by rw [List.getElem?_set_ne ne]; exact h1, h2⟩
  · rcases gt_pt _ _ _ _ _ e1 with ⟨rfl, e', l⟩ | ⟨ne, e1'⟩
    · rcases gt_pt _ _ _ _ _ e2 with ⟨rfl, e', l⟩ | ⟨ne2, e2'⟩
      · rfl
      · rw [List.getElem?_set_self (by rw [S.len]; exact l)] at h1
        cases h1
        rw [List.getElem?_set_ne ne2] at h2
        exact absurd h2 (nw j' d2 e2' ne2)
    · rcases gt_pt _ _ _ _ _ e2 with ⟨rfl, e', l⟩ | ⟨ne2, e2'⟩
      · rw [List.getElem?_set_self (by rw [S.len]; exact l)] at h2
        cases h2
        rw [List.getElem?_set_ne ne] at h1
        exact absurd h1 (nw j d1 e1' ne)
      · rw [List.getElem?_set_ne ne] at h1
        rw [List.getElem?_set_ne ne2] at h2
        exact S.ap j j' d1 d2 b e1' e2' h1 h2
/-- an owned thing is rewritten -/
theorem SR.write (S : SR K H0 F0 F H σ env) {i : Nat} {a : Addr} {d d' : D} {o : HO} (e : gt env i = some (.ow d)) (h : σ[i]? = some (some (.ref a))) (r : RpO K F (upd H a o) a d') :
    SR K H0 F0 F (upd H a o) σ (pt env i (some (.ow d'))) := by
  obtain ⟨a', h1, n0, nf, r0⟩ := S.ow i d e
  rw [h] at h1
  cases h1
  refine ⟨⟨S.gd.ff, fun b u hb => ?_, fun b u hb => ?_, S.gd.nw⟩, by rw [pt_len]; exact S.len, fun j d1 e1 => ?_, fun j d1 e1 => ?_, fun j j' d1 d2 b e1 e2 h1 h2 => ?_⟩
  · have ne : b ≠ a := fun z => by subst z; rw [n0] at hb; cases hb
    rw [upd_ne ne]; exact S.gd.hh b u hb
  · have ne : b ≠ a := fun z => by subst z; rw [nf] at hb; cases hb
    rcases S.gd.sub b u hb with z | ⟨o', z⟩
    · exact .inl (by rw [upd_ne ne]; exact z)
    · exact .inr ⟨o', by rw [upd_ne ne]; exact z⟩
  · rcases gt_pt _ _ _ _ _ e1 with ⟨rfl, e', l⟩ | ⟨ne, e'⟩
    · cases e'
    · exact S.fz j d1 e'
  · rcases gt_pt _ _ _ _ _ e1 with ⟨rfl, e', l⟩ | ⟨ne, e'⟩
    · cases e'
      exact ⟨a, h, n0, nf, r⟩
    · obtain ⟨b, h1, h2, h3, h4⟩ := S.ow j d1 e'
      have nb : b ≠ a := fun z => by
        subst z
        exact ne (S.ap i j d d1 b e e' h h1)
      exact ⟨b, h1, h2, h3, h4.mono (fun _ _ q => q) fun o q => by rw [upd_ne nb]; exact q⟩
  · rcases gt_pt _ _ _ _ _ e1 with ⟨rfl, e', l⟩ | ⟨ne, e1'⟩
    · rcases gt_pt _ _ _ _ _ e2 with ⟨rfl, e', l⟩ | ⟨ne2, e2'⟩
      · rfl
      · exact S.ap _ _ _ _ _ e e2' h1 h2
    · rcases gt_pt _ _ _ _ _ e2 with ⟨rfl, e', l⟩ | ⟨ne2, e2'⟩
      · exact S.ap _ _ _ _ _ e1' e h1 h2
      · exact S.ap _ _ _ _ _ e1' e2' h1 h2
/-- an owned thing is frozen -/
theorem SR.frz (S : SR K H0 F0 F H σ env) (i : Nat) : ∃ F', SR K H0 F0 F' H σ (frz i env) := by
  unfold Pv.frz
  split
  · rename_i d e
    obtain ⟨a, h1, n0, nf, r⟩ := S.ow i d e
    have up : ∀ (o : HO) (b : Addr) (u : HO), F b = some u → upd F a o b = some u := fun o b u hb => by
      have ne : b ≠ a := fun z => by subst z; rw [nf] at hb; cases hb
      rw [upd_ne ne]; exact hb
    have key : ∀ o, H a = some o → Rp K (upd F a o) (.ref a) d → SR K H0 F0 (upd F a o) H σ (pt env i (some (.fz d))) := by
      intro o ho rp
      refine ⟨⟨fun b u hb => up o b u (S.gd.ff b u hb), S.gd.hh, fun b u hb => ?_, fun b hb => ?_⟩, by rw [pt_len]; exact S.len, fun j d1 e1 => ?_, fun j d1 e1 => ?_, fun j j' d1 d2 b e1 e2 h1 h2 => ?_⟩
      · by_cases z : b = a
        · subst z; rw [upd_same] at hb; cases hb; exact .inl ho
        · rw [upd_ne z] at hb; exact S.gd.sub b u hb
      · by_cases z : b = a
        · subst z; exact .inr n0
        · rw [upd_ne z] at hb; exact S.gd.nw b hb
      · rcases gt_pt _ _ _ _ _ e1 with ⟨rfl, e', l⟩ | ⟨ne, e'⟩
        · cases e'; exact ⟨_, h1, rp⟩
        · obtain ⟨v, q1, q2⟩ := S.fz j d1 e'
          exact ⟨v, q1, q2.mono (up o)⟩
      · rcases gt_pt _ _ _ _ _ e1 with ⟨rfl, e', l⟩ | ⟨ne, e'⟩
        · cases e'
        · obtain ⟨b, q1, q2, q3, q4⟩ := S.ow j d1 e'
          have nb : b ≠ a := fun z => by
            subst z
            exact ne (S.ap i j d d1 b e e' h1 q1)
          exact ⟨b, q1, q2, by rw [upd_ne nb]; exact q3, q4.mono (up o) fun _ q => q⟩
      · rcases gt_pt _ _ _ _ _ e1 with ⟨rfl, e', l⟩ | ⟨ne, e1'⟩
        · cases e'
        · rcases gt_pt _ _ _ _ _ e2 with ⟨rfl, e', l⟩ | ⟨ne2, e2'⟩
          · cases e'
          · exact S.ap _ _ _ _ _ e1' e2' h1 h2
    cases r with
    | kd q z r => exact ⟨_, key _ q (.kd upd_same z r)⟩
    | lst q z r => exact ⟨_, key _ q (.lst upd_same z (r.mono (up _)))⟩
    | dic q z r => exact ⟨_, key _ q (.dic upd_same z (r.mono (up _)))⟩
  · exact ⟨F, S⟩
/-! ### several values, some of them owned -/
inductive RSl (K : PySem.W.Frag) (Hs F H : Hp) : List V → List Sl → Prop
  | nil : RSl K Hs F H [] []
  | fz {v : V} {d : D} {vs : List V} {ss : List Sl} : Rp K F v d → RSl K Hs F H vs ss → RSl K Hs F H (v :: vs) (.fz d :: ss)
  | ow {a : Addr} {d : D} {vs : List V} {ss : List Sl} : Hs a = none → F a = none → RpO K F H a d → (∀ (j : Nat) (d' : D), ss[j]? = some (Sl.ow d') → vs[j]? ≠ some (V.ref a)) → RSl K Hs F H vs ss → RSl K Hs F H (.ref a :: vs) (.ow d :: ss)
theorem RSl.length : ∀ {vs : List V} {ss : List Sl}, RSl K Hs F H vs ss → vs.length = ss.length
  | _, _, .nil => rfl
  | _, _, .fz _ t => congrArg (· + 1) (RSl.length t)
  | _, _, .ow _ _ _ _ t => congrArg (· + 1) (RSl.length t)
theorem RSl.start {Hs' : Hp} (h : Same Hs Hs') : ∀ {vs : List V} {ss : List Sl}, RSl K Hs' F H vs ss → RSl K Hs F H vs ss
  | _, _, .nil => .nil
  | _, _, .fz r t => .fz r (RSl.start h t)
  | _, _, .ow n f r d t => .ow (h.free n) f r d (RSl.start h t)
theorem RSl.fresh : ∀ {vs : List V} {ss : List Sl}, RSl K Hs F H vs ss → ∀ (j : Nat) (d' : D), ss[j]? = some (Sl.ow d') → ∀ a, vs[j]? = some (V.ref a) → Hs a = none
  | _, _, .nil, j, d', e, a, q => by simp at e
  | _, _, .fz r t, 0, d', e, a, q => by simp at e
  | _, _, .fz r t, j + 1, d', e, a, q => RSl.fresh t j d' (by simpa using e) a (by simpa using q)
  | _, _, .ow n f r d t, 0, d', e, a, q => by simp at q; subst q; exact n
  | _, _, .ow n f r d t, j + 1, d', e, a, q => RSl.fresh t j d' (by simpa using e) a (by simpa using q)
/-- stored from the left -/
def setAll : List Nat → List V → St → St
  | i :: is, v :: vs, σ => setAll is vs (σ.set i (some v))
  | _, _, σ => σ
theorem sr_all : ∀ (is : List Nat) (vs : List V) (ss : List Sl) (σ : St) (env env' : En), SR K H0 F0 F H σ env → RSl K Hs F H vs ss → (∀ a, Hs a = none → H0 a = none) → (∀ j d', gt env j = some (.ow d') → ∀ (m : Nat) (d2 : D) (a : Addr), ss[m]? = some (Sl.ow d2) → vs[m]? = some (V.ref a) → σ[j]? ≠ some (some (.ref a))) →
    ptSl is ss env = some env' → SR K H0 F0 F H (setAll is vs σ) env'
  | [], vs, ss, σ, env, env', S, r, h0, nw, e => by
    cases r with
    | nil =>
      have e' : env = env' := Option.some.inj e
      subst e'
      exact S
    | fz _ _ => cases e
    | ow _ _ _ _ _ => cases e
  | i :: is, vs, ss, σ, env, env', S, r, h0, nw, e => by
    cases r with
    | nil => cases e
    | fz rv t =>
      refine sr_all is _ _ _ _ env' (S.set i rv) t h0 (fun j d' g m d2 a q1 q2 => ?_) e
      rcases gt_pt _ _ _ _ _ g with ⟨rfl, e', l⟩ | ⟨ne, e'⟩
      · cases e'
      · rw [List.getElem?_set_ne ne]
        exact nw j d' e' (m + 1) d2 a (by simpa using q1) (by simpa using q2)
    | @ow a d vs ss n f rv dj t =>
      refine sr_all is _ _ _ _ env' (S.setO i (h0 a n) f rv fun j d' g ne => nw j d' g 0 d a rfl rfl) t h0 (fun j d' g m d2 b q1 q2 => ?_) e
      rcases gt_pt _ _ _ _ _ g with ⟨rfl, e', l⟩ | ⟨ne, e'⟩
      · rw [List.getElem?_set_self (by rw [S.len]; exact l)]
        intro z
        cases z
        exact dj m d2 q1 q2
      · rw [List.getElem?_set_ne ne]
        exact nw j d' e' (m + 1) d2 b (by simpa using q1) (by simpa using q2)
end
def GotO (K : PySem.W.Frag) (W : WS) (F H : Hp) (σ : St) (Q : List V → Hp → Prop) : Res (List Sl) → Prop
  | .ok ss => ∀ vs F' H', Gd F H F' H' → RSl K H F' H' vs ss → Q vs H'
  | .exc c => ∀ F' H', Gd F H F' H' → W c σ H'
  | .bad => False
def rdO (K : PySem.W.Frag) (W : WS) (ov : Ov) : TA := fun σ H Q => ∃ H0 F0 F env, SR K H0 F0 F H σ env ∧ GotO K W F H σ Q (ov env)
def PLv (ct : String → Addr) (k : Nat) (X : Cx) (W : WS) (es : List Expr) (ov : Ov) : Prop := Cz ct k X W → PA X es (rdO X.K W ov)
section
variable {ct : String → Addr} {k : Nat} {X : Cx} {W : WS} {e a b c : Expr} {es xs : List Expr} {pos : Pos} {ev ea eb ec : Xv} {ov : Ov} {aa : Av}
theorem l_nil : PLv ct k X W [] oNil := fun C => pa_nil.imp fun σ H Q ⟨H0, F0, F, env, S, g⟩ => g [] F H (.refl S.sub) .nil
theorem l_fz (ha : PEv ct k X W e ea) (hr : PLv ct k X W es ov) (hs : starEach (e :: es) X.env = (false, eval e X.env) :: starEach es X.env := by rfl) : PLv ct k X W (e :: es) (oF ea ov) := fun C =>
  (pa_cons (ha C) (hr C) hs).imp fun σ H Q ⟨H0, F0, F, env, S, g⟩ => ⟨H0, F0, F, env, S, by
    unfold oF at g
    cases q : ea env with
    | ok d =>
      rw [q] at g
      intro v F1 H1 g1 rv
      refine ⟨H0, F0, F1, env, S.grow g1, ?_⟩
      have g' : GotO X.K W F H σ Q ((ov env).bind fun xs => .ok (.fz d :: xs)) := g
      cases z : ov env with
      | ok ss =>
        rw [z] at g'
        exact fun vs F2 H2 g2 r => g' (v :: vs) F2 H2 (g1.trans g2) (.fz (rv.mono g2.ff) (r.start g1.hh))
      | exc c => rw [z] at g'; exact fun F' H' gd => g' F' H' (g1.trans gd)
      | bad => rw [z] at g'; exact g'
    | exc c => rw [q] at g; exact g
    | bad => rw [q] at g; exact g⟩
theorem got_ow {K : PySem.W.Frag} {F H F1 H1 Hp2 : Hp} {σ : St} {Q : List V → Hp → Prop} {p : Addr} {o : HO} {d : D} {r : Res (List Sl)} (g1 : Gd F H F1 H1) (np : H1 p = none) (ro : ∀ F' H', Gd F1 (upd H1 p o) F' H' → F' p = none → RpO K F' H' p d) (s1 : Sub F1 H1)
    (g : GotO K W F H σ Q (r.bind fun ss => .ok (.ow d :: ss))) : GotO K W F1 (upd H1 p o) σ (fun vs H' => Q (.ref p :: vs) H') r := by
  have g2 := Gd.drop (o := o) s1 np
  cases r with
  | ok ss =>
    intro vs F3 H3 g3 rr
    have nf1 : F1 p = none := by
      cases z : F1 p with
      | none => rfl
      | some u =>
        rcases s1 p u z with q | ⟨o', q⟩
        · rw [np] at q; cases q
        · rw [np] at q; cases q
    have nf : F3 p = none := by
      cases z : F3 p with
      | none => rfl
      | some u =>
        rcases g3.nw p (by rw [z]; simp) with q | q
        · exact absurd nf1 q
        · rw [upd_same] at q; cases q
    refine g _ _ _ ((g1.trans g2).trans g3) (.ow (g1.hh.free np) nf (ro F3 H3 g3 nf) (fun j d' e1 e2 => ?_) (rr.start (g1.hh.trans g2.hh)))
    have := rr.fresh j d' e1 p e2
    rw [upd_same] at this
    cases this
  | exc c => exact fun F' H' gd => g F' H' ((g1.trans g2).trans gd)
  | bad => exact g
theorem l_lst (ha : PAv ct k X W xs aa) (hr : PLv ct k X W es ov) (hs : starEach (.List xs pos :: es) X.env = (false, eval (.List xs pos) X.env) :: starEach es X.env := by rfl) : PLv ct k X W (.List xs pos :: es) (oL aa ov) := fun C =>
  (pa_cons (pe_lst (ha C)) (hr C) hs).imp fun σ H Q ⟨H0, F0, F, env, S, g⟩ => ⟨H0, F0, F, env, S, by
    unfold oL at g
    cases q : aa env with
    | ok ds =>
      rw [q] at g
      intro vs F1 H1 g1 rv
      have g' : GotO X.K W F H σ Q (if ds.length ≤ LIM then (ov env).bind fun ss => .ok (.ow (.lst ds) :: ss) else .bad) := g
      by_cases z : ds.length ≤ LIM
      · rw [if_pos z] at g'
        have z' : vs.length ≤ LIM := by rw [rv.length]; exact z
        refine ⟨by rw [lim]; exact z', fun p np => ?_⟩
        have S1 := S.grow g1
        exact ⟨H0, F0, F1, env, S1.grow (Gd.drop S1.sub np), got_ow (Hp2 := H) g1 np (fun F' H' gd nf => .lst (gd.hh _ _ upd_same) z' (RpA.mono gd.ff rv)) S1.sub g'⟩
      · rw [if_neg z] at g'; exact g'.elim
    | exc c => rw [q] at g; exact g
    | bad => rw [q] at g; exact g⟩
theorem l_dic (hr : PLv ct k X W es ov) (hs : starEach (.Dict [] [] pos :: es) X.env = (false, eval (.Dict [] [] pos) X.env) :: starEach es X.env := by rfl) : PLv ct k X W (.Dict [] [] pos :: es) (oD ov) := fun C =>
  (pa_cons pe_dnewK (hr C) hs).imp fun σ H Q ⟨H0, F0, F, env, S, g⟩ => fun p np =>
    ⟨H0, F0, F, env, S.grow (Gd.drop S.sub np), got_ow (Hp2 := H) (.refl S.sub) np (fun F' H' gd nf => .dic (gd.hh _ _ upd_same) (Nat.zero_le _) .nil) S.sub g⟩
/-- what the store of several values needs -/
theorem own_done {K : PySem.W.Frag} {H0 F0 F H F1 H1 : Hp} {σ : St} {env env' : En} {is : List Nat} {vs : List V} {ss : List Sl} (S : SR K H0 F0 F H σ env) (g : Gd F H F1 H1) (r : RSl K H F1 H1 vs ss) (e : ptSl is ss env = some env') : SR K H0 F0 F1 H1 (setAll is vs σ) env' :=
  sr_all is vs ss σ env env' (S.grow g) r (fun a h => S.gd.hh.free h) (fun j d' q m d2 a h1 h2 z => by
    have n := r.fresh m d2 h1 a h2
    obtain ⟨b, h3, _, _, h4⟩ := S.ow j d' q
    rw [z] at h3
    cases h3
    obtain ⟨o, ho⟩ := h4.there
    rw [n] at ho; cases ho) e
theorem ptSl_len : ∀ (is : List Nat) (ss : List Sl) (env env' : En), ptSl is ss env = some env' → is.length = ss.length
  | [], [], _, _, _ => rfl
  | [], _ :: _, _, _, e => by cases e
  | _ :: _, [], _, _, e => by cases e
  | _ :: is, _ :: ss, _, _, e => congrArg (· + 1) (ptSl_len is ss _ _ e)
theorem own_seq {K : PySem.W.Frag} {Dn : Ends} {H0 F0 F H : Hp} {σ : St} {env : En} {is : List Nat} {R : List V → Hp → Prop} (S : SR K H0 F0 F H σ env) (g : GotS K W H0 F0 Dn (sOwn is ov env))
    (h : ∀ vs H1, vs.length = is.length → Dn.nx (setAll is vs σ) H1 → R vs H1) : rdO K W ov σ H R := by
  refine ⟨H0, F0, F, env, S, ?_⟩
  unfold sOwn at g
  cases q : ov env with
  | ok ss =>
    rw [q] at g
    have g' : GotS K W H0 F0 Dn (match ptSl is ss env with | some env' => Fl.nx env' | none => Fl.bad) := g
    cases z : ptSl is ss env with
    | none => rw [z] at g'; exact g'.elim
    | some env' =>
      rw [z] at g'
      exact fun vs F1 H1 g1 r => h vs H1 (r.length.trans (ptSl_len _ _ _ _ z).symm) (g' _ F1 H1 (own_done S g1 r z))
  | exc c => rw [q] at g; exact fun F' H' gd => g σ F' H' (S.grow gd)
  | bad => rw [q] at g; exact g.elim
/-- x = [..] -/
theorem s_newL (i : Nat) {x : Str} {p q : Pos} (ha : PAv ct k X W xs aa) (hi : X.N[i]? = some x := by rfl) (hx : Loc X.env.scope x := by first | exact Or.inl rfl | exact Or.inr rfl) (hf : X.fn x = true ∨ X.env.scope.names.lookup x = some .local := by first | exact .inl rfl | exact .inr rfl)
    (hs : swapsWith (.List xs q) (some (.Name x p)) pos.line X.env = pure false := by rfl) : PSv ct k X W (.Assign [.Name x p] (.List xs q) pos) (sOwn [i] (oL aa oNil)) := fun C =>
  (ps_set C.nd hi hx (pe_lst (ha C)) hs hf).imp fun Dn σ H ⟨H0, F0, F, env, S, g⟩ => ⟨H0, F0, F, env, S, by
    unfold sOwn oL at g
    cases q : aa env with
    | ok ds =>
      rw [q] at g
      intro vs F1 H1 g1 rv
      by_cases z : ds.length ≤ LIM
      · have g' : GotS X.K W H0 F0 Dn (Fl.nx (pt env i (some (.ow (.lst ds))))) := by
          simp only [Res.bind, Res.fl, if_pos z, oNil, ptSl] at g
          exact g
        have z' : vs.length ≤ LIM := by rw [rv.length]; exact z
        refine ⟨by rw [lim]; exact z', fun p np => ?_⟩
        have S1 := S.grow g1
        have g2 := Gd.drop (o := .lst vs) S1.sub np
        refine g' _ F1 _ (own_done (is := [i]) (vs := [.ref p]) (ss := [.ow (.lst ds)]) S (g1.trans g2) (.ow (g1.hh.free np) ?_ (.lst upd_same z' rv) (fun j d' e => by simp at e) .nil) rfl)
        cases y : F1 p with
        | none => rfl
        | some u =>
          rcases S1.sub p u y with q | ⟨o', q⟩
          · rw [np] at q; cases q
          · rw [np] at q; cases q
      · simp only [Res.bind, Res.fl, if_neg z] at g
        exact g.elim
    | exc c => rw [q] at g; exact fun F' H' gd => g σ F' H' (S.grow gd)
    | bad => rw [q] at g; exact g.elim⟩
/-- x = {} -/
theorem s_newD (i : Nat) {x : Str} {p q : Pos} (hi : X.N[i]? = some x := by rfl) (hx : Loc X.env.scope x := by first | exact Or.inl rfl | exact Or.inr rfl) (hf : X.fn x = true ∨ X.env.scope.names.lookup x = some .local := by first | exact .inl rfl | exact .inr rfl)
    (hs : swapsWith (.Dict [] [] q) (some (.Name x p)) pos.line X.env = pure false := by rfl) : PSv ct k X W (.Assign [.Name x p] (.Dict [] [] q) pos) (sOwn [i] (oD oNil)) := fun C =>
  (ps_set C.nd hi hx pe_dnewK hs hf).imp fun Dn σ H ⟨H0, F0, F, env, S, g⟩ => fun p np => by
    have g2 := Gd.drop (o := .dK []) S.sub np
    refine g _ F _ (own_done (is := [i]) (vs := [.ref p]) (ss := [.ow (.dic [])]) S g2 (.ow np ?_ (.dic upd_same (Nat.zero_le _) .nil) (fun j d' e => by simp at e) .nil) rfl)
    cases y : F p with
    | none => rfl
    | some u =>
      rcases S.sub p u y with q | ⟨o', q⟩
      · rw [np] at q; cases q
      · rw [np] at q; cases q
/-- x, y = a, b: plain locals -/
theorem s_par2 (i j : Nat) {x y : Str} {px py pt' : Pos} {kt k2 pt2} (ha : PLv ct k X W [a, b] ov) (hw : swappedStores [.Tuple [.Name x px, .Name y py] kt pt'] (.Tuple [a, b] k2 pt2) X.env = pure (some [x, y])) (hij : i ≠ j := by decide) (hi : X.N[i]? = some x := by rfl) (hj : X.N[j]? = some y := by rfl)
    (hx : X.env.scope.names.lookup x = some .local := by rfl) (hy : X.env.scope.names.lookup y = some .local := by rfl)
    (hs : swapsWithSole [.Tuple [.Name x px, .Name y py] kt pt'] (.Tuple [a, b] k2 pt2) pos.line X.env = pure false := by rfl) : PSv ct k X W (.Assign [.Tuple [.Name x px, .Name y py] kt pt'] (.Tuple [a, b] k2 pt2) pos) (sOwn [i, j] ov) := fun C =>
  (ps_par C.calm C.nd hi hj hij hx hy (ha C) hw hs).imp fun Dn σ H ⟨H0, F0, F, env, S, g⟩ => own_seq S g fun vs H1 hl q => by
    match vs, hl with
    | [v, w], _ => exact ⟨v, w, rfl, q⟩
theorem s_par3 (i j l : Nat) {x y z : Str} {px py pz pt' : Pos} {kt k2 pt2} (ha : PLv ct k X W [a, b, c] ov) (hw : swappedStores [.Tuple [.Name x px, .Name y py, .Name z pz] kt pt'] (.Tuple [a, b, c] k2 pt2) X.env = pure (some [x, y, z])) (hij : i ≠ j := by decide) (hil : i ≠ l := by decide) (hjl : j ≠ l := by decide) (hi : X.N[i]? = some x := by rfl) (hj : X.N[j]? = some y := by rfl) (hl : X.N[l]? = some z := by rfl)
    (hx : X.env.scope.names.lookup x = some .local := by rfl) (hy : X.env.scope.names.lookup y = some .local := by rfl) (hz : X.env.scope.names.lookup z = some .local := by rfl)
    (hs : swapsWithSole [.Tuple [.Name x px, .Name y py, .Name z pz] kt pt'] (.Tuple [a, b, c] k2 pt2) pos.line X.env = pure false := by rfl) : PSv ct k X W (.Assign [.Tuple [.Name x px, .Name y py, .Name z pz] kt pt'] (.Tuple [a, b, c] k2 pt2) pos) (sOwn [i, j, l] ov) := fun C =>
  (ps_par3 C.calm C.nd hi hj hl hij hil hjl hx hy hz (ha C) hw hs).imp fun Dn σ H ⟨H0, F0, F, env, S, g⟩ => own_seq S g fun vs H1 hl q => by
    match vs, hl with
    | [v, w, u], _ => exact ⟨v, w, u, rfl, q⟩
theorem gns_all : ∀ (is : List Nat) (vs : List V) (σ : St) (H : Hp) (Q : St → Hp → Prop), vs.length = is.length → Q (setAll is vs σ) H → gNs is vs σ H Q
  | [], [], σ, H, Q, _, q => ⟨rfl, q⟩
  | [], _ :: _, _, _, _, h, _ => by cases h
  | _ :: _, [], _, _, _, h, _ => by cases h
  | i :: is, v :: vs, σ, H, Q, h, q => ⟨v, vs, rfl, gns_all is vs _ H Q (Nat.succ.inj h) q⟩
/-- x, y, .. = a, b, ..: not all plain locals -/
theorem s_parT {is : List Nat} {tgs : List Expr} {kt k2 : Nat} {pt' pt2 : Pos} (ha : PLv ct k X W es ov) (hg : X.N.Nodup → X.calm = true → PGsv X tgs is) (hz : is.length ≤ LIM := by decide) (hw : swappedStores [.Tuple tgs kt pt'] (.Tuple es k2 pt2) X.env = pure none := by rfl)
    (hs : swapsWithSole [.Tuple tgs kt pt'] (.Tuple es k2 pt2) pos.line X.env = pure false := by rfl) (h1 : (assignEach [.Tuple tgs kt pt'] X.env).map (·.2) = [assign (.Tuple tgs kt pt') X.env] := by rfl) (hn : (assignEach tgs X.env).length = is.length := by rfl) (hst : (assignEach tgs X.env).findIdx? (·.1) = none := by rfl) :
    PSv ct k X W (.Assign [.Tuple tgs kt pt'] (.Tuple es k2 pt2) pos) (sOwn is ov) := fun C =>
  (ps_asg (pe_tup (ha C)) (pg_tup C.calm (hg C.nd C.calm) hn hst) hs hw h1).imp fun Dn σ H ⟨H0, F0, F, env, S, g⟩ => by
    refine ⟨H0, F0, F, env, S, ?_⟩
    unfold sOwn at g
    cases q : ov env with
    | ok ss =>
      rw [q] at g
      have g' : GotS X.K W H0 F0 Dn (match ptSl is ss env with | some env' => Fl.nx env' | none => Fl.bad) := g
      cases z : ptSl is ss env with
      | none => rw [z] at g'; exact g'.elim
      | some env' =>
        rw [z] at g'
        intro vs F1 H1 g1 r
        have hl := r.length.trans (ptSl_len _ _ _ _ z).symm
        have S1 := own_done S g1 r z
        refine ⟨by rw [lim, hl]; exact hz, fun p np => ?_⟩
        refine ⟨p, vs, rfl, .inl (.inl upd_same), hl, gns_all is vs σ _ _ hl ?_⟩
        exact g' _ F1 _ (S1.grow (Gd.drop S1.sub np))
    | exc c => rw [q] at g; exact fun F' H' gd => g σ F' H' (S.grow gd)
    | bad => rw [q] at g; exact g.elim
/-! ### changes -/
theorem own_at {K : PySem.W.Frag} {H0 F0 F H : Hp} {σ : St} {env : En} {i : Nat} {ds : List D} (S : SR K H0 F0 F H σ env) (e : gt env i = some (.ow (.lst ds))) : ∃ a vs, σ[i]? = some (some (.ref a)) ∧ F a = none ∧ H a = some (.lst vs) ∧ vs.length ≤ LIM ∧ RpA K F vs ds := by
  obtain ⟨a, h1, h2, h3, h4⟩ := S.ow i _ e
  cases h4 with
  | lst q z r => exact ⟨a, _, h1, h3, q, z, r⟩
theorem own_atD {K : PySem.W.Frag} {H0 F0 F H : Hp} {σ : St} {env : En} {i : Nat} {ds : List (List Nat × D)} (S : SR K H0 F0 F H σ env) (e : gt env i = some (.ow (.dic ds))) : ∃ a vs, σ[i]? = some (some (.ref a)) ∧ F a = none ∧ H a = some (.dK vs) ∧ vs.length ≤ LIM ∧ RpK K F vs ds := by
  obtain ⟨a, h1, h2, h3, h4⟩ := S.ow i _ e
  cases h4 with
  | dic q z r => exact ⟨a, _, h1, h3, q, z, r⟩
/-- x.append(e) -/
theorem s_app (i : Nat) {x : Str} {p apos cpos : Pos} (he : PEv ct k X W e ev) (hN : X.N[i]? = some x := by rfl) (hv : Vis X.env.scope x := by first | exact Or.inl rfl | exact Or.inr (Or.inl rfl) | exact Or.inr (Or.inr rfl)) (hd : (x == ("__debug__" : Str)) = false := by decide)
    (hcd : (x == ("__classdict__" : Str)) = false := by decide) (hst : starEach [e] X.env = (false, eval e X.env) :: starEach [] X.env := by rfl)
    (hbase : attributeBase (.Name x p) "append" X.env (eval (.Name x p) X.env) = eval (.Name x p) X.env := by rfl)
    (hfew : ((backTo cpos (starEach [e] X.env)).all (fun x => !x.1) && (backToKw cpos (keywordEach [] X.env)).all (fun x => x.1.isSome) && decide (([e] : List Expr).length + ([] : List Keyword).length + (if ([] : List Keyword).isEmpty then 0 else 1) < 30)) = true := by rfl)
    (hline : (apos.endLine == cpos.line) = true := by rfl) (hplain : (backTo cpos (starEach [] X.env)).any (·.1) = false := by rfl)
    (hs : swapsWith (.Call (.Attribute (.Name x p) "append" apos) [e] [] cpos) none pos.line X.env = pure false := by rfl) : PSv ct k X W (.Expr (.Call (.Attribute (.Name x p) "append" apos) [e] [] cpos) pos) (sApp i ev) := fun C =>
  (ps_expr (pe_bm PySem.F.plainAttrs_list PySem.F.slot_list_append PySem.F.type_list_append mt_append (pe_var hN hv hd hcd) (pa_cons (he C) pa_nil hst) hbase hfew hline hst hplain) hs).imp fun Dn σ H ⟨H0, F0, F, env, S, g⟩ => by
    unfold sApp at g
    cases q : gt env i with
    | none => rw [q] at g; exact g.elim
    | some s =>
      rw [q] at g
      cases s with
      | fz d => exact g.elim
      | ow d =>
        cases d with
        | lst ds =>
          dsimp only at g
          obtain ⟨p, vs, h1, h2, h3, h4, h5⟩ := own_at S q
          refine ⟨_, h1, .inl ⟨rfl, _, .inl (.inl h3)⟩, ?_⟩
          refine sseq S g fun v d F1 H1 S1 g1 rv g' => ?_
          obtain ⟨p', vs', h1', h2', h3', h4', h5'⟩ := own_at S1 q
          rw [h1] at h1'
          cases h1'
          by_cases z : ds.length < LIM
          · rw [if_pos z] at g'
            have z' : vs'.length < LIM := by rw [h5'.length]; exact z
            refine ⟨p, vs', v, rfl, rfl, h3', by rw [lim]; exact z', g' σ F1 _ (S1.write q h1 (.lst upd_same (by simp; omega) (h5'.append (.cons rv .nil))))⟩
          · rw [if_neg z] at g'; exact g'.elim
        | _ => exact g.elim
def rExtR : V → List V → Hp → VK → Prop := fun x vs H Q => ∃ l b xs zs, x = .ref l ∧ vs = [.ref b] ∧ H l = some (.lst xs) ∧ Rd H b (.lst zs) ∧ xs.length + zs.length ≤ sizeLine ∧ Q .non (upd H l (.lst (xs ++ zs)))
theorem mt_extR : MtM X "list.extend" rExtR := by
  intro pins s σ H x vs v us Q I rx rv h
  obtain ⟨l, b, xs, zs, rfl, rfl, hH, hB, hz, q⟩ := h
  cases rx
  obtain ⟨u, rfl, ru⟩ := rv.one
  cases ru
  obtain ⟨z, its, n, r, hl, e⟩ := I.lstM hH
  obtain ⟨z2, its2, n2, r2, e2⟩ := hB.ok I.hok
  have hl2 := r2.length
  have hsz : its.toArray.size + its2.toArray.size ≤ sizeLine := by rw [List.size_toArray, List.size_toArray]; omega
  have hlong : ¬ (!its.toArray.isEmpty && Builtin.List.listTooLong (its.toArray.size + its2.toArray.size)) = true := by
    rw [notLongL hsz, Bool.and_false]
    exact Bool.false_ne_true
  refine call_meets F.slot_list_extend ⟨_, e, rfl⟩ F.entry_list_extend (F.args_list_extend_2 _ _)
    (AutoSeq1.list_extend_list_list_0 l its.toArray n b its2.toArray n2 hlong (by rw [List.size_toArray]; omega) (by omega)) ⟨e, e2, ?_⟩
  refine ⟨.non, _, I.lset (its' := its ++ its2) hH e (by simp) (r.append r2) ?_, rfl, q⟩
  rw [List.length_append]
  exact hz
/-- x.extend(e) -/
theorem s_ext (i : Nat) {x : Str} {p apos cpos : Pos} (he : PEv ct k X W e ev) (hN : X.N[i]? = some x := by rfl) (hv : Vis X.env.scope x := by first | exact Or.inl rfl | exact Or.inr (Or.inl rfl) | exact Or.inr (Or.inr rfl)) (hd : (x == ("__debug__" : Str)) = false := by decide)
    (hcd : (x == ("__classdict__" : Str)) = false := by decide) (hst : starEach [e] X.env = (false, eval e X.env) :: starEach [] X.env := by rfl)
    (hbase : attributeBase (.Name x p) "extend" X.env (eval (.Name x p) X.env) = eval (.Name x p) X.env := by rfl)
    (hfew : ((backTo cpos (starEach [e] X.env)).all (fun x => !x.1) && (backToKw cpos (keywordEach [] X.env)).all (fun x => x.1.isSome) && decide (([e] : List Expr).length + ([] : List Keyword).length + (if ([] : List Keyword).isEmpty then 0 else 1) < 30)) = true := by rfl)
    (hline : (apos.endLine == cpos.line) = true := by rfl) (hplain : (backTo cpos (starEach [] X.env)).any (·.1) = false := by rfl)
    (hs : swapsWith (.Call (.Attribute (.Name x p) "extend" apos) [e] [] cpos) none pos.line X.env = pure false := by rfl) : PSv ct k X W (.Expr (.Call (.Attribute (.Name x p) "extend" apos) [e] [] cpos) pos) (sExt i ev) := fun C =>
  (ps_expr (pe_bm PySem.F.plainAttrs_list PySem.F.slot_list_extend PySem.F.type_list_extend mt_extR (pe_var hN hv hd hcd) (pa_cons (he C) pa_nil hst) hbase hfew hline hst hplain) hs).imp fun Dn σ H ⟨H0, F0, F, env, S, g⟩ => by
    unfold sExt at g
    cases q : gt env i with
    | none => rw [q] at g; exact g.elim
    | some s =>
      rw [q] at g
      cases s with
      | fz d => exact g.elim
      | ow d =>
        cases d with
        | lst ds =>
          dsimp only at g
          obtain ⟨p, vs, h1, h2, h3, h4, h5⟩ := own_at S q
          refine ⟨_, h1, .inl ⟨rfl, _, .inl (.inl h3)⟩, ?_⟩
          refine sseq S g fun v d F1 H1 S1 g1 rv g' => ?_
          obtain ⟨p', vs', h1', h2', h3', h4', h5'⟩ := own_at S1 q
          rw [h1] at h1'
          cases h1'
          cases d with
          | lst es =>
            obtain ⟨b, zs, rfl, hb, hz, rb⟩ := bo_lst S1.sub (.inl rv)
            dsimp only [exD] at g'
            by_cases z : ds.length + es.length ≤ LIM
            · rw [if_pos z] at g'
              have z' : vs'.length + zs.length ≤ LIM := by rw [h5'.length, rb.length]; exact z
              refine ⟨p, b, vs', zs, rfl, rfl, h3', hb, by rw [lim]; exact z', g' σ F1 _ (S1.write q h1 (.lst upd_same (by simpa using z') (h5'.append rb)))⟩
            · rw [if_neg z] at g'; exact g'.elim
          | _ => exact g'.elim
        | _ => exact g.elim
theorem rpK_any {K : PySem.W.Frag} {F : Hp} {key : List Nat} : ∀ {kvs : List (Key × V)} {ds : List (List Nat × D)}, RpK K F kvs ds → (kvs.any fun kv => decide (kv.1 = Sum.inr (tx key))) = ds.any fun kv => decide (kv.1 = key)
  | _, _, .nil => rfl
  | _, _, @RpK.cons _ _ _ k v kvs d ds z r t => by
    rw [List.any_cons, List.any_cons, rpK_any t]
    congr 1
    by_cases e : k = key
    · subst e; simp
    · have : (Sum.inr (tx k) : Key) ≠ Sum.inr (tx key) := fun q => e (tx_inj (Sum.inr.inj q))
      simp [e, this]
theorem rpK_map {K : PySem.W.Frag} {F : Hp} {key : List Nat} {v : V} {d : D} (r : Rp K F v d) : ∀ {kvs : List (Key × V)} {ds : List (List Nat × D)}, RpK K F kvs ds → RpK K F (kvs.map fun kv => if kv.1 = Sum.inr (tx key) then (kv.1, v) else kv) (ds.map fun kv => if kv.1 = key then (kv.1, d) else kv)
  | _, _, .nil => .nil
  | _, _, @RpK.cons _ _ _ k v' kvs d' ds z r' t => by
    rw [List.map_cons, List.map_cons]
    by_cases e : k = key
    · subst e
      rw [if_pos rfl, if_pos rfl]
      exact .cons z r (rpK_map r t)
    · have : (Sum.inr (tx k) : Key) ≠ Sum.inr (tx key) := fun q => e (tx_inj (Sum.inr.inj q))
      rw [if_neg this, if_neg e]
      exact .cons z r' (rpK_map r t)
theorem rpK_snoc {K : PySem.W.Frag} {F : Hp} {key : List Nat} {v : V} {d : D} (z : okS key) (r : Rp K F v d) : ∀ {kvs : List (Key × V)} {ds : List (List Nat × D)}, RpK K F kvs ds → RpK K F (kvs ++ [(Sum.inr (tx key), v)]) (ds ++ [(key, d)])
  | _, _, .nil => .cons z r .nil
  | _, _, .cons z' r' t => .cons z' r' (rpK_snoc z r t)
theorem rpK_put {K : PySem.W.Frag} {F : Hp} {key : List Nat} {v : V} {d : D} {kvs : List (Key × V)} {ds : List (List Nat × D)} (z : okS key) (r : Rp K F v d) (t : RpK K F kvs ds) : RpK K F (putK kvs (Sum.inr (tx key)) v) (putD ds key d) := by
  unfold putK putD
  rw [rpK_any t]
  split
  · exact rpK_map r t
  · exact rpK_snoc z r t
theorem putK_len (kvs : List (Key × V)) (k : Key) (v : V) : (putK kvs k v).length ≤ kvs.length + 1 := by
  unfold putK
  split
  · simp
  · simp
/-- x[i] = v, x an owned dict -/
theorem s_put (i : Nat) {x : Str} {p p' : Pos} {kx vx : Xv} {ke ve : Expr} (hk : PEv ct k X W ke kx) (hve : PEv ct k X W ve vx) (hN : X.N[i]? = some x := by rfl) (hv : Vis X.env.scope x := by first | exact Or.inl rfl | exact Or.inr (Or.inl rfl) | exact Or.inr (Or.inr rfl)) (hd : (x == ("__debug__" : Str)) = false := by decide)
    (hcd : (x == ("__classdict__" : Str)) = false := by decide) (hs : swapsWith ve (some (.Subscript (.Name x p) ke p')) pos.line X.env = pure false := by rfl) : PSv ct k X W (.Assign [.Subscript (.Name x p) ke p'] ve pos) (sPut i kx vx) := fun C =>
  (ps_dput (hu_of C.room) (pe_var hN hv hd hcd) (hk C) (hve C) hs).imp fun Dn σ H ⟨H0, F0, F, env, S, g⟩ => sseq S g fun v d F1 H1 S1 g1 rv g' => by
    cases q : gt env i with
    | none => rw [q] at g'; exact g'.elim
    | some s =>
      rw [q] at g'
      cases s with
      | fz d => exact g'.elim
      | ow dd =>
        cases dd with
        | dic ds =>
          dsimp only at g'
          obtain ⟨p, vs, h1, h2, h3, h4, h5⟩ := own_atD S1 q
          refine ⟨_, h1, sseq S1 g' fun y e F2 H2 S2 g2 ry g3 => ?_⟩
          cases e with
          | str key =>
            obtain ⟨p', vs', h1', h2', h3', h4', h5'⟩ := own_atD S2 q
            rw [h1] at h1'
            cases h1'
            obtain ⟨ey, hy⟩ := bo_str (H := H2) (.inl ry)
            dsimp only at g3
            by_cases z : ds.length < LIM
            · rw [if_pos z] at g3
              have z' : vs'.length < LIM := by rw [h5'.length]; exact z
              refine ⟨p, _, rfl, .inl ⟨vs', Sum.inr (tx key), h3', ey, by rw [lim]; exact z', rfl⟩, g3 σ F2 _ (S2.write q h1 (.dic upd_same ?_ (rpK_put hy (rv.mono g2.ff) h5')))⟩
              have := putK_len vs' (Sum.inr (tx key)) v
              omega
            · rw [if_neg z] at g3; exact g3.elim
          | _ => exact g3.elim
        | _ => exact g'.elim
/-- ghost: a slot is owned no more -/
theorem s_frz (i : Nat) {st : Stmt} {s : Sv} (h : PSv ct k X W st s) : PSv ct k X W st (sFrz i s) := fun C => (h C).imp fun Dn σ H ⟨H0, F0, F, env, S, g⟩ => by
  obtain ⟨F', S'⟩ := S.frz i
  exact ⟨H0, F0, F', _, S', g⟩
theorem ss_frz (i : Nat) {st : List Stmt} {s : Sv} (h : PSsv ct k X W st s) : PSsv ct k X W st (sFrz i s) := fun C => (h C).imp fun Dn σ H ⟨H0, F0, F, env, S, g⟩ => by
  obtain ⟨F', S'⟩ := S.frz i
  exact ⟨H0, F0, F', _, S', g⟩
end
end Pv

namespace Pv
variable [HasW]
open PySem PySem.Spec L2
/-! ### sorted -/
theorem each_rel {P : V → D → Prop} : ∀ {vs : List V} {us : List Value} {ds : List D}, Vals vs us → PySem.W.EachIs P vs ds → PySem.W.EachIs (fun u d => ∃ v, RelV v u ∧ P v d) us ds
  | _, _, _, .nil, .nil => .nil
  | _, _, _, .cons r t, .cons p q => .cons ⟨_, r, p⟩ (each_rel t q)
theorem each_back {P : V → D → Prop} : ∀ {us : List Value} {ds : List D}, PySem.W.EachIs (fun u d => ∃ v, RelV v u ∧ P v d) us ds → ∃ vs, Vals vs us ∧ PySem.W.EachIs P vs ds
  | _, _, .nil => ⟨[], .nil, .nil⟩
  | _, _, .cons ⟨v, r, p⟩ t => by
    obtain ⟨vs, h1, h2⟩ := each_back t
    exact ⟨v :: vs, .cons r h1, .cons p h2⟩
def rSrtL (K : PySem.W.Frag) : List V → Hp → VK → Prop := fun vs H Q => ∃ (a : Addr) (xs : List V) (ds : List D) (P : V → D → Prop), vs = [V.ref a] ∧ SqL K H a xs ∧ DpAll K H xs (ds.map toP) ∧ PySem.W.EachIs P xs ds ∧ PySem.W.AllAlike (ds.map toP) ∧ PySem.W.Sortable (ds.map toP) ∧
  (∀ d ∈ ds, (toP d).depth ≤ 60) ∧ ∀ (ys : List V) (p : Addr), PySem.W.EachIs P ys (ds.mergeSort (PySem.W.dataLe false toP)) → H p = none → Q (.ref p) (upd H p (.lst ys))
section
variable {X : Cx} {k : Nat}
theorem cr_srtL (hr : Room k X.A) : CallR X (.builtin "sorted") (rSrtL X.K) := by
  intro pins s σ H xs us Q I r q
  obtain ⟨a, vs, ds, P, ex, hs, hdp, hp, hal, hk, hdep, q⟩ := q
  subst ex
  obtain ⟨u, rfl, ru⟩ := r.one
  cases ru
  obtain ⟨its, rv, hl, hz⟩ := I.list hs
  obtain ⟨as, hrd⟩ := Dp.readsAll I _ _ its hdp rv
  have hlen : its.length = ds.length := by
    have := (each_rel rv hp).length
    exact this
  have hn : vs.length = its.length := rv.length
  have hl' : s.heap.IsList a its.toArray := by
    obtain ⟨o, n, e, h1, h2, h3⟩ := hl
    exact ⟨o, e, h1, n, h3⟩
  refine PySem.W.sorted_data hl' (each_rel rv hp) (PySem.W.readsAll_each toP hrd) hal hk (by omega) (fun d hd => ?_) fun out ho eo => ?_
  · have := hdep d hd
    have := hr.units
    omega
  · obtain ⟨ys, h1, h2⟩ := each_back eo
    obtain ⟨e', he'⟩ := PyProof.Rows.sortedAll_at s.heap its out.toArray
    refine ⟨.ref (s.heap.objs.size + 1), upd H (s.heap.objs.size + 1) (.lst ys), I.laid (t' := s.toks) (fun b u e => PyProof.Rows.sortedAll_old e) (Nat.le_succ _) ?_, rfl, q ys _ h2 (I.hok.fresh (Nat.le_succ _))⟩
    refine ⟨?_, out, e', h1, he'⟩
    have : ys.length = out.length := h1.length
    omega
end
theorem each_strs : ∀ {acc : List Value} {ks : List (List Nat)}, acc.length = ks.length → (∀ (j : Nat) (v : Value), acc[j]? = some v → ∃ (l : List Nat) (t : Tok), ks[j]? = some l ∧ v = Value.str (tx l) t) → PySem.W.EachIs (fun u (l : List Nat) => ∃ t, u = Value.str (tx l) t) acc ks
  | [], [], _, _ => .nil
  | [], _ :: _, h, _ => by cases h
  | _ :: _, [], h, _ => by cases h
  | u :: acc, l :: ks, h, g => by
    obtain ⟨l', t, e1, e2⟩ := g 0 u rfl
    simp at e1
    subst e1
    exact .cons ⟨t, e2⟩ (each_strs (Nat.succ.inj h) fun j v e => by
      obtain ⟨l'', t', e3, e4⟩ := g (j + 1) v (by simpa using e)
      exact ⟨l'', t', by simpa using e3, e4⟩)
theorem each_vals : ∀ {us : List Value} {ks : List (List Nat)}, PySem.W.EachIs (fun u (l : List Nat) => ∃ t, u = Value.str (tx l) t) us ks → Vals (ks.map fun l => V.str (tx l)) us
  | _, _, .nil => .nil
  | _, _, .cons ⟨t, e⟩ q => .cons ⟨t, e⟩ (each_vals q)
section
variable {X : Cx}
/-- sorted(d), the keys texts, any number of them -/
theorem call_srtD {k : Nat} (hcalm : X.calm = true) (hr : Room k X.A) : CallR X (.builtin "sorted") (fun xs H Q => ∃ (a : Addr) (kvs : List (Key × V)) (ks : List (List Nat)), xs = [.ref a] ∧ Rd H a (.dK kvs) ∧ kvs.map (·.1) = ks.map (fun l => Sum.inr (tx l)) ∧ 
    ∀ p, H p = none → Q (.ref p) (upd H p (.lst ((ks.mergeSort (PySem.W.dataLe false fun l => .str (tx l))).map fun l => V.str (tx l))))) := by
  intro pins s σ H xs us Q I r q
  obtain ⟨a, kvs, ks, ex, hd, hks, q⟩ := q
  subst ex
  obtain ⟨u, rfl, rx⟩ := r.one
  cases rx
  obtain ⟨z, lo, vs, rel, dd⟩ := dk_rd I.hok hd
  obtain ⟨ep, hat⟩ := dd.dictAt
  have hkeys : vs.map (·.1) = ks.map (fun l => Sum.inr (tx l)) := rel.keys.symm.trans hks
  have hl : vs.length = ks.length := by
    have e := congrArg List.length hkeys
    rw [List.length_map, List.length_map] at e
    exact e
  have hkl : kvs.length = ks.length := by
    have e := congrArg List.length hks
    rw [List.length_map, List.length_map] at e
    exact e
  have h16 : vs.length ≤ sizeLine := by rw [hl, ← hkl]; exact z
  refine Calls.call_function_entry PyProof.Rows.kind_sorted PyProof.Rows.plain_sorted PyProof.Rows.entry_sorted (PyProof.Rows.args_sorted1 _) ?_
  unfold Builtin.«sorted»
  refine wpAny_bind (m := checkCount "sorted" 1 1 _) (wpAny_pure ?_)
  refine wpAny_bind (PySem.W.kdu_collect (A := X.A.in1) (PySem.W.kdl_dict (knd := mixKind X.prog X.w) (kvs := vs) (ep := ep) lo) (I.ok.hd hcalm) hat h16 fun h' tk acc hk hacc => ?_)
  have hal : acc.toList.length = ks.length := by rw [Array.length_toList, hacc.1, hl]
  have hS := each_strs hal fun j v e => by
    obtain ⟨k, x, e1, e2⟩ := hacc.2 j v (by rw [← Array.getElem?_toList]; exact e)
    have e3 : (vs.map (·.1))[j]? = some k := by rw [List.getElem?_map, e1]; all_goals rfl
    rw [hkeys, List.getElem?_map] at e3
    cases e4 : ks[j]? with
    | none => rw [e4] at e3; cases e3
    | some y =>
      rw [e4] at e3
      have e5 : Sum.inr (tx y) = k := Option.some.inj e3
      subst e5
      obtain ⟨t, ev⟩ := Value.isStrOf_shape (x := tx y) (v := v) e2
      exact ⟨y, t, rfl, ev⟩
  have I1 : Inv X pins σ H { s with heap := h', toks := tk } := I.kept hk
  refine wpAny_bind (wpAny_newList ?_ (by rw [hal]; omega))
  have hoL : (h'.push (PyProof.Rows.seqObj "list" acc.toList.toArray 0)).get? h'.objs.size = some (PyProof.Rows.seqObj "list" acc.toList.toArray 0) := Heap.get?_push_size _ rfl
  show wpAny _ _ _ _ _ { s with heap := h'.push (PyProof.Rows.seqObj "list" acc.toList.toArray 0), toks := tk }
  refine wpAny_bind (wpAny_holding (PySem.W.list_sort_data (s := { s with heap := h'.push (PyProof.Rows.seqObj "list" acc.toList.toArray 0), toks := tk }) (enc := fun l => .str (tx l)) hoL hS (hS.mono fun u l ⟨t, e⟩ => ⟨[], by subst e; exact .str _ _, by simp⟩)
    (PySem.W.AllAlike.of fun _ _ => by simp [PySem.W.alike]) (PySem.W.Sortable.others fun _ => ⟨by simp, by simp⟩) (by omega) (fun b _ => by have := hr.units; simp [PyData.depth, Around.in1]; omega) fun out ho eo => ?_))
  have hv := each_vals eo
  obtain ⟨e', he'⟩ := PyProof.Rows.sortedHeap_at (vs := acc.toList) (out := out.toArray) hoL
  have hlen : ((ks.mergeSort (PySem.W.dataLe false fun l => .str (tx l))).map fun l => V.str (tx l)).length ≤ sizeLine := by
    rw [hv.length, ho]; omega
  refine wpAny_pure ⟨_, rfl, .ref h'.objs.size, upd H h'.objs.size (.lst _), I1.laid (t' := tk) (fun b u e => ?_) (Nat.le_refl _)
    (show ObjOk X.prog X.w _ _ _ (.lst _) from ⟨hlen, out, e', hv, he'⟩), rfl, q _ (I1.hok.fresh (Nat.le_refl _))⟩
  have hb : b < h'.objs.size := Heap.lt_size e
  rw [PyProof.Rows.sortedHeap_old (Nat.ne_of_lt hb) (by rw [PyProof.Rows.size_push']; exact Nat.lt_succ_of_lt hb)]
  exact Heap.get?_push_of_some _ e
end
end Pv

namespace Pv
variable [HasW]
open PySem PySem.Spec L2
theorem each_A {K : PySem.W.Frag} {F : Hp} : ∀ {vs : List V} {ds : List D}, RpA K F vs ds → PySem.W.EachIs (Rp K F) vs ds
  | _, _, .nil => .nil
  | _, _, .cons r t => .cons r (each_A t)
theorem A_each {K : PySem.W.Frag} {F : Hp} : ∀ {vs : List V} {ds : List D}, PySem.W.EachIs (Rp K F) vs ds → RpA K F vs ds
  | _, _, .nil => .nil
  | _, _, .cons r t => .cons r (A_each t)
theorem plains_mem : ∀ {ds : List D}, plains ds = true → ∀ d ∈ ds, plain d = true
  | [], _, d, h => nomatch h
  | e :: es, h, d, hd => by
    rw [plains, Bool.and_eq_true] at h
    rcases List.mem_cons.mp hd with q | q
    · subst q; exact h.1
    · exact plains_mem h.2 d q
theorem deps_mem : ∀ {ds : List D} {d : D}, d ∈ ds → dep d ≤ deps ds
  | e :: es, d, hd => by
    rw [deps]
    rcases List.mem_cons.mp hd with q | q
    · subst q; exact Nat.le_max_left _ _
    · exact Nat.le_trans (deps_mem q) (Nat.le_max_right _ _)
theorem ms_congr {α : Type} {le le' : α → α → Bool} : ∀ (l : List α), (∀ a ∈ l, ∀ b ∈ l, le a b = le' a b) → l.mergeSort le = l.mergeSort le' := by
  intro l h
  have mg : ∀ (xs ys : List α), (∀ a ∈ xs, ∀ b ∈ ys, le a b = le' a b) → List.merge xs ys le = List.merge xs ys le' := by
    intro xs
    induction xs with
    | nil => intro ys _; simp
    | cons x xs ih =>
      intro ys
      induction ys with
      | nil => intro _; simp
      | cons y ys ih2 =>
        intro h
        rw [List.cons_merge_cons, List.cons_merge_cons, h x List.mem_cons_self y List.mem_cons_self]
        split
        · rw [ih (y :: ys) fun a ha b hb => h a (List.mem_cons_of_mem _ ha) b hb]
        · rw [ih2 fun a ha b hb => h a ha b (List.mem_cons_of_mem _ hb)]
  have key : ∀ (n : Nat) (l : List α), l.length ≤ n → (∀ a ∈ l, ∀ b ∈ l, le a b = le' a b) → l.mergeSort le = l.mergeSort le' := by
    intro n
    induction n with
    | zero =>
      intro l hl _
      have : l = [] := List.eq_nil_of_length_eq_zero (by omega)
      subst this
      simp
    | succ n ih =>
      intro l hl h
      match l, hl, h with
      | [], _, _ => simp
      | [a], _, _ => simp
      | a :: b :: xs, hl, h =>
        rw [List.mergeSort, List.mergeSort]
        have hs : ∀ {z : α}, z ∈ (List.MergeSort.Internal.splitInTwo ⟨a :: b :: xs, rfl⟩).1.1 → z ∈ a :: b :: xs := fun {z} hz => by
          rw [List.MergeSort.Internal.splitInTwo_fst] at hz
          exact List.mem_of_mem_take hz
        have hs2 : ∀ {z : α}, z ∈ (List.MergeSort.Internal.splitInTwo ⟨a :: b :: xs, rfl⟩).2.1 → z ∈ a :: b :: xs := fun {z} hz => by
          rw [List.MergeSort.Internal.splitInTwo_snd] at hz
          exact List.mem_of_mem_drop hz
        have l1 : (List.MergeSort.Internal.splitInTwo ⟨a :: b :: xs, rfl⟩).1.1.length ≤ n := by
          rw [List.MergeSort.Internal.splitInTwo_fst]
          simp only [List.length_take, List.length_cons] at hl ⊢
          omega
        have l2 : (List.MergeSort.Internal.splitInTwo ⟨a :: b :: xs, rfl⟩).2.1.length ≤ n := by
          rw [List.MergeSort.Internal.splitInTwo_snd]
          simp only [List.length_drop, List.length_cons] at hl ⊢
          omega
        show List.merge _ _ _ = List.merge _ _ _
        rw [ih _ l1 fun x hx y hy => h x (hs hx) y (hs hy), ih _ l2 fun x hx y hy => h x (hs2 hx) y (hs2 hy)]
        refine mg _ _ fun x hx y hy => h x (hs ?_) y (hs2 ?_)
        · exact (List.mergeSort_perm _ _).mem_iff.mp hx
        · exact (List.mergeSort_perm _ _).mem_iff.mp hy
  exact key l.length l (Nat.le_refl _) h
theorem ms_map {α β : Type} {le : β → β → Bool} (f : α → β) (l : List α) : (l.mergeSort fun a b => le (f a) (f b)).map f = (l.map f).mergeSort le := List.map_mergeSort (fun a _ b _ => rfl)
theorem alkAll_mem {ds : List D} (h : alkAll ds = true) {a b : D} (ha : a ∈ ds) (hb : b ∈ ds) : alk a b = true := by
  unfold alkAll at h
  rw [List.all_eq_true] at h
  have := h a ha
  rw [List.all_eq_true] at this
  exact this b hb
section
variable {K : PySem.W.Frag} {ct : String → Addr} {k : Nat} {X : Cx} {W : WS} {e a b c : Expr} {es : List Expr} {pos : Pos} {ev ea eb ec : Xv}
def rSrtD : List V → Hp → VK → Prop := fun xs H Q => ∃ (a : Addr) (kvs : List (Key × V)) (ks : List (List Nat)), xs = [.ref a] ∧ Rd H a (.dK kvs) ∧ kvs.map (·.1) = ks.map (fun l => Sum.inr (tx l)) ∧ 
    ∀ p, H p = none → Q (.ref p) (upd H p (.lst ((ks.mergeSort (PySem.W.dataLe false fun l => .str (tx l))).map fun l => V.str (tx l))))
theorem rpK_keys {F : Hp} : ∀ {kvs : List (Key × V)} {ds : List (List Nat × D)}, RpK K F kvs ds → kvs.map (·.1) = (ds.map (·.1)).map (fun l => Sum.inr (tx l)) ∧ ∀ l ∈ ds.map (·.1), okS l
  | _, _, .nil => ⟨rfl, fun _ h => nomatch h⟩
  | _, _, .cons z r t => by
    obtain ⟨h1, h2⟩ := rpK_keys t
    refine ⟨by simp only [List.map_cons, h1], fun l hl => ?_⟩
    rcases List.mem_cons.mp hl with q | q
    · subst q; exact z
    · exact h2 l q
theorem rpA_strs {F : Hp} : ∀ {ls : List (List Nat)}, (∀ l ∈ ls, okS l) → RpA K F (ls.map fun l => V.str (tx l)) (ls.map D.str)
  | [], _ => .nil
  | l :: ls, h => .cons (.str l (h l List.mem_cons_self)) (rpA_strs fun m hm => h m (List.mem_cons_of_mem _ hm))
theorem ud_srt : UnD K (fun xs H Q => rSrtL K xs H Q ∨ rSrtD xs H Q) sortD := by
  intro F H x d Q s rx g
  cases d with
  | lst ds =>
    dsimp only [sortD] at g
    split at g
    · rename_i z
      unfold srtOk at z
      simp only [Bool.and_eq_true, decide_eq_true_eq] at z
      obtain ⟨⟨⟨z1, z2⟩, z3⟩, z4⟩ := z
      obtain ⟨p, vs, ex, hq, zl, rv⟩ := bo_lst s rx
      subst ex
      obtain ⟨dp, cl⟩ := rpA_dp s rv z1
      rw [toPs_map] at dp
      have hal : PySem.W.AllAlike (ds.map toP) := by
        intro a ha b hb
        obtain ⟨a', ha', rfl⟩ := List.mem_map.mp ha
        obtain ⟨b', hb', rfl⟩ := List.mem_map.mp hb
        exact toP_alike a' b' (alkAll_mem z2 ha' hb') (plains_mem z1 _ ha') (plains_mem z1 _ hb')
      have hso : PySem.W.Sortable (ds.map toP) := by
        rw [Bool.or_eq_true] at z4
        rcases z4 with z4 | z4
        · refine .inl fun d hd => ?_
          obtain ⟨d', hd', rfl⟩ := List.mem_map.mp hd
          have := List.all_eq_true.mp z4 d' hd'
          cases d' with
          | tup es =>
            cases es with
            | nil => simp at this
            | cons y ys => exact ⟨toP y, toPs ys, by simp [toP, toPs]⟩
          | _ => simp at this
        · refine .inr fun d hd => ?_
          obtain ⟨d', hd', rfl⟩ := List.mem_map.mp hd
          have := List.all_eq_true.mp z4 d' hd'
          have pl := plains_mem z1 _ hd'
          cases d' with
          | non => simp at this
          | tup es => simp at this
          | dic _ => simp [plain] at pl
          | obj _ => simp [plain] at pl
          | fn _ => simp [plain] at pl
          | kd _ => simp [plain] at pl
          | _ => simp [toP]
      have ems : ds.mergeSort (PySem.W.dataLe false toP) = ds.mergeSort dle := by
        refine ms_congr ds fun a ha b hb => ?_
        rw [PySem.W.dataLe_eq]
        show (!PySem.W.dataLt (toP b) (toP a)) = !dlt b a
        have hn : isNon b = false := by
          rw [Bool.or_eq_true] at z4
          rcases z4 with z4 | z4
          · have := List.all_eq_true.mp z4 b hb
            cases b <;> first | rfl | (simp at this; done)
          · have := List.all_eq_true.mp z4 b hb
            cases b <;> first | rfl | (simp at this; done)
        rw [toP_lt b a (alkAll_mem z2 hb ha) (plains_mem z1 _ hb) (plains_mem z1 _ ha) hn]
      refine .inl ⟨p, vs, ds, Rp K F, rfl, .inl hq, dp, each_A rv, hal, hso, fun d hd => ?_, fun ys p' h1 np => ?_⟩
      · rw [toP_dep]; exact Nat.le_trans (deps_mem hd) z3
      · rw [ems] at h1
        have ra := A_each h1
        have hl : ys.length ≤ LIM := by
          rw [ra.length, List.length_mergeSort, ← rv.length]; exact zl
        exact got_new s g np fun ff => .lst upd_same hl (ra.mono ff)
    · exact g.elim
  | dic ds =>
    obtain ⟨p, kvs, ex, hq, zl, rv⟩ := bo_dic s rx
    subst ex
    obtain ⟨h1, h2⟩ := rpK_keys rv
    refine .inr ⟨p, kvs, ds.map (·.1), rfl, hq, h1, fun p' np => ?_⟩
    have e1 : ((ds.map (·.1)).mergeSort (PySem.W.dataLe false fun l => PyData.str (tx l))).map D.str = (ds.map fun kv => D.str kv.1).mergeSort dle := by
      rw [PySem.W.dataLe_eq]
      have e2 : (fun a b : List Nat => cond false (!PySem.W.dataLt (PyData.str (tx a)) (PyData.str (tx b))) (!PySem.W.dataLt (PyData.str (tx b)) (PyData.str (tx a)))) = fun a b => dle (D.str a) (D.str b) := by
        funext a b
        show (!PySem.W.dataLt (PyData.str (tx b)) (PyData.str (tx a))) = !dlt (.str b) (.str a)
        rw [PySem.W.dataLt_str, tx_list, tx_list]
        simp [dlt]
      rw [e2, ms_map (le := dle) D.str, List.map_map]
      rfl
    dsimp only [sortD] at g
    rw [← e1] at g
    refine got_new s g np fun ff => .lst upd_same ?_ (rpA_strs fun l hl => h2 l ((List.mergeSort_perm _ _).mem_iff.mp hl))
    rw [List.length_map, List.length_mergeSort, List.length_map, ← rv.length]; exact zl
  | _ => exact g.elim
theorem e_sorted {p : Pos} (hm : X.mg "sorted" = none) (ha : PBv ct k X W a ea) (hg : Gl X "sorted" := by rfl) (he : starEach [a] X.env = (false, eval a X.env) :: starEach [] X.env := by rfl) : PEv ct k X W (.Call (.Name "sorted" p) [a] [] pos) (xU sortD ea) := fun C =>
  e_blt ud_srt (fun h => CallR.or (cr_srtL C.room) (call_srtD h C.room)) hm (by decide +kernel) ha hg (by decide) (by decide) he C
/-! ### join -/
theorem join_tx (sep : List Nat) (ls : List (List Nat)) : Txt.join (tx sep) (ls.map tx) = tx (joinL sep ls) := by
  have key : ∀ ls, TL.joinL sep ls = joinL sep ls := by
    intro ls
    induction ls with
    | nil => rfl
    | cons l r ih =>
      cases r with
      | nil => rfl
      | cons m r => rw [TL.joinL, ih]; simp [joinL]
  have e := TL.tl_join (tx sep) (ls.map tx)
  rw [List.map_map] at e
  have e2 : (TL.tl ∘ tx) = id := by funext l; exact tx_list l
  rw [e2, List.map_id] at e
  refine TL.ext_tl ((congrArg TL.tl (TL.join_eq (tx sep) (ls.map tx))).trans (e.trans ?_))
  rw [show TL.tl (tx sep) = sep from tx_list sep, key]
  exact (tx_list _).symm
theorem joinL_len (sep : List Nat) : ∀ ls : List (List Nat), (joinL sep ls).length ≤ (ls.map List.length).sum + ls.length * sep.length
  | [] => by simp [joinL]
  | [a] => by simp [joinL]
  | a :: b :: r => by
    have := joinL_len sep (b :: r)
    simp only [joinL, List.length_append, List.map_cons, List.sum_cons, List.length_cons] at this ⊢
    have e : (r.length + 1 + 1) * sep.length = (r.length + 1) * sep.length + sep.length := by rw [Nat.succ_mul]
    omega
theorem joinL_mem (sep : List Nat) {x : Nat} : ∀ ls : List (List Nat), x ∈ joinL sep ls → x ∈ sep ∨ ∃ l ∈ ls, x ∈ l
  | [], h => by simp [joinL] at h
  | [a], h => .inr ⟨a, List.mem_cons_self, h⟩
  | a :: b :: r, h => by
    simp only [joinL, List.mem_append] at h
    rcases h with (h | h) | h
    · exact .inr ⟨a, List.mem_cons_self, h⟩
    · exact .inl h
    · rcases joinL_mem sep (b :: r) h with q | ⟨l, q1, q2⟩
      · exact .inl q
      · exact .inr ⟨l, List.mem_cons_of_mem _ q1, q2⟩
theorem e_join {apos : Pos} (ha : PEv ct k X W a ea) (hb : PBv ct k X W b eb) (hs : starEach [b] X.env = [(false, eval b X.env)] := by rfl) (hbase : attributeBase a "join" X.env (eval a X.env) = eval a X.env := by rfl) (hline : (apos.endLine == pos.line) = true := by rfl) :
    PEv ct k X W (.Call (.Attribute a "join" apos) [b] [] pos) (xM isStr joinD ea eb) := fun C =>
  (pe_join (ha C) (hb C) hs hbase hline).imp fun σ H Q ⟨H0, F0, F, env, S, g⟩ => seq S g fun x d F1 H1 S1 g1 rx q1 => by
    cases d with
    | str sep =>
      obtain ⟨ex, hx⟩ := bo_str (H := H1) (.inl rx)
      refine ⟨⟨_, ex⟩, seq S1 q1 fun y e F2 H2 S2 g2 ry q2 => ?_⟩
      have q3 := got_wf q2
      cases e with
      | lst ds =>
        dsimp only [joinD] at q3
        obtain ⟨p, vs, ey, hq, zl, rv⟩ := bo_lst S2.sub ry
        cases z : asSs ds with
        | none => rw [z] at q3; exact q3.elim
        | some ls =>
          rw [z] at q3
          dsimp only at q3
          obtain ⟨h1, h2, h3⟩ := asSs_rp rv z
          split at q3
          · rename_i hz
            refine ⟨tx sep, p, ls.map tx, ex, by rw [ey], .inl (.inl (by rw [← h1]; exact hq)), ?_, ?_⟩
            · rw [List.map_map]
              have : (fun x => x.length) ∘ tx = List.length := by funext l; exact tx_len l
              rw [this, List.length_map, tx_len]
              exact hz
            · rw [join_tx]
              refine got_ok S2.sub q3 (.str _ ⟨Nat.le_trans (joinL_len sep ls) hz, fun c hc => ?_⟩)
              rcases joinL_mem sep ls hc with q | ⟨l, q1, q2⟩
              · exact hx.2 c q
              · exact (h3 l q1).2 c q2
          · exact q3.elim
      | _ => exact q3.elim
    | _ => exact q1.elim
/-! ### raise -/
theorem s_raise (cn : String) {C : Addr} {bmB : List Value} {B newId initId : String} {x m : Str} {j : Nat} {p p2 pc : Pos} (hct : ct cn = C) (F : ExcBaseFacts B newId initId bmB) (q : PySem.W.excIn X.K C bmB newId = true) (gC : X.mg x = some (.ref C)) (kC : PySem.W.keepIn X.K (.ref C) = true) (r1 : PySem.W.subIn X.K (.ref C) (.type "BaseException") = some true) (r2 : PySem.W.typeIn X.K (.ref C) = some (.type "type")) (hc : X.calm = true := by rfl) (hg : Gl X x := by rfl)
    (hdb : (x == ("__debug__" : Str)) = false := by decide) : PSv ct k X W (.Raise (some (.Call (.Name x p) [.Constant (.str m) j p2] [] pc)) none pos) (sRaise cn) := fun Cc =>
  (ps_raise hc Cc.tk (pmk_own F q gC kC (raises_own r1 r2) hg hdb)).imp fun Dn σ H ⟨H0, F0, F, env, S, g⟩ => ⟨cn, by rw [hct], rfl, g σ F H S⟩
end
end Pv

namespace Pv
variable [HasW]
open PySem PySem.Spec L2
/-! ### in an except suite -/
def PEh (X : Cx) (e : Expr) (ev : Xv) : Prop := PE X e (rd X.K (RE X.K) WF ev)
def PAh (X : Cx) (es : List Expr) (ev : Av) : Prop := PA X es (rd X.K (RA X.K) WF ev)
def PSh (X : Cx) (st : List Stmt) (sv : Sv) : Prop := PSs X st (rs X.K WF sv)
section
variable {X : Cx} {e a b c : Expr} {es : List Expr} {pos : Pos} {ev ea eb ec : Xv} {aa : Av} {st : Stmt} {rest : List Stmt} {s r : Sv}
theorem h_var (i : Nat) {x : Str} (hN : X.N[i]? = some x := by rfl) (hv : Vis X.env.scope x := by first | exact Or.inl rfl | exact Or.inr (Or.inl rfl) | exact Or.inr (Or.inr rfl)) (hd : (x == ("__debug__" : Str)) = false := by decide)
    (hcd : (x == ("__classdict__" : Str)) = false := by decide) : PEh X (.Name x pos) (rdV i) := (pe_var hN hv hd hcd).imp fun σ H Q ⟨H0, F0, F, env, S, g⟩ => by
  unfold rdV at g
  cases q : gt env i with
  | none => rw [q] at g; exact g.elim
  | some s =>
    rw [q] at g
    cases s with
    | fz d =>
      obtain ⟨v, h1, h2⟩ := S.fz i d q
      exact ⟨v, h1, g v F H (.refl S.sub) h2⟩
    | ow d => exact g.elim
theorem h_nil : PAh X [] aNil := pa_nil.imp fun σ H Q ⟨H0, F0, F, env, S, g⟩ => g [] F H (.refl S.sub) .nil
theorem h_cons (ha : PEh X e ea) (hr : PAh X es aa) (hs : starEach (e :: es) X.env = (false, eval e X.env) :: starEach es X.env := by rfl) : PAh X (e :: es) (aCons ea aa) :=
  (pa_cons ha hr hs).imp fun σ H Q ⟨H0, F0, F, env, S, g⟩ => seq S g fun x d F1 H1 S1 g1 rx q1 => seq S1 q1 fun xs ds F2 H2 S2 g2 rxs q2 =>
    q2 (x :: xs) F2 H2 (.refl S2.sub) (.cons (Rp.mono g2.ff rx) rxs)
theorem h_lst (h : PAh X es aa) : PEh X (.List es pos) (xLst aa) :=
  (pe_lst h).imp fun σ H Q ⟨H0, F0, F, env, S, g⟩ => seq S g fun vs ds F1 H1 S1 g1 r q1 => by
    by_cases z : ds.length ≤ LIM
    · rw [if_pos z] at q1
      have z' : vs.length ≤ LIM := by rw [r.length]; exact z
      refine ⟨by rw [lim]; exact z', fun p np => ?_⟩
      have gn := Gd.new (o := .lst vs) S1.sub np
      exact q1 _ _ _ gn (.lst upd_same z' (RpA.mono gn.ff r))
    · rw [if_neg z] at q1; exact q1.elim
theorem h_op {op : Operator} {r : R2} {f : D → D → Res D} (hd : OpD X.K r f) (ho : OpR X (binaryOp op) r) (ha : PEh X a ea) (hb : PEh X b eb) : PEh X (.BinOp a op b pos) (xOp f ea eb) :=
  (pe_op ho ha hb).imp fun σ H Q ⟨H0, F0, F, env, S, g⟩ => seq S g fun x d F1 H1 S1 g1 rx q1 => seq S1 q1 fun y e F2 H2 S2 g2 ry q2 =>
    hd F2 H2 x y d e Q S2.sub (.inl (Rp.mono g2.ff rx)) (.inl ry) (got_wf q2)
theorem hs_cons (h1 : PS X st (rs X.K WF s)) (h2 : PSh X rest r) : PSh X (st :: rest) (sSeq s r) := (pss_cons h1 h2).imp fun Dn σ H ⟨H0, F0, F, env, S, g⟩ => by
  refine ⟨H0, F0, F, env, S, ?_⟩
  unfold sSeq at g
  cases q : s env with
  | nx env' => rw [q] at g; exact fun σ' F' H' S' => ⟨H0, F0, F', env', S', g⟩
  | ret d => rw [q] at g; exact g
  | brk env' => rw [q] at g; exact g
  | cont env' => rw [q] at g; exact g
  | exc c env' => rw [q] at g; exact g
  | bad => rw [q] at g; exact g
theorem hs_one (h1 : PS X st (rs X.K WF s)) : PSh X [st] s := pss_one h1
theorem h_ret (h : PEh X e ev) : PS X (.Return (some e) pos) (rs X.K WF (sRet ev)) :=
  (ps_ret h).imp fun Dn σ H ⟨H0, F0, F, env, S, g⟩ => sseq S g fun v d F1 H1 S1 g1 rv q => q v F1 H1 S1.gd rv
theorem h_set (i : Nat) {x : Str} {p : Pos} (hN : X.N.Nodup) (h : PEh X e ev) (hi : X.N[i]? = some x := by rfl) (hx : Loc X.env.scope x := by first | exact Or.inl rfl | exact Or.inr rfl) (hf : X.fn x = true ∨ X.env.scope.names.lookup x = some .local := by first | exact .inl rfl | exact .inr rfl)
    (hs : swapsWith e (some (.Name x p)) pos.line X.env = pure false := by rfl) : PS X (.Assign [.Name x p] e pos) (rs X.K WF (sAsg (.nm i) ev)) :=
  (ps_set hN hi hx h hs hf).imp fun Dn σ H ⟨H0, F0, F, env, S, g⟩ => sseq S g fun v d F1 H1 S1 g1 rv q => q _ F1 H1 (S1.set i rv)
theorem fstT_at : ∀ {bs : List Bool} {j m : Nat}, fstT bs j = some m → ∃ i, m = j + i ∧ bs[i]? = some true ∧ ∀ n, n < i → bs[n]? = some false
  | [], _, _, h => by cases h
  | true :: _, j, m, h => by
    have e : j = m := Option.some.inj h
    subst e
    exact ⟨0, rfl, rfl, fun n hn => absurd hn (Nat.not_lt_zero _)⟩
  | false :: r, j, m, h => by
    obtain ⟨i, h1, h2, h3⟩ := fstT_at (bs := r) (j := j + 1) h
    refine ⟨i + 1, by omega, by simpa using h2, fun n hn => ?_⟩
    cases n with
    | zero => rfl
    | succ n => simpa using h3 n (by omega)
/-- e.index(True), e of bools -/
theorem h_idx {apos p2 : Pos} {j : Nat} (h : PEh X e ev) (hbase : attributeBase e "index" X.env (eval e X.env) = eval e X.env := by rfl)
    (hfew : ((backTo pos (starEach [.Constant (.bool true) j p2] X.env)).all (fun x => !x.1) && (backToKw pos (keywordEach [] X.env)).all (fun x => x.1.isSome) && decide (([.Constant (.bool true) j p2] : List Expr).length + ([] : List Keyword).length + (if ([] : List Keyword).isEmpty then 0 else 1) < 30)) = true := by rfl)
    (hline : (apos.endLine == pos.line) = true := by rfl) (hst : starEach [.Constant (.bool true) j p2] X.env = (false, eval (.Constant (.bool true) j p2) X.env) :: starEach [] X.env := by rfl) (hplain : (backTo pos (starEach [] X.env)).any (·.1) = false := by rfl) :
    PEh X (.Call (.Attribute e "index" apos) [.Constant (.bool true) j p2] [] pos) (xU idxT ev) :=
  (pe_bm PySem.F.plainAttrs_list PySem.F.slot_list_index PySem.F.type_list_index mt_index h (pa_cons pe_bl pa_nil hst) hbase hfew hline hst hplain).imp fun σ H Q ⟨H0, F0, F, env, S, g⟩ => seq S g fun x d F1 H1 S1 g1 rx q1 => by
    have q3 := got_wf q1
    cases d with
    | lst ds =>
      obtain ⟨p, vs, ex, hq, zl, rv⟩ := bo_lst S1.sub (.inl rx)
      subst ex
      dsimp only [idxT] at q3
      cases z : asBs ds with
      | none => rw [z] at q3; exact q3.elim
      | some bs =>
        rw [z] at q3
        dsimp only at q3
        have ev := asBs_rp rv z
        subst ev
        cases w : fstT bs 0 with
        | none => rw [w] at q3; exact q3.elim
        | some m =>
          rw [w] at q3
          obtain ⟨i, h1, h2, h3⟩ := fstT_at w
          rw [Nat.zero_add] at h1
          subst h1
          refine ⟨.inl ⟨rfl, _, .inl hq⟩, p, bs.map V.bl, .bl true, m, .bl true, rfl, rfl, .inl hq, rfl, ?_, ?_, rfl, fun n z' hn hz' => ?_, got_ok S1.sub q3 (.int _)⟩
          · rw [List.all_eq_true]
            intro v hv
            obtain ⟨b, _, rfl⟩ := List.mem_map.mp hv
            rfl
          · rw [List.getElem?_map, h2]; rfl
          · rw [List.getElem?_map, h3 n hn] at hz'
            cases hz'
            rfl
    | _ => exact q3.elim
end
section
variable {X : Cx} {pos : Pos}
/-- isinstance(e, C), e the exception in slot i -/
theorem h_is (i : Nat) {a D Cd : Addr} {oe : Obj} {pn : List (Addr × Obj)} {x y : Str} {b : Bool} {p p2 p3 : Pos} (E : ExcC X.K D) (hz : Zc (.ref D) none oe) (hf : ∃ vs, oe.data = .fields vs) (hm : X.mg "isinstance" = none) (hC : X.mg y = some (.ref Cd)) (hk : PySem.W.kitOne X.K (.ref D) (.ref Cd) = some b)
    (hN : X.N[i]? = some x := by rfl) (hv : Vis X.env.scope x := by first | exact Or.inl rfl | exact Or.inr (Or.inl rfl) | exact Or.inr (Or.inr rfl)) (hd : (x == ("__debug__" : Str)) = false := by decide)
    (hcd : (x == ("__classdict__" : Str)) = false := by decide) (hg : Gl X "isinstance" := by rfl) (hgC : Gl X y := by rfl) (hdb : (y == ("__debug__" : Str)) = false := by decide)
    (hs1 : starEach [.Name x p2, .Name y p3] X.env = (false, eval (.Name x p2) X.env) :: starEach [.Name y p3] X.env := by rfl) (hs2 : starEach [.Name y p3] X.env = (false, eval (.Name y p3) X.env) :: starEach [] X.env := by rfl)
    (hpl : (backTo pos (starEach [.Name y p3] X.env)).any (·.1) = false := by rfl) :
    PEh (X.suite a ((a, oe) :: pn)) (.Call (.Name "isinstance" p) [.Name x p2, .Name y p3] [] pos) (xIs i a b) :=
  (pe_callB (X := X.suite a ((a, oe) :: pn)) (call_isE E hz hf) hg hm (by decide +kernel) (pa_cons (pe_var hN hv hd hcd) (pa_cons (pe_glob (v := .ref Cd) hgC hC rfl hdb) pa_nil hs2) hs1) (by decide) (by decide) hs1 hpl).imp fun σ H Q ⟨H0, F0, F, env, S, g⟩ => by
    unfold xIs at g
    cases q : gt env i with
    | none => rw [q] at g; exact g.elim
    | some s =>
      rw [q] at g
      cases s with
      | fz d =>
        obtain ⟨v, h1, h2⟩ := S.fz i d q
        cases d with
        | obj a' =>
          dsimp only at g
          split at g
          · rename_i e
            subst e
            cases h2
            refine ⟨_, h1, .ref Cd, .ref Cd, b, rfl, fun u r => by cases r; rfl, hk, got_ok S.sub g (.bl b)⟩
          · exact g.elim
        | _ => exact g.elim
      | ow d => exact g.elim
/-- try: body except x as n: a suite that returns -/
theorem s_try_as {ct : String → Addr} {k : Nat} {W : WS} (i : Nat) {x n : Str} {cE : Addr} {body suite : List Stmt} {b₀ : Stmt} {np pos' : Pos} {bv : Sv} {hv : String → Addr → Sv} {cat : String → Option Bool} {r : String → Option D}
    (hb : ∀ (W' : WS) (pn : List (Addr × Obj)) (xe : Value → Shared → Prop), PSsv ct k (X.tr pn xe) W' body bv)
    (hcat : ∀ c b, cat c = some b → PySem.W.exmOne X.K (.ref (ct c)) (.ref cE) = some b)
    (hsu : ∀ (a : Addr) (oe : Obj) (pn : List (Addr × Obj)) (c : String), X.N.Nodup → r c ≠ none → Zc (.ref (ct c)) none oe → (∃ vs, oe.data = .fields vs) → PSh (X.suite a ((a, oe) :: pn)) (b₀ :: suite) (hv c a))
    (hr : ∀ c a env d, i < env.length → r c = some d → hv c a (pt env i (some (.fz (.obj a)))) = .ret d)
    (hm : X.mg x = some (.ref cE)) (hs : X.stack = X.env :: X.outer := by rfl) (hf : X.env.frame = some X.env.locals := by rfl) (hi : X.N[i]? = some n := by rfl) (hln : X.env.kindOf n = some .local := by rfl) (hg : Gl X x := by rfl) (hdb : (x == ("__debug__" : Str)) = false := by decide) :
    PSv ct k X W (.Try body [.ExceptHandler (some (.Name x np)) (some n) (b₀ :: suite) pos'] [] [] pos) (sTry i cat r bv) := fun C =>
  (ps_try_as (c := .ref cE) (Wout := wx ct W) (tb := fun W' => rs X.K (fun c σ H => W' (.ref (ct c)) none σ H) bv) (ts := fun a cls d Dn σ H => ∃ c, cls = .ref (ct c) ∧ d = none ∧ r c ≠ none ∧ rs X.K WF (hv c a) Dn σ H) hs hf C.nd hi hln ⟨hg, hdb, .inl hm⟩ C.tk
    (fun W' pn xe tk po => hb _ pn xe ⟨tk.imp fun cls d σ H ⟨c, e1, e2, q⟩ => by rw [e1, e2]; exact q, po, C.calm, C.nd, C.room⟩)
    (fun a oe cls d pn hz hf => ⟨fun pins s σ H Q I ⟨c, e1, e2, hn, q⟩ => by
      subst e1 e2
      exact (hsu a oe pn c C.nd hn hz hf).run pins s σ H Q I q⟩)).imp fun Dn σ H ⟨H0, F0, F, env, S, g⟩ => by
    refine ⟨H0, F0, F, env, S, ?_⟩
    unfold sTry at g
    cases q : bv env with
    | exc c env' =>
      rw [q] at g
      dsimp only at g
      cases z : cat c with
      | none => rw [z] at g; exact g.elim
      | some bb =>
        rw [z] at g
        intro σ' F' H' S'
        refine ⟨bb, hcat c bb z, fun eb a na => ?_, fun eb => ?_⟩
        · subst eb
          dsimp only at g
          by_cases il : i < env'.length
          case neg => rw [if_neg il] at g; exact g.elim
          rw [if_pos il] at g
          cases y : r c with
          | none => rw [y] at g; exact g.elim
          | some d =>
            rw [y] at g
            refine ⟨c, rfl, rfl, by rw [y]; simp, H0, F0, F', _, S'.set i (d := .obj a) (.obj a), ?_⟩
            rw [hr c a env' d il y]
            exact g
        · subst eb
          exact ⟨c, rfl, rfl, g σ' F' H' S'⟩
    | nx e => rw [q] at g; exact g
    | ret d => rw [q] at g; exact g
    | brk e => rw [q] at g; exact g
    | cont e => rw [q] at g; exact g
    | bad => rw [q] at g; exact g
end
end Pv

namespace Pv
def iKeys (a : Xv) : Av := fun env => (a env).bind fun d => match d with
  | .dic kvs => .ok (kvs.map fun kv => .str kv.1)
  | _ => .bad
def sForD (T : Tg) (a : Xv) (b : Sv) : Sv := fun env => (iKeys a env).fl env fun xs => noX (forD T b xs env)
def asIs : List D → Option (List Int)
  | [] => some []
  | .int i :: r => (asIs r).map (i :: ·)
  | _ => none
def maxL : List Int → Option Int
  | [] => none
  | a :: r => some (r.foldl max a)
def minL : List Int → Option Int
  | [] => none
  | a :: r => some (r.foldl min a)
def maxD : D → Res D
  | .lst ds => match (asIs ds).bind maxL with
    | some m => .ok (.int m)
    | none => .bad
  | _ => .bad
def minD : D → Res D
  | .lst ds => match (asIs ds).bind minL with
    | some m => .ok (.int m)
    | none => .bad
  | _ => .bad
def sumD : D → Res D
  | .lst ds => match asIs ds with
    | some ns => .ok (.int ns.sum)
    | none => .bad
  | _ => .bad
def prD : List (Xv × Xv) → En → Res (List (List Nat × D))
  | [], _ => .ok []
  | (kx, vx) :: r, env => (kx env).calm.bind fun kd => (vx env).calm.bind fun vd => match kd with
    | .str key => (prD r env).bind fun ps => .ok ((key, vd) :: ps)
    | _ => .bad
def mergeD (acc ps : List (List Nat × D)) : List (List Nat × D) := ps.foldl (fun acc kv => putD acc kv.1 kv.2) acc
def xDic (prs : List (Xv × Xv)) : Xv := fun env => match prD prs env with
  | .ok ps => .ok (.dic (mergeD [] ps))
  | _ => .bad
def oDK (prs : List (Xv × Xv)) (r : Ov) : Ov := fun env => match prD prs env with
  | .ok ps => (r env).bind fun ss => .ok (.ow (.dic (mergeD [] ps)) :: ss)
  | _ => .bad
def truD : D → Option Bool
  | .str l => some (!l.isEmpty)
  | .non => some false
  | .bl b => some b
  | _ => none
def xOrT (a b : Xv) : Xv := fun env => (a env).bind fun x => match truD x with
  | some true => .ok x
  | some false => b env
  | none => .bad
def distN (acc : List (List Nat)) : List (List Nat) → List (List Nat)
  | [] => acc
  | x :: xs => distN (if x ∈ acc then acc else x :: acc) xs
def ssetD : D → Res D
  | .lst ds => match asSs ds with
    | some ls => if ls.length ≤ 4000 then .ok (.lst (((distN [] ls).mergeSort fun a b => dle (.str a) (.str b)).map D.str)) else .bad
    | none => .bad
  | _ => .bad
def xCallV (tb : String → Option (List D → Res D)) (f : Xv) (a : Av) : Xv := fun env => (f env).bind fun d => match d with
  | .fn n => (match tb n with
    | some Fn => (a env).bind Fn
    | none => .bad)
  | _ => .bad
end Pv

namespace Pv
variable [HasW]
open PySem PySem.Spec L2
/-! ### walks over the keys of a dict -/
section
variable {K : PySem.W.Frag} {H0 F0 F H F1 H1 : Hp} {σ σ1 : St} {env env1 : En} {a : Addr} {od : Obj} {u : HO}
theorem Gd.lock (s : Sub F H) (fa : F a = some u) (ha : H a = some u) : Sub F (upd H a (.frz od u)) := sub_lock s fa ha
theorem Gd.unlock (fa : F a = some u) (ha : H a = some u) (g : Gd F (upd H a (.frz od u)) F1 H1) : Gd F H F1 (upd H1 a u) := by
  refine ⟨g.ff, fun b o h => ?_, fun b x h => ?_, fun b h => ?_⟩
  · by_cases e : b = a
    · subst e
      rw [ha] at h
      cases h
      exact upd_same
    · rw [upd_ne e]
      exact g.hh b o (by rw [upd_ne e]; exact h)
  · by_cases e : b = a
    · subst e
      rw [g.ff _ _ fa] at h
      cases h
      exact .inl upd_same
    · rcases g.sub b x h with q | ⟨o, q⟩
      · exact .inl (by rw [upd_ne e]; exact q)
      · exact .inr ⟨o, by rw [upd_ne e]; exact q⟩
  · rcases g.nw b h with q | q
    · exact .inl q
    · have ne : b ≠ a := fun z => by subst z; rw [upd_same] at q; cases q
      rw [upd_ne ne] at q
      exact .inr q
theorem key_walk {kvs : List (Key × V)} {ds : List (List Nat × D)} (r : RpK K F kvs ds) (z : kvs.length ≤ LIM) (h : H a = some (.frz od (.dK kvs))) : RW K F H (Itk a od kvs) (ds.map fun kv => D.str kv.1) :=
  ⟨fun H => H a = some (.frz od (.dK kvs)), wk_keys r, h, fun H H' e s => s a _ e, by rw [List.length_map, ← r.length]; exact z⟩
end
section
variable {ct : String → Addr} {k : Nat} {X : Cx} {W : WS} {e a b c : Expr} {es : List Expr} {pos : Pos} {ev ea eb ec : Xv}
/-- for T in d: body, d a dict -/
theorem s_forD {tg iter : Expr} {body : List Stmt} {T : Tg} {bv : Sv} (ha : PEv ct k X W iter ea) (hg : X.N.Nodup → X.calm = true → PGv X tg T) (hb : PSsv ct k X W body bv)
    (hs : ∀ x, foldedSetIterable iter X.env x = pure x := by intro _; rfl) : PSv ct k X W (.For tg iter body [] pos) (sForD T ea bv) := fun C =>
  (ps_ul (ps_for C.po C.calm (pi_keysL (ha C)) (hg C.nd C.calm) (hb C) hs)).imp fun Dn σ H ⟨H0, F0, F, env, S, g⟩ => by
    have g' : GotS X.K W H0 F0 Dn ((ea env).fl env fun d => match d with | .dic kvs => noX (forD T bv (kvs.map fun kv => .str kv.1) env) | _ => .bad) := by
      have e : sForD T ea bv env = ((ea env).fl env fun d => match d with | .dic kvs => noX (forD T bv (kvs.map fun kv => .str kv.1) env) | _ => .bad) := by
        unfold sForD iKeys
        cases ea env with
        | ok d => cases d <;> rfl
        | exc c => rfl
        | bad => rfl
      rw [e] at g; exact g
    refine sseq S g' fun v d F1 H1 S1 g1 rv q => ?_
    cases d with
    | dic ds =>
      cases rv with
      | @dic p kvs _ fp zl rk =>
      dsimp only at q
      refine ⟨p, kvs, rfl, ?_⟩
      rcases S1.sub p _ fp with hp | ⟨od, hp⟩
      · refine .inl ⟨hp, fun od hn => ?_⟩
        have S2 := S1.rebaseL (od := od) fp hp
        refine for_core (W := W) (bv := bv) (T := T) (wk_keys (a := p) (od := od) rk) (fun H' s => lock_still S1 fp s) S2 ?_
        have un : ∀ {f : St → Hp → Prop} {env'}, (∀ σ F H, SR X.K H0 F0 F H σ env' → f σ H) → ∀ σ' F' H', SR X.K (bse env σ (upd H1 p (.frz od (.dK kvs)))) F1 F' H' σ' env' → Ul X f σ' H' := fun {f env'} h σ' F' H' S' =>
          .inr ⟨p, od, _, lock_still S1 fp S'.gd.hh, hn, h _ _ _ (SR.unbaseL S1 fp hp S')⟩
        cases z : forD T bv (ds.map fun kv => .str kv.1) env with
        | nx e => rw [z] at q; exact un q
        | ret d => rw [z] at q; exact fun v F' H' gd r => .inr ⟨p, od, _, lock_still S1 fp gd.hh, hn, q v F' _ (Gd.unbaseL S1 fp hp gd) r⟩
        | brk e => rw [z] at q; exact un q
        | cont e => rw [z] at q; exact un q
        | exc c e => rw [z] at q; exact (show False from q).elim
        | bad => rw [z] at q; exact (show False from q).elim
      · refine .inr ⟨od, hp, ?_⟩
        have S2 := S1.rebase
        have still : ∀ H', Same (bse env σ H1) H' → H' p = some (.frz od (.dK kvs)) := fun H' s => by
          refine s p _ ?_
          unfold bse
          rw [if_neg (not_own S1 fp)]
          exact hp
        refine for_core (W := W) (bv := bv) (T := T) (wk_keys (a := p) (od := od) rk) still S2 ?_
        cases z : forD T bv (ds.map fun kv => .str kv.1) env with
        | nx e => rw [z] at q; exact fun σ' F' H' S' => .inl (q _ _ _ (S1.unbase S'))
        | ret d => rw [z] at q; exact fun v F' H' gd r => .inl (q v F' _ (Gd.unbase S1 gd) r)
        | brk e => rw [z] at q; exact fun σ' F' H' S' => .inl (q _ _ _ (S1.unbase S'))
        | cont e => rw [z] at q; exact fun σ' F' H' S' => .inl (q _ _ _ (S1.unbase S'))
        | exc c e => rw [z] at q; exact (show False from q).elim
        | bad => rw [z] at q; exact (show False from q).elim
    | _ => exact q.elim
def LcAsk (K : PySem.W.Frag) (T : Tg) (own : List Nat) (tv : Tv) (ee : Xv) (σ : St) (Q : VK) (J : It) (H1 : Hp) : Prop :=
    ∀ A, H1 A = none → ∃ Wv : Nat → Nat → Hp → Prop, (∃ m, Wv 0 m (upd H1 A (.lst []))) ∧ ∀ i m H, Wv i m H → (J.stop i H ∧ Q (.ref A) H) ∨ (J.go i H ∧ ∃ Nx : Hp → Prop, (∀ H', Nx H' → ∃ m', m' < m ∧ Wv (i + 1) m' H') ∧
      ∀ x H', J.yld i H x H' → gT K T x (L2.wipe σ own) H' fun σ2 H2 => L2.wipe σ2 own = L2.wipe σ own ∧ rd K RB WF tv σ2 H2 fun b H3 =>
        if b = true then rd K (RE K) WF ee σ2 H3 fun y H4 => ∃ acc, H4 A = some (.lst acc) ∧ acc.length < sizeLine ∧ Nx (upd H4 A (.lst (acc ++ [y]))) else Nx H3)
theorem LcAsk.imp {K : PySem.W.Frag} {T : Tg} {own : List Nat} {tv : Tv} {ee : Xv} {σ : St} {Q Q' : VK} {J : It} {H1 : Hp} (h : LcAsk K T own tv ee σ Q J H1) (i : ∀ v H, Q v H → Q' v H) : LcAsk K T own tv ee σ Q' J H1 := by
  intro A nA
  obtain ⟨Wv, h1, h2⟩ := h A nA
  refine ⟨Wv, h1, fun j m H w => ?_⟩
  rcases h2 j m H w with ⟨z1, z2⟩ | z
  · exact .inl ⟨z1, i _ _ z2⟩
  · exact .inr z
theorem lc_ask {K : PySem.W.Frag} {T : Tg} {own : List Nat} {tv : Tv} {ee : Xv} {σ : St} {env : En} {H0 F0 F1 H1 : Hp} {ds : List D} {J : It} {Q : VK} (ho : ∀ i ∈ ixs T, i ∈ own) (S1 : SR K H0 F0 F1 H1 σ env) (rJ : RW K F1 H1 J ds)
    (q : Got (RE K) W F1 H1 σ Q ((lcD T tv ee (wipeE env own) ds).bind fun r => .ok (.lst r))) : LcAsk K T own tv ee σ Q J H1 := lc_read ho S1 rJ q
/-- what a comprehension over the keys asks, at the heap where the dict stands -/
theorem lcD_read {K : PySem.W.Frag} {T : Tg} {own : List Nat} {tv : Tv} {ee : Xv} {σ : St} {env : En} {H0 F0 F1 H1 : Hp} {ds : List (List Nat × D)} {kvs : List (Key × V)} {p : Addr} {Q : VK} (ho : ∀ i ∈ ixs T, i ∈ own) (S1 : SR K H0 F0 F1 H1 σ env) (fp : F1 p = some (.dK kvs)) (zl : kvs.length ≤ LIM) (rk : RpK K F1 kvs ds)
    (q : Got (RE K) W F1 H1 σ Q ((lcD T tv ee (wipeE env own) (ds.map fun kv => .str kv.1)).bind fun r => .ok (.lst r))) :
    ∃ d kvs, V.ref p = .ref d ∧ ((H1 d = some (.dK kvs) ∧ ∀ od, (∀ o' u', X.H_0 d ≠ some (.frz o' u')) → LcAsk K T own tv ee σ (Ul X Q) (Itk d od kvs) (upd H1 d (.frz od (.dK kvs)))) ∨ ∃ od, H1 d = some (.frz od (.dK kvs)) ∧ LcAsk K T own tv ee σ (Ul X Q) (Itk d od kvs) H1) := by
  refine ⟨p, kvs, rfl, ?_⟩
  rcases S1.sub p _ fp with hp | ⟨od, hp⟩
  · refine .inl ⟨hp, fun od hn => ?_⟩
    refine LcAsk.imp (Q := fun v H' => ∃ F', Gd F1 (upd H1 p (.frz od (.dK kvs))) F' H' ∧ Q v (upd H' p (.dK kvs))) ?_ fun v H' ⟨F', gd, h⟩ => .inr ⟨p, od, _, gd.hh _ _ upd_same, hn, h⟩
    refine lc_ask (W := W) ho (S1.rebaseL fp hp) (key_walk rk zl upd_same) ?_
    cases z : (lcD T tv ee (wipeE env own) (ds.map fun kv => .str kv.1)) with
    | ok r => rw [z] at q; exact fun v F' H' gd r' => ⟨F', gd, q v F' _ (Gd.unlock fp hp gd) r'⟩
    | exc c => exact absurd z (lcD_noexc _)
    | bad => rw [z] at q; exact q.elim
  · exact .inr ⟨od, hp, LcAsk.imp (lc_ask ho S1 (key_walk rk zl hp) q) fun v H h => .inl h⟩
theorem e_lcD {elt tg iter : Expr} {ifs : List Expr} {scope : Scope} {own : List (Str × Nat)} {T : Tg} {tv : Tv} {ee : Xv} (hi : PEv ct k X W iter ea) (ok : blkC X.N X.env.scope scope own = true) (ho : ∀ i ∈ ixs T, i ∈ own.map (·.2))
    (hg : ∀ (s : Shared) (H : Hp) (A : Addr) (cl : List (Str × Addr)) (fp : List Addr), X.N.Nodup → X.calm = true → PGv (X.blk s H scope (compEnvC scope cl A X.env) fp) tg T)
    (ht : ∀ (s : Shared) (H : Hp) (A : Addr) (cl : List (Str × Addr)) (fp : List Addr), PTsv ct k (X.blk s H scope (compEnvC scope cl A X.env) fp) WF ifs tv)
    (he : ∀ (s : Shared) (H : Hp) (A : Addr) (cl : List (Str × Addr)) (fp : List Addr), PEv ct k (X.blk s H scope (compEnvC scope cl A X.env) fp) WF elt ee) (hs : ∀ x, foldedSetIterable iter X.env x = pure x := by intro _; rfl) :
    PEv ct k X W (.ListComp elt [⟨tg, iter, ifs, 0⟩] scope pos) (xLc T (own.map (·.2)) (iKeys ea) tv ee) := fun C =>
  (pe_ul (pe_lc (g := gT X.K T) (tt := rd X.K RB WF tv) (te := rd X.K (RE X.K) WF ee) C.calm C.nd (pi_keysL (hi C)) (blkOk_by ok) (fun s H A cl fp => hg s H A cl fp C.nd C.calm) (fun s H A cl fp => ht s H A cl fp C.blk) (fun s H A cl fp => he s H A cl fp C.blk) hs)).imp fun σ H Q ⟨H0, F0, F, env, S, g⟩ => by
    have g' : Got (RE X.K) W F H σ Q ((ea env).bind fun d => match d with | .dic kvs => ((lcD T tv ee (wipeE env (own.map (·.2))) (kvs.map fun kv => .str kv.1)).bind fun r => .ok (.lst r)) | _ => .bad) := by
      have e : xLc T (own.map (·.2)) (iKeys ea) tv ee env = ((ea env).bind fun d => match d with | .dic kvs => ((lcD T tv ee (wipeE env (own.map (·.2))) (kvs.map fun kv => .str kv.1)).bind fun r => .ok (.lst r)) | _ => .bad) := by
        unfold xLc iKeys
        cases ea env with
        | ok d => cases d <;> rfl
        | exc c => rfl
        | bad => rfl
      rw [e] at g; exact g
    refine seq S g' fun v d F1 H1 S1 g1 rv q => ?_
    cases d with
    | dic ds =>
      cases rv with
      | dic fp zl rk =>
        exact lcD_read (X := X) ho S1 fp zl rk q
    | _ => exact q.elim
theorem s_lcD {elt tg iter : Expr} {ifs : List Expr} {scope : Scope} {own : List (Str × Nat)} {T : Tg} {tv : Tv} {ee : Xv} {y : Str} {py spos : Pos} (i : Nat) (hi : PEv ct k X W iter ea) (ok : blkC X.N X.env.scope scope own = true) (ho : ∀ i ∈ ixs T, i ∈ own.map (·.2))
    (hg : ∀ (s : Shared) (H : Hp) (A : Addr) (cl : List (Str × Addr)) (fp : List Addr), X.N.Nodup → X.calm = true → PGv (X.blk s H scope (compEnvC scope cl A X.env) fp) tg T)
    (ht : ∀ (s : Shared) (H : Hp) (A : Addr) (cl : List (Str × Addr)) (fp : List Addr), PTsv ct k (X.blk s H scope (compEnvC scope cl A X.env) fp) WF ifs tv)
    (he : ∀ (s : Shared) (H : Hp) (A : Addr) (cl : List (Str × Addr)) (fp : List Addr), PEv ct k (X.blk s H scope (compEnvC scope cl A X.env) fp) WF elt ee)
    (hsw : swapsWith (.ListComp elt [⟨tg, iter, ifs, 0⟩] scope pos) (some (.Name y py)) spos.line X.env = pure true) (hy : X.N[i]? = some y := by rfl) (hyl : X.env.scope.names.lookup y = some .local := by rfl)
    (hs : ∀ x, foldedSetIterable iter X.env x = pure x := by intro _; rfl) :
    PSv ct k X W (.Assign [.Name y py] (.ListComp elt [⟨tg, iter, ifs, 0⟩] scope pos) spos) (sAsg (.nm i) (xLc T (own.map (·.2)) (iKeys ea) tv ee)) := fun C =>
  (ps_ul (ps_setLc (g := gT X.K T) (tt := rd X.K RB WF tv) (te := rd X.K (RE X.K) WF ee) C.calm C.nd hy hyl hsw (pi_keysL (hi C)) (blkOk_by ok) (fun s H A cl fp => hg s H A cl fp C.nd C.calm) (fun s H A cl fp => ht s H A cl fp C.blk) (fun s H A cl fp => he s H A cl fp C.blk) hs)).imp fun Dn σ H ⟨H0, F0, F, env, S, g⟩ => by
    have g' : GotS X.K W H0 F0 Dn ((ea env).fl env fun d => match d with | .dic kvs => (((lcD T tv ee (wipeE env (own.map (·.2))) (kvs.map fun kv => .str kv.1)).bind fun r => Res.ok (D.lst r))).fl env (fun d => .nx (pt env i (some (.fz d)))) | _ => .bad) := by
      have e : sAsg (.nm i) (xLc T (own.map (·.2)) (iKeys ea) tv ee) env = ((ea env).fl env fun d => match d with | .dic kvs => (((lcD T tv ee (wipeE env (own.map (·.2))) (kvs.map fun kv => .str kv.1)).bind fun r => Res.ok (D.lst r))).fl env (fun d => .nx (pt env i (some (.fz d)))) | _ => .bad) := by
        unfold sAsg xLc iKeys
        cases ea env with
        | ok d => cases d <;> rfl
        | exc c => rfl
        | bad => rfl
      rw [e] at g; exact g
    refine sseq S g' fun v d F1 H1 S1 g1 rv q => ?_
    cases d with
    | dic ds =>
      cases rv with
      | dic fp zl rk =>
        dsimp only at q
        have q2 : Got (RE X.K) W F1 H1 σ (fun v H' => gName i v σ H' Dn.nx) ((lcD T tv ee (wipeE env (own.map (·.2))) (ds.map fun kv => .str kv.1)).bind fun r => Res.ok (D.lst r)) := by
          cases z : ((lcD T tv ee (wipeE env (own.map (·.2))) (ds.map fun kv => .str kv.1)).bind fun r => Res.ok (D.lst r)) with
          | ok d => rw [z] at q; exact fun v F' H' gd r => q _ F' H' ((S1.grow gd).set i r)
          | exc c => rw [z] at q; exact fun F' H' gd => q σ F' H' (S1.grow gd)
          | bad => rw [z] at q; exact q.elim
        exact lcD_read (X := X) ho S1 fp zl rk q2
    | _ => exact q.elim
end
end Pv

namespace Pv
variable [HasW]
open PySem PySem.Spec L2
/-! ### max, min, sum of ints -/
theorem asIs_rp {K : PySem.W.Frag} {F : Hp} : ∀ {vs : List V} {ds : List D} {ns : List Int}, RpA K F vs ds → asIs ds = some ns → vs = ns.map V.int
  | _, _, ns, .nil, h => by
    have e : [] = ns := Option.some.inj h
    subst e; rfl
  | _, _, ns, .cons r t, h => by
    cases r with
    | int i =>
      unfold asIs at h
      cases z : asIs _ with
      | none => rw [z] at h; cases h
      | some ns' =>
        rw [z] at h
        have e : i :: ns' = ns := Option.some.inj h
        subst e
        rw [asIs_rp t z]
        rfl
    | _ => cases h
theorem foldl_max : ∀ (r : List Int) (a : Int), r.foldl max a ∈ a :: r ∧ ∀ y ∈ a :: r, y ≤ r.foldl max a
  | [], a => ⟨List.mem_cons_self, fun y hy => by simp at hy; simp [hy]⟩
  | b :: r, a => by
    obtain ⟨h1, h2⟩ := foldl_max r (max a b)
    rw [List.foldl_cons]
    have hm : max a b ≤ r.foldl max (max a b) := h2 _ List.mem_cons_self
    refine ⟨?_, fun y hy => ?_⟩
    · rcases List.mem_cons.mp h1 with q | q
      · rw [q]
        rcases Int.le_total a b with z | z
        · rw [Int.max_eq_right z]; simp
        · rw [Int.max_eq_left z]; simp
      · exact List.mem_cons_of_mem _ (List.mem_cons_of_mem _ q)
    · rcases List.mem_cons.mp hy with q | q
      · have := Int.le_max_left a b; omega
      · rcases List.mem_cons.mp q with q | q
        · have := Int.le_max_right a b; omega
        · exact h2 y (List.mem_cons_of_mem _ q)
theorem foldl_min : ∀ (r : List Int) (a : Int), r.foldl min a ∈ a :: r ∧ ∀ y ∈ a :: r, r.foldl min a ≤ y
  | [], a => ⟨List.mem_cons_self, fun y hy => by simp at hy; simp [hy]⟩
  | b :: r, a => by
    obtain ⟨h1, h2⟩ := foldl_min r (min a b)
    rw [List.foldl_cons]
    have hm : r.foldl min (min a b) ≤ min a b := h2 _ List.mem_cons_self
    refine ⟨?_, fun y hy => ?_⟩
    · rcases List.mem_cons.mp h1 with q | q
      · rw [q]
        rcases Int.le_total a b with z | z
        · rw [Int.min_eq_left z]; simp
        · rw [Int.min_eq_right z]; simp
      · exact List.mem_cons_of_mem _ (List.mem_cons_of_mem _ q)
    · rcases List.mem_cons.mp hy with q | q
      · have := Int.min_le_left a b; omega
      · rcases List.mem_cons.mp q with q | q
        · have := Int.min_le_right a b; omega
        · exact h2 y (List.mem_cons_of_mem _ q)
section
variable {K : PySem.W.Frag} {ct : String → Addr} {k : Nat} {X : Cx} {W : WS} {e a b c : Expr} {es : List Expr} {pos : Pos} {ev ea eb ec : Xv}
theorem ud_max : UnD K (rMax K) maxD := by
  intro F H x d Q s rx g
  cases d with
  | lst ds =>
    obtain ⟨p, vs, ex, hq, z, rv⟩ := bo_lst s rx
    subst ex
    dsimp only [maxD] at g
    cases w : asIs ds with
    | none => rw [w] at g; exact g.elim
    | some ns =>
      rw [w] at g
      have ev := asIs_rp rv w
      subst ev
      cases ns with
      | nil => exact g.elim
      | cons n r =>
        obtain ⟨h1, h2⟩ := foldl_max r n
        refine ⟨p, n :: r, rfl, .inl hq, by simp, fun m hm hle => ?_⟩
        have e : m = r.foldl max n := by have := h2 m hm; have := hle _ h1; omega
        subst e
        exact got_ok s g (.int _)
  | _ => exact g.elim
theorem ud_min : UnD K (rMin K) minD := by
  intro F H x d Q s rx g
  cases d with
  | lst ds =>
    obtain ⟨p, vs, ex, hq, z, rv⟩ := bo_lst s rx
    subst ex
    dsimp only [minD] at g
    cases w : asIs ds with
    | none => rw [w] at g; exact g.elim
    | some ns =>
      rw [w] at g
      have ev := asIs_rp rv w
      subst ev
      cases ns with
      | nil => exact g.elim
      | cons n r =>
        obtain ⟨h1, h2⟩ := foldl_min r n
        refine ⟨p, n :: r, rfl, .inl hq, by simp, fun m hm hle => ?_⟩
        have e : m = r.foldl min n := by have := h2 m hm; have := hle _ h1; omega
        subst e
        exact got_ok s g (.int _)
  | _ => exact g.elim
theorem ud_sum : UnD K (rSum K) sumD := by
  intro F H x d Q s rx g
  cases d with
  | lst ds =>
    obtain ⟨p, vs, ex, hq, z, rv⟩ := bo_lst s rx
    subst ex
    dsimp only [sumD] at g
    cases w : asIs ds with
    | none => rw [w] at g; exact g.elim
    | some ns =>
      rw [w] at g
      have ev := asIs_rp rv w
      subst ev
      exact ⟨p, ns, rfl, .inl hq, got_ok s g (.int _)⟩
  | _ => exact g.elim
theorem e_max {p : Pos} (hm : X.mg "max" = none) (ha : PBv ct k X W a ea) (hg : Gl X "max" := by rfl) (he : starEach [a] X.env = (false, eval a X.env) :: starEach [] X.env := by rfl) : PEv ct k X W (.Call (.Name "max" p) [a] [] pos) (xU maxD ea) := e_blt ud_max (fun h => cr_max h) hm (by decide +kernel) ha hg (by decide) (by decide) he
theorem e_min {p : Pos} (hm : X.mg "min" = none) (ha : PBv ct k X W a ea) (hg : Gl X "min" := by rfl) (he : starEach [a] X.env = (false, eval a X.env) :: starEach [] X.env := by rfl) : PEv ct k X W (.Call (.Name "min" p) [a] [] pos) (xU minD ea) := e_blt ud_min (fun h => cr_min h) hm (by decide +kernel) ha hg (by decide) (by decide) he
theorem e_sum {p : Pos} (hm : X.mg "sum" = none) (ha : PBv ct k X W a ea) (hg : Gl X "sum" := by rfl) (he : starEach [a] X.env = (false, eval a X.env) :: starEach [] X.env := by rfl) : PEv ct k X W (.Call (.Name "sum" p) [a] [] pos) (xU sumD ea) := e_blt ud_sum (fun h => cr_sum h) hm (by decide +kernel) ha hg (by decide) (by decide) he
/-! ### displays of dicts, the keys texts -/
def trP (K : PySem.W.Frag) (W : WS) (p : Xv × Xv) : TE × TE := (rd K (RE K) W p.1, rd K (RE K) W p.2)
theorem pr_read {σ : St} {env : En} : ∀ {prs : List (Xv × Xv)} {ps : List (List Nat × D)} {H0 F0 F H : Hp} {Q : List (V × V) → Hp → Prop}, prD prs env = .ok ps → SR K H0 F0 F H σ env →
    (∀ kvs F' H', Gd F H F' H' → RpK K F' kvs ps → Q (kvs.map fun kv => (kV kv.1, kv.2)) H') → tPairs (prs.map (trP K W)) σ H Q
  | [], ps, H0, F0, F, H, Q, h, S, hq => by
    have e : [] = ps := Res.ok.inj h
    subst e
    exact hq [] F H (.refl S.sub) .nil
  | (kx, vx) :: r, ps, H0, F0, F, H, Q, h, S, hq => by
    unfold prD at h
    cases h1 : kx env with
    | ok kd =>
      rw [h1] at h
      cases h2 : vx env with
      | ok vd =>
        rw [h2] at h
        cases kd with
        | str key =>
          dsimp only [Res.calm, Res.bind] at h
          cases h3 : prD r env with
          | ok ps' =>
            rw [h3] at h
            have e : (key, vd) :: ps' = ps := Res.ok.inj h
            subst e
            refine ⟨H0, F0, F, env, S, ?_⟩
            show Got _ _ _ _ _ _ (kx env)
            rw [h1]
            intro kv F1 H1 g1 rk
            refine ⟨H0, F0, F1, env, S.grow g1, ?_⟩
            show Got _ _ _ _ _ _ (vx env)
            rw [h2]
            intro vv F2 H2 g2 rv
            refine pr_read h3 ((S.grow g1).grow g2) fun kvs F' H' g3 rr => ?_
            obtain ⟨ek, hk⟩ := bo_str (H := H1) (.inl rk)
            subst ek
            exact hq ((Sum.inr (tx key), vv) :: kvs) F' H' ((g1.trans g2).trans g3) (.cons hk (rv.mono g3.ff) rr)
          | exc c => rw [h3] at h; cases h
          | bad => rw [h3] at h; cases h
        | _ => cases h
      | exc c => rw [h2] at h; cases h
      | bad => rw [h2] at h; cases h
    | exc c => rw [h1] at h; cases h
    | bad => rw [h1] at h; cases h
theorem rpK_merge {F : Hp} : ∀ {kvs : List (Key × V)} {ps : List (List Nat × D)} {acc : List (Key × V)} {acc' : List (List Nat × D)}, RpK K F kvs ps → RpK K F acc acc' → RpK K F (mergeK acc kvs) (mergeD acc' ps)
  | _, _, _, _, .nil, h => h
  | _, _, _, _, @RpK.cons _ _ _ key v kvs d ds z r t, h => by
    show RpK K F (mergeK (putK _ _ _) kvs) (mergeD (putD _ _ _) ds)
    exact rpK_merge t (rpK_put z r h)
/-- the pairs of a display -/
def PDv (ct : String → Addr) (k : Nat) (X : Cx) (W : WS) (p : Pos) (keys : List (Option Expr)) (values : List Expr) (prs : List (Xv × Xv)) : Prop := Cz ct k X W → PPs X p keys values (prs.map (trP X.K W))
theorem d_nil {p : Pos} : PDv ct k X W p [] [] [] := fun C => pps_nil
theorem d_cons {p : Pos} {ks : List (Option Expr)} {vs : List Expr} {kx vx : Xv} {prs : List (Xv × Xv)} {ke ve : Expr} (hk : PEv ct k X W ke kx) (hv : PEv ct k X W ve vx) (hr : PDv ct k X W p ks vs prs) : PDv ct k X W p (some ke :: ks) (ve :: vs) ((kx, vx) :: prs) := fun C => pps_cons (hk C) (hv C) (hr C)
theorem disp_read {σ : St} {env : En} {prs : List (Xv × Xv)} {ps : List (List Nat × D)} {H0 F0 F H : Hp} {Q : VK} (h : prD prs env = .ok ps) (hl : ps.length ≤ 15) (S : SR K H0 F0 F H σ env)
    (hq : ∀ p kvs F' H', H p = none → Gd F H F' H' → F' p = none → H' p = some (.dK []) → kvs.length ≤ 15 → RpK K F' kvs (mergeD [] ps) → Q (.ref p) (upd H' p (.dK kvs))) : tDisp (prs.map (trP K W)) σ H Q := by
  intro p np
  have g0 := Gd.drop (o := .dK []) S.sub np
  refine pr_read h (S.grow g0) fun kvs F' H' g1 rr => ?_
  have hp := g1.hh p _ upd_same
  have f0 : F p = none := by
    cases z : F p with
    | none => rfl
    | some u =>
      rcases S.sub p u z with q | ⟨o', q⟩
      · rw [np] at q; cases q
      · rw [np] at q; cases q
  have f1 : F' p = none := by
    cases z : F' p with
    | none => rfl
    | some u =>
      rcases g1.nw p (by rw [z]; simp) with q | q
      · exact absurd f0 q
      · rw [upd_same] at q; cases q
  have hk : kvs.length ≤ 15 := by rw [rr.length]; exact hl
  refine ⟨hp, kvs, rfl, hk, hq p _ F' H' np (g0.trans g1) f1 hp ?_ (rpK_merge rr .nil)⟩
  have := length_mergeK kvs []
  simp at this
  omega
theorem prD_len {env : En} : ∀ {prs : List (Xv × Xv)} {ps : List (List Nat × D)}, prD prs env = .ok ps → ps.length = prs.length
  | [], ps, h => by
    have e : [] = ps := Res.ok.inj h
    subst e; rfl
  | (kx, vx) :: r, ps, h => by
    unfold prD at h
    cases h1 : kx env with
    | ok kd =>
      rw [h1] at h
      cases h2 : vx env with
      | ok vd =>
        rw [h2] at h
        cases kd with
        | str key =>
          dsimp only [Res.calm, Res.bind] at h
          cases h3 : prD r env with
          | ok ps' =>
            rw [h3] at h
            have e : (key, vd) :: ps' = ps := Res.ok.inj h
            subst e
            simp [prD_len h3]
          | exc c => rw [h3] at h; cases h
          | bad => rw [h3] at h; cases h
        | _ => cases h
      | exc c => rw [h2] at h; cases h
      | bad => rw [h2] at h; cases h
    | exc c => rw [h1] at h; cases h
    | bad => rw [h1] at h; cases h
/-- {k: v, ..}, frozen -/
theorem e_dic {keys : List (Option Expr)} {values : List Expr} {prs : List (Xv × Xv)} (h : PDv ct k X W pos keys values prs) (hp : prs.length ≤ 15 := by decide) (hall : keys.all (·.isSome) = true := by rfl) (hl : keys.length = values.length := by rfl) (h0 : keys ≠ [] := by simp) (h15 : keys.length ≤ 15 := by decide) :
    PEv ct k X W (.Dict keys values pos) (xDic prs) := fun C =>
  (pe_disp (h C) hall hl h0 h15).imp fun σ H Q ⟨H0, F0, F, env, S, g⟩ => by
    unfold xDic at g
    cases z : prD prs env with
    | ok ps =>
      rw [z] at g
      refine disp_read z (by rw [prD_len z]; exact hp) S fun p kvs F' H' np gd f1 hp1 hk rr => ?_
      have up : ∀ b u, F' b = some u → upd F' p (.dK kvs) b = some u := fun b u hb => by
        have ne : b ≠ p := fun q => by subst q; rw [f1] at hb; cases hb
        rw [upd_ne ne]; exact hb
      refine g _ (upd F' p (.dK kvs)) _ ⟨fun b u hb => up b u (gd.ff b u hb), fun b o hb => ?_, fun b u hb => ?_, fun b hb => ?_⟩ (.dic upd_same (Nat.le_trans hk (by decide)) (rr.mono up))
      · have ne : b ≠ p := fun q => by subst q; rw [np] at hb; cases hb
        rw [upd_ne ne]; exact gd.hh b o hb
      · by_cases q : b = p
        · subst q; rw [upd_same] at hb; cases hb; exact .inl upd_same
        · rw [upd_ne q] at hb
          rcases gd.sub b u hb with y | ⟨o, y⟩
          · exact .inl (by rw [upd_ne q]; exact y)
          · exact .inr ⟨o, by rw [upd_ne q]; exact y⟩
      · by_cases q : b = p
        · subst q; exact .inr np
        · rw [upd_ne q] at hb; exact gd.nw b hb
    | exc c => rw [z] at g; exact g.elim
    | bad => rw [z] at g; exact g.elim
/-- x = {k: v, ..}, owned -/
theorem s_newDK (i : Nat) {x : Str} {p q : Pos} {keys : List (Option Expr)} {values : List Expr} {prs : List (Xv × Xv)} (h : PDv ct k X W q keys values prs) (hp : prs.length ≤ 15 := by decide) (hall : keys.all (·.isSome) = true := by rfl) (hl : keys.length = values.length := by rfl) (h0 : keys ≠ [] := by simp) (h15 : keys.length ≤ 15 := by decide)
    (hi : X.N[i]? = some x := by rfl) (hx : Loc X.env.scope x := by first | exact Or.inl rfl | exact Or.inr rfl) (hf : X.fn x = true ∨ X.env.scope.names.lookup x = some .local := by first | exact .inl rfl | exact .inr rfl)
    (hs : swapsWith (.Dict keys values q) (some (.Name x p)) pos.line X.env = pure false := by rfl) : PSv ct k X W (.Assign [.Name x p] (.Dict keys values q) pos) (sOwn [i] (oDK prs oNil)) := fun C =>
  (ps_set C.nd hi hx (pe_disp (h C) hall hl h0 h15) hs hf).imp fun Dn σ H ⟨H0, F0, F, env, S, g⟩ => by
    unfold sOwn oDK at g
    cases z : prD prs env with
    | ok ps =>
      rw [z] at g
      refine disp_read z (by rw [prD_len z]; exact hp) S fun p kvs F' H' np gd f1 hp1 hk rr => ?_
      have gd2 : Gd F H F' (upd H' p (.dK kvs)) := by
        refine ⟨gd.ff, fun b o hb => ?_, fun b u hb => ?_, gd.nw⟩
        · have ne : b ≠ p := fun q => by subst q; rw [np] at hb; cases hb
          rw [upd_ne ne]; exact gd.hh b o hb
        · have ne : b ≠ p := fun q => by subst q; rw [f1] at hb; cases hb
          rcases gd.sub b u hb with y | ⟨o, y⟩
          · exact .inl (by rw [upd_ne ne]; exact y)
          · exact .inr ⟨o, by rw [upd_ne ne]; exact y⟩
      exact g _ F' _ (own_done (is := [i]) (vs := [.ref p]) (ss := [.ow (.dic (mergeD [] ps))]) S gd2 (.ow np f1 (.dic upd_same (Nat.le_trans hk (by decide)) rr) (fun j d' e => by simp at e) .nil) rfl)
    | exc c => rw [z] at g; exact g.elim
    | bad => rw [z] at g; exact g.elim
/-! ### or by truth: texts -/
theorem e_orT {rest : List Expr} (ha : PEv ct k X W a ea) (hb : PEv ct k X W (.BoolOp .Or (b :: rest) pos) eb) : PEv ct k X W (.BoolOp .Or (a :: b :: rest) pos) (xOrT ea eb) := fun C =>
  (pe_orT (ha C) (hb C)).imp fun σ H Q ⟨H0, F0, F, env, S, g⟩ => seq S g fun x d F1 H1 S1 g1 rx q1 => by
    have fin : ∀ t : Bool, truD d = some t → TruV X.K x H1 t → ∃ k, TruV X.K x H1 k ∧ if k = true then Q x H1 else rd X.K (RE X.K) W eb σ H1 Q := by
      intro t e h
      refine ⟨t, h, ?_⟩
      rw [e] at q1
      cases t with
      | true => exact q1 _ F1 H1 (.refl S1.sub) rx
      | false => exact ⟨H0, F0, F1, env, S1, q1⟩
    cases rx with
    | str l z =>
      refine fin _ rfl ⟨by rw [tx_len, lim]; exact z.1, ?_⟩
      rw [tx_len]
      cases l with
      | nil => rfl
      | cons c l =>
        have : ((c :: l).length : Int) ≠ 0 := by simp only [List.length_cons]; omega
        rw [bne_iff_ne.mpr this]
        rfl
    | non => exact fin _ rfl (by simp [TruV])
    | bl b => exact fin _ rfl (by simp [TruV])
    | _ => exact q1.elim
/-- {}, frozen -/
theorem e_dic0 : PEv ct k X W (.Dict [] [] pos) (xC (.dic [])) := fun C =>
  pe_dnewK.imp fun σ H Q ⟨H0, F0, F, env, S, g⟩ => fun p np => by
    have gn := Gd.new (o := .dK []) S.sub np
    exact g _ _ _ gn (.dic upd_same (Nat.zero_le _) .nil)
end
end Pv

namespace Pv
variable [HasW]
open PySem PySem.Spec L2 PySem.Froz
/-! ### sets of texts, with the order of their table -/
def TxS (P : Program) (w : World) (h : Heap) (a : Addr) (l : List Str) : Prop := ∃ D : SD, h.get? a = some (sObj "set" D) ∧ TxOk P w D l ∧ l.Nodup ∧ Ris D.2.2.place.toList ∧ (w.params.followText "set-order" = true ∨ D.2.2.led = true)
section
variable {P : Program} {w : World} {A : Around} {E : Value → Shared → Prop} {s : Shared}
theorem addTx_ris (h : Int) (v : Value) (D : SD) (r : Ris D.2.2.place.toList) : Ris (addTx h v D).2.2.place.toList ∧ (addTx h v D).2.2.led = D.2.2.led := by
  have r1 := layNew_ris D.2.2 D.1 h v r
  have l1 := layNew_led D.2.2 D.1 h v
  have key : ∀ t2 : SetTable, Ris t2.place.toList → t2.led = D.2.2.led → ∀ wd, Ris (tailTx D.2.1 (layNew D.2.2 D.1 h v).1 t2 wd).2.2.place.toList ∧ (tailTx D.2.1 (layNew D.2.2 D.1 h v).1 t2 wd).2.2.led = D.2.2.led := by
    intro t2 q1 q2 wd
    unfold tailTx
    split
    · exact ⟨relayAll_ris _ _ _, (relayAll_led _ _ _).trans q2⟩
    · exact ⟨q1, q2⟩
  unfold addTx
  split
  · exact key { (layNew D.2.2 D.1 h v).2.1 with plain := false } r1 l1 _
  · exact key _ r1 l1 _
theorem txs_add {a : Addr} {l : List Str} {k : Str} {u : Tok} {Q : Bool → Shared → Prop} (R : TxS P w s.heap a l) (hb : l.length + 1 < scanBound)
    (hQ : ∀ b h', Heap.SameBut a s.heap h' → TxS P w h' a (if k ∈ l then l else k :: l) → Q b { s with heap := h' }) : wpAny (model P w) A (setAddHashed a (.str k u) (hashStr w k)) Q E s := by
  obtain ⟨D, ho, F, nd, r, hl⟩ := R
  by_cases hk : k ∈ l
  · obtain ⟨es, ep, t⟩ := D
    have hd : (sObj "set" (es, ep, t)).data = .set es ep t := rfl
    have hel : ElemsOf (strKind P w) es.toList := F.el
    have hsz : es.size = l.length := F.sz
    have hb0 : es.size < scanBound := by omega
    have hkey : (strKind P w).is k (.str k u) = true := is_str k u
    have hfi : ∃ j, List.findIdx? (fun e => (strKind P w).is k e.2) es.toList = some j := by
      cases q : List.findIdx? (fun e => (strKind P w).is k e.2) es.toList with
      | some j => exact ⟨j, rfl⟩
      | none =>
        obtain ⟨e, he, z⟩ := (F.mem k).mp hk
        have c := List.findIdx?_eq_none_iff.mp q e he
        rw [z] at c; cases c
    obtain ⟨j, hj⟩ := hfi
    unfold setAddHashed setAddHashedIn
    refine wpAny_holding (wpAny_bind (wpAny_setState_of ho hd F.fit ?_))
    dsimp only
    rw [byScan_of rfl hb0 hel]
    simp only [↓reduceIte]
    unfold setAddByScan
    refine wpAny_bind ?_
    refine wpAny_bind (wpAny_rule ?_)
    refine wpAny_bind (wpAny_setScan_of (knd := strKind P w) (k := k) hkey ho hd F.fit hel ?_)
    rw [hj]
    dsimp only
    refine wpAny_pure (wpAny_pure ?_)
    refine hQ _ s.heap (Heap.SameBut.refl a s.heap) ?_
    rw [if_pos hk]
    exact ⟨_, ho, F, nd, r, hl⟩
  · refine add_x ho F hk hb ?_
    obtain ⟨r1, l1⟩ := addTx_ris (hashStr w k) (.str k u) D r
    refine hQ _ _ (Heap.SameBut.update s.heap a _) ?_
    rw [if_neg hk]
    exact ⟨_, get_upd _ ho rfl, add_ok u F, List.nodup_cons.mpr ⟨hk, nd⟩, r1, by rw [l1]; exact hl⟩
/-- the texts, each once -/
def dist (acc : List Str) : List Str → List Str
  | [] => acc
  | x :: xs => dist (if x ∈ acc then acc else x :: acc) xs
theorem dist_len : ∀ (xs acc : List Str), (dist acc xs).length ≤ acc.length + xs.length
  | [], acc => Nat.le_refl _
  | x :: xs, acc => by
    have := dist_len xs (if x ∈ acc then acc else x :: acc)
    rw [dist]
    refine Nat.le_trans this ?_
    split <;> simp <;> omega
end
section
variable {prog : Program} {w : World} {A : Around} {R : Result → Shared → Prop} {I : Addr} {fp wr : List Addr} {G : Array GenState → Array GenState → Prop} {n : Nat} {P : Nat → Value → Prop} {St : Nat → Shared → Prop}
theorem TxS.keep {h h' : Heap} {a : Addr} {l : List Str} (R : TxS prog w h a l) (k : ∀ o, h.get? a = some o → h'.get? a = some o) : TxS prog w h' a l := by
  obtain ⟨D, ho, r⟩ := R
  exact ⟨D, k _ ho, r⟩
theorem loopTx (W : WalksS prog w A.in1 I fp wr G n P St) (S : Addr) (hSf : S ∉ fp) (xs : List Str) (hsz : xs.length = n) (hn : n + 1 < scanBound)
    (hval : ∀ i v, P i v → ∃ x t, xs[i]? = some x ∧ v = .str x t) :
    ∀ (k i : Nat) (s : Shared), n - i = k → i ≤ n → St i s → TxS prog w s.heap S (dist [] (xs.take i)) →
      (∀ s', Moved (S :: wr) G s s' → TxS prog w s'.heap S (dist [] xs) → R (.ok (.ret .none)) s') →
      codeAny (model prog w) A (.builtin "set.update.loop" ⟨[.ref S, .ref I], []⟩) R s := by
  have hSw : S ∉ wr := fun h => hSf (W.sub _ h)
  have hsub : ∀ b ∈ wr, b ∈ S :: wr := fun b hb => List.mem_cons_of_mem _ hb
  have snoc : ∀ (ys acc : List Str) (x : Str), dist acc (ys ++ [x]) = if x ∈ dist acc ys then dist acc ys else x :: dist acc ys := by
    intro ys
    induction ys with
    | nil => intro acc x; rfl
    | cons y ys ih => intro acc x; rw [List.cons_append, dist, ih, dist]
  intro k
  induction k with
  | zero =>
    intro i s hk hi hst hS hR
    have hin : i = n := by omega
    subst hin
    refine codeAny_builtin PyProof.Rows.F.entry_set_update_loop ?_
    rw [Around.under_plainId PyProof.Rows.F.plain_set_update_loop _]
    show wpAny _ A.in1 (pyNext (.ref I) >>= _) _ _ s
    refine wpAny_bind (W.done s _ _ hst fun s' hm => ?_)
    show wpAny _ A.in1 (ret Value.none) _ _ s'
    refine wpAny_pure (hR s' (hm.mono hsub) ?_)
    have e : xs.take i = xs := by rw [← hsz]; exact List.take_length
    rw [e] at hS
    exact hS.keep fun o e => hm.heap S _ hSw e
  | succ k ih =>
    intro i s hk hi hst hS hR
    have hlt : i < n := by omega
    refine codeAny_builtin PyProof.Rows.F.entry_set_update_loop ?_
    rw [Around.under_plainId PyProof.Rows.F.plain_set_update_loop _]
    show wpAny _ A.in1 (pyNext (.ref I) >>= _) _ _ s
    refine wpAny_bind (W.item i s _ _ hlt hst fun v s' hP hst' hm => ?_)
    obtain ⟨x, t, hx, rfl⟩ := hval i v hP
    have hS' := hS.keep fun o e => hm.heap S _ hSw e
    show wpAny _ A.in1 (holding [Value.str x t] (setAdd S (.str x t)) >>= _) _ _ s'
    refine wpAny_bind (wpAny_holding ?_)
    unfold setAdd
    refine wpAny_holding ?_
    refine wpAny_bind ((PySem.strKind prog w).pyHash (k := x) (is_str x t) ?_)
    have hlen : (dist [] (xs.take i)).length + 1 < scanBound := by
      have := dist_len (xs.take i) []
      have h2 : (xs.take i).length ≤ n := by rw [List.length_take]; omega
      simp at this
      omega
    refine txs_add (s := { s' with toks := s'.toks + 1 }) hS' hlen fun b h' hsb hS2 => ?_
    have hSi : TxS prog w h' S (dist [] (xs.take (i + 1))) := by
      rw [List.take_add_one, hx]
      show TxS prog w h' S (dist [] (xs.take i ++ [x]))
      rw [snoc]
      exact hS2
    refine wpAny_pure ⟨plainId_quiet PyProof.Rows.F.plain_set_update_loop _, ih (i + 1) _ (by omega) hlt (W.frame _ s' _ _ hst' (Nat.le_succ _) fun b hb o e => ?_) hSi fun s'' hm'' hS'' => ?_⟩
    · rw [hsb.2 b (fun h : b = S => hSf (by rw [← h]; exact hb))]; exact e
    · refine hR s'' (Moved.trans W.gtrans ((hm.mono hsub).then_heap (Nat.le_succ _) fun b o hb e => ?_) hm'') hS''
      rw [hsb.2 b (fun h : b = S => hb (by rw [h]; exact List.mem_cons_self))]; exact e
end
end Pv

namespace Pv
variable [HasW]
open PySem PySem.Spec L2 PySem.Froz PyProof.Rows
section
variable {P : Program} {w : World} {A : Around} {E : Value → Shared → Prop} {s : Shared}
abbrev nSet (w : World) : Obj := { cls := .type "set", dict := none, data := .set #[] 0 (.fresh 0 0 (!w.params.followText "set-order")) }
theorem txs_new {h : Heap} {a : Addr} (ho : h.get? a = some (nSet w)) : TxS P w h a [] :=
  ⟨(#[], 0, .fresh 0 0 (!w.params.followText "set-order")), ho, TxOk.nil (by rfl), List.nodup_nil, List.Pairwise.nil, by
    show _ ∨ (!w.params.followText "set-order") = true
    cases w.params.followText "set-order"
    · exact .inr rfl
    · exact .inl rfl⟩
set_option maxHeartbeats 3200000 in
/-- set(xs), xs a list of texts -/
theorem call_set_tx {l : Addr} {items : Array Value} {xs : List Str} {Q : Value → Shared → Prop} (hh : A.handled = none) (hl : s.heap.IsList l items) (hi : StrsAre items.toList xs) (hb : xs.length + 1 < scanBound)
    (h : ∀ (h' : Heap) (tk : Nat), TxS P w h' s.heap.objs.size (dist [] xs) → (∀ b o, s.heap.get? b = some o → h'.get? b = some o) → Q (.ref s.heap.objs.size) { s with heap := h', toks := tk }) :
    wpAny (model P w) A (call (.type "set") [.ref l]) Q E s := by
  have hisz : xs.length = items.size := by rw [← StrsAre.len_eq hi, Array.length_toList]
  obtain ⟨c, tl, hmro⟩ := PySem.F.called_set.mro
  have hmade := PySem.F.called_set.made
  have hsub := PySem.F.called_set.sub
  refine wpAny_call (codeAny_of_tree ?_)
  show wpAny _ _ (callAny (.type "set") _) _ _ _
  refine wpAny_pure ⟨Code.quiet_builtin _ (by decide +kernel), codeAny_builtin PySem.F.entry_type_call ?_⟩
  rw [Around.under_plain (weight_type_call_type "set" [.ref l] []) rfl]
  have h1 := PySem.F.called_set.notType
  have h2 := PySem.F.called_set.canCreate
  have hct := PySem.F.typeCall_set_1 (.ref l)
  repeat (any_goals (first | assumption | wp_step))
  refine codeAny_mono (code_set_led1 (.ref l) (E := E) (Q₁ := fun obj s₁ => obj = .ref s.heap.objs.size ∧ s₁ = { s with heap := s.heap.push (nSet w) }) ⟨rfl, rfl⟩) fun r s₁ hr => ?_
  cases r with
  | error e => exact hr
  | ok fl =>
    cases fl with
    | ret obj =>
      obtain ⟨rfl, rfl⟩ := hr
      have hS : (s.heap.push (nSet w)).get? s.heap.objs.size = some (nSet w) := Heap.get?_push_size _ rfl
      have hT : Shared.TypeIs { s with heap := s.heap.push (nSet w) } (.ref s.heap.objs.size) "set" := ⟨_, hS, rfl⟩
      have hli := PySem.F.called_set.init.lookup
      have hbi := PySem.F.called_set.init.bind (.ref s.heap.objs.size)
      repeat (any_goals (first | assumption | wp_step))
      refine codeAny_mono (codeAny_call_builtin (R := wants (fun r s₂ => r = .none ∧ ∃ h' tk, s₂ = { s with heap := h', toks := tk } ∧ TxS P w h' s.heap.objs.size (dist [] xs) ∧
          (∀ b o, s.heap.get? b = some o → h'.get? b = some o)) E) PySem.F.called_set.init.plain PySem.F.entry_set_init (check_set_init_1 hT ?_)) fun r₂ s₂ hr₂ => ?_
      · obtain ⟨ol, hol, hcl, nl, hdl⟩ := hl
        obtain ⟨ocls, odict, odata, oslots⟩ := ol
        simp only at hcl hdl
        subst hcl; subst hdl
        have hol' : (s.heap.push (nSet w)).get? l = some { cls := .type "list", dict := odict, data := .seq items nl, slots := oslots } := Heap.get?_push_of_some _ hol
        have hsls := PySem.F.sub_list_set
        have hslf := PySem.F.sub_list_frozenset
        have hne : (Value.type "list" == Value.type "dict") = false := by decide
        have hl1 : (s.heap.push (nSet w)).IsList l items := ⟨_, hol', rfl, nl, rfl⟩
        unfold Builtin.«set.__init__» noKeywords Builtin.Frozenset.updateFrom
        generalize hPI : pyIter = PI
        wp_walk
        subst hPI
        refine wpAny_pyIter_list hl1 ?_
        refine wpAny_bind (wpAny_runValue ?_)
        have hlS : l < s.heap.objs.size := Heap.lt_size hol
        have hh3 : A.in1.in1.in1.handled = none := by simp [hh]
        have hneI : l ≠ (s.heap.push (nSet w)).objs.size := by
          rw [Heap.size_push]; exact Nat.ne_of_lt (Nat.lt_succ_of_lt hlS)
        have hSf : s.heap.objs.size ∉ [(s.heap.push (nSet w)).objs.size, l] := by
          rw [Heap.size_push]; simp only [List.mem_cons, List.mem_singleton, List.not_mem_nil, or_false, not_or]
          exact ⟨Nat.ne_of_lt (Nat.lt_succ_self _), Nat.ne_of_gt hlS⟩
        have hval : ∀ (i : Nat) (v : Value), items[i]? = some v → ∃ x t, xs[i]? = some x ∧ v = .str x t := fun i v hv => by
          have hi' : i < xs.length := by rw [hisz]; exact (Array.getElem?_eq_some_iff.mp hv).1
          obtain ⟨t, e⟩ := SS.strs_at hi i v (by rw [Array.getElem?_toList]; exact hv)
          refine ⟨xs[i], t, List.getElem?_eq_getElem hi', ?_⟩
          rw [e, List.getD_eq_getElem?_getD, List.getElem?_eq_getElem hi'] <;> rfl
        refine loopTx ((Walks.list hh3 _ l hneI items).toS) s.heap.objs.size
          hSf xs hisz (by rw [← hisz]; exact hb) hval (items.size - 0) 0 _ (by omega) (Nat.zero_le _)
          ⟨⟨_, Heap.get?_push_size _ rfl, rfl, rfl⟩, (hl1.push _)⟩ ?hS0 ?hR
        case hS0 => exact txs_new (Heap.get?_push_of_some _ hS)
        case hR =>
          intro s' hm hS'
          obtain ⟨h', g2, d', tk', os'⟩ := s'
          have eg : g2 = s.gens := hm.gens
          have ed : d' = s.drawn := hm.drawn
          have eo : os' = s.os := hm.os
          subst eg; subst ed; subst eo
          show wpAny _ _ _ _ _ _
          refine wpAny_pure ?_
          show wpAny _ _ (ret Value.none) _ _ _
          refine wpAny_pure ⟨rfl, h', tk', rfl, hS', fun b o e => ?_⟩
          have hb0 : b < s.heap.objs.size := Heap.lt_size e
          have hb1 : b ≠ s.heap.objs.size := Nat.ne_of_lt hb0
          have hb2 : b ≠ (s.heap.push (nSet w)).objs.size := by
            rw [Heap.size_push]; exact Nat.ne_of_lt (Nat.lt_succ_of_lt hb0)
          exact hm.heap b o (by simp only [List.mem_cons, List.mem_singleton, List.not_mem_nil, or_false, not_or]; exact ⟨hb1, hb2⟩) (Heap.get?_push_of_some _ (Heap.get?_push_of_some _ e))
      · cases r₂ with
        | error e => exact hr₂
        | ok fl₂ =>
          cases fl₂ with
          | ret r =>
            obtain ⟨rfl, h', tk, rfl, hS', hk'⟩ := hr₂
            repeat (any_goals (first | assumption | wp_step))
            exact h _ _ hS' hk'
          | _ => exact hr₂.elim
    | _ => exact hr.elim
end
end Pv

namespace Pv
variable [HasW]
open PySem PySem.Spec L2 PySem.Froz
theorem perm_each {vs : List Value} (h : ∀ v ∈ vs, ∃ x t, v = .str x t) : ∃ ys : List (List Nat), PySem.W.EachIs (fun u (l : List Nat) => ∃ t, u = Value.str (tx l) t) vs ys := by
  induction vs with
  | nil => exact ⟨[], .nil⟩
  | cons v vs ih =>
    obtain ⟨ys, hy⟩ := ih fun u hu => h u (List.mem_cons_of_mem _ hu)
    obtain ⟨x, t, rfl⟩ := h v List.mem_cons_self
    exact ⟨x.cps.toList :: ys, .cons ⟨t, by rw [← tx_of rfl]⟩ hy⟩
theorem perm_cover : ∀ (ls ys : List (List Nat)), ls.Nodup → (∀ x ∈ ls, x ∈ ys) → ys.length = ls.length → ys.Perm ls
  | [], ys, _, _, hl => by
    have : ys = [] := List.eq_nil_of_length_eq_zero hl
    subst this
    exact .refl _
  | x :: ls, ys, nd, hs, hl => by
    rw [List.nodup_cons] at nd
    have hx := hs x List.mem_cons_self
    have p1 := List.perm_cons_erase hx
    have ih := perm_cover ls (ys.erase x) nd.2 (fun y hy => by
      have ne : y ≠ x := fun e => nd.1 (e ▸ hy)
      have := (p1.mem_iff (a := y)).mp (hs y (List.mem_cons_of_mem _ hy))
      rcases List.mem_cons.mp this with q | q
      · exact absurd q ne
      · exact q) (by have := p1.length_eq; simp only [List.length_cons] at this hl; omega)
    exact p1.trans (ih.cons x)
theorem srt_unique {ls ys : List (List Nat)} (p : ys.Perm ls) : ys.mergeSort (fun a b => dle (.str a) (.str b)) = ls.mergeSort (fun a b => dle (.str a) (.str b)) := by
  have le_iff : ∀ a b : List Nat, dle (.str a) (.str b) = true ↔ ¬ b < a := fun a b => by simp [dle, dlt]
  have tr : ∀ a b c : List Nat, dle (.str a) (.str b) = true → dle (.str b) (.str c) = true → dle (.str a) (.str c) = true := fun a b c h k => by
    rw [le_iff] at h k ⊢
    intro q
    by_cases z : b < c
    · exact h (List.lt_trans z q)
    · have e : b = c := List.le_antisymm (List.not_lt.mp k) (List.not_lt.mp z)
      subst e; exact h q
  have tot : ∀ a b : List Nat, (dle (.str a) (.str b) || dle (.str b) (.str a)) = true := fun a b => by
    rw [Bool.or_eq_true, le_iff, le_iff]
    by_cases z : b < a
    · exact .inr fun k => List.lt_irrefl _ (List.lt_trans z k)
    · exact .inl z
  refine List.Perm.eq_of_pairwise (le := fun a b => dle (.str a) (.str b) = true) (fun a b _ _ h k => ?_) (List.pairwise_mergeSort tr tot ys) (List.pairwise_mergeSort tr tot ls) (((List.mergeSort_perm ys _).trans p).trans (List.mergeSort_perm ls _).symm)
  rw [le_iff] at h k
  exact List.le_antisymm (List.not_lt.mp h) (List.not_lt.mp k)
theorem each_mem_str {vs : List Value} {ys : List (List Nat)} (e : PySem.W.EachIs (fun u (l : List Nat) => ∃ t, u = Value.str (tx l) t) vs ys) {x : List Nat} {t : Tok} (h : Value.str (tx x) t ∈ vs) : x ∈ ys := by
  induction e with
  | nil => exact nomatch h
  | cons r _ ih =>
    obtain ⟨t', rfl⟩ := r
    rcases List.mem_cons.mp h with q | q
    · injection q with q1 q2
      rw [tx_inj q1]; exact List.mem_cons_self
    · exact List.mem_cons_of_mem _ (ih q)
section
variable {P : Program} {w : World} {A : Around} {E : Value → Shared → Prop} {s : Shared}
/-- sorted(s), s a set of texts -/
theorem sorted_tx {a : Addr} {ls : List (List Nat)} {Q : Value → Shared → Prop} (R : TxS P w s.heap a (ls.map tx)) (hh : A.handled = none) (hb : ls.length < scanBound) (hu : A.units + 100 < cLine)
    (hQ : ∀ (s' : Shared) (p : Addr) (out : List Value) (c : Nat), (∀ b o, s.heap.get? b = some o → s'.heap.get? b = some o) → s'.gens = s.gens → s'.os = s.os → s.heap.objs.size ≤ p →
      s'.heap.get? p = some (PyProof.Rows.seqObj "list" out.toArray c) → PySem.W.EachIs (fun u (l : List Nat) => ∃ t, u = Value.str (tx l) t) out (ls.mergeSort fun a b => dle (.str a) (.str b)) → Q (.ref p) s') :
    wpAny (model P w) A (call (.builtin "sorted") [.ref a]) Q E s := by
  obtain ⟨D, ho, F, nd, r, hl⟩ := R
  obtain ⟨es, ep, t⟩ := D
  have hsz : es.size = ls.length := by have := F.sz; simpa using this
  refine Calls.call_function_entry PyProof.Rows.kind_sorted PyProof.Rows.plain_sorted PyProof.Rows.entry_sorted (PyProof.Rows.args_sorted1 _) ?_
  unfold Builtin.«sorted»
  refine wpAny_bind (m := checkCount "sorted" 1 1 _) (wpAny_pure ?_)
  refine wpAny_bind (collect_set (A := A.in1) (es := es) (ep := ep) (t := t) hh ⟨_, ho, rfl, rfl⟩ F.fit (by omega) r hl fun s1 vs k1 hz g1 o1 pm => ?_)
  have shape : ∀ v ∈ vs, ∃ x t, v = .str x t := fun v hv => by
    obtain ⟨e, he, q⟩ := List.mem_map.mp (pm.mem_iff.mp hv)
    obtain ⟨⟨k, hk, _⟩, _⟩ := F.el e he
    obtain ⟨t, ev⟩ := Value.isStrOf_shape (x := k) (v := e.2) hk
    exact ⟨k, t, by rw [← q]; exact ev⟩
  obtain ⟨ys, hy⟩ := perm_each shape
  have hvl : vs.length = ls.length := by rw [pm.length_eq, List.length_map, Array.length_toList]; exact hsz
  have hyl : ys.length = ls.length := by rw [← hy.length]; exact hvl
  have hndl : ls.Nodup := by
    have := nd
    rw [List.nodup_iff_pairwise_ne, List.pairwise_map] at this
    exact List.nodup_iff_pairwise_ne.mpr (this.imp fun h e => h (by rw [e]))
  have hperm : ys.Perm ls := perm_cover ls ys hndl (fun x hx => by
    obtain ⟨e, he, z⟩ := (F.mem (tx x)).mp (List.mem_map.mpr ⟨x, hx, rfl⟩)
    obtain ⟨t, ev⟩ := Value.isStrOf_shape (x := tx x) (v := e.2) z
    have : e.2 ∈ vs := pm.mem_iff.mpr (List.mem_map.mpr ⟨e, he, rfl⟩)
    rw [ev] at this
    exact each_mem_str hy this) hyl
  refine wpAny_bind (wpAny_newList ?_ (by rw [hvl, sizeLine_eq]; unfold scanBound at hb; omega))
  have hoL : (s1.heap.push (PyProof.Rows.seqObj "list" vs.toArray 0)).get? s1.heap.objs.size = some (PyProof.Rows.seqObj "list" vs.toArray 0) := Heap.get?_push_size _ rfl
  refine wpAny_bind (wpAny_holding (PySem.W.list_sort_data (s := { s1 with heap := s1.heap.push (PyProof.Rows.seqObj "list" vs.toArray 0) }) (enc := fun l => .str (tx l)) hoL hy (hy.mono fun u l ⟨t, e⟩ => ⟨[], by subst e; exact .str _ _, by simp⟩)
    (PySem.W.AllAlike.of fun _ _ => by simp [PySem.W.alike]) (PySem.W.Sortable.others fun _ => ⟨by simp, by simp⟩) (by rw [hyl, sizeLine_eq]; unfold scanBound at hb; omega) (fun b _ => by simp [PyData.depth, Around.in1]; omega) fun out ho' eo => ?_))
  obtain ⟨c, hc⟩ := PyProof.Rows.sortedHeap_at (vs := vs) (out := out.toArray) hoL
  have e2 : (fun a b : List Nat => cond false (!PySem.W.dataLt (PyData.str (tx a)) (PyData.str (tx b))) (!PySem.W.dataLt (PyData.str (tx b)) (PyData.str (tx a)))) = fun a b => dle (D.str a) (D.str b) := by
    funext a b
    show (!PySem.W.dataLt (PyData.str (tx b)) (PyData.str (tx a))) = !dlt (.str b) (.str a)
    rw [PySem.W.dataLt_str, tx_list, tx_list]
    simp [dlt]
  rw [PySem.W.dataLe_eq, e2, srt_unique hperm] at eo
  refine wpAny_pure ⟨_, rfl, hQ _ s1.heap.objs.size out c (fun b u e => ?_) g1 o1 hz hc eo⟩
  have q := k1 b u e
  have hlt := Heap.lt_size q
  show (PyProof.Rows.sortedHeap (s1.heap.push (PyProof.Rows.seqObj "list" vs.toArray 0)) s1.heap.objs.size vs out.toArray).get? b = some u
  rw [PyProof.Rows.sortedHeap_old (Nat.ne_of_lt hlt) (by rw [PyProof.Rows.size_push']; exact Nat.lt_succ_of_lt hlt)]
  exact Heap.get?_push_of_some _ q
end
end Pv

namespace Pv
variable [HasW]
open PySem PySem.Spec L2
/-! ### sorted(set(xs)), xs a list of texts -/
theorem dist_tx : ∀ (xs acc : List (List Nat)), dist (acc.map tx) (xs.map tx) = (distN acc xs).map tx
  | [], acc => rfl
  | x :: xs, acc => by
    rw [List.map_cons, dist, distN]
    have : (if tx x ∈ acc.map tx then acc.map tx else tx x :: acc.map tx) = (if x ∈ acc then acc else x :: acc).map tx := by
      by_cases h : x ∈ acc
      · rw [if_pos h, if_pos (List.mem_map.mpr ⟨x, h, rfl⟩)]
      · have h2 : tx x ∉ acc.map tx := fun q => by
          obtain ⟨y, hy, e⟩ := List.mem_map.mp q
          exact h (tx_inj e ▸ hy)
        rw [if_neg h, if_neg h2]
        rfl
    rw [this]
    exact dist_tx xs _
theorem distN_mem : ∀ (xs acc : List (List Nat)) (y : List Nat), y ∈ distN acc xs → y ∈ acc ∨ y ∈ xs
  | [], acc, y, h => .inl h
  | x :: xs, acc, y, h => by
    rcases distN_mem xs _ y h with q | q
    · split at q
      · exact .inl q
      · rcases List.mem_cons.mp q with z | z
        · rw [z]; exact .inr List.mem_cons_self
        · exact .inl z
    · exact .inr (List.mem_cons_of_mem _ q)
theorem distN_len : ∀ (xs acc : List (List Nat)), (distN acc xs).length ≤ acc.length + xs.length
  | [], acc => Nat.le_refl _
  | x :: xs, acc => by
    have := distN_len xs (if x ∈ acc then acc else x :: acc)
    rw [distN]
    refine Nat.le_trans this ?_
    split <;> simp <;> omega
section
variable {ct : String → Addr} {k : Nat} {X : Cx} {W : WS} {e a b c : Expr} {es : List Expr} {pos : Pos} {ev ea eb ec : Xv}
theorem e_sset {p p2 q : Pos} (hm : X.mg "sorted" = none) (hm2 : X.mg "set" = none) (ha : PBv ct k X W a ea) (hg : Gl X "sorted" := by rfl) (hg2 : Gl X "set" := by rfl) (na : starEach [a] X.env = (false, eval a X.env) :: starEach [] X.env := by rfl) :
    PEv ct k X W (.Call (.Name "sorted" p) [.Call (.Name "set" p2) [a] [] q] [] pos) (xU ssetD ea) := fun C => by
  have h0 : PE X (.Call (.Name "sorted" p) [.Call (.Name "set" p2) [a] [] q] [] pos) (fun σ H Q => rd X.K (RBo X.K) W ea σ H fun x H1 => ∃ (l : Addr) (ls : List (List Nat)), x = .ref l ∧ SqL X.K H1 l ((ls.map tx).map V.str) ∧ ls.length ≤ 4000 ∧
      ∀ p, H1 p = none → Q (.ref p) (upd H1 p (.lst (((distN [] ls).mergeSort fun a b => dle (.str a) (.str b)).map fun l => V.str (tx l))))) := by
    refine ⟨fun pins s σ H Q I h => ?_⟩
    refine PyProof.Rows.Call_ (ld_blt I hg hm (show bootBuiltins "sorted" = some (.builtin "sorted") by decide +kernel) ?_)
    refine PyProof.Rows.callWith_builtin1 (PyProof.Rows.args_cons ?_ rfl) rfl rfl
    refine PyProof.Rows.Call_ (ld_blt I hg2 hm2 (show bootBuiltins "set" = some (.type "set") by decide +kernel) ?_)
    refine PyProof.Rows.callWith_type1 (PyProof.Rows.args_cons (thn ((ha C).run pins s σ H _ I h) fun v s1 ⟨x, H1, I1, r1, q1⟩ => PyProof.Rows.args_nil ?_) na) na rfl
    obtain ⟨l, ls, rfl, hq, hn, q1⟩ := q1
    cases r1
    obtain ⟨its, rv, hl, hz⟩ := I1.list hq
    refine call_set_tx (xs := ls.map tx) (I1.ok.hd C.calm) hl.isList (by simpa using strsAre_of rv) (by rw [List.length_map]; unfold scanBound; omega) fun h' tk hS hk => ?_
    refine PyProof.Rows.args_nil ?_
    have I2 : Inv X pins σ H1 { s1 with heap := h', toks := tk } := I1.kept hk
    have hS' : TxS X.prog X.w h' s1.heap.objs.size ((distN [] ls).map tx) := by
      have := dist_tx ls []
      rw [← this]; exact hS
    have hdl := distN_len ls []
    simp only [List.length_nil, Nat.zero_add] at hdl
    refine sorted_tx (s := { s1 with heap := h', toks := tk }) hS' (I1.ok.hd C.calm) (by unfold scanBound; omega) (by have := C.room.un; omega) fun s2 pp out c k2 g2 o2 hp hget eo => ?_
    have hv := each_vals eo
    have hlen : (((distN [] ls).mergeSort fun a b => dle (.str a) (.str b)).map fun l => V.str (tx l)).length ≤ sizeLine := by
      rw [List.length_map, List.length_mergeSort, lim]
      exact Nat.le_trans (Nat.le_trans hdl hn) (by decide)
    have np : H1 pp = none := I2.hok.fresh hp
    have hp1 : s1.heap.objs.size ≤ pp := by
      obtain ⟨D, hD, _⟩ := hS'
      have hp' : h'.objs.size ≤ pp := hp
      exact Nat.le_trans (Nat.le_of_lt (Heap.lt_size hD)) hp'
    have kk : ∀ (b : Addr) (u : Obj), s1.heap.get? b = some u → s2.heap.get? b = some u := fun b u e => k2 b u (hk b u e)
    have J : Inv X pins σ (upd H1 pp (.lst (((distN [] ls).mergeSort fun a b => dle (.str a) (.str b)).map fun l => V.str (tx l)))) { s1 with heap := s2.heap, gens := s2.gens, drawn := s2.drawn, toks := s2.toks } :=
      I1.call (ch := []) (Un.laid kk hp1 np) (I1.hok.laid kk hp1 ⟨hlen, out, c, hv, hget⟩) (by rw [g2]; exact I1.bare) (fun _ z => nomatch z)
    have e : s2 = { s1 with heap := s2.heap, gens := s2.gens, drawn := s2.drawn, toks := s2.toks } := by
      cases s2
      cases s1
      cases o2
      rfl
    rw [e]
    exact ⟨.ref pp, _, J, rfl, q1 pp np⟩
  refine h0.imp fun σ H Q ⟨H0, F0, F, env, S, g⟩ => seq S g fun x d F1 H1 S1 g1 rx q1 => ?_
  have q3 := got_wf q1
  cases d with
  | lst ds =>
    obtain ⟨p, vs, ex, hq, zl, rv⟩ := bo_lst S1.sub rx
    subst ex
    dsimp only [ssetD] at q3
    cases z : asSs ds with
    | none => rw [z] at q3; exact q3.elim
    | some ls =>
      rw [z] at q3
      dsimp only at q3
      obtain ⟨h1, h2, h3⟩ := asSs_rp rv z
      split at q3
      · rename_i hn
        refine ⟨p, ls, rfl, .inl (by rw [← h1]; exact hq), hn, fun p' np => ?_⟩
        refine got_new S1.sub q3 np fun ff => .lst upd_same ?_ (rpA_strs fun l hl => ?_)
        · rw [List.length_map, List.length_mergeSort]
          have := distN_len ls []
          simp only [List.length_nil, Nat.zero_add] at this
          exact Nat.le_trans (Nat.le_trans this hn) (by decide)
        · rcases distN_mem ls [] l ((List.mergeSort_perm _ _).mem_iff.mp hl) with q | q
          · exact nomatch q
          · exact h3 l q
      · exact q3.elim
  | _ => exact q3.elim
end
end Pv

namespace Pv
/-- text.index(sign), text.find(sign) -/
def sidxD : D → D → Res D
  | .str l, .str [c] => match l.findIdx? (· == c) with
    | some i => .ok (.int (i : Nat))
    | none => .bad
  | _, _ => .bad
def sfndD : D → D → Res D
  | .str l, .str [c] => .ok (.int (match l.findIdx? (· == c) with | some i => ((i : Nat) : Int) | none => -1))
  | _, _ => .bad
/-- d == {} -/
def eqZ : D → D → Res D
  | .dic kvs, .dic [] => .ok (.bl kvs.isEmpty)
  | _, _ => .bad
/-- list of a list or a tuple -/
def lisT : D → Res D
  | .lst ds => .ok (.lst ds)
  | .tup ds => .ok (.lst ds)
  | _ => .bad
/-- list(range(n)) -/
def lrnD (d : D) : Res D := (rng1 d).bind fun l => .ok (.lst l)
def cntD : D → D → Res D
  | .lst ds, .str l => if ds.all isStr = true then .ok (.int ((ds.filter fun d => deq d (.str l)).length : Nat)) else .bad
  | _, _ => .bad
/-- x = a + b, a new list -/
def sAddO (i : Nat) (ea eb : Xv) : Sv := fun env => (ea env).fl env fun x => (eb env).fl env fun y => match addD x y with
  | .ok (.lst l) => .nx (pt env i (some (.ow (.lst l))))
  | _ => .bad
/-- len(set(xs)), texts -/
def lsetD : D → Res D
  | .lst ds => match asSs ds with
    | some ls => if ls.length ≤ 4000 then .ok (.int ((distN [] ls).length : Nat)) else .bad
    | none => .bad
  | _ => .bad
/-- min(xs) of a list: the first of the least -/
def argB (ds : List D) : Nat → Nat
  | 0 => 0
  | k + 1 => if dlt (ds.getD (k + 1) .non) (ds.getD (argB ds k) .non) = true then k + 1 else argB ds k
def minT : D → Res D
  | .lst ds => if srtOk ds = true ∧ ds.isEmpty = false then .ok (ds.getD (argB ds (ds.length - 1)) .non) else .bad
  | _ => .bad
end Pv

namespace Pv
variable [HasW]
open PySem PySem.Spec L2
/-! ### text.index(sign), text.find(sign) -/
theorem occ_full (s sub : Str) (hi : Nat) : ∀ (l : List Nat) (st : Array Nat × Nat), 1 ≤ st.fst.size → (forIn l st (StrLaws.occBody s sub hi 1)).run.fst = st.fst
  | [], st, _ => rfl
  | a :: l, st, h => by
    rw [List.forIn_cons]
    unfold StrLaws.occBody
    rw [if_neg (fun q => by have := q.1.1.1; omega)]
    exact occ_full s sub hi l st h
theorem occ_run (s sub : Str) (hi : Nat) : ∀ (l : List Nat), (forIn l ((#[] : Array Nat), 0) (StrLaws.occBody s sub hi 1)).run.fst.toList = (l.find? fun i => decide (i + sub.length ≤ hi ∧ Builtin.Str.subAt s sub i = true)).toList
  | [] => rfl
  | a :: l => by
    rw [List.forIn_cons]
    unfold StrLaws.occBody
    by_cases hc : a + sub.length ≤ hi ∧ Builtin.Str.subAt s sub a = true
    · rw [if_pos ⟨⟨⟨by simp, Nat.zero_le _⟩, hc.1⟩, hc.2⟩, List.find?_cons_of_pos (by simpa using hc)]
      have := occ_full s sub hi l (#[].push a, a + sub.length) (by simp)
      exact congrArg Array.toList this
    · rw [if_neg (fun q => hc ⟨q.1.2, q.2⟩), List.find?_cons_of_neg (by simpa using hc)]
      exact occ_run s sub hi l
theorem find_idx (l : List Nat) (c : Nat) : (List.range' 0 (l.length + 1)).find? (fun i => decide (l[i]? = some c)) = l.findIdx? (· == c) := by
  have key : ∀ (l : List Nat) (p : Nat → Bool) (s : Nat) (_ : ∀ i, p (s + i) = decide (l[i]? = some c)), ((List.range' s (l.length + 1)).find? p) = (l.findIdx? (· == c)).map (s + ·) := by
    intro l
    induction l with
    | nil =>
      intro p s h
      have := h 0
      simp at this
      simp [List.range', this]
    | cons a l ih =>
      intro p s h
      rw [List.length_cons, List.range'_succ, List.findIdx?_cons]
      by_cases e : a = c
      · have := h 0
        simp [e] at this
        rw [List.find?_cons_of_pos (by simpa using this)]
        simp [e]
      · have h0 := h 0
        simp [e] at h0
        rw [List.find?_cons_of_neg (by simp [h0]), ih p (s + 1) fun i => by
          have := h (i + 1)
          rw [show s + 1 + i = s + (i + 1) by omega, this]
          simp]
        simp [e]
        cases l.findIdx? (· == c) with
        | none => rfl
        | some j => simp; omega
  have := key l (fun i => decide (l[i]? = some c)) 0 fun i => by simp
  rw [this]
  simp
theorem occ_tx (l : List Nat) (c : Nat) : Builtin.Str.occurrences (tx l) (tx [c]) 0 (tx l).length 1 = (l.findIdx? (· == c)).toList := by
  rw [StrLaws.occ_eq, Nat.sub_zero, occ_run, tx_len]
  congr 1
  rw [← find_idx]
  congr 1
  funext i
  have := StrLaws.subAt_one (tx l) c i
  rw [tx_list, tx_len] at this
  exact decide_eq_decide.mpr this
section
variable {ct : String → Addr} {k : Nat} {X : Cx} {W : WS} {e a b c : Expr} {es xs : List Expr} {pos : Pos} {ev ea eb ec : Xv} {ov : Ov} {aa : Av}
theorem e_sidx {apos : Pos} (ha : PEv ct k X W a ea) (hb : PEv ct k X W b eb) (hs : starEach [b] X.env = [(false, eval b X.env)] := by rfl) (hbase : attributeBase a "index" X.env (eval a X.env) = eval a X.env := by rfl) (hline : (apos.endLine == pos.line) = true := by rfl) :
    PEv ct k X W (.Call (.Attribute a "index" apos) [b] [] pos) (xM isStr sidxD ea eb) := fun C =>
  (pe_m1 PySem.F.slot_str_index PySem.F.type_str_index mt_sindex (ha C) (hb C) hs hbase hline).imp fun σ H Q ⟨H0, F0, F, env, S, g⟩ => seq S g fun x d F1 H1 S1 g1 rx q1 => by
    cases d with
    | str l =>
      obtain ⟨ex, hx⟩ := bo_str (H := H1) (.inl rx)
      refine ⟨⟨_, ex⟩, seq S1 q1 fun y e F2 H2 S2 g2 ry q2 => ?_⟩
      have q3 := got_wf q2
      cases e with
      | str m =>
        obtain ⟨ey, hy⟩ := bo_str (H := H2) (.inl ry)
        match m, ey, q3 with
        | [c], ey, q3 =>
          dsimp only [sidxD] at q3
          cases z : l.findIdx? (· == c) with
          | none => rw [z] at q3; exact q3.elim
          | some i =>
            rw [z] at q3
            exact ⟨tx l, tx [c], i, [], ex, by rw [ey], by rw [occ_tx, z]; rfl, got_ok S2.sub q3 (.int _)⟩
        | [], _, q3 => exact q3.elim
        | _ :: _ :: _, _, q3 => exact q3.elim
      | _ => exact q3.elim
    | _ => exact q1.elim
theorem e_sfnd {apos : Pos} (ha : PEv ct k X W a ea) (hb : PEv ct k X W b eb) (hs : starEach [b] X.env = [(false, eval b X.env)] := by rfl) (hbase : attributeBase a "find" X.env (eval a X.env) = eval a X.env := by rfl) (hline : (apos.endLine == pos.line) = true := by rfl) :
    PEv ct k X W (.Call (.Attribute a "find" apos) [b] [] pos) (xM isStr sfndD ea eb) := fun C =>
  (pe_m1 PySem.F.slot_str_find PySem.F.type_str_find mt_find (ha C) (hb C) hs hbase hline).imp fun σ H Q ⟨H0, F0, F, env, S, g⟩ => seq S g fun x d F1 H1 S1 g1 rx q1 => by
    cases d with
    | str l =>
      obtain ⟨ex, hx⟩ := bo_str (H := H1) (.inl rx)
      refine ⟨⟨_, ex⟩, seq S1 q1 fun y e F2 H2 S2 g2 ry q2 => ?_⟩
      have q3 := got_wf q2
      cases e with
      | str m =>
        obtain ⟨ey, hy⟩ := bo_str (H := H2) (.inl ry)
        match m, ey, q3 with
        | [c], ey, q3 =>
          dsimp only [sfndD] at q3
          refine ⟨tx l, tx [c], ex, by rw [ey], ?_⟩
          have e2 : Txt.find (tx l) (tx [c]) = (match l.findIdx? (· == c) with | some i => ((i : Nat) : Int) | none => -1) := by
            unfold Txt.find
            rw [occ_tx]
            cases l.findIdx? (· == c) <;> rfl
          rw [e2]
          exact got_ok S2.sub q3 (.int _)
        | [], _, q3 => exact q3.elim
        | _ :: _ :: _, _, q3 => exact q3.elim
      | _ => exact q3.elim
    | _ => exact q1.elim
/-! ### list(xs) -/
theorem ud_lis {K : PySem.W.Frag} : UnD K (fun xs H Q => ∃ p ys, xs = [.ref p] ∧ (SqL K H p ys ∨ SqT K H p ys) ∧ ∀ l, H l = none → Q (.ref l) (upd H l (.lst ys))) lisT := by
  intro F H x d Q s rx g
  cases d with
  | lst ds =>
    obtain ⟨p, vs, ex, hq, z, rv⟩ := bo_lst s rx
    subst ex
    exact ⟨p, vs, rfl, .inl (.inl hq), fun l nl => got_new s g nl fun ff => .lst upd_same z (rv.mono ff)⟩
  | tup ds =>
    obtain ⟨p, vs, ex, hq, z, rv, Rx⟩ := bo_tup s rx
    subst ex
    exact ⟨p, vs, rfl, .inr hq, fun l nl => got_new s g nl fun ff => .lst upd_same z (rv.mono ff)⟩
  | _ => exact g.elim
theorem e_tolst {p : Pos} (hm : X.mg "list" = none) (ha : PBv ct k X W a ea) (hg : Gl X "list" := by rfl) (he : starEach [a] X.env = (false, eval a X.env) :: starEach [] X.env := by rfl) : PEv ct k X W (.Call (.Name "list" p) [a] [] pos) (xU lisT ea) := e_bty ud_lis (fun _ => call_list_of) hm (by decide +kernel) ha hg (by decide) (by decide) he
/-! ### d == {} -/
def rEqZ (K : PySem.W.Frag) : R2 := fun x y H Q => ∃ a b ks, x = .ref a ∧ y = .ref b ∧ Rd H a (.dK ks) ∧ Rd H b (.dK []) ∧ Q (.bl ks.isEmpty) H
theorem op_eqZ (hu : X.A.units < cLine) : OpR X (compareOp .Eq) (rEqZ X.K) := by
  intro pins s σ H x y v u Q I rx ry h
  obtain ⟨a, b, ks, rfl, rfl, ha, hb, q⟩ := h
  cases (show v = Value.ref a from rx)
  cases (show u = Value.ref b from ry)
  obtain ⟨_, ya, va, ra, da⟩ := ha.ok I.hok
  obtain ⟨_, yb, vb, rb, db⟩ := hb.ok I.hok
  have el : va.length = ks.length := ra.length.symm
  have eb : vb.length = 0 := rb.length.symm
  refine PySem.W.rcP_dicts (knd := mixKind X.prog X.w) (r := true) ya yb da db hu (fun hl => ?_) _ _ ?_
  · have : va = [] := List.length_eq_zero_iff.mp (hl.trans eb)
    subst this
    exact .nil
  · have e : (va.length == vb.length && true) = ks.isEmpty := by
      rw [el, eb]
      cases ks <;> rfl
    rw [e]
    exact ⟨.bl _, H, I, rfl, q⟩
theorem od_eqZ {K : PySem.W.Frag} : OpD K (rEqZ K) eqZ := by
  intro F H x y d e Q s rx ry g
  cases d with
  | dic ds =>
    cases e with
    | dic es =>
      cases es with
      | nil =>
        obtain ⟨a, ks, ex, h1, z1, r1⟩ := bo_dic s rx
        obtain ⟨b, ls, ey, h2, z2, r2⟩ := bo_dic s ry
        cases r2
        refine ⟨a, b, ks, ex, ey, h1, h2, ?_⟩
        have : ks.isEmpty = ds.isEmpty := by cases r1 <;> rfl
        rw [this]
        exact got_ok s g (.bl _)
      | cons _ _ => exact g.elim
    | _ => exact g.elim
  | _ => exact g.elim
theorem e_eqZ (ha : PBv ct k X W a ea) (hb : PBv ct k X W b eb) : PEv ct k X W (.Compare a [.Eq] [b] pos) (xOp eqZ ea eb) := fun C => e_cmp od_eqZ (op_eqZ (Nat.lt_of_succ_lt (hu_of C.room))) ha hb (nomark _) C
theorem t_eqZ (ha : PBv ct k X W a ea) (hb : PBv ct k X W b eb) : PTv ct k X W (.Compare a [.Eq] [b] pos) (tVal (xOp eqZ ea eb)) := fun C => t_cmp od_eqZ (op_eqZ (Nat.lt_of_succ_lt (hu_of C.room))) ha hb (nomark _) C
end
end Pv

namespace Pv
variable [HasW]
open PySem PySem.Spec L2
/-! ### a module's tuple of texts -/
theorem rpa_strs {K : PySem.W.Frag} {F : Hp} : ∀ (ls : List (List Nat)), (∀ l ∈ ls, okS l) → RpA K F (ls.map fun l => V.str (tx l)) (ls.map D.str)
  | [], _ => .nil
  | l :: ls, h => .cons (.str l (h l List.mem_cons_self)) (rpa_strs ls fun m hm => h m (List.mem_cons_of_mem _ hm))
theorem gtup {K : PySem.W.Frag} {x : Str} (ls : List (List Nat)) (h : He.tupB K x (ls.map fun l => He.Dv.str (tx l)) = true) (hz : ∀ l ∈ ls, okS l) (hn : ls.length ≤ LIM) (F : Hp) : Rp K F (.ref (He.ga K x)) (.tup (ls.map D.str)) := by
  have q := He.tupB_ok h E0h
  rw [List.map_map] at q
  exact .tup (.inr q) (by simpa using hn) (rpa_strs ls hz)
theorem addL_inv {d e : D} {l : List D} (h : addD d e = .ok (.lst l)) : ∃ a b, d = .lst a ∧ e = .lst b ∧ a.length + b.length ≤ LIM ∧ l = a ++ b := by
  cases d <;> cases e <;> first
    | (cases h; done)
    | (dsimp only [addD] at h; split at h <;> first | (cases h; exact ⟨_, _, rfl, rfl, by assumption, rfl⟩) | cases h)
section
variable {ct : String → Addr} {k : Nat} {X : Cx} {W : WS} {e a b c : Expr} {es xs : List Expr} {pos : Pos} {ev ea eb ec : Xv} {ov : Ov} {aa : Av}
theorem e_gtup {x : Str} {d : D} (hm : X.mg x = some (.ref (He.ga X.K x))) (hd : ∀ F, Rp X.K F (.ref (He.ga X.K x)) d) (hg : Gl X x := by rfl) (hdb : (x == ("__debug__" : Str)) = false := by decide) : PEv ct k X W (.Name x pos) (xC d) :=
  e_glob hm (v := .ref (He.ga X.K x)) rfl hd hg hdb
/-! ### list(range(n)) -/
theorem rgV_rp {K : PySem.W.Frag} {F : Hp} (j : Int) : RpA K F (rgV 0 j) (rngD 0 j.toNat) := by
  unfold rgV rngD
  rw [Int.sub_zero]
  generalize List.range j.toNat = l
  induction l with
  | nil => exact .nil
  | cons i l ih => exact .cons (.int _) ih
theorem e_lrng {p p2 q : Pos} (hm : X.mg "list" = none) (hm2 : X.mg "range" = none) (ha : PEv ct k X W a ea) (hg : Gl X "list" := by rfl) (hg2 : Gl X "range" := by rfl) (na : starEach [a] X.env = (false, eval a X.env) :: starEach [] X.env := by rfl)
    (nb : starEach [.Call (.Name "range" p2) [a] [] q] X.env = (false, eval (.Call (.Name "range" p2) [a] [] q) X.env) :: starEach [] X.env := by rfl) : PEv ct k X W (.Call (.Name "list" p) [.Call (.Name "range" p2) [a] [] q] [] pos) (xU lrnD ea) := fun C =>
  (pe_listRg C.calm hg hm (prg_1 hg2 hm2 (ha C) na) nb).imp fun σ H Q ⟨H0, F0, F, env, S, g⟩ => seq S g fun x d F1 H1 S1 g1 rx q1 => by
    have q3 := got_wf q1
    cases d with
    | int j =>
      have ex := bo_int (H := H1) (.inl rx)
      subst ex
      dsimp only [lrnD, rng1] at q3
      split at q3
      · rename_i z
        have hl : (rgV 0 j).length ≤ LIM := by rw [rgV_length, Int.sub_zero]; exact z.2.2
        refine ⟨j, rfl, ⟨by decide, by decide, z.1, z.2.1, ?_⟩, fun l nl => got_new S1.sub q3 nl fun ff => .lst upd_same hl (rgV_rp j)⟩
        rw [Int.sub_zero]
        exact z.2.2
      · exact q3.elim
    | _ => exact q3.elim
/-! ### x = a + b, a new list of one's own -/
theorem s_addO (i : Nat) {x : Str} {p q : Pos} (ha : PBv ct k X W a ea) (hb : PBv ct k X W b eb) (hi : X.N[i]? = some x := by rfl) (hx : Loc X.env.scope x := by first | exact Or.inl rfl | exact Or.inr rfl) (hf : X.fn x = true ∨ X.env.scope.names.lookup x = some .local := by first | exact .inl rfl | exact .inr rfl)
    (hs : swapsWith (.BinOp a .Add b q) (some (.Name x p)) pos.line X.env = pure false := by rfl) : PSv ct k X W (.Assign [.Name x p] (.BinOp a .Add b q) pos) (sAddO i ea eb) := fun C =>
  (ps_set C.nd hi hx (pe_op op_catR (ha C) (hb C)) hs hf).imp fun Dn σ H ⟨H0, F0, F, env, S, g⟩ => sseq S g fun u d F1 H1 S1 g1 ru q1 => sseq S1 q1 fun v e F2 H2 S2 g2 rv q2 => by
    cases h : addD d e with
    | ok r =>
      rw [h] at q2
      cases r with
      | lst l =>
        obtain ⟨ds, es, rfl, rfl, z, rfl⟩ := addL_inv h
        obtain ⟨l, vs, eu, hl, zl, rl⟩ := bo_lst S2.sub (ru.grow g2)
        obtain ⟨m, ws, ev, hm, zm, rm⟩ := bo_lst S2.sub rv
        have zz : vs.length + ws.length ≤ LIM := by rw [rl.length, rm.length]; exact z
        refine ⟨l, m, vs, ws, eu, ev, hl, hm, by rw [lim]; exact zz, fun p' np => ?_⟩
        have g3 := Gd.drop (o := .lst (vs ++ ws)) S2.sub np
        refine q2 _ F2 _ (own_done (is := [i]) (vs := [.ref p']) (ss := [.ow (.lst (ds ++ es))]) S2 g3 (.ow np ?_ (.lst upd_same (by simpa using zz) (rl.append rm)) (fun j d' e => by simp at e) .nil) rfl)
        cases y : F2 p' with
        | none => rfl
        | some u =>
          rcases S2.sub p' u y with q | ⟨o', q⟩
          · rw [np] at q; cases q
          · rw [np] at q; cases q
      | _ => exact q2.elim
    | exc c => rw [h] at q2; exact q2.elim
    | bad => rw [h] at q2; exact q2.elim
/-! ### xs.count(text), a list of texts -/
def eqs (k : Str) (v : Value) : Bool := match v with
  | .str x _ => x == k
  | _ => false
def rCntS (K : PySem.W.Frag) : V → List V → Hp → VK → Prop := fun x xs H Q => ∃ (p : Addr) (ns : List Str) (k : Str), x = .ref p ∧ xs = [.str k] ∧ Rd H p (.lst (ns.map V.str)) ∧ Q (.int ((ns.filter (· == k)).length : Nat)) H
theorem eqs_count {k : Str} : ∀ {us : List Value} {ns : List Str}, Vals (ns.map V.str) us → us.countP (eqs k) = (ns.filter (· == k)).length
  | [], [], _ => rfl
  | [], _ :: _, h => by cases h
  | _ :: _, [], h => by cases h
  | u :: us, n :: ns, h => by
    rw [List.map_cons] at h
    cases h with
    | cons r t =>
      obtain ⟨tk, rfl⟩ := r
      rw [List.countP_cons, List.filter_cons, eqs_count t]
      show _ + (if (n == k) = true then 1 else 0) = _
      by_cases q : (n == k) = true
      · rw [if_pos q, if_pos q]; rfl
      · rw [if_neg q, if_neg q]; rfl
theorem vals_strs : ∀ {us : List Value} {ns : List Str}, Vals (ns.map V.str) us → ∀ y ∈ us, ∃ z t, y = .str z t
  | [], [], _, y, hy => by simp at hy
  | [], _ :: _, h, _, _ => by cases h
  | _ :: _, [], h, _, _ => by cases h
  | u :: us, n :: ns, h, y, hy => by
    rw [List.map_cons] at h
    cases h with
    | cons r t =>
      rcases List.mem_cons.mp hy with e | e
      · obtain ⟨tk, e2⟩ := r
        exact ⟨n, tk, e.trans e2⟩
      · exact vals_strs t y e
theorem mt_scount : MtR X "list.count" (rCntS X.K) := by
  intro pins s σ H x xs v us Q I rx rxs h
  obtain ⟨p, ns, k, rfl, rfl, hs, q⟩ := h
  cases rx
  obtain ⟨u, rfl, ru⟩ := rxs.one
  obtain ⟨t, rfl⟩ := ru
  obtain ⟨its, rv, ⟨⟨cls, dd, data, sl⟩, n, ho, hc, hdn, hd⟩, hlen⟩ := I.list (.inl hs)
  simp only at hc hd
  subst hc hd
  refine call_meets PySem.F.slot_list_count ⟨_, ho, rfl⟩ PySem.F.entry_list_count (PySem.F.args_list_count_2 _ _)
    (SeqAt.list_countAt p its.toArray n dd sl (.str k t) (eqs k)) ⟨ho, fun y hy => ?_, ?_⟩
  · obtain ⟨z, t', rfl⟩ := vals_strs rv y (by simpa using hy)
    exact SeqAt.EqAt.str_str z t' k t
  · have ec : its.toArray.toList.countP (eqs k) = (ns.filter (· == k)).length := eqs_count rv
    refine ⟨.int ((ns.filter (· == k)).length : Nat), H, I.tok _, ⟨s.toks, ?_⟩, q⟩
    show Value.int ((its.toArray.toList.countP (eqs k) : Nat) : Int) s.toks = Value.int (((ns.filter (· == k)).length : Nat) : Int) s.toks
    rw [ec]
theorem asSs_all {ds : List D} (h : ds.all isStr = true) : ∃ ls, asSs ds = some ls ∧ ds = ls.map D.str := by
  induction ds with
  | nil => exact ⟨[], rfl, rfl⟩
  | cons d ds ih =>
    rw [List.all_cons, Bool.and_eq_true] at h
    obtain ⟨ls, e1, e2⟩ := ih h.2
    cases d with
    | str l => exact ⟨l :: ls, by simp [asSs, e1], by rw [e2]; rfl⟩
    | _ => exact absurd h.1 (by simp [isStr])
theorem cnt_strs (ls : List (List Nat)) (m : List Nat) : ((ls.map tx).filter (· == tx m)).length = ((ls.map D.str).filter fun d => deq d (.str m)).length := by
  induction ls with
  | nil => rfl
  | cons l ls ih =>
    rw [List.map_cons, List.map_cons, List.filter_cons, List.filter_cons]
    by_cases e : l = m
    · subst e
      rw [if_pos (by simp), if_pos (by simp [deq]), List.length_cons, List.length_cons, ih]
    · rw [if_neg (by simp only [beq_iff_eq]; exact fun q => e (tx_inj q)), if_neg (by simp [deq, e]), ih]
theorem e_lcnt {apos : Pos} (ha : PBv ct k X W a ea) (hb : PEv ct k X W b eb) (hst : starEach [b] X.env = (false, eval b X.env) :: starEach [] X.env := by rfl)
    (hbase : attributeBase a "count" X.env (eval a X.env) = eval a X.env := by rfl)
    (hfew : ((backTo pos (starEach [b] X.env)).all (fun x => !x.1) && (backToKw pos (keywordEach [] X.env)).all (fun x => x.1.isSome) && decide (([b] : List Expr).length + ([] : List Keyword).length + (if ([] : List Keyword).isEmpty then 0 else 1) < 30)) = true := by rfl)
    (hline : (apos.endLine == pos.line) = true := by rfl) (hplain : (backTo pos (starEach [] X.env)).any (·.1) = false := by rfl) : PEv ct k X W (.Call (.Attribute a "count" apos) [b] [] pos) (xM isLst cntD ea eb) := fun C =>
  (pe_bm PySem.F.plainAttrs_list PySem.F.slot_list_count PySem.F.type_list_count mt_scount (ha C) (pa_cons (hb C) pa_nil hst) hbase hfew hline hst hplain).imp fun σ H Q ⟨H0, F0, F, env, S, g⟩ => seq S g fun x d F1 H1 S1 g1 rx q1 => by
    cases d with
    | lst ds =>
      obtain ⟨p, vs, ex, hq, z, rv⟩ := bo_lst S1.sub rx
      subst ex
      refine ⟨.inl ⟨rfl, _, .inl hq⟩, seq S1 q1 fun y e F2 H2 S2 g2 ry q2 => ?_⟩
      have q3 := got_wf q2
      cases e with
      | str m =>
        obtain ⟨ey, hy⟩ := bo_str (H := H2) (.inl ry)
        dsimp only [cntD] at q3
        split at q3
        · rename_i hall
          obtain ⟨ls, e1, e2⟩ := asSs_all hall
          obtain ⟨p', vs', ex', hq', z', rv'⟩ := bo_lst S2.sub (rx.grow g2)
          cases ex'
          obtain ⟨h1, h2, h3⟩ := asSs_rp rv' e1
          refine ⟨p, ls.map tx, tx m, rfl, by rw [ey], by rw [← h1]; exact hq', ?_⟩
          rw [cnt_strs, ← e2]
          exact got_ok S2.sub q3 (.int _)
        · exact q3.elim
      | _ => exact q3.elim
    | _ => exact q1.elim
/-! ### a dict display among several values -/
theorem l_dicK {q : Pos} {keys : List (Option Expr)} {values : List Expr} {prs : List (Xv × Xv)} (h : PDv ct k X W q keys values prs) (hr : PLv ct k X W es ov) (hp : prs.length ≤ 15 := by decide) (hall : keys.all (·.isSome) = true := by rfl) (hl : keys.length = values.length := by rfl) (h0 : keys ≠ [] := by simp) (h15 : keys.length ≤ 15 := by decide)
    (hs : starEach (.Dict keys values q :: es) X.env = (false, eval (.Dict keys values q) X.env) :: starEach es X.env := by rfl) : PLv ct k X W (.Dict keys values q :: es) (oDK prs ov) := fun C =>
  (pa_cons (pe_disp (h C) hall hl h0 h15) (hr C) hs).imp fun σ H Q ⟨H0, F0, F, env, S, g⟩ => by
    unfold oDK at g
    cases z : prD prs env with
    | ok ps =>
      rw [z] at g
      refine disp_read z (by rw [prD_len z]; exact hp) S fun p kvs F' H' np gd f1 hp1 hk rr => ?_
      have gd2 : Gd F H F' (upd H' p (.dK kvs)) := by
        refine ⟨gd.ff, fun b o hb => ?_, fun b u hb => ?_, gd.nw⟩
        · have ne : b ≠ p := fun q => by subst q; rw [np] at hb; cases hb
          rw [upd_ne ne]; exact gd.hh b o hb
        · have ne : b ≠ p := fun q => by subst q; rw [f1] at hb; cases hb
          rcases gd.sub b u hb with y | ⟨o, y⟩
          · exact .inl (by rw [upd_ne ne]; exact y)
          · exact .inr ⟨o, by rw [upd_ne ne]; exact y⟩
      refine ⟨H0, F0, F', env, S.grow gd2, ?_⟩
      have g' : GotO X.K W F H σ Q ((ov env).bind fun ss => .ok (.ow (.dic (mergeD [] ps)) :: ss)) := g
      cases w : ov env with
      | ok ss =>
        rw [w] at g'
        intro vs F3 H3 g3 r3
        have nf : F3 p = none := by
          cases y : F3 p with
          | none => rfl
          | some u =>
            rcases g3.nw p (by rw [y]; simp) with q | q
            · exact absurd f1 q
            · rw [upd_same] at q; cases q
        refine g' _ _ _ (gd2.trans g3) (.ow np nf (.dic (g3.hh _ _ upd_same) (Nat.le_trans hk (by decide)) (rr.mono g3.ff)) (fun j d' e1 e2 => ?_) (r3.start gd2.hh))
        have := r3.fresh j d' e1 p e2
        rw [upd_same] at this
        cases this
      | exc c => rw [w] at g'; exact fun F' H' gd => g' F' H' (gd2.trans gd)
      | bad => rw [w] at g'; exact g'
    | exc c => rw [z] at g; exact g.elim
    | bad => rw [z] at g; exact g.elim
end
end Pv

namespace Pv
variable [HasW]
open PySem PySem.Spec L2
/-! ### min(xs) of a list of data -/
section
variable {prog : Program} {w : World} {A : Around} {E : Value → Shared → Prop} {s : Shared}
open PySem.W in
theorem min_list_at {l : Addr} {vs : Array Value} {xs : List PyData} {as : List Addr} {Q : Value → Shared → Prop} (hh : A.handled = none) (hl : s.heap.IsList l vs) (hr : ReadsAll s.heap vs.toList xs as) (ha : AlikeAll xs) (hu : A.units + 1 + PyData.depthAll xs < cLine) (hne : 0 < vs.size)
    (h : ∀ v h' tk, vs[argBest (fun i j => dataLt (xs.getD i .none) (xs.getD j .none)) (vs.size - 1)]? = some v → (∀ b o, s.heap.get? b = some o → h'.get? b = some o) → Q v { s with heap := h', toks := tk }) :
    wpAny (model prog w) A (call (.builtin "min") [.ref l]) Q E s := by
  refine call_min_walkH (iter_listW (A := A.in1) hh hl fun s₂ e W st hfp hw hk => ?_)
  refine ⟨_, _, _, _, _, _, _, s.heap, _, rfl, W, st, hfp, hne, hw, hk, cmpIn_lt (A := A.in1) hr ha (by show A.units + 1 + _ < _; exact hu), fun v s' hP m => ?_⟩
  obtain ⟨h', tk, rfl, hk'⟩ := moved_old e rfl m
  exact h v h' tk hP hk'
end
def rMinT (K : PySem.W.Frag) : List V → Hp → VK → Prop := fun vs H Q => ∃ (a : Addr) (xs : List V) (ds : List D), vs = [V.ref a] ∧ SqL K H a xs ∧ DpAll K H xs (ds.map toP) ∧ PySem.W.AlikeAll (ds.map toP) ∧
  PyData.depthAll (ds.map toP) ≤ 60 ∧ 0 < xs.length ∧ ∀ x, xs[argBest (fun i j => PySem.W.dataLt ((ds.map toP).getD i .none) ((ds.map toP).getD j .none)) (xs.length - 1)]? = some x → Q x H
section
variable {X : Cx} {k : Nat}
theorem vals_at : ∀ {xs : List V} {us : List Value} (_ : Vals xs us) (j : Nat) (u : Value), us[j]? = some u → ∃ x, xs[j]? = some x ∧ RelV x u
  | _, _, .nil, j, u, h => by simp at h
  | _, _, .cons r t, 0, u, h => by
    simp at h
    subst h
    exact ⟨_, rfl, r⟩
  | _, _, .cons r t, j + 1, u, h => by
    obtain ⟨x, h1, h2⟩ := vals_at t j u (by simpa using h)
    exact ⟨x, by simpa using h1, h2⟩
theorem cr_minT (hc : X.calm = true) (hr : Room k X.A) : CallR X (.builtin "min") (rMinT X.K) := by
  intro pins s σ H xs us Q I r q
  obtain ⟨a, vs, ds, ex, hs, hdp, hal, hdep, hne, q⟩ := q
  subst ex
  obtain ⟨u, rfl, ru⟩ := r.one
  cases ru
  obtain ⟨its, rv, hl, hz⟩ := I.list hs
  obtain ⟨as, hrd⟩ := Dp.readsAll I _ _ its hdp rv
  have hn : vs.length = its.length := rv.length
  have hl' : s.heap.IsList a its.toArray := by
    obtain ⟨o, n, e, h1, h2, h3⟩ := hl
    exact ⟨o, e, h1, n, h3⟩
  refine min_list_at (I.ok.hd hc) hl' (by simpa using hrd) hal (by have := hr.units; omega) (by rw [List.size_toArray]; omega) fun v h' tk hv hk => ?_
  rw [List.size_toArray, List.getElem?_toArray, ← hn] at hv
  obtain ⟨x, hx, rx⟩ := vals_at rv _ v hv
  exact ⟨x, H, I.kept hk, rx, q x hx⟩
end
theorem argB_best {ds : List D} (hl : ∀ i j, i < ds.length → j < ds.length → PySem.W.dataLt ((ds.map toP).getD i .none) ((ds.map toP).getD j .none) = dlt (ds.getD i .non) (ds.getD j .non)) : ∀ k, k < ds.length → argBest (fun i j => PySem.W.dataLt ((ds.map toP).getD i .none) ((ds.map toP).getD j .none)) k = argB ds k ∧ argB ds k < ds.length
  | 0, h => ⟨rfl, h⟩
  | k + 1, h => by
    obtain ⟨h1, h2⟩ := argB_best hl k (by omega)
    unfold argBest argB
    rw [h1, hl (k + 1) (argB ds k) h h2]
    split
    · exact ⟨rfl, h⟩
    · exact ⟨rfl, h2⟩
theorem depthAll_le : ∀ {ds : List D}, (∀ d ∈ ds, (toP d).depth ≤ 60) → PyData.depthAll (ds.map toP) ≤ 60
  | [], _ => by simp [PyData.depthAll]
  | d :: ds, h => by
    have ih := depthAll_le fun x hx => h x (List.mem_cons_of_mem _ hx)
    have h0 := h d List.mem_cons_self
    rw [List.map_cons, PyData.depthAll]
    omega
theorem rpA_at {K : PySem.W.Frag} {F : Hp} : ∀ {vs : List V} {ds : List D}, RpA K F vs ds → ∀ (j : Nat) (x : V), vs[j]? = some x → Rp K F x (ds.getD j .non)
  | _, _, .nil, j, x, h => by simp at h
  | _, _, .cons r t, 0, x, h => by
    simp at h
    subst h
    exact r
  | _, _, .cons r t, j + 1, x, h => by
    have := rpA_at t j x (by simpa using h)
    simpa using this
section
variable {K : PySem.W.Frag}
theorem ud_minT : UnD K (rMinT K) minT := by
  intro F H x d Q s rx g
  cases d with
  | lst ds =>
    dsimp only [minT] at g
    split at g
    · rename_i z
      obtain ⟨z, zne⟩ := z
      unfold srtOk at z
      simp only [Bool.and_eq_true, decide_eq_true_eq] at z
      obtain ⟨⟨⟨z1, z2⟩, z3⟩, z4⟩ := z
      obtain ⟨p, vs, ex, hq, zl, rv⟩ := bo_lst s rx
      subst ex
      obtain ⟨dp, cl⟩ := rpA_dp s rv z1
      rw [toPs_map] at dp
      have hnon : ∀ b ∈ ds, isNon b = false := by
        intro b hb
        rw [Bool.or_eq_true] at z4
        rcases z4 with z4 | z4
        · have := List.all_eq_true.mp z4 b hb
          cases b <;> first | rfl | (simp at this; done)
        · have := List.all_eq_true.mp z4 b hb
          cases b <;> first | rfl | (simp at this; done)
      have hal : PySem.W.AlikeAll (ds.map toP) := by
        constructor
        · intro a ha b hb
          obtain ⟨a', ha', rfl⟩ := List.mem_map.mp ha
          obtain ⟨b', hb', rfl⟩ := List.mem_map.mp hb
          exact toP_alike a' b' (alkAll_mem z2 ha' hb') (plains_mem z1 _ ha') (plains_mem z1 _ hb')
        · intro a ha
          obtain ⟨a', ha', rfl⟩ := List.mem_map.mp ha
          have h1 := hnon a' ha'
          have h2 := plains_mem z1 _ ha'
          cases a' <;> first | (simp [plain] at h2; done) | (simp [isNon] at h1; done) | (intro q; simp [toP] at q; done)
      have hl : ∀ i j, i < ds.length → j < ds.length → PySem.W.dataLt ((ds.map toP).getD i .none) ((ds.map toP).getD j .none) = dlt (ds.getD i .non) (ds.getD j .non) := by
        intro i j hi hj
        have ei : (ds.map toP).getD i .none = toP ds[i] := by simp [List.getD_eq_getElem?_getD, hi]
        have ej : (ds.map toP).getD j .none = toP ds[j] := by simp [List.getD_eq_getElem?_getD, hj]
        have fi : ds.getD i .non = ds[i] := by simp [List.getD_eq_getElem?_getD, hi]
        have fj : ds.getD j .non = ds[j] := by simp [List.getD_eq_getElem?_getD, hj]
        rw [ei, ej, fi, fj]
        have mi := List.getElem_mem hi
        have mj := List.getElem_mem hj
        exact toP_lt _ _ (alkAll_mem z2 mi mj) (plains_mem z1 _ mi) (plains_mem z1 _ mj) (hnon _ mi)
      have hpos : 0 < ds.length := by
        cases ds with
        | nil => simp at zne
        | cons => simp
      have hvl : vs.length = ds.length := rv.length
      refine ⟨p, vs, ds, rfl, .inl hq, dp, hal, depthAll_le fun d hd => by rw [toP_dep]; exact Nat.le_trans (deps_mem hd) z3, by omega, fun x hx => ?_⟩
      rw [hvl, (argB_best hl (ds.length - 1) (by omega)).1] at hx
      exact got_ok s g (rpA_at rv _ x hx)
    · exact g.elim
  | _ => exact g.elim
end
section
variable {ct : String → Addr} {k : Nat} {X : Cx} {W : WS} {a : Expr} {pos : Pos} {ea : Xv}
theorem e_minT {p : Pos} (hm : X.mg "min" = none) (ha : PBv ct k X W a ea) (hg : Gl X "min" := by rfl) (he : starEach [a] X.env = (false, eval a X.env) :: starEach [] X.env := by rfl) : PEv ct k X W (.Call (.Name "min" p) [a] [] pos) (xU minT ea) := fun C =>
  e_blt ud_minT (fun h => cr_minT h C.room) hm (by decide +kernel) ha hg (by decide) (by decide) he C
end
end Pv

namespace Pv
variable [HasW]
open PySem PySem.Spec L2 PySem.Froz
/-! ### len(set(xs)), xs a list of texts -/
section
variable {ct : String → Addr} {k : Nat} {X : Cx} {W : WS} {e a b c : Expr} {es : List Expr} {pos : Pos} {ev ea eb ec : Xv}
theorem e_lset {p p2 q : Pos} (hm : X.mg "len" = none) (hm2 : X.mg "set" = none) (ha : PBv ct k X W a ea) (hg : Gl X "len" := by rfl) (hg2 : Gl X "set" := by rfl) (na : starEach [a] X.env = (false, eval a X.env) :: starEach [] X.env := by rfl) :
    PEv ct k X W (.Call (.Name "len" p) [.Call (.Name "set" p2) [a] [] q] [] pos) (xU lsetD ea) := fun C => by
  have h0 : PE X (.Call (.Name "len" p) [.Call (.Name "set" p2) [a] [] q] [] pos) (fun σ H Q => rd X.K (RBo X.K) W ea σ H fun x H1 => ∃ (l : Addr) (ls : List (List Nat)), x = .ref l ∧ SqL X.K H1 l ((ls.map tx).map V.str) ∧ ls.length ≤ 4000 ∧ Q (.int ((distN [] ls).length : Nat)) H1) := by
    refine ⟨fun pins s σ H Q I h => ?_⟩
    refine PyProof.Rows.Call_ (ld_blt I hg hm PySem.boot_len ?_)
    refine PyProof.Rows.callWith_builtin1 (PyProof.Rows.args_cons ?_ rfl) rfl rfl
    refine PyProof.Rows.Call_ (ld_blt I hg2 hm2 (show bootBuiltins "set" = some (.type "set") by decide +kernel) ?_)
    refine PyProof.Rows.callWith_type1 (PyProof.Rows.args_cons (thn ((ha C).run pins s σ H _ I h) fun v s1 ⟨x, H1, I1, r1, q1⟩ => PyProof.Rows.args_nil ?_) na) na rfl
    obtain ⟨l, ls, rfl, hq, hn, q1⟩ := q1
    cases r1
    obtain ⟨its, rv, hl, hz⟩ := I1.list hq
    refine call_set_tx (xs := ls.map tx) (I1.ok.hd C.calm) hl.isList (by simpa using strsAre_of rv) (by rw [List.length_map]; unfold scanBound; omega) fun h' tk hS hk => ?_
    refine PyProof.Rows.args_nil ?_
    have I2 : Inv X pins σ H1 { s1 with heap := h', toks := tk } := I1.kept hk
    have hS' : TxS X.prog X.w h' s1.heap.objs.size ((distN [] ls).map tx) := by
      have := dist_tx ls []
      rw [← this]; exact hS
    have hdl := distN_len ls []
    simp only [List.length_nil, Nat.zero_add] at hdl
    obtain ⟨D, hD, ok, _⟩ := hS'
    have hsz : D.1.size = (distN [] ls).length := by rw [ok.sz, List.length_map]
    refine call_len_set (s := { s1 with heap := h', toks := tk }) (o := sObj "set" D) hD ⟨rfl, rfl, rfl⟩ rfl ok.fit (by omega) ?_
    refine ⟨.int ((distN [] ls).length : Nat), H1, I2.tok _, ⟨tk + 1, ?_⟩, q1⟩
    show Value.int ((D.1.size : Nat) : Int) (tk + 1) = Value.int (((distN [] ls).length : Nat) : Int) (tk + 1)
    rw [hsz]
  refine h0.imp fun σ H Q ⟨H0, F0, F, env, S, g⟩ => seq S g fun x d F1 H1 S1 g1 rx q1 => ?_
  have q3 := got_wf q1
  cases d with
  | lst ds =>
    obtain ⟨p, vs, ex, hq, zl, rv⟩ := bo_lst S1.sub rx
    subst ex
    dsimp only [lsetD] at q3
    cases z : asSs ds with
    | none => rw [z] at q3; exact q3.elim
    | some ls =>
      rw [z] at q3
      dsimp only at q3
      obtain ⟨h1, h2, h3⟩ := asSs_rp rv z
      split at q3
      · rename_i hn
        exact ⟨p, ls, rfl, .inl (by rw [← h1]; exact hq), hn, got_ok S1.sub q3 (.int _)⟩
      · exact q3.elim
  | _ => exact q3.elim
end
end Pv

namespace Pv
/-- sorted(set(xs)), xs a list of tuples of ints and texts -/
def isAt : D → Bool
  | .int _ => true
  | .str _ => true
  | _ => false
def tupA : D → Bool
  | .tup (e :: es) => (e :: es).all isAt
  | _ => false
def distD (acc : List D) : List D → List D
  | [] => acc
  | x :: xs => distD (if acc.any (fun y => deq y x) = true then acc else x :: acc) xs
def ssetT : D → Res D
  | .lst ds => if ds.all tupA = true ∧ alkAll ds = true ∧ ds.length ≤ 4000 then .ok (.lst ((distD [] ds).mergeSort dle)) else .bad
  | _ => .bad
/-- max(a, b), min(a, b) -/
def max2D : D → D → Res D
  | .int i, .int j => .ok (.int (if j > i then j else i))
  | .str a, .str b => .ok (.str (if a < b then b else a))
  | _, _ => .bad
def min2D : D → D → Res D
  | .int i, .int j => .ok (.int (if j < i then j else i))
  | .str a, .str b => .ok (.str (if b < a then b else a))
  | _, _ => .bad
/-- dict(pairs), dict(d) -/
def asPr : List D → Option (List (List Nat × D))
  | [] => some []
  | .tup [.str k, v] :: r => (asPr r).map ((k, v) :: ·)
  | _ => none
def dctD : D → Res D
  | .lst ds => match asPr ds with
    | some ps => .ok (.dic (mergeD [] ps))
    | none => .bad
  | _ => .bad
end Pv

namespace Pv
variable [HasW]
open PySem PySem.Spec L2
/-! ### max(a, b), min(a, b) -/
section
variable {prog : Program} {w : World} {A : Around} {E : Value → Shared → Prop} {s : Shared}
theorem two_walk {a b : Value} {bt : Nat → Nat → Bool} {op : CmpOp} (hc : CmpOf prog w A.in1 op (fun i v => (#[a, b] : Array Value)[i]? = some v) bt) (hh : A.handled = none) {Q : Value → Shared → Prop}
    (h : ∀ h' tk, (∀ c o, s.heap.get? c = some o → h'.get? c = some o) → Q (if bt 1 0 = true then b else a) { s with heap := h', toks := tk }) :
    wpAny (model prog w) A.in1 (pyIter (.ref s.heap.objs.size)) (fun it s₂ => ∃ I fp wr n P St bt, it = .ref I ∧ Walks prog w A.in1 I fp wr n P St ∧ St 0 s₂.heap ∧ (∀ b ∈ fp, b < s₂.heap.objs.size) ∧ 0 < n ∧ CmpOf prog w A.in1 op P bt ∧
      ∀ v h' tk, P (argBest bt (n - 1)) v → (∀ b o, b ∉ wr → s₂.heap.get? b = some o → h'.get? b = some o) → Q v { s₂ with heap := h', toks := tk }) E
      { s with heap := s.heap.push { cls := .type "tuple", data := .seq #[a, b] } } := by
  have hT : (s.heap.push { cls := .type "tuple", data := .seq #[a, b] }).IsTuple s.heap.objs.size #[a, b] := ⟨_, Heap.get?_push_size _ rfl, rfl, 0, rfl⟩
  have hz : (s.heap.push { cls := .type "tuple", data := .seq #[a, b] }).objs.size = s.heap.objs.size + 1 := Heap.size_push ..
  refine wpAny_pyIter_tuple hT ?_
  refine ⟨_, [_, s.heap.objs.size], [_], _, _, _, bt, rfl, Walks.tuple (A := A.in1) hh _ s.heap.objs.size (by rw [hz]; exact Nat.ne_of_lt (Nat.lt_succ_self _)) #[a, b], ⟨⟨_, Heap.get?_push_size _ rfl, rfl, rfl⟩, hT.push _⟩, fun c hcm => ?_, by simp, hc, fun v h' tk hP hk => ?_⟩
  · show c < ((s.heap.push _).push _).objs.size
    rw [Heap.size_push, hz]
    simp only [List.mem_cons, List.not_mem_nil, or_false] at hcm
    rcases hcm with q | q
    · rw [q, hz]; exact Nat.lt_succ_self _
    · rw [q]; exact Nat.lt_succ_of_lt (Nat.lt_succ_self _)
  · have kp : ∀ c o, s.heap.get? c = some o → h'.get? c = some o := fun c o e => by
      refine hk c o (fun hm => ?_) (Heap.get?_push_of_some _ (Heap.get?_push_of_some _ e))
      have := Heap.lt_size e
      rw [List.mem_singleton.mp hm, hz] at this
      exact Nat.lt_irrefl _ (Nat.lt_of_succ_lt this)
    have hv : v = if bt 1 0 = true then b else a := by
      have hP' : (#[a, b] : Array Value)[argBest bt 1]? = some v := hP
      have e1 : argBest bt 1 = if bt 1 0 = true then 1 else 0 := rfl
      rw [e1] at hP'
      split at hP' <;> rename_i z
      · rw [if_pos z]; simpa using hP'.symm
      · rw [if_neg z]; simpa using hP'.symm
    rw [hv]
    exact h h' tk kp
def at2 (x y : Str) (i : Nat) : Str := if i = 0 then x else y
theorem two_at {x y : Str} {t u : Tok} {i : Nat} {v : Value} (h : (#[Value.str x t, Value.str y u] : Array Value)[i]? = some v) : ∃ t', v = .str (at2 x y i) t' := by
  match i, h with
  | 0, h => exact ⟨t, by simpa [at2] using h.symm⟩
  | 1, h => exact ⟨u, by simpa [at2] using h.symm⟩
  | n + 2, h => simp at h
theorem max_two_txt {x y : Str} {t u : Tok} (hh : A.handled = none) {Q : Value → Shared → Prop} (h : ∀ h' tk, (∀ c o, s.heap.get? c = some o → h'.get? c = some o) → Q (if x.cps.toList < y.cps.toList then .str y u else .str x t) { s with heap := h', toks := tk }) :
    wpAny (model prog w) A (call (.builtin "max") [.str x t, .str y u]) Q E s := by
  refine call_max_two (two_walk (bt := fun i j => decide ((at2 x y j).cps.toList < (at2 x y i).cps.toList)) (fun i j vi vj s' Q' E' hi hj q => ?_) hh fun h' tk k => ?_)
  · obtain ⟨t1, rfl⟩ := two_at hi
    obtain ⟨t2, rfl⟩ := two_at hj
    exact (PySem.P.gt_str q : wpAny (model prog w) A.in1 (compareOp .Gt _ _) Q' E' s')
  · have := h h' tk k
    simpa [at2] using this
theorem min_two_txt {x y : Str} {t u : Tok} (hh : A.handled = none) {Q : Value → Shared → Prop} (h : ∀ h' tk, (∀ c o, s.heap.get? c = some o → h'.get? c = some o) → Q (if y.cps.toList < x.cps.toList then .str y u else .str x t) { s with heap := h', toks := tk }) :
    wpAny (model prog w) A (call (.builtin "min") [.str x t, .str y u]) Q E s := by
  refine call_min_two (two_walk (bt := fun i j => decide ((at2 x y i).cps.toList < (at2 x y j).cps.toList)) (fun i j vi vj s' Q' E' hi hj q => ?_) hh fun h' tk k => ?_)
  · obtain ⟨t1, rfl⟩ := two_at hi
    obtain ⟨t2, rfl⟩ := two_at hj
    exact (PyProof.Rows.lt_str q : wpAny (model prog w) A.in1 (compareOp .Lt _ _) Q' E' s')
  · have := h h' tk k
    simpa [at2] using this
end
def rMax2 : List V → Hp → VK → Prop := fun xs H Q => (∃ i j, xs = [.int i, .int j] ∧ Q (.int (if j > i then j else i)) H) ∨ ∃ a b, xs = [.str (tx a), .str (tx b)] ∧ Q (.str (tx (if a < b then b else a))) H
def rMin2 : List V → Hp → VK → Prop := fun xs H Q => (∃ i j, xs = [.int i, .int j] ∧ Q (.int (if j < i then j else i)) H) ∨ ∃ a b, xs = [.str (tx a), .str (tx b)] ∧ Q (.str (tx (if b < a then b else a))) H
section
variable {X : Cx}
theorem cr_max2 (hc : X.calm = true) : CallR X (.builtin "max") rMax2 := CallR.or (call_max2 hc) (by
  intro pins s σ H xs us Q I r h
  obtain ⟨a, b, rfl, q⟩ := h
  obtain ⟨u, w', rfl, ⟨t, rfl⟩, ⟨t', rfl⟩⟩ := vals2 r
  refine max_two_txt (I.ok.hd hc) fun h' tk k => ⟨_, H, I.kept k, ?_, q⟩
  rw [tx_list, tx_list]
  by_cases z : a < b
  · rw [if_pos z, if_pos z]; exact ⟨_, rfl⟩
  · rw [if_neg z, if_neg z]; exact ⟨_, rfl⟩)
theorem cr_min2 (hc : X.calm = true) : CallR X (.builtin "min") rMin2 := CallR.or (call_min2 hc) (by
  intro pins s σ H xs us Q I r h
  obtain ⟨a, b, rfl, q⟩ := h
  obtain ⟨u, w', rfl, ⟨t, rfl⟩, ⟨t', rfl⟩⟩ := vals2 r
  refine min_two_txt (I.ok.hd hc) fun h' tk k => ⟨_, H, I.kept k, ?_, q⟩
  rw [tx_list, tx_list]
  by_cases z : b < a
  · rw [if_pos z, if_pos z]; exact ⟨_, rfl⟩
  · rw [if_neg z, if_neg z]; exact ⟨_, rfl⟩)
end
/-- built-ins of two arguments -/
def UnD2 (K : PySem.W.Frag) (r : List V → Hp → VK → Prop) (f : D → D → Res D) : Prop := ∀ F H x y d e (Q : VK), Sub F H → RBo K F H x d → RBo K F H y e → Got (RE K) WF F H [] Q (f d e) → r [x, y] H Q
theorem ud_max2 {K : PySem.W.Frag} : UnD2 K rMax2 max2D := by
  intro F H x y d e Q s rx ry g
  cases d with
  | int i =>
    cases e with
    | int j =>
      rw [bo_int rx, bo_int ry]
      exact .inl ⟨i, j, rfl, got_ok s g (.int _)⟩
    | _ => exact g.elim
  | str a =>
    cases e with
    | str b =>
      obtain ⟨e1, z1⟩ := bo_str rx
      obtain ⟨e2, z2⟩ := bo_str ry
      rw [e1, e2]
      exact .inr ⟨a, b, rfl, got_ok s g (.str _ (by split <;> assumption))⟩
    | _ => exact g.elim
  | _ => exact g.elim
theorem ud_min2 {K : PySem.W.Frag} : UnD2 K rMin2 min2D := by
  intro F H x y d e Q s rx ry g
  cases d with
  | int i =>
    cases e with
    | int j =>
      rw [bo_int rx, bo_int ry]
      exact .inl ⟨i, j, rfl, got_ok s g (.int _)⟩
    | _ => exact g.elim
  | str a =>
    cases e with
    | str b =>
      obtain ⟨e1, z1⟩ := bo_str rx
      obtain ⟨e2, z2⟩ := bo_str ry
      rw [e1, e2]
      exact .inr ⟨a, b, rfl, got_ok s g (.str _ (by split <;> assumption))⟩
    | _ => exact g.elim
  | _ => exact g.elim
section
variable {ct : String → Addr} {k : Nat} {X : Cx} {W : WS} {a b : Expr} {pos : Pos} {ea eb : Xv}
theorem e_blt2 {id : String} {r : List V → Hp → VK → Prop} {f : D → D → Res D} {x : Str} {p : Pos} (hd : UnD2 X.K r f) (hc : X.calm = true → CallR X (.builtin id) r) (hm : X.mg x = none) (hv : bootBuiltins x = some (.builtin id)) (ha : PBv ct k X W a ea) (hb : PBv ct k X W b eb)
    (hg : Gl X x := by rfl) (hn : x ≠ "__name__" := by decide) (hdb : (x == ("__debug__" : Str)) = false := by decide) (he : starEach [a, b] X.env = (false, eval a X.env) :: starEach [b] X.env := by rfl) (he2 : starEach [b] X.env = (false, eval b X.env) :: starEach [] X.env := by rfl)
    (hpl : (backTo pos (starEach [b] X.env)).any (·.1) = false := by rfl) : PEv ct k X W (.Call (.Name x p) [a, b] [] pos) (xOp f ea eb) := fun C =>
  (pe_callB (hc C.calm) hg hm hv (pa_cons (ha C) (pa_cons (hb C) pa_nil he2) he) hn hdb he hpl).imp fun σ H Q ⟨H0, F0, F, env, S, g⟩ => seq S g fun v d F1 H1 S1 g1 rv q => seq S1 q fun u e F2 H2 S2 g2 ru q2 => hd F2 H2 v u d e Q S2.sub (rv.grow g2) ru (got_wf q2)
theorem e_max2 {p : Pos} (hm : X.mg "max" = none) (ha : PBv ct k X W a ea) (hb : PBv ct k X W b eb) (hg : Gl X "max" := by rfl) (he : starEach [a, b] X.env = (false, eval a X.env) :: starEach [b] X.env := by rfl) (he2 : starEach [b] X.env = (false, eval b X.env) :: starEach [] X.env := by rfl)
    (hpl : (backTo pos (starEach [b] X.env)).any (·.1) = false := by rfl) : PEv ct k X W (.Call (.Name "max" p) [a, b] [] pos) (xOp max2D ea eb) :=
  e_blt2 ud_max2 cr_max2 hm (by decide +kernel) ha hb hg (by decide) (by decide) he he2 hpl
theorem e_min2 {p : Pos} (hm : X.mg "min" = none) (ha : PBv ct k X W a ea) (hb : PBv ct k X W b eb) (hg : Gl X "min" := by rfl) (he : starEach [a, b] X.env = (false, eval a X.env) :: starEach [b] X.env := by rfl) (he2 : starEach [b] X.env = (false, eval b X.env) :: starEach [] X.env := by rfl)
    (hpl : (backTo pos (starEach [b] X.env)).any (·.1) = false := by rfl) : PEv ct k X W (.Call (.Name "min" p) [a, b] [] pos) (xOp min2D ea eb) :=
  e_blt2 ud_min2 cr_min2 hm (by decide +kernel) ha hb hg (by decide) (by decide) he he2 hpl
end
/-! ### dict(pairs) -/
theorem rp_pair {K : PySem.W.Frag} {F H : Hp} (s : Sub F H) {v : V} {k : List Nat} {d : D} (r : Rp K F v (.tup [.str k, d])) : ∃ p x, v = .ref p ∧ SqT K H p [kV (.inr (tx k)), x] ∧ okS k ∧ Rp K F x d := by
  cases r with
  | tup q z r =>
    cases r with
    | cons r1 r2 =>
      cases r2 with
      | cons r3 r4 =>
        cases r4
        cases r1 with
        | str l hz => exact ⟨_, _, rfl, s.tup q, hz, r3⟩
theorem pairs_rp {K : PySem.W.Frag} {F H : Hp} (s : Sub F H) : ∀ {vs : List V} {ds : List D} {ps : List (List Nat × D)}, RpA K F vs ds → asPr ds = some ps → ∃ (as : List Addr) (kvs : List (Key × V)), vs = as.map V.ref ∧ Paired (fun p kv => SqT K H p [kV kv.1, kv.2]) as kvs ∧ RpK K F kvs ps
  | _, _, _, .nil, e => by
    simp [asPr] at e
    subst e
    exact ⟨[], [], rfl, .nil, .nil⟩
  | _, _, ps, .cons (d := d) r t, e => by
    unfold asPr at e
    split at e
    · rename_i he; cases he
    · rename_i k x rest he
      cases he
      obtain ⟨qs, hq, rfl⟩ := Option.map_eq_some_iff.mp e
      obtain ⟨as, kvs, h1, h2, h3⟩ := pairs_rp s t hq
      obtain ⟨p, y, rfl, h4, h5, h6⟩ := rp_pair (H := H) s r
      exact ⟨p :: as, (.inr (tx k), y) :: kvs, by rw [h1]; rfl, .cons h4 h2, .cons h5 h6 h3⟩
    · cases e
theorem asPr_len : ∀ {ds : List D} {ps : List (List Nat × D)}, asPr ds = some ps → ps.length = ds.length
  | [], ps, e => by simp [asPr] at e; subst e; rfl
  | d :: ds, ps, e => by
    unfold asPr at e
    split at e
    · rename_i he; cases he
    · rename_i k x rest he
      cases he
      obtain ⟨qs, hq, rfl⟩ := Option.map_eq_some_iff.mp e
      simp [asPr_len hq]
    · cases e
theorem ud_dct {K : PySem.W.Frag} : UnD K (fun xs H Q => ∃ (a : Addr) (ps : List Addr) (kvs : List (Key × V)), xs = [.ref a] ∧ SqL K H a (ps.map V.ref) ∧ Paired (fun p kv => SqT K H p [kV kv.1, kv.2]) ps kvs ∧
    ∀ p, H p = none → Q (.ref p) (upd H p (.dK (mergeK [] kvs)))) dctD := by
  intro F H x d Q s rx g
  cases d with
  | lst ds =>
    obtain ⟨p, vs, ex, hq, zl, rv⟩ := bo_lst s rx
    subst ex
    dsimp only [dctD] at g
    cases z : asPr ds with
    | none => rw [z] at g; exact g.elim
    | some ps =>
      rw [z] at g
      dsimp only at g
      obtain ⟨as, kvs, h1, h2, h3⟩ := pairs_rp (H := H) s rv z
      refine ⟨p, as, kvs, rfl, .inl (by rw [← h1]; exact hq), h2, fun p' np => ?_⟩
      refine got_new s g np fun ff => .dic upd_same ?_ ((rpK_merge h3 .nil).mono ff)
      have l1 := length_mergeK kvs []
      have l2 := h3.length
      have l3 := asPr_len z
      have l4 := rv.length
      simp only [List.length_nil, Nat.zero_add] at l1
      omega
  | _ => exact g.elim
section
variable {ct : String → Addr} {k : Nat} {X : Cx} {W : WS} {a b : Expr} {pos : Pos} {ea eb : Xv}
theorem e_dct {p : Pos} (hm : X.mg "dict" = none) (ha : PBv ct k X W a ea) (hg : Gl X "dict" := by rfl) (he : starEach [a] X.env = (false, eval a X.env) :: starEach [] X.env := by rfl) : PEv ct k X W (.Call (.Name "dict" p) [a] [] pos) (xU dctD ea) := fun C =>
  e_bty ud_dct (fun h => call_dictP h) hm (by decide +kernel) ha hg (by decide) (by decide) he C
end
end Pv

namespace Pv
variable [HasW]
open PySem PySem.Spec L2
abbrev FnP (K : PySem.W.Frag) (x : Str) (st : Stmt) (f : Addr) (fd : FuncData) : Prop := FunD K x x (defArgs st) (defBody st) (defScope st) [] [] f fd
/-- a def that may be called by its name -/
def Ca (P : Program) (w : World) (K : PySem.W.Frag) (mg : Str → Option Value) (base : Heap) (ct : String → Addr) (j : Nat) (x : Str) (Fn : List D → Res D) : Prop :=
  ∃ f fd ps, FnOk P w K mg base (L2.CX P w) j f fd ps (spF K ct Fn) ∧ mg x = some (.ref f) ∧ PySem.W.keepIn K (.ref f) = true ∧ Binds K fd ps []
section
variable {ct : String → Addr} {k : Nat} {X : Cx} {W : WS} {e : Expr} {es : List Expr} {pos : Pos}
theorem chain_read {K : PySem.W.Frag} {r r' : R2} {f g' : D → D → Res D} {ea eb ec : Xv} (hd : OpD K r f) (hd' : OpD K r' g') {σ : St} {H : Hp} {Q : VK} (h : rd K (RE K) W (xChain f g' ea eb ec) σ H Q) : tChain r r' (rd K (RBo K) W ea) (rd K (RBo K) W eb) (rd K (RBo K) W ec) σ H Q := by
  obtain ⟨H0, F0, F, env, S, g⟩ := h
  exact seq S g fun x d F1 H1 S1 g1 rx q1 => seq S1 q1 fun y e F2 H2 S2 g2 ry q2 => by
    refine hd F2 H2 x y d e _ S2.sub (rx.grow g2) ry ?_
    cases z : f d e with
    | ok w' =>
      rw [z] at q2
      intro v F' H' g3 r3
      cases w' with
      | bl kk =>
        refine ⟨kk, rp_bl r3, ?_⟩
        have q3 : Got (RE K) W F2 H2 σ Q (if kk = true then (ec env).bind fun w => (g' e w).calm else .ok (.bl false)) := q2
        cases kk with
        | true =>
          simp only [if_true] at q3 ⊢
          exact seq (S2.grow g3) (Got.grow g3 q3) fun w d3 F4 H4 S4 g4 rw4 q4 => hd' F4 H4 y w e d3 Q S4.sub ((ry.grow g3).grow g4) rw4 (got_wf q4)
        | false =>
          simp only [Bool.false_eq_true, if_false] at q3 ⊢
          exact q3 _ F' H' g3 (.bl false)
      | _ => exact (show False from q2).elim
    | exc c => rw [z] at q2; exact (show False from q2).elim
    | bad => rw [z] at q2; exact (show False from q2).elim
theorem val_read {K : PySem.W.Frag} {ev : Xv} {σ : St} {H : Hp} {Q : Bool → Hp → Prop} (h : rd K RB W (tVal ev) σ H Q) : rd K (RE K) W ev σ H (fun v H' => ∃ kk, v = .bl kk ∧ Q kk H') := by
  obtain ⟨H0, F0, F, env, S, g⟩ := h
  refine ⟨H0, F0, F, env, S, ?_⟩
  unfold tVal at g
  cases z : ev env with
  | ok d =>
    rw [z] at g
    cases d with
    | bl b => exact fun v F' H' gd r => ⟨b, rp_bl r, g b F' H' gd rfl⟩
    | _ => exact (show False from g).elim
  | exc c => rw [z] at g; exact g
  | bad => rw [z] at g; exact g
theorem t_lele {a b c : Expr} {ea eb ec : Xv} (ha : PBv ct k X W a ea) (hb : PBv ct k X W b eb) (hc : PBv ct k X W c ec) (hm : lastMarks [.LtE, .LtE] [b, c] = false := by with_unfolding_all rfl) : PTv ct k X W (.Compare a [.LtE, .LtE] [b, c] pos) (tVal (xChain leD leD ea eb ec)) := fun C =>
  (pt_chain op_le op_le (ha C) (hb C) (hc C) hm).imp fun σ H Q h => chain_read od_le od_le (val_read h)
theorem e_callC {j : Nat} {x : Str} {p : Pos} {Fn : List D → Res D} {aa : Av} (G : Ca X.prog X.w X.K X.mg X.base ct j x Fn) (ha : PAv ct k X W (e :: es) aa) (hj : j ≤ k := by decide) (hg : Gl X x := by rfl) (hdb : (x == ("__debug__" : Str)) = false := by decide)
    (he : starEach (e :: es) X.env = (false, eval e X.env) :: starEach es X.env := by rfl) (hpl : (backTo pos (starEach es X.env)).any (·.1) = false := by rfl) : PEv ct k X W (.Call (.Name x p) (e :: es) [] pos) (xCall Fn aa) := by
  obtain ⟨f, fd, ps, G, hm, hk, hb⟩ := G
  exact e_call G hm hk hb ha hj hg hdb he hpl
theorem e_callC0 {j : Nat} {x : Str} {p : Pos} {Fn : List D → Res D} (G : Ca X.prog X.w X.K X.mg X.base ct j x Fn) (hj : j ≤ k := by decide) (hg : Gl X x := by rfl) (hdb : (x == ("__debug__" : Str)) = false := by decide) : PEv ct k X W (.Call (.Name x p) [] [] pos) (xCall Fn aNil) := by
  obtain ⟨f, fd, ps, G, hm, hk, hb⟩ := G
  exact e_call0 G hm hk hb hj hg hdb
end
theorem def_okF {P : Program} {w : World} {K : PySem.W.Frag} {mg : Str → Option Value} {base : Heap} {ct : String → Addr} {x : Str} {st : Stmt} {f : Addr} {fd : FuncData} {N ps : List Str} {k : Nat} {sv : Sv}
    (F : FnP K x st f fd) (S : FnScope N ps (defScope st))
    (hb : ∀ (cdv : Value) (A : Around) (outer : List Env) (s : Shared) (H : Hp) (E : XK) (W : WS), PSsv ct k (cxOf (L2.CX P w) P w K mg base N x (defScope st) f cdv A outer s H E) W (defBody st) sv) :
    FnOk P w K mg base (L2.CX P w) (k + 1) f fd ps (spF K ct (mkFn ps.length N.length sv)) := by
  refine F.ok S (fun vs H Q E h => ?_) (fun cdv A outer s H vs Q E hr h => ?_)
  · obtain ⟨F0, ds, hs, r, h⟩ := h
    rw [r.length]
    unfold mkFn at h
    by_cases z : ds.length = ps.length
    · exact z
    · rw [if_neg z] at h; exact h.elim
  · obtain ⟨F0, ds, hs, r, h⟩ := h
    unfold mkFn at h
    by_cases z : ds.length = ps.length
    case neg => rw [if_neg z] at h; exact h.elim
    rw [if_pos z] at h
    have C : Cz ct k (cxOf (L2.CX P w) P w K mg base N x (defScope st) f cdv A outer s H E) (fun c _ H' => E (.ref (ct c)) none H') :=
      ⟨(takes_of rfl rfl rfl rfl).imp fun c d σ H' ⟨c', e1, e2, z⟩ => by rw [e1, e2]; exact z, passes_of rfl, rfl, S.nd, hr⟩
    refine ⟨_, hb cdv A outer s H E _ C, H, F0, F0, iniE N.length ds, sr_ini hs r, ?_⟩
    cases z : sv (iniE N.length ds) with
    | ret d => rw [z] at h; exact h
    | nx env' => rw [z] at h; exact fun σ F' H' S' => h .non F' H' S'.gd .non
    | exc c env' => rw [z] at h; exact fun σ F' H' S' => h F' H' S'.gd
    | brk env' => rw [z] at h; exact h.elim
    | cont env' => rw [z] at h; exact h.elim
    | bad => rw [z] at h; exact h.elim
theorem def_okD {P : Program} {w : World} {K : PySem.W.Frag} {mg : Str → Option Value} {base : Heap} {ct : String → Addr} {x : Str} {st : Stmt} {f : Addr} {fd : FuncData} {N ps : List Str} {k : Nat} {sv : Sv}
    (F : FnP K x st f fd) (hm : mg x = some (.ref f)) (S : FnScope N ps (defScope st))
    (hbi : ∀ (kV doc pm : Value) (an : Option Addr) (cdv ct : Value) (us : List Value), us.length = ps.length → bindArgs (PySem.W.fnOf x x (defArgs st) (defBody st) (defScope st) .none kV doc pm an cdv ct) ⟨us, []⟩ = pure (ps.zip us))
    (hb : ∀ (cdv : Value) (A : Around) (outer : List Env) (s : Shared) (H : Hp) (E : XK) (W : WS), PSsv ct k (cxOf (L2.CX P w) P w K mg base N x (defScope st) f cdv A outer s H E) W (defBody st) sv) :
    Ca P w K mg base ct (k + 1) x (mkFn ps.length N.length sv) := ⟨f, fd, ps, def_okF F S hb, hm, F.kp, F.bindsN hbi⟩
end Pv

namespace Pv
variable [HasW]
open PySem PySem.Spec L2
/-- nothing is said of a body (the end of a recursion's room) -/
theorem ss_bad {ct : String → Addr} {k : Nat} {X : Cx} {W : WS} {b : List Stmt} : PSsv ct k X W b (fun _ => .bad) := fun C => ⟨fun pins s σ H Q I q => by
  obtain ⟨H0, F0, F, env, S, g⟩ := q
  exact (show False from g).elim⟩
end Pv

namespace Pv
/-- tuple(range(n)) -/
def trnD (d : D) : Res D := (rng1 d).bind fun l => .ok (.tup l)
/-- xs.extend(t), t a tuple -/
def exT : D → Res (List D)
  | .tup es => .ok es
  | _ => .bad
def sExtT (i : Nat) (a : Xv) : Sv := fun env => match gt env i with
  | some (.ow (.lst ds)) => (a env).fl env fun d => match exT d with
    | .ok es => if ds.length + es.length ≤ LIM then .nx (pt env i (some (.ow (.lst (ds ++ es))))) else .bad
    | _ => .bad
  | _ => .bad
end Pv

namespace Pv
variable [HasW]
open PySem PySem.Spec L2
/-! ### tuple(range(n)) -/
section
variable {ct : String → Addr} {k : Nat} {X : Cx} {W : WS} {e a b c : Expr} {es xs : List Expr} {pos : Pos} {ev ea eb ec : Xv}
theorem e_trng {p p2 q : Pos} (hm : X.mg "tuple" = none) (hm2 : X.mg "range" = none) (ha : PEv ct k X W a ea) (hg : Gl X "tuple" := by rfl) (hg2 : Gl X "range" := by rfl) (na : starEach [a] X.env = (false, eval a X.env) :: starEach [] X.env := by rfl)
    (nb : starEach [.Call (.Name "range" p2) [a] [] q] X.env = (false, eval (.Call (.Name "range" p2) [a] [] q) X.env) :: starEach [] X.env := by rfl) : PEv ct k X W (.Call (.Name "tuple" p) [.Call (.Name "range" p2) [a] [] q] [] pos) (xU trnD ea) := fun C =>
  (pe_tupRg C.calm hg hm (prg_1 hg2 hm2 (ha C) na) nb).imp fun σ H Q ⟨H0, F0, F, env, S, g⟩ => seq S g fun x d F1 H1 S1 g1 rx q1 => by
    have q3 := got_wf q1
    cases d with
    | int j =>
      have ex := bo_int (H := H1) (.inl rx)
      subst ex
      dsimp only [trnD, rng1] at q3
      split at q3
      · rename_i z
        have hl : (rgV 0 j).length ≤ LIM := by rw [rgV_length, Int.sub_zero]; exact z.2.2
        refine ⟨j, rfl, ⟨by decide, by decide, z.1, z.2.1, ?_⟩, fun l nl => got_new S1.sub q3 nl fun ff => .tup (.inl upd_same) hl (rgV_rp j)⟩
        rw [Int.sub_zero]
        exact z.2.2
      · exact q3.elim
    | _ => exact q3.elim
end
/-! ### xs.extend(t), t a tuple -/
open PySem.SeqAt PySem.MeetsSeq PySem.MeetsSeq2 PySem.MeetsSeq3 PySem.AutoSeq1 in
theorem ext_tup (l : Addr) (items : Array Value) (n : Nat) (b : Addr) (items2 : Array Value) (n2 : Nat) (dd : Option Addr) (sl : Array (Option Value)) (h0 : ¬ (!items.isEmpty && Builtin.List.listTooLong (items.size + items2.size)) = true) (h1 : items.size ≤ sizeLine) (h2 : items.size + items2.size ≤ sizeLine + 1) :
    Meets (Builtin.«list.extend» ⟨[.ref l, .ref b], []⟩) (fun _ R s => s.heap.get? l = some { cls := .type "list", dict := none, data := .seq items n, slots := #[] } ∧ s.heap.get? b = some { cls := .type "tuple", dict := dd, data := .seq items2 n2, slots := sl } ∧
      R (.ok (.ret Value.none)) { s with heap := s.heap.update l (Obj.mapSeq fun x => x ++ items2) }) :=
  .of_wp fun prog w A R s h => by
    obtain ⟨hp, g, d, tk, os⟩ := s
    obtain ⟨hl, hb, h⟩ := h
    have f1 := idx_int
    have f2 := AutoSeq1.sub_tuple_tuple
    have f3 := AutoSeq1.sub_list_list
    have f4 := AutoSeq1.sub_tuple_list
    have f5 := AutoSeq1.sub_list_tuple
    have hz : (items ++ items2).size ≤ sizeLine + 1 := by rw [Array.size_append]; exact h2
    wp_walk using (wpAny_updateSeq hl rfl (hz := h1) (_hz' := hz)), wpAny_loadPart' hl, wpAny_loadPart' hb
    exact ⟨_, rfl, h⟩
def rExtT (K : PySem.W.Frag) : V → List V → Hp → VK → Prop := fun x vs H Q => ∃ l b xs zs, x = .ref l ∧ vs = [.ref b] ∧ H l = some (.lst xs) ∧ SqT K H b zs ∧ xs.length + zs.length ≤ sizeLine ∧ Q .non (upd H l (.lst (xs ++ zs)))
section
variable {ct : String → Addr} {k : Nat} {X : Cx} {W : WS} {e a b c : Expr} {es xs : List Expr} {pos : Pos} {ev ea eb ec : Xv}
theorem mt_extT : MtM X "list.extend" (rExtT X.K) := by
  intro pins s σ H x vs v us Q I rx rv h
  obtain ⟨l, b, xs, zs, rfl, rfl, hH, hB, hz, q⟩ := h
  cases rx
  obtain ⟨u, rfl, ru⟩ := rv.one
  cases ru
  obtain ⟨z, its, n, r, hl, eo⟩ := I.lstM hH
  obtain ⟨its2, r2, hT, _⟩ := I.tuple hB
  obtain ⟨o, ho, hc, n2, hd⟩ := hT
  obtain ⟨ocls, odict, odata, oslots⟩ := o
  simp only at hc hd
  subst hc; subst hd
  have hl2 := r2.length
  have hsz : its.toArray.size + its2.toArray.size ≤ sizeLine := by rw [List.size_toArray, List.size_toArray]; omega
  have hlong : ¬ (!its.toArray.isEmpty && Builtin.List.listTooLong (its.toArray.size + its2.toArray.size)) = true := by
    rw [notLongL hsz, Bool.and_false]
    exact Bool.false_ne_true
  refine call_meets F.slot_list_extend ⟨_, eo, rfl⟩ F.entry_list_extend (F.args_list_extend_2 _ _)
    (ext_tup l its.toArray n b its2.toArray n2 odict oslots hlong (by rw [List.size_toArray]; omega) (by omega)) ⟨eo, ho, ?_⟩
  refine ⟨.non, _, I.lset (its' := its ++ its2) hH eo (by simp) (r.append r2) ?_, rfl, q⟩
  rw [List.length_append]
  exact hz
theorem s_extT (i : Nat) {x : Str} {p apos cpos : Pos} (he : PEv ct k X W e ev) (hN : X.N[i]? = some x := by rfl) (hv : Vis X.env.scope x := by first | exact Or.inl rfl | exact Or.inr (Or.inl rfl) | exact Or.inr (Or.inr rfl)) (hd : (x == ("__debug__" : Str)) = false := by decide)
    (hcd : (x == ("__classdict__" : Str)) = false := by decide) (hst : starEach [e] X.env = (false, eval e X.env) :: starEach [] X.env := by rfl)
    (hbase : attributeBase (.Name x p) "extend" X.env (eval (.Name x p) X.env) = eval (.Name x p) X.env := by rfl)
    (hfew : ((backTo cpos (starEach [e] X.env)).all (fun x => !x.1) && (backToKw cpos (keywordEach [] X.env)).all (fun x => x.1.isSome) && decide (([e] : List Expr).length + ([] : List Keyword).length + (if ([] : List Keyword).isEmpty then 0 else 1) < 30)) = true := by rfl)
    (hline : (apos.endLine == cpos.line) = true := by rfl) (hplain : (backTo cpos (starEach [] X.env)).any (·.1) = false := by rfl)
    (hs : swapsWith (.Call (.Attribute (.Name x p) "extend" apos) [e] [] cpos) none pos.line X.env = pure false := by rfl) : PSv ct k X W (.Expr (.Call (.Attribute (.Name x p) "extend" apos) [e] [] cpos) pos) (sExtT i ev) := fun C =>
  (ps_expr (pe_bm PySem.F.plainAttrs_list PySem.F.slot_list_extend PySem.F.type_list_extend mt_extT (pe_var hN hv hd hcd) (pa_cons (he C) pa_nil hst) hbase hfew hline hst hplain) hs).imp fun Dn σ H ⟨H0, F0, F, env, S, g⟩ => by
    unfold sExtT at g
    cases q : gt env i with
    | none => rw [q] at g; exact g.elim
    | some s =>
      rw [q] at g
      cases s with
      | fz d => exact g.elim
      | ow d =>
        cases d with
        | lst ds =>
          dsimp only at g
          obtain ⟨p, vs, h1, h2, h3, h4, h5⟩ := own_at S q
          refine ⟨_, h1, .inl ⟨rfl, _, .inl (.inl h3)⟩, ?_⟩
          refine sseq S g fun v d F1 H1 S1 g1 rv g' => ?_
          obtain ⟨p', vs', h1', h2', h3', h4', h5'⟩ := own_at S1 q
          rw [h1] at h1'
          cases h1'
          cases d with
          | tup es =>
            obtain ⟨b, zs, rfl, hb, hz, rb, _⟩ := bo_tup S1.sub (.inl rv)
            dsimp only [exT] at g'
            by_cases z : ds.length + es.length ≤ LIM
            · rw [if_pos z] at g'
              have z' : vs'.length + zs.length ≤ LIM := by rw [h5'.length, rb.length]; exact z
              refine ⟨p, b, vs', zs, rfl, rfl, h3', hb, by rw [lim]; exact z', g' σ F1 _ (S1.write q h1 (.lst upd_same (by simpa using z') (h5'.append rb)))⟩
            · rw [if_neg z] at g'; exact g'.elim
          | _ => exact g'.elim
        | _ => exact g.elim
end
end Pv

namespace Pv
/-- list(d), d a dict -/
def lisK : D → Res D
  | .dic kvs => .ok (.lst (kvs.map fun kv => .str kv.1))
  | _ => .bad
/-- d.get(k), k a text or None -/
def get1N : D → D → Res D
  | .dic kvs, .str k => .ok ((lookD kvs k).getD .non)
  | .dic _, .non => .ok .non
  | _, _ => .bad
/-- d.update(pairs) -/
def sUpd (i : Nat) (a : Xv) : Sv := fun env => match gt env i with
  | some (.ow (.dic kvs)) => (a env).fl env fun d => match d with
    | .lst ds => match asPr ds with
      | some ps => if kvs.length + ps.length ≤ LIM then .nx (pt env i (some (.ow (.dic (mergeD kvs ps))))) else .bad
      | none => .bad
    | _ => .bad
  | _ => .bad
end Pv

namespace Pv
variable [HasW]
open PySem PySem.Spec L2
/-! ### list(d) -/
theorem rpK_kA {K : PySem.W.Frag} {F : Hp} : ∀ {kvs : List (Key × V)} {ds : List (List Nat × D)}, RpK K F kvs ds → RpA K F (kvs.map fun kv => kV kv.1) (ds.map fun kv => D.str kv.1)
  | _, _, .nil => .nil
  | _, _, .cons z r t => .cons (.str _ z) (rpK_kA t)
theorem ud_lisK {K : PySem.W.Frag} : UnD K (fun xs H Q => ∃ (a : Addr) (kvs : List (Key × V)), xs = [.ref a] ∧ Rd H a (.dK kvs) ∧ ∀ p, H p = none → Q (.ref p) (upd H p (.lst (kvs.map fun kv => kV kv.1)))) lisK := by
  intro F H x d Q s rx g
  cases d with
  | dic ds =>
    obtain ⟨p, kvs, ex, hq, z, rv⟩ := bo_dic s rx
    subst ex
    exact ⟨p, kvs, rfl, hq, fun l nl => got_new s g nl fun ff => .lst upd_same (by rw [List.length_map]; exact z) ((rpK_kA rv).mono ff)⟩
  | _ => exact g.elim
section
variable {ct : String → Addr} {k : Nat} {X : Cx} {W : WS} {e a b c : Expr} {es xs : List Expr} {pos : Pos} {ev ea eb ec : Xv}
theorem e_lisK {p : Pos} (hm : X.mg "list" = none) (ha : PBv ct k X W a ea) (hg : Gl X "list" := by rfl) (he : starEach [a] X.env = (false, eval a X.env) :: starEach [] X.env := by rfl) : PEv ct k X W (.Call (.Name "list" p) [a] [] pos) (xU lisK ea) := e_bty ud_lisK (fun h => call_listD h) hm (by decide +kernel) ha hg (by decide) (by decide) he
end
/-! ### d.get(None) -/
theorem keys_leaf {prog : Program} {w : World} {es : Array DictEntry} (h : KeysOf (mixKind prog w) es) : KeysOf (leafKind prog w) es ∧ findBy (leafKind prog w).is es .none = none := by
  constructor
  · intro e he
    obtain ⟨k, h1, h2⟩ := h e he
    rcases keyIs_shape h1 with ⟨i, t, rfl, e1⟩ | ⟨x, t, rfl, e1⟩
    · refine ⟨.num i, ?_, h2⟩
      rw [e1]
      show decide (i = i) = true
      simp
    · refine ⟨.text x, ?_, h2⟩
      rw [e1]
      show Value.isStrOf x (.str x t) = true
      exact keyIs_str x t
  · rw [findBy_of_findIdx?]
    have : es.findIdx? (fun e => (leafKind prog w).is .none e.key) = none := by
      rw [Array.findIdx?_eq_none_iff]
      intro e he
      obtain ⟨k, h1, h2⟩ := h e he
      rcases keyIs_shape h1 with ⟨i, t, rfl, e1⟩ | ⟨x, t, rfl, e1⟩
      · rw [e1]; rfl
      · rw [e1]; rfl
    rw [this]
section
variable {ct : String → Addr} {k : Nat} {X : Cx} {W : WS} {e a b c : Expr} {es xs : List Expr} {pos : Pos} {ev ea eb ec : Xv}
/-- what d.get(y) finds, y a key or None -/
def DGetN (H : Hp) (a : Addr) (y : V) (r : Option V) : Prop := DGet H a y r ∨ ((∃ kvs, Rd H a (.dK kvs)) ∧ y = .non ∧ r = none)
def tDGetN (td ty : TE) : TE := fun σ H Q => td σ H fun x H1 => ∃ a, x = .ref a ∧ IsD H1 a ∧ ty σ H1 fun y H2 => ∃ o, DGetN H2 a y o ∧ Q (o.getD .non) H2
theorem d_getN {A : Around} {E : Value → Shared → Prop} {pins : List (Addr × Obj)} {σ : St} {H : Hp} {s : Shared} {a : Addr} {y : V} {u : Value} {o : Option V} {Q : Value → Shared → Prop} (hu : A.units + 1 < cLine) (I : Inv X pins σ H s) (g : DGetN H a y o) (ry : RelV y u) (h : ∀ w' s', Inv X pins σ H s' → RelV (o.getD .non) w' → Q w' s') :
    wpAny (model X.prog X.w) A (call (.builtin "dict.get") [.ref a, u]) Q E s := by
  rcases g with g | ⟨⟨kvs, e⟩, rfl, rfl⟩
  · exact d_get1 hu I g ry h
  · obtain rfl : u = Value.none := ry
    obtain ⟨z, hd, vs, rel, dd⟩ := dk_rd I.hok e
    obtain ⟨o, es, ep, h1, h2, h3, h4, _⟩ := id dd
    obtain ⟨k1, k2⟩ := keys_leaf h4
    refine call_meetsIn PySem.F.slot_dict_get dd.typeIs PySem.F.entry_dict_get (PySem.F.args_dict_get_2 _ _) (meets_dict_get (knd := leafKind X.prog X.w) (k := .none) a rfl hd) ⟨_, ⟨o, es, ep, h1, h2, h3, k1, fun _ => rfl⟩, h _ _ (I.tok _) ?_⟩
    rw [k2]
    exact rfl
theorem pe_dgetN {o e : Expr} {apos cpos : Pos} {td ty : TE} (hu : X.A.units + 1 < cLine) (ho : PE X o td) (he : PE X e ty) (m : M1 X o "get" apos e cpos) : PE X (.Call (.Attribute o "get" apos) [e] [] cpos) (tDGetN td ty) := by
  refine ⟨fun pins s σ H Q I h => ?_⟩
  refine wpAny_Call_method m.base m.few m.line PySem.F.plainAttrs_dict PySem.F.slot_dict_get PySem.F.type_dict_get (thn (ho.run pins s σ H _ I h) fun u s1 ⟨x, H1, I1, rx, a, ex, d, q1⟩ => ?_)
  subst ex
  obtain rfl : u = Value.ref a := rx
  obtain ⟨t1, t2, _⟩ := isD_at I1 d
  refine ⟨t1, t2, ?_⟩
  rw [m.trees]
  refine Calls.callWith_builtin rfl (Calls.evalArgs_plain (Calls.spliced_cons (thn (he.run pins s1 σ H1 _ I1 q1) fun iv s2 ⟨y, H2, I2, ry, ov, g, q2⟩ => Calls.spliced_nil ?_)))
  exact d_getN hu I2 g ry fun w' s3 I3 rw' => ⟨_, H2, I3, rw', q2⟩
theorem e_get1N {apos : Pos} (ha : PBv ct k X W a ea) (hb : PEv ct k X W b eb) (hbase : attributeBase a "get" X.env (eval a X.env) = eval a X.env := by rfl)
    (few : ((backTo pos (starEach [b] X.env)).all (fun x => !x.1) && (backToKw pos (keywordEach [] X.env)).all (fun x => x.1.isSome) && decide (([b] : List Expr).length + ([] : List Keyword).length + (if ([] : List Keyword).isEmpty then 0 else 1) < 30)) = true := by rfl)
    (line : (apos.endLine == pos.line) = true := by rfl) (trees : backTo pos (starEach [b] X.env) = [(false, eval b X.env)] := by rfl) : PEv ct k X W (.Call (.Attribute a "get" apos) [b] [] pos) (xM isDic get1N ea eb) := fun C =>
  (pe_dgetN (hu_of C.room) (ha C) (hb C) ⟨hbase, few, line, trees⟩).imp fun σ H Q ⟨H0, F0, F, env, S, g⟩ => seq S g fun x d F1 H1 S1 g1 rx q1 => by
    cases d with
    | dic ds =>
      obtain ⟨p, kvs, ex, hq, z, rv⟩ := bo_dic S1.sub rx
      refine ⟨p, ex, .inl ⟨kvs, hq⟩, seq S1 q1 fun y e F2 H2 S2 g2 ry q2 => ?_⟩
      have q3 := got_wf q2
      obtain ⟨p', kvs', ex', hq', z', rv'⟩ := bo_dic S2.sub (rx.grow g2)
      rw [ex] at ex'
      cases ex'
      cases e with
      | str m =>
        obtain ⟨ey, hy⟩ := bo_str (H := H2) (.inl ry)
        refine ⟨_, .inl (.inl ⟨kvs', Sum.inr (tx m), hq', ey, rfl⟩), ?_⟩
        dsimp only [get1N] at q3
        rcases rpk_look (key := m) rv' with ⟨v, d3, h1, h2, r3⟩ | ⟨h1, h2⟩
        · rw [h1]; rw [h2] at q3; exact got_ok S2.sub q3 r3
        · rw [h1]; rw [h2] at q3; exact got_ok S2.sub q3 .non
      | non =>
        have ey := bo_non (H := H2) (.inl ry)
        exact ⟨none, .inr ⟨⟨kvs', hq'⟩, ey, rfl⟩, got_ok S2.sub q3 .non⟩
      | _ => exact q3.elim
    | _ => exact q1.elim
end
/-! ### d.update(pairs) -/
def rUpd (K : PySem.W.Frag) : V → List V → Hp → VK → Prop := fun x vs H Q => ∃ (a b : Addr) (kvs : List (Key × V)) (ps : List Addr) (more : List (Key × V)), x = .ref a ∧ vs = [.ref b] ∧ H a = some (.dK kvs) ∧ SqL K H b (ps.map V.ref) ∧ Paired (fun p kv => SqT K H p [kV kv.1, kv.2]) ps more ∧
  kvs.length + more.length ≤ sizeLine ∧ Q .non (upd H a (.dK (mergeK kvs more)))
section
variable {ct : String → Addr} {k : Nat} {X : Cx} {W : WS} {e a b c : Expr} {es xs : List Expr} {pos : Pos} {ev ea eb ec : Xv}
theorem mt_upd (hcalm : X.calm = true) : MtM X "dict.update" (rUpd X.K) := by
  intro pins s σ H x vs v us Q I rx rv h
  obtain ⟨a, l, kvs, ps, more, rfl, rfl, hH, hB, hP, hz, q⟩ := h
  cases rx
  obtain ⟨u, rfl, ru⟩ := rv.one
  cases ru
  obtain ⟨z, hsm, acc, rel, dd⟩ := dk_of I.hok hH
  obtain ⟨its, rvv, pl, hzl⟩ := I.list hB
  have ei := refs_at rvv
  subst ei
  rw [List.length_map] at hzl
  obtain ⟨prs, rel2, hl, hpr⟩ := pairs_of I hP
  obtain ⟨ol, n, ho, hc, hdi, hdat⟩ := pl
  have hh : X.A.handled = none := I.ok.hd hcalm
  have hml : more.length = prs.length := rel2.length
  have hal : kvs.length = acc.length := rel.length
  obtain ⟨od, esd, epd, hod, hcd, hdd, _⟩ := id dd
  have hda : od.cls = .type "dict" := hcd.1
  have hne : l ≠ a := fun q => by
    subst q
    rw [hod] at ho
    cases ho
    rw [hda] at hc
    exact absurd hc (by decide)
  refine call_meetsIn (S := fun A' R s' => A' = X.A ∧ s' = s ∧ ∀ h' tk, h'.DictOf (mixKind X.prog X.w) a (merged acc prs) → (∀ b o, b ≠ a → s.heap.get? b = some o → h'.get? b = some o) → R (.ok (.ret .none)) { s with heap := h', toks := tk }) F.slot_dict_update dd.typeIs F.entry_dict_update (F.args_dict_update_2 _ _) (fun A' R s' hS => ?_) ⟨rfl, rfl, fun h' tk hd' keep => ?_⟩
  · obtain ⟨rfl, rfl, hR⟩ := hS
    unfold Builtin.«dict.update»
    refine wpAny_bind ?_
    unfold Builtin.Dict.selfAndRest
    refine wpAny_bind (wpAny_notOrdered_dict dd.typeIs ?_)
    show wpAny _ _ (pure (a, [Value.ref l])) _ _ _
    refine wpAny_pure ?_
    show wpAny _ _ (Builtin.Dict.updateFrom "dict.update" a (.ref l) [] .none) _ _ _
    unfold Builtin.Dict.updateFrom
    refine wpAny_bind (wpAny_typeOf (T := "list") ⟨ol, ho, hc⟩ ?_)
    rw [if_pos (by first | decide | rfl | simp)]
    refine wpAny_bind (miss_list ho hc hdat hdi hh fun h1 tk1 hk1 => ?_)
    rw [if_pos (show (none : Option Value).isNone = true from rfl)]
    refine wpAny_bind (wpAny_rule ?_)
    have hl1 : h1.IsList l (ps.map Value.ref).toArray := ⟨ol, hk1 _ _ ho, hc, n, hdat⟩
    refine wpAny_bind (wpAny_pyIter_list hl1 ?_)
    have k2 : ∀ b o, h1.get? b = some o → (h1.push { cls := .type "list_iterator", data := .fields #[.ref l, .int 0 0] }).get? b = some o := fun b o e => Heap.get?_push_of_some _ e
    have hlt : l < h1.objs.size := Heap.lt_size (hk1 _ _ ho)
    have hat : a < h1.objs.size := Heap.lt_size (hk1 _ _ hod)
    have key := upd_loop (prog := X.prog) (w := X.w) (A := X.A) (R := R) (S := a) (I := h1.objs.size) (l := l) (items := (ps.map Value.ref).toArray) (res := Value.none) hh
      (Nat.ne_of_lt hlt) (Nat.ne_of_lt hat) (Ne.symm hne) prs 0 acc 0 0
      { s' with heap := h1.push { cls := .type "list_iterator", data := .fields #[.ref l, .int 0 0] }, toks := tk1 } (by simp [hl]) (by omega)
      (fun j q e => by
        obtain ⟨b, u, e1, e2, e3⟩ := hpr j q e
        obtain ⟨ob, hob, hcb, _⟩ := id e2
        have hb : b < h1.objs.size := Heap.lt_size (hk1 _ _ hob)
        have hba : b ≠ a := fun q => by
          subst q
          rw [hod] at hob
          cases hob
          rw [hda] at hcb
          exact absurd hcb (by decide)
        exact ⟨b, u, by simp [e1], hba, Nat.ne_of_lt hb, e2.keeps fun c o z => k2 _ _ (hk1 _ _ z), e3⟩)
      ⟨_, Heap.get?_push_size _ rfl, rfl, rfl⟩ (hl1.at fun o e => k2 _ _ e) (dd.at fun o e => k2 _ _ (hk1 _ _ e))
      (fun h' tk hd' k => hR h' tk hd' fun b o hb e => k b o hb (Nat.ne_of_lt (Heap.lt_size (hk1 _ _ e))) (k2 _ _ (hk1 _ _ e)))
    first
      | exact wpAny_pure ⟨plainId_quiet ud_plain _, key⟩
      | exact wpAny_bind (wpAny_pure (wpAny_pure ⟨plainId_quiet ud_plain _, key⟩))
  · have hlen : (mergeK kvs more).length ≤ sizeLine := Nat.le_trans (length_mergeK more kvs) hz
    refine ⟨.non, upd H a (.dK (mergeK kvs more)), I.write (x := a) (e := a) (by rw [hH]; exact True.intro) (.inl rfl) (fun b q hb z => keep b q hb z) (let ⟨q, _, _, hq, _⟩ := hd'; ⟨q, hq⟩) (dk_new hlen hsm (KV.merge rel2 rel) hd'), rfl, q⟩
theorem s_upd (i : Nat) {x : Str} {p apos cpos : Pos} (he : PEv ct k X W e ev) (hN : X.N[i]? = some x := by rfl) (hv : Vis X.env.scope x := by first | exact Or.inl rfl | exact Or.inr (Or.inl rfl) | exact Or.inr (Or.inr rfl)) (hd : (x == ("__debug__" : Str)) = false := by decide)
    (hcd : (x == ("__classdict__" : Str)) = false := by decide) (hst : starEach [e] X.env = (false, eval e X.env) :: starEach [] X.env := by rfl)
    (hbase : attributeBase (.Name x p) "update" X.env (eval (.Name x p) X.env) = eval (.Name x p) X.env := by rfl)
    (hfew : ((backTo cpos (starEach [e] X.env)).all (fun x => !x.1) && (backToKw cpos (keywordEach [] X.env)).all (fun x => x.1.isSome) && decide (([e] : List Expr).length + ([] : List Keyword).length + (if ([] : List Keyword).isEmpty then 0 else 1) < 30)) = true := by rfl)
    (hline : (apos.endLine == cpos.line) = true := by rfl) (hplain : (backTo cpos (starEach [] X.env)).any (·.1) = false := by rfl)
    (hs : swapsWith (.Call (.Attribute (.Name x p) "update" apos) [e] [] cpos) none pos.line X.env = pure false := by rfl) : PSv ct k X W (.Expr (.Call (.Attribute (.Name x p) "update" apos) [e] [] cpos) pos) (sUpd i ev) := fun C =>
  (ps_expr (pe_bm PySem.F.plainAttrs_dict PySem.F.slot_dict_update PySem.F.type_dict_update (mt_upd C.calm) (pe_var hN hv hd hcd) (pa_cons (he C) pa_nil hst) hbase hfew hline hst hplain) hs).imp fun Dn σ H ⟨H0, F0, F, env, S, g⟩ => by
    unfold sUpd at g
    cases q : gt env i with
    | none => rw [q] at g; exact g.elim
    | some s =>
      rw [q] at g
      cases s with
      | fz d => exact g.elim
      | ow d =>
        cases d with
        | dic ds =>
          dsimp only at g
          obtain ⟨p, vs, h1, h2, h3, h4, h5⟩ := own_atD S q
          refine ⟨_, h1, ?_, ?_⟩
          · exact .inr (.inr (.inl ⟨rfl, .inl ⟨_, h3⟩⟩))
          refine sseq S g fun v d F1 H1 S1 g1 rv g' => ?_
          obtain ⟨p', vs', h1', h2', h3', h4', h5'⟩ := own_atD S1 q
          rw [h1] at h1'
          cases h1'
          cases d with
          | lst es =>
            obtain ⟨b, zs, rfl, hb, hz, rb⟩ := bo_lst S1.sub (.inl rv)
            dsimp only at g'
            cases zz : asPr es with
            | none => rw [zz] at g'; exact g'.elim
            | some ps =>
              rw [zz] at g'
              dsimp only at g'
              obtain ⟨as, kvs, e1, e2, e3⟩ := pairs_rp (H := H1) S1.sub rb zz
              by_cases z : ds.length + ps.length ≤ LIM
              · rw [if_pos z] at g'
                have l1 := h5'.length
                have l2 := e3.length
                have z' : vs'.length + kvs.length ≤ LIM := by omega
                refine ⟨p, b, vs', as, kvs, rfl, rfl, h3', .inl (by rw [← e1]; exact hb), e2, by rw [lim]; exact z', g' σ F1 _ (S1.write q h1 (.dic upd_same (Nat.le_trans (length_mergeK kvs vs') z') (rpK_merge e3 h5')))⟩
              · rw [if_neg z] at g'; exact g'.elim
          | _ => exact g'.elim
        | _ => exact g.elim
end
end Pv

namespace Pv
/-! ### calls that hand over what they made -/
/-- s, then r; s may not return -/
def sSeqO (s r : Sv) : Sv := fun env => match s env with
  | .nx env' => r env'
  | .exc c env' => .exc c env'
  | _ => .bad
/-- return x, x owned -/
def sRetO (i : Nat) : Sv := fun env => match gt env i with
  | some (.ow d) => .ret d
  | _ => .bad
/-- x = f(..), x owned from now on -/
def sCallO (i : Nat) (Fn : List D → Res D) (aa : Av) : Sv := fun env => (aa env).fl env fun ds => match Fn ds with
  | .ok d => .nx (pt env i (some (.ow d)))
  | .exc c => .exc c env
  | .bad => .bad
/-- a def's function, when it returns what it made -/
def outO : Fl → Res D
  | .ret d => .ok d
  | .exc c _ => .exc c
  | _ => .bad
def mkFnO (n m : Nat) (sv : Sv) (ds : List D) : Res D := if ds.length = n then outO (sv (iniE m ds)) else .bad
/-- x = dict(d), x owned from now on -/
def sDcp (i : Nat) (ea : Xv) : Sv := fun env => (ea env).fl env fun d => match d with
  | .dic kvs => .nx (pt env i (some (.ow (.dic kvs))))
  | _ => .bad
end Pv

namespace Pv
variable [HasW]
open PySem PySem.Spec L2
/-! ### calls that hand over what they made -/
def GotR (K : PySem.W.Frag) (W : WS) (H0 F0 : Hp) (Dn : Ends) : Fl → Prop
  | .ret d => ∀ a F' H', Gd F0 H0 F' H' → H0 a = none → F' a = none → RpO K F' H' a d → Dn.rt (.ref a) H'
  | f => GotS K W H0 F0 Dn f
def rsO (K : PySem.W.Frag) (W : WS) (sv : Sv) : TS := fun Dn σ H => ∃ H0 F0 F env, SR K H0 F0 F H σ env ∧ GotR K W H0 F0 Dn (sv env)
def PSsO (ct : String → Addr) (k : Nat) (X : Cx) (W : WS) (st : List Stmt) (sv : Sv) : Prop := Cz ct k X W → PSs X st (rsO X.K W sv)
def spO (K : PySem.W.Frag) (ct : String → Addr) (Fn : List D → Res D) : Sp := fun vs H Q E => ∃ F ds, Sub F H ∧ RpA K F vs ds ∧ (match Fn ds with
  | .ok d => ∀ a F' H', Gd F H F' H' → H a = none → F' a = none → RpO K F' H' a d → Q (.ref a) H'
  | .exc c => ∀ F' H', Gd F H F' H' → E (.ref (ct c)) none H'
  | .bad => False)
section
variable {ct : String → Addr} {k : Nat} {X : Cx} {W : WS} {e a b c : Expr} {es : List Expr} {pos : Pos} {ev ea eb ec : Xv} {st : Stmt} {rest : List Stmt} {s r : Sv}
theorem ssO_cons (h1 : PSv ct k X W st s) (h2 : PSsO ct k X W rest r) : PSsO ct k X W (st :: rest) (sSeqO s r) := fun C => (pss_cons (h1 C) (h2 C)).imp fun Dn σ H ⟨H0, F0, F, env, S, g⟩ => by
  refine ⟨H0, F0, F, env, S, ?_⟩
  unfold sSeqO at g
  cases q : s env with
  | nx env' => rw [q] at g; exact fun σ' F' H' S' => ⟨H0, F0, F', env', S', g⟩
  | ret d => rw [q] at g; exact (show False from g).elim
  | brk env' => rw [q] at g; exact (show False from g).elim
  | cont env' => rw [q] at g; exact (show False from g).elim
  | exc c env' => rw [q] at g; exact g
  | bad => rw [q] at g; exact g
theorem ssO_ret (i : Nat) {x : Str} {p : Pos} (hN : X.N[i]? = some x := by rfl) (hv : Vis X.env.scope x := by first | exact Or.inl rfl | exact Or.inr (Or.inl rfl) | exact Or.inr (Or.inr rfl)) (hd : (x == ("__debug__" : Str)) = false := by decide)
    (hcd : (x == ("__classdict__" : Str)) = false := by decide) : PSsO ct k X W [.Return (some (.Name x p)) pos] (sRetO i) := fun C =>
  pss_one ((ps_ret (pe_var hN hv hd hcd)).imp fun Dn σ H ⟨H0, F0, F, env, S, g⟩ => by
    unfold sRetO at g
    cases q : gt env i with
    | none => rw [q] at g; exact (show False from g).elim
    | some sl =>
      rw [q] at g
      cases sl with
      | fz d => exact (show False from g).elim
      | ow d =>
        obtain ⟨a, h1, h2, h3, h4⟩ := S.ow i d q
        exact ⟨_, h1, g a F H S.gd h2 h3 h4⟩)
end
def CaO (P : Program) (w : World) (K : PySem.W.Frag) (mg : Str → Option Value) (base : Heap) (ct : String → Addr) (j : Nat) (x : Str) (Fn : List D → Res D) : Prop :=
  ∃ f fd ps, FnOk P w K mg base (L2.CX P w) j f fd ps (spO K ct Fn) ∧ mg x = some (.ref f) ∧ PySem.W.keepIn K (.ref f) = true ∧ Binds K fd ps []
section
variable {ct : String → Addr} {k : Nat} {X : Cx} {W : WS} {e a b c : Expr} {es : List Expr} {pos : Pos} {ev ea eb ec : Xv}
theorem s_callO (i : Nat) {j : Nat} {x fx : Str} {p p2 pos2 : Pos} {Fn : List D → Res D} {aa : Av} (G : CaO X.prog X.w X.K X.mg X.base ct j fx Fn) (ha : PAv ct k X W (e :: es) aa) (hj : j ≤ k := by decide) (hg : Gl X fx := by rfl) (hdb : (fx == ("__debug__" : Str)) = false := by decide)
    (he : starEach (e :: es) X.env = (false, eval e X.env) :: starEach es X.env := by rfl) (hpl : (backTo pos2 (starEach es X.env)).any (·.1) = false := by rfl)
    (hi : X.N[i]? = some x := by rfl) (hx : Loc X.env.scope x := by first | exact Or.inl rfl | exact Or.inr rfl) (hf : X.fn x = true ∨ X.env.scope.names.lookup x = some .local := by first | exact .inl rfl | exact .inr rfl)
    (hs : swapsWith (.Call (.Name fx p2) (e :: es) [] pos2) (some (.Name x p)) pos.line X.env = pure false := by rfl) : PSv ct k X W (.Assign [.Name x p] (.Call (.Name fx p2) (e :: es) [] pos2) pos) (sCallO i Fn aa) := fun C => by
  obtain ⟨f, fd, ps, G, hm, hk, hb⟩ := G
  exact (ps_set C.nd hi hx (pe_callS G (C.room.mono hj) hg hm hk hb (fun σ => passAt C.tk σ) (ha C) hdb he hpl) hs hf).imp fun Dn σ H ⟨H0, F0, F, env, S, g⟩ => sseq S g fun vs ds F1 H1 S1 g1 rv q => ⟨F1, ds, S1.sub, rv, by
    cases z : Fn ds with
    | ok d =>
      rw [z] at q
      exact fun a F' H' gd na nf r => q _ F' H' ((S1.grow gd).setO i (S1.gd.hh.free na) nf r fun jj d' e1 ne e2 => by
        obtain ⟨b, h1, h2, h3, h4⟩ := S1.ow jj d' e1
        rw [e2] at h1
        cases h1
        obtain ⟨o, ho⟩ := h4.there
        rw [na] at ho
        cases ho)
    | exc c => rw [z] at q; exact fun F' H' gd => ⟨c, rfl, rfl, q σ F' H' (S1.grow gd)⟩
    | bad => rw [z] at q; exact q⟩
end
theorem def_okFO {P : Program} {w : World} {K : PySem.W.Frag} {mg : Str → Option Value} {base : Heap} {ct : String → Addr} {x : Str} {st : Stmt} {f : Addr} {fd : FuncData} {N ps : List Str} {k : Nat} {sv : Sv}
    (F : FnP K x st f fd) (S : FnScope N ps (defScope st))
    (hb : ∀ (cdv : Value) (A : Around) (outer : List Env) (s : Shared) (H : Hp) (E : XK) (W : WS), PSsO ct k (cxOf (L2.CX P w) P w K mg base N x (defScope st) f cdv A outer s H E) W (defBody st) sv) :
    FnOk P w K mg base (L2.CX P w) (k + 1) f fd ps (spO K ct (mkFnO ps.length N.length sv)) := by
  refine F.ok S (fun vs H Q E h => ?_) (fun cdv A outer s H vs Q E hr h => ?_)
  · obtain ⟨F0, ds, hs, r, h⟩ := h
    rw [r.length]
    unfold mkFnO at h
    by_cases z : ds.length = ps.length
    · exact z
    · rw [if_neg z] at h; exact h.elim
  · obtain ⟨F0, ds, hs, r, h⟩ := h
    unfold mkFnO at h
    by_cases z : ds.length = ps.length
    case neg => rw [if_neg z] at h; exact h.elim
    rw [if_pos z] at h
    have C : Cz ct k (cxOf (L2.CX P w) P w K mg base N x (defScope st) f cdv A outer s H E) (fun c _ H' => E (.ref (ct c)) none H') :=
      ⟨(takes_of rfl rfl rfl rfl).imp fun c d σ H' ⟨c', e1, e2, z⟩ => by rw [e1, e2]; exact z, passes_of rfl, rfl, S.nd, hr⟩
    refine ⟨_, hb cdv A outer s H E _ C, H, F0, F0, iniE N.length ds, sr_ini hs r, ?_⟩
    cases z : sv (iniE N.length ds) with
    | ret d => rw [z] at h; exact h
    | nx env' => rw [z] at h; exact h.elim
    | exc c env' => rw [z] at h; exact fun σ F' H' S' => h F' H' S'.gd
    | brk env' => rw [z] at h; exact h.elim
    | cont env' => rw [z] at h; exact h.elim
    | bad => rw [z] at h; exact h.elim
theorem def_okDO {P : Program} {w : World} {K : PySem.W.Frag} {mg : Str → Option Value} {base : Heap} {ct : String → Addr} {x : Str} {st : Stmt} {f : Addr} {fd : FuncData} {N ps : List Str} {k : Nat} {sv : Sv}
    (F : FnP K x st f fd) (hm : mg x = some (.ref f)) (S : FnScope N ps (defScope st))
    (hbi : ∀ (kV doc pm : Value) (an : Option Addr) (cdv ct : Value) (us : List Value), us.length = ps.length → bindArgs (PySem.W.fnOf x x (defArgs st) (defBody st) (defScope st) .none kV doc pm an cdv ct) ⟨us, []⟩ = pure (ps.zip us))
    (hb : ∀ (cdv : Value) (A : Around) (outer : List Env) (s : Shared) (H : Hp) (E : XK) (W : WS), PSsO ct k (cxOf (L2.CX P w) P w K mg base N x (defScope st) f cdv A outer s H E) W (defBody st) sv) :
    CaO P w K mg base ct (k + 1) x (mkFnO ps.length N.length sv) := ⟨f, fd, ps, def_okFO F S hb, hm, F.kp, F.bindsN hbi⟩
section
variable {ct : String → Addr} {k : Nat} {X : Cx} {W : WS} {e a b c : Expr} {es : List Expr} {pos : Pos} {ev ea eb ec : Xv}
/-- x = dict(d), x owned -/
theorem s_dcp (i : Nat) {x : Str} {p p2 pos2 : Pos} (hm : X.mg "dict" = none) (ha : PBv ct k X W a ea) (hg : Gl X "dict" := by rfl) (he : starEach [a] X.env = (false, eval a X.env) :: starEach [] X.env := by rfl)
    (hi : X.N[i]? = some x := by rfl) (hx : Loc X.env.scope x := by first | exact Or.inl rfl | exact Or.inr rfl) (hf : X.fn x = true ∨ X.env.scope.names.lookup x = some .local := by first | exact .inl rfl | exact .inr rfl)
    (hs : swapsWith (.Call (.Name "dict" p2) [a] [] pos2) (some (.Name x p)) pos.line X.env = pure false := by rfl) : PSv ct k X W (.Assign [.Name x p] (.Call (.Name "dict" p2) [a] [] pos2) pos) (sDcp i ea) := fun C =>
  (ps_set C.nd hi hx (pe_callTy call_dictD hg hm (by decide +kernel) (pa_cons (ha C) pa_nil he) (by decide) (by decide) he) hs hf).imp fun Dn σ H ⟨H0, F0, F, env, S, g⟩ => sseq S g fun v d F1 H1 S1 g1 rv q => by
    cases d with
    | dic ds =>
      obtain ⟨p, kvs, ex, hq, z, rk⟩ := bo_dic S1.sub rv
      subst ex
      refine ⟨p, kvs, rfl, hq, fun p' np => ?_⟩
      have g2 := Gd.drop (o := .dK kvs) S1.sub np
      refine q _ F1 _ (own_done (is := [i]) (vs := [.ref p']) (ss := [.ow (.dic ds)]) S1 g2 (.ow np ?_ (.dic upd_same z rk) (fun j d' e => by simp at e) .nil) rfl)
      cases y : F1 p' with
      | none => rfl
      | some u =>
        rcases S1.sub p' u y with q | ⟨o', q⟩
        · rw [np] at q; cases q
        · rw [np] at q; cases q
    | _ => exact (show False from q).elim
end
end Pv

namespace Pv
/-! ### dicts with text and None keys, all True -/
def putKd (ks : List (Option (List Nat))) (k : Option (List Nat)) : List (Option (List Nat)) := if k ∈ ks then ks else ks ++ [k]
def keyKd : D → Option (Option (List Nat))
  | .non => some none
  | .str l => some (some l)
  | _ => none
def kdD : Option (List Nat) → D
  | none => .non
  | some l => .str l
/-- x[e] = True -/
def sPutK (i : Nat) (kx : Xv) : Sv := fun env => match gt env i with
  | some (.ow (.kd ks)) => (kx env).fl env fun e => match keyKd e with
    | some k => if ks.length < LIM then .nx (pt env i (some (.ow (.kd (putKd ks k))))) else .bad
    | none => .bad
  | _ => .bad
/-- {} -/
def oKd (r : Ov) : Ov := fun env => (r env).bind fun ss => .ok (.ow (.kd []) :: ss)
def iKeysK (a : Xv) : Av := fun env => (a env).bind fun d => match d with
  | .kd ks => .ok (ks.map kdD)
  | _ => .bad
end Pv

namespace Pv
variable [HasW]
open PySem PySem.Spec L2
/-! ### dicts with text and None keys, all True -/
def kV2 : Option (List Nat) → V
  | none => .non
  | some l => .str (tx l)
theorem lfK_inj {a b : Option (List Nat)} (h : lfK a = lfK b) : a = b := by
  cases a with
  | none => cases b with
    | none => rfl
    | some _ => cases h
  | some x => cases b with
    | none => cases h
    | some y =>
      have e : tx x = tx y := by injection h
      rw [tx_inj e]
theorem lf_is {k : Option (List Nat)} {u : Value} (r : RelV (kV2 k) u) : Leaf.isOf (lfK k) u = true := by
  cases k with
  | none => obtain rfl : u = Value.none := r; rfl
  | some l => obtain ⟨t, rfl⟩ := (show ∃ t, u = Value.str (tx l) t from r); exact show Value.isStrOf (tx l) (Value.str (tx l) t) = true by simp [Value.isStrOf]
theorem lf_rel {k : Option (List Nat)} {u : Value} (h : Leaf.isOf (lfK k) u = true) : RelV (kV2 k) u := by
  cases k with
  | none => cases u <;> first | exact rfl | exact absurd h Bool.false_ne_true
  | some l => obtain ⟨t, rfl⟩ := Value.isStrOf_shape (show Value.isStrOf (tx l) u = true from h); exact ⟨t, rfl⟩
theorem kd_ok {P : Program} {w : World} {H : Hp} {h : Heap} {a : Addr} {ks : List (Option (List Nat))} (x : kdH a ks h) : ObjOk P w H h a (.ext (kdH a ks)) := by
  refine ⟨x, ?_, fun h1 h2 q st => ?_⟩
  · obtain ⟨_, o, es, ep, e, _⟩ := x
    exact ⟨o, e⟩
  · obtain ⟨z, o, es, ep, e, c⟩ := q
    exact ⟨z, o, es, ep, st _ e, c⟩
/-- {} -/
def tDNewKd : TE := fun _ H Q => ∀ p, H p = none → Q (.ref p) (upd H p (.ext (kdH p [])))
section
variable {X : Cx} {pos : Pos}
theorem pe_dnewKd : PE X (.Dict [] [] pos) tDNewKd := ⟨fun pins s σ H Q I h =>
  wpAny_Dict_empty ⟨.ref s.heap.objs.size, _, I.laid (a := s.heap.objs.size) (o := .ext (kdH s.heap.objs.size [])) (t' := s.toks) (fun _ _ q => Heap.get?_push_of_some _ q) (Nat.le_refl _) (kd_ok ⟨beq_eq_false_iff_ne.mpr (Ne.symm (Nat.ne_of_lt I.big)), Heap.DictOf.new s.heap⟩), rfl, h _ (I.hok.fresh (Nat.le_refl _))⟩⟩
end
theorem stored_kd (ks : List (Option (List Nat))) (k : Option (List Nat)) : stored (ks.map fun k => (lfK k, Value.bool true)) (lfK k) (Value.bool true) = (putKd ks k).map fun k => (lfK k, Value.bool true) := by
  unfold putKd stored
  have h : ((ks.map fun k => (lfK k, Value.bool true)).any fun kv => decide (kv.1 = lfK k)) = decide (k ∈ ks) := by
    rw [Bool.eq_iff_iff, List.any_eq_true, decide_eq_true_eq]
    constructor
    · rintro ⟨kv, hkv, e⟩
      obtain ⟨x, hx, rfl⟩ := List.mem_map.mp hkv
      rw [← lfK_inj (of_decide_eq_true e)]
      exact hx
    · intro m
      exact ⟨_, List.mem_map.mpr ⟨k, m, rfl⟩, by simp⟩
  by_cases m : k ∈ ks
  · rw [if_pos (by rw [h]; simpa using m), if_pos m, List.map_map]
    refine List.map_congr_left fun x _ => ?_
    show (if lfK x = lfK k then (lfK x, Value.bool true) else (lfK x, Value.bool true)) = _
    split <;> rfl
  · rw [if_neg (by rw [h]; simpa using m), if_neg m, List.map_append]
    rfl
theorem putKd_len (ks : List (Option (List Nat))) (k : Option (List Nat)) : (putKd ks k).length ≤ ks.length + 1 := by
  unfold putKd
  split
  · omega
  · simp
section
variable {X : Cx} {pins : List (Addr × Obj)} {σ : St} {H : Hp} {s : Shared} {a : Addr} {ks : List (Option (List Nat))} {k : Option (List Nat)} {u : Value} {A : Around} {E : Value → Shared → Prop}
theorem d_setKd {Q : Unit → Shared → Prop} (hP : HasW.P = X.prog) (hw : HasW.w = X.w) (I : Inv X pins σ H s) (e : H a = some (.ext (kdH a ks))) (hz : ks.length < sizeLine) (ry : RelV (kV2 k) u) (h : ∀ s', Inv X pins σ (upd H a (.ext (kdH a (putKd ks k)))) s' → Q () s') :
    wpAny (model X.prog X.w) A (setItem (.ref a) u (.bool true)) Q E s := by
  obtain ⟨⟨hd, dd⟩, _⟩ := (show ObjOk X.prog X.w H s.heap a (.ext (kdH a ks)) from I.hok a _ e)
  have hz' : (ks.map fun k => (lfK k, Value.bool true)).length ≤ sizeLine := by rw [List.length_map]; omega
  rw [← hP, ← hw]
  refine wpAny_setItem_pairs (hsz := hz') (knd := leafKind HasW.P HasW.w) (lf_is ry) dd fun h' dd' hs => h _ ?_
  rw [stored_kd] at dd'
  have he : ∃ q, h'.get? a = some q := let ⟨q, _, _, hq, _⟩ := dd'; ⟨q, hq⟩
  exact d_write I (by rw [e]; exact True.intro) hs he (kd_ok ⟨hd, dd'⟩)
end
/-- d[y] = True -/
def sDPutKd (td ty tv : TE) : TS := fun D σ H => tv σ H fun v H1 => td σ H1 fun x H2 => ty σ H2 fun y H3 => ∃ a ks k, v = .bl true ∧ x = .ref a ∧ y = kV2 k ∧ H3 a = some (.ext (kdH a ks)) ∧ ks.length < sizeLine ∧ D.nx σ (upd H3 a (.ext (kdH a (putKd ks k))))
section
variable {X : Cx} {o i e value : Expr} {pos pos' tpos : Pos} {td ty tv : TE}
theorem ps_dputKd (hP : HasW.P = X.prog) (hw : HasW.w = X.w) (ho : PE X o td) (hi : PE X i ty) (hv : PE X value tv) (hs : swapsWith value (some (.Subscript o i pos')) pos.line X.env = pure false) :
    PS X (.Assign [.Subscript o i pos'] value pos) (sDPutKd td ty tv) := by
  refine ⟨fun pins s σ H D I h => ?_⟩
  refine wpAny_Assign_Subscript (thn (hv.run pins s σ H _ I h) fun r s1 ⟨v, H1, I1, rv, q1⟩ => thn (ho.run pins s1 σ H1 _ I1 q1) fun u s2 ⟨x, H2, I2, rx, q2⟩ => thn (hi.run pins s2 σ H2 _ I2 q2) fun iv s3 ⟨y, H3, I3, ry, a, ks, k, ev, ex, ey, e, hz, q3⟩ => ?_) hs
  subst ex ey ev
  obtain rfl : u = Value.ref a := rx
  obtain rfl : r = Value.bool true := rv
  exact d_setKd hP hw I3 e hz ry fun s4 I4 => ⟨σ, _, I4, q3⟩
end
theorem own_atK {K : PySem.W.Frag} {H0 F0 F H : Hp} {σ : St} {env : En} {i : Nat} {ks : List (Option (List Nat))} (S : SR K H0 F0 F H σ env) (e : gt env i = some (.ow (.kd ks))) : ∃ a, σ[i]? = some (some (.ref a)) ∧ F a = none ∧ H a = some (.ext (kdH a ks)) ∧ ks.length ≤ LIM ∧ ∀ l, some l ∈ ks → okS l := by
  obtain ⟨a, h1, h2, h3, h4⟩ := S.ow i _ e
  cases h4 with
  | kd q z r => exact ⟨a, h1, h3, q, z, r⟩
section
variable {ct : String → Addr} {k : Nat} {X : Cx} {W : WS} {e a b c : Expr} {es xs : List Expr} {pos : Pos} {ev ea eb ec : Xv} {ov : Ov} {aa : Av}
theorem l_kd (hr : PLv ct k X W es ov) (hs : starEach (.Dict [] [] pos :: es) X.env = (false, eval (.Dict [] [] pos) X.env) :: starEach es X.env := by rfl) : PLv ct k X W (.Dict [] [] pos :: es) (oKd ov) := fun C =>
  (pa_cons pe_dnewKd (hr C) hs).imp fun σ H Q ⟨H0, F0, F, env, S, g⟩ => fun p np =>
    ⟨H0, F0, F, env, S.grow (Gd.drop S.sub np), got_ow (Hp2 := H) (.refl S.sub) np (fun F' H' gd nf => .kd (gd.hh _ _ upd_same) (Nat.zero_le _) (fun _ h => nomatch h)) S.sub g⟩
/-- x[e] = True, x an owned dict with text and None keys -/
theorem s_putK (hW : HasW.P = X.prog ∧ HasW.w = X.w) (i : Nat) {x : Str} {p p' pt : Pos} {jc} {kx : Xv} {ke : Expr} (hk : PEv ct k X W ke kx) (hve : PEv ct k X W (.Constant (.bool true) jc pt) (xC (.bl true))) (hN : X.N[i]? = some x := by rfl) (hv : Vis X.env.scope x := by first | exact Or.inl rfl | exact Or.inr (Or.inl rfl) | exact Or.inr (Or.inr rfl)) (hd : (x == ("__debug__" : Str)) = false := by decide)
    (hcd : (x == ("__classdict__" : Str)) = false := by decide) (hs : swapsWith (.Constant (.bool true) jc pt) (some (.Subscript (.Name x p) ke p')) pos.line X.env = pure false := by rfl) : PSv ct k X W (.Assign [.Subscript (.Name x p) ke p'] (.Constant (.bool true) jc pt) pos) (sPutK i kx) := fun C =>
  (ps_dputKd hW.1 hW.2 (pe_var hN hv hd hcd) (hk C) (hve C) hs).imp fun Dn σ H ⟨H0, F0, F, env, S, g⟩ => by
    refine ⟨H0, F0, F, env, S, fun v F1 H1 g1 rv => ?_⟩
    have ev : v = .bl true := by cases rv; rfl
    subst ev
    have S1 := S.grow g1
    unfold sPutK at g
    cases q : gt env i with
    | none => rw [q] at g; exact g.elim
    | some s =>
      rw [q] at g
      cases s with
      | fz d => exact g.elim
      | ow dd =>
        cases dd with
        | kd ks =>
          dsimp only at g
          obtain ⟨p, h1, h2, h3, h4, h5⟩ := own_atK S1 q
          refine ⟨_, h1, sseq S1 g fun y e F2 H2 S2 g2 ry g3 => ?_⟩
          obtain ⟨p', h1', h2', h3', h4', h5'⟩ := own_atK S2 q
          rw [h1] at h1'
          cases h1'
          have key : ∀ kk, keyKd e = some kk → y = kV2 kk ∧ ∀ l, kk = some l → okS l := by
            intro kk hkk
            cases e <;> first | (cases hkk; done) | skip
            · cases hkk; cases ry; exact ⟨rfl, fun _ z => nomatch z⟩
            · cases hkk
              obtain ⟨ey, hy⟩ := bo_str (H := H2) (.inl ry)
              exact ⟨ey, fun l z => by cases z; exact hy⟩
          cases hk2 : keyKd e with
          | none => rw [hk2] at g3; exact g3.elim
          | some kk =>
            rw [hk2] at g3
            dsimp only at g3
            obtain ⟨ey, hy⟩ := key kk hk2
            by_cases z : ks.length < LIM
            · rw [if_pos z] at g3
              refine ⟨p, ks, kk, rfl, rfl, ey, h3', by rw [lim]; exact z, g3 σ F2 _ (S2.write q h1 (.kd upd_same ?_ ?_))⟩
              · have := putKd_len ks kk
                omega
              · intro l hl
                unfold putKd at hl
                split at hl
                · exact h5' l hl
                · rcases List.mem_append.mp hl with m | m
                  · exact h5' l m
                  · exact hy l (List.mem_singleton.mp m).symm
            · rw [if_neg z] at g3; exact g3.elim
        | _ => exact g.elim
end
/-! ### the walk over the keys -/
def Itkd (d : Addr) (o : Obj) (ks : List (Option (List Nat))) : It :=
  ⟨fun i H => H d = some (.frz o (.ext (kdH d ks))) ∧ i < ks.length, fun i H x H' => H' = H ∧ ∃ k, ks[i]? = some k ∧ x = kV2 k, fun i H => H d = some (.frz o (.ext (kdH d ks))) ∧ ks.length ≤ i⟩
section
variable {X : Cx} {pins : List (Addr × Obj)} {σ : St} {H : Hp} {s : Shared} {d : Addr} {o : Obj}
theorem frzKd {ks : List (Option (List Nat))} (I : Inv X pins σ H s) (h : H d = some (.frz o (.ext (kdH d ks)))) :
    (d == sysModules) = false ∧ s.heap.get? d = some o ∧ o.ExactDict ∧ ∃ (es : Array DictEntry) (ep : Nat), o.data = .dict es ep ∧ es.size = ks.length ∧ s.heap.DictAt (leafKind HasW.P HasW.w) d (ks.map fun k => (lfK k, Value.bool true)) ep := by
  obtain ⟨hd, ⟨hs, o', es, ep, ho, hx, hdt, r⟩, _⟩ := (show ObjOk X.prog X.w H s.heap d (.frz o (.ext (kdH d ks))) from I.hok d _ h)
  rw [hd] at ho
  cases ho
  refine ⟨hs, hd, hx, es, ep, hdt, ?_, o, es, hd, hx, hdt, r⟩
  have l1 := r.2.1.length
  rw [Array.length_toList, List.length_map] at l1
  omega
end
section
variable {P : Program} {w : World} {K : PySem.W.Frag} {tg : Expr} {d : Addr} {o : Obj} {es : Array DictEntry} {ep : Nat}
theorem turn_kd (hP : HasW.P = P) (hw : HasW.w = w) {ks : List (Option (List Nat))} (it : Addr) (hod : o.data = .dict es ep) : Turn P w K tg (Itkd d o ks) [it] it (fun i h => h.IsKeyIter it d i ks.length ep) where
  mem := by simp
  obj := fun i h st b hb => by
    have e : b = it := by simpa using hb
    subst e
    obtain ⟨oi, e, c, dd⟩ := st
    exact ⟨oi, e, fun v z => by rw [dd] at z; cases z⟩
  keep := fun i h h' st k => st.at fun oi e => k it (by simp) oi e
  item := by
    intro X hP' hw' hK hc i pins s σ H E I hf st hg
    subst hP hw hK
    obtain ⟨hd, hi⟩ := hg
    obtain ⟨f0, f1, f2, f3, f4, f5⟩ := hf it (by simp)
    obtain ⟨hs, hgd, hx, es', ep', hdt, hsz, hm⟩ := frzKd I hd
    obtain ⟨rfl, rfl⟩ := dict_ep hod hdt
    obtain ⟨k, hk⟩ : ∃ p, ks[i]? = some p := ⟨ks[i], List.getElem?_eq_getElem hi⟩
    have hl : ks.length = (ks.map fun k => (lfK k, Value.bool true)).length := by rw [List.length_map]
    rw [hl] at st
    refine wpAny_pyNext_dict_item (k := lfK k) (v := .bool true) st hm (by rw [List.getElem?_map, hk]; rfl) fun key h' hkey st' sb => ?_
    have I1 : Inv X pins σ H { s with heap := h' } := I.turned (t' := s.toks) (fun b ob hb e => (sb.2 b hb).trans e) f0 f1 f3 f4 f5
    obtain ⟨oi, e, c, dd⟩ := id st'
    refine ⟨key, rfl, go_of (s := { s with heap := h' }) e c dd (by decide) ⟨kV2 k, H, I1, lf_rel (show Leaf.isOf (lfK k) key = true from hkey), ⟨rfl, k, hk, rfl⟩, ?_, fun b hb => (hf b hb).1⟩⟩
    show h'.IsKeyIter it d (i + 1) ks.length _
    rw [hl]
    exact st'
  done := by
    intro X hP' hw' hK hc i pins s σ H E I hf st hg
    subst hP hw hK
    obtain ⟨hd, hi⟩ := hg
    obtain ⟨f0, f1, f2, f3, f4, f5⟩ := hf it (by simp)
    obtain ⟨hs, hgd, hx, es', ep', hdt, hsz, hm⟩ := frzKd I hd
    obtain ⟨rfl, rfl⟩ := dict_ep hod hdt
    exact next_key_end (I.ok.hd hc) st hgd hdt hsz hi fun h' eb => ⟨rfl, I.turned (t' := s.toks) (fun b ob hb e => eb b ob hb e) f0 f1 f3 f4 f5⟩
  self := fun A i s Q E st h => wpAny_pyIter_keyiter st h
end
section
variable {X : Cx} {tg e : Expr}
def iKLd (X : Cx) (td : TE) : TI := fun σ H R => td σ H fun x H1 => ∃ d ks, x = .ref d ∧ ((H1 d = some (.ext (kdH d ks)) ∧ ∀ od, (∀ o' u', X.H_0 d ≠ some (.frz o' u')) → R (Itkd d od ks) (upd H1 d (.frz od (.ext (kdH d ks))))) ∨ ∃ od, H1 d = some (.frz od (.ext (kdH d ks))) ∧ R (Itkd d od ks) H1)
theorem pi_kdL (hP : HasW.P = X.prog) (hw : HasW.w = X.w) {td : TE} (he : PE X e td) : PI X tg e (iKLd X td) := by
  refine ⟨fun pins s σ H R I h => ?_⟩
  refine thn (he.run pins s σ H _ I h) fun u s1 ⟨x, H1, I1, rx, d, ks, ex, q⟩ => ?_
  subst ex
  obtain rfl : u = Value.ref d := rx
  rcases q with ⟨hd, q⟩ | ⟨od, hd, q⟩
  · obtain ⟨od, I2⟩ := I1.lock hd trivial
    have q := q od (I1.nofrz hd trivial)
    obtain ⟨hs, hgd, hx, es, ep, hdt, hsz, hm⟩ := frzKd I2 upd_same
    refine iter_keys hs hgd hx hdt (pi_one (tk := s1.toks) I2 _ (turn_kd hP hw _ hdt) ⟨_, Heap.get?_push_size _ rfl, rfl, ?_⟩ q)
    rw [hsz] <;> rfl
  · obtain ⟨hs, hgd, hx, es, ep, hdt, hsz, hm⟩ := frzKd I1 hd
    refine iter_keys hs hgd hx hdt (pi_one (tk := s1.toks) I1 _ (turn_kd hP hw _ hdt) ⟨_, Heap.get?_push_size _ rfl, rfl, ?_⟩ q)
    rw [hsz] <;> rfl
end
theorem wk_kd {K : PySem.W.Frag} {F : Hp} {a : Addr} {od : Obj} {ks : List (Option (List Nat))} (r : ∀ l, some l ∈ ks → okS l) : WalkD K F (fun H => H a = some (.frz od (.ext (kdH a ks)))) (Itkd a od ks) (ks.map kdD) := by
  have hl : (ks.map kdD).length = ks.length := by rw [List.length_map]
  refine ⟨fun i H F' hi ff s l => ⟨l, by rw [hl] at hi; exact hi⟩, fun H F' ff s l => ⟨l, Nat.le_of_eq hl.symm⟩, fun i H F' x H' hi ff s l y => ?_⟩
  obtain ⟨e, k, h1, rfl⟩ := y
  subst e
  refine ⟨F', .refl s, kdD k, by rw [List.getElem?_map, h1]; rfl, ?_⟩
  cases k with
  | none => exact .non
  | some l => exact .str l (r l (List.mem_of_getElem? h1))
theorem kd_walk {K : PySem.W.Frag} {F H : Hp} {a : Addr} {od : Obj} {ks : List (Option (List Nat))} (r : ∀ l, some l ∈ ks → okS l) (z : ks.length ≤ LIM) (h : H a = some (.frz od (.ext (kdH a ks)))) : RW K F H (Itkd a od ks) (ks.map kdD) :=
  ⟨fun H => H a = some (.frz od (.ext (kdH a ks))), wk_kd r, h, fun H H' e s => s a _ e, by rw [List.length_map]; exact z⟩
section
variable {ct : String → Addr} {k : Nat} {X : Cx} {W : WS} {e a b c : Expr} {es : List Expr} {pos : Pos} {ev ea eb ec : Xv}
theorem lcKd_read {K : PySem.W.Frag} {T : Tg} {own : List Nat} {tv : Tv} {ee : Xv} {σ : St} {env : En} {H0 F0 F1 H1 : Hp} {ks : List (Option (List Nat))} {p : Addr} {Q : VK} (ho : ∀ i ∈ ixs T, i ∈ own) (S1 : SR K H0 F0 F1 H1 σ env) (fp : F1 p = some (.ext (kdH p ks))) (zl : ks.length ≤ LIM) (rk : ∀ l, some l ∈ ks → okS l)
    (q : Got (RE K) W F1 H1 σ Q ((lcD T tv ee (wipeE env own) (ks.map kdD)).bind fun r => .ok (.lst r))) :
    ∃ d ks, V.ref p = .ref d ∧ ((H1 d = some (.ext (kdH d ks)) ∧ ∀ od, (∀ o' u', X.H_0 d ≠ some (.frz o' u')) → LcAsk K T own tv ee σ (Ul X Q) (Itkd d od ks) (upd H1 d (.frz od (.ext (kdH d ks))))) ∨ ∃ od, H1 d = some (.frz od (.ext (kdH d ks))) ∧ LcAsk K T own tv ee σ (Ul X Q) (Itkd d od ks) H1) := by
  refine ⟨p, ks, rfl, ?_⟩
  rcases S1.sub p _ fp with hp | ⟨od, hp⟩
  · refine .inl ⟨hp, fun od hn => ?_⟩
    refine LcAsk.imp (Q := fun v H' => ∃ F', Gd F1 (upd H1 p (.frz od (.ext (kdH p ks)))) F' H' ∧ Q v (upd H' p (.ext (kdH p ks)))) ?_ fun v H' ⟨F', gd, h⟩ => .inr ⟨p, od, _, gd.hh _ _ upd_same, hn, h⟩
    refine lc_ask (W := W) ho (S1.rebaseL fp hp) (kd_walk rk zl upd_same) ?_
    cases z : (lcD T tv ee (wipeE env own) (ks.map kdD)) with
    | ok r => rw [z] at q; exact fun v F' H' gd r' => ⟨F', gd, q v F' _ (Gd.unlock fp hp gd) r'⟩
    | exc c => exact absurd z (lcD_noexc _)
    | bad => rw [z] at q; exact q.elim
  · exact .inr ⟨od, hp, LcAsk.imp (lc_ask ho S1 (kd_walk rk zl hp) q) fun v H h => .inl h⟩
theorem e_lcKd (hW : HasW.P = X.prog ∧ HasW.w = X.w) {elt tg iter : Expr} {ifs : List Expr} {scope : Scope} {own : List (Str × Nat)} {T : Tg} {tv : Tv} {ee : Xv} (hi : PEv ct k X W iter ea) (ok : blkC X.N X.env.scope scope own = true) (ho : ∀ i ∈ ixs T, i ∈ own.map (·.2))
    (hg : ∀ (s : Shared) (H : Hp) (A : Addr) (cl : List (Str × Addr)) (fp : List Addr), X.N.Nodup → X.calm = true → PGv (X.blk s H scope (compEnvC scope cl A X.env) fp) tg T)
    (ht : ∀ (s : Shared) (H : Hp) (A : Addr) (cl : List (Str × Addr)) (fp : List Addr), PTsv ct k (X.blk s H scope (compEnvC scope cl A X.env) fp) WF ifs tv)
    (he : ∀ (s : Shared) (H : Hp) (A : Addr) (cl : List (Str × Addr)) (fp : List Addr), PEv ct k (X.blk s H scope (compEnvC scope cl A X.env) fp) WF elt ee) (hs : ∀ x, foldedSetIterable iter X.env x = pure x := by intro _; rfl) :
    PEv ct k X W (.ListComp elt [⟨tg, iter, ifs, 0⟩] scope pos) (xLc T (own.map (·.2)) (iKeysK ea) tv ee) := fun C =>
  (pe_ul (pe_lc (g := gT X.K T) (tt := rd X.K RB WF tv) (te := rd X.K (RE X.K) WF ee) C.calm C.nd (pi_kdL hW.1 hW.2 (hi C)) (blkOk_by ok) (fun s H A cl fp => hg s H A cl fp C.nd C.calm) (fun s H A cl fp => ht s H A cl fp C.blk) (fun s H A cl fp => he s H A cl fp C.blk) hs)).imp fun σ H Q ⟨H0, F0, F, env, S, g⟩ => by
    have g' : Got (RE X.K) W F H σ Q ((ea env).bind fun d => match d with | .kd ks => ((lcD T tv ee (wipeE env (own.map (·.2))) (ks.map kdD)).bind fun r => .ok (.lst r)) | _ => .bad) := by
      have e : xLc T (own.map (·.2)) (iKeysK ea) tv ee env = ((ea env).bind fun d => match d with | .kd ks => ((lcD T tv ee (wipeE env (own.map (·.2))) (ks.map kdD)).bind fun r => .ok (.lst r)) | _ => .bad) := by
        unfold xLc iKeysK
        cases ea env with
        | ok d => cases d <;> rfl
        | exc c => rfl
        | bad => rfl
      rw [e] at g; exact g
    refine seq S g' fun v d F1 H1 S1 g1 rv q => ?_
    cases d with
    | kd ks =>
      cases rv with
      | kd fp zl rk =>
        exact lcKd_read (X := X) ho S1 fp zl rk q
    | _ => exact q.elim
end
end Pv

namespace Pv
/-- sorted of a tuple -/
def sortU : D → Res D
  | .tup ds => if srtOk ds = true then .ok (.lst (ds.mergeSort dle)) else .bad
  | _ => .bad
end Pv

namespace Pv
variable [HasW]
open PySem PySem.Spec L2
/-! ### sorted of a tuple -/
def rSrtT (K : PySem.W.Frag) : List V → Hp → VK → Prop := fun vs H Q => ∃ (a : Addr) (xs : List V) (ds : List D) (P : V → D → Prop), vs = [V.ref a] ∧ SqT K H a xs ∧ DpAll K H xs (ds.map toP) ∧ PySem.W.EachIs P xs ds ∧ PySem.W.AllAlike (ds.map toP) ∧ PySem.W.Sortable (ds.map toP) ∧
  (∀ d ∈ ds, (toP d).depth ≤ 60) ∧ ∀ (ys : List V) (p : Addr), PySem.W.EachIs P ys (ds.mergeSort (PySem.W.dataLe false toP)) → H p = none → Q (.ref p) (upd H p (.lst ys))
section
variable {X : Cx} {k : Nat}
theorem cr_srtT (hr : Room k X.A) : CallR X (.builtin "sorted") (rSrtT X.K) := by
  intro pins s σ H xs us Q I r q
  obtain ⟨a, vs, ds, P, ex, hs, hdp, hp, hal, hk, hdep, q⟩ := q
  subst ex
  obtain ⟨u, rfl, ru⟩ := r.one
  cases ru
  obtain ⟨its, rv, ⟨o, ho, hc, n, hd⟩, hz⟩ := I.tuple hs
  have hlen : its.length = ds.length := (each_rel rv hp).length
  have hn : vs.length = its.length := rv.length
  refine Calls.call_function_entry PyProof.Rows.kind_sorted PyProof.Rows.plain_sorted PyProof.Rows.entry_sorted (PyProof.Rows.args_sorted1 _) ?_
  unfold Builtin.«sorted»
  refine wpAny_bind (m := checkCount "sorted" 1 1 _) (wpAny_pure ?_)
  refine wpAny_bind (wpAny_collect_seq (hsz := by rw [List.size_toArray]; omega) a (.inr rfl) ho hc hd fun h' hk' => ?_)
  have I1 : Inv X pins σ H { s with heap := h' } := I.kept (t' := s.toks) hk'
  obtain ⟨as, hrd⟩ := Dp.readsAll I1 _ _ its hdp rv
  show wpAny _ _ (do let l ← newList its; _) _ _ _
  refine wpAny_bind (wpAny_newList ?_ (by omega))
  have hoL : (h'.push (PyProof.Rows.seqObj "list" its.toArray 0)).get? h'.objs.size = some (PyProof.Rows.seqObj "list" its.toArray 0) := Heap.get?_push_size _ rfl
  show wpAny _ _ _ _ _ { s with heap := h'.push (PyProof.Rows.seqObj "list" its.toArray 0) }
  have er := PySem.W.readsAll_each toP hrd
  have er' : PySem.W.EachIs (fun v b => ∃ as, Reads (PySem.W.sortingHeap (h'.push (PyProof.Rows.seqObj "list" its.toArray 0)) h'.objs.size its) v (toP b) as) its ds :=
    er.mono fun _ _ ⟨as, r⟩ => ⟨as, PyProof.Rows.Reads.keeps (fun b o q => PySem.W.sortingHeap_old (Nat.ne_of_lt (Heap.lt_size q)) (Heap.get?_push_of_some _ q)) r⟩
  have e := each_rel rv hp
  refine wpAny_bind (wpAny_holding (wpAny_call_entry PyProof.Rows.slot_list_sort ⟨_, hoL, rfl⟩ PyProof.Rows.entry_list_sort (PySem.W.list_sort_vals (κ := PySem.W.dataKind (PySem.W.sortingHeap (h'.push (PyProof.Rows.seqObj "list" its.toArray 0)) h'.objs.size its) (ds.map toP)) hoL
    (PySem.W.SortsAt.data (s := { s with heap := PySem.W.sortingHeap (h'.push (PyProof.Rows.seqObj "list" its.toArray 0)) h'.objs.size its }) (PySem.W.each_map (R := fun v d => ∃ as, Reads (PySem.W.sortingHeap (h'.push (PyProof.Rows.seqObj "list" its.toArray 0)) h'.objs.size its) v d as) toP er') hal hk (PySem.W.bound_map fun b hb => ?_)) (by rw [e.length]; omega) ⟨.none, rfl, ?_⟩) (PyProof.Rows.args_list_sort _)))
  · have := hdep b hb
    have := hr.units
    simp only [Around.in1] at *
    omega
  · have eo := PySem.W.sortVals_data false e er' hal
    have hol := PySem.W.sortVals_length (κ := PySem.W.dataKind (PySem.W.sortingHeap (h'.push (PyProof.Rows.seqObj "list" its.toArray 0)) h'.objs.size its) (ds.map toP)) (vs := its) false rfl
    obtain ⟨ys, h1, h2⟩ := each_back eo
    obtain ⟨e', he'⟩ := PyProof.Rows.sortedHeap_at (vs := its) (out := (PySem.W.sortVals (PySem.W.dataKind (PySem.W.sortingHeap (h'.push (PyProof.Rows.seqObj "list" its.toArray 0)) h'.objs.size its) (ds.map toP)) false its its).toArray) hoL
    refine wpAny_pure ⟨_, rfl, .ref h'.objs.size, upd H h'.objs.size (.lst ys), I1.laid (t' := s.toks) (fun b u e => ?_) (Nat.le_refl _) (show ObjOk X.prog X.w _ _ _ (.lst _) from ⟨?_, _, e', h1, he'⟩), rfl, q ys _ h2 (I1.hok.fresh (Nat.le_refl _))⟩
    · have hb : b < h'.objs.size := Heap.lt_size e
      rw [PyProof.Rows.sortedHeap_old (Nat.ne_of_lt hb) (by rw [PyProof.Rows.size_push']; exact Nat.lt_succ_of_lt hb)]
      exact Heap.get?_push_of_some _ e
    · have : ys.length = _ := h1.length
      omega
end
section
variable {K : PySem.W.Frag} {ct : String → Addr} {k : Nat} {X : Cx} {W : WS} {e a b c : Expr} {es : List Expr} {pos : Pos} {ev ea eb ec : Xv}
theorem ud_srtT : UnD K (rSrtT K) sortU := by
  intro F H x d Q s rx g
  cases d with
  | tup ds =>
    dsimp only [sortU] at g
    split at g
    · rename_i z
      unfold srtOk at z
      simp only [Bool.and_eq_true, decide_eq_true_eq] at z
      obtain ⟨⟨⟨z1, z2⟩, z3⟩, z4⟩ := z
      obtain ⟨p, vs, ex, hq, zl, rv, _⟩ := bo_tup s rx
      subst ex
      obtain ⟨dp, cl⟩ := rpA_dp s rv z1
      rw [toPs_map] at dp
      have hal : PySem.W.AllAlike (ds.map toP) := by
        intro a ha b hb
        obtain ⟨a', ha', rfl⟩ := List.mem_map.mp ha
        obtain ⟨b', hb', rfl⟩ := List.mem_map.mp hb
        exact toP_alike a' b' (alkAll_mem z2 ha' hb') (plains_mem z1 _ ha') (plains_mem z1 _ hb')
      have hso : PySem.W.Sortable (ds.map toP) := by
        rw [Bool.or_eq_true] at z4
        rcases z4 with z4 | z4
        · refine .inl fun d hd => ?_
          obtain ⟨d', hd', rfl⟩ := List.mem_map.mp hd
          have := List.all_eq_true.mp z4 d' hd'
          cases d' with
          | tup es =>
            cases es with
            | nil => simp at this
            | cons y ys => exact ⟨toP y, toPs ys, by simp [toP, toPs]⟩
          | _ => simp at this
        · refine .inr fun d hd => ?_
          obtain ⟨d', hd', rfl⟩ := List.mem_map.mp hd
          have := List.all_eq_true.mp z4 d' hd'
          have pl := plains_mem z1 _ hd'
          cases d' with
          | non => simp at this
          | tup es => simp at this
          | dic _ => simp [plain] at pl
          | obj _ => simp [plain] at pl
          | fn _ => simp [plain] at pl
          | kd _ => simp [plain] at pl
          | _ => simp [toP]
      have ems : ds.mergeSort (PySem.W.dataLe false toP) = ds.mergeSort dle := by
        refine ms_congr ds fun a ha b hb => ?_
        rw [PySem.W.dataLe_eq]
        show (!PySem.W.dataLt (toP b) (toP a)) = !dlt b a
        have hn : isNon b = false := by
          rw [Bool.or_eq_true] at z4
          rcases z4 with z4 | z4
          · have := List.all_eq_true.mp z4 b hb
            cases b <;> first | rfl | (simp at this; done)
          · have := List.all_eq_true.mp z4 b hb
            cases b <;> first | rfl | (simp at this; done)
        rw [toP_lt b a (alkAll_mem z2 hb ha) (plains_mem z1 _ hb) (plains_mem z1 _ ha) hn]
      refine ⟨p, vs, ds, Rp K F, rfl, hq, dp, each_A rv, hal, hso, fun d hd => ?_, fun ys p' h1 np => ?_⟩
      · rw [toP_dep]; exact Nat.le_trans (deps_mem hd) z3
      · rw [ems] at h1
        have ra := A_each h1
        have hl : ys.length ≤ LIM := by
          rw [ra.length, List.length_mergeSort, ← rv.length]; exact zl
        exact got_new s g np fun ff => .lst upd_same hl (ra.mono ff)
    · exact g.elim
  | _ => exact g.elim
theorem e_sortU {p : Pos} (hm : X.mg "sorted" = none) (ha : PBv ct k X W a ea) (hg : Gl X "sorted" := by rfl) (he : starEach [a] X.env = (false, eval a X.env) :: starEach [] X.env := by rfl) : PEv ct k X W (.Call (.Name "sorted" p) [a] [] pos) (xU sortU ea) := fun C =>
  e_blt ud_srtT (fun _ => cr_srtT C.room) hm (by decide +kernel) ha hg (by decide) (by decide) he C
end
end Pv

namespace Pv
variable [HasW]
open PySem PySem.Spec L2
/-! ### functions as values -/
section
variable {ct : String → Addr} {k : Nat} {X : Cx} {W : WS} {e fe : Expr} {es : List Expr} {pos : Pos} {fv : Xv} {aa : Av}
/-- a def's name, as a value -/
theorem e_gfn (n : String) {x : Str} {p : Pos} (hm : X.mg x = some (.ref (He.ga X.K (Str.ofString n)))) (hg : Gl X x := by rfl) (hdb : (x == ("__debug__" : Str)) = false := by decide) : PEv ct k X W (.Name x p) (xC (.fn n)) := fun C =>
  (pe_glob (v := .ref (He.ga X.K (Str.ofString n))) hg hm rfl hdb).imp fun σ H Q ⟨H0, F0, F, env, S, g⟩ => g _ F H (.refl S.sub) (.fn n)
/-- what is known of the functions that may be called -/
def CaT (P : Program) (w : World) (K : PySem.W.Frag) (mg : Str → Option Value) (base : Heap) (ct : String → Addr) (j : Nat) (tb : String → Option (List D → Res D)) : Prop :=
  ∀ n Fn, tb n = some Fn → ∃ j' fd ps, j' ≤ j ∧ FnOk P w K mg base (L2.CX P w) j' (He.ga K (Str.ofString n)) fd ps (spF K ct Fn) ∧ PySem.W.keepIn K (.ref (He.ga K (Str.ofString n))) = true ∧ Binds K fd ps []
theorem caT_nil {P : Program} {w : World} {K : PySem.W.Frag} {mg : Str → Option Value} {base : Heap} {j : Nat} : CaT P w K mg base ct j (fun _ => none) := fun n Fn h => by cases h
theorem caT_cons {P : Program} {w : World} {K : PySem.W.Frag} {mg : Str → Option Value} {base : Heap} {j j' : Nat} {tb : String → Option (List D → Res D)} {Fn : List D → Res D} (n : String) (G : Ca P w K mg base ct j' (Str.ofString n) Fn) (hm : mg (Str.ofString n) = some (.ref (He.ga K (Str.ofString n)))) (r : CaT P w K mg base ct j tb) (hj : j' ≤ j := by decide) : CaT P w K mg base ct j (fun m => if m = n then some Fn else tb m) := fun m Gn h => by
  dsimp only at h
  by_cases e : m = n
  · subst e
    rw [if_pos rfl] at h
    cases h
    obtain ⟨f, fd, ps, G, hf, hk, hb⟩ := G
    rw [hm] at hf
    cases hf
    exact ⟨j', fd, ps, hj, G, hk, hb⟩
  · rw [if_neg e] at h
    exact r m Gn h
theorem e_callX {j : Nat} {tb : String → Option (List D → Res D)} (G : CaT X.prog X.w X.K X.mg X.base ct j tb) (hf : PEv ct k X W fe fv) (ha : PAv ct k X W (e :: es) aa) (hj : j ≤ k := by decide) (hev : eval (.Call fe (e :: es) [] pos) X.env = (do callWith pos (← eval fe X.env) [] (backTo pos (starEach (e :: es) X.env)) (backToKw pos (keywordEach [] X.env))) := by rfl)
    (he : starEach (e :: es) X.env = (false, eval e X.env) :: starEach es X.env := by rfl) (hpl : (backTo pos (starEach es X.env)).any (·.1) = false := by rfl) : PEv ct k X W (.Call fe (e :: es) [] pos) (xCallV tb fv aa) := fun C => by
  have h0 : PE X (.Call fe (e :: es) [] pos) (fun σ H Q => rd X.K (RE X.K) W fv σ H fun x H1 => ∃ n Fn, x = .ref (He.ga X.K (Str.ofString n)) ∧ tb n = some Fn ∧ rd X.K (RA X.K) W aa σ H1 fun vs H2 => spF X.K ct Fn vs H2 Q (WE (wx ct W) σ)) := by
    refine ⟨fun pins s σ H Q I h => ?_⟩
    refine PyProof.Rows.Call_ ?_ hev
    refine thn ((hf C).run pins s σ H _ I h) fun u s1 ⟨x, H1, I1, r1, n, Fn, ex, et, q1⟩ => ?_
    subst ex
    obtain rfl : u = Value.ref (He.ga X.K (Str.ofString n)) := r1
    obtain ⟨j', fd, ps, hj', G', hk, hb⟩ := G n Fn et
    refine PySem.W.callWith_K (h₀ := X.base) I1.ok.mod.kin hk (thn ((ha C).run pos pins s1 σ H1 _ I1 q1) fun us s2 ⟨vs, H2, I2, r, q⟩ => ⟨I2.kIn, ?_⟩) he hpl
    exact run_fnS (E := fun _ => WE (wx ct W) σ) G' (C.room.mono (Nat.le_trans hj' hj)) hb (passAt C.tk σ) I2 r q
  refine h0.imp fun σ H Q ⟨H0, F0, F, env, S, g⟩ => seq S g fun x d F1 H1 S1 g1 rx q1 => ?_
  cases d with
  | fn n =>
    cases rx
    dsimp only at q1
    cases z : tb n with
    | none => rw [z] at q1; exact q1.elim
    | some Fn =>
      rw [z] at q1
      refine ⟨n, Fn, rfl, z, seq S1 q1 fun vs ds F2 H2 S2 g2 rv q => ⟨F2, ds, S2.sub, rv, ?_⟩⟩
      cases y : Fn ds with
      | ok d => rw [y] at q; exact q
      | exc c => rw [y] at q; exact fun F' H' gd => ⟨c, rfl, rfl, q F' H' gd⟩
      | bad => rw [y] at q; exact q
  | _ => exact q1.elim
end
end Pv

namespace Pv
open PySem PySem.Spec L2
abbrev ctK (K : PySem.W.Frag) (c : String) : Addr := He.ga K (Str.ofString c)
def noL (K : PySem.W.Frag) : Bool := K.all fun p => match p.2.cls with
  | .type t => !(t == "list")
  | _ => true
theorem noL_ok {K : PySem.W.Frag} (h : noL K = true) {a : Addr} {o : Obj} (e : K.lookup a = some o) : o.cls ≠ .type "list" := by
  have m : (a, o) ∈ K := by
    have key : ∀ (K : List (Addr × Obj)), K.lookup a = some o → (a, o) ∈ K := by
      intro K
      induction K with
      | nil => intro h; cases h
      | cons p K ih =>
        obtain ⟨b, u⟩ := p
        intro h
        rw [List.lookup_cons] at h
        by_cases q : (a == b) = true
        · rw [q] at h
          have e : u = o := Option.some.inj h
          have e2 : a = b := eq_of_beq q
          subst e e2
          exact List.mem_cons_self
        · rw [Bool.not_eq_true] at q
          rw [q] at h
          exact List.mem_cons_of_mem _ (ih h)
    exact key K e
  have z := List.all_eq_true.mp h (a, o) m
  intro q
  simp only [q] at z
  simp at z
def excCB (K : PySem.W.Frag) (D : Addr) : Bool :=
  He.eqO (PySem.W.findIn K (.ref D) "__getattribute__") (some (some (.builtin "BaseException.__getattribute__"))) && (He.eqO (PySem.W.findIn K (.ref D) "__getattr__") (some none) && (decide (PySem.W.subIn K (.ref D) (.type "BaseException") = some true) && (PySem.W.hasDictIn K D &&
    (He.eqO (PySem.W.findIn K (.ref D) "__class__") (some (some (.builtin "object.__class__"))) && (He.eqO (PySem.W.specialIn K (.builtin "object.__class__") "__get__") (some (some (.builtin "getset_descriptor.__get__"))) && (decide (PySem.W.takesIn K (.builtin "object.__class__") = some true) && decide (PySem.W.mroIn K D (.type "object") = some true)))))))
theorem excCB_ok {K : PySem.W.Frag} {D : Addr} (h : excCB K D = true) : ExcC K D := by
  obtain ⟨h1, h⟩ := He.ba h
  obtain ⟨h2, h⟩ := He.ba h
  obtain ⟨h3, h⟩ := He.ba h
  obtain ⟨h4, h⟩ := He.ba h
  obtain ⟨h5, h⟩ := He.ba h
  obtain ⟨h6, h⟩ := He.ba h
  obtain ⟨h7, h8⟩ := He.ba h
  exact ⟨He.eqO_ok h1, He.eqO_ok h2, of_decide_eq_true h3, h4, He.eqO_ok h5, He.eqO_ok h6, of_decide_eq_true h7, of_decide_eq_true h8⟩
def exB (excs : List String) (isa : String → String → Bool) (K : PySem.W.Frag) : Bool :=
  noL K && excs.all fun c => excCB K (ctK K c) && (excs.all fun d => decide (PySem.W.kitOne K (.ref (ctK K c)) (.ref (ctK K d)) = some (isa c d)) && decide (PySem.W.exmOne K (.ref (ctK K c)) (.ref (ctK K d)) = some (isa c d)))
theorem exB_ok {excs : List String} {isa : String → String → Bool} {K : PySem.W.Frag} (h : exB excs isa K = true) : (∀ c, c ∈ excs → ExcC K (ctK K c)) ∧ (∀ c, c ∈ excs → ∀ d, d ∈ excs → PySem.W.kitOne K (.ref (ctK K c)) (.ref (ctK K d)) = some (isa c d)) ∧ (∀ c, c ∈ excs → ∀ d, d ∈ excs → PySem.W.exmOne K (.ref (ctK K c)) (.ref (ctK K d)) = some (isa c d)) := by
  obtain ⟨_, h⟩ := He.ba h
  have h := List.all_eq_true.mp h
  refine ⟨fun c hc => excCB_ok (He.ba (h c hc)).1, fun c hc d hd => ?_, fun c hc d hd => ?_⟩
  · exact of_decide_eq_true (He.ba (List.all_eq_true.mp (He.ba (h c hc)).2 d hd)).1
  · exact of_decide_eq_true (He.ba (List.all_eq_true.mp (He.ba (h c hc)).2 d hd)).2
abbrev AlE : Type := He.AlD × Bool
def obsE (n : Nat) (fa : List He.Fa) (fn : List He.DefD) (ex : PySem.W.Frag → Bool) (g : Addr → Option Obj) : AlE := (He.obsD fa fn (He.frG g (He.asD g n)), ex (He.frG g (He.asD g n)))
def hookE (n : Nat) (fa : List He.Fa) (fn : List He.DefD) (ex : PySem.W.Frag → Bool) : PySem.W.Hook where
  α := AlE
  obs := fun s => obsE n fa fn ex s.heap.get?
  val := fun _ => (He.valD fn, true)
  says := fun _ h => ∃ K : PySem.W.Frag, K.In h ∧ He.SaysD fa fn K ∧ ex K = true
  of := fun _ _ e => ⟨_, He.frG_in, congrArg (fun z : AlE => z.1) e, congrArg (fun z : AlE => z.2) e⟩
  keeps := fun _ _ _ ⟨K, hK, c⟩ k => ⟨K, PySem.W.Frag.In.keeps hK k, c⟩
theorem obsE_eq {n : Nat} {fa : List He.Fa} {fn : List He.DefD} {ex : PySem.W.Frag → Bool} {g : Addr → Option Obj} {s : Shared} (h : ∀ a, g a = s.heap.get? a) : obsE n fa fn ex g = (hookE n fa fn ex).obs s := by
  have e : g = s.heap.get? := funext h
  rw [e] <;> rfl
theorem exB_noL {excs : List String} {isa : String → String → Bool} {K : PySem.W.Frag} (h : exB excs isa K = true) : noL K = true := (He.ba h).1
/-- the law's promise at a script -/
theorem law_sp [HasW] {K : PySem.W.Frag} {ct : String → Addr} {Fn : List D → Res D} {H : Hp} {a : Addr} {ns : List Int} (hno : noL K = true) (hO : Only H) (hS : SqL K H a (ns.map V.int)) (hl : ns.length ≤ LIM) (h : Fn [.lst (ns.map D.int)] = .ok (.bl true)) :
    spF K ct Fn [.ref a] H (fun v _ => v = .bl true) fun _ _ _ => False := by
  have hR : Rd H a (.lst (ns.map V.int)) := by
    rcases hS with hS | ⟨o, its, n, e, hc, _⟩
    · exact hS
    · exact absurd hc (noL_ok hno e)
  refine ⟨fun b => if b = a then some (.lst (ns.map V.int)) else none, [.lst (ns.map D.int)], fun b u hb => ?_, .cons (.lst (if_pos rfl) (by simpa using hl) ?_) .nil, ?_⟩
  · dsimp only at hb
    by_cases e : b = a
    · subst e
      rw [if_pos rfl] at hb
      cases hb
      exact hR
    · rw [if_neg e] at hb; cases hb
  · have key : ∀ (F : Hp) (ns : List Int), RpA K F (ns.map V.int) (ns.map D.int) := by
      intro F ns
      induction ns with
      | nil => exact .nil
      | cons n ns ih => exact .cons (.int n) ih
    exact key _ ns
  · rw [h]
    intro v F' H' gd r
    exact rp_bl r
/-- as the kit's walk_ofE; what leaves a def hangs on the world -/
theorem walk_ofX {l : PySem.W.OpenLaw} {n k : Nat} {q : Program} {loose : List Str} {XP : (Str → Option Value) → Heap → Prop} {YP : World → Heap → Prop} {d : DefRec} {x : Str}
    (hn : l.most = some n) (hn2 : n ≤ sizeLine) (hdf : d.params.defaults = []) (hr : Room k callerA)
    (F : ∀ (w : World) (mg : Str → Option Value) (fa : Addr) (h : Heap), YP w h → h.Ns mainGlobals mg → mg d.name = some (.ref fa) →
      ∃ (K : PySem.W.Frag) (fd : FuncData) (sp : Sp), K.In h ∧ (∀ (s : Shared) (u : Value), BindsTo s fd ⟨[u], []⟩ [(x, u)]) ∧
        (∀ (H : Hp) (a : Addr) (ns : List Int), ns.length ≤ n → Only H → SqL K H a (ns.map V.int) → sp [.ref a] H (fun v _ => v = .bl true) fun _ _ _ => False) ∧
        ∀ base : Heap, K.In base → base.Ns mainGlobals mg → FnOk l.prog w K mg base (L2.CX l.prog w) k fa fd [x] sp) :
    PySem.W.WalkO q loose XP YP l.row.toRowW d [] (fun f vs => PySem.call f vs) := by
  refine Att.attach_call hn hdf fun w s₀ s₁ mg mb fa o pm cd doc a vs ns G Y ho hd hcd hmg hobj hints hlen hg => ?_
  obtain ⟨K, fd, sp, KX, hb, hsp, hF⟩ := F w mg fa _ Y G.T.g hmg
  exact law_call KX G.T.g G.T.b G.T.builtins G.T.nolimit hg hobj hints (Nat.le_trans hlen hn2) hr hF hb (fun H hO hS => hsp H a ns hlen hO hS) fun H e s' z => by
    obtain ⟨_, _, _, _, _, _, _, _, _, _, _, _, z⟩ := z
    exact z
end Pv

namespace Pv
/-! ### lists that are all new -/
def okLs : Res D → Bool
  | .ok (.lst ds) => decide (ds.length ≤ 1000000)
  | _ => false
def aoNil : En → Bool := fun _ => true
def aoCons (ev : Xv) (r : En → Bool) : En → Bool := fun env => okLs (ev env) && r env
/-- number = ..; found = [..]; found = found + [..]; return found + [..] -/
def lsOk (i : Nat) (s1 : Sv) (l2 l3 l4 : En → Bool) (env : En) : Bool := match s1 env with
  | .nx env' => decide (i < env'.length) && (gt env' i).isNone && l2 env' && l3 env' && l4 env'
  | _ => false
def mkLs (n m : Nat) (f : En → Bool) (ds : List D) : Bool := decide (ds.length = n) && f (iniE m ds)
/-- spoil(lists(..)) -/
def xSp (f : List D → Bool) (aa : Av) : Xv := fun env => (aa env).bind fun ds => if f ds = true then .ok (.bl true) else .bad
end Pv

namespace Pv
/-! ### a def that calls a lambda and tells None for an exception -/
def rdL (cat : String → Option Bool) (ev : Xv) : Xv := fun env => match ev env with
  | .ok d => .ok d
  | .exc c => if cat c = some true then .ok .non else .bad
  | .bad => .bad
end Pv

namespace Pv
/-! ### str.split by one sign, int of a digit, str of a small number, str.replace -/
def splL (c : Nat) : List Nat → List (List Nat)
  | [] => [[]]
  | a :: r => if a = c then [] :: splL c r else match splL c r with
    | [] => [[a]]
    | w :: ws => (a :: w) :: ws
def splitD : D → D → Res D
  | .str a, .str [c] => if c < 256 ∧ a.length + 2 ≤ LIM then .ok (.lst ((splL c a).map .str)) else .bad
  | _, _ => .bad
def intS : D → Res D
  | .str [c] => if 48 ≤ c ∧ c ≤ 57 then .ok (.int ((c - 48 : Nat) : Int)) else .bad
  | _ => .bad
def strI : D → Res D
  | .int i => if 0 ≤ i ∧ i ≤ 9 then .ok (.str [48 + i.toNat]) else .bad
  | _ => .bad
def repD (y z : List Nat) : D → Res D
  | .str l => if l.length + (l.length + 1) * z.length ≤ LIM then .ok (.str (PySem.StrLaws.replL y z l)) else .bad
  | _ => .bad
end Pv

namespace Pv
open PySem PySem.Spec L2 PyProof.Rows
/-! ### 5 i + 1 modulo powers of two meets all -/
def rn : Nat → Nat
  | 0 => 0
  | k + 1 => rn k * 5 + 1
theorem rn_add (a : Nat) : ∀ k, rn (a + k) = 5 ^ k * rn a + rn k
  | 0 => by simp [rn]
  | k + 1 => by
    show rn (a + k) * 5 + 1 = _
    rw [rn_add a k, Nat.pow_succ, rn]
    have : 5 ^ k * 5 * rn a = 5 * (5 ^ k * rn a) := by rw [Nat.mul_comm (5 ^ k) 5, Nat.mul_assoc]
    omega
theorem five_rn : ∀ k, 5 ^ k = 4 * rn k + 1
  | 0 => rfl
  | k + 1 => by rw [Nat.pow_succ, five_rn k, rn]; omega
theorem rn_two : ∀ p, ∃ c, rn (2 ^ p) = 2 ^ p * (2 * c + 1)
  | 0 => ⟨0, rfl⟩
  | p + 1 => by
    obtain ⟨c, e⟩ := rn_two p
    have e1 : rn (2 ^ (p + 1)) = 5 ^ (2 ^ p) * rn (2 ^ p) + rn (2 ^ p) := by
      rw [← rn_add, Nat.pow_succ]; congr 1; omega
    refine ⟨2 * rn (2 ^ p) * c + rn (2 ^ p) + c, ?_⟩
    rw [e1, five_rn, Nat.pow_succ]
    generalize rn (2 ^ p) = r at e ⊢
    generalize 2 ^ p = q at e ⊢
    have h2 : (4 * r + 1) * r + r = 2 * ((2 * r + 1) * r) := by grind
    rw [h2]
    have h3 : (2 * r + 1) * r = (2 * r + 1) * (q * (2 * c + 1)) := by rw [← e]
    rw [h3]
    grind
theorem rn_all : ∀ p j, j < 2 ^ p → ∃ b, b < 2 ^ p ∧ rn b % 2 ^ p = j
  | 0, j, h => ⟨0, by decide, by simp at h; subst h; rfl⟩
  | p + 1, j, h => by
    obtain ⟨c, ec⟩ := rn_two p
    generalize hq : 2 ^ p = q at ec
    have hp : 2 ^ (p + 1) = q * 2 := by rw [Nat.pow_succ, hq]
    have q0 : 0 < q := by rw [← hq]; exact Nat.pow_pos (by decide)
    rw [hp] at h ⊢
    obtain ⟨b, hb, e⟩ := rn_all p (j % 2 ^ p) (Nat.mod_lt _ (by rw [hq]; exact q0))
    rw [hq] at hb e
    have hj1 : j / q < 2 := (Nat.div_lt_iff_lt_mul q0).mpr (by omega)
    have hj := Nat.div_add_mod j q
    by_cases hx : rn b / q % 2 = j / q
    · refine ⟨b, by omega, ?_⟩
      rw [Nat.mod_mul, e, hx]; omega
    · refine ⟨q + b, by omega, ?_⟩
      have e5 : ∃ d, 5 ^ b * rn q = q * (2 * d + 1) := by
        rw [five_rn, ec]
        generalize rn b = r
        refine ⟨4 * r * c + 2 * r + c, ?_⟩
        rw [Nat.mul_left_comm]
        congr 1
        rw [Nat.add_mul, Nat.mul_add]
        have : 4 * r * (2 * c) = 2 * (4 * r * c) := by rw [Nat.mul_left_comm]
        omega
      obtain ⟨d, ed⟩ := e5
      rw [rn_add, ed, Nat.mod_mul, Nat.mul_add_mod, e, Nat.mul_add_div q0]
      have : (2 * d + 1 + rn b / q) % 2 = j / q := by
        generalize j / q = u at *; generalize rn b / q = v at *; clear hj; omega
      rw [this]; omega
theorem lcgN_rn (m : Nat) : ∀ k, lcgN m k = rn k % (m + 1)
  | 0 => rfl
  | k + 1 => by
    show (lcgN m k * 5 + 1) % (m + 1) = (rn k * 5 + 1) % (m + 1)
    rw [lcgN_rn m k, Nat.add_mod, Nat.mod_mul_mod, ← Nat.add_mod]
theorem lcgI_rn (m i : Nat) (hi : i ≤ m) : ∀ k, lcgI m i k = (5 ^ k * i + rn k) % (m + 1)
  | 0 => by
    show i = _
    rw [Nat.pow_zero, Nat.one_mul]
    exact (Nat.mod_eq_of_lt (Nat.lt_succ_of_le hi)).symm
  | k + 1 => by
    show (lcgI m i k * 5 + 1) % (m + 1) = _
    rw [lcgI_rn m i hi k, Nat.add_mod, Nat.mod_mul_mod, ← Nat.add_mod, rn, Nat.pow_succ]
    congr 1
    have : 5 ^ k * 5 * i = 5 * (5 ^ k * i) := by rw [Nat.mul_comm (5 ^ k) 5, Nat.mul_assoc]
    omega
/-- the masks that come, up to 4914 elements -/
def MskG (m : Nat) : Prop := m = 7 ∨ m = 31 ∨ m = 127 ∨ m = 511 ∨ m = 2047 ∨ m = 8191
theorem MskG.pow {m : Nat} (h : MskG m) : ∃ p, m + 1 = 2 ^ p := by
  rcases h with e | e | e | e | e | e <;> subst e
  · exact ⟨3, rfl⟩
  · exact ⟨5, rfl⟩
  · exact ⟨7, rfl⟩
  · exact ⟨9, rfl⟩
  · exact ⟨11, rfl⟩
  · exact ⟨13, rfl⟩
theorem MskG.odd {m : Nat} (h : MskG m) : m % 2 = 1 := by rcases h with e | e | e | e | e | e <;> subst e <;> rfl
theorem MskG.le {m : Nat} (h : MskG m) : m ≤ 8191 := by rcases h with e | e | e | e | e | e <;> subst e <;> decide
theorem all_from {m : Nat} (hm : MskG m) {i j : Nat} (hi : i ≤ m) (hj : j ≤ m) : ∃ k, k ≤ m ∧ lcgI m i k = j := by
  obtain ⟨p, hp⟩ := hm.pow
  have meets : ∀ {j}, j ≤ m → ∃ b, b ≤ m ∧ lcgN m b = j := fun {j} h => by
    obtain ⟨b, hb, e⟩ := rn_all p j (by omega)
    exact ⟨b, by omega, by rw [lcgN_rn, hp]; exact e⟩
  obtain ⟨a, ha, ea⟩ := meets hi
  obtain ⟨b, hb, eb⟩ := meets hj
  have back : lcgN m (m + 1 + b) = lcgN m b := by
    obtain ⟨c, ec⟩ := rn_two p
    rw [lcgN_rn, lcgN_rn, rn_add, hp, ec, Nat.mul_left_comm, Nat.mul_add_mod]
  by_cases c : a ≤ b
  · refine ⟨b - a, by omega, ?_⟩
    rw [← ea, lcgN_add, show a + (b - a) = b by omega, eb]
  · refine ⟨b + (m + 1) - a, by omega, ?_⟩
    rw [← ea, lcgN_add, show a + (b + (m + 1) - a) = m + 1 + b by omega, back, eb]
/-- a slot begins a run -/
theorem run_at {m : Nat} (hm : MskG m) (h : Int) {j : Nat} (hj : j ≤ m) : ∃ n, n ≤ m + 12 ∧ runI m (SetTable.bits h) n = j := by
  obtain ⟨k, hk, e⟩ := all_from hm (runI_le m (SetTable.bits h) 12) hj
  exact ⟨12 + k, by omega, (runI_tail (bits_lt h) k).trans e⟩
theorem way_in (m : Nat) (h : Int) (k : Nat) : way m h k ≤ m := by
  have hi : SetTable.bits h % (m + 1) ≤ m := Nat.le_of_lt_succ (Nat.mod_lt _ (Nat.succ_pos _))
  have r := runEnd_bd hi
  have q := nth_in (m := m) k (runAt m (SetTable.bits h % (m + 1)) (SetTable.bits h)) (by
    show SetTable.bits h % (m + 1) + (SetTable.runEnd m (SetTable.bits h % (m + 1)) - SetTable.bits h % (m + 1)) ≤ m
    omega)
  exact Nat.le_trans (Nat.le_add_right _ _) q
/-! ### reached through occupied slots -/
def Rch (m : Nat) (occ : Nat → Prop) (h : Int) (j : Nat) : Prop := ∃ k, way m h k = j ∧ ∀ k', k' < k → occ (way m h k')
theorem Rch.mono {m : Nat} {occ occ' : Nat → Prop} {h : Int} {j : Nat} (r : Rch m occ h j) (i : ∀ x, occ x → occ' x) : Rch m occ' h j := by
  obtain ⟨k, e, z⟩ := r
  exact ⟨k, e, fun k' hk => i _ (z k' hk)⟩
theorem Rch.before {m : Nat} {occ : Nat → Prop} {h : Int} {j K : Nat} (r : Rch m occ h j) (hj : occ j) (hK : ¬ occ (way m h K)) : ∃ k, k < K ∧ way m h k = j := by
  obtain ⟨k, e, z⟩ := r
  refine ⟨k, ?_, e⟩
  rcases Nat.lt_trichotomy k K with c | c | c
  · exact c
  · subst c; rw [e] at hK; exact absurd hj hK
  · exact absurd (z K c) hK
/-- the first free slot, by runs -/
theorem first_free {m : Nat} (hm : MskG m) {occ : Nat → Prop} (h : Int) {j : Nat} (hj : j ≤ m) (hf : ¬ occ j) :
    ∃ K n, n ≤ m + 12 ∧ K ≤ off m (SetTable.bits h % (m + 1)) (SetTable.bits h) n ∧ K ≤ 10 * n ∧ ¬ occ (way m h K) ∧ ∀ k, k < K → occ (way m h k) := by
  obtain ⟨n, hn, e⟩ := run_at hm h hj
  have hw : way m h (off m (SetTable.bits h % (m + 1)) (SetTable.bits h) n) = j := by
    show (nth m _ _).j = j
    rw [nth_off, itL_run]; exact e
  obtain ⟨k, hk, e2⟩ := run_nth m (SetTable.bits h) n
  have hw2 : way m h k = j := by show (nth m _ _).j = j; rw [e2]; exact e
  obtain ⟨K, h1, h2, h3⟩ := st_least (p := fun k => ¬ occ (way m h k)) _ (by show ¬ occ (way m h _); rw [hw]; exact hf)
  refine ⟨K, n, hn, h1, ?_, h2, fun k' hk' => Classical.byContradiction (h3 k' hk')⟩
  rcases Nat.lt_or_ge k K with c | c
  · exact absurd (by show ¬ occ (way m h k); rw [hw2]; exact hf) (h3 k c)
  · exact Nat.le_trans c hk
end Pv

namespace Pv
open PySem PySem.Spec L2 PyProof.Rows
/-! ### a table of arbitrary hashes, up to 4914 of them -/
abbrev Occ (t : SetTable) : Nat → Prop := fun j => j ∈ t.place.toList
structure Tb (t : SetTable) (hs : List Int) : Prop where
  ris : Ris t.place.toList
  dm : t.dummies = #[]
  sz : t.place.size = hs.length
  mok : MskG t.mask
  bd : ∀ x, Occ t x → x ≤ t.mask
  rch : ∀ (i : Nat) (h : Int) (j : Nat), hs[i]? = some h → t.place.toList[i]? = some j → Rch t.mask (Occ t) h j
theorem Tb.free {t : SetTable} {hs : List Int} (T : Tb t hs) (hl : hs.length ≤ t.mask) (h : Int) : ∃ K n, n ≤ t.mask + 12 ∧ K ≤ 10 * n ∧ ¬ Occ t (way t.mask h K) ∧ ∀ k, k < K → Occ t (way t.mask h k) := by
  have hp : t.place.toList.length < t.mask + 1 := by have := T.sz; rw [Array.length_toList]; omega
  obtain ⟨j, hj, nj⟩ := st_missing t.place.toList (t.mask + 1) hp
  obtain ⟨K, n, a, _, c, d, e⟩ := first_free T.mok (occ := Occ t) h (Nat.le_of_lt_succ hj) nj
  exact ⟨K, n, a, c, d, e⟩
theorem Tb.back {t : SetTable} {hs : List Int} (T : Tb t hs) {h : Int} {K i j : Nat} (hK : ¬ Occ t (way t.mask h K)) (hi : hs[i]? = some h) (hj : t.place.toList[i]? = some j) : ∃ k, k < K ∧ way t.mask h k = j :=
  (T.rch i h j hi hj).before (List.mem_of_getElem? hj) hK
/-- one more, at the first free slot of its way -/
theorem Tb.more {t : SetTable} {hs : List Int} (T : Tb t hs) {h : Int} {K : Nat} (hK : ¬ Occ t (way t.mask h K)) (hb : ∀ k, k < K → Occ t (way t.mask h k)) :
    ∃ p, p ≤ hs.length ∧ p = SetTable.below t.place (way t.mask h K) ∧ (t.put (way t.mask h K)).2 = p ∧ Tb (t.put (way t.mask h K)).1 (hs.take p ++ h :: hs.drop p) ∧ (t.put (way t.mask h K)).1.mask = t.mask ∧
      (t.put (way t.mask h K)).1.led = t.led ∧ (t.put (way t.mask h K)).1.plain = t.plain ∧ (t.put (way t.mask h K)).1.fill = hs.length + 1 := by
  have hjm : way t.mask h K ≤ t.mask := way_in _ _ _
  generalize hj : way t.mask h K = j at *
  have cut := (below_cut T.ris j).1
  have lp : t.place.toList.length = hs.length := by rw [Array.length_toList]; exact T.sz
  have pl : SetTable.below t.place j ≤ t.place.toList.length := by rw [Array.length_toList]; exact cut
  have ph : SetTable.below t.place j ≤ hs.length := lp ▸ pl
  have hpp := put_place t j
  have nsz : (t.put j).1.place.size = hs.length + 1 := by rw [← Array.length_toList, hpp, len_ins _ pl, lp]
  have up : ∀ x, Occ t x → Occ (t.put j).1 x := fun x hx => by show x ∈ _; rw [hpp]; exact mem_ins.2 (.inr hx)
  refine ⟨SetTable.below t.place j, ph, rfl, rfl, ⟨ris_insert T.ris fun e => hK (List.mem_of_getElem? (by rw [Array.getElem?_toList]; exact e)), put_dm T.dm j, ?_, T.mok, fun x hx => ?_, fun i h' j' e1 e2 => ?_⟩, rfl, rfl, rfl, ?_⟩
  · rw [len_ins _ ph]; exact nsz
  · have hx' : x ∈ (t.put j).1.place.toList := hx
    rw [hpp] at hx'
    rcases mem_ins.1 hx' with z | z
    · rw [z]; exact hjm
    · exact T.bd x z
  · rw [tins_get hs ph] at e1
    rw [hpp, tins_get _ pl] at e2
    show Rch t.mask (Occ (t.put j).1) h' j'
    by_cases c : i < SetTable.below t.place j
    · rw [if_pos c] at e1 e2; exact (T.rch i h' j' e1 e2).mono up
    · rw [if_neg c] at e1 e2
      by_cases d : i = SetTable.below t.place j
      · rw [if_pos d] at e1 e2
        cases e1; cases e2
        exact ⟨K, hj, fun k' hk' => up _ (hb k' hk')⟩
      · rw [if_neg d] at e1 e2; exact (T.rch (i - 1) h' j' e1 e2).mono up
  · show (t.put j).1.place.size + (t.put j).1.dummies.size = hs.length + 1
    rw [nsz, put_dm T.dm j]; rfl
/-! ### laid anew -/
theorem own_more {m : Nat} (hm : MskG m) {done : List Int} {owner : Array (Option Nat)} (W : Own m done owner) (hl : done.length ≤ m) (h : Int) :
    ∃ j, SetTable.layClean.free m owner (SetTable.turns m) (SetTable.bits h % (m + 1)) (SetTable.bits h) = some j ∧ Own m (done ++ [h]) (owner.setIfInBounds j (some done.length)) := by
  obtain ⟨ps, hps, hin⟩ := W.ps
  obtain ⟨j0, h0, hn0⟩ := st_missing ps (m + 1) (by omega)
  have hf0 : ¬ (oAt owner j0 ≠ none) := fun c => hn0 (hin j0 (Nat.le_of_lt_succ h0) c)
  obtain ⟨K, n, hn, hKo, _, hfree, hocc⟩ := first_free hm (occ := fun j => oAt owner j ≠ none) h (Nat.le_of_lt_succ h0) hf0
  have hfr : oAt owner (way m h K) = none := Classical.byContradiction hfree
  have hjm : way m h K ≤ m := way_in _ _ _
  have self := oAt_set_self (owner := owner) (j := way m h K) (some done.length) (by rw [W.sz]; exact Nat.lt_succ_of_le hjm)
  have up : ∀ i, oAt owner i ≠ none → oAt (owner.setIfInBounds (way m h K) (some done.length)) i ≠ none := fun i hi => by
    by_cases c : i = way m h K
    · rw [c, self]; exact nofun
    · rw [oAt_set_ne _ c]; exact hi
  refine ⟨way m h K, free_spec m owner _ n _ _ K (by unfold SetTable.turns; omega) hKo (fun k hk => ?_) ?_, ⟨by rw [Array.size_setIfInBounds]; exact W.sz, fun j k hj e => ?_, fun k hk => ?_, way m h K :: ps, by simp [hps], fun j hj e => ?_⟩⟩
  · have q := hocc k hk
    cases z : oAt owner (nth m (runAt m (SetTable.bits h % (m + 1)) (SetTable.bits h)) k).j with
    | none => exact absurd z q
    | some _ => rfl
  · have q : oAt owner (nth m (runAt m (SetTable.bits h % (m + 1)) (SetTable.bits h)) K).j = none := hfr
    rw [q]; rfl
  · by_cases c : j = way m h K
    · rw [c, self] at e
      cases e
      exact ⟨h, K, by simp, c.symm, fun k' hk' => up _ (hocc k' hk')⟩
    · rw [oAt_set_ne _ c] at e
      obtain ⟨h', K', a1, a2, a3⟩ := W.at_ j k hj e
      refine ⟨h', K', ?_, a2, fun k' hk' => up _ (a3 k' hk')⟩
      rw [List.getElem?_append_left (List.getElem?_eq_some_iff.mp a1).1]; exact a1
  · by_cases c : k < done.length
    · obtain ⟨j, hj, e⟩ := W.all k c
      exact ⟨j, hj, by rw [oAt_set_ne _ (fun z => by rw [z, hfr] at e; cases e)]; exact e⟩
    · have ek : k = done.length := by simp at hk; omega
      subst ek
      exact ⟨_, hjm, self⟩
  · by_cases c : j = way m h K
    · rw [c]; exact List.mem_cons_self
    · rw [oAt_set_ne _ c] at e; exact List.mem_cons_of_mem _ (hin j hj e)
theorem own_all {m : Nat} (hm : MskG m) : ∀ (rest done : List Int) (owner : Array (Option Nat)), Own m done owner → done.length + rest.length ≤ m →
    ∃ owner', rest.foldl (stepF m) (some (owner, done.length)) = some (owner', (done ++ rest).length) ∧ Own m (done ++ rest) owner'
  | [], done, owner, W, _ => ⟨owner, by simp, by simpa using W⟩
  | h :: rest, done, owner, W, hl => by
    simp only [List.length_cons] at hl
    obtain ⟨j, e, W1⟩ := own_more hm W (by omega) h
    obtain ⟨o2, f, W2⟩ := own_all hm rest (done ++ [h]) _ W1 (by simp; omega)
    rw [List.append_assoc] at f W2
    refine ⟨o2, ?_, W2⟩
    rw [List.foldl_cons, stepF_some e]
    simpa using f
theorem laid_anew (t : SetTable) {hs : Array Int} {wanted M : Nat} (hw : SetTable.sizeAbove wanted - 1 = M) (hM : MskG M) (hn : hs.size ≤ M) :
    ∃ t' order, t.relaid hs wanted = some (t', order) ∧ order.toList.Perm (List.range hs.size) ∧ Tb t' (order.toList.map fun i => hs.getD i 0) ∧ t'.mask = M ∧ t'.led = t.led ∧ t'.plain = t.plain := by
  obtain ⟨owner, f, W⟩ := own_all hM hs.toList [] _ (Own.init M) (by simpa using hn)
  have e : SetTable.layClean M hs = some owner := by rw [layClean_eq]; erw [f]; rfl
  rw [List.nil_append] at W
  have rl := ris_live (fun j => owner.getD j none) (List.range (M + 1)) List.pairwise_lt_range
  have r1 : Ris ((liveOf M owner).map (·.1)) := rl.1
  have nd : ((liveOf M owner).map (·.1)).Nodup := r1.imp fun h => Nat.ne_of_lt h
  have there : ∀ k, k < hs.size → k ∈ (liveOf M owner).map (·.2) := fun k hk => by
    obtain ⟨j, b1, b2⟩ := W.all k (by simpa using hk)
    exact List.mem_map.mpr ⟨(j, k), (mem_live W.sz).2 ⟨b1, b2⟩, rfl⟩
  have hlen : (liveOf M owner).length = hs.size := by
    obtain ⟨ps, p1, p2⟩ := W.ps
    have a := nat_nodup_len _ ps nd fun x hx => by
      obtain ⟨⟨y, k⟩, hq, rfl⟩ := List.mem_map.mp hx
      obtain ⟨b1, b2⟩ := (mem_live W.sz).1 hq
      exact p2 y b1 (by rw [b2]; exact nofun)
    have b := nat_nodup_len (List.range hs.size) ((liveOf M owner).map (·.2)) List.nodup_range fun k hk => there k (List.mem_range.mp hk)
    simp at a b p1
    omega
  refine ⟨tabOf t M owner, ((liveOf M owner).map (·.2)).toArray, by rw [relaid_eq, hw, e]; rfl, ?_, ⟨r1, rfl, ?_, hM, fun x hx => ?_, fun i h j e1 e2 => ?_⟩, rfl, rfl, rfl⟩
  · exact perm_range hs.size _ (by simpa using hlen) (by simpa using there)
  · show ((liveOf M owner).map (·.1)).toArray.size = _
    simp
  · exact Nat.le_of_lt_succ (List.mem_range.mp (rl.2 x hx))
  · have e1' : (((liveOf M owner).map (·.2)).map fun i => hs.getD i 0)[i]? = some h := e1
    have e2' : ((liveOf M owner).map (·.1))[i]? = some j := e2
    rw [List.getElem?_map, List.getElem?_map] at e1'
    rw [List.getElem?_map] at e2'
    cases hq : (liveOf M owner)[i]? with
    | none => rw [hq] at e2'; cases e2'
    | some q =>
      obtain ⟨y, k⟩ := q
      rw [hq] at e1' e2'
      cases e2'
      obtain ⟨b1, b2⟩ := (mem_live W.sz).1 (List.mem_of_getElem? hq)
      obtain ⟨h0, K, a1, a2, a3⟩ := W.at_ _ k b1 b2
      have eh : h0 = h := by
        have q1 : hs.getD k 0 = h0 := by rw [Array.getD_eq_getD_getElem?, ← Array.getElem?_toList, a1]; rfl
        exact q1.symm.trans (Option.some.inj e1')
      subst eh
      refine ⟨K, a2, fun k' hk' => ?_⟩
      show way M h0 k' ∈ (liveOf M owner).map (·.1)
      cases z : oAt owner (way M h0 k') with
      | none => exact absurd z (a3 k' hk')
      | some k2 => exact List.mem_map.mpr ⟨(way M h0 k', k2), (mem_live W.sz).2 ⟨way_in _ _ _, z⟩, rfl⟩
/-- where the table grows, and how much -/
theorem grows {m n : Nat} (hm : MskG m) (h1 : n * 5 < m * 3) (h2 : m * 3 ≤ (n + 1) * 5) (h3 : n + 1 ≤ 4900) : ∃ M, SetTable.sizeAbove (SetTable.grown (n + 1)) - 1 = M ∧ MskG M ∧ SetTable.sizeAbove (SetTable.grown (n + 1)) ≤ 8192 ∧ (n + 1) * 5 < M * 3 ∧ n + 1 ≤ m := by
  rcases hm with e | e | e | e | e | e <;> subst e
  · obtain rfl : n = 4 := by omega
    exact ⟨31, by decide +kernel, .inr (.inl rfl), by decide +kernel, by decide, by decide⟩
  · obtain rfl : n = 18 := by omega
    exact ⟨127, by decide +kernel, .inr (.inr (.inl rfl)), by decide +kernel, by decide, by decide⟩
  · obtain rfl : n = 76 := by omega
    exact ⟨511, by decide +kernel, .inr (.inr (.inr (.inl rfl))), by decide +kernel, by decide, by decide⟩
  · obtain rfl : n = 306 := by omega
    exact ⟨2047, by decide +kernel, .inr (.inr (.inr (.inr (.inl rfl)))), by decide +kernel, by decide, by decide⟩
  · obtain rfl : n = 1228 := by omega
    exact ⟨8191, by decide +kernel, .inr (.inr (.inr (.inr (.inr rfl)))), by decide +kernel, by decide, by decide⟩
  · omega
end Pv

namespace Pv
open PySem PySem.Spec L2 PyProof.Rows
/-! ### sets of tuples of ints and texts -/
abbrev thK (P : Program) (w : World) (k : List Key) : Int := tupleKeyHash (mixKind P w) k
abbrev IsK (P : Program) (w : World) (h : Heap) (k : List Key) (a : Addr) : Prop := IsTupleKey (mixKind P w) h k a
def rowK (P : Program) (w : World) (p : Addr × List Key) : Int × Value := (thK P w p.2, .ref p.1)
structure StR (P : Program) (w : World) (h : Heap) (a : Addr) (L : List (Addr × List Key)) (es : Array (Int × Value)) (ep : Nat) (t : SetTable) : Prop where
  ob : ∃ o, h.get? a = some o ∧ o.ExactSet ∧ o.data = .set es ep t
  rows : es.toList = L.map (rowK P w)
  tab : Tb t (L.map fun p => thK P w p.2)
  nd : (L.map (·.2)).Nodup
  key : ∀ p ∈ L, IsK P w h p.2 p.1
  led : w.params.followText "set-order" = true ∨ t.led = true
  room : L.length * 5 < t.mask * 3
section
variable {P : Program} {w : World} {A : Around} {E : Value → Shared → Prop} {s : Shared}
theorem items_av {k : List Key} {vs : List Value} (h : ItemsAre (mixKind P w) k vs) : ∀ v ∈ vs, (∃ i t, v = Value.int i t) ∨ ∃ x t, v = Value.str x t := by
  induction h with
  | nil => exact fun v hv => nomatch hv
  | cons h1 _ ih =>
    intro v hv
    rcases List.mem_cons.mp hv with rfl | hv
    · rcases keyIs_shape h1 with ⟨i, t, _, e⟩ | ⟨x, t, _, e⟩
      · exact .inl ⟨i, t, e⟩
      · exact .inr ⟨x, t, e⟩
    · exact ih v hv
theorem noClass {v : Value} (h : (∃ i t, v = Value.int i t) ∨ ∃ x t, v = Value.str x t) (n : Nat) : ofAClassStatement n v = pure false := by
  rcases h with ⟨i, t, rfl⟩ | ⟨x, t, rfl⟩ <;> cases n <;> rfl
theorem hashAny {v : Value} (h : (∃ i t, v = Value.int i t) ∨ ∃ x t, v = Value.str x t) (n : Nat) : ∃ b, hashByValue n v = pure b := by
  rcases h with ⟨i, t, rfl⟩ | ⟨x, t, rfl⟩
  · exact ⟨true, by cases n <;> rfl⟩
  · exact ⟨false, by cases n <;> rfl⟩
theorem noClassT {k : List Key} {b : Addr} {Q : Bool → Shared → Prop} (hk : IsK P w s.heap k b) (h : Q false s) : wpAny (model P w) A (ofAClassStatement 8 (.ref b)) Q E s := by
  have hT := hk.typeIs
  obtain ⟨o, items, n, ho, _, hd, hi⟩ := hk
  have av := items_av hi
  unfold ofAClassStatement
  refine wpAny_bind (wpAny_typeOf hT ?_)
  dsimp only
  simp only [show (("tuple" : String) == "tuple") = true from rfl, if_true, Bool.not_true, Bool.false_eq_true, if_false]
  try refine wpAny_bind (wpAny_pure ?_)
  try simp only [Bool.not_true, Bool.false_eq_true, if_false]
  show wpAny _ _ (seqItems? (.ref b) >>= _) _ _ s
  refine wpAny_bind (wpAny_seqItems ho hd ?_)
  dsimp only
  refine wpAny_bind ?_
  show wpAny _ _ (forIn items _ _) _ _ s
  rw [← Array.forIn_toList]
  refine wpAny_forIn_list _ (fun rest r s' => r.1 = none ∧ s' = s ∧ ∀ v ∈ rest, v ∈ items.toList) _ ?_ ?_ _ _ ⟨rfl, rfl, fun _ h => h⟩
  · rintro v rest r s' ⟨hr, rfl, all⟩
    rw [noClass (av v (all v List.mem_cons_self))]
    refine wpAny_bind (wpAny_pure ?_)
    simp only [Bool.false_eq_true, if_false]
    exact wpAny_pure ⟨rfl, rfl, fun u hu => all u (List.mem_cons_of_mem _ hu)⟩
  · rintro ⟨r1, r2⟩ s' ⟨hr, rfl, _⟩
    obtain rfl : r1 = none := hr
    exact wpAny_pure h
theorem hashAnyT {k : List Key} {b : Addr} {Q : Bool → Shared → Prop} (hk : IsK P w s.heap k b) (h : ∀ r, Q r s) : wpAny (model P w) A (hashByValue 8 (.ref b)) Q E s := by
  have hT := hk.typeIs
  obtain ⟨o, items, n, ho, _, hd, hi⟩ := hk
  have av := items_av hi
  unfold hashByValue
  refine wpAny_bind (wpAny_specialOf hT F.slot_tuple_hash.lookup ?_)
  show wpAny _ _ (seqItems? (.ref b) >>= _) _ _ s
  refine wpAny_bind (wpAny_seqItems ho hd ?_)
  refine wpAny_bind ?_
  show wpAny _ _ (forIn items _ _) _ _ s
  rw [← Array.forIn_toList]
  refine wpAny_forIn_list _ (fun rest r s' => (r.1 = none) ∧ s' = s ∧ ∀ v ∈ rest, v ∈ items.toList) _ ?_ ?_ _ _ ⟨rfl, rfl, fun _ h => h⟩
  · rintro v rest r s' ⟨hr, rfl, all⟩
    obtain ⟨bb, e⟩ := hashAny (av v (all v List.mem_cons_self)) 7
    rw [e]
    refine wpAny_bind (wpAny_pure ?_)
    cases bb with
    | true =>
      simp only [Bool.not_true, Bool.false_eq_true, if_false]
      exact wpAny_pure ⟨rfl, rfl, fun u hu => all u (List.mem_cons_of_mem _ hu)⟩
    | false =>
      simp only [Bool.not_false, if_true]
      exact wpAny_pure (wpAny_pure (h false))
  · rintro ⟨r1, r2⟩ s' ⟨hr, rfl, _⟩
    obtain rfl : r1 = none := hr
    exact wpAny_pure (h true)
theorem unseen {k : List Key} {b : Addr} {Q : Bool → Shared → Prop} (hk : IsK P w s.heap k b) {ys : List Value} (hy : ∀ y ∈ ys, ∃ k' c, y = Value.ref c ∧ IsK P w s.heap k' c) (h : Q false s) :
    wpAny (model P w) A (searchCouldBeSeen (.ref b) ys) Q E s := by
  unfold searchCouldBeSeen
  refine wpAny_bind ?_
  refine wpAny_forIn_list _ (fun rest r s' => r.1 = none ∧ s' = s ∧ ∀ v ∈ rest, v ∈ ys) _ ?_ ?_ _ _ ⟨rfl, rfl, fun _ h => h⟩
  · rintro v rest r s' ⟨hr, rfl, all⟩
    obtain ⟨k', c, rfl, hc⟩ := hy v (all _ List.mem_cons_self)
    have on : ∀ y ∈ rest, y ∈ ys := fun u hu => all u (List.mem_cons_of_mem _ hu)
    dsimp only
    by_cases hv : (b == c || (carriedByValue (.ref b) && carriedByValue (.ref c))) = true
    · exact wp_if_pos hv (wpAny_pure ⟨rfl, rfl, on⟩)
    · refine wp_if_neg hv ?_
      refine wpAny_bind (wpAny_eqIsQuiet_tuple hk ?_)
      simp only [Bool.not_true, Bool.false_eq_true, if_false]
      refine wpAny_bind (wpAny_eqIsQuiet_tuple hc ?_)
      simp only [Bool.not_true, Bool.false_eq_true, if_false]
      refine wpAny_bind (noClassT hk ?_)
      simp only [Bool.false_eq_true, if_false]
      refine wpAny_bind (noClassT hc ?_)
      simp only [Bool.false_eq_true, if_false]
      exact wpAny_pure ⟨rfl, rfl, on⟩
  · rintro ⟨r1, r2⟩ s' ⟨hr, rfl, _⟩
    obtain rfl : r1 = none := hr
    exact wpAny_pure h
variable {a : Addr} {L : List (Addr × List Key)} {es : Array (Int × Value)} {ep : Nat} {t : SetTable}
theorem StR.size {h : Heap} (R : StR P w h a L es ep t) : es.size = L.length := by
  have := congrArg List.length R.rows
  simpa using this
theorem StR.fits {h : Heap} (R : StR P w h a L es ep t) : t.fits es.size = true := by
  have h1 := R.tab.sz
  simp only [List.length_map] at h1
  have h2 := R.size
  have h3 := R.room
  unfold SetTable.fits SetTable.fill
  rw [R.tab.dm, Bool.and_eq_true, beq_iff_eq, decide_eq_true_eq]
  show t.place.size = es.size ∧ t.place.size + 0 ≤ t.mask
  omega
theorem StR.at_ {h : Heap} (R : StR P w h a L es ep t) {i : Nat} {p : Addr × List Key} (e : L[i]? = some p) : es[i]? = some (thK P w p.2, Value.ref p.1) := by
  rw [← Array.getElem?_toList, R.rows, List.getElem?_map, e]; rfl
/-- where a search stands after c steps -/
abbrev prb (m : Nat) (h : Int) (c : Nat) : SetTable.Probe := nth m (runAt m (SetTable.bits h % (m + 1)) (SetTable.bits h)) c
theorem prb_dummy (m : Nat) (h : Int) (c : Nat) : (prb m h c).dummy = none := by
  have key : ∀ (n : Nat) (p : SetTable.Probe), p.dummy = none → (nth m p n).dummy = none := by
    intro n
    induction n with
    | zero => exact fun p h => h
    | succ n ih => exact fun p h => ih (adv m p) (by unfold adv; split <;> exact h)
  exact key c _ rfl
theorem prb_add (m : Nat) (h : Int) (c q : Nat) : nth m (prb m h c) q = prb m h (c + q) := (nth_add m c _ q).symm
theorem look_on (R : StR P w s.heap a L es ep t) {x : Addr} {k : List Key} (hx : IsK P w s.heap k x) (hu : A.units < cLine) {K : Nat} (hKf : K < 10 * SetTable.turns t.mask)
    (hK : ¬ Occ t (way t.mask (thK P w k) K)) (hKb : ∀ c, c < K → Occ t (way t.mask (thK P w k) c)) {Q : SetFound → Shared → Prop}
    (hin : k ∈ L.map (·.2) → Q (.there none) s) (hout : k ∉ L.map (·.2) → Q (.free (way t.mask (thK P w k) K) false) s) :
    ∀ (f c : Nat) (st : Option SetTable.Probe), st.getD (t.probeStart (thK P w k)) = prb t.mask (thK P w k) c → c ≤ K → K - c < f →
      (∀ (i : Nat) p, L[i]? = some p → p.2 = k → ∃ c', c ≤ c' ∧ c' < K ∧ t.place.toList[i]? = some (way t.mask (thK P w k) c')) →
      wpAny (model P w) A (setSearchFrom a (.ref x) (thK P w k) true f st) Q E s := by
  obtain ⟨o, ho, hex, hd⟩ := R.ob
  generalize hh : thK P w k = hk at *
  intro f
  induction f with
  | zero => exact fun c st _ _ h _ => absurd h (Nat.not_lt_zero _)
  | succ f ih =>
    intro c st hst hc hf hre
    rw [setSearchFrom_succ]
    refine wpAny_bind (wpAny_setState_of ho hd R.fits ?_)
    dsimp only
    refine wp_if_neg (by unfold SetTable.gaveWay; rw [R.tab.mok.odd]; decide) ?_
    try refine wpAny_bind (wpAny_pure ?_)
    have jw : ∀ q, (nth t.mask (prb t.mask hk c) q).j = way t.mask hk (c + q) := fun q => congrArg SetTable.Probe.j (prb_add t.mask hk c q)
    have hashAt : ∀ (i : Nat) p, L[i]? = some p → (es[i]?.map (·.1)).getD 0 = thK P w p.2 := fun i p hp => by rw [R.at_ hp]; rfl
    have spec := go_spec t R.tab.ris R.tab.dm (fun i => (es[i]?.map (·.1)).getD 0) hk (10 * SetTable.turns t.mask) (K - c) _ (prb_dummy t.mask hk c) (by omega)
      (fun q hq => by rw [jw]; exact hKb (c + q) (by omega)) (by rw [jw, show c + (K - c) = K by omega]; exact hK)
    rcases spec with ⟨q, i, hq, hi, e1, hno, hpr⟩ | ⟨hno, hpr⟩
    · rw [jw] at hi hpr
      rw [prb_add] at hpr
      have hpr' : t.probe (fun i => (es[i]?.map (·.1)).getD 0) hk (st.getD (t.probeStart hk)) = some (.candidate (way t.mask hk (c + q)) i (prb t.mask hk (c + (q + 1)))) := by rw [hst]; exact hpr
      rw [hpr']
      dsimp only
      have hil : i < L.length := by
        have h1 : i < t.place.toList.length := (List.getElem?_eq_some_iff.mp hi).1
        have h2 := R.tab.sz
        simp only [List.length_map, Array.length_toList] at h1 h2
        omega
      obtain ⟨p, hp⟩ : ∃ p, L[i]? = some p := ⟨_, List.getElem?_eq_getElem hil⟩
      have hmem : p ∈ L := List.mem_of_getElem? hp
      have rest : wpAny (model P w) A (searchRest a (.ref x) hk true f es t (way t.mask hk (c + q)) i (prb t.mask hk (c + (q + 1)))) Q E s := by
        unfold searchRest
        rw [R.at_ hp]
        dsimp only
        refine wpAny_bind (wpAny_holding (wpAny_eqBool_tuple hu (R.key p hmem) hx ?_))
        refine wpAny_bind (wpAny_setState_of ho hd R.fits ?_)
        dsimp only
        by_cases hkk : p.2 = k
        · exact wp_if_pos (by simp [hkk]) (wpAny_pure (hin (List.mem_map.mpr ⟨p, hmem, hkk⟩)))
        · refine wp_if_neg (by simp [hkk]) ?_
          try refine wpAny_bind (wpAny_pure ?_)
          rw [sameMem]
          dsimp only
          have hsl : t.slot (way t.mask hk (c + q)) = .live i := slot_live R.tab.ris hi
          simp only [if_true, hsl, R.at_ hp]
          refine wpAny_bind (wpAny_isSame_ref_self (wpAny_bind (wpAny_pure ?_)))
          simp only [if_true]
          refine wp_if_neg (by simp [hkk]) ?_
          refine ih (c + (q + 1)) _ rfl (by omega) (by omega) fun i0 p0 h0 hk0 => ?_
          obtain ⟨c', a1, a2, a3⟩ := hre i0 p0 h0 hk0
          refine ⟨c', ?_, a2, a3⟩
          have e0 : (es[i0]?.map (·.1)).getD 0 = hk := (hashAt i0 p0 h0).trans (by rw [hk0]; exact hh)
          rcases Nat.lt_trichotomy c' (c + q) with z | z | z
          · exact absurd e0 (hno (c' - c) i0 (by omega) (by rw [jw, show c + (c' - c) = c' by omega]; exact a3))
          · rw [z] at a3
            have s0 := slot_live R.tab.ris a3
            rw [hsl] at s0
            injection s0 with s0
            rw [← s0, hp] at h0
            cases h0
            exact absurd hk0 hkk
          · omega
      by_cases hl : t.led = true
      · refine wp_if_neg (by simp [hl]) ?_
        try refine wpAny_bind (wpAny_pure ?_)
        exact rest
      · refine wp_if_pos (by simp [hl]) ?_
        refine wpAny_bind (unseen hx (fun y hy => ?_) ?_)
        · obtain ⟨e, he, rfl⟩ := List.mem_map.mp hy
          have he2 : e ∈ es.toList := by
            have : e ∈ es ∧ e.1 = hk := by simpa using he
            simpa using this.1
          rw [R.rows] at he2
          obtain ⟨p2, hp2, rfl⟩ := List.mem_map.mp he2
          exact ⟨p2.2, p2.1, rfl, R.key p2 hp2⟩
        · refine wp_if_neg (by decide) ?_
          try refine wpAny_bind (wpAny_pure ?_)
          exact rest
    · rw [jw, show c + (K - c) = K by omega] at hpr
      have hpr' : t.probe (fun i => (es[i]?.map (·.1)).getD 0) hk (st.getD (t.probeStart hk)) = some (.empty (way t.mask hk K) none) := by rw [hst]; exact hpr
      rw [hpr']
      dsimp only
      refine wpAny_pure (hout fun hm => ?_)
      obtain ⟨p0, h0, hk0⟩ := List.mem_map.mp hm
      obtain ⟨i0, hi0, e0⟩ := List.getElem_of_mem h0
      have h00 : L[i0]? = some p0 := by rw [List.getElem?_eq_getElem hi0, e0]
      obtain ⟨c', a1, a2, a3⟩ := hre i0 p0 h00 hk0
      exact hno (c' - c) i0 (by omega) (by rw [jw, show c + (c' - c) = c' by omega]; exact a3) ((hashAt i0 p0 h00).trans (by rw [hk0]; exact hh))
theorem look_up (R : StR P w s.heap a L es ep t) {x : Addr} {k : List Key} (hx : IsK P w s.heap k x) (hu : A.units < cLine) {Q : SetFound → Shared → Prop}
    (hin : k ∈ L.map (·.2) → Q (.there none) s)
    (hout : ∀ K, k ∉ L.map (·.2) → ¬ Occ t (way t.mask (thK P w k) K) → (∀ c, c < K → Occ t (way t.mask (thK P w k) c)) → Q (.free (way t.mask (thK P w k) K) false) s) :
    wpAny (model P w) A (setSearch a (.ref x) (thK P w k) true) Q E s := by
  have hroom := R.room
  have hmle := R.tab.mok.le
  obtain ⟨K, n, hn, hKn, hK, hKb⟩ := R.tab.free (by rw [List.length_map]; omega) (thK P w k)
  unfold setSearch
  refine look_on R hx hu (by unfold SetTable.turns; omega) hK hKb hin (fun hn => hout K hn hK hKb) 100000 0 none rfl (Nat.zero_le _) (by omega) fun i p hp hk => ?_
  have hi : (L.map fun p => thK P w p.2)[i]? = some (thK P w k) := by rw [List.getElem?_map, hp, ← hk]; rfl
  have hil : i < t.place.toList.length := by
    have h1 : i < L.length := (List.getElem?_eq_some_iff.mp hp).1
    have h2 := R.tab.sz
    rw [List.length_map] at h2
    rw [Array.length_toList]
    omega
  have hj := List.getElem?_eq_getElem hil
  obtain ⟨c, hc, e⟩ := R.tab.back hK hi hj
  exact ⟨c, Nat.zero_le _, hc, by rw [hj, e]⟩
end
end Pv

namespace Pv
open PySem PySem.Spec L2 PyProof.Rows
section
variable {P : Program} {w : World} {A : Around} {E : Value → Shared → Prop} {s : Shared}
theorem isK_but {h h' : Heap} {k : List Key} {a b : Addr} {o : Obj} {es : Array (Int × Value)} {ep : Nat} {t : SetTable} (hb : IsK P w h k b) (ho : h.get? a = some o) (hd : o.data = .set es ep t) (hs : Heap.SameBut a h h') : IsK P w h' k b := by
  obtain ⟨o', items, n, ho', hc, hd', hi⟩ := hb
  refine ⟨o', items, n, (hs.2 b ?_).trans ho', hc, hd', hi⟩
  rintro rfl
  rw [ho] at ho'
  cases ho'
  rw [hd] at hd'
  cases hd'
theorem isK_keep {h h' : Heap} {k : List Key} {b : Addr} (x : IsK P w h k b) (hk : ∀ c o, h.get? c = some o → h'.get? c = some o) : IsK P w h' k b := by
  obtain ⟨o, items, n, ho, r⟩ := x
  exact ⟨o, items, n, hk b o ho, r⟩
theorem filt_perm {α : Type} (L : List α) (order : List Nat) (hp : order.Perm (List.range L.length)) : (order.filterMap fun i => L[i]?).Perm L := by
  have h1 := hp.filterMap fun i => L[i]?
  have h2 : (List.range L.length).filterMap (fun i => L[i]?) = L := by
    have : ∀ n, n ≤ L.length → (List.range n).filterMap (fun i => L[i]?) = L.take n := by
      intro n
      induction n with
      | zero => intro _; simp
      | succ n ih =>
        intro hn
        rw [List.range_succ, List.filterMap_append, ih (by omega), List.take_add_one]
        cases hq : L[n]? <;> simp_all
    rw [this _ (Nat.le_refl _), List.take_length]
  rw [h2] at h1
  exact h1
theorem filt_map {α β : Type} (L : List α) (f : α → β) (order : List Nat) : (order.filterMap fun i => (L.map f)[i]?) = (order.filterMap fun i => L[i]?).map f := by
  rw [List.map_filterMap]
  congr 1
  funext i
  rw [List.getElem?_map]
theorem filt_all {α : Type} (L : List α) (d : α) : ∀ order : List Nat, (∀ i ∈ order, i < L.length) → (order.filterMap fun i => L[i]?) = order.map fun i => L.getD i d
  | [], _ => rfl
  | i :: o, h => by
    have hi := h i List.mem_cons_self
    rw [List.filterMap_cons_some (List.getElem?_eq_getElem hi), List.map_cons, filt_all L d o fun j hj => h j (List.mem_cons_of_mem _ hj)]
    simp [List.getD_eq_getElem?_getD, hi]
variable {a : Addr} {L : List (Addr × List Key)} {es : Array (Int × Value)} {ep : Nat} {t : SetTable}
theorem relay_K {o : Obj} (ho : s.heap.get? a = some o) (hex : o.ExactSet) (hd : o.data = .set es ep t) (hrows : es.toList = L.map (rowK P w)) (hsz : t.place.size = es.size) (hdm : t.dummies = #[]) (hfl : es.size ≤ t.mask)
    (nd : (L.map (·.2)).Nodup) (key : ∀ p ∈ L, IsK P w s.heap p.2 p.1) (ld : w.params.followText "set-order" = true ∨ t.led = true) {wanted M : Nat}
    (hw : SetTable.sizeAbove wanted - 1 = M) (hM : MskG M) (hw2 : SetTable.sizeAbove wanted ≤ 8192) (hn : L.length * 5 < M * 3) {Q : Unit → Shared → Prop}
    (hQ : ∀ h' L' es' ep' t', Heap.SameBut a s.heap h' → StR P w h' a L' es' ep' t' → L'.Perm L → Q () { s with heap := h' }) : wpAny (model P w) A (setRelay a wanted) Q E s := by
  have hsl : es.size = L.length := by simpa using congrArg List.length hrows
  have hMle := hM.le
  have hfits : t.fits es.size = true := by
    unfold SetTable.fits SetTable.fill
    rw [hdm, Bool.and_eq_true, beq_iff_eq, decide_eq_true_eq]
    show t.place.size = es.size ∧ t.place.size + 0 ≤ t.mask
    omega
  obtain ⟨t', order, e, hp, T, em, el, _⟩ := laid_anew t (hs := es.map (·.1)) (wanted := wanted) hw hM (by rw [Array.size_map, hsl]; omega)
  rw [Array.size_map, hsl] at hp
  have e1 : (order.filterMap (es[·]?)).toList = (order.toList.filterMap fun i => L[i]?).map (rowK P w) := by
    rw [Array.toList_filterMap, ← filt_map, ← hrows]
    simp
  have pm := filt_perm L order.toList hp
  have hs2 : (order.filterMap (es[·]?)).size = es.size := by
    have := congrArg List.length e1
    rw [Array.length_toList, List.length_map, pm.length_eq] at this
    omega
  have hT : (order.toList.map fun i => (es.map (·.1)).getD i 0) = (order.toList.filterMap fun i => L[i]?).map fun p => thK P w p.2 := by
    rw [← filt_map, filt_all _ 0 _ fun i hi => by rw [List.length_map]; exact List.mem_range.mp (hp.mem_iff.mp hi)]
    apply List.map_congr_left
    intro i hi
    rw [Array.getD_eq_getD_getElem?, List.getD_eq_getElem?_getD, ← Array.getElem?_toList, Array.toList_map, hrows, List.map_map]
    rfl
  rw [hT] at T
  generalize hL2 : (order.toList.filterMap fun i => L[i]?) = L2 at *
  rw [setRelay_eq]
  refine wpAny_bind (wpAny_setState_of ho hd hfits ?_)
  dsimp only
  refine wp_if_neg (by rw [sizeLine_eq]; omega) ?_
  try refine wpAny_bind (wpAny_pure ?_)
  rw [e]
  dsimp only
  refine wpAny_bind ?_
  refine wp_if_neg (by rw [hs2]; simp) ?_
  try refine wpAny_bind (wpAny_pure ?_)
  refine wpAny_pure ?_
  dsimp only
  refine wpAny_storeSet_of ho hd ?_ (by rw [hs2, hsl, sizeLine_eq]; omega)
  have sb : Heap.SameBut a s.heap (s.heap.update a (Obj.putSet (order.filterMap (es[·]?)) t')) := Heap.SameBut.update ..
  exact hQ _ L2 _ (ep + 1) t' sb ⟨⟨_, store_at ho hd, ⟨hex.1, hex.2.1, hex.2.2⟩, rfl⟩, e1, T, (pm.map (·.2)).nodup_iff.mpr nd, fun p hpm => isK_but (key p (pm.mem_iff.mp hpm)) ho hd sb, by rw [el]; exact ld, by rw [pm.length_eq, em]; exact hn⟩ pm
theorem Tb.plain {t : SetTable} {hs : List Int} (T : Tb t hs) (b : Bool) : Tb { t with plain := b } hs := ⟨T.ris, T.dm, T.sz, T.mok, T.bd, T.rch⟩
theorem add_K (R : StR P w s.heap a L es ep t) {x : Addr} {k : List Key} (hx : IsK P w s.heap k x) (hu : A.units < cLine) (hfew : L.length + 1 ≤ 4900) {Q : Bool → Shared → Prop}
    (hQ : ∀ b h' L' es' ep' t', Heap.SameBut a s.heap h' → StR P w h' a L' es' ep' t' → (k ∈ L.map (·.2) → L' = L) → (k ∉ L.map (·.2) → L'.Perm ((x, k) :: L)) → Q b { s with heap := h' }) :
    wpAny (model P w) A (setAddHashed a (.ref x) (thK P w k)) Q E s := by
  obtain ⟨o, ho, hex, hd⟩ := R.ob
  have hsl := R.size
  have hroom := R.room
  unfold setAddHashed
  refine wpAny_holding ?_
  rw [show (100000 : Nat) = 99999 + 1 from rfl, setAddHashedIn_succ]
  refine wpAny_bind (wpAny_setState_of ho hd R.fits ?_)
  dsimp only
  refine wp_if_neg (by simp [byScan, Value.scannable]) ?_
  try refine wpAny_bind (wpAny_pure ?_)
  refine wpAny_bind (look_up R hx hu (fun hm => ?_) fun K hm hK hb => ?_)
  · exact wpAny_pure (hQ false s.heap L es ep t (Heap.SameBut.refl a s.heap) R (fun _ => rfl) fun z => absurd hm z)
  · dsimp only
    refine wpAny_bind (wpAny_setState_of ho hd R.fits ?_)
    dsimp only
    obtain ⟨p, q2, q0, q1, q3, q4, q5, _, q9⟩ := R.tab.more hK hb
    generalize hpt : t.put (way t.mask (thK P w k) K) = pt at q1 q3 q4 q5 q9 ⊢
    obtain ⟨t0, p'⟩ := pt
    dsimp only at q1 q3 q4 q5 q9 ⊢
    subst q1
    have go : ∀ b : Bool, wpAny (model P w) A (do
        storeSet a (SetTable.insertAt es p' (thK P w k, Value.ref x)) (if b = true then t0 else { t0 with plain := false })
        if (!false && (if b = true then t0 else { t0 with plain := false }).tooFull) = true then setRelay a (SetTable.grown (es.size + 1))
        pure true) Q E s := by
      intro b
      have q3' : Tb (if b = true then t0 else { t0 with plain := false }) ((L.map fun p => thK P w p.2).take p' ++ thK P w k :: (L.map fun p => thK P w p.2).drop p') := by
        cases b
        · exact q3.plain false
        · exact q3
      have q4' : (if b = true then t0 else { t0 with plain := false }).mask = t.mask := by cases b <;> exact q4
      have q5' : (if b = true then t0 else { t0 with plain := false }).led = t.led := by cases b <;> exact q5
      have q9' : (if b = true then t0 else { t0 with plain := false }).fill = L.length + 1 := by
        rw [List.length_map] at q9
        cases b <;> exact q9
      generalize (if b = true then t0 else { t0 with plain := false }) = t1 at q3' q4' q5' q9' ⊢
      have hin : (SetTable.insertAt es p' (thK P w k, Value.ref x)).toList = (L.take p' ++ (x, k) :: L.drop p').map (rowK P w) := by
        rw [SetTable.toList_insertAt, R.rows, List.map_append, List.map_cons, List.map_take, List.map_drop]
        rfl
      have pm := put_perm L p' (x, k)
      have hlen : (L.take p' ++ (x, k) :: L.drop p').length = L.length + 1 := pm.length_eq
      have hhs : (L.take p' ++ (x, k) :: L.drop p').map (fun p => thK P w p.2) = (L.map fun p => thK P w p.2).take p' ++ thK P w k :: (L.map fun p => thK P w p.2).drop p' := by
        rw [List.map_append, List.map_cons, List.map_take, List.map_drop]
      rw [← hhs] at q3'
      have nd1 : ((L.take p' ++ (x, k) :: L.drop p').map (·.2)).Nodup := (pm.map (·.2)).nodup_iff.mpr (by rw [List.map_cons]; exact List.nodup_cons.mpr ⟨hm, R.nd⟩)
      have hes : (SetTable.insertAt es p' (thK P w k, Value.ref x)).size = L.length + 1 := by
        have h := congrArg List.length hin
        rw [Array.length_toList, List.length_map, hlen] at h
        exact h
      generalize SetTable.insertAt es p' (thK P w k, Value.ref x) = es1 at hin hes ⊢
      generalize L.take p' ++ (x, k) :: L.drop p' = L1 at pm hlen q3' nd1 hin
      refine wpAny_bind (wpAny_storeSet_of ho hd ?_ (by rw [hes, sizeLine_eq]; omega))
      have sb : Heap.SameBut a s.heap (s.heap.update a (Obj.putSet es1 t1)) := Heap.SameBut.update ..
      have ho1 := store_at (es' := es1) (t' := t1) ho hd
      generalize s.heap.update a (Obj.putSet es1 t1) = h1 at sb ho1 ⊢
      have key1 : ∀ p ∈ L1, IsK P w h1 p.2 p.1 := fun p hp => by
        rcases List.mem_cons.mp (pm.mem_iff.mp hp) with e | hp
        · rw [e]; exact isK_but hx ho hd sb
        · exact isK_but (R.key p hp) ho hd sb
      have ld1 : w.params.followText "set-order" = true ∨ t1.led = true := by rw [q5']; exact R.led
      by_cases hf : t1.tooFull = true
      · first
          | (refine wpAny_bind ?_; refine wp_if_pos (by simp [hf]) ?_)
          | (refine wp_if_pos (by simp [hf]) ?_; refine wpAny_bind ?_)
        have hfull : t.mask * 3 ≤ (L.length + 1) * 5 := by
          have h := hf
          unfold SetTable.tooFull at h
          rw [decide_eq_true_eq, q9', q4'] at h
          exact h
        rw [hsl]
        have hsz1 : t1.place.size = es1.size := by
          have h := q3'.sz
          rw [List.length_map, hlen] at h
          rw [h, hes]
        obtain ⟨M, g1, g2, g3, g4, g5⟩ := grows R.tab.mok hroom hfull hfew
        refine relay_K (s := { s with heap := h1 }) ho1 ⟨hex.1, hex.2.1, hex.2.2⟩ rfl hin hsz1 q3'.dm (by rw [hes, q4']; exact g5) nd1 key1 ld1 g1 g2 g3 (by rw [hlen]; exact g4) ?_
        intro h2 L2 es2 ep2 t2 sb2 R2 pm2
        exact wpAny_pure (hQ true h2 L2 es2 ep2 t2 (sb.trans sb2) R2 (fun z => absurd z hm) fun _ => pm2.trans pm)
      · first
          | refine wp_if_neg (by simp [hf]) ?_
          | (refine wpAny_bind ?_; refine wp_if_neg (by simp [hf]) ?_; refine wpAny_pure ?_)
        refine wpAny_pure (hQ true h1 L1 es1 (ep + 1) t1 sb ⟨⟨_, ho1, ⟨hex.1, hex.2.1, hex.2.2⟩, rfl⟩, hin, q3', nd1, key1, ld1, ?_⟩ (fun z => absurd z hm) fun _ => pm)
        have h := hf
        unfold SetTable.tooFull at h
        rw [decide_eq_true_eq, q9'] at h
        rw [hlen]
        omega
    by_cases hpl : t0.plain = true
    · first
        | (refine wpAny_bind ?_; refine wp_if_pos hpl ?_; exact hashAnyT hx fun b => go b)
        | exact wp_if_pos hpl (wpAny_bind (hashAnyT hx fun b => go b))
    · first
        | (refine wpAny_bind ?_; refine wp_if_neg hpl ?_; exact wpAny_pure (go true))
        | exact wp_if_neg hpl (wpAny_bind (wpAny_pure (go true)))
        | exact wp_if_neg hpl (go true)
end
end Pv

namespace Pv
open PySem PySem.Spec L2 PySem.Froz PyProof.Rows
/-- what a set has of the first i -/
structure GotK (ks : List (Addr × List Key)) (i : Nat) (L : List (Addr × List Key)) : Prop where
  sub : ∀ p ∈ L, p ∈ ks.take i
  all : ∀ p ∈ ks.take i, p.2 ∈ L.map (·.2)
  len : L.length ≤ i
theorem GotK.step {ks L L' : List (Addr × List Key)} {i : Nat} {x : Addr × List Key} (g : GotK ks i L) (h : ks[i]? = some x) (c1 : x.2 ∈ L.map (·.2) → L' = L) (c2 : x.2 ∉ L.map (·.2) → L'.Perm (x :: L)) : GotK ks (i + 1) L' := by
  have tk : ks.take (i + 1) = ks.take i ++ [x] := by rw [List.take_add_one, h]; rfl
  by_cases c : x.2 ∈ L.map (·.2)
  · rw [c1 c]
    refine ⟨fun p hp => ?_, fun p hp => ?_, Nat.le_succ_of_le g.len⟩
    · rw [tk]; exact List.mem_append_left _ (g.sub p hp)
    · rw [tk] at hp
      rcases List.mem_append.mp hp with z | z
      · exact g.all p z
      · rw [List.mem_singleton.mp z]; exact c
  · have pm := c2 c
    refine ⟨fun p hp => ?_, fun p hp => ?_, by rw [pm.length_eq]; exact Nat.succ_le_succ g.len⟩
    · rw [tk]
      rcases List.mem_cons.mp (pm.mem_iff.mp hp) with e | z
      · rw [e]; exact List.mem_append_right _ List.mem_cons_self
      · exact List.mem_append_left _ (g.sub p z)
    · rw [(pm.map (·.2)).mem_iff, List.map_cons]
      rw [tk] at hp
      rcases List.mem_append.mp hp with z | z
      · exact List.mem_cons_of_mem _ (g.all p z)
      · rw [List.mem_singleton.mp z]; exact List.mem_cons_self
section
variable {P : Program} {w : World} {A : Around} {E : Value → Shared → Prop} {s : Shared}
/-- the set, its table left aside -/
def StS (P : Program) (w : World) (h : Heap) (a : Addr) (L : List (Addr × List Key)) : Prop := ∃ es ep t, StR P w h a L es ep t
theorem StS.keep {h h' : Heap} {a : Addr} {L : List (Addr × List Key)} (R : StS P w h a L) (ha : ∀ o, h.get? a = some o → h'.get? a = some o) (ht : ∀ p ∈ L, IsK P w h' p.2 p.1) : StS P w h' a L := by
  obtain ⟨es, ep, t, R⟩ := R
  obtain ⟨o, ho, r⟩ := R.ob
  exact ⟨es, ep, t, ⟨o, ha o ho, r⟩, R.rows, R.tab, R.nd, ht, R.led, R.room⟩
abbrev nStK (w : World) : Obj := { cls := .type "set", dict := none, data := .set #[] 0 (.fresh 0 0 (!w.params.followText "set-order")) }
theorem sts_new {h : Heap} {a : Addr} (ho : h.get? a = some (nStK w)) : StS P w h a [] := by
  refine ⟨#[], 0, .fresh 0 0 (!w.params.followText "set-order"), ⟨_, ho, ⟨rfl, rfl, rfl⟩, rfl⟩, rfl, ⟨List.Pairwise.nil, rfl, rfl, .inl rfl, fun x hx => (nomatch hx), fun i h j hi => by simp at hi⟩, List.nodup_nil, fun p hp => (nomatch hp), ?_, by show 0 * 5 < 7 * 3; decide⟩
  show _ ∨ (!w.params.followText "set-order") = true
  cases w.params.followText "set-order"
  · exact .inr rfl
  · exact .inl rfl
theorem loopK {I : Addr} {fp wr : List Addr} {G : Array GenState → Array GenState → Prop} {n : Nat} {Pv : Nat → Value → Prop} {St : Nat → Shared → Prop} {R : Result → Shared → Prop}
    (W : WalksS P w A.in1 I fp wr G n Pv St) (S : Addr) (hSf : S ∉ fp) (ks : List (Addr × List Key)) (hn : ks.length = n) (hfew : n ≤ 4000) (hval : ∀ i v, Pv i v → ∃ p, ks[i]? = some p ∧ v = .ref p.1)
    (h0 : Heap) (hk : ∀ p ∈ ks, IsK P w h0 p.2 p.1) (hS0 : h0.get? S = none) (hw0 : ∀ b ∈ wr, h0.get? b = none) (hu : A.in1.units < cLine) :
    ∀ (k i : Nat) (s : Shared), n - i = k → i ≤ n → St i s → (∀ b o, h0.get? b = some o → s.heap.get? b = some o) → ∀ L, StS P w s.heap S L → GotK ks i L →
      (∀ s' L, Moved (S :: wr) G s s' → StS P w s'.heap S L → GotK ks n L → (∀ b o, h0.get? b = some o → s'.heap.get? b = some o) → R (.ok (.ret .none)) s') →
      codeAny (model P w) A (.builtin "set.update.loop" ⟨[.ref S, .ref I], []⟩) R s := by
  have hSw : S ∉ wr := fun h => hSf (W.sub _ h)
  have hsub : ∀ b ∈ wr, b ∈ S :: wr := fun b hb => List.mem_cons_of_mem _ hb
  have on : ∀ {s s' : Shared}, Moved wr G s s' → (∀ b o, h0.get? b = some o → s.heap.get? b = some o) → ∀ b o, h0.get? b = some o → s'.heap.get? b = some o := fun hm hkp b o e =>
    hm.heap b o (fun hb => by rw [hw0 b hb] at e; cases e) (hkp b o e)
  intro k
  induction k with
  | zero =>
    intro i s hk' hi hst hkp L hS g hR
    obtain rfl : i = n := by omega
    refine codeAny_builtin PyProof.Rows.F.entry_set_update_loop ?_
    rw [Around.under_plainId PyProof.Rows.F.plain_set_update_loop _]
    show wpAny _ A.in1 (pyNext (.ref I) >>= _) _ _ s
    refine wpAny_bind (W.done s _ _ hst fun s' hm => ?_)
    show wpAny _ A.in1 (ret Value.none) _ _ s'
    exact wpAny_pure (hR s' L (hm.mono hsub) (hS.keep (fun o e => hm.heap S o hSw e) fun p hp => isK_keep (hk p (List.mem_of_mem_take (g.sub p hp))) (on hm hkp)) g (on hm hkp))
  | succ k ih =>
    intro i s hk' hi hst hkp L hS g hR
    have hlt : i < n := by omega
    refine codeAny_builtin PyProof.Rows.F.entry_set_update_loop ?_
    rw [Around.under_plainId PyProof.Rows.F.plain_set_update_loop _]
    show wpAny _ A.in1 (pyNext (.ref I) >>= _) _ _ s
    refine wpAny_bind (W.item i s _ _ hlt hst fun v s' hP hst' hm => ?_)
    obtain ⟨p, hp, rfl⟩ := hval i v hP
    have hkp' := on hm hkp
    obtain ⟨es, ep, t, hS'⟩ := hS.keep (fun o e => hm.heap S o hSw e) fun q hq => isK_keep (hk q (List.mem_of_mem_take (g.sub q hq))) hkp'
    have hx : IsK P w s'.heap p.2 p.1 := isK_keep (hk p (List.mem_of_getElem? hp)) hkp'
    show wpAny _ A.in1 (holding [Value.ref p.1] (setAdd S (.ref p.1)) >>= _) _ _ s'
    refine wpAny_bind (wpAny_holding ?_)
    unfold setAdd
    refine wpAny_holding ?_
    refine wpAny_bind (wpAny_pyHash_tuple hu hx ?_)
    refine add_K (s := { s' with toks := s'.toks + (p.2.length + 1) }) hS' hx hu (by have := g.len; omega) fun b h' L' es' ep' t' hsb hS2 c1 c2 => ?_
    have hkp2 : ∀ b o, h0.get? b = some o → h'.get? b = some o := fun b o e => (hsb.2 b (fun z => by rw [z, hS0] at e; cases e)).trans (hkp' b o e)
    refine wpAny_pure ⟨plainId_quiet PyProof.Rows.F.plain_set_update_loop _, ih (i + 1) _ (by omega) hlt (W.frame _ s' _ _ hst' (Nat.le_add_right _ _) fun b hb o e => ?_) hkp2 L' ⟨es', ep', t', hS2⟩ (g.step hp c1 c2) fun s'' L2 hm'' hS'' g'' hkp'' => ?_⟩
    · rw [hsb.2 b (fun h : b = S => hSf (by rw [← h]; exact hb))]; exact e
    · refine hR s'' L2 (Moved.trans W.gtrans ((hm.mono hsub).then_heap (Nat.le_add_right _ _) fun b o hb e => ?_) hm'') hS'' g'' hkp''
      rw [hsb.2 b (fun h : b = S => hb (by rw [h]; exact List.mem_cons_self))]; exact e
set_option maxHeartbeats 3200000 in
/-- set(xs), xs a list of tuples -/
theorem call_set_K {l : Addr} {items : Array Value} (ks : List (Addr × List Key)) {Q : Value → Shared → Prop} (hh : A.handled = none) (hl : s.heap.IsList l items) (hit : items.toList = ks.map fun p => Value.ref p.1)
    (hk : ∀ p ∈ ks, IsK P w s.heap p.2 p.1) (hfew : ks.length ≤ 4000) (hu : A.units + 3 < cLine)
    (h : ∀ (h' : Heap) (tk : Nat) L, StS P w h' s.heap.objs.size L → GotK ks ks.length L → (∀ b o, s.heap.get? b = some o → h'.get? b = some o) → Q (.ref s.heap.objs.size) { s with heap := h', toks := tk }) :
    wpAny (model P w) A (call (.type "set") [.ref l]) Q E s := by
  have hisz : ks.length = items.size := by simpa using (congrArg List.length hit).symm
  obtain ⟨c, tl, hmro⟩ := PySem.F.called_set.mro
  have hmade := PySem.F.called_set.made
  have hsub := PySem.F.called_set.sub
  refine wpAny_call (codeAny_of_tree ?_)
  show wpAny _ _ (callAny (.type "set") _) _ _ _
  refine wpAny_pure ⟨Code.quiet_builtin _ (by decide +kernel), codeAny_builtin PySem.F.entry_type_call ?_⟩
  rw [Around.under_plain (weight_type_call_type "set" [.ref l] []) rfl]
  have h1 := PySem.F.called_set.notType
  have h2 := PySem.F.called_set.canCreate
  have hct := PySem.F.typeCall_set_1 (.ref l)
  repeat (any_goals (first | assumption | wp_step))
  refine codeAny_mono (code_set_led1 (.ref l) (E := E) (Q₁ := fun obj s₁ => obj = .ref s.heap.objs.size ∧ s₁ = { s with heap := s.heap.push (nStK w) }) ⟨rfl, rfl⟩) fun r s₁ hr => ?_
  cases r with
  | error e => exact hr
  | ok fl =>
    cases fl with
    | ret obj =>
      obtain ⟨rfl, rfl⟩ := hr
      have hS : (s.heap.push (nStK w)).get? s.heap.objs.size = some (nStK w) := Heap.get?_push_size _ rfl
      have hT : Shared.TypeIs { s with heap := s.heap.push (nStK w) } (.ref s.heap.objs.size) "set" := ⟨_, hS, rfl⟩
      have hli := PySem.F.called_set.init.lookup
      have hbi := PySem.F.called_set.init.bind (.ref s.heap.objs.size)
      repeat (any_goals (first | assumption | wp_step))
      refine codeAny_mono (codeAny_call_builtin (R := wants (fun r s₂ => r = .none ∧ ∃ h' tk L, s₂ = { s with heap := h', toks := tk } ∧ StS P w h' s.heap.objs.size L ∧ GotK ks ks.length L ∧
          (∀ b o, s.heap.get? b = some o → h'.get? b = some o)) E) PySem.F.called_set.init.plain PySem.F.entry_set_init (check_set_init_1 hT ?_)) fun r₂ s₂ hr₂ => ?_
      · obtain ⟨ol, hol, hcl, nl, hdl⟩ := hl
        obtain ⟨ocls, odict, odata, oslots⟩ := ol
        simp only at hcl hdl
        subst hcl; subst hdl
        have hol' : (s.heap.push (nStK w)).get? l = some { cls := .type "list", dict := odict, data := .seq items nl, slots := oslots } := Heap.get?_push_of_some _ hol
        have hsls := PySem.F.sub_list_set
        have hslf := PySem.F.sub_list_frozenset
        have hne : (Value.type "list" == Value.type "dict") = false := by decide
        have hl1 : (s.heap.push (nStK w)).IsList l items := ⟨_, hol', rfl, nl, rfl⟩
        unfold Builtin.«set.__init__» noKeywords Builtin.Frozenset.updateFrom
        generalize hPI : pyIter = PI
        wp_walk
        subst hPI
        refine wpAny_pyIter_list hl1 ?_
        refine wpAny_bind (wpAny_runValue ?_)
        have hlS : l < s.heap.objs.size := Heap.lt_size hol
        have hh3 : A.in1.in1.in1.handled = none := by simp [hh]
        have hneI : l ≠ (s.heap.push (nStK w)).objs.size := by
          rw [Heap.size_push]; exact Nat.ne_of_lt (Nat.lt_succ_of_lt hlS)
        have hSf : s.heap.objs.size ∉ [(s.heap.push (nStK w)).objs.size, l] := by
          rw [Heap.size_push]; simp only [List.mem_cons, List.mem_singleton, List.not_mem_nil, or_false, not_or]
          exact ⟨Nat.ne_of_lt (Nat.lt_succ_self _), Nat.ne_of_gt hlS⟩
        have hval : ∀ (i : Nat) (v : Value), items[i]? = some v → ∃ p, ks[i]? = some p ∧ v = .ref p.1 := fun i v hv => by
          have q : items.toList[i]? = some v := by rw [Array.getElem?_toList]; exact hv
          rw [hit, List.getElem?_map] at q
          cases hq : ks[i]? with
          | none => rw [hq] at q; cases q
          | some p => rw [hq] at q; cases q; exact ⟨p, rfl, rfl⟩
        have none_of : ∀ b, s.heap.objs.size ≤ b → s.heap.get? b = none := fun b hb => by
          cases q : s.heap.get? b with
          | none => rfl
          | some o => exact absurd (Nat.lt_of_lt_of_le (Heap.lt_size q) hb) (Nat.lt_irrefl _)
        refine loopK ((Walks.list hh3 _ l hneI items).toS) s.heap.objs.size
          hSf ks hisz (by rw [← hisz]; exact hfew) hval s.heap hk (none_of _ (Nat.le_refl _)) (fun b hb => none_of b (by
            rw [List.mem_singleton.mp hb, Heap.size_push]
            exact Nat.le_succ _)) hu (items.size - 0) 0 _ (by omega) (Nat.zero_le _)
          ⟨⟨_, Heap.get?_push_size _ rfl, rfl, rfl⟩, (hl1.push _)⟩ (fun b o e => Heap.get?_push_of_some _ (Heap.get?_push_of_some _ e)) [] ?hS0 ⟨fun p hp => (nomatch hp), fun p hp => by simp at hp, Nat.le_refl _⟩ ?hR
        case hS0 => exact sts_new (Heap.get?_push_of_some _ hS)
        case hR =>
          intro s' L hm hS' g' hkp
          obtain ⟨h', g2, d', tk', os'⟩ := s'
          have eg : g2 = s.gens := hm.gens
          have ed : d' = s.drawn := hm.drawn
          have eo : os' = s.os := hm.os
          subst eg; subst ed; subst eo
          show wpAny _ _ _ _ _ _
          refine wpAny_pure ?_
          show wpAny _ _ (ret Value.none) _ _ _
          rw [← hisz] at g'
          exact wpAny_pure ⟨rfl, h', tk', L, rfl, hS', g', hkp⟩
      · cases r₂ with
        | error e => exact hr₂
        | ok fl₂ =>
          cases fl₂ with
          | ret r =>
            obtain ⟨rfl, h', tk, L, rfl, hS', g', hk'⟩ := hr₂
            repeat (any_goals (first | assumption | wp_step))
            exact h _ _ _ hS' g' hk'
          | _ => exact hr₂.elim
    | _ => exact hr.elim
end
end Pv

namespace Pv
/-! ### plain laws of the pure walk -/
theorem plains_ints : ∀ ns : List Int, plains (ns.map D.int) = true
  | [] => by simp [plains]
  | n :: ns => by simp [plains, plain, plains_ints ns]
theorem deps_ints : ∀ ns : List Int, deps (ns.map D.int) = 0
  | [] => by simp [deps]
  | n :: ns => by simp [deps, dep, deps_ints ns]
theorem plains_strs : ∀ ns : List (List Nat), plains (ns.map D.str) = true
  | [] => by simp [plains]
  | n :: ns => by simp [plains, plain, plains_strs ns]
theorem deps_strs : ∀ ns : List (List Nat), deps (ns.map D.str) = 0
  | [] => by simp [deps]
  | n :: ns => by simp [deps, dep, deps_strs ns]
mutual
theorem deq_refl : ∀ d : D, plain d = true → deq d d = true
  | .non, _ => by simp [deq]
  | .bl b, _ => by simp [deq]
  | .int i, _ => by simp [deq]
  | .str l, _ => by simp [deq]
  | .tup ds, h => by rw [deq]; exact deqs_refl ds (by simpa [plain] using h)
  | .lst ds, h => by rw [deq]; exact deqs_refl ds (by simpa [plain] using h)
  | .dic _, h => by simp [plain] at h
  | .obj _, h => by simp [plain] at h
  | .fn _, h => by simp [plain] at h
  | .kd _, h => by simp [plain] at h
theorem deqs_refl : ∀ ds : List D, plains ds = true → deqs ds ds = true
  | [], _ => by simp [deqs]
  | d :: ds, h => by
    rw [plains, Bool.and_eq_true] at h
    rw [deqs, deq_refl d h.1, deqs_refl ds h.2]
    rfl
end
theorem ixN_ok {n : Nat} {i : Int} (h0 : 0 ≤ i) (h1 : i < n) : ixN n i = some i.toNat := by
  unfold ixN
  rw [if_pos h0, if_pos h1]
theorem atD_map {α β : Type} (f : α → β) (xs : List α) (i : Int) : atD (xs.map f) i = (atD xs i).map f := by
  unfold atD
  rw [List.length_map]
  cases ixN xs.length i with
  | none => rfl
  | some j => simp
theorem atD_ok {α : Type} {xs : List α} {i : Int} (h0 : 0 ≤ i) (h1 : i < xs.length) : ∃ x, x ∈ xs ∧ atD xs i = some x := by
  unfold atD
  rw [ixN_ok h0 h1]
  have hl : i.toNat < xs.length := by omega
  exact ⟨xs[i.toNat], List.getElem_mem hl, by simp [hl]⟩
theorem ix_lst {ds : List D} {i : Int} {d : D} (h : atD ds i = some d) : ixD (.lst ds) (.int i) = .ok d := by simp [ixD, h]
theorem ix_tup {ds : List D} {i : Int} {d : D} (h : atD ds i = some d) : ixD (.tup ds) (.int i) = .ok d := by simp [ixD, h]
theorem ix_str {l : List Nat} {i : Int} {c : Nat} (h : atD l i = some c) : ixD (.str l) (.int i) = .ok (.str [c]) := by simp [ixD, h]
theorem at0 {α : Type} (x : α) (xs : List α) : atD (x :: xs) 0 = some x := by simp [atD, ixN]
theorem at1 {α : Type} (x y : α) (xs : List α) : atD (x :: y :: xs) 1 = some y := by
  unfold atD
  rw [ixN_ok (by decide) (by simp only [List.length_cons]; omega)]
  rfl
/-- a comprehension, item by item -/
theorem lcD_map {T : Tg} {t : Tv} {e : Xv} {env : En} (p : D → Bool) (f : D → D) : ∀ xs : List D, (∀ x ∈ xs, ∃ env2, stT T x env = some env2 ∧ t env2 = .ok (p x) ∧ (p x = true → e env2 = .ok (f x))) → lcD T t e env xs = .ok ((xs.filter p).map f)
  | [], _ => rfl
  | x :: xs, h => by
    obtain ⟨env2, h1, h2, h3⟩ := h x List.mem_cons_self
    have ih := lcD_map p f xs fun y hy => h y (List.mem_cons_of_mem _ hy)
    unfold lcD
    rw [h1]
    dsimp only
    rw [h2]
    cases q : p x with
    | true =>
      simp only [Res.calm, Res.bind, if_true]
      rw [h3 q]
      simp only [Res.calm]
      rw [ih]
      simp [List.filter_cons, q]
    | false =>
      simp only [Res.calm, Res.bind, Bool.false_eq_true, if_false]
      rw [ih]
      simp [List.filter_cons, q]
/-- a loop that goes on to its end -/
theorem forD_rel {α : Type} (I : α → En → Prop) (step : α → D → α) {T : Tg} {b : Sv} : ∀ (xs : List D) (a : α) (env : En), I a env →
    (∀ a env x, x ∈ xs → I a env → ∃ env2, stT T x env = some env2 ∧ ∃ env3, (b env2 = .nx env3 ∨ b env2 = .cont env3) ∧ I (step a x) env3) → ∃ env', forD T b xs env = .nx env' ∧ I (xs.foldl step a) env'
  | [], a, env, h, _ => ⟨env, rfl, h⟩
  | x :: xs, a, env, h, hs => by
    obtain ⟨env2, h1, env3, h2, h3⟩ := hs a env x List.mem_cons_self h
    obtain ⟨env', h4, h5⟩ := forD_rel I step xs (step a x) env3 h3 fun a env y hy => hs a env y (List.mem_cons_of_mem _ hy)
    refine ⟨env', ?_, h5⟩
    unfold forD
    rw [h1]
    dsimp only
    rcases h2 with h2 | h2 <;> rw [h2] <;> exact h4
theorem asBs_map : ∀ bs : List Bool, asBs (bs.map D.bl) = some bs
  | [] => rfl
  | b :: bs => by simp [asBs, asBs_map bs]
theorem all_bls (bs : List Bool) : allD (.lst (bs.map D.bl)) = .ok (.bl (bs.all id)) := by simp [allD, asBs_map]
theorem any_bls (bs : List Bool) : anyD (.lst (bs.map D.bl)) = .ok (.bl (bs.any id)) := by simp [anyD, asBs_map]
def ch (c : Nat) : D := .str [c]
def prs (p q : List Nat) : List (Nat × Nat) := p.zip q
theorem zip_strs (p q : List Nat) : zipD (.str p) (.str q) = .ok ((p.zip q).map fun x => .tup [ch x.1, ch x.2]) := by
  show Res.ok (zipW _ _) = _
  unfold zipW
  rw [List.zipWith_map_left, List.zipWith_map_right]
  simp [List.zip, List.map_zipWith, ch]
/-- do two signs agree -/
def ag (c d : Nat) : Bool := c == d || c == 120 || d == 120
def agB (p q : List Nat) : Bool := p.length == q.length && (p.zip q).all fun x => ag x.1 x.2
theorem lcD_mapS {α : Type} {T : Tg} {t : Tv} {e : Xv} {env : En} (g : α → D) (p : α → Bool) (f : α → D) (xs : List α) (h : ∀ x ∈ xs, ∃ env2, stT T (g x) env = some env2 ∧ t env2 = .ok (p x) ∧ (p x = true → e env2 = .ok (f x))) : lcD T t e env (xs.map g) = .ok ((xs.filter p).map f) := by
  induction xs with
  | nil => rfl
  | cons x xs ih =>
    obtain ⟨env2, h1, h2, h3⟩ := h x List.mem_cons_self
    have ih := ih fun y hy => h y (List.mem_cons_of_mem _ hy)
    rw [List.map_cons]
    unfold lcD
    rw [h1]
    dsimp only
    rw [h2]
    cases q : p x with
    | true =>
      simp only [Res.calm, Res.bind, if_true]
      rw [h3 q]
      simp only [Res.calm]
      rw [ih]
      simp [List.filter_cons, q]
    | false =>
      simp only [Res.calm, Res.bind, Bool.false_eq_true, if_false]
      rw [ih]
      simp [List.filter_cons, q]
/-! ### evaluation, where an environment is given -/
section
variable (env : En)
@[simp] theorem v_rdV (i : Nat) : rdV i env = (match gt env i with | some (.fz d) => .ok d | _ => .bad) := id rfl
@[simp] theorem v_rdB (i : Nat) : rdB i env = (match gt env i with | some (.fz d) => .ok d | some (.ow d) => .ok d | none => .bad) := id rfl
@[simp] theorem v_xC (d : D) : xC d env = .ok d := id rfl
@[simp] theorem v_xU (f : D → Res D) (a : Xv) : xU f a env = (a env).bind fun x => (f x).calm := id rfl
@[simp] theorem v_xOp (f : D → D → Res D) (a b : Xv) : xOp f a b env = (a env).bind fun x => (b env).bind fun y => (f x y).calm := id rfl
@[simp] theorem v_xChain (f g : D → D → Res D) (a b c : Xv) : xChain f g a b c env = (a env).bind fun x => (b env).bind fun y => (f x y).calm.bind fun z => (asB z).bind fun k => if k = true then (c env).bind fun w => (g y w).calm else .ok (.bl false) := id rfl
@[simp] theorem v_xAnd (a b : Xv) : xAnd a b env = (a env).bind fun x => (asB x).bind fun c => if c = true then b env else .ok (.bl false) := id rfl
@[simp] theorem v_xOr (a b : Xv) : xOr a b env = (a env).bind fun x => (asB x).bind fun c => if c = true then .ok (.bl true) else b env := id rfl
@[simp] theorem v_xNot (a : Xv) : xNot a env = (a env).bind fun x => (asB x).bind fun c => .ok (.bl (!c)) := id rfl
@[simp] theorem v_xIf (t : Tv) (a b : Xv) : xIf t a b env = (t env).bind fun x => if x = true then a env else b env := id rfl
@[simp] theorem v_tVal (a : Xv) : tVal a env = (a env).bind asB := id rfl
@[simp] theorem v_tNt (t : Tv) : tNt t env = (t env).bind fun b => .ok (!b) := id rfl
@[simp] theorem v_tAn (t u : Tv) : tAn t u env = (t env).bind fun x => if x = true then u env else .ok false := id rfl
@[simp] theorem v_tOr (t u : Tv) : tOr' t u env = (t env).bind fun x => if x = true then .ok true else u env := id rfl
@[simp] theorem v_tYs : tYs env = .ok true := id rfl
@[simp] theorem v_aNil : aNil env = .ok [] := id rfl
@[simp] theorem v_aCons (a : Xv) (r : Av) : aCons a r env = (a env).bind fun x => (r env).bind fun xs => .ok (x :: xs) := id rfl
@[simp] theorem v_xTup (a : Av) : xTup a env = (a env).bind fun xs => if xs.length ≤ LIM then .ok (.tup xs) else .bad := id rfl
@[simp] theorem v_xLst (a : Av) : xLst a env = (a env).bind fun xs => if xs.length ≤ LIM then .ok (.lst xs) else .bad := id rfl
@[simp] theorem v_xCall (f : List D → Res D) (a : Av) : xCall f a env = (a env).bind f := id rfl
@[simp] theorem v_xSl (a : Xv) (lo hi : Option Xv) : xSl a lo hi env = (a env).bind fun x => (oI lo env).bind fun l => (oI hi env).bind fun h => (slD l h x).calm := id rfl
@[simp] theorem v_oIn : oI none env = .ok none := id rfl
@[simp] theorem v_oIs (a : Xv) : oI (some a) env = (a env).bind fun d => (asI d).bind fun i => .ok (some i) := id rfl
@[simp] theorem v_iAny (a : Xv) : iAny a env = (a env).bind itD := id rfl
@[simp] theorem v_iR1 (a : Xv) : iR1 a env = (a env).bind rng1 := id rfl
@[simp] theorem v_iR2 (a b : Xv) : iR2 a b env = (a env).bind fun x => (b env).bind fun y => rng2 x y := id rfl
@[simp] theorem v_iZip (a b : Xv) : iZip a b env = (a env).bind fun x => (b env).bind fun y => zipD x y := id rfl
@[simp] theorem v_iEnum (a : Xv) : iEnum a env = (a env).bind fun x => (zpD x).bind fun xs => .ok (enumD 0 xs) := id rfl
@[simp] theorem v_iSeq (a : Xv) : iSeq a env = (a env).bind zpD := id rfl
@[simp] theorem v_sNil : sNil env = .nx env := id rfl
@[simp] theorem v_sSeq (s r : Sv) : sSeq s r env = (match s env with | .nx env' => r env' | f => f) := id rfl
@[simp] theorem v_sExpr (a : Xv) : sExpr a env = (a env).fl env fun _ => .nx env := id rfl
@[simp] theorem v_sRet (a : Xv) : sRet a env = (a env).fl env fun d => .ret d := id rfl
@[simp] theorem v_sIf (t : Tv) (s r : Sv) : sIf t s r env = (t env).fl env fun b => if b = true then s env else r env := id rfl
@[simp] theorem v_sAsg (T : Tg) (a : Xv) : sAsg T a env = (a env).fl env fun d => match stT T d env with | some env' => .nx env' | none => .bad := id rfl
@[simp] theorem v_sRaise (c : String) : sRaise c env = .exc c env := id rfl
@[simp] theorem v_sCont : sCont env = .cont env := id rfl
@[simp] theorem v_sBrk : sBrk env = .brk env := id rfl
@[simp] theorem v_oNil : oNil env = .ok [] := id rfl
@[simp] theorem v_oF (a : Xv) (r : Ov) : oF a r env = (a env).bind fun x => (r env).bind fun xs => .ok (.fz x :: xs) := id rfl
@[simp] theorem v_oL (a : Av) (r : Ov) : oL a r env = (a env).bind fun xs => if xs.length ≤ LIM then (r env).bind fun ss => .ok (.ow (.lst xs) :: ss) else .bad := id rfl
@[simp] theorem v_oD (r : Ov) : oD r env = (r env).bind fun ss => .ok (.ow (.dic []) :: ss) := id rfl
@[simp] theorem v_sOwn (is : List Nat) (o : Ov) : sOwn is o env = (o env).fl env fun ss => match ptSl is ss env with | some env' => .nx env' | none => .bad := id rfl
@[simp] theorem v_sApp (i : Nat) (a : Xv) : sApp i a env = (match gt env i with | some (.ow (.lst ds)) => (a env).fl env fun d => if ds.length < LIM then .nx (pt env i (some (.ow (.lst (ds ++ [d]))))) else .bad | _ => .bad) := id rfl
@[simp] theorem v_sFrz (i : Nat) (s : Sv) : sFrz i s env = s (frz i env) := id rfl
@[simp] theorem v_sFor (T : Tg) (iv : Av) (b : Sv) : sFor T iv b env = (iv env).fl env fun xs => forD T b xs env := id rfl
@[simp] theorem v_sWh (fu : En → Nat) (t : Tv) (b : Sv) : sWh fu t b env = whD t b (fu env) env := id rfl
@[simp] theorem v_ok {α β : Type} (a : α) (f : α → Res β) : Res.bind (.ok a) f = f a := id rfl
@[simp] theorem v_bad {α β : Type} (f : α → Res β) : Res.bind .bad f = .bad := id rfl
@[simp] theorem v_exc {α β : Type} (c : String) (f : α → Res β) : Res.bind (.exc c) f = .exc c := id rfl
@[simp] theorem v_cok {α : Type} (a : α) : Res.calm (.ok a) = .ok a := id rfl
@[simp] theorem v_fok {α : Type} (a : α) (f : α → Fl) : Res.fl (.ok a) env f = f a := id rfl
@[simp] theorem v_fexc {α : Type} (c : String) (f : α → Fl) : Res.fl (.exc c) env f = .exc c env := id rfl
@[simp] theorem v_asB (b : Bool) : asB (.bl b) = .ok b := id rfl
@[simp] theorem v_asI (i : Int) : asI (.int i) = .ok i := id rfl
end
@[simp] theorem v_cexc {α : Type} (c : String) : Res.calm (.exc c : Res α) = .bad := id rfl
@[simp] theorem v_cbad {α : Type} : Res.calm (.bad : Res α) = .bad := id rfl
@[simp] theorem v_outr (d : D) : outOf (.ret d) = .ok d := id rfl
@[simp] theorem v_outn (e : En) : outOf (.nx e) = .ok .non := id rfl
@[simp] theorem v_oute (c : String) (e : En) : outOf (.exc c e) = .exc c := id rfl
@[simp] theorem v_LIM : LIM = 16777216 := id rfl
@[simp] theorem v_gt0 (x : Option Sl) (r : En) : gt (x :: r) 0 = x := id rfl
@[simp] theorem v_gtS (x : Option Sl) (r : En) (i : Nat) : gt (x :: r) (i + 1) = gt r i := id rfl
@[simp] theorem v_pt0 (x : Option Sl) (r : En) (s : Option Sl) : pt (x :: r) 0 s = s :: r := id rfl
@[simp] theorem v_ptS (x : Option Sl) (r : En) (i : Nat) (s : Option Sl) : pt (x :: r) (i + 1) s = x :: pt r i s := id rfl
@[simp] theorem v_stn (i : Nat) (d : D) (env : En) : stT (.nm i) d env = some (pt env i (some (.fz d))) := id rfl
@[simp] theorem v_stt (is : List Nat) (ds : List D) (env : En) : stT (.tp is) (.tup ds) env = ptAll is ds env := id rfl
@[simp] theorem v_pa0 (env : En) : ptAll [] [] env = some env := id rfl
@[simp] theorem v_paS (i : Nat) (is : List Nat) (d : D) (ds : List D) (env : En) : ptAll (i :: is) (d :: ds) env = ptAll is ds (pt env i (some (.fz d))) := id rfl
@[simp] theorem v_ps0 (env : En) : ptSl [] [] env = some env := id rfl
@[simp] theorem v_psS (i : Nat) (is : List Nat) (d : Sl) (ds : List Sl) (env : En) : ptSl (i :: is) (d :: ds) env = ptSl is ds (pt env i (some d)) := id rfl
@[simp] theorem v_wi0 (env : En) : wipeE env [] = env := id rfl
@[simp] theorem v_wiS (env : En) (v : Nat) (vs : List Nat) : wipeE env (v :: vs) = pt (wipeE env vs) v none := id rfl
@[simp] theorem v_frz (i : Nat) (env : En) : frz i env = (match gt env i with | some (.ow d) => pt env i (some (.fz d)) | _ => env) := id rfl
@[simp] theorem v_addI (i j : Int) : addD (.int i) (.int j) = .ok (.int (i + j)) := id rfl
@[simp] theorem v_addS (a b : List Nat) : addD (.str a) (.str b) = (if a.length + b.length ≤ LIM then .ok (.str (a ++ b)) else .bad) := id rfl
@[simp] theorem v_addL (a b : List D) : addD (.lst a) (.lst b) = (if a.length + b.length ≤ LIM then .ok (.lst (a ++ b)) else .bad) := id rfl
@[simp] theorem v_addT (a b : List D) : addD (.tup a) (.tup b) = (if a.length + b.length ≤ LIM then .ok (.tup (a ++ b)) else .bad) := id rfl
@[simp] theorem v_subI (i j : Int) : subD (.int i) (.int j) = .ok (.int (i - j)) := id rfl
@[simp] theorem v_mulI (i j : Int) : mulD (.int i) (.int j) = (if (-(2 ^ 64) < i ∧ i < 2 ^ 64) ∨ (-(2 ^ 64) < j ∧ j < 2 ^ 64) then .ok (.int (i * j)) else .bad) := id rfl
@[simp] theorem v_mulS (a : List Nat) (j : Int) : mulD (.str a) (.int j) = (if 0 ≤ j ∧ a.length * j.toNat ≤ LIM ∧ j ≤ LIM then .ok (.str (List.replicate j.toNat a).flatten) else .bad) := id rfl
@[simp] theorem v_mulL (a : List D) (j : Int) : mulD (.lst a) (.int j) = (if -(2 ^ 63) ≤ j ∧ j < 2 ^ 63 ∧ a.length * j.toNat ≤ LIM then .ok (.lst (List.replicate j.toNat a).flatten) else .bad) := id rfl
@[simp] theorem v_fdivI (i j : Int) : fdivD (.int i) (.int j) = (if 0 < j ∧ j < 2 ^ 64 then .ok (.int (i / j)) else .bad) := id rfl
@[simp] theorem v_modI (i j : Int) : modD (.int i) (.int j) = (if 0 < j then .ok (.int (i % j)) else .bad) := id rfl
@[simp] theorem v_powI (i j : Int) : powD (.int i) (.int j) = (if 0 ≤ j ∧ j ≤ 1000000 ∧ i.natAbs < 2 ^ 64 then .ok (.int (i ^ j.toNat)) else .bad) := id rfl
@[simp] theorem v_leI (i j : Int) : leD (.int i) (.int j) = .ok (.bl (decide (i ≤ j))) := id rfl
@[simp] theorem v_gtI (i j : Int) : gtD (.int i) (.int j) = .ok (.bl (decide (j < i))) := id rfl
@[simp] theorem v_geI (i j : Int) : geD (.int i) (.int j) = .ok (.bl (decide (j ≤ i))) := id rfl
@[simp] theorem v_isB (a b : Bool) : isD (.bl a) (.bl b) = .ok (.bl (decide (a = b))) := id rfl
@[simp] theorem v_isnB (a b : Bool) : isnD (.bl a) (.bl b) = .ok (.bl (!decide (a = b))) := id rfl
@[simp] theorem v_isiD (T : Ty) (d : D) : isiD T d = (match isiB T d with | some b => .ok (.bl b) | none => .bad) := id rfl
@[simp] theorem v_intI (i : Int) : intD (.int i) = .ok (.int i) := id rfl
@[simp] theorem v_tupL (ds : List D) : tupD (.lst ds) = .ok (.tup ds) := id rfl
@[simp] theorem v_tupT (ds : List D) : tupD (.tup ds) = .ok (.tup ds) := id rfl
@[simp] theorem v_iint_non  : isiB .int .non = some false := id rfl
@[simp] theorem v_iint_bl (b : Bool) : isiB .int (.bl b) = some true := id rfl
@[simp] theorem v_iint_int (i : Int) : isiB .int (.int i) = some true := id rfl
@[simp] theorem v_iint_str (l : List Nat) : isiB .int (.str l) = some false := id rfl
@[simp] theorem v_iint_tup (l : List D) : isiB .int (.tup l) = some false := id rfl
@[simp] theorem v_iint_lst (l : List D) : isiB .int (.lst l) = some false := id rfl
@[simp] theorem v_iint_dic (l : List (List Nat × D)) : isiB .int (.dic l) = some false := id rfl
@[simp] theorem v_ibool_non  : isiB .bool .non = some false := id rfl
@[simp] theorem v_ibool_bl (b : Bool) : isiB .bool (.bl b) = some true := id rfl
@[simp] theorem v_ibool_int (i : Int) : isiB .bool (.int i) = some false := id rfl
@[simp] theorem v_ibool_str (l : List Nat) : isiB .bool (.str l) = some false := id rfl
@[simp] theorem v_ibool_tup (l : List D) : isiB .bool (.tup l) = some false := id rfl
@[simp] theorem v_ibool_lst (l : List D) : isiB .bool (.lst l) = some false := id rfl
@[simp] theorem v_ibool_dic (l : List (List Nat × D)) : isiB .bool (.dic l) = some false := id rfl
@[simp] theorem v_istr_non  : isiB .str .non = some false := id rfl
@[simp] theorem v_istr_bl (b : Bool) : isiB .str (.bl b) = some false := id rfl
@[simp] theorem v_istr_int (i : Int) : isiB .str (.int i) = some false := id rfl
@[simp] theorem v_istr_str (l : List Nat) : isiB .str (.str l) = some true := id rfl
@[simp] theorem v_istr_tup (l : List D) : isiB .str (.tup l) = some false := id rfl
@[simp] theorem v_istr_lst (l : List D) : isiB .str (.lst l) = some false := id rfl
@[simp] theorem v_istr_dic (l : List (List Nat × D)) : isiB .str (.dic l) = some false := id rfl
@[simp] theorem v_ituple_non  : isiB .tuple .non = some false := id rfl
@[simp] theorem v_ituple_bl (b : Bool) : isiB .tuple (.bl b) = some false := id rfl
@[simp] theorem v_ituple_int (i : Int) : isiB .tuple (.int i) = some false := id rfl
@[simp] theorem v_ituple_str (l : List Nat) : isiB .tuple (.str l) = some false := id rfl
@[simp] theorem v_ituple_tup (l : List D) : isiB .tuple (.tup l) = some true := id rfl
@[simp] theorem v_ituple_lst (l : List D) : isiB .tuple (.lst l) = some false := id rfl
@[simp] theorem v_ituple_dic (l : List (List Nat × D)) : isiB .tuple (.dic l) = some false := id rfl
@[simp] theorem v_ilist_non  : isiB .list .non = some false := id rfl
@[simp] theorem v_ilist_bl (b : Bool) : isiB .list (.bl b) = some false := id rfl
@[simp] theorem v_ilist_int (i : Int) : isiB .list (.int i) = some false := id rfl
@[simp] theorem v_ilist_str (l : List Nat) : isiB .list (.str l) = some false := id rfl
@[simp] theorem v_ilist_tup (l : List D) : isiB .list (.tup l) = some false := id rfl
@[simp] theorem v_ilist_lst (l : List D) : isiB .list (.lst l) = some true := id rfl
@[simp] theorem v_ilist_dic (l : List (List Nat × D)) : isiB .list (.dic l) = some false := id rfl
theorem xLc_ok {α : Type} {T : Tg} {own : List Nat} {iv : Av} {t : Tv} {e : Xv} {env : En} (g : α → D) (p : α → Bool) (f : α → D) (xs : List α) (hi : iv env = .ok (xs.map g)) (h : ∀ x ∈ xs, ∃ env2, stT T (g x) (wipeE env own) = some env2 ∧ t env2 = .ok (p x) ∧ (p x = true → e env2 = .ok (f x))) :
    xLc T own iv t e env = .ok (.lst ((xs.filter p).map f)) := by
  unfold xLc
  rw [hi]
  show (lcD T t e (wipeE env own) (xs.map g)).bind _ = _
  rw [lcD_mapS g p f xs h]
  rfl
theorem xLc_map {α : Type} {T : Tg} {own : List Nat} {iv : Av} {e : Xv} {env : En} (g : α → D) (f : α → D) (xs : List α) (hi : iv env = .ok (xs.map g)) (h : ∀ x ∈ xs, ∃ env2, stT T (g x) (wipeE env own) = some env2 ∧ e env2 = .ok (f x)) :
    xLc T own iv tYs e env = .ok (.lst (xs.map f)) := by
  rw [xLc_ok g (fun _ => true) f xs hi fun x hx => by
    obtain ⟨env2, h1, h2⟩ := h x hx
    exact ⟨env2, h1, rfl, fun _ => h2⟩]
  rw [List.filter_eq_self.mpr fun _ _ => rfl]
end Pv

namespace Pv.W52
def excs : List String := ["DialError", "InvalidPlan", "ParseError"]
def isa (c d : String) : Bool := (c == "DialError" && ["DialError"].contains d) || (c == "InvalidPlan" && ["InvalidPlan", "DialError"].contains d) || (c == "ParseError" && ["ParseError", "DialError"].contains d)
def catE (c : String) : Option Bool := if c ∈ excs then some (isa c "DialError") else none
def catR (c : String) : Option Bool := if c ∈ excs then some (isa c "ParseError") else none
def b1__law_pick : Sv :=
  (sOwn [4, 5] (oF (xOp fdivD (rdB 4) (xC (.int 840))) (oF (xOp subD (rdB 5) (xC (.int 1))) oNil)))
def q2__law_pick : Sv :=
  (sWh (fuel 5) (tAn (tVal (xOp gtD (rdB 4) (xC (.int 0)))) (tVal (xOp gtD (rdB 5) (xC (.int 0))))) b1__law_pick)
def q3__law_pick : Sv :=
  (sIf (tVal (xOp gtD (rdB 4) (xC (.int 0)))) (sRet (xOp modD (xU intD (xOp modD (xU intD (rdB 4)) (xC (.int 840)))) (rdB 2))) sNil)
def sv__law_pick : Sv :=
  (sSeq (sAsg (.nm 3) (xIf (tVal (xOp neD (rdB 0) (xLst aNil))) (xOp ixD (rdB 0) (xOp modD (xU intD (rdB 1)) (xU lenD (rdB 0)))) (xC (.int 0))))
  (sSeq (sOwn [4, 5] (oF (xOp fdivD (rdB 3) (xOp powD (xC (.int 10)) (xC (.int 18)))) (oF (xOp fdivD (rdB 1) (xOp max2D (xU lenD (rdB 0)) (xC (.int 1)))) oNil)))
  (sSeq q2__law_pick
  (sSeq q3__law_pick
  (sSeq (sAsg (.nm 6) (xOp modD (xU intD (xOp mulD (xOp addD (xOp mulD (rdB 3) (xC (.int 31))) (xOp mulD (xC (.int 6151)) (xOp addD (rdB 1) (xC (.int 1))))) (xC (.int 40692)))) (xC (.int 2147483399))))
  (sRet (xOp modD (xU intD (xOp modD (xU intD (xOp addD (xOp mulD (rdB 6) (rdB 6)) (xOp fdivD (rdB 6) (xC (.int 31))))) (xC (.int 2147483629)))) (rdB 2))))))))
def Fn__law_pick : List D → Res D := mkFn 3 7 sv__law_pick
def q1__law_agree : Sv :=
  (sIf (tVal (xOp neD (xU lenD (rdB 0)) (xU lenD (rdB 1)))) (sRet (xC (.bl false))) sNil)
def sv__law_agree : Sv :=
  (sSeq q1__law_agree
  (sRet (xOp eqD (xLc (.tp [2, 3]) [2, 3] (iZip (rdV 0) (rdV 1)) (tAn (tVal (xOp neD (rdB 2) (rdB 3))) (tAn (tVal (xOp neD (rdB 2) (xC (.str [120])))) (tVal (xOp neD (rdB 3) (xC (.str [120])))))) (xC (.int 1))) (xLst aNil))))
def Fn__law_agree : List D → Res D := mkFn 2 4 sv__law_agree
def q1__law_plan : Sv :=
  (sIf (tVal (xOp eqD (xLc (.nm 10) [10] (iSeq (rdB 3)) (tVal (xCall Fn__law_agree (aCons (xOp ixD (rdB 10) (xC (.int 0))) (aCons (rdV 7) aNil)))) (rdV 10)) (xLst aNil))) (sApp 3 (xTup (aCons (rdV 7) (aCons (rdV 9) aNil)))) sNil)
def b2__law_plan : Sv :=
  (sSeq (sAsg (.nm 5) (xOp addD (xC (.int 1)) (xCall Fn__law_pick (aCons (rdV 0) (aCons (xOp addD (xOp addD (rdB 1) (xC (.int 2))) (xOp mulD (xC (.int 8)) (rdB 4))) (aCons (xC (.int 3)) aNil))))))
  (sSeq (sAsg (.nm 6) (xOp addD (xOp mulD (xSl (xC (.str [48, 49, 50])) none (some (rdV 2))) (xC (.int 2))) (xC (.str [120]))))
  (sSeq (sAsg (.nm 7) (xM isStr joinD (xC (.str [])) (xLc (.nm 8) [8] (iR1 (rdV 5)) tYs (xOp ixD (rdB 6) (xCall Fn__law_pick (aCons (rdV 0) (aCons (xOp addD (xOp addD (xOp addD (rdB 1) (xC (.int 3))) (xOp mulD (xC (.int 8)) (rdB 4))) (rdB 8)) (aCons (xU lenD (rdB 6)) aNil))))))))
  (sSeq (sAsg (.nm 9) (xOp ixD (xC (.str [97, 98, 99])) (xCall Fn__law_pick (aCons (rdV 0) (aCons (xOp addD (xOp addD (rdB 1) (xC (.int 7))) (xOp mulD (xC (.int 8)) (rdB 4))) (aCons (xC (.int 3)) aNil))))))
  q1__law_plan))))
def q3__law_plan : Sv :=
  (sFor (.nm 4) (iR1 (xOp addD (xC (.int 1)) (xCall Fn__law_pick (aCons (rdV 0) (aCons (xOp addD (rdB 1) (xC (.int 1))) (aCons (xC (.int 6)) aNil)))))) b2__law_plan)
def sv__law_plan : Sv :=
  (sSeq (sOwn [2, 3] (oF (xOp addD (xC (.int 2)) (xCall Fn__law_pick (aCons (rdV 0) (aCons (rdV 1) (aCons (xC (.int 2)) aNil))))) (oL aNil oNil)))
  (sSeq q3__law_plan
  (sRet (xTup (aCons (rdV 2) (aCons (xU tupD (xU sortD (rdB 3))) aNil))))))
def Fn__law_plan : List D → Res D := mkFn 2 11 sv__law_plan
def sv__law_text : Sv :=
  (sRet (xOp addD (xOp addD (xOp addD (xC (.str [112, 108, 97, 110, 32])) (xU strI (xOp ixD (rdB 0) (xC (.int 0))))) (xC (.str [10]))) (xM isStr joinD (xC (.str [])) (xLc (.tp [1, 2]) [1, 2] (iSeq (xOp ixD (rdB 0) (xC (.int 1)))) tYs (xOp addD (xOp addD (xOp addD (xOp addD (xC (.str [101, 110, 116, 114, 121, 32])) (rdB 1)) (xC (.str [32]))) (rdB 2)) (xC (.str [10])))))))
def Fn__law_text : List D → Res D := mkFn 1 3 sv__law_text
def q1_agree : Sv :=
  (sIf (tVal (xOp neD (xU lenD (rdB 0)) (xU lenD (rdB 1)))) (sRet (xC (.bl false))) sNil)
def sv_agree : Sv :=
  (sSeq q1_agree
  (sRet (xU allD (xLc (.tp [2, 3]) [2, 3] (iZip (rdV 0) (rdV 1)) tYs (xOr (xOp eqD (rdB 2) (rdB 3)) (xOp inD (xC (.str [120])) (xTup (aCons (rdV 2) (aCons (rdV 3) aNil)))))))))
def Fn_agree : List D → Res D := mkFn 2 4 sv_agree
def q1_are_apart : Sv :=
  (sIf (tVal (xU anyD (xLc (.nm 3) [3] (iSeq (xSl (rdB 0) (some (xOp addD (rdB 1) (xC (.int 1)))) none)) tYs (xCall Fn_agree (aCons (xOp ixD (rdB 2) (xC (.int 0))) (aCons (xOp ixD (rdB 3) (xC (.int 0))) aNil)))))) (sRet (xC (.bl false))) sNil)
def b2_are_apart : Sv :=
  q1_are_apart
def q3_are_apart : Sv :=
  (sFor (.tp [1, 2]) (iEnum (rdV 0)) b2_are_apart)
def sv_are_apart : Sv :=
  (sSeq q3_are_apart
  (sRet (xC (.bl true))))
def Fn_are_apart : List D → Res D := mkFn 1 4 sv_are_apart
def sv_is_int : Sv :=
  (sRet (xAnd (xU (isiD .int) (rdB 0)) (xAnd (xNot (xU (isiD .bool) (rdB 0))) (xChain leD leD (rdB 1) (rdB 0) (rdB 2)))))
def Fn_is_int : List D → Res D := mkFn 3 3 sv_is_int
def b1_count_numbers : Sv :=
  (sAsg (.nm 5) (xOp mulD (rdB 5) (xIf (tVal (xOp eqD (rdB 6) (xC (.str [120])))) (rdV 0) (xC (.int 1)))))
def q2_count_numbers : Sv :=
  (sFor (.nm 6) (iSeq (rdV 3)) b1_count_numbers)
def b3_count_numbers : Sv :=
  (sSeq (sAsg (.nm 5) (xC (.int 1)))
  (sSeq q2_count_numbers
  (sAsg (.nm 2) (xOp addD (rdB 2) (rdB 5)))))
def q4_count_numbers : Sv :=
  (sFor (.tp [3, 4]) (iSeq (rdV 1)) b3_count_numbers)
def sv_count_numbers : Sv :=
  (sSeq (sAsg (.nm 2) (xC (.int 0)))
  (sSeq q4_count_numbers
  (sRet (rdV 2))))
def Fn_count_numbers : List D → Res D := mkFn 2 7 sv_count_numbers
def sv_is_word : Sv :=
  (sRet (xAnd (xU (isiD .str) (rdB 0)) (xAnd (xChain leD leD (rdB 2) (xU lenD (rdB 0)) (rdB 3)) (xU allD (xLc (.nm 4) [4] (iSeq (rdB 0)) tYs (xOp inD (rdB 4) (rdB 1)))))))
def Fn_is_word : List D → Res D := mkFn 4 5 sv_is_word
def q1_is_entry : Sv :=
  (sIf (tOr' (tNt (tVal (xU (isiD .tuple) (rdB 1)))) (tVal (xOp neD (xU lenD (rdB 1)) (xC (.int 2))))) (sRet (xC (.bl false))) sNil)
def sv_is_entry : Sv :=
  (sSeq q1_is_entry
  (sRet (xAnd (xCall Fn_is_word (aCons (xOp ixD (rdB 1) (xC (.int 0))) (aCons (xOp addD (xSl (xC (.str [48, 49, 50, 51, 52, 53])) none (some (rdV 0))) (xC (.str [120]))) (aCons (xC (.int 1)) (aCons (xC (.int 6)) aNil))))) (xCall Fn_is_word (aCons (xOp ixD (rdB 1) (xC (.int 1))) (aCons (xC (.str [97, 98, 99, 100, 101, 102, 103, 104, 105, 106, 107, 108, 109, 110, 111, 112, 113, 114, 115, 116, 117, 118, 119, 120, 121, 122])) (aCons (xC (.int 1)) (aCons (xC (.int 3)) aNil))))))))
def Fn_is_entry : List D → Res D := mkFn 2 2 sv_is_entry
def q1_is_plan : Sv :=
  (sIf (tOr' (tNt (tVal (xU (isiD .tuple) (rdB 0)))) (tOr' (tVal (xOp neD (xU lenD (rdB 0)) (xC (.int 2)))) (tNt (tVal (xCall Fn_is_int (aCons (xOp ixD (rdB 0) (xC (.int 0))) (aCons (xC (.int 2)) (aCons (xC (.int 6)) aNil)))))))) (sRet (xC (.bl false))) sNil)
def q2_is_plan : Sv :=
  (sIf (tOr' (tNt (tVal (xU (isiD .tuple) (rdB 2)))) (tNt (tVal (xChain leD leD (xC (.int 1)) (xU lenD (rdB 2)) (xC (.int 8)))))) (sRet (xC (.bl false))) sNil)
def q3_is_plan : Sv :=
  (sIf (tNt (tVal (xU allD (xLc (.nm 3) [3] (iSeq (rdB 2)) tYs (xCall Fn_is_entry (aCons (rdV 1) (aCons (rdV 3) aNil))))))) (sRet (xC (.bl false))) sNil)
def q4_is_plan : Sv :=
  (sIf (tNt (tVal (xU allD (xLc (.tp [4, 5]) [4, 5] (iZip (rdV 2) (xSl (rdB 2) (some (xC (.int 1))) none)) tYs (xOp ltD (rdB 4) (rdB 5)))))) (sRet (xC (.bl false))) sNil)
def sv_is_plan : Sv :=
  (sSeq q1_is_plan
  (sSeq (sAsg (.tp [1, 2]) (rdV 0))
  (sSeq q2_is_plan
  (sSeq q3_is_plan
  (sSeq q4_is_plan
  (sRet (xAnd (xCall Fn_are_apart (aCons (rdV 2) aNil)) (xOp leD (xCall Fn_count_numbers (aCons (rdV 1) (aCons (rdV 2) aNil))) (xC (.int 200))))))))))
def Fn_is_plan : List D → Res D := mkFn 1 6 sv_is_plan
def q1_check_plan : Sv :=
  (sIf (tNt (tVal (xCall Fn_is_plan (aCons (rdV 0) aNil)))) (sRaise "InvalidPlan") sNil)
def sv_check_plan : Sv :=
  q1_check_plan
def Fn_check_plan : List D → Res D := mkFn 1 1 sv_check_plan
def sv_join_plan : Sv :=
  (sSeq (sAsg (.tp [1, 2]) (rdV 0))
  (sSeq (sAsg (.nm 3) (xOp addD (xLst (aCons (xLst (aCons (xC (.str [112, 108, 97, 110])) (aCons (xU strI (rdB 1)) aNil))) aNil)) (xLc (.tp [4, 5]) [4, 5] (iSeq (rdB 2)) tYs (xLst (aCons (xC (.str [101, 110, 116, 114, 121])) (aCons (rdV 4) (aCons (rdV 5) aNil)))))))
  (sRet (xM isStr joinD (xC (.str [])) (xLc (.nm 6) [6] (iSeq (rdB 3)) tYs (xOp addD (xM isStr joinD (xC (.str [32])) (rdB 6)) (xC (.str [10]))))))))
def Fn_join_plan : List D → Res D := mkFn 1 7 sv_join_plan
def sv_format_plan : Sv :=
  (sSeq (sExpr (xCall Fn_check_plan (aCons (rdV 0) aNil)))
  (sRet (xCall Fn_join_plan (aCons (rdV 0) aNil))))
def Fn_format_plan : List D → Res D := mkFn 1 1 sv_format_plan
def q1_parse_plan : Sv :=
  (sIf (tNt (tVal (xU (isiD .str) (rdB 0)))) (sRaise "ParseError") sNil)
def q2_parse_plan : Sv :=
  (sIf (tOr' (tVal (xOp eqD (rdB 1) (xLst aNil))) (tOr' (tVal (xOp neD (xU lenD (xOp ixD (rdB 1) (xC (.int 0)))) (xC (.int 2)))) (tNt (tVal (xU allD (xLc (.nm 2) [2] (iSeq (xSl (rdB 1) (some (xC (.int 1))) none)) tYs (xOp eqD (xU lenD (rdB 2)) (xC (.int 3))))))))) (sRaise "ParseError") sNil)
def q3_parse_plan : Sv :=
  (sIf (tOr' (tNt (tVal (xCall Fn_is_plan (aCons (rdV 5) aNil)))) (tVal (xOp neD (xCall Fn_join_plan (aCons (rdV 5) aNil)) (rdB 0)))) (sRaise "ParseError") sNil)
def sv_parse_plan : Sv :=
  (sSeq q1_parse_plan
  (sSeq (sAsg (.nm 1) (xLc (.nm 2) [2] (iSeq (xSl (xM isStr splitD (rdV 0) (xC (.str [10]))) none (some (xC (.int (-1)))))) tYs (xM isStr splitD (rdV 2) (xC (.str [32])))))
  (sSeq q2_parse_plan
  (sSeq (sAsg (.nm 3) (xOp ixD (xOp ixD (rdB 1) (xC (.int 0))) (xC (.int 1))))
  (sSeq (sAsg (.nm 4) (xIf (tAn (tVal (xOp eqD (xU lenD (rdB 3)) (xC (.int 1)))) (tVal (xOp inD (rdB 3) (xC (.str [48, 49, 50, 51, 52, 53, 54, 55, 56, 57]))))) (xU intS (rdB 3)) (xC .non)))
  (sSeq (sAsg (.nm 5) (xTup (aCons (rdV 4) (aCons (xU tupD (xLc (.nm 2) [2] (iSeq (xSl (rdB 1) (some (xC (.int 1))) none)) tYs (xTup (aCons (xOp ixD (rdB 2) (xC (.int 1))) (aCons (xOp ixD (rdB 2) (xC (.int 2))) aNil))))) aNil))))
  (sSeq q3_parse_plan
  (sRet (rdV 5)))))))))
def Fn_parse_plan : List D → Res D := mkFn 1 6 sv_parse_plan
def q1_law : Sv :=
  (sIf (tOr' (tVal (xOp neD (xCall Fn_format_plan (aCons (rdV 2) aNil)) (rdB 3))) (tVal (xOp neD (rdL catR (xCall Fn_parse_plan (aCons (rdV 3) aNil))) (rdB 2)))) (sRet (xC (.bl false))) sNil)
def q2_law : Sv :=
  (sIf (tAn (tVal (xOp isnD (rdB 8) (xC .non))) (tOr' (tNt (tVal (xCall Fn_is_plan (aCons (rdV 8) aNil)))) (tVal (xOp neD (xCall Fn__law_text (aCons (rdV 8) aNil)) (rdB 7))))) (sRet (xC (.bl false))) sNil)
def b3_law : Sv :=
  (sSeq (sAsg (.nm 7) (xOp addD (xOp addD (xSl (rdB 3) none (some (rdV 5))) (rdB 6)) (xSl (rdB 3) (some (xOp addD (rdB 5) (xC (.int 1)))) none)))
  (sSeq (sAsg (.nm 8) (rdL catR (xCall Fn_parse_plan (aCons (rdV 7) aNil))))
  q2_law))
def q4_law : Sv :=
  (sFor (.nm 6) (iSeq (xTup (aCons (xC (.str [48])) (aCons (xC (.str [49])) (aCons (xC (.str [32])) (aCons (xC (.str [10])) (aCons (xC (.str [])) (aCons (xC (.str [120])) (aCons (xC (.str [97])) (aCons (xC (.str [55])) aNil)))))))))) b3_law)
def b5_law : Sv :=
  (sSeq (sAsg (.nm 5) (xCall Fn__law_pick (aCons (rdV 0) (aCons (xOp addD (xOp addD (xOp mulD (xC (.int 70)) (rdB 1)) (xC (.int 60))) (rdB 4)) (aCons (xU lenD (rdB 3)) aNil)))))
  q4_law)
def q6_law : Sv :=
  (sFor (.nm 4) (iR1 (xC (.int 3))) b5_law)
def q7_law : Sv :=
  (sIf (tVal (xOp isnD (rdL catR (xCall Fn_parse_plan (aCons (rdV 10) aNil))) (xC .non))) (sRet (xC (.bl false))) sNil)
def b8_law : Sv :=
  q7_law
def q9_law : Sv :=
  (sFor (.nm 10) (iSeq (rdV 9)) b8_law)
def b10_law : Sv :=
  (sSeq (sAsg (.nm 2) (xCall Fn__law_plan (aCons (rdV 0) (aCons (xOp mulD (xC (.int 70)) (rdB 1)) aNil))))
  (sSeq (sAsg (.nm 3) (xCall Fn__law_text (aCons (rdV 2) aNil)))
  (sSeq q1_law
  (sSeq q6_law
  (sSeq (sOwn [9] (oL (aCons (xC .non) (aCons (xC (.int 7)) (aCons (xC (.str [])) (aCons (xSl (rdB 3) none (some (xC (.int (-1))))) (aCons (xOp addD (rdB 3) (xC (.str [10]))) (aCons (xOp addD (xC (.str [32])) (rdB 3)) (aCons (xU (repD [112, 108, 97, 110] [112, 108, 97, 110, 115]) (rdV 3)) aNil))))))) oNil))
  (sSeq (sExt 9 (xLst (aCons (xLst (aCons (rdV 3) aNil)) (aCons (xOp addD (rdB 3) (rdB 3)) aNil))))
  (sSeq (sExt 9 (xLst (aCons (xOp addD (rdB 3) (xC (.str [101, 110, 116, 114, 121, 32, 48, 10]))) (aCons (xOp addD (rdB 3) (xC (.str [101, 110, 116, 114, 121, 32, 32, 97, 10]))) (aCons (xU (repD [112, 108, 97, 110, 32] [112, 108, 97, 110, 32, 48]) (rdV 3)) (aCons (xC (.str [112, 108, 97, 110, 32, 50, 10])) aNil))))))
  (sFrz 9 q9_law))))))))
def q11_law : Sv :=
  (sFor (.nm 1) (iR1 (xC (.int 6))) b10_law)
def sv_law : Sv :=
  (sSeq q11_law
  (sSeq (sAsg (.nm 2) (xTup (aCons (xC (.int 2)) (aCons (xTup (aCons (xTup (aCons (xC (.str [48])) (aCons (xC (.str [97])) aNil))) (aCons (xTup (aCons (xC (.str [49, 120])) (aCons (xC (.str [98])) aNil))) aNil))) aNil))))
  (sRet (xAnd (xOp eqD (xCall Fn_format_plan (aCons (rdV 2) aNil)) (xC (.str [112, 108, 97, 110, 32, 50, 10, 101, 110, 116, 114, 121, 32, 48, 32, 97, 10, 101, 110, 116, 114, 121, 32, 49, 120, 32, 98, 10]))) (xOp eqD (xCall Fn_parse_plan (aCons (xCall Fn_format_plan (aCons (rdV 2) aNil)) aNil)) (rdB 2))))))
def Fn_law : List D → Res D := mkFn 1 11 sv_law
end Pv.W52

namespace Pv
theorem sl_tri (a b : List Nat) : a < b ∨ a = b ∨ b < a := by
  by_cases h : a < b
  · exact .inl h
  · by_cases k : b < a
    · exact .inr (.inr k)
    · exact .inr (.inl (List.le_antisymm (List.not_lt.mp k) (List.not_lt.mp h)))
/-- an entry -/
abbrev Ent := List Nat × List Nat
def ent (e : Ent) : D := .tup [.str e.1, .str e.2]
def le2 (a b : Ent) : Bool := dle (ent a) (ent b)
theorem dlt_ent (a b : Ent) : dlt (ent a) (ent b) = decide (a.1 < b.1 ∨ (a.1 = b.1 ∧ a.2 < b.2)) := by
  unfold ent
  simp only [dlt, dlts, deq]
  by_cases h : a.1 = b.1
  · by_cases h2 : a.2 = b.2
    · simp [h, h2, List.lt_irrefl]
    · simp [h, h2, List.lt_irrefl]
  · simp [h]
theorem le2_iff (a b : Ent) : le2 a b = true ↔ ¬ (b.1 < a.1 ∨ (b.1 = a.1 ∧ b.2 < a.2)) := by
  unfold le2 dle
  rw [dlt_ent]
  rw [Bool.not_eq_true', decide_eq_false_iff_not]
theorem le2_total (a b : Ent) : (le2 a b || le2 b a) = true := by
  rw [Bool.or_eq_true, le2_iff, le2_iff]
  by_cases h : b.1 < a.1
  · refine .inr ?_
    rintro (k | ⟨k, _⟩)
    · exact List.lt_irrefl _ (List.lt_trans h k)
    · rw [k] at h; exact List.lt_irrefl _ h
  · by_cases h2 : b.1 = a.1
    · by_cases h3 : b.2 < a.2
      · refine .inr ?_
        rintro (k | ⟨_, k⟩)
        · rw [h2] at k; exact List.lt_irrefl _ k
        · exact List.lt_irrefl _ (List.lt_trans h3 k)
      · refine .inl ?_
        rintro (k | ⟨_, k⟩)
        · exact h k
        · exact h3 k
    · refine .inl ?_
      rintro (k | ⟨k, _⟩)
      · exact h k
      · exact h2 k
theorem le2_trans (a b c : Ent) (h : le2 a b = true) (k : le2 b c = true) : le2 a c = true := by
  rw [le2_iff] at h k ⊢
  rintro (q | ⟨q1, q2⟩)
  · rcases sl_tri b.1 c.1 with z | z | z
    · exact h (.inl (List.lt_trans z q))
    · exact h (.inl (by rw [z]; exact q))
    · exact k (.inl z)
  · rcases sl_tri b.1 c.1 with z | z | z
    · exact h (.inl (by rw [← q1]; exact z))
    · rcases sl_tri b.2 c.2 with y | y | y
      · exact h (.inr ⟨by rw [z, q1], List.lt_trans y q2⟩)
      · exact h (.inr ⟨by rw [z, q1], by rw [y]; exact q2⟩)
      · exact k (.inr ⟨z.symm, y⟩)
    · exact k (.inl z)
def srt2 (es : List Ent) : List Ent := es.mergeSort le2
theorem srt2_perm (es : List Ent) : (srt2 es).Perm es := List.mergeSort_perm es le2
theorem srt2_pw (es : List Ent) : (srt2 es).Pairwise (fun a b => le2 a b = true) := List.pairwise_mergeSort le2_trans le2_total es
theorem plains_map {α : Type} (f : α → D) (h : ∀ a, plain (f a) = true) : ∀ l : List α, plains (l.map f) = true
  | [] => by simp [plains]
  | a :: l => by rw [List.map_cons, plains, h a, plains_map f h l]; rfl
theorem deps_map {α : Type} (f : α → D) {n : Nat} (h : ∀ a, dep (f a) ≤ n) : ∀ l : List α, deps (l.map f) ≤ n
  | [] => by simp [deps]
  | a :: l => by rw [List.map_cons, deps]; exact Nat.max_le.mpr ⟨h a, deps_map f h l⟩
theorem plain_ent (e : Ent) : plain (ent e) = true := by simp [ent, plain, plains]
theorem dep_ent (e : Ent) : dep (ent e) ≤ 1 := by simp [ent, dep, deps]
theorem sort_ents (es : List Ent) : sortD (.lst (es.map ent)) = .ok (.lst ((srt2 es).map ent)) := by
  have ok : srtOk (es.map ent) = true := by
    unfold srtOk
    have a1 : plains (es.map ent) = true := plains_map ent plain_ent es
    have a2 : alkAll (es.map ent) = true := by
      unfold alkAll
      rw [List.all_eq_true]
      intro x hx
      rw [List.all_eq_true]
      intro y hy
      obtain ⟨a, _, rfl⟩ := List.mem_map.mp hx
      obtain ⟨b, _, rfl⟩ := List.mem_map.mp hy
      simp [ent, alk, alks]
    have a3 : deps (es.map ent) ≤ 60 := Nat.le_trans (deps_map ent dep_ent es) (by decide)
    rw [a1, a2, decide_eq_true a3]
    simp [ent]
  show (if srtOk (es.map ent) = true then Res.ok (D.lst ((es.map ent).mergeSort dle)) else Res.bad) = _
  rw [if_pos ok]
  unfold srt2
  rw [← List.map_mergeSort (r := le2) (s := dle) (f := ent) (fun a _ b _ => rfl)]
theorem eq_nil {ds : List D} (h : plains ds = true) : eqD (.lst ds) (.lst []) = .ok (.bl ds.isEmpty) := by
  unfold eqD
  rw [if_pos ⟨by simpa [plain] using h, by simp [plain, plains], by simp [dep, deps]⟩]
  cases ds <;> simp [deq, deqs]
theorem asSs_chs : ∀ cs : List Nat, asSs (cs.map ch) = some (cs.map fun c => [c])
  | [] => rfl
  | c :: cs => by
    rw [List.map_cons]
    unfold ch
    rw [asSs]
    have := asSs_chs cs
    unfold ch at this
    rw [this]
    rfl
theorem joinL_chs : ∀ cs : List Nat, joinL [] (cs.map fun c => [c]) = cs
  | [] => rfl
  | [c] => rfl
  | c :: d :: cs => by
    have := joinL_chs (d :: cs)
    simp only [List.map_cons] at this ⊢
    rw [joinL, this]
    · simp
    · simp
theorem join_chs {cs : List Nat} (h : cs.length ≤ LIM) : joinD (.str []) (.lst (cs.map ch)) = .ok (.str cs) := by
  show (match asSs (cs.map ch) with
    | some ls => if (ls.map List.length).sum + ls.length * ([] : List Nat).length ≤ LIM then Res.ok (D.str (joinL [] ls)) else Res.bad
    | none => Res.bad) = _
  rw [asSs_chs]
  dsimp only
  rw [if_pos, joinL_chs]
  have : ((cs.map fun c => [c]).map List.length).sum = cs.length := by
    rw [List.map_map]
    induction cs with
    | nil => rfl
    | cons c cs ih =>
      have ih := ih (by simp at h ⊢; omega)
      simp at ih ⊢
      omega
  rw [this]
  simpa using h
theorem rng1_ok {n : Nat} (h : n ≤ 1000) : rng1 (.int (n : Int)) = .ok ((List.range n).map fun (i : Nat) => D.int (i : Int)) := by
  simp only [rng1]
  rw [if_pos ⟨by omega, by omega, by simp; omega⟩]
  unfold rngD
  simp
theorem cut_pre {α : Type} (xs : List α) (n : Nat) : cutD xs none (some (n : Int)) = xs.take n := by
  unfold cutD sIx
  simp
  omega
@[simp] theorem v_xM (g : D → Bool) (f : D → D → Res D) (a b : Xv) (env : En) : xM g f a b env = (a env).bind fun x => if g x = true then (b env).bind fun y => (f x y).calm else .bad := id rfl
/-- a loop that goes on to its end, turn by turn -/
theorem forD_cnt {T : Tg} {b : Sv} (xs : List D) (I : Nat → En → Prop) (env : En) (h0 : I 0 env)
    (hs : ∀ j x env, xs[j]? = some x → I j env → ∃ env2, stT T x env = some env2 ∧ ∃ env3, (b env2 = .nx env3 ∨ b env2 = .cont env3) ∧ I (j + 1) env3) : ∃ env', forD T b xs env = .nx env' ∧ I xs.length env' := by
  induction xs generalizing I env with
  | nil => exact ⟨env, rfl, h0⟩
  | cons x xs ih =>
    obtain ⟨env2, h1, env3, h2, h3⟩ := hs 0 x env rfl h0
    obtain ⟨env', h4, h5⟩ := ih (fun j => I (j + 1)) env3 h3 fun j y env e => hs (j + 1) y env (by simpa using e)
    refine ⟨env', ?_, by simpa using h5⟩
    unfold forD
    rw [h1]
    dsimp only
    rcases h2 with h2 | h2 <;> rw [h2] <;> exact h4
theorem forD_fold {α β : Type} {T : Tg} {b : Sv} (g : β → D) (step : α → β → α) (I : α → En → Prop) : ∀ (xs : List β) (a : α) (env : En), I a env →
    (∀ a env x, x ∈ xs → I a env → ∃ env2, stT T (g x) env = some env2 ∧ ∃ env3, b env2 = .nx env3 ∧ I (step a x) env3) → ∃ env', forD T b (xs.map g) env = .nx env' ∧ I (xs.foldl step a) env'
  | [], a, env, h, _ => ⟨env, rfl, h⟩
  | x :: xs, a, env, h, hs => by
    obtain ⟨env2, h1, env3, h2, h3⟩ := hs a env x List.mem_cons_self h
    obtain ⟨env', h4, h5⟩ := forD_fold g step I xs (step a x) env3 h3 fun a env y hy => hs a env y (List.mem_cons_of_mem _ hy)
    refine ⟨env', ?_, h5⟩
    rw [List.map_cons]
    unfold forD
    rw [h1]
    dsimp only
    rw [h2]
    exact h4
@[simp] theorem v_sExt (i : Nat) (a : Xv) (env : En) : sExt i a env = (match gt env i with
  | some (.ow (.lst ds)) => (a env).fl env fun d => match exD d with
    | .ok es => if ds.length + es.length ≤ LIM then .nx (pt env i (some (.ow (.lst (ds ++ es))))) else .bad
    | _ => .bad
  | _ => .bad) := id rfl
@[simp] theorem v_sPut (i : Nat) (kx vx : Xv) (env : En) : sPut i kx vx env = ((vx env).fl env fun v => match gt env i with
  | some (.ow (.dic kvs)) => (kx env).fl env fun k => match k with
    | .str key => if kvs.length < LIM then .nx (pt env i (some (.ow (.dic (putD kvs key v))))) else .bad
    | _ => .bad
  | _ => .bad) := id rfl
/-! ### words by places -/
def ext (ds : List Nat) (some : List (List Nat)) : List (List Nat) := some.flatMap fun s => ds.map fun d => s ++ [d]
theorem ext_snoc (ds : List Nat) (xs : List (List Nat)) (w : List Nat) : ext ds (xs ++ [w]) = ext ds xs ++ ds.map fun d => w ++ [d] := by simp [ext]
theorem ext_len (ds : List Nat) (xs : List (List Nat)) : (ext ds xs).length = xs.length * ds.length := by
  induction xs with
  | nil => simp [ext]
  | cons x xs ih =>
    have : ext ds (x :: xs) = (ds.map fun d => x ++ [d]) ++ ext ds xs := by simp [ext]
    rw [this, List.length_append, ih, List.length_map, List.length_cons, Nat.succ_mul]
    omega
theorem ext_mem {ds : List Nat} {xs : List (List Nat)} {w : List Nat} (h : w ∈ ext ds xs) : ∃ x ∈ xs, ∃ d ∈ ds, w = x ++ [d] := by
  unfold ext at h
  rw [List.mem_flatMap] at h
  obtain ⟨x, hx, h⟩ := h
  obtain ⟨d, hd, rfl⟩ := List.mem_map.mp h
  exact ⟨x, hx, d, hd, rfl⟩
theorem take_snoc {α : Type} {xs : List α} {j : Nat} {x : α} (h : xs[j]? = some x) : xs.take (j + 1) = xs.take j ++ [x] := by
  rw [List.take_add_one, h]
  rfl
theorem put_len (kvs : List (List Nat × D)) (k : List Nat) (v : D) : (putD kvs k v).length ≤ kvs.length + 1 := by
  unfold putD
  split
  · simp
  · simp
end Pv

namespace Pv
/-! ### evaluation of dicts, function values, maxima -/
@[simp] theorem v_iKeys (a : Xv) (env : En) : iKeys a env = (a env).bind fun d => match d with
  | .dic kvs => .ok (kvs.map fun kv => .str kv.1)
  | _ => .bad := id rfl
@[simp] theorem v_sForD (T : Tg) (a : Xv) (b : Sv) (env : En) : sForD T a b env = (iKeys a env).fl env fun xs => noX (forD T b xs env) := id rfl
@[simp] theorem v_noXn (e : En) : noX (.nx e) = .nx e := id rfl
@[simp] theorem v_noXr (d : D) : noX (.ret d) = .ret d := id rfl
@[simp] theorem v_xOrT (a b : Xv) (env : En) : xOrT a b env = (a env).bind fun x => match truD x with
  | some true => .ok x
  | some false => b env
  | none => .bad := id rfl
@[simp] theorem v_truS (l : List Nat) : truD (.str l) = some (!l.isEmpty) := id rfl
@[simp] theorem v_prD0 (env : En) : prD [] env = .ok [] := id rfl
@[simp] theorem v_prDS (kx vx : Xv) (r : List (Xv × Xv)) (env : En) : prD ((kx, vx) :: r) env = (kx env).calm.bind fun kd => (vx env).calm.bind fun vd => match kd with
    | .str key => (prD r env).bind fun ps => .ok ((key, vd) :: ps)
    | _ => .bad := id rfl
@[simp] theorem v_xDic (prs : List (Xv × Xv)) (env : En) : xDic prs env = (match prD prs env with
  | .ok ps => .ok (.dic (mergeD [] ps))
  | _ => .bad) := id rfl
@[simp] theorem v_oDK (prs : List (Xv × Xv)) (r : Ov) (env : En) : oDK prs r env = (match prD prs env with
  | .ok ps => (r env).bind fun ss => .ok (.ow (.dic (mergeD [] ps)) :: ss)
  | _ => .bad) := id rfl
@[simp] theorem v_xCallV (tb : String → Option (List D → Res D)) (f : Xv) (a : Av) (env : En) : xCallV tb f a env = (f env).bind fun d => match d with
  | .fn n => (match tb n with
    | some Fn => (a env).bind Fn
    | none => .bad)
  | _ => .bad := id rfl
/-! ### keys of a dict -/
def keysD (kvs : List (List Nat × D)) : List (List Nat) := kvs.map (·.1)
theorem keys_any (kvs : List (List Nat × D)) (k : List Nat) : (kvs.any fun kv => decide (kv.1 = k)) = decide (k ∈ keysD kvs) := by
  unfold keysD
  induction kvs with
  | nil => simp
  | cons a r ih =>
    rw [List.any_cons, ih, List.map_cons]
    by_cases h : a.1 = k
    · simp [h]
    · have h2 : ¬ k = a.1 := fun e => h e.symm
      simp [h, h2]
theorem in_dic (k : List Nat) (kvs : List (List Nat × D)) : inD (.str k) (.dic kvs) = .ok (.bl (decide (k ∈ keysD kvs))) := by
  rw [← keys_any]
  cases k with
  | nil => rfl
  | cons c r => cases r <;> rfl
theorem nin_dic (k : List Nat) (kvs : List (List Nat × D)) : ninD (.str k) (.dic kvs) = .ok (.bl (!decide (k ∈ keysD kvs))) := by
  rw [← keys_any]
  cases k with
  | nil => rfl
  | cons c r => cases r <;> rfl
theorem keys_put (kvs : List (List Nat × D)) (k : List Nat) (v : D) : keysD (putD kvs k v) = if k ∈ keysD kvs then keysD kvs else keysD kvs ++ [k] := by
  unfold putD
  rw [keys_any]
  by_cases h : k ∈ keysD kvs
  · rw [if_pos (by simpa using h), if_pos h]
    unfold keysD
    rw [List.map_map]
    apply List.map_congr_left
    intro a _
    simp only [Function.comp]
    split <;> rfl
  · rw [if_neg (by simpa using h), if_neg h]
    simp [keysD]
theorem mem_put {kvs : List (List Nat × D)} {k : List Nat} {v : D} {x : List Nat} : x ∈ keysD (putD kvs k v) ↔ x ∈ keysD kvs ∨ x = k := by
  rw [keys_put]
  split
  · rename_i h
    constructor
    · exact .inl
    · rintro (h' | rfl)
      · exact h'
      · exact h
  · simp
theorem nodup_put {kvs : List (List Nat × D)} {k : List Nat} {v : D} (h : (keysD kvs).Nodup) : (keysD (putD kvs k v)).Nodup := by
  rw [keys_put]
  split
  · exact h
  · rename_i hk
    rw [List.nodup_append]
    refine ⟨h, by simp, ?_⟩
    intro a ha b hb
    rw [List.mem_singleton] at hb
    subst hb
    rintro rfl
    exact hk ha
theorem keys_map (kvs : List (List Nat × D)) : (kvs.map fun kv => D.str kv.1) = (keysD kvs).map D.str := by simp [keysD]
/-! ### loops that may return -/
theorem forD_first {β : Type} {T : Tg} {b : Sv} (g : β → D) (I : En → Prop) (p : β → Bool) (r : β → D) : ∀ (xs : List β) (env : En), I env →
    (∀ x ∈ xs, ∀ env, I env → ∃ env2, stT T (g x) env = some env2 ∧ ((p x = true ∧ b env2 = .ret (r x)) ∨ (p x = false ∧ ∃ env3, b env2 = .nx env3 ∧ I env3))) →
    (∃ x, xs.find? p = some x ∧ forD T b (xs.map g) env = .ret (r x)) ∨ (xs.find? p = none ∧ ∃ env', forD T b (xs.map g) env = .nx env' ∧ I env')
  | [], env, h, _ => .inr ⟨rfl, env, rfl, h⟩
  | x :: xs, env, h, hs => by
    obtain ⟨env2, h1, h2⟩ := hs x List.mem_cons_self env h
    rcases h2 with ⟨hp, h2⟩ | ⟨hp, env3, h2, h3⟩
    · refine .inl ⟨x, by simp [hp], ?_⟩
      rw [List.map_cons]
      unfold forD
      rw [h1]
      dsimp only
      rw [h2]
    · have e : forD T b ((x :: xs).map g) env = forD T b (xs.map g) env3 := by
        rw [List.map_cons]
        conv => lhs; unfold forD
        rw [h1]
        dsimp only
        rw [h2]
      rw [e, List.find?_cons_of_neg (by simp [hp])]
      exact forD_first g I p r xs env3 h3 fun y hy => hs y (List.mem_cons_of_mem _ hy)
/-- the same, nothing kept but the invariant -/
theorem forD_inv {β : Type} {T : Tg} {b : Sv} (g : β → D) (I : En → Prop) : ∀ (xs : List β) (env : En), I env →
    (∀ x ∈ xs, ∀ env, I env → ∃ env2, stT T (g x) env = some env2 ∧ ∃ env3, b env2 = .nx env3 ∧ I env3) → ∃ env', forD T b (xs.map g) env = .nx env' ∧ I env' := by
  intro xs env h hs
  obtain ⟨env', h1, h2⟩ := forD_fold (T := T) (b := b) g (fun (a : Unit) _ => a) (fun _ env => I env) xs () env h fun _ env x hx hI => hs x hx env hI
  exact ⟨env', h1, h2⟩
/-- a loop by the part already seen -/
theorem forD_seen {β : Type} {T : Tg} {b : Sv} (g : β → D) (I : List β → En → Prop) (xs : List β) (env : En) (h : I [] env)
    (hs : ∀ pre x post env, xs = pre ++ x :: post → I pre env → ∃ env2, stT T (g x) env = some env2 ∧ ∃ env3, b env2 = .nx env3 ∧ I (pre ++ [x]) env3) : ∃ env', forD T b (xs.map g) env = .nx env' ∧ I xs env' := by
  have key : ∀ (post pre : List β) (env : En), xs = pre ++ post → I pre env → ∃ env', forD T b (post.map g) env = .nx env' ∧ I xs env' := by
    intro post
    induction post with
    | nil => intro pre env e hI; rw [List.append_nil] at e; subst e; exact ⟨env, rfl, hI⟩
    | cons x post ih =>
      intro pre env e hI
      obtain ⟨env2, h1, env3, h2, h3⟩ := hs pre x post env e hI
      obtain ⟨env', h4, h5⟩ := ih (pre ++ [x]) env3 (by rw [e]; simp) h3
      refine ⟨env', ?_, h5⟩
      rw [List.map_cons]
      unfold forD
      rw [h1]
      dsimp only
      rw [h2]
      exact h4
  exact key xs [] env rfl h
/-! ### ranges -/
theorem rng2_ok {n m : Nat} (hn : n ≤ 100000) (hm : m ≤ 100000) : rng2 (.int (n : Int)) (.int (m : Int)) = .ok ((List.range (m - n)).map fun (i : Nat) => D.int ((n + i : Nat) : Int)) := by
  simp only [rng2]
  rw [if_pos ⟨by omega, by simp; omega⟩]
  unfold rngD
  rw [show ((m : Int) - n).toNat = m - n by omega]
  simp
/-! ### maxima -/
theorem asIs_ints : ∀ ns : List Int, asIs (ns.map D.int) = some ns
  | [] => rfl
  | n :: ns => by simp [asIs, asIs_ints ns]
theorem foldl_max_ge (a : Int) : ∀ l : List Int, a ≤ l.foldl max a
  | [] => Int.le_refl _
  | b :: l => by
    rw [List.foldl_cons]
    exact Int.le_trans (Int.le_max_left a b) (foldl_max_ge (max a b) l)
theorem foldl_max_mem_le : ∀ (l : List Int) (a x : Int), x ∈ l → x ≤ l.foldl max a
  | b :: l, a, x, h => by
    rw [List.foldl_cons]
    rcases List.mem_cons.mp h with rfl | h
    · exact Int.le_trans (Int.le_max_right a x) (foldl_max_ge (max a x) l)
    · exact foldl_max_mem_le l (max a b) x h
theorem foldl_max_in : ∀ (l : List Int) (a : Int), l.foldl max a = a ∨ l.foldl max a ∈ l
  | [], a => .inl rfl
  | b :: l, a => by
    rw [List.foldl_cons]
    rcases foldl_max_in l (max a b) with h | h
    · rw [h]
      by_cases hb : a ≤ b
      · rw [Int.max_eq_right hb]; exact .inr List.mem_cons_self
      · rw [Int.max_eq_left (by omega)]; exact .inl rfl
    · exact .inr (List.mem_cons_of_mem _ h)
theorem max_congr {a : Int} {l m : List Int} (h : ∀ x, x ∈ l ↔ x ∈ m) : l.foldl max a = m.foldl max a := by
  have le : ∀ l m : List Int, (∀ x, x ∈ l → x ∈ m) → l.foldl max a ≤ m.foldl max a := by
    intro l m h
    rcases foldl_max_in l a with e | e
    · rw [e]; exact foldl_max_ge a m
    · exact foldl_max_mem_le m a _ (h _ e)
  exact Int.le_antisymm (le l m fun x => (h x).mp) (le m l fun x => (h x).mpr)
theorem max_ints (a : Int) (l : List Int) : maxD (.lst (.int a :: l.map D.int)) = .ok (.int (l.foldl max a)) := by
  simp [maxD, asIs, asIs_ints, maxL]
/-! ### sorted texts -/
def srtS (ks : List (List Nat)) : List (List Nat) := ks.mergeSort fun a b => dle (.str a) (.str b)
theorem dle_str (a b : List Nat) : dle (.str a) (.str b) = decide (a ≤ b) := by
  unfold dle
  simp only [dlt]
  by_cases h : b < a
  · simp [h]
  · rw [decide_eq_false h, decide_eq_true (List.not_lt.mp h)]
    rfl
theorem srtS_pw (ks : List (List Nat)) : (srtS ks).Pairwise fun a b => a ≤ b := by
  have := List.pairwise_mergeSort (le := fun a b => dle (.str a) (.str b)) (fun a b c h k => by
    rw [dle_str, decide_eq_true_eq] at h k ⊢
    exact List.le_trans h k) (fun a b => by
    rw [dle_str, dle_str, Bool.or_eq_true, decide_eq_true_eq, decide_eq_true_eq]
    exact List.le_total a b) ks
  exact this.imp fun h => by rw [dle_str, decide_eq_true_eq] at h; exact h
theorem srtS_perm (ks : List (List Nat)) : (srtS ks).Perm ks := List.mergeSort_perm _ _
theorem srtS_congr {ks ls : List (List Nat)} (h : ks.Perm ls) : srtS ks = srtS ls := by
  apply List.Perm.eq_of_pairwise (le := fun a b => a ≤ b) (fun a b _ _ h k => List.le_antisymm h k) (srtS_pw ks) (srtS_pw ls)
  exact (srtS_perm ks).trans (h.trans (srtS_perm ls).symm)
theorem srtS_set {ks ls : List (List Nat)} (h1 : ks.Nodup) (h2 : ls.Nodup) (h : ∀ x, x ∈ ks ↔ x ∈ ls) : srtS ks = srtS ls := srtS_congr ((List.perm_ext_iff_of_nodup h1 h2).mpr h)
theorem asSs_strs : ∀ ls : List (List Nat), asSs (ls.map D.str) = some ls
  | [] => rfl
  | l :: ls => by simp [asSs, asSs_strs ls]
theorem dist_mem : ∀ (ls acc : List (List Nat)) (x : List Nat), x ∈ distN acc ls ↔ x ∈ acc ∨ x ∈ ls
  | [], acc, x => by simp [distN]
  | l :: ls, acc, x => by
    rw [distN, dist_mem ls]
    split
    · rename_i h
      constructor
      · rintro (h' | h')
        · exact .inl h'
        · exact .inr (List.mem_cons_of_mem _ h')
      · rintro (h' | h')
        · exact .inl h'
        · rcases List.mem_cons.mp h' with rfl | h'
          · exact .inl h
          · exact .inr h'
    · simp only [List.mem_cons]
      constructor
      · rintro ((h | h) | h)
        · exact .inr (.inl h)
        · exact .inl h
        · exact .inr (.inr h)
      · rintro (h | h | h)
        · exact .inl (.inr h)
        · exact .inl (.inl h)
        · exact .inr h
theorem dist_nodup : ∀ (ls acc : List (List Nat)), acc.Nodup → (distN acc ls).Nodup
  | [], acc, h => h
  | l :: ls, acc, h => by
    rw [distN]
    apply dist_nodup ls
    split
    · exact h
    · rename_i hl
      exact List.nodup_cons.mpr ⟨hl, h⟩
theorem sset_ok {ls : List (List Nat)} (h : ls.length ≤ 4000) : ssetD (.lst (ls.map D.str)) = .ok (.lst ((srtS (distN [] ls)).map D.str)) := by
  unfold ssetD
  dsimp only
  rw [asSs_strs]
  dsimp only
  rw [if_pos h]
  rfl
theorem sort_strs (ks : List (List Nat)) : sortD (.lst (ks.map D.str)) = .ok (.lst ((srtS ks).map D.str)) := by
  have ok : srtOk (ks.map D.str) = true := by
    unfold srtOk
    have a2 : alkAll (ks.map D.str) = true := by
      unfold alkAll
      rw [List.all_eq_true]
      intro x hx
      rw [List.all_eq_true]
      intro y hy
      obtain ⟨a, _, rfl⟩ := List.mem_map.mp hx
      obtain ⟨b, _, rfl⟩ := List.mem_map.mp hy
      simp [alk]
    rw [plains_strs, a2, deps_strs]
    simp
  show (if srtOk (ks.map D.str) = true then Res.ok (D.lst ((ks.map D.str).mergeSort dle)) else Res.bad) = _
  rw [if_pos ok]
  unfold srtS
  rw [← List.map_mergeSort (r := fun a b => dle (.str a) (.str b)) (s := dle) (f := D.str) (fun a _ b _ => rfl)]
theorem ne_same {d : D} (h1 : plain d = true) (h2 : dep d ≤ 60) : neD d d = .ok (.bl false) := by
  unfold neD
  rw [if_pos ⟨h1, h1, by simpa using h2⟩, deq_refl d h1]
  rfl
theorem eq_same {d : D} (h1 : plain d = true) (h2 : dep d ≤ 60) : eqD d d = .ok (.bl true) := by
  unfold eqD
  rw [if_pos ⟨h1, h1, by simpa using h2⟩, deq_refl d h1]
theorem pl_strs (ks : List (List Nat)) : plain (.lst (ks.map D.str)) = true ∧ dep (.lst (ks.map D.str)) ≤ 60 := by
  refine ⟨by rw [plain]; exact plains_strs ks, ?_⟩
  rw [dep, deps_strs]
  decide
/-- counting pairs from either side -/
theorem cnt_swap {α β : Type} (R : α → β → Bool) (ys : List β) : ∀ xs : List α, (xs.map fun x => (ys.filter (R x)).length).sum = (ys.map fun y => (xs.filter (fun x => R x y)).length).sum
  | [] => by
    induction ys with
    | nil => rfl
    | cons y ys ih => simpa using ih
  | x :: xs => by
    rw [List.map_cons, List.sum_cons, cnt_swap R ys xs]
    induction ys with
    | nil => simp
    | cons y ys ih =>
      rw [List.map_cons, List.sum_cons, List.map_cons, List.sum_cons]
      by_cases h : R x y = true
      · simp [List.filter_cons, h]
        simp [List.filter_cons] at ih
        omega
      · simp [List.filter_cons, h]
        simp [List.filter_cons] at ih
        omega
end Pv

namespace Pv
def lstS (l : List (List Nat)) : D := .lst (l.map D.str)
@[simp] theorem v_sAddO (i : Nat) (ea eb : Xv) (env : En) : sAddO i ea eb env = ((ea env).fl env fun x => (eb env).fl env fun y => match addD x y with
  | .ok (.lst l) => .nx (pt env i (some (.ow (.lst l))))
  | _ => .bad) := id rfl
theorem zp_lstS (l : List (List Nat)) : zpD (lstS l) = .ok (l.map D.str) := rfl
theorem add_lstS {a b : List (List Nat)} (h : a.length + b.length ≤ 1000000) : addD (lstS a) (lstS b) = .ok (lstS (a ++ b)) := by
  unfold lstS
  rw [v_addL, if_pos (by simp only [List.length_map]; show _ ≤ 16777216; omega), List.map_append]
theorem add_str {a b : List Nat} (h : a.length + b.length ≤ 1000000) : addD (.str a) (.str b) = .ok (.str (a ++ b)) := by
  rw [v_addS, if_pos (by show _ ≤ 16777216; omega)]
theorem sl_pre (r : List Nat) (i : Nat) : slD none (some (i : Int)) (.str r) = .ok (.str (r.take i)) := by
  show Res.ok (D.str (cutD _ _ _)) = _
  rw [cut_pre]
theorem cut_pos {α : Type} (xs : List α) (n : Nat) : cutD xs (some (n : Int)) none = xs.drop n := by
  have h : sIx xs.length 0 (some (n : Int)) = min n xs.length := by
    unfold sIx
    dsimp only
    rw [if_neg (by omega)]
    omega
  unfold cutD
  rw [h]
  show (xs.drop (min n xs.length)).take (xs.length - min n xs.length) = _
  rcases Nat.le_total n xs.length with q | q
  · rw [Nat.min_eq_left q, List.take_of_length_le (by rw [List.length_drop]; omega)]
  · rw [Nat.min_eq_right q, Nat.sub_self, List.take_zero, List.drop_eq_nil_of_le q]
theorem sl_pos (r : List Nat) (i : Nat) : slD (some (i : Int)) none (.str r) = .ok (.str (r.drop i)) := by
  show Res.ok (D.str (cutD _ _ _)) = _
  rw [cut_pos]
theorem sl_pos1 (r : List Nat) (i : Nat) : slD (some ((i : Int) + 1)) none (.str r) = .ok (.str (r.drop (i + 1))) := sl_pos r (i + 1)
theorem sl_pos2 (r : List Nat) (i : Nat) : slD (some ((i : Int) + 2)) none (.str r) = .ok (.str (r.drop (i + 2))) := sl_pos r (i + 2)
theorem getD_at {r : List Nat} {i : Nat} (h : i < r.length) : r.getD i 0 = r[i] := by simp [List.getD_eq_getElem?_getD, h]
theorem ix_get {r : List Nat} {i : Nat} (h : i < r.length) : ixD (.str r) (.int (i : Int)) = .ok (ch (r.getD i 0)) := by
  apply ix_str
  unfold atD
  rw [ixN_ok (by omega) (by omega)]
  show r[((i : Int)).toNat]? = _
  rw [Int.toNat_natCast, List.getElem?_eq_getElem h, getD_at h]
theorem eqS (a b : List Nat) : eqD (.str a) (.str b) = .ok (.bl (a == b)) := by simp [eqD, plain, dep, deq]
theorem neS (a b : List Nat) : neD (.str a) (.str b) = .ok (.bl (!(a == b))) := by simp [neD, plain, dep, deq]
theorem sort_dicS (kvs : List (List Nat × D)) : sortD (.dic kvs) = .ok (lstS (srtS (keysD kvs))) := by
  show Res.ok (D.lst ((kvs.map fun kv => D.str kv.1).mergeSort dle)) = _
  unfold srtS lstS
  rw [keys_map, ← List.map_mergeSort (r := fun a b => dle (.str a) (.str b)) (s := dle) (f := D.str) (fun a _ b _ => rfl)]
theorem if_skip {t : Tv} {s : Sv} {env : En} (h : t env = .ok false) : sIf t s sNil env = .nx env := by rw [v_sIf, h]; rfl
theorem if_take {t : Tv} {s r : Sv} {env : En} (h : t env = .ok true) : sIf t s r env = s env := by rw [v_sIf, h]; rfl
theorem if_els {t : Tv} {s r : Sv} {env : En} (h : t env = .ok false) : sIf t s r env = r env := by rw [v_sIf, h]; rfl
theorem seq_nx {s r : Sv} {env env' : En} (h : s env = .nx env') : sSeq s r env = r env' := by rw [v_sSeq, h]
theorem seq_ret {s r : Sv} {env : En} {d : D} (h : s env = .ret d) : sSeq s r env = .ret d := by rw [v_sSeq, h]
theorem ret_ok {a : Xv} {env : En} {d : D} (h : a env = .ok d) : sRet a env = .ret d := by rw [v_sRet, h]; rfl
theorem app_str {i : Nat} {a : Xv} {env : En} {L : List (List Nat)} {w : List Nat} (hg : gt env i = some (.ow (lstS L))) (ha : a env = .ok (.str w)) (hl : L.length ≤ 1000000) : sApp i a env = .nx (pt env i (some (.ow (lstS (L ++ [w]))))) := by
  rw [v_sApp, hg]
  unfold lstS
  dsimp only
  rw [ha, v_fok, if_pos (by rw [List.length_map]; show _ < 16777216; omega), List.map_append]
  rfl
theorem ext_str {i : Nat} {a : Xv} {env : En} {L M : List (List Nat)} (hg : gt env i = some (.ow (lstS L))) (ha : a env = .ok (lstS M)) (hl : L.length + M.length ≤ 1000000) : sExt i a env = .nx (pt env i (some (.ow (lstS (L ++ M))))) := by
  rw [v_sExt, hg]
  unfold lstS at ha ⊢
  dsimp only
  rw [ha, v_fok]
  dsimp only [exD]
  rw [if_pos (by rw [List.length_map, List.length_map]; show _ ≤ 16777216; omega), List.map_append]
theorem asg_nm {i : Nat} {a : Xv} {env : En} {d : D} (h : a env = .ok d) : sAsg (.nm i) a env = .nx (pt env i (some (.fz d))) := by rw [v_sAsg, h]; rfl
end Pv

namespace Pv.W52
theorem eq_int (i j : Int) : eqD (.int i) (.int j) = .ok (.bl (i == j)) := by simp [eqD, plain, dep, deq]
theorem ne_int (i j : Int) : neD (.int i) (.int j) = .ok (.bl (!(i == j))) := by simp [neD, plain, dep, deq]
theorem eq_str (i j : List Nat) : eqD (.str i) (.str j) = .ok (.bl (i == j)) := by simp [eqD, plain, dep, deq]
theorem ne_str (i j : List Nat) : neD (.str i) (.str j) = .ok (.bl (!(i == j))) := by simp [neD, plain, dep, deq]
theorem in_pair (c d : Nat) : inD (.str [120]) (.tup [ch c, ch d]) = .ok (.bl (c == 120 || d == 120)) := by simp [inD, inB, flat, ch, deq]
theorem nin_pair (c d : Nat) : ninD (.str [120]) (.tup [ch c, ch d]) = .ok (.bl (!(c == 120 || d == 120))) := by simp [ninD, inB, flat, ch, deq]
theorem eq_ch (c d : Nat) : eqD (ch c) (ch d) = .ok (.bl (c == d)) := by unfold ch; rw [eq_str]; simp
theorem ne_ch (c d : Nat) : neD (ch c) (ch d) = .ok (.bl (!(c == d))) := by unfold ch; rw [ne_str]; simp
theorem n_agree (p q : List Nat) : Fn_agree [.str p, .str q] = .ok (.bl (agB p q)) := by
  have e0 : Fn_agree [.str p, .str q] = outOf (sv_agree [some (.fz (.str p)), some (.fz (.str q)), none, none]) := rfl
  rw [e0]
  unfold sv_agree q1_agree
  by_cases h : p.length = q.length
  · have hz : iZip (rdV 0) (rdV 1) [some (.fz (.str p)), some (.fz (.str q)), none, none] = .ok ((p.zip q).map fun x => .tup [ch x.1, ch x.2]) := zip_strs p q
    have e := xLc_map (T := .tp [2, 3]) (own := [2, 3]) (e := (xOr (xOp eqD (rdB 2) (rdB 3)) (xOp inD (xC (.str [120])) (xTup (aCons (rdV 2) (aCons (rdV 3) aNil))))))
      (fun x : Nat × Nat => .tup [ch x.1, ch x.2]) (fun x => .bl (ag x.1 x.2)) (p.zip q) hz (fun x _ => ⟨[some (.fz (.str p)), some (.fz (.str q)), some (.fz (ch x.1)), some (.fz (ch x.2))], by simp, by
        simp [eq_ch, in_pair, ag]
        have hb : (x.1 == x.2) = decide (x.1 = x.2) := rfl
        by_cases h : x.1 = x.2 <;> simp [h, hb, in_pair]⟩)
    simp [lenD, ne_int, h, e]
    have := all_bls ((p.zip q).map fun x => ag x.1 x.2)
    rw [List.map_map] at this
    rw [show ((p.zip q).map fun x => D.bl (ag x.1 x.2)) = (p.zip q).map (D.bl ∘ fun x => ag x.1 x.2) from rfl, this]
    simp [agB, h]
  · have h' : ¬ ((p.length : Int) = q.length) := by omega
    have hb : (p.length == q.length) = false := beq_eq_false_iff_ne.mpr h
    simp [lenD, ne_int, h', agB, hb]
end Pv.W52

namespace Pv.W52
def scr (ns : List Int) : D := .lst (ns.map D.int)
theorem wh_pick (a b c d z : Option Sl) : ∀ (n : Nat) (r t : Int), t.toNat < n → ∃ r' t', whD (tAn (tVal (xOp gtD (rdB 4) (xC (.int 0)))) (tVal (xOp gtD (rdB 5) (xC (.int 0))))) b1__law_pick
    n [a, b, c, d, some (.fz (.int r)), some (.fz (.int t)), z] = .nx [a, b, c, d, some (.fz (.int r')), some (.fz (.int t')), z] := by
  intro n
  induction n with
  | zero => intro r t h; omega
  | succ n ih =>
    intro r t h
    unfold whD
    by_cases h1 : 0 < r
    · by_cases h2 : 0 < t
      · obtain ⟨r', t', e⟩ := ih (r / 840) (t - 1) (by omega)
        refine ⟨r', t', ?_⟩
        have eb : b1__law_pick [a, b, c, d, some (.fz (.int r)), some (.fz (.int t)), z] = .nx [a, b, c, d, some (.fz (.int (r / 840))), some (.fz (.int (t - 1))), z] := by simp [b1__law_pick]
        simp [h1, h2, eb, e]
      · exact ⟨r, t, by simp [h1, h2]⟩
    · exact ⟨r, t, by simp [h1]⟩
theorem pick_rest (s : D) (k m c t : Int) (hk : 0 ≤ k) (ht : 0 ≤ t) (hm : 0 < m) : ∃ w : Int, (sSeq q2__law_pick
  (sSeq q3__law_pick
  (sSeq (sAsg (.nm 6) (xOp modD (xU intD (xOp mulD (xOp addD (xOp mulD (rdB 3) (xC (.int 31))) (xOp mulD (xC (.int 6151)) (xOp addD (rdB 1) (xC (.int 1))))) (xC (.int 40692)))) (xC (.int 2147483399))))
  (sRet (xOp modD (xU intD (xOp modD (xU intD (xOp addD (xOp mulD (rdB 6) (rdB 6)) (xOp fdivD (rdB 6) (xC (.int 31))))) (xC (.int 2147483629)))) (rdB 2)))))) [some (.fz s), some (.fz (.int k)), some (.fz (.int m)), some (.fz (.int c)), some (.fz (.int (c / 1000000000000000000))), some (.fz (.int t)), none] = .ret (.int (w % m)) := by
  obtain ⟨r', t', e⟩ := wh_pick (some (.fz s)) (some (.fz (.int k))) (some (.fz (.int m))) (some (.fz (.int c))) none (t.toNat + 1) (c / 1000000000000000000) t (by omega)
  have e2 : q2__law_pick [some (.fz s), some (.fz (.int k)), some (.fz (.int m)), some (.fz (.int c)), some (.fz (.int (c / 1000000000000000000))), some (.fz (.int t)), none] = .nx [some (.fz s), some (.fz (.int k)), some (.fz (.int m)), some (.fz (.int c)), some (.fz (.int r')), some (.fz (.int t')), none] := by
    unfold q2__law_pick sWh
    simp only [fuel, v_gtS, v_gt0]
    exact e
  rw [seq_nx e2]
  by_cases h3 : 0 < r'
  · refine ⟨r' % 840, ?_⟩
    refine seq_ret ?_
    unfold q3__law_pick
    simp [h3, hm]
  · have e3 : q3__law_pick [some (.fz s), some (.fz (.int k)), some (.fz (.int m)), some (.fz (.int c)), some (.fz (.int r')), some (.fz (.int t')), none] = .nx [some (.fz s), some (.fz (.int k)), some (.fz (.int m)), some (.fz (.int c)), some (.fz (.int r')), some (.fz (.int t')), none] := by
      unfold q3__law_pick
      simp [h3]
    rw [seq_nx e3]
    have b2 : ∀ x : Int, 0 ≤ x % 2147483399 ∧ x % 2147483399 < 2147483399 := fun x => ⟨Int.emod_nonneg _ (by decide), Int.emod_lt_of_pos _ (by decide)⟩
    have c2 : ∀ x : Int, (-18446744073709551616 < x % 2147483399 ∧ x % 2147483399 < 18446744073709551616) = True := fun x => by have := b2 x; simp; omega
    refine ⟨((((c * 31 + 6151 * (k + 1)) * 40692) % 2147483399) * (((c * 31 + 6151 * (k + 1)) * 40692) % 2147483399) + (((c * 31 + 6151 * (k + 1)) * 40692) % 2147483399) / 31) % 2147483629, ?_⟩
    simp [c2, hm]
theorem n_pick (ns : List Int) (k m : Int) (hk : 0 ≤ k) (hm : 0 < m) (hl : ns.length < 1000) : ∃ v, 0 ≤ v ∧ v < m ∧ Fn__law_pick [scr ns, .int k, .int m] = .ok (.int v) := by
  suffices h : ∃ w : Int, Fn__law_pick [scr ns, .int k, .int m] = .ok (.int (w % m)) by
    obtain ⟨w, h⟩ := h
    exact ⟨_, Int.emod_nonneg _ (by omega), Int.emod_lt_of_pos _ hm, h⟩
  have e0 : Fn__law_pick [scr ns, .int k, .int m] = outOf (sv__law_pick [some (.fz (scr ns)), some (.fz (.int k)), some (.fz (.int m)), none, none, none, none]) := rfl
  rw [e0]
  unfold sv__law_pick
  have hp18 : powD (.int 10) (.int 18) = .ok (.int 1000000000000000000) := by simp
  cases ns with
  | nil =>
    rw [seq_nx (env' := [some (.fz (scr [])), some (.fz (.int k)), some (.fz (.int m)), some (.fz (.int 0)), none, none, none]) (by simp [scr, neD, plain, plains, dep, deps, deq, deqs])]
    have hmx : max2D (.int 0) (.int 1) = .ok (.int 1) := rfl
    have hlen : lenD (scr []) = .ok (.int 0) := rfl
    rw [seq_nx (env' := [some (.fz (scr [])), some (.fz (.int k)), some (.fz (.int m)), some (.fz (.int 0)), some (.fz (.int (0 / 1000000000000000000))), some (.fz (.int (k / 1))), none]) (by simp [hp18, hmx, hlen])]
    obtain ⟨w, hw⟩ := pick_rest (scr []) k m 0 (k / 1) hk (by omega) hm
    exact ⟨w, by rw [hw]; rfl⟩
  | cons n ns =>
    have hne : neD (scr (n :: ns)) (.lst []) = .ok (.bl true) := by
      unfold neD scr
      rw [if_pos]
      · simp [deq, deqs]
      · simp [plain, plains, dep, deps, plains_ints, deps_ints]
    have hlen : lenD (scr (n :: ns)) = .ok (.int ((ns.length : Int) + 1)) := by simp [scr, lenD]
    have hpos : (0 : Int) < (ns.length : Int) + 1 := by omega
    have hlt : (ns.length : Int) + 1 < 18446744073709551616 := by simp only [List.length_cons] at hl; omega
    obtain ⟨x, hx, hat⟩ := atD_ok (xs := n :: ns) (i := k % ((ns.length : Int) + 1)) (Int.emod_nonneg _ (by omega)) (by have := Int.emod_lt_of_pos k hpos; simpa using this)
    have hix : ixD (scr (n :: ns)) (.int (k % ((ns.length : Int) + 1))) = .ok (.int x) := by
      exact ix_lst (by rw [atD_map, hat]; rfl)
    have hq : 0 ≤ k / ((ns.length : Int) + 1) := Int.ediv_nonneg hk (by omega)
    rw [seq_nx (env' := [some (.fz (scr (n :: ns))), some (.fz (.int k)), some (.fz (.int m)), some (.fz (.int x)), none, none, none]) (by simp [hne, hlen, hpos, hix])]
    have hmx : max2D (.int ((ns.length : Int) + 1)) (.int 1) = .ok (.int ((ns.length : Int) + 1)) := by
      show Res.ok (D.int (if (1 : Int) > (ns.length : Int) + 1 then 1 else (ns.length : Int) + 1)) = _
      rw [if_neg (by omega)]
    rw [seq_nx (env' := [some (.fz (scr (n :: ns))), some (.fz (.int k)), some (.fz (.int m)), some (.fz (.int x)), some (.fz (.int (x / 1000000000000000000))), some (.fz (.int (k / ((ns.length : Int) + 1)))), none]) (by simp [hp18, hmx, hlen, hpos, hlt])]
    obtain ⟨w, hw⟩ := pick_rest (scr (n :: ns)) k m x (k / ((ns.length : Int) + 1)) hk hq hm
    exact ⟨w, by rw [hw]; rfl⟩
def dr (ns : List Int) (k m : Int) : Int := match Fn__law_pick [scr ns, .int k, .int m] with
  | .ok (.int v) => v
  | _ => 0
theorem dr_ok {ns : List Int} {k m : Int} (hk : 0 ≤ k) (hm : 0 < m) (hl : ns.length < 1000) : Fn__law_pick [scr ns, .int k, .int m] = .ok (.int (dr ns k m)) ∧ 0 ≤ dr ns k m ∧ dr ns k m < m := by
  obtain ⟨v, h1, h2, h3⟩ := n_pick ns k m hk hm hl
  unfold dr
  rw [h3]
  exact ⟨rfl, h1, h2⟩
theorem n_lagree (p q : List Nat) : Fn__law_agree [.str p, .str q] = .ok (.bl (agB p q)) := by
  have e0 : Fn__law_agree [.str p, .str q] = outOf (sv__law_agree [some (.fz (.str p)), some (.fz (.str q)), none, none]) := rfl
  rw [e0]
  unfold sv__law_agree
  have hlp : lenD (.str p) = .ok (.int (p.length : Int)) := by simp [lenD]
  have hlq : lenD (.str q) = .ok (.int (q.length : Int)) := by simp [lenD]
  by_cases h : p.length = q.length
  · rw [seq_nx (env' := [some (.fz (.str p)), some (.fz (.str q)), none, none]) (by
      unfold q1__law_agree
      refine if_skip ?_
      simp [hlp, hlq, ne_int, h])]
    have hz : iZip (rdV 0) (rdV 1) [some (.fz (.str p)), some (.fz (.str q)), none, none] = .ok ((p.zip q).map fun x => .tup [ch x.1, ch x.2]) := zip_strs p q
    have e := xLc_ok (T := .tp [2, 3]) (own := [2, 3]) (t := (tAn (tVal (xOp neD (rdB 2) (rdB 3))) (tAn (tVal (xOp neD (rdB 2) (xC (.str [120])))) (tVal (xOp neD (rdB 3) (xC (.str [120]))))))) (e := xC (.int 1))
      (fun x : Nat × Nat => .tup [ch x.1, ch x.2]) (fun x => !ag x.1 x.2) (fun x => .int 1) (p.zip q) hz (fun x _ => ⟨[some (.fz (.str p)), some (.fz (.str q)), some (.fz (ch x.1)), some (.fz (ch x.2))], rfl, by
        have n1 := ne_ch x.1 x.2
        have n2 := ne_ch x.1 120
        have n3 := ne_ch x.2 120
        have e120 : ch 120 = .str [120] := rfl
        rw [e120] at n2 n3
        simp only [v_tAn, v_tVal, v_xOp, v_rdB, v_gtS, v_gt0, v_ok, n1, v_cok, v_asB, v_xC, n2, n3]
        unfold ag
        cases (x.1 == x.2) <;> cases (x.1 == 120) <;> cases (x.2 == 120) <;> rfl, fun _ => rfl⟩)
    have hpl : plains (((p.zip q).filter fun x => !ag x.1 x.2).map fun _ => D.int 1) = true := plains_map (fun _ => D.int 1) (fun _ => rfl) _
    rw [ret_ok (d := .bl (agB p q)) (by
      rw [v_xOp, e, v_ok]
      simp only [v_xLst, v_aNil, v_ok, List.length_nil, Nat.zero_le, if_true, eq_nil hpl, v_cok]
      congr 2
      rw [Bool.eq_iff_iff]
      simp [agB, h, List.isEmpty_iff])]
    rfl
  · have hb : (p.length == q.length) = false := beq_eq_false_iff_ne.mpr h
    rw [seq_ret (d := .bl false) (by
      unfold q1__law_agree
      rw [if_take (by
        have h' : ¬ ((p.length : Int) = q.length) := by omega
        simp [hlp, hlq, ne_int, h'])]
      rfl)]
    simp [agB, hb]
end Pv.W52

namespace Pv.W52
def digs (size : Nat) : List Nat := [48, 49, 50, 51, 52, 53].take size
def sg (size : Nat) : List Nat := digs size ++ digs size ++ [120]
def gd (size : Nat) (e : Ent) : Prop := 1 ≤ e.1.length ∧ e.1.length ≤ 3 ∧ (∀ c ∈ e.1, c ∈ digs size ++ [120]) ∧ e.2 ∈ [[97], [98], [99], [100]]
structure Gp (size n : Nat) (es : List Ent) : Prop where
  le : es.length ≤ n
  ge : 0 < n → 0 < es.length
  all : ∀ e ∈ es, gd size e
  ap : es.Pairwise fun a b => agB a.1 b.1 = false
theorem sg_len (size : Nat) (h : size ≤ 3) : (sg size).length = 2 * size + 1 := by simp [sg, digs]; omega
theorem sg_ok (ns : List Int) (size : Nat) (hs : size ≤ 3) (k : Int) (hk : 0 ≤ k) (hl : ns.length < 1000) : ∃ c, c ∈ digs size ++ [120] ∧ Fn__law_pick [scr ns, .int k, .int ((sg size).length : Nat)] = .ok (.int (dr ns k ((sg size).length : Nat))) ∧ ixD (.str (sg size)) (.int (dr ns k ((sg size).length : Nat))) = .ok (ch c) := by
  obtain ⟨e1, e2, e3⟩ := dr_ok (ns := ns) (k := k) (m := ((sg size).length : Nat)) hk (by have := sg_len size hs; omega) hl
  obtain ⟨c, hc, e⟩ := atD_ok (xs := sg size) e2 e3
  refine ⟨c, ?_, e1, ix_str e⟩
  unfold sg at hc
  simp at hc ⊢
  omega
theorem sg_mk {size : Nat} (h : size ≤ 3) (hs : slD none (some (size : Int)) (.str [48, 49, 50]) = .ok (.str (digs size))) : (mulD (.str (digs size)) (.int 2)).calm = .ok (.str (digs size ++ digs size)) ∧ addD (.str (digs size ++ digs size)) (.str [120]) = .ok (.str (sg size)) := by
  have hd : (digs size).length ≤ 3 := by simp [digs]; omega
  constructor
  · rw [v_mulS, if_pos ⟨by decide, by show (digs size).length * 2 ≤ 16777216; omega, by decide⟩]
    simp [List.replicate]
  · rw [v_addS, if_pos (by simp; omega)]
    rfl
theorem sl3 {size : Nat} (h : size ≤ 3) : slD none (some (size : Int)) (.str [48, 49, 50]) = .ok (.str (digs size)) := by
  match size, h with
  | 0, _ => rfl
  | 1, _ => rfl
  | 2, _ => rfl
  | 3, _ => rfl
theorem pat_ok (ns : List Int) (at_ : Int) (size : Nat) (k : Int) (many : Nat) (f s7 s9 : Option Sl) (a : Option Sl) (hat : 0 ≤ at_) (hk : 0 ≤ k) (hl : ns.length < 1000) (hs : size ≤ 3) (hm : many ≤ 3) :
    ∃ pat : List Nat, pat.length = many ∧ (∀ c ∈ pat, c ∈ digs size ++ [120]) ∧ (xM isStr joinD (xC (.str [])) (xLc (.nm 8) [8] (iR1 (rdV 5)) tYs (xOp ixD (rdB 6) (xCall Fn__law_pick (aCons (rdV 0) (aCons (xOp addD (xOp addD (xOp addD (rdB 1) (xC (.int 3))) (xOp mulD (xC (.int 8)) (rdB 4))) (rdB 8)) (aCons (xU lenD (rdB 6)) aNil)))))))
      [some (.fz (scr ns)), some (.fz (.int at_)), a, f, some (.fz (.int k)), some (.fz (.int many)), some (.fz (.str (sg size))), s7, none, s9, none] = .ok (.str pat) := by
  have hsg : ∀ i : Nat, ∃ c, c ∈ digs size ++ [120] ∧ Fn__law_pick [scr ns, .int (at_ + 3 + 8 * k + i), .int ((sg size).length : Nat)] = .ok (.int (dr ns (at_ + 3 + 8 * k + i) ((sg size).length : Nat))) ∧ ixD (.str (sg size)) (.int (dr ns (at_ + 3 + 8 * k + i) ((sg size).length : Nat))) = .ok (ch c) := fun i => sg_ok ns size hs _ (by omega) hl
  obtain ⟨cs, hcs⟩ : ∃ cs : Nat → Nat, ∀ i, cs i ∈ digs size ++ [120] ∧ Fn__law_pick [scr ns, .int (at_ + 3 + 8 * k + i), .int ((sg size).length : Nat)] = .ok (.int (dr ns (at_ + 3 + 8 * k + i) ((sg size).length : Nat))) ∧ ixD (.str (sg size)) (.int (dr ns (at_ + 3 + 8 * k + i) ((sg size).length : Nat))) = .ok (ch (cs i)) := ⟨fun i => (hsg i).choose, fun i => (hsg i).choose_spec⟩
  have hpat := xLc_map (T := .nm 8) (own := [8]) (iv := iR1 (rdV 5)) (e := (xOp ixD (rdB 6) (xCall Fn__law_pick (aCons (rdV 0) (aCons (xOp addD (xOp addD (xOp addD (rdB 1) (xC (.int 3))) (xOp mulD (xC (.int 8)) (rdB 4))) (rdB 8)) (aCons (xU lenD (rdB 6)) aNil))))))
    (env := [some (.fz (scr ns)), some (.fz (.int at_)), a, f, some (.fz (.int k)), some (.fz (.int many)), some (.fz (.str (sg size))), s7, none, s9, none])
    (fun i : Nat => D.int i) (fun i => ch (cs i)) (List.range many) (by
      simp [rng1_ok (show many ≤ 1000 by omega)]) (fun i _ => ⟨_, rfl, by
        obtain ⟨h1, h2, h3⟩ := hcs i
        simp [lenD, h2, h3]⟩)
  have hpl : ((List.range many).map cs).length ≤ LIM := by rw [List.length_map, List.length_range]; exact Nat.le_trans hm (by decide)
  have hjoin := join_chs hpl
  rw [List.map_map] at hjoin
  refine ⟨(List.range many).map cs, by simp, fun c hc => ?_, ?_⟩
  · obtain ⟨i, _, rfl⟩ := List.mem_map.mp hc
    exact (hcs i).1
  · rw [v_xM, v_xC, v_ok, if_pos (by rfl), hpat, v_ok, show (fun i => ch (cs i)) = ch ∘ cs from rfl, hjoin]
    rfl
theorem b_plan (ns : List Int) (at_ : Int) (size n : Nat) (k : Int) (es : List Ent) (s5 s6 s7 s9 : Option Sl) (hat : 0 ≤ at_) (hk : 0 ≤ k) (hl : ns.length < 1000) (hs : size ≤ 3) (hn : n < 1000) (G : Gp size n es) :
    ∃ es' s5' s6' s7' s9', b2__law_plan [some (.fz (scr ns)), some (.fz (.int at_)), some (.fz (.int size)), some (.ow (.lst (es.map ent))), some (.fz (.int k)), s5, s6, s7, none, s9, none] =
      .nx [some (.fz (scr ns)), some (.fz (.int at_)), some (.fz (.int size)), some (.ow (.lst (es'.map ent))), some (.fz (.int k)), s5', s6', s7', none, s9', none] ∧ Gp size (n + 1) es' := by
  obtain ⟨d1, d2, d3⟩ := dr_ok (ns := ns) (k := at_ + 2 + 8 * k) (m := 3) (by omega) (by decide) hl
  obtain ⟨many, hmany⟩ : ∃ many : Nat, 1 + dr ns (at_ + 2 + 8 * k) 3 = (many : Int) := ⟨(1 + dr ns (at_ + 2 + 8 * k) 3).toNat, by omega⟩
  have hmb : 1 ≤ many ∧ many ≤ 3 := by omega
  obtain ⟨pat, hp1, hp2, hp3⟩ := pat_ok ns at_ size k many (some (.ow (.lst (es.map ent)))) s7 s9 (some (.fz (.int size))) hat hk hl hs hmb.2
  obtain ⟨h1, h2, h3⟩ := dr_ok (ns := ns) (k := at_ + 7 + 8 * k) (m := 3) (by omega) (by decide) hl
  obtain ⟨c, hc, hce⟩ := atD_ok (xs := [97, 98, 99]) h2 (by simpa using h3)
  have hho : ixD (.str [97, 98, 99]) (.int (dr ns (at_ + 7 + 8 * k) 3)) = .ok (.str [c]) := ix_str hce
  have hg : gd size (pat, [c]) := ⟨by show 1 ≤ pat.length; omega, by show pat.length ≤ 3; omega, hp2, by
    simp at hc
    show [c] ∈ [[97], [98], [99], [100]]
    rcases hc with rfl | rfl | rfl <;> decide⟩
  have hag := xLc_ok (T := .nm 10) (own := [10]) (iv := iSeq (rdB 3)) (t := tVal (xCall Fn__law_agree (aCons (xOp ixD (rdB 10) (xC (.int 0))) (aCons (rdV 7) aNil)))) (e := rdV 10)
    (env := [some (.fz (scr ns)), some (.fz (.int at_)), some (.fz (.int size)), some (.ow (.lst (es.map ent))), some (.fz (.int k)), some (.fz (.int many)), some (.fz (.str (sg size))), some (.fz (.str pat)), none, some (.fz (.str [c])), none])
    ent (fun e => agB e.1 pat) ent es rfl (fun e _ => ⟨_, rfl, by simp [ent, ix_tup (at0 _ _), n_lagree], fun _ => rfl⟩)
  have heq := eq_nil (plains_map ent plain_ent (es.filter fun e => agB e.1 pat))
  have hstep : b2__law_plan [some (.fz (scr ns)), some (.fz (.int at_)), some (.fz (.int size)), some (.ow (.lst (es.map ent))), some (.fz (.int k)), s5, s6, s7, none, s9, none] =
      q1__law_plan [some (.fz (scr ns)), some (.fz (.int at_)), some (.fz (.int size)), some (.ow (.lst (es.map ent))), some (.fz (.int k)), some (.fz (.int many)), some (.fz (.str (sg size))), some (.fz (.str pat)), none, some (.fz (.str [c])), none] := by
    unfold b2__law_plan
    rw [seq_nx (env' := [some (.fz (scr ns)), some (.fz (.int at_)), some (.fz (.int size)), some (.ow (.lst (es.map ent))), some (.fz (.int k)), some (.fz (.int many)), s6, s7, none, s9, none]) (by simp [d1, hmany])]
    obtain ⟨m1, m2⟩ := sg_mk hs (sl3 hs)
    rw [seq_nx (asg_nm (d := .str (sg size)) (by
      simp only [v_xOp, v_xSl, v_oIn, v_oIs, v_xC, v_ok, v_rdV, v_gtS, v_gt0, show asI (.int (size : Int)) = .ok (size : Int) from rfl, sl3 hs, v_cok, m1, m2]))]
    simp only [v_ptS, v_pt0]
    rw [seq_nx (asg_nm hp3)]
    simp only [v_ptS, v_pt0]
    rw [seq_nx (asg_nm (d := .str [c]) (by simp [h1, hho]))]
    simp only [v_ptS, v_pt0]
  rw [hstep]
  unfold q1__law_plan
  rw [v_sIf, v_tVal, v_xOp, hag, v_ok, v_xLst, v_aNil, v_ok, if_pos (by simp), v_ok, heq, v_cok, v_ok, v_asB, v_fok, List.isEmpty_map]
  cases hf : (es.filter fun e => agB e.1 pat).isEmpty with
  | true =>
    rw [List.isEmpty_iff] at hf
    rw [List.filter_eq_nil_iff] at hf
    refine ⟨es ++ [(pat, [c])], some (.fz (.int many)), some (.fz (.str (sg size))), some (.fz (.str pat)), some (.fz (.str [c])), ?_, ?_, ?_, ?_, ?_⟩
    · have hlt : es.length < 16777216 := Nat.lt_of_le_of_lt G.le (by omega)
      simp [hlt, ent]
    · have := G.le; simp; omega
    · intro _; simp
    · intro e he
      rcases List.mem_append.mp he with he | he
      · exact G.all e he
      · rw [List.mem_singleton] at he; rw [he]; exact hg
    · rw [List.pairwise_append]
      refine ⟨G.ap, List.pairwise_singleton _ _, fun a ha b hb => ?_⟩
      rw [List.mem_singleton] at hb
      rw [hb]
      simpa using hf a ha
  | false =>
    refine ⟨es, some (.fz (.int many)), some (.fz (.str (sg size))), some (.fz (.str pat)), some (.fz (.str [c])), ?_, ?_, ?_, ?_, ?_⟩
    · simp
    · have := G.le; omega
    · intro _
      cases es with
      | nil => simp at hf
      | cons e es => simp
    · exact G.all
    · exact G.ap
theorem n_plan (ns : List Int) (at_ : Int) (hat : 0 ≤ at_) (hl : ns.length < 1000) :
    ∃ (size : Nat) (es : List Ent) (n : Nat), Fn__law_plan [scr ns, .int at_] = .ok (.tup [.int size, .tup ((srt2 es).map ent)]) ∧ Gp size n es ∧ 1 ≤ n ∧ n ≤ 6 ∧ 2 ≤ size ∧ size ≤ 3 := by
  obtain ⟨c1, c2, c3⟩ := dr_ok (ns := ns) (k := at_) (m := 2) hat (by decide) hl
  obtain ⟨size, hsize⟩ : ∃ size : Nat, 2 + dr ns at_ 2 = (size : Int) := ⟨(2 + dr ns at_ 2).toNat, by omega⟩
  have hs : 2 ≤ size ∧ size ≤ 3 := by omega
  obtain ⟨d1, d2, d3⟩ := dr_ok (ns := ns) (k := at_ + 1) (m := 6) (by omega) (by decide) hl
  obtain ⟨m, hm⟩ : ∃ m : Nat, 1 + dr ns (at_ + 1) 6 = (m : Int) := ⟨(1 + dr ns (at_ + 1) 6).toNat, by omega⟩
  have e0 : Fn__law_plan [scr ns, .int at_] = outOf (sv__law_plan [some (.fz (scr ns)), some (.fz (.int at_)), none, none, none, none, none, none, none, none, none]) := rfl
  have hr := rng1_ok (n := m) (by omega)
  obtain ⟨env', h1, h2⟩ := forD_cnt (T := .nm 4) (b := b2__law_plan) ((List.range m).map fun (i : Nat) => D.int (i : Int)) (fun (n : Nat) env => ∃ es s4 s5 s6 s7 s9, env = [some (.fz (scr ns)), some (.fz (.int at_)), some (.fz (.int size)), some (.ow (.lst (es.map ent))), s4, s5, s6, s7, none, s9, none] ∧ Gp size n es)
    [some (.fz (scr ns)), some (.fz (.int at_)), some (.fz (.int size)), some (.ow (.lst (([] : List Ent).map ent))), none, none, none, none, none, none, none]
    ⟨[], none, none, none, none, none, rfl, ⟨by simp, fun h => absurd h (by decide), fun e he => absurd he (by simp), List.Pairwise.nil⟩⟩ (by
      rintro j x env hx ⟨es, s4, s5, s6, s7, s9, rfl, G⟩
      have hj : j < m := by
        have := (List.getElem?_eq_some_iff.mp hx).1
        simpa using this
      have hx' : x = D.int (j : Int) := by
        rw [List.getElem?_map, List.getElem?_range hj] at hx
        exact (Option.some.inj hx).symm
      subst hx'
      obtain ⟨es', s5', s6', s7', s9', e, G'⟩ := b_plan ns at_ size j (j : Int) es s5 s6 s7 s9 hat (by omega) hl hs.2 (by omega) G
      exact ⟨_, rfl, _, .inl e, es', _, s5', s6', s7', s9', rfl, G'⟩)
  obtain ⟨es, s4, s5, s6, s7, s9, rfl, G⟩ := h2
  refine ⟨size, es, m, ?_, by simpa using G, by omega, by omega, hs.1, hs.2⟩
  rw [e0]
  unfold sv__law_plan
  rw [seq_nx (env' := [some (.fz (scr ns)), some (.fz (.int at_)), some (.fz (.int size)), some (.ow (.lst (([] : List Ent).map ent))), none, none, none, none, none, none, none]) (by simp [c1, hsize])]
  rw [seq_nx (env' := [some (.fz (scr ns)), some (.fz (.int at_)), some (.fz (.int size)), some (.ow (.lst (es.map ent))), s4, s5, s6, s7, none, s9, none]) (by
    unfold q3__law_plan
    rw [← h1]
    simp [d1, hm, hr])]
  simp [sort_ents]
end Pv.W52

namespace Pv.W52
def letters : List Nat := [97, 98, 99, 100, 101, 102, 103, 104, 105, 106, 107, 108, 109, 110, 111, 112, 113, 114, 115, 116, 117, 118, 119, 120, 121, 122]
def wordB (v sg : List Nat) (lo hi : Int) : Bool := decide (lo ≤ v.length) && decide ((v.length : Int) ≤ hi) && v.all fun c => decide (c ∈ sg)
theorem in_ch (c : Nat) (l : List Nat) : inD (ch c) (.str l) = .ok (.bl (decide (c ∈ l))) := by simp [ch, inD, inB]
theorem n_is_word (v sg : List Nat) (lo hi : Int) : Fn_is_word [.str v, .str sg, .int lo, .int hi] = .ok (.bl (wordB v sg lo hi)) := by
  have e0 : Fn_is_word [.str v, .str sg, .int lo, .int hi] = outOf (sv_is_word [some (.fz (.str v)), some (.fz (.str sg)), some (.fz (.int lo)), some (.fz (.int hi)), none]) := rfl
  rw [e0]
  unfold sv_is_word
  have e := xLc_map (T := .nm 4) (own := [4]) (iv := iSeq (rdB 0)) (e := xOp inD (rdB 4) (rdB 1)) (env := [some (.fz (.str v)), some (.fz (.str sg)), some (.fz (.int lo)), some (.fz (.int hi)), none]) ch (fun c => .bl (decide (c ∈ sg))) v rfl (fun c _ => ⟨_, rfl, by simp [in_ch]⟩)
  have e2 := all_bls (v.map fun c => decide (c ∈ sg))
  rw [List.map_map] at e2
  have e3 : (v.map fun c => D.bl (decide (c ∈ sg))) = v.map (D.bl ∘ fun c => decide (c ∈ sg)) := rfl
  rw [e3] at e
  by_cases h1 : lo ≤ (v.length : Int)
  · by_cases h2 : (v.length : Int) ≤ hi
    · simp [lenD, h1, h2, e, e2, wordB]
    · simp [lenD, h1, h2, wordB]
  · simp [lenD, h1, wordB]
/-- the plan of a size and entries -/
def plan (size : Nat) (es : List Ent) : D := .tup [.int size, .tup (es.map ent)]
def okE (size : Nat) (e : Ent) : Bool := wordB e.1 (digs size ++ [120]) 1 6 && wordB e.2 letters 1 3
theorem sl_digs (size : Nat) : slD none (some (size : Int)) (.str [48, 49, 50, 51, 52, 53]) = .ok (.str (digs size)) := by
  show Res.ok (D.str (cutD _ _ _)) = _
  rw [cut_pre]; rfl
theorem digs_len (size : Nat) : (digs size).length ≤ 6 := by simp [digs]; omega
theorem add_any (size : Nat) : addD (.str (digs size)) (.str [120]) = .ok (.str (digs size ++ [120])) := by
  have := digs_len size
  show (if (digs size).length + 1 ≤ LIM then Res.ok (D.str (digs size ++ [120])) else Res.bad) = _
  rw [if_pos (by simp; omega)]
theorem n_is_entry (size : Nat) (e : Ent) : Fn_is_entry [.int size, ent e] = .ok (.bl (okE size e)) := by
  have e0 : Fn_is_entry [.int size, ent e] = outOf (sv_is_entry [some (.fz (.int size)), some (.fz (ent e))]) := rfl
  rw [e0]
  unfold sv_is_entry q1_is_entry
  have h1 : Fn_is_word [.str e.1, .str (digs size ++ [120]), .int 1, .int 6] = _ := n_is_word _ _ _ _
  have h2 : Fn_is_word [.str e.2, .str letters, .int 1, .int 3] = _ := n_is_word _ _ _ _
  unfold letters at h2
  cases hw : wordB e.1 (digs size ++ [120]) 1 6 with
  | true => simp [-v_addS, ent, lenD, ne_int, sl_digs, add_any, ix_tup (at0 _ _), ix_tup (at1 _ _ _), h1, h2, hw, okE, letters]
  | false => simp [-v_addS, ent, lenD, ne_int, sl_digs, add_any, ix_tup (at0 _ _), ix_tup (at1 _ _ _), h1, h2, hw, okE]
theorem cut_post {α : Type} (xs : List α) (n : Nat) : cutD xs (some (n : Int)) none = xs.drop n := by
  have h : sIx xs.length 0 (some (n : Int)) = min n xs.length := by
    unfold sIx
    dsimp only
    rw [if_neg (by omega)]
    omega
  unfold cutD
  rw [h]
  show (xs.drop (min n xs.length)).take (xs.length - min n xs.length) = _
  rcases Nat.le_total n xs.length with q | q
  · rw [Nat.min_eq_left q, List.take_of_length_le (by rw [List.length_drop]; omega)]
  · rw [Nat.min_eq_right q, Nat.sub_self, List.take_zero, List.drop_eq_nil_of_le q]
theorem enum_at : ∀ (ds : List D) (n j : Nat), (enumD n ds)[j]? = (ds[j]?).map fun d => .tup [.int ((n + j : Nat) : Int), d]
  | [], n, j => by simp [enumD]
  | d :: ds, n, 0 => by simp [enumD]
  | d :: ds, n, j + 1 => by
    rw [enumD, List.getElem?_cons_succ, enum_at ds (n + 1) j]
    simp only [List.getElem?_cons_succ]
    congr 1
    funext d
    congr 4
    omega
theorem enum_len : ∀ (ds : List D) (n : Nat), (enumD n ds).length = ds.length
  | [], _ => rfl
  | d :: ds, n => by rw [enumD]; simp [enum_len ds]
theorem pw_drop {α : Type} {R : α → α → Prop} {xs : List α} (h : xs.Pairwise R) {j : Nat} {x : α} (hx : xs[j]? = some x) : ∀ y ∈ xs.drop (j + 1), R x y := by
  induction xs generalizing j with
  | nil => simp at hx
  | cons a xs ih =>
    rw [List.pairwise_cons] at h
    cases j with
    | zero =>
      simp at hx
      subst hx
      simpa using h.1
    | succ j =>
      simp at hx ⊢
      exact ih h.2 hx
theorem n_are_apart (es : List Ent) (h : es.Pairwise fun a b => agB a.1 b.1 = false) : Fn_are_apart [.tup (es.map ent)] = .ok (.bl true) := by
  have e0 : Fn_are_apart [.tup (es.map ent)] = outOf (sv_are_apart [some (.fz (.tup (es.map ent))), none, none, none]) := rfl
  rw [e0]
  obtain ⟨env', h1, s1, s2, rfl⟩ := forD_cnt (T := .tp [1, 2]) (b := b2_are_apart) (enumD 0 (es.map ent)) (fun _ env => ∃ s1 s2, env = [some (.fz (.tup (es.map ent))), s1, s2, none]) [some (.fz (.tup (es.map ent))), none, none, none] ⟨none, none, rfl⟩ (by
    rintro j x env hx ⟨s1, s2, rfl⟩
    rw [enum_at, List.getElem?_map] at hx
    cases he : es[j]? with
    | none => rw [he] at hx; cases hx
    | some e =>
      rw [he] at hx
      have hx' : x = .tup [.int ((0 + j : Nat) : Int), ent e] := (Option.some.inj hx).symm
      subst hx'
      refine ⟨[some (.fz (.tup (es.map ent))), some (.fz (.int ((0 + j : Nat) : Int))), some (.fz (ent e)), none], rfl, [some (.fz (.tup (es.map ent))), some (.fz (.int ((0 + j : Nat) : Int))), some (.fz (ent e)), none], .inl ?_, _, _, rfl⟩
      unfold b2_are_apart q1_are_apart
      have hsl : slD (some (((0 + j : Nat) : Int) + 1)) none (.tup (es.map ent)) = .ok (.tup ((es.drop (j + 1)).map ent)) := by
        show Res.ok (D.tup (cutD _ _ _)) = _
        have : (((0 + j : Nat) : Int) + 1) = ((j + 1 : Nat) : Int) := by omega
        rw [this, cut_post, List.map_drop]
      have hlc := xLc_map (T := .nm 3) (own := [3]) (iv := iSeq (xSl (rdB 0) (some (xOp addD (rdB 1) (xC (.int 1)))) none)) (e := xCall Fn_agree (aCons (xOp ixD (rdB 2) (xC (.int 0))) (aCons (xOp ixD (rdB 3) (xC (.int 0))) aNil)))
        (env := [some (.fz (.tup (es.map ent))), some (.fz (.int ((0 + j : Nat) : Int))), some (.fz (ent e)), none]) ent (fun o => .bl (agB e.1 o.1)) (es.drop (j + 1)) (by simp only [v_iSeq, v_xSl, v_rdB, gt, v_ok, v_oIs, v_xOp, v_xC, v_cok, v_asI, v_oIn, addD, hsl]; rfl) (fun o _ => ⟨_, rfl, by simp [ent, ix_tup (at0 _ _), n_agree]⟩)
      have ha := any_bls ((es.drop (j + 1)).map fun o => agB e.1 o.1)
      rw [List.map_map] at ha
      have hf : ((es.drop (j + 1)).map fun o => agB e.1 o.1).any id = false := by
        rw [List.any_eq_false]
        intro b hb
        obtain ⟨o, ho, rfl⟩ := List.mem_map.mp hb
        have := pw_drop h he o ho
        simp [this]
      rw [hf] at ha
      rw [v_sIf, v_tVal, v_xU, hlc, v_ok, show (fun o : Ent => D.bl (agB e.1 o.1)) = D.bl ∘ fun o => agB e.1 o.1 from rfl, ha]
      simp)
  unfold sv_are_apart q3_are_apart
  rw [v_sSeq, v_sFor, v_iEnum, v_rdV]
  simp only [gt, v_ok, zpD, v_fok]
  rw [h1]
  simp
def cnt1 (size : Nat) (p : List Nat) : Nat := p.foldl (fun m c => m * (if c = 120 then size else 1)) 1
def cntA (size : Nat) (es : List Ent) : Nat := es.foldl (fun n e => n + cnt1 size e.1) 0
theorem n_count (size : Nat) (es : List Ent) (hs : size < 1000) : Fn_count_numbers [.int size, .tup (es.map ent)] = .ok (.int (cntA size es)) := by
  have e0 : Fn_count_numbers [.int size, .tup (es.map ent)] = outOf (sv_count_numbers [some (.fz (.int size)), some (.fz (.tup (es.map ent))), none, none, none, none, none]) := rfl
  rw [e0]
  have inner : ∀ (p : List Nat) (a : D) (f s4 s6 : Option Sl), ∃ s6', forD (.nm 6) b1_count_numbers (p.map ch) [some (.fz (.int size)), some (.fz a), f, some (.fz (.str p)), s4, some (.fz (.int 1)), s6] = .nx [some (.fz (.int size)), some (.fz a), f, some (.fz (.str p)), s4, some (.fz (.int (cnt1 size p))), s6'] := by
    intro p a f s4 s6
    obtain ⟨env', h1, s6', rfl⟩ := forD_fold (T := .nm 6) (b := b1_count_numbers) ch (fun (m : Nat) c => m * (if c = 120 then size else 1)) (fun m env => ∃ s6', env = [some (.fz (.int size)), some (.fz a), f, some (.fz (.str p)), s4, some (.fz (.int m)), s6']) p 1 _ ⟨s6, rfl⟩ (by
      rintro m env c _ ⟨s6', rfl⟩
      refine ⟨_, rfl, [some (.fz (.int size)), some (.fz a), f, some (.fz (.str p)), s4, some (.fz (.int (m * (if c = 120 then size else 1) : Nat))), some (.fz (ch c))], ?_, _, rfl⟩
      unfold b1_count_numbers
      have e1 : eqD (ch c) (.str [120]) = .ok (.bl (c == 120)) := eq_ch c 120
      have hm : ∀ j : Nat, j < 1000 → mulD (.int m) (.int j) = .ok (.int ((m * j : Nat) : Int)) := by
        intro j hj
        simp only [mulD]
        rw [if_pos (.inr ⟨by omega, by omega⟩)]
        simp
      have hm1 : mulD (.int m) (.int 1) = .ok (.int ((m * 1 : Nat) : Int)) := hm 1 (by decide)
      by_cases h : c = 120
      · subst h
        simp [-v_mulI, e1, hm size hs]
      · simp [-v_mulI, e1, h, hm1])
    exact ⟨s6', h1⟩
  obtain ⟨env', h1, s3, s4, s5, s6, rfl⟩ := forD_fold (T := .tp [3, 4]) (b := b3_count_numbers) ent (fun (n : Nat) e => n + cnt1 size e.1) (fun n env => ∃ s3 s4 s5 s6, env = [some (.fz (.int size)), some (.fz (.tup (es.map ent))), some (.fz (.int n)), s3, s4, s5, s6]) es 0 [some (.fz (.int size)), some (.fz (.tup (es.map ent))), some (.fz (.int (0 : Nat))), none, none, none, none] ⟨none, none, none, none, rfl⟩ (by
    rintro n env e _ ⟨s3, s4, s5, s6, rfl⟩
    obtain ⟨s6', hi⟩ := inner e.1 (.tup (es.map ent)) (some (.fz (.int n))) (some (.fz (.str e.2))) s6
    refine ⟨[some (.fz (.int size)), some (.fz (.tup (es.map ent))), some (.fz (.int n)), some (.fz (.str e.1)), some (.fz (.str e.2)), s5, s6], rfl, [some (.fz (.int size)), some (.fz (.tup (es.map ent))), some (.fz (.int (n + cnt1 size e.1 : Nat))), some (.fz (.str e.1)), some (.fz (.str e.2)), some (.fz (.int (cnt1 size e.1))), s6'], ?_, _, _, _, _, rfl⟩
    unfold b3_count_numbers q2_count_numbers
    have hz : zpD (.str e.1) = .ok (e.1.map ch) := rfl
    simp [hz, hi])
  unfold sv_count_numbers q4_count_numbers
  have h1' : forD (.tp [3, 4]) b3_count_numbers (es.map ent) [some (.fz (.int size)), some (.fz (.tup (es.map ent))), some (.fz (.int 0)), none, none, none, none] = _ := h1
  have hz : zpD (.tup (es.map ent)) = .ok (es.map ent) := rfl
  simp [hz, h1']
  rfl
/-- a plan that is one -/
structure OkP (size : Nat) (es : List Ent) : Prop where
  s2 : 2 ≤ size
  s6 : size ≤ 6
  l1 : 1 ≤ es.length
  l8 : es.length ≤ 8
  en : ∀ e ∈ es, okE size e = true
  lt : ∀ p ∈ es.zip (es.drop 1), dlt (ent p.1) (ent p.2) = true
  ap : es.Pairwise fun a b => agB a.1 b.1 = false
  ct : cntA size es ≤ 200
theorem n_is_int (i lo hi : Int) : Fn_is_int [.int i, .int lo, .int hi] = .ok (.bl (decide (lo ≤ i) && decide (i ≤ hi))) := by
  have e0 : Fn_is_int [.int i, .int lo, .int hi] = outOf (sv_is_int [some (.fz (.int i)), some (.fz (.int lo)), some (.fz (.int hi))]) := rfl
  rw [e0]
  unfold sv_is_int
  by_cases h : lo ≤ i <;> simp [h]
theorem zip_tups {α : Type} (f : α → D) (xs ys : List α) : zipD (.tup (xs.map f)) (.tup (ys.map f)) = .ok ((xs.zip ys).map fun p => .tup [f p.1, f p.2]) := by
  show Res.ok (zipW _ _) = _
  unfold zipW
  rw [List.zipWith_map_left, List.zipWith_map_right]
  simp [List.zip, List.map_zipWith]
theorem lt_ent (a b : Ent) : ltD (ent a) (ent b) = .ok (.bl (dlt (ent a) (ent b))) := by
  unfold ltD
  rw [if_pos]
  refine ⟨plain_ent a, plain_ent b, by simp [ent, alk, alks], by simp [ent, isNon], ?_⟩
  have := dep_ent a
  omega
theorem n_is_plan {size : Nat} {es : List Ent} (h : OkP size es) : Fn_is_plan [plan size es] = .ok (.bl true) := by
  have e0 : Fn_is_plan [plan size es] = outOf (sv_is_plan [some (.fz (plan size es)), none, none, none, none, none]) := rfl
  rw [e0]
  unfold sv_is_plan
  have hint := n_is_int size 2 6
  have h2 : (2 : Int) ≤ size := by have := h.s2; omega
  have h6 : (size : Int) ≤ 6 := by have := h.s6; omega
  have q1 : q1_is_plan [some (.fz (plan size es)), none, none, none, none, none] = .nx [some (.fz (plan size es)), none, none, none, none, none] := by
    unfold q1_is_plan plan
    simp [lenD, ne_int, ix_tup (at0 _ _), hint, h2, h6]
  have q2 : q2_is_plan [some (.fz (plan size es)), some (.fz (.int size)), some (.fz (.tup (es.map ent))), none, none, none] = .nx [some (.fz (plan size es)), some (.fz (.int size)), some (.fz (.tup (es.map ent))), none, none, none] := by
    unfold q2_is_plan
    have a1 : (1 : Int) ≤ es.length := by have := h.l1; omega
    have a2 : (es.length : Int) ≤ 8 := by have := h.l8; omega
    simp [lenD, a1, a2]
  have q3 : q3_is_plan [some (.fz (plan size es)), some (.fz (.int size)), some (.fz (.tup (es.map ent))), none, none, none] = .nx [some (.fz (plan size es)), some (.fz (.int size)), some (.fz (.tup (es.map ent))), none, none, none] := by
    unfold q3_is_plan
    have hl := xLc_map (T := .nm 3) (own := [3]) (iv := iSeq (rdB 2)) (e := xCall Fn_is_entry (aCons (rdV 1) (aCons (rdV 3) aNil))) (env := [some (.fz (plan size es)), some (.fz (.int size)), some (.fz (.tup (es.map ent))), none, none, none]) ent (fun e => .bl (okE size e)) es rfl (fun e _ => ⟨_, rfl, by simp [n_is_entry]⟩)
    have ha := all_bls (es.map (okE size))
    rw [List.map_map] at ha
    have hf : (es.map (okE size)).all id = true := by
      rw [List.all_eq_true]
      intro b hb
      obtain ⟨e, he, rfl⟩ := List.mem_map.mp hb
      simp [h.en e he]
    rw [hf] at ha
    rw [v_sIf, v_tNt, v_tVal, v_xU, hl, v_ok, show (fun e : Ent => D.bl (okE size e)) = D.bl ∘ okE size from rfl, ha]
    simp
  have q4 : q4_is_plan [some (.fz (plan size es)), some (.fz (.int size)), some (.fz (.tup (es.map ent))), none, none, none] = .nx [some (.fz (plan size es)), some (.fz (.int size)), some (.fz (.tup (es.map ent))), none, none, none] := by
    unfold q4_is_plan
    have hsl : slD (some 1) none (.tup (es.map ent)) = .ok (.tup ((es.drop 1).map ent)) := by
      show Res.ok (D.tup (cutD _ _ _)) = _
      have := cut_post (es.map ent) 1
      rw [show (some (1 : Int)) = some ((1 : Nat) : Int) from rfl, this, List.map_drop]
    have hl := xLc_map (T := .tp [4, 5]) (own := [4, 5]) (iv := iZip (rdV 2) (xSl (rdB 2) (some (xC (.int 1))) none)) (e := xOp ltD (rdB 4) (rdB 5)) (env := [some (.fz (plan size es)), some (.fz (.int size)), some (.fz (.tup (es.map ent))), none, none, none])
      (fun p : Ent × Ent => .tup [ent p.1, ent p.2]) (fun p => .bl (dlt (ent p.1) (ent p.2))) (es.zip (es.drop 1)) (by simp only [v_iZip, v_rdV, v_xSl, v_rdB, gt, v_ok, v_oIs, v_xC, v_asI, v_oIn, hsl, v_cok]; exact zip_tups ent es (es.drop 1)) (fun p _ => ⟨_, rfl, by simp [lt_ent]⟩)
    have ha := all_bls ((es.zip (es.drop 1)).map fun p => dlt (ent p.1) (ent p.2))
    rw [List.map_map] at ha
    have hf : ((es.zip (es.drop 1)).map fun p => dlt (ent p.1) (ent p.2)).all id = true := by
      rw [List.all_eq_true]
      intro b hb
      obtain ⟨p, hp, rfl⟩ := List.mem_map.mp hb
      simp [h.lt p hp]
    rw [hf] at ha
    rw [v_sIf, v_tNt, v_tVal, v_xU, hl, v_ok, show (fun p : Ent × Ent => D.bl (dlt (ent p.1) (ent p.2))) = D.bl ∘ fun p => dlt (ent p.1) (ent p.2) from rfl, ha]
    simp
  have hap := n_are_apart es h.ap
  have hct := n_count size es (by have := h.s6; omega)
  have h200 : (cntA size es : Int) ≤ 200 := by have := h.ct; omega
  rw [v_sSeq, q1]
  dsimp only
  rw [v_sSeq, show sAsg (.tp [1, 2]) (rdV 0) [some (.fz (plan size es)), none, none, none, none, none] = .nx [some (.fz (plan size es)), some (.fz (.int size)), some (.fz (.tup (es.map ent))), none, none, none] by simp [plan]]
  dsimp only
  rw [v_sSeq, q2]
  dsimp only
  rw [v_sSeq, q3]
  dsimp only
  rw [v_sSeq, q4]
  simp [hap, hct, h200]
end Pv.W52

namespace Pv.W52
theorem ag_comm (c d : Nat) : ag c d = ag d c := by
  unfold ag
  by_cases h : c = d
  · subst h; rfl
  · have h1 : (c == d) = false := beq_eq_false_iff_ne.mpr h
    have h2 : (d == c) = false := beq_eq_false_iff_ne.mpr (Ne.symm h)
    rw [h1, h2]
    cases (c == 120) <;> cases (d == 120) <;> rfl
theorem agB_comm (p q : List Nat) : agB p q = agB q p := by
  have key : ∀ p q : List Nat, ((p.zip q).all fun x => ag x.1 x.2) = (q.zip p).all fun x => ag x.1 x.2 := by
    intro p
    induction p with
    | nil => intro q; cases q <;> rfl
    | cons a p ih =>
      intro q
      cases q with
      | nil => rfl
      | cons b q => simp only [List.zip_cons_cons, List.all_cons]; rw [ih q, ag_comm a b]
  unfold agB
  rw [key p q]
  congr 1
  by_cases h : p.length = q.length
  · rw [h]
  · rw [beq_eq_false_iff_ne.mpr h, beq_eq_false_iff_ne.mpr (Ne.symm h)]
theorem agB_self (p : List Nat) : agB p p = true := by
  unfold agB
  have : ((p.zip p).all fun x => ag x.1 x.2) = true := by
    induction p with
    | nil => rfl
    | cons a p ih => simp only [List.zip_cons_cons, List.all_cons, ih]; simp [ag]
  rw [this]
  simp
theorem pw_next {α : Type} {R : α → α → Prop} : ∀ {xs : List α}, xs.Pairwise R → ∀ p ∈ xs.zip (xs.drop 1), R p.1 p.2
  | [], _, p, hp => by simp at hp
  | [a], _, p, hp => by simp at hp
  | a :: b :: xs, h, p, hp => by
    rw [List.pairwise_cons] at h
    simp only [List.drop_succ_cons, List.drop_zero, List.zip_cons_cons, List.mem_cons] at hp
    rcases hp with rfl | hp
    · exact h.1 b List.mem_cons_self
    · exact pw_next h.2 p (by simpa using hp)
theorem cntA_sum (size : Nat) (es : List Ent) : cntA size es = (es.map fun e => cnt1 size e.1).sum := by
  unfold cntA
  have key : ∀ (es : List Ent) (a : Nat), es.foldl (fun n e => n + cnt1 size e.1) a = a + (es.map fun e => cnt1 size e.1).sum := by
    intro es
    induction es with
    | nil => intro a; simp
    | cons e es ih => intro a; rw [List.foldl_cons, ih]; simp; omega
  rw [key, Nat.zero_add]
end Pv.W52

namespace Pv.W52
theorem cnt27 {size : Nat} (h : size ≤ 3) {p : List Nat} (hp : p.length ≤ 3) : cnt1 size p ≤ 27 := by
  have key : ∀ (p : List Nat) (m : Nat), p.foldl (fun m c => m * (if c = 120 then size else 1)) m ≤ m * 3 ^ p.length := by
    intro p
    induction p with
    | nil => intro m; simp
    | cons c p ih =>
      intro m
      rw [List.foldl_cons, List.length_cons, Nat.pow_succ]
      refine Nat.le_trans (ih _) ?_
      have : (if c = 120 then size else 1) ≤ 3 := by split <;> omega
      have h2 := Nat.mul_le_mul_left m this
      have h3 := Nat.mul_le_mul_right (3 ^ p.length) h2
      refine Nat.le_trans h3 (Nat.le_of_eq ?_)
      rw [Nat.mul_assoc, Nat.mul_comm 3]
  have h1 := key p 1
  unfold cnt1
  have h2 : 3 ^ p.length ≤ 3 ^ 3 := Nat.pow_le_pow_right (by decide) hp
  omega
theorem mk_okp {size : Nat} {es : List Ent} (h2 : 2 ≤ size) (h3 : size ≤ 3) (l1 : 1 ≤ es.length) (l6 : es.length ≤ 6) (all : ∀ e ∈ es, gd size e) (pw : es.Pairwise fun a b => a.1 < b.1) (ap : es.Pairwise fun a b => agB a.1 b.1 = false) : OkP size es := by
  refine ⟨h2, by omega, l1, by omega, fun e he => ?_, fun p hp => ?_, ap, ?_⟩
  · obtain ⟨g1, g2, g3, g4⟩ := all e he
    unfold okE wordB
    have a1 : (1 : Int) ≤ e.1.length := by omega
    have a2 : (e.1.length : Int) ≤ 6 := by omega
    have a3 : (e.1.all fun c => decide (c ∈ digs size ++ [120])) = true := by
      rw [List.all_eq_true]
      intro c hc
      exact decide_eq_true (g3 c hc)
    have a4 : wordB e.2 letters 1 3 = true := by
      simp only [List.mem_cons, List.not_mem_nil, or_false] at g4
      rcases g4 with q | q | q | q <;> rw [q] <;> decide
    unfold wordB at a4
    rw [a3, a4, decide_eq_true a1, decide_eq_true a2]
    rfl
  · have := pw_next pw p hp
    rw [dlt_ent, decide_eq_true_iff]
    exact .inl this
  · rw [cntA_sum]
    have key : ∀ l : List Ent, (∀ e ∈ l, gd size e) → (l.map fun e => cnt1 size e.1).sum ≤ 27 * l.length := by
      intro l
      induction l with
      | nil => intro _; simp
      | cons e l ih =>
        intro h
        have h1 := ih fun x hx => h x (List.mem_cons_of_mem _ hx)
        have h2 := cnt27 h3 (h e List.mem_cons_self).2.1
        rw [List.map_cons, List.sum_cons, List.length_cons]
        omega
    have := key es all
    omega
theorem gp_facts {size n : Nat} {es : List Ent} (hn : 1 ≤ n) (h6 : n ≤ 6) (G : Gp size n es) : 1 ≤ (srt2 es).length ∧ (srt2 es).length ≤ 6 ∧ (∀ e ∈ srt2 es, gd size e) ∧ ((srt2 es).Pairwise fun a b => a.1 < b.1) ∧ (srt2 es).Pairwise fun a b => agB a.1 b.1 = false := by
  have hperm := srt2_perm es
  have hap : (srt2 es).Pairwise fun a b => agB a.1 b.1 = false := (hperm.pairwise_iff (fun {a b} h => by rw [agB_comm]; exact h)).mpr G.ap
  refine ⟨?_, ?_, fun e he => G.all e (hperm.mem_iff.mp he), ?_, hap⟩
  · rw [hperm.length_eq]; exact G.ge (by omega)
  · rw [hperm.length_eq]; have := G.le; omega
  · have hb : (srt2 es).Pairwise fun a b => le2 a b = true ∧ agB a.1 b.1 = false := List.Pairwise.and (srt2_pw es) hap
    refine hb.imp fun {a b} h => ?_
    obtain ⟨z1, z2⟩ := h
    rw [le2_iff] at z1
    rcases sl_tri a.1 b.1 with q | q | q
    · exact q
    · rw [q, agB_self] at z2; cases z2
    · exact absurd (.inl q) z1
theorem n_check_plan {size : Nat} {es : List Ent} (h : OkP size es) : Fn_check_plan [plan size es] = .ok .non := by
  have e0 : Fn_check_plan [plan size es] = outOf (sv_check_plan [some (.fz (plan size es))]) := rfl
  rw [e0]
  unfold sv_check_plan q1_check_plan
  simp [n_is_plan h]
theorem n_check_bad {d : D} (h : Fn_is_plan [d] = .ok (.bl false)) : Fn_check_plan [d] = .exc "InvalidPlan" := by
  have e0 : Fn_check_plan [d] = outOf (sv_check_plan [some (.fz d)]) := rfl
  rw [e0]
  unfold sv_check_plan q1_check_plan
  simp [h]
end Pv.W52

namespace Pv.W52
/-! ### is_plan tells of whatever parse_plan makes -/
theorem forD_two {T : Tg} {b : Sv} (I : En → Prop) (d : D) : ∀ (xs : List D) (env : En), I env →
    (∀ env x, x ∈ xs → I env → ∃ env2, stT T x env = some env2 ∧ ((∃ env3, b env2 = .nx env3 ∧ I env3) ∨ b env2 = .ret d)) → (∃ env', forD T b xs env = .nx env' ∧ I env') ∨ forD T b xs env = .ret d
  | [], env, h, _ => .inl ⟨env, rfl, h⟩
  | x :: xs, env, h, hs => by
    obtain ⟨env2, h1, h2⟩ := hs env x List.mem_cons_self h
    rcases h2 with ⟨env3, h2, h3⟩ | h2
    · rcases forD_two I d xs env3 h3 fun env y hy => hs env y (List.mem_cons_of_mem _ hy) with ⟨env', h4, h5⟩ | h4
      · refine .inl ⟨env', ?_, h5⟩
        unfold forD
        rw [h1]
        dsimp only
        rw [h2]
        exact h4
      · refine .inr ?_
        unfold forD
        rw [h1]
        dsimp only
        rw [h2]
        exact h4
    · refine .inr ?_
      unfold forD
      rw [h1]
      dsimp only
      rw [h2]
theorem t_are_apart (es : List Ent) : ∃ b, Fn_are_apart [.tup (es.map ent)] = .ok (.bl b) := by
  have e0 : Fn_are_apart [.tup (es.map ent)] = outOf (sv_are_apart [some (.fz (.tup (es.map ent))), none, none, none]) := rfl
  rw [e0]
  have hz : zpD (.tup (es.map ent)) = .ok (es.map ent) := rfl
  have h1 := forD_two (T := .tp [1, 2]) (b := b2_are_apart) (fun env => ∃ s1 s2, env = [some (.fz (.tup (es.map ent))), s1, s2, none]) (.bl false) (enumD 0 (es.map ent)) [some (.fz (.tup (es.map ent))), none, none, none] ⟨_, _, rfl⟩ (by
    rintro env x hx ⟨s1, s2, rfl⟩
    obtain ⟨j, hj, hx⟩ := List.getElem_of_mem hx
    have hx' : (enumD 0 (es.map ent))[j]? = some x := by rw [List.getElem?_eq_getElem hj, hx]
    rw [enum_at] at hx'
    cases q : es[j]? with
    | none => simp [q] at hx'
    | some e =>
      have : x = .tup [.int (j : Int), ent e] := by simpa [q] using hx'.symm
      subst this
      refine ⟨_, rfl, ?_⟩
      unfold b2_are_apart q1_are_apart
      have hsl : slD (some ((j : Int) + 1)) none (.tup (es.map ent)) = .ok (.tup ((es.drop (j + 1)).map ent)) := by
        show Res.ok (D.tup (cutD _ _ _)) = _
        have := cut_post (es.map ent) (j + 1)
        rw [show (some ((j : Int) + 1)) = some ((j + 1 : Nat) : Int) from by simp, this, List.map_drop]
      have hl := xLc_map (T := .nm 3) (own := [3]) (iv := iSeq (xSl (rdB 0) (some (xOp addD (rdB 1) (xC (.int 1)))) none)) (e := xCall Fn_agree (aCons (xOp ixD (rdB 2) (xC (.int 0))) (aCons (xOp ixD (rdB 3) (xC (.int 0))) aNil))) (env := [some (.fz (.tup (es.map ent))), some (.fz (.int (j : Int))), some (.fz (ent e)), none])
        ent (fun o => .bl (agB e.1 o.1)) (es.drop (j + 1)) (by simp only [v_iSeq, v_xSl, v_rdB, v_gt0, v_gtS, v_ok, v_oIs, v_xOp, v_xC, v_addI, v_cok, v_asI, v_oIn, hsl]; rfl) (fun o _ => ⟨_, rfl, by simp [ent, ix_tup (at0 _ _), n_agree]⟩)
      have ha := any_bls ((es.drop (j + 1)).map fun o => agB e.1 o.1)
      rw [List.map_map] at ha
      have ef : (fun o : Ent => D.bl (agB e.1 o.1)) = D.bl ∘ fun o => agB e.1 o.1 := rfl
      rw [ef] at hl
      cases hb : ((es.drop (j + 1)).map fun o => agB e.1 o.1).any id with
      | true =>
        rw [hb] at ha
        refine .inr ?_
        simp only [v_ptS, v_pt0]
        rw [v_sIf, v_tVal, v_xU]
        rw [hl, v_ok, ha]
        simp
      | false =>
        rw [hb] at ha
        refine .inl ⟨_, ?_, some (.fz (.int (j : Int))), some (.fz (ent e)), rfl⟩
        simp only [v_ptS, v_pt0]
        rw [v_sIf, v_tVal, v_xU]
        rw [hl, v_ok, ha]
        simp)
  unfold sv_are_apart q3_are_apart
  rw [v_sSeq, v_sFor, v_iEnum, v_rdV]
  simp only [gt, v_ok, zpD, v_fok]
  rcases h1 with ⟨env', h1, _⟩ | h1
  · exact ⟨true, by rw [h1]; simp⟩
  · exact ⟨false, by rw [h1]; simp⟩
theorem is_non (es : D) : Fn_is_plan [.tup [.non, es]] = .ok (.bl false) := by
  have e0 : Fn_is_plan [.tup [.non, es]] = outOf (sv_is_plan [some (.fz (.tup [.non, es])), none, none, none, none, none]) := rfl
  have hi : Fn_is_int [.non, .int 2, .int 6] = .ok (.bl false) := by
    have e0 : Fn_is_int [.non, .int 2, .int 6] = outOf (sv_is_int [some (.fz .non), some (.fz (.int 2)), some (.fz (.int 6))]) := rfl
    rw [e0]
    unfold sv_is_int
    simp
  rw [e0]
  unfold sv_is_plan q1_is_plan
  simp [lenD, ne_int, ix_tup (at0 _ _), hi]
theorem t_is_plan (size : Nat) (hs : size < 10) (es : List Ent) : ∃ b, Fn_is_plan [plan size es] = .ok (.bl b) ∧ (b = true → 1 ≤ es.length ∧ es.length ≤ 8 ∧ ∀ e ∈ es, okE size e = true) := by
  have e0 : Fn_is_plan [plan size es] = outOf (sv_is_plan [some (.fz (plan size es)), none, none, none, none, none]) := rfl
  rw [e0]
  unfold sv_is_plan
  have hint := n_is_int size 2 6
  by_cases hsz : 2 ≤ size ∧ size ≤ 6
  case neg =>
    refine ⟨false, ?_, fun z => by cases z⟩
    have hb : (decide ((2 : Int) ≤ size) && decide ((size : Int) ≤ 6)) = false := by
      rw [Bool.and_eq_false_iff]
      by_cases h : 2 ≤ size
      · exact .inr (decide_eq_false (by omega))
      · exact .inl (decide_eq_false (by omega))
    rw [hb] at hint
    unfold q1_is_plan plan
    simp [lenD, ne_int, ix_tup (at0 _ _), hint]
  have h2 : (2 : Int) ≤ size := by omega
  have h6 : (size : Int) ≤ 6 := by omega
  have q1 : q1_is_plan [some (.fz (plan size es)), none, none, none, none, none] = .nx [some (.fz (plan size es)), none, none, none, none, none] := by
    unfold q1_is_plan plan
    simp [lenD, ne_int, ix_tup (at0 _ _), hint, h2, h6]
  rw [v_sSeq, q1]
  dsimp only
  rw [v_sSeq, show sAsg (.tp [1, 2]) (rdV 0) [some (.fz (plan size es)), none, none, none, none, none] = .nx [some (.fz (plan size es)), some (.fz (.int size)), some (.fz (.tup (es.map ent))), none, none, none] by simp [plan]]
  dsimp only
  by_cases hl : 1 ≤ es.length ∧ es.length ≤ 8
  case neg =>
    refine ⟨false, ?_, fun z => by cases z⟩
    have q2 : q2_is_plan [some (.fz (plan size es)), some (.fz (.int size)), some (.fz (.tup (es.map ent))), none, none, none] = .ret (.bl false) := by
      unfold q2_is_plan
      by_cases a1 : 1 ≤ es.length
      · have a2 : ¬ ((es.length : Int) ≤ 8) := by omega
        have a1' : (1 : Int) ≤ es.length := by omega
        simp [lenD, a1', a2]
      · have a1' : ¬ ((1 : Int) ≤ es.length) := by omega
        simp [lenD, a1']
    rw [v_sSeq, q2]
    rfl
  have q2 : q2_is_plan [some (.fz (plan size es)), some (.fz (.int size)), some (.fz (.tup (es.map ent))), none, none, none] = .nx [some (.fz (plan size es)), some (.fz (.int size)), some (.fz (.tup (es.map ent))), none, none, none] := by
    unfold q2_is_plan
    have a1 : (1 : Int) ≤ es.length := by omega
    have a2 : (es.length : Int) ≤ 8 := by omega
    simp [lenD, a1, a2]
  rw [v_sSeq, q2]
  dsimp only
  have hlc := xLc_map (T := .nm 3) (own := [3]) (iv := iSeq (rdB 2)) (e := xCall Fn_is_entry (aCons (rdV 1) (aCons (rdV 3) aNil))) (env := [some (.fz (plan size es)), some (.fz (.int size)), some (.fz (.tup (es.map ent))), none, none, none]) ent (fun e => .bl (okE size e)) es rfl (fun e _ => ⟨_, rfl, by simp [n_is_entry]⟩)
  have ha := all_bls (es.map (okE size))
  rw [List.map_map] at ha
  have q3 : q3_is_plan [some (.fz (plan size es)), some (.fz (.int size)), some (.fz (.tup (es.map ent))), none, none, none] = if (es.map (okE size)).all id = true then .nx [some (.fz (plan size es)), some (.fz (.int size)), some (.fz (.tup (es.map ent))), none, none, none] else .ret (.bl false) := by
    unfold q3_is_plan
    rw [v_sIf, v_tNt, v_tVal, v_xU, hlc, v_ok, show (fun e : Ent => D.bl (okE size e)) = D.bl ∘ okE size from rfl, ha]
    cases (es.map (okE size)).all id <;> simp
  rw [v_sSeq, q3]
  cases hall : (es.map (okE size)).all id with
  | false => exact ⟨false, by simp, fun z => by cases z⟩
  | true =>
    have hen : ∀ e ∈ es, okE size e = true := fun e he => by
      have := List.all_eq_true.mp hall (okE size e) (List.mem_map.mpr ⟨e, he, rfl⟩)
      simpa using this
    rw [if_pos rfl]
    dsimp only
    have hsl : slD (some 1) none (.tup (es.map ent)) = .ok (.tup ((es.drop 1).map ent)) := by
      show Res.ok (D.tup (cutD _ _ _)) = _
      have := cut_post (es.map ent) 1
      rw [show (some (1 : Int)) = some ((1 : Nat) : Int) from rfl, this, List.map_drop]
    have hl2 := xLc_map (T := .tp [4, 5]) (own := [4, 5]) (iv := iZip (rdV 2) (xSl (rdB 2) (some (xC (.int 1))) none)) (e := xOp ltD (rdB 4) (rdB 5)) (env := [some (.fz (plan size es)), some (.fz (.int size)), some (.fz (.tup (es.map ent))), none, none, none])
      (fun p : Ent × Ent => .tup [ent p.1, ent p.2]) (fun p => .bl (dlt (ent p.1) (ent p.2))) (es.zip (es.drop 1)) (by simp only [v_iZip, v_rdV, v_xSl, v_rdB, gt, v_ok, v_oIs, v_xC, v_asI, v_oIn, hsl, v_cok]; exact zip_tups ent es (es.drop 1)) (fun p _ => ⟨_, rfl, by simp [lt_ent]⟩)
    have ha2 := all_bls ((es.zip (es.drop 1)).map fun p => dlt (ent p.1) (ent p.2))
    rw [List.map_map] at ha2
    have q4 : q4_is_plan [some (.fz (plan size es)), some (.fz (.int size)), some (.fz (.tup (es.map ent))), none, none, none] = if ((es.zip (es.drop 1)).map fun p => dlt (ent p.1) (ent p.2)).all id = true then .nx [some (.fz (plan size es)), some (.fz (.int size)), some (.fz (.tup (es.map ent))), none, none, none] else .ret (.bl false) := by
      unfold q4_is_plan
      rw [v_sIf, v_tNt, v_tVal, v_xU, hl2, v_ok, show (fun p : Ent × Ent => D.bl (dlt (ent p.1) (ent p.2))) = D.bl ∘ fun p => dlt (ent p.1) (ent p.2) from rfl, ha2]
      cases ((es.zip (es.drop 1)).map fun p => dlt (ent p.1) (ent p.2)).all id <;> simp
    rw [v_sSeq, q4]
    cases hsrt : ((es.zip (es.drop 1)).map fun p => dlt (ent p.1) (ent p.2)).all id with
    | false => exact ⟨false, by simp, fun z => by cases z⟩
    | true =>
      rw [if_pos rfl]
      dsimp only
      obtain ⟨b1, hap⟩ := t_are_apart es
      have hct := n_count size es (by omega)
      cases b1 with
      | false => exact ⟨false, by simp [hap], fun z => by cases z⟩
      | true => exact ⟨decide ((cntA size es : Int) ≤ 200), by simp [hap, hct], fun _ => ⟨hl.1, hl.2, hen⟩⟩
end Pv.W52

namespace Pv.W52
/-! ### lines -/
def unln (ls : List (List Nat)) : List Nat := (ls.map fun l => l ++ [10]).flatten
theorem splL_app (c : Nat) : ∀ (w r : List Nat), c ∉ w → splL c (w ++ c :: r) = w :: splL c r
  | [], r, _ => by simp [splL]
  | a :: w, r, h => by
    have h1 : a ≠ c := fun e => h (by rw [e]; exact List.mem_cons_self)
    have h2 : c ∉ w := fun e => h (List.mem_cons_of_mem _ e)
    show splL c (a :: (w ++ c :: r)) = _
    rw [splL, if_neg h1, splL_app c w r h2]
theorem splL_end (c : Nat) : ∀ (w : List Nat), c ∉ w → splL c w = [w]
  | [], _ => by simp [splL]
  | a :: w, h => by
    have h1 : a ≠ c := fun e => h (by rw [e]; exact List.mem_cons_self)
    have h2 : c ∉ w := fun e => h (List.mem_cons_of_mem _ e)
    rw [splL, if_neg h1, splL_end c w h2]
theorem splL_unln : ∀ (ls : List (List Nat)), (∀ l ∈ ls, 10 ∉ l) → splL 10 (unln ls) = ls ++ [[]]
  | [], _ => by simp [unln, splL]
  | l :: ls, h => by
    have e : unln (l :: ls) = l ++ 10 :: unln ls := by simp [unln]
    rw [e, splL_app 10 l _ (h l List.mem_cons_self), splL_unln ls fun m hm => h m (List.mem_cons_of_mem _ hm)]
    rfl
theorem unln_inj {a b : List (List Nat)} (ha : ∀ l ∈ a, 10 ∉ l) (hb : ∀ l ∈ b, 10 ∉ l) (h : unln a = unln b) : a = b := by
  have := splL_unln a ha
  rw [h, splL_unln b hb] at this
  exact (List.append_cancel_right this).symm
theorem unln_app (a b : List (List Nat)) : unln (a ++ b) = unln a ++ unln b := by simp [unln]
/-- the lines of a plan -/
def lnP (size : Nat) : List Nat := [112, 108, 97, 110, 32, 48 + size]
def lnE (e : Ent) : List Nat := [101, 110, 116, 114, 121, 32] ++ e.1 ++ [32] ++ e.2
def lns (size : Nat) (es : List Ent) : List (List Nat) := lnP size :: es.map lnE
/-- what is known of an entry that is one -/
structure Ok1 (e : Ent) : Prop where
  a1 : e.1 ≠ []
  b1 : e.2 ≠ []
  a6 : e.1.length ≤ 6
  b3 : e.2.length ≤ 3
  an : ∀ c ∈ e.1, 33 ≤ c
  bn : ∀ c ∈ e.2, 33 ≤ c
theorem ok1 {size : Nat} {e : Ent} (h : okE size e = true) : Ok1 e := by
  unfold okE wordB at h
  simp only [Bool.and_eq_true, decide_eq_true_eq, List.all_eq_true] at h
  obtain ⟨⟨⟨h1, h2⟩, h3⟩, ⟨⟨h4, h5⟩, h6⟩⟩ := h
  refine ⟨fun z => ?_, fun z => ?_, by omega, by omega, fun c hc => ?_, fun c hc => ?_⟩
  · rw [z] at h1; simp at h1
  · rw [z] at h4; simp at h4
  · rcases List.mem_append.mp (h3 c hc) with q | q
    · have : c ∈ [48, 49, 50, 51, 52, 53] := List.mem_of_mem_take q
      simp at this; omega
    · simp at q; omega
  · have := h6 c hc
    unfold letters at this
    simp at this; omega
theorem ln10 {e : Ent} (h : Ok1 e) : 10 ∉ lnE e := by
  unfold lnE
  intro z
  simp only [List.mem_append, List.mem_cons, List.not_mem_nil, or_false] at z
  rcases z with ((z | z) | z) | z
  · omega
  · have := h.an 10 z; omega
  · omega
  · have := h.bn 10 z; omega
theorem lns10 {size : Nat} {es : List Ent} (h : ∀ e ∈ es, Ok1 e) : ∀ l ∈ lns size es, 10 ∉ l := by
  intro l hl
  unfold lns at hl
  rcases List.mem_cons.mp hl with e | hl
  · rw [e]; unfold lnP; simp; omega
  · obtain ⟨e, he, rfl⟩ := List.mem_map.mp hl
    exact ln10 (h e he)
theorem lnE_len {e : Ent} (h : Ok1 e) : (lnE e).length ≤ 16 ∧ 9 ≤ (lnE e).length := by
  unfold lnE
  have a := h.a6
  have b := h.b3
  have a1 : 1 ≤ e.1.length := by cases q : e.1 with | nil => exact absurd q h.a1 | cons _ _ => simp
  have b1 : 1 ≤ e.2.length := by cases q : e.2 with | nil => exact absurd q h.b1 | cons _ _ => simp
  simp; omega
theorem unln_len : ∀ (ls : List (List Nat)) (n : Nat), (∀ l ∈ ls, l.length ≤ n) → (unln ls).length ≤ (n + 1) * ls.length
  | [], n, _ => by simp [unln]
  | l :: ls, n, h => by
    have e : unln (l :: ls) = l ++ 10 :: unln ls := by simp [unln]
    have ih := unln_len ls n fun m hm => h m (List.mem_cons_of_mem _ hm)
    have h1 := h l List.mem_cons_self
    rw [e]
    simp [Nat.mul_add]
    omega
theorem txt_len {size : Nat} {es : List Ent} (h : ∀ e ∈ es, Ok1 e) (h8 : es.length ≤ 8) : (unln (lns size es)).length ≤ 153 := by
  have := unln_len (lns size es) 16 fun l hl => by
    unfold lns at hl
    rcases List.mem_cons.mp hl with e | hl
    · rw [e]; simp [lnP]
    · obtain ⟨e, he, rfl⟩ := List.mem_map.mp hl
      exact (lnE_len (h e he)).1
  have e : (lns size es).length = es.length + 1 := by simp [lns]
  rw [e] at this
  omega
/-! ### the words of a line -/
theorem sp_lnP (size : Nat) : splL 32 (lnP size) = [[112, 108, 97, 110], [48 + size]] := by
  have : lnP size = [112, 108, 97, 110] ++ 32 :: [48 + size] := rfl
  rw [this, splL_app 32 _ _ (by decide), splL_end 32 _ (by simp; omega)]
theorem sp_lnE {e : Ent} (h : Ok1 e) : splL 32 (lnE e) = [[101, 110, 116, 114, 121], e.1, e.2] := by
  have : lnE e = [101, 110, 116, 114, 121] ++ 32 :: (e.1 ++ 32 :: e.2) := by simp [lnE]
  have h1 : 32 ∉ e.1 := fun z => by have := h.an 32 z; omega
  have h2 : 32 ∉ e.2 := fun z => by have := h.bn 32 z; omega
  rw [this, splL_app 32 _ _ (by decide), splL_app 32 _ _ h1, splL_end 32 _ h2]
theorem splL_nil (c : Nat) : ∀ l, splL c l ≠ []
  | [] => by simp [splL]
  | a :: r => by
    unfold splL
    split
    · simp
    · cases splL c r <;> simp
end Pv.W52

namespace Pv.W52
/-! ### what is written -/
theorem asSs_map : ∀ ws : List (List Nat), asSs (ws.map D.str) = some ws
  | [] => rfl
  | w :: ws => by
    rw [List.map_cons, asSs, asSs_map ws]
    rfl
theorem joinL_flat : ∀ ws : List (List Nat), joinL [] ws = ws.flatten
  | [] => rfl
  | [w] => by simp [joinL]
  | w :: v :: ws => by
    have := joinL_flat (v :: ws)
    rw [joinL, this]
    · simp
    · simp
theorem join_str {sep : List Nat} {ws : List (List Nat)} (h : (ws.map List.length).sum + ws.length * sep.length ≤ LIM) : joinD (.str sep) (.lst (ws.map D.str)) = .ok (.str (joinL sep ws)) := by
  show (match asSs (ws.map D.str) with
    | some ls => if (ls.map List.length).sum + ls.length * sep.length ≤ LIM then Res.ok (D.str (joinL sep ls)) else Res.bad
    | none => Res.bad) = _
  rw [asSs_map]
  dsimp only
  rw [if_pos h]
def rowD (ws : List (List Nat)) : D := .lst (ws.map D.str)
theorem str_small {size : Nat} (h : size ≤ 9) : strI (.int (size : Int)) = .ok (.str [48 + size]) := by
  simp only [strI]
  rw [if_pos ⟨by omega, by omega⟩]
  simp
theorem sum_le : ∀ (ls : List (List Nat)) (n : Nat), (∀ l ∈ ls, l.length ≤ n) → (ls.map List.length).sum ≤ n * ls.length
  | [], n, _ => by simp
  | l :: ls, n, h => by
    have ih := sum_le ls n fun m hm => h m (List.mem_cons_of_mem _ hm)
    have h1 := h l List.mem_cons_self
    simp [Nat.mul_add]
    omega
def rws (size : Nat) (es : List Ent) : List (List (List Nat)) := [[112, 108, 97, 110], [48 + size]] :: es.map fun e => [[101, 110, 116, 114, 121], e.1, e.2]
theorem rws_ok {size : Nat} {es : List Ent} (h : ∀ e ∈ es, Ok1 e) {r : List (List Nat)} (hr : r ∈ rws size es) : (r.map List.length).sum + r.length * 1 ≤ 20 ∧ (joinL [32] r).length ≤ 16 := by
  unfold rws at hr
  rcases List.mem_cons.mp hr with e | hr
  · rw [e]; simp [joinL]
  · obtain ⟨e, he, rfl⟩ := List.mem_map.mp hr
    have a := (h e he).a6
    have b := (h e he).b3
    simp [joinL]
    omega
theorem rws_join (size : Nat) (es : List Ent) : (rws size es).map (joinL [32]) = lns size es := by
  unfold rws lns
  rw [List.map_cons, List.map_map]
  congr 1
theorem n_join {size : Nat} {es : List Ent} (hs : size ≤ 9) (h : ∀ e ∈ es, Ok1 e) (h8 : es.length ≤ 8) : Fn_join_plan [plan size es] = .ok (.str (unln (lns size es))) := by
  have e0 : Fn_join_plan [plan size es] = outOf (sv_join_plan [some (.fz (plan size es)), none, none, none, none, none, none]) := rfl
  rw [e0]
  unfold sv_join_plan
  rw [v_sSeq, show sAsg (.tp [1, 2]) (rdV 0) [some (.fz (plan size es)), none, none, none, none, none, none] = .nx [some (.fz (plan size es)), some (.fz (.int size)), some (.fz (.tup (es.map ent))), none, none, none, none] by simp [plan]]
  dsimp only
  have l1 := xLc_map (T := .tp [4, 5]) (own := [4, 5]) (iv := iSeq (rdB 2)) (e := xLst (aCons (xC (.str [101, 110, 116, 114, 121])) (aCons (rdV 4) (aCons (rdV 5) aNil)))) (env := [some (.fz (plan size es)), some (.fz (.int size)), some (.fz (.tup (es.map ent))), none, none, none, none])
    ent (fun e => rowD [[101, 110, 116, 114, 121], e.1, e.2]) es rfl (fun e _ => ⟨_, rfl, by simp [rowD]⟩)
  have a1 : (sAsg (.nm 3) (xOp addD (xLst (aCons (xLst (aCons (xC (.str [112, 108, 97, 110])) (aCons (xU strI (rdB 1)) aNil))) aNil)) (xLc (.tp [4, 5]) [4, 5] (iSeq (rdB 2)) tYs (xLst (aCons (xC (.str [101, 110, 116, 114, 121])) (aCons (rdV 4) (aCons (rdV 5) aNil))))))) [some (.fz (plan size es)), some (.fz (.int size)), some (.fz (.tup (es.map ent))), none, none, none, none] = .nx [some (.fz (plan size es)), some (.fz (.int size)), some (.fz (.tup (es.map ent))), some (.fz (.lst ((rws size es).map rowD))), none, none, none] := by
    rw [v_sAsg, v_xOp, l1]
    have hz : 1 + es.length ≤ 16777216 := by omega
    simp only [v_xLst, v_aCons, v_xC, v_xU, v_rdB, v_gtS, v_gt0, v_ok, str_small hs, v_cok, v_aNil, v_LIM, List.length_cons, List.length_nil]
    simp [hz, rws, rowD]
  rw [v_sSeq, a1]
  dsimp only
  have l2 := xLc_map (T := .nm 6) (own := [6]) (iv := iSeq (rdB 3)) (e := xOp addD (xM isStr joinD (xC (.str [32])) (rdB 6)) (xC (.str [10]))) (env := [some (.fz (plan size es)), some (.fz (.int size)), some (.fz (.tup (es.map ent))), some (.fz (.lst ((rws size es).map rowD))), none, none, none])
    rowD (fun r => .str (joinL [32] r ++ [10])) (rws size es) rfl (fun r hr => ⟨_, rfl, by
      obtain ⟨b1, b2⟩ := rws_ok h hr
      have j := join_str (sep := [32]) (ws := r) (by simp; simp at b1; omega)
      have hz : (joinL [32] r).length + 1 ≤ 16777216 := by omega
      simp only [v_wiS, v_wi0, v_ptS, v_pt0, v_xOp, v_xM, v_xC, v_ok, isStr, if_true, v_rdB, v_gtS, v_gt0, rowD, j, v_cok, v_addS, List.length_cons, List.length_nil, v_LIM]
      rw [if_pos (by omega)]
      rfl⟩)
  rw [v_sRet, v_xM, l2]
  have e2 : ((rws size es).map fun r => D.str (joinL [32] r ++ [10])) = ((lns size es).map fun l => l ++ [10]).map D.str := by
    rw [← rws_join, List.map_map, List.map_map]
    rfl
  rw [e2]
  have j := join_str (sep := []) (ws := (lns size es).map fun l => l ++ [10]) (by
    have := sum_le ((lns size es).map fun l => l ++ [10]) 17 (by
      intro l hl
      obtain ⟨m, hm, rfl⟩ := List.mem_map.mp hl
      unfold lns at hm
      rcases List.mem_cons.mp hm with e | hm
      · rw [e]; simp [lnP]
      · obtain ⟨e, he, rfl⟩ := List.mem_map.mp hm
        have := (lnE_len (h e he)).1
        simp; omega)
    have e : (lns size es).length = es.length + 1 := by simp [lns]
    rw [List.length_map, e] at this
    simp only [List.length_nil, Nat.mul_zero, Nat.add_zero, v_LIM]
    omega)
  rw [v_xC, v_ok, if_pos (by rfl), v_ok, j, joinL_flat]
  rfl
theorem n_text {size : Nat} {es : List Ent} (hs : size ≤ 9) (h : ∀ e ∈ es, Ok1 e) (h8 : es.length ≤ 8) : Fn__law_text [plan size es] = .ok (.str (unln (lns size es))) := by
  have e0 : Fn__law_text [plan size es] = outOf (sv__law_text [some (.fz (plan size es)), none, none]) := rfl
  rw [e0]
  unfold sv__law_text
  have ix0 : ixD (plan size es) (.int 0) = .ok (.int size) := ix_tup (at0 _ _)
  have ix1 : ixD (plan size es) (.int 1) = .ok (.tup (es.map ent)) := ix_tup (at1 _ _ _)
  have l2 := xLc_map (T := .tp [1, 2]) (own := [1, 2]) (iv := iSeq (xOp ixD (rdB 0) (xC (.int 1)))) (e := xOp addD (xOp addD (xOp addD (xOp addD (xC (.str [101, 110, 116, 114, 121, 32])) (rdB 1)) (xC (.str [32]))) (rdB 2)) (xC (.str [10]))) (env := [some (.fz (plan size es)), none, none])
    ent (fun e => .str (lnE e ++ [10])) es (by simp only [v_iSeq, v_xOp, v_rdB, v_gt0, v_xC, v_ok, ix1, v_cok]; rfl) (fun e he => ⟨_, rfl, by
      have a := (h e he).a6
      have b := (h e he).b3
      simp only [v_wiS, v_wi0, v_ptS, v_pt0, v_xOp, v_xC, v_ok, v_rdB, v_gtS, v_gt0, v_cok, v_addS, List.length_cons, List.length_nil, List.length_append, v_LIM]
      rw [if_pos (by omega)]
      simp only [v_cok, v_ok, v_addS, List.length_cons, List.length_nil, List.length_append, v_LIM]
      rw [if_pos (by omega)]
      simp only [v_cok, v_ok, v_addS, List.length_cons, List.length_nil, List.length_append, v_LIM]
      rw [if_pos (by omega)]
      simp only [v_cok, v_ok, v_addS, List.length_cons, List.length_nil, List.length_append, v_LIM]
      rw [if_pos (by omega)]
      rfl⟩)
  have e2 : (es.map fun e => D.str (lnE e ++ [10])) = ((es.map lnE).map fun l => l ++ [10]).map D.str := by
    rw [List.map_map, List.map_map]
    rfl
  rw [e2] at l2
  have hlen : (unln (es.map lnE)).length ≤ 136 := by
    have := unln_len (es.map lnE) 16 fun l hl => by
      obtain ⟨e, he, rfl⟩ := List.mem_map.mp hl
      exact (lnE_len (h e he)).1
    rw [List.length_map] at this
    omega
  have j := join_str (sep := []) (ws := (es.map lnE).map fun l => l ++ [10]) (by
    have := sum_le ((es.map lnE).map fun l => l ++ [10]) 17 (by
      intro l hl
      obtain ⟨m, hm, rfl⟩ := List.mem_map.mp hl
      obtain ⟨e, he, rfl⟩ := List.mem_map.mp hm
      have := (lnE_len (h e he)).1
      simp; omega)
    rw [List.length_map, List.length_map] at this
    simp only [List.length_nil, Nat.mul_zero, Nat.add_zero, v_LIM]
    omega)
  rw [joinL_flat] at j
  have j' : joinD (.str []) (.lst (((es.map lnE).map fun l => l ++ [10]).map D.str)) = .ok (.str (unln (es.map lnE))) := j
  have hx : (xM isStr joinD (xC (.str [])) (xLc (.tp [1, 2]) [1, 2] (iSeq (xOp ixD (rdB 0) (xC (.int 1)))) tYs (xOp addD (xOp addD (xOp addD (xOp addD (xC (.str [101, 110, 116, 114, 121, 32])) (rdB 1)) (xC (.str [32]))) (rdB 2)) (xC (.str [10]))))) [some (.fz (plan size es)), none, none] = .ok (.str (unln (es.map lnE))) := by
    rw [v_xM, l2, v_xC, v_ok, if_pos (by rfl), v_ok, j']
    rfl
  rw [v_sRet, v_xOp, hx]
  simp only [v_xOp, v_xC, v_xU, v_rdB, v_gt0, v_ok, ix0, v_cok, str_small hs, v_addS, List.length_cons, List.length_nil, List.length_append, v_LIM]
  rw [if_pos (by omega)]
  simp only [v_ok, v_cok, v_addS, List.length_cons, List.length_nil, List.length_append, v_LIM]
  rw [if_pos (by omega)]
  simp only [v_ok, v_cok, v_addS, List.length_cons, List.length_nil, List.length_append, v_LIM]
  rw [if_pos (by omega)]
  simp only [v_cok, v_fok, v_outr]
  congr 2
end Pv.W52

namespace Pv.W52
/-! ### what is read -/
theorem spl_len (c : Nat) : ∀ (l : List Nat), (splL c l).length ≤ l.length + 1
  | [] => by simp [splL]
  | a :: r => by
    unfold splL
    have ih := spl_len c r
    split
    · simp; omega
    · cases q : splL c r with
      | nil => simp
      | cons v vs => rw [q] at ih; simp at ih ⊢; omega
theorem spl_lenW (c : Nat) : ∀ (l : List Nat) {w : List Nat}, w ∈ splL c l → w.length ≤ l.length
  | [], w, h => by
    simp only [splL, List.mem_singleton] at h
    subst h; simp
  | a :: r, w, h => by
    unfold splL at h
    split at h
    · rcases List.mem_cons.mp h with e | h
      · subst e; simp
      · have := spl_lenW c r h
        simp; omega
    · cases q : splL c r with
      | nil => exact absurd q (splL_nil c r)
      | cons v vs =>
        rw [q] at h
        rcases List.mem_cons.mp h with e | h
        · subst e
          have := spl_lenW c r (w := v) (by rw [q]; exact List.mem_cons_self)
          simp; omega
        · have := spl_lenW c r (w := w) (by rw [q]; exact List.mem_cons_of_mem _ h)
          simp; omega
theorem spl_ok {t : List Nat} (c : Nat) (hc : c < 256) (h : t.length ≤ 1000000) : splitD (.str t) (.str [c]) = .ok (.lst ((splL c t).map D.str)) := by
  show (if c < 256 ∧ t.length + 2 ≤ LIM then Res.ok (D.lst ((splL c t).map D.str)) else Res.bad) = _
  rw [if_pos ⟨hc, by simp; omega⟩]
theorem cut_last {α : Type} (xs : List α) : cutD xs none (some (-1)) = xs.dropLast := by
  have h : sIx xs.length xs.length (some (-1)) = xs.length - 1 := by
    unfold sIx
    dsimp only
    split <;> omega
  have h0 : sIx xs.length 0 none = 0 := rfl
  unfold cutD
  rw [h, h0, List.drop_zero, Nat.sub_zero, List.dropLast_eq_take]
theorem plain_row (r : List (List Nat)) : plain (rowD r) = true := by unfold rowD; rw [plain]; exact plains_strs r
def num (sz : List Nat) : Option Nat := match sz with
  | [c] => if 48 ≤ c ∧ c ≤ 57 then some (c - 48) else none
  | _ => none
def numD : Option Nat → D
  | some k => .int (k : Int)
  | none => .non
def rowsOf (t : List Nat) : List (List (List Nat)) := (splL 10 t).dropLast.map (splL 32)
def entOf (r : List (List Nat)) : Ent := (r.getD 1 [], r.getD 2 [])
def okR (R : List (List (List Nat))) : Bool := match R with
  | [] => false
  | r0 :: rs => r0.length == 2 && rs.all fun r => r.length == 3
theorem rows_ok {t : List Nat} (ht : t.length ≤ 100000) (s1 s2 s3 s4 s5 : Option Sl) : (sAsg (.nm 1) (xLc (.nm 2) [2] (iSeq (xSl (xM isStr splitD (rdV 0) (xC (.str [10]))) none (some (xC (.int (-1)))))) tYs (xM isStr splitD (rdV 2) (xC (.str [32]))))) [some (.fz (.str t)), s1, s2, s3, s4, s5] = .nx [some (.fz (.str t)), some (.fz (.lst ((rowsOf t).map rowD))), s2, s3, s4, s5] := by
  have h1 := spl_ok (t := t) 10 (by decide) (by omega)
  have hsl : slD none (some (-1)) (.lst ((splL 10 t).map D.str)) = .ok (.lst ((splL 10 t).dropLast.map D.str)) := by
    show Res.ok (D.lst (cutD _ _ _)) = _
    rw [cut_last, List.map_dropLast]
  have l := xLc_map (T := .nm 2) (own := [2]) (iv := iSeq (xSl (xM isStr splitD (rdV 0) (xC (.str [10]))) none (some (xC (.int (-1)))))) (e := xM isStr splitD (rdV 2) (xC (.str [32]))) (env := [some (.fz (.str t)), s1, s2, s3, s4, s5])
    D.str (fun l => rowD (splL 32 l)) (splL 10 t).dropLast (by
      simp only [v_iSeq, v_xSl, v_xM, v_rdV, v_gt0, v_ok, isStr, if_true, v_xC, h1, v_cok, v_oIn, v_oIs, v_asI, hsl]
      rfl) (fun l hl => ⟨_, rfl, by
        have hw := spl_lenW 10 t ((List.dropLast_sublist _).subset hl)
        have h2 := spl_ok (t := l) 32 (by decide) (by omega)
        simp only [v_wiS, v_wi0, v_ptS, v_pt0, v_xM, v_rdV, v_gt0, v_gtS, v_ok, isStr, if_true, v_xC, h2, v_cok]
        rfl⟩)
  rw [v_sAsg, l]
  simp [rowsOf]
  rfl
theorem cond_ok (R : List (List (List Nat))) (d0 : D) (s2 s3 s4 s5 : Option Sl) : q2_parse_plan [some (.fz d0), some (.fz (.lst (R.map rowD))), s2, s3, s4, s5] = if okR R = true then .nx [some (.fz d0), some (.fz (.lst (R.map rowD))), s2, s3, s4, s5] else .exc "ParseError" [some (.fz d0), some (.fz (.lst (R.map rowD))), s2, s3, s4, s5] := by
  unfold q2_parse_plan
  have he := eq_nil (plains_map rowD plain_row R)
  cases R with
  | nil =>
    simp [okR, eqD, plain, plains, dep, deps, deq, deqs]
  | cons r0 rs =>
    have hx : ixD (.lst ((r0 :: rs).map rowD)) (.int 0) = .ok (rowD r0) := ix_lst (at0 _ _)
    have hlen : lenD (rowD r0) = .ok (.int (r0.length : Nat)) := by simp [rowD, lenD]
    have hsl : slD (some 1) none (.lst ((r0 :: rs).map rowD)) = .ok (.lst (rs.map rowD)) := by
      show Res.ok (D.lst (cutD _ _ _)) = _
      rw [show (some (1 : Int)) = some ((1 : Nat) : Int) from rfl, cut_post]
      rfl
    have l := xLc_map (T := .nm 2) (own := [2]) (iv := iSeq (xSl (rdB 1) (some (xC (.int 1))) none)) (e := xOp eqD (xU lenD (rdB 2)) (xC (.int 3))) (env := [some (.fz d0), some (.fz (.lst ((r0 :: rs).map rowD))), s2, s3, s4, s5])
      rowD (fun r => .bl (r.length == 3)) rs (by
        simp only [v_iSeq, v_xSl, v_rdB, v_gt0, v_gtS, v_ok, v_xC, v_oIn, v_oIs, v_asI, hsl, v_cok]
        rfl) (fun r _ => ⟨_, rfl, by
          have h1 : lenD (rowD r) = .ok (.int (r.length : Nat)) := by simp [rowD, lenD]
          have h2 : ((r.length : Int) == 3) = (r.length == 3) := by
            rw [Bool.eq_iff_iff]; simp; omega
          simp [h1, eq_int, h2]⟩)
    have ha := all_bls (rs.map fun r => r.length == 3)
    rw [List.map_map] at ha
    have ef : (fun r : List (List Nat) => D.bl (r.length == 3)) = D.bl ∘ fun r => r.length == 3 := rfl
    rw [ef] at l
    have hall : (rs.map fun r => r.length == 3).all id = rs.all fun r => r.length == 3 := by simp [List.all_map]
    rw [hall] at ha
    have he' : eqD (.lst (rowD r0 :: rs.map rowD)) (.lst []) = .ok (.bl false) := he
    by_cases h2 : r0.length = 2
    · have h2' : ((r0.length : Int) == 2) = true := by rw [h2]; rfl
      rw [v_sIf, v_tOr, v_tVal, v_xOp, v_rdB]
      simp only [List.map_cons, v_gtS, v_gt0, v_ok, v_xLst, v_aNil, List.length_nil, v_LIM, Nat.zero_le, if_true, he', v_cok, v_asB, List.isEmpty_cons, Bool.false_eq_true, if_false]
      rw [v_tOr, v_tVal, v_xOp, v_xU, v_xOp, v_rdB]
      simp only [v_gtS, v_gt0, v_ok, v_xC]
      have hx' : ixD (.lst (rowD r0 :: rs.map rowD)) (.int 0) = .ok (rowD r0) := hx
      have l' : xLc (.nm 2) [2] (iSeq (xSl (rdB 1) (some (xC (.int 1))) none)) tYs (xOp eqD (xU lenD (rdB 2)) (xC (.int 3))) [some (.fz d0), some (.fz (.lst (rowD r0 :: rs.map rowD))), s2, s3, s4, s5] = _ := l
      simp only [hx', v_cok, v_ok, hlen, ne_int, h2', v_asB, Bool.not_true, Bool.false_eq_true, if_false]
      rw [v_tNt, v_tVal, v_xU, l', v_ok, ha]
      simp only [v_cok, v_ok, v_asB, okR, h2]
      cases (rs.all fun r => r.length == 3) <;> simp
    · have h2' : ((r0.length : Int) == 2) = false := by
        rw [beq_eq_false_iff_ne]; omega
      have h2'' : (r0.length == 2) = false := by rw [beq_eq_false_iff_ne]; exact h2
      rw [v_sIf, v_tOr, v_tVal, v_xOp, v_rdB]
      simp only [List.map_cons, v_gtS, v_gt0, v_ok, v_xLst, v_aNil, List.length_nil, v_LIM, Nat.zero_le, if_true, he', v_cok, v_asB, List.isEmpty_cons, Bool.false_eq_true, if_false]
      rw [v_tOr, v_tVal, v_xOp, v_xU, v_xOp, v_rdB]
      simp only [v_gtS, v_gt0, v_ok, v_xC]
      have hx' : ixD (.lst (rowD r0 :: rs.map rowD)) (.int 0) = .ok (rowD r0) := hx
      simp only [hx', v_cok, v_ok, hlen, ne_int, h2', v_asB, Bool.not_false, if_true, okR, h2'', Bool.false_and, Bool.false_eq_true, if_false]
      simp
theorem num_ok (sz : List Nat) (d0 d1 : D) (s2 s4 s5 : Option Sl) : (xIf (tAn (tVal (xOp eqD (xU lenD (rdB 3)) (xC (.int 1)))) (tVal (xOp inD (rdB 3) (xC (.str [48, 49, 50, 51, 52, 53, 54, 55, 56, 57]))))) (xU intS (rdB 3)) (xC .non)) [some (.fz d0), some (.fz d1), s2, some (.fz (.str sz)), s4, s5] = .ok (numD (num sz)) := by
  match sz with
  | [] => simp [lenD, eq_int, num, numD]
  | [c] =>
    have hi := in_ch c [48, 49, 50, 51, 52, 53, 54, 55, 56, 57]
    unfold ch at hi
    by_cases h : 48 ≤ c ∧ c ≤ 57
    · have hm : c ∈ [48, 49, 50, 51, 52, 53, 54, 55, 56, 57] := by simp; omega
      rw [decide_eq_true hm] at hi
      have hs : intS (.str [c]) = .ok (.int ((c - 48 : Nat) : Int)) := by
        show (if 48 ≤ c ∧ c ≤ 57 then _ else _) = _
        rw [if_pos h]
      simp [lenD, eq_int, hi, hs, num, h, numD]
    · have hm : c ∉ [48, 49, 50, 51, 52, 53, 54, 55, 56, 57] := by simp; omega
      rw [decide_eq_false hm] at hi
      simp [lenD, eq_int, hi, num, h, numD]
  | c :: d :: r =>
    have : (((r.length + 1 + 1 : Nat) : Int) == 1) = false := by rw [beq_eq_false_iff_ne]; omega
    simp only [v_xIf, v_tAn, v_tVal, v_xOp, v_xU, v_rdB, v_gtS, v_gt0, v_ok, lenD, List.length_cons, v_cok, v_xC, eq_int, this, v_asB, Bool.false_eq_true, if_false]
    rfl
end Pv.W52

namespace Pv.W52
def planO (n : Option Nat) (es : List Ent) : D := .tup [numD n, .tup (es.map ent)]
theorem at2 {α : Type} (x y z : α) (xs : List α) : atD (x :: y :: z :: xs) 2 = some z := by
  unfold atD
  rw [ixN_ok (by decide) (by simp only [List.length_cons]; omega)]
  rfl
theorem parse_bad {d : D} (h : isiB .str d = some false) : Fn_parse_plan [d] = .exc "ParseError" := by
  have e0 : Fn_parse_plan [d] = outOf (sv_parse_plan [some (.fz d), none, none, none, none, none]) := rfl
  rw [e0]
  unfold sv_parse_plan q1_parse_plan
  simp [h]
theorem parse_go {t : List Nat} (ht : t.length ≤ 100000) : Fn_parse_plan [.str t] = if okR (rowsOf t) = true then
    outOf (sSeq q3_parse_plan (sRet (rdV 5)) [some (.fz (.str t)), some (.fz (.lst ((rowsOf t).map rowD))), none, some (.fz (.str (((rowsOf t).headD []).getD 1 []))), some (.fz (numD (num (((rowsOf t).headD []).getD 1 [])))), some (.fz (planO (num (((rowsOf t).headD []).getD 1 [])) ((rowsOf t).tail.map entOf)))])
    else .exc "ParseError" := by
  have e0 : Fn_parse_plan [.str t] = outOf (sv_parse_plan [some (.fz (.str t)), none, none, none, none, none]) := rfl
  rw [e0]
  unfold sv_parse_plan
  rw [v_sSeq, show q1_parse_plan [some (.fz (.str t)), none, none, none, none, none] = .nx [some (.fz (.str t)), none, none, none, none, none] by unfold q1_parse_plan; simp]
  dsimp only
  rw [v_sSeq, rows_ok ht]
  dsimp only
  rw [v_sSeq, cond_ok]
  cases hk : okR (rowsOf t) with
  | false => simp
  | true =>
    rw [if_pos rfl, if_pos rfl]
    dsimp only
    cases hR : rowsOf t with
    | nil => rw [hR] at hk; cases hk
    | cons r0 rs =>
      rw [hR] at hk
      simp only [okR, Bool.and_eq_true, beq_iff_eq, List.all_eq_true] at hk
      obtain ⟨h2, h3⟩ := hk
      match r0, h2 with
      | [w, sz], _ =>
        have hx : ixD (.lst (rowD [w, sz] :: rs.map rowD)) (.int 0) = .ok (rowD [w, sz]) := ix_lst (at0 _ _)
        have hx1 : ixD (rowD [w, sz]) (.int 1) = .ok (.str sz) := ix_lst (at1 _ _ _)
        rw [List.map_cons]
        rw [v_sSeq, show (sAsg (.nm 3) (xOp ixD (xOp ixD (rdB 1) (xC (.int 0))) (xC (.int 1)))) [some (.fz (.str t)), some (.fz (.lst (rowD [w, sz] :: rs.map rowD))), none, none, none, none] = .nx [some (.fz (.str t)), some (.fz (.lst (rowD [w, sz] :: rs.map rowD))), none, some (.fz (.str sz)), none, none] by simp [hx, hx1]]
        dsimp only
        rw [v_sSeq, v_sAsg, num_ok]
        simp only [v_fok, v_stn, v_ptS, v_pt0]
        have hsl : slD (some 1) none (.lst (rowD [w, sz] :: rs.map rowD)) = .ok (.lst (rs.map rowD)) := by
          show Res.ok (D.lst (cutD _ _ _)) = _
          rw [show (some (1 : Int)) = some ((1 : Nat) : Int) from rfl, cut_post]
          rfl
        have l := xLc_map (T := .nm 2) (own := [2]) (iv := iSeq (xSl (rdB 1) (some (xC (.int 1))) none)) (e := xTup (aCons (xOp ixD (rdB 2) (xC (.int 1))) (aCons (xOp ixD (rdB 2) (xC (.int 2))) aNil))) (env := [some (.fz (.str t)), some (.fz (.lst (rowD [w, sz] :: rs.map rowD))), none, some (.fz (.str sz)), some (.fz (numD (num sz))), none])
          rowD (fun r => ent (entOf r)) rs (by
            simp only [v_iSeq, v_xSl, v_rdB, v_gt0, v_gtS, v_ok, v_xC, v_oIn, v_oIs, v_asI, hsl, v_cok]
            rfl) (fun r hr => ⟨_, rfl, by
              have h := h3 r hr
              match r, h with
              | [x, a, b], _ =>
                have i1 : ixD (rowD [x, a, b]) (.int 1) = .ok (.str a) := ix_lst (at1 _ _ _)
                have i2 : ixD (rowD [x, a, b]) (.int 2) = .ok (.str b) := ix_lst (at2 _ _ _ _)
                simp [i1, i2, ent, entOf]⟩)
        have ef : (rs.map fun r => ent (entOf r)) = (rs.map entOf).map ent := by rw [List.map_map]; rfl
        rw [ef] at l
        rw [v_sSeq, v_sAsg, v_xTup, v_aCons, v_aCons, v_xU, l]
        simp only [v_rdV, v_gtS, v_gt0, v_ok, v_tupL, v_cok, v_aNil, List.length_cons, List.length_nil, v_LIM]
        rw [if_pos (by omega)]
        simp only [v_fok, v_stn, v_ptS, v_pt0]
        rfl
/-- what parse_plan returns it has checked -/
theorem parse_sound {t : List Nat} (ht : t.length ≤ 100000) : (∃ (size : Nat) (es : List Ent), Fn_parse_plan [.str t] = .ok (plan size es) ∧ size ≤ 9 ∧ Fn_is_plan [plan size es] = .ok (.bl true) ∧ 1 ≤ es.length ∧ es.length ≤ 8 ∧ (∀ e ∈ es, Ok1 e) ∧ unln (lns size es) = t) ∨ Fn_parse_plan [.str t] = .exc "ParseError" := by
  rw [parse_go ht]
  cases hk : okR (rowsOf t) with
  | false => exact .inr (by simp)
  | true =>
    rw [if_pos rfl]
    generalize ((rowsOf t).headD []).getD 1 [] = sz
    generalize (rowsOf t).tail.map entOf = es
    generalize D.lst ((rowsOf t).map rowD) = d1
    unfold q3_parse_plan
    cases hn : num sz with
    | none =>
      refine .inr ?_
      have hp : Fn_is_plan [planO none es] = .ok (.bl false) := is_non _
      simp [hp]
    | some k =>
      have hk9 : k ≤ 9 := by
        unfold num at hn
        split at hn
        · split at hn
          · cases hn; omega
          · cases hn
        · cases hn
      obtain ⟨b, hp, hb⟩ := t_is_plan k (by omega) es
      have hp' : Fn_is_plan [planO (some k) es] = .ok (.bl b) := hp
      cases b with
      | false => exact .inr (by simp [hp'])
      | true =>
        obtain ⟨l1, l8, he⟩ := hb rfl
        have he' : ∀ e ∈ es, Ok1 e := fun e h => ok1 (he e h)
        have hj := n_join hk9 he' l8
        have hj' : Fn_join_plan [planO (some k) es] = _ := hj
        by_cases hq : unln (lns k es) = t
        · refine .inl ⟨k, es, ?_, hk9, hp, l1, l8, he', hq⟩
          have hb : (unln (lns k es) == t) = true := by simp [hq]
          simp [hp', hj', ne_str, hb]
          rfl
        · refine .inr ?_
          have hb : (unln (lns k es) == t) = false := by simp [hq]
          simp [hp', hj', ne_str, hb]
/-- what is written is read back -/
theorem parse_back {size : Nat} {es : List Ent} (h : OkP size es) : Fn_parse_plan [.str (unln (lns size es))] = .ok (plan size es) := by
  have he' : ∀ e ∈ es, Ok1 e := fun e he => ok1 (h.en e he)
  have hl := txt_len (size := size) he' h.l8
  rw [parse_go (by omega)]
  have hr : rowsOf (unln (lns size es)) = rws size es := by
    unfold rowsOf
    rw [splL_unln _ (lns10 he'), List.dropLast_concat]
    unfold lns rws
    rw [List.map_cons, sp_lnP, List.map_map]
    congr 1
    exact List.map_congr_left fun e he => sp_lnE (he' e he)
  have s2 := h.s2
  have s6 := h.s6
  have ho : okR (rws size es) = true := by simp [okR, rws]
  have ht : (rws size es).tail.map entOf = es := by
    simp only [rws, List.tail_cons, List.map_map]
    have : (entOf ∘ fun e : Ent => [[101, 110, 116, 114, 121], e.1, e.2]) = id := by funext e; rfl
    rw [this, List.map_id]
  have hn : num (((rws size es).headD []).getD 1 []) = some size := by
    show num [48 + size] = _
    simp only [num]
    rw [if_pos ⟨by omega, by omega⟩]
    simp
  rw [hr, if_pos ho, ht, hn]
  have hp' : Fn_is_plan [planO (some size) es] = .ok (.bl true) := n_is_plan h
  have hj' : Fn_join_plan [planO (some size) es] = _ := n_join (size := size) (by omega) he' h.l8
  unfold q3_parse_plan
  simp [hp', hj', ne_str]
  rfl
end Pv.W52

namespace Pv.W52
open PySem.StrLaws
/-! ### what is refused -/
theorem refuse {t : List Nat} (ht : t.length ≤ 100000) (h : ∀ size es, (∀ e ∈ es, Ok1 e) → 1 ≤ es.length → unln (lns size es) ≠ t) : Fn_parse_plan [.str t] = .exc "ParseError" := by
  rcases parse_sound ht with ⟨size, es, _, _, _, l1, _, he, e⟩ | h'
  · exact absurd e (h size es he l1)
  · exact h'
theorem lns_ne {size : Nat} {es : List Ent} : ∀ l ∈ lns size es, l ≠ [] := by
  intro l hl
  unfold lns at hl
  rcases List.mem_cons.mp hl with e | hl
  · rw [e]; simp [lnP]
  · obtain ⟨e, he, rfl⟩ := List.mem_map.mp hl
    simp [lnE]
theorem lns_len {size : Nat} {es : List Ent} (h : ∀ e ∈ es, Ok1 e) {l : List Nat} (hl : l ∈ lns size es) (h1 : l.headD 0 = 101) : 9 ≤ l.length := by
  unfold lns at hl
  rcases List.mem_cons.mp hl with e | hl
  · rw [e] at h1; simp [lnP] at h1
  · obtain ⟨e, he, rfl⟩ := List.mem_map.mp hl
    exact (lnE_len (h e he)).2
theorem unln_end : ∀ {ls : List (List Nat)}, ls ≠ [] → ∃ z, unln ls = z ++ [10]
  | [], h => absurd rfl h
  | [l], _ => ⟨l, by simp [unln]⟩
  | l :: m :: ls, _ => by
    obtain ⟨z, e⟩ := unln_end (ls := m :: ls) (by simp)
    refine ⟨l ++ 10 :: z, ?_⟩
    have : unln (l :: m :: ls) = l ++ 10 :: unln (m :: ls) := by simp [unln]
    rw [this, e]
    simp
section
variable {size : Nat} {es : List Ent} (he : ∀ e ∈ es, Ok1 e)
include he
theorem all10 {x : List Nat} (hx : 10 ∉ x) : ∀ l ∈ lns size es ++ [x], 10 ∉ l := fun l hl => by
  rcases List.mem_append.mp hl with h | h
  · exact lns10 he l h
  · rw [List.mem_singleton.mp h]; exact hx
theorem no_more {x : List Nat} (hx : 10 ∉ x) (h : ∀ (s' : Nat) (es' : List Ent), (∀ e ∈ es', Ok1 e) → x ∉ lns s' es') (s' : Nat) (es' : List Ent) (h' : ∀ e ∈ es', Ok1 e) : unln (lns s' es') ≠ unln (lns size es) ++ (x ++ [10]) := fun e => by
  have e2 : unln (lns size es) ++ (x ++ [10]) = unln (lns size es ++ [x]) := by rw [unln_app]; simp [unln]
  rw [e2] at e
  have := unln_inj (lns10 h') (all10 he hx) e
  exact h s' es' h' (by rw [this]; simp)
theorem no_nl (s' : Nat) (es' : List Ent) (h' : ∀ e ∈ es', Ok1 e) : unln (lns s' es') ≠ unln (lns size es) ++ [10] := no_more (x := []) he (by simp) (fun s' es' _ z => lns_ne [] z rfl) s' es' h'
theorem no_cut (s' : Nat) (es' : List Ent) (h' : ∀ e ∈ es', Ok1 e) : unln (lns s' es') ≠ (unln (lns size es)).dropLast := fun e => by
  obtain ⟨z, ez⟩ := unln_end (ls := lns size es) (by simp [lns])
  rw [ez, List.dropLast_concat] at e
  have e2 : unln (lns size es) = unln (lns s' es' ++ [[]]) := by rw [ez, ← e, unln_app]; simp [unln]
  have := unln_inj (lns10 he) (all10 h' (by simp)) e2
  exact lns_ne (size := size) (es := es) [] (by rw [this]; simp) rfl
theorem no_two (s' : Nat) (es' : List Ent) (h' : ∀ e ∈ es', Ok1 e) : unln (lns s' es') ≠ unln (lns size es) ++ unln (lns size es) := fun e => by
  rw [← unln_app] at e
  have := unln_inj (lns10 h') (fun l hl => by
    rcases List.mem_append.mp hl with h | h <;> exact lns10 he l h) e
  have h2 : lnP size ∈ es'.map lnE := by
    have e3 : lns s' es' = lnP s' :: es'.map lnE := rfl
    have e4 : lns size es ++ lns size es = lnP size :: (es.map lnE ++ lnP size :: es.map lnE) := rfl
    rw [e3, e4] at this
    rw [(List.cons.inj this).2]
    simp
  obtain ⟨e, _, z⟩ := List.mem_map.mp h2
  simp [lnE, lnP] at z
theorem no_sp (s' : Nat) (es' : List Ent) : unln (lns s' es') ≠ 32 :: unln (lns size es) := fun e => by
  simp [unln, lns, lnP] at e
end
theorem no_emp (s' : Nat) (es' : List Ent) : unln (lns s' es') ≠ [] := fun e => by
  simp [unln, lns, lnP] at e
theorem no_bare (s' : Nat) (es' : List Ent) (h' : ∀ e ∈ es', Ok1 e) (h1 : 1 ≤ es'.length) : unln (lns s' es') ≠ [112, 108, 97, 110, 32, 50, 10] := fun e => by
  have e2 : [112, 108, 97, 110, 32, 50, 10] = unln [[112, 108, 97, 110, 32, 50]] := rfl
  rw [e2] at e
  have := unln_inj (lns10 h') (by simp) e
  have := congrArg List.length this
  simp [lns] at this
  rw [this] at h1
  simp at h1
theorem txt_head (size : Nat) (es : List Ent) : unln (lns size es) = 112 :: 108 :: 97 :: 110 :: 32 :: (48 + size) :: 10 :: unln (es.map lnE) := by
  simp [unln, lns, lnP]
theorem no_plans (size : Nat) (es : List Ent) (s' : Nat) (es' : List Ent) : unln (lns s' es') ≠ replL [112, 108, 97, 110] [112, 108, 97, 110, 115] (unln (lns size es)) := fun e => by
  rw [txt_head size es, replL_hit (by simp) (by simp), txt_head] at e
  simp at e
theorem no_zero (size : Nat) (es : List Ent) (s' : Nat) (es' : List Ent) : unln (lns s' es') ≠ replL [112, 108, 97, 110, 32] [112, 108, 97, 110, 32, 48] (unln (lns size es)) := fun e => by
  rw [txt_head size es, replL_hit (by simp) (by simp), txt_head] at e
  have e2 : List.drop (List.length [112, 108, 97, 110, 32]) (112 :: 108 :: 97 :: 110 :: 32 :: (48 + size) :: 10 :: unln (es.map lnE)) = (48 + size) :: 10 :: unln (es.map lnE) := rfl
  rw [e2] at e
  by_cases h : ((48 + size) :: 10 :: unln (es.map lnE)).take (List.length [112, 108, 97, 110, 32]) = [112, 108, 97, 110, 32]
  · simp at h
  · rw [replL_miss h] at e
    simp at e
    omega
theorem repl_len {y z : List Nat} (hy : y ≠ []) : ∀ (n : Nat) (l : List Nat), l.length ≤ n → (replL y z l).length ≤ l.length * (z.length + 1) := by
  intro n
  induction n with
  | zero =>
    intro l hl
    have : l = [] := List.eq_nil_of_length_eq_zero (by omega)
    subst this
    rw [replL_nil]; simp
  | succ n ih =>
    intro l hl
    cases l with
    | nil => rw [replL_nil]; simp
    | cons c r =>
      by_cases h : (c :: r).take y.length = y
      · rw [replL_hit hy h, List.length_append]
        have y1 : 1 ≤ y.length := by cases y with | nil => exact absurd rfl hy | cons _ _ => simp
        have hl2 : ((c :: r).drop y.length).length ≤ r.length := by simp; omega
        have i := ih _ (by simp at hl; omega : ((c :: r).drop y.length).length ≤ n)
        have m := Nat.mul_le_mul_right (z.length + 1) hl2
        rw [List.length_cons, Nat.add_mul]
        omega
      · rw [replL_miss h, List.length_cons, List.length_cons, Nat.add_mul]
        have i := ih r (by simpa using hl)
        omega
/-- what the law hands to parse_plan and sees refused -/
def badsL (T : List Nat) : List D := [.non, .int 7, .str [], .str T.dropLast, .str (T ++ [10]), .str (32 :: T), .str (replL [112, 108, 97, 110] [112, 108, 97, 110, 115] T)] ++ [.lst [.str T], .str (T ++ T)] ++
  [.str (T ++ [101, 110, 116, 114, 121, 32, 48, 10]), .str (T ++ [101, 110, 116, 114, 121, 32, 32, 97, 10]), .str (replL [112, 108, 97, 110, 32] [112, 108, 97, 110, 32, 48] T), .str [112, 108, 97, 110, 32, 50, 10]]
theorem bads_ok {size : Nat} {es : List Ent} (he : ∀ e ∈ es, Ok1 e) (h8 : es.length ≤ 8) : ∀ d ∈ badsL (unln (lns size es)), Fn_parse_plan [d] = .exc "ParseError" := by
  have hl := txt_len (size := size) he h8
  intro d hd
  simp only [badsL, List.mem_append, List.mem_cons, List.not_mem_nil, or_false] at hd
  rcases hd with ((h | h | h | h | h | h | h) | h | h) | h | h | h | h <;> subst h
  · exact parse_bad rfl
  · exact parse_bad rfl
  · exact refuse (by simp) fun s' es' h' l1 => no_emp s' es'
  · exact refuse (by simp; omega) fun s' es' h' l1 => no_cut he s' es' h'
  · exact refuse (by simp; omega) fun s' es' h' l1 => no_nl he s' es' h'
  · exact refuse (by simp; omega) fun s' es' h' l1 => no_sp he s' es'
  · refine refuse ?_ fun s' es' h' l1 => no_plans size es s' es'
    have := repl_len (y := [112, 108, 97, 110]) (z := [112, 108, 97, 110, 115]) (by simp) _ (unln (lns size es)) (Nat.le_refl _)
    simp at this
    omega
  · exact parse_bad rfl
  · exact refuse (by simp; omega) fun s' es' h' l1 => no_two he s' es' h'
  · exact refuse (by simp; omega) fun s' es' h' l1 => no_more he (x := [101, 110, 116, 114, 121, 32, 48]) (by simp) (fun s' es' h' z => by
      have := lns_len h' z rfl
      simp at this) s' es' h'
  · exact refuse (by simp; omega) fun s' es' h' l1 => no_more he (x := [101, 110, 116, 114, 121, 32, 32, 97]) (by simp) (fun s' es' h' z => by
      have := lns_len h' z rfl
      simp at this) s' es' h'
  · refine refuse ?_ fun s' es' h' l1 => no_zero size es s' es'
    have := repl_len (y := [112, 108, 97, 110, 32]) (z := [112, 108, 97, 110, 32, 48]) (by simp) _ (unln (lns size es)) (Nat.le_refl _)
    simp at this
    omega
  · exact refuse (by simp) fun s' es' h' l1 => no_bare s' es' h' l1
end Pv.W52

namespace Pv.W52
open PySem.StrLaws
@[simp] theorem v_rdL (cat : String → Option Bool) (ev : Xv) (env : En) : rdL cat ev env = (match ev env with
  | .ok d => .ok d
  | .exc c => if cat c = some true then .ok .non else .bad
  | .bad => .bad) := id rfl
theorem catR_ok : catR "ParseError" = some true := by decide
theorem ne_same {d : D} (h : plain d = true) (h2 : dep d ≤ 60) : neD d d = .ok (.bl false) := by
  unfold neD
  rw [if_pos ⟨h, h, by omega⟩, deq_refl d h]
  rfl
theorem eq_same {d : D} (h : plain d = true) (h2 : dep d ≤ 60) : eqD d d = .ok (.bl true) := by
  unfold eqD
  rw [if_pos ⟨h, h, by omega⟩, deq_refl d h]
theorem plain_plan (size : Nat) (es : List Ent) : plain (plan size es) = true ∧ dep (plan size es) ≤ 60 := by
  have h1 := plains_map ent plain_ent es
  have h2 := deps_map ent dep_ent es
  unfold plan
  refine ⟨by simp [plain, plains, h1], ?_⟩
  simp [dep, deps]
  omega
theorem isn_tup (ds : List D) : isnD (.tup ds) .non = .ok (.bl true) := rfl
theorem isn_non : isnD .non .non = .ok (.bl false) := rfl
theorem cut_preZ {α : Type} (xs : List α) (n : Nat) : cutD xs none (some (n : Int)) = xs.take n := cut_pre xs n
section
variable {size : Nat} {es : List Ent}
/-- a sign is exchanged -/
theorem b3_ok (T : List Nat) (hT : T.length ≤ 1000) (v : Nat) (g : List Nat) (hg : g.length ≤ 1) (e0 e1 e2 e4 e7 e8 e9 e10 : Option Sl) : ∃ e7' e8', b3_law [e0, e1, e2, some (.fz (.str T)), e4, some (.fz (.int (v : Int))), some (.fz (.str g)), e7, e8, e9, e10] = .nx [e0, e1, e2, some (.fz (.str T)), e4, some (.fz (.int (v : Int))), some (.fz (.str g)), e7', e8', e9, e10] := by
  have s1 : slD none (some (v : Int)) (.str T) = .ok (.str (T.take v)) := by
    show Res.ok (D.str (cutD _ _ _)) = _
    rw [cut_pre]
  have s2 : slD (some ((v : Int) + 1)) none (.str T) = .ok (.str (T.drop (v + 1))) := by
    show Res.ok (D.str (cutD _ _ _)) = _
    rw [show (some ((v : Int) + 1)) = some ((v + 1 : Nat) : Int) from by simp, cut_post]
  have l1 : (T.take v).length ≤ 1000 := by rw [List.length_take]; omega
  have l2 : (T.drop (v + 1)).length ≤ 1000 := by rw [List.length_drop]; omega
  have ho : (xOp addD (xOp addD (xSl (rdB 3) none (some (rdV 5))) (rdB 6)) (xSl (rdB 3) (some (xOp addD (rdB 5) (xC (.int 1)))) none)) [e0, e1, e2, some (.fz (.str T)), e4, some (.fz (.int (v : Int))), some (.fz (.str g)), e7, e8, e9, e10] = .ok (.str (T.take v ++ g ++ T.drop (v + 1))) := by
    simp only [v_xOp, v_xSl, v_rdB, v_rdV, v_gtS, v_gt0, v_ok, v_oIn, v_oIs, v_asI, s1, v_cok, v_addS, v_xC, v_addI, s2, v_LIM]
    rw [if_pos (by omega)]
    simp only [v_cok, v_ok, v_addS, List.length_append, v_LIM]
    rw [if_pos (by omega)]
    rfl
  have hoff : (T.take v ++ g ++ T.drop (v + 1)).length ≤ 100000 := by
    rw [List.length_append, List.length_append]; omega
  generalize T.take v ++ g ++ T.drop (v + 1) = off at ho hoff
  unfold b3_law
  rw [seq_nx (asg_nm ho)]
  simp only [v_ptS, v_pt0]
  rcases parse_sound hoff with ⟨s', es', hp, h9, hi, l1', l8', he', et⟩ | hp
  · refine ⟨some (.fz (.str off)), some (.fz (plan s' es')), ?_⟩
    rw [seq_nx (asg_nm (d := plan s' es') (by simp only [v_rdL, v_xCall, v_aCons, v_aNil, v_rdV, v_gtS, v_gt0, v_ok, hp]))]
    simp only [v_ptS, v_pt0]
    unfold q2_law
    refine if_skip ?_
    have ht := n_text h9 he' l8'
    rw [et] at ht
    have hn : isnD (plan s' es') .non = .ok (.bl true) := rfl
    simp [hn, hi, ht, ne_str]
  · refine ⟨some (.fz (.str off)), some (.fz .non), ?_⟩
    rw [seq_nx (asg_nm (d := .non) (by simp only [v_rdL, v_xCall, v_aCons, v_aNil, v_rdV, v_gtS, v_gt0, v_ok, hp, catR_ok, if_true]))]
    simp only [v_ptS, v_pt0]
    unfold q2_law
    refine if_skip ?_
    simp [isn_non]
theorem b5_ok (ns : List Int) (hl : ns.length < 1000) (i k : Nat) (T : List Nat) (hT : T.length ≤ 1000) (hT0 : 0 < T.length) (e2 e5 e6 e7 e8 e9 e10 : Option Sl) : ∃ e5' e6' e7' e8', b5_law [some (.fz (scr ns)), some (.fz (.int (i : Int))), e2, some (.fz (.str T)), some (.fz (.int (k : Int))), e5, e6, e7, e8, e9, e10] = .nx [some (.fz (scr ns)), some (.fz (.int (i : Int))), e2, some (.fz (.str T)), some (.fz (.int (k : Int))), e5', e6', e7', e8', e9, e10] := by
  obtain ⟨d1, d2, d3⟩ := dr_ok (ns := ns) (k := 70 * (i : Int) + 60 + k) (m := (T.length : Int)) (by omega) (by omega) hl
  obtain ⟨v, hv⟩ : ∃ v : Nat, dr ns (70 * (i : Int) + 60 + k) (T.length : Int) = (v : Int) := ⟨(dr ns (70 * (i : Int) + 60 + k) (T.length : Int)).toNat, by omega⟩
  rw [hv] at d1
  have hm : mulD (.int 70) (.int (i : Int)) = .ok (.int (70 * (i : Int))) := by
    simp only [mulD]
    rw [if_pos (.inl (by decide))]
  unfold b5_law
  rw [seq_nx (asg_nm (d := .int (v : Int)) (by simp only [v_xCall, v_aCons, v_aNil, v_rdV, v_rdB, v_xOp, v_xC, v_xU, v_gtS, v_gt0, v_ok, hm, v_cok, v_addI, lenD, d1]))]
  simp only [v_ptS, v_pt0]
  have l := forD_inv (T := .nm 6) (b := b3_law) D.str (fun env => ∃ e6' e7' e8', env = [some (.fz (scr ns)), some (.fz (.int (i : Int))), e2, some (.fz (.str T)), some (.fz (.int (k : Int))), some (.fz (.int (v : Int))), e6', e7', e8', e9, e10]) [[48], [49], [32], [10], [], [120], [97], [55]]
    [some (.fz (scr ns)), some (.fz (.int (i : Int))), e2, some (.fz (.str T)), some (.fz (.int (k : Int))), some (.fz (.int (v : Int))), e6, e7, e8, e9, e10] ⟨_, _, _, rfl⟩ (by
      rintro g hg env ⟨e6', e7', e8', rfl⟩
      have hg1 : g.length ≤ 1 := by
        simp only [List.mem_cons, List.not_mem_nil, or_false] at hg
        rcases hg with h | h | h | h | h | h | h | h <;> rw [h] <;> simp
      obtain ⟨e7'', e8'', h⟩ := b3_ok T hT v g hg1 (some (.fz (scr ns))) (some (.fz (.int (i : Int)))) e2 (some (.fz (.int (k : Int)))) e7' e8' e9 e10
      exact ⟨_, rfl, _, h, _, _, _, rfl⟩)
  obtain ⟨env', h1, e6', e7', e8', rfl⟩ := l
  refine ⟨some (.fz (.int (v : Int))), e6', e7', e8', ?_⟩
  rw [← h1]
  unfold q4_law
  rw [v_sFor]
  simp [zpD]
theorem q6_ok (ns : List Int) (hl : ns.length < 1000) (i : Nat) (T : List Nat) (hT : T.length ≤ 1000) (hT0 : 0 < T.length) (e2 e4 e5 e6 e7 e8 e9 e10 : Option Sl) : ∃ e4' e5' e6' e7' e8', q6_law [some (.fz (scr ns)), some (.fz (.int (i : Int))), e2, some (.fz (.str T)), e4, e5, e6, e7, e8, e9, e10] = .nx [some (.fz (scr ns)), some (.fz (.int (i : Int))), e2, some (.fz (.str T)), e4', e5', e6', e7', e8', e9, e10] := by
  have l := forD_inv (T := .nm 4) (b := b5_law) (fun k : Nat => D.int (k : Int)) (fun env => ∃ e4' e5' e6' e7' e8', env = [some (.fz (scr ns)), some (.fz (.int (i : Int))), e2, some (.fz (.str T)), e4', e5', e6', e7', e8', e9, e10]) (List.range 3)
    [some (.fz (scr ns)), some (.fz (.int (i : Int))), e2, some (.fz (.str T)), e4, e5, e6, e7, e8, e9, e10] ⟨_, _, _, _, _, rfl⟩ (by
      rintro k hk env ⟨e4', e5', e6', e7', e8', rfl⟩
      obtain ⟨e5'', e6'', e7'', e8'', h⟩ := b5_ok ns hl i k T hT hT0 e2 e5' e6' e7' e8' e9 e10
      exact ⟨_, rfl, _, h, _, _, _, _, _, rfl⟩)
  obtain ⟨env', h1, e4', e5', e6', e7', e8', rfl⟩ := l
  refine ⟨e4', e5', e6', e7', e8', ?_⟩
  rw [← h1]
  unfold q6_law
  have hr : rng1 (.int 3) = .ok ((List.range 3).map fun (i : Nat) => D.int (i : Int)) := rng1_ok (n := 3) (by decide)
  rw [v_sFor, v_iR1, v_xC, v_ok, hr]
  rfl
theorem q9_ok (bs : List D) (h : ∀ d ∈ bs, Fn_parse_plan [d] = .exc "ParseError") (e0 e1 e2 e3 e4 e5 e6 e7 e8 e10 : Option Sl) : ∃ e10', q9_law [e0, e1, e2, e3, e4, e5, e6, e7, e8, some (.fz (.lst bs)), e10] = .nx [e0, e1, e2, e3, e4, e5, e6, e7, e8, some (.fz (.lst bs)), e10'] := by
  have l := forD_inv (T := .nm 10) (b := b8_law) (fun d : D => d) (fun env => ∃ e10', env = [e0, e1, e2, e3, e4, e5, e6, e7, e8, some (.fz (.lst bs)), e10']) bs
    [e0, e1, e2, e3, e4, e5, e6, e7, e8, some (.fz (.lst bs)), e10] ⟨_, rfl⟩ (by
      rintro d hd env ⟨e10', rfl⟩
      refine ⟨_, rfl, [e0, e1, e2, e3, e4, e5, e6, e7, e8, some (.fz (.lst bs)), some (.fz d)], ?_, _, rfl⟩
      unfold b8_law q7_law
      refine if_skip ?_
      have hp := h d hd
      simp only [v_ptS, v_pt0, v_tVal, v_xOp, v_rdL, v_xCall, v_aCons, v_aNil, v_rdV, v_gtS, v_gt0, v_ok, hp, catR_ok, if_true, v_xC, isn_non, v_cok, v_asB])
  obtain ⟨env', h1, e10', rfl⟩ := l
  refine ⟨e10', ?_⟩
  rw [List.map_id'] at h1
  rw [← h1]
  unfold q9_law
  rw [v_sFor, v_iSeq, v_rdV]
  simp [zpD]
end
end Pv.W52

namespace Pv.W52
open PySem.StrLaws
theorem n_format {size : Nat} {es : List Ent} (h : OkP size es) : Fn_format_plan [plan size es] = .ok (.str (unln (lns size es))) := by
  have e0 : Fn_format_plan [plan size es] = outOf (sv_format_plan [some (.fz (plan size es))]) := rfl
  rw [e0]
  unfold sv_format_plan
  have hj := n_join (size := size) (es := es) (by have := h.s6; omega) (fun e he => ok1 (h.en e he)) h.l8
  simp [n_check_plan h, hj]
theorem sl_last (T : List Nat) : slD none (some (-1)) (.str T) = .ok (.str T.dropLast) := by
  show Res.ok (D.str (cutD _ _ _)) = _
  rw [cut_last]
theorem rep_ok (y z T : List Nat) (hT : T.length ≤ 1000) (hz : z.length ≤ 10) : repD y z (.str T) = .ok (.str (replL y z T)) := by
  show (if T.length + (T.length + 1) * z.length ≤ LIM then Res.ok (D.str (replL y z T)) else Res.bad) = _
  rw [if_pos]
  have : (T.length + 1) * z.length ≤ 1001 * 10 := Nat.mul_le_mul (by omega) hz
  simp
  omega
theorem b10_ok (ns : List Int) (hl : ns.length < 1000) (i : Nat) (e2 e3 e4 e5 e6 e7 e8 e9 e10 : Option Sl) : ∃ e2' e3' e4' e5' e6' e7' e8' e9' e10', b10_law [some (.fz (scr ns)), some (.fz (.int (i : Int))), e2, e3, e4, e5, e6, e7, e8, e9, e10] = .nx [some (.fz (scr ns)), some (.fz (.int (i : Int))), e2', e3', e4', e5', e6', e7', e8', e9', e10'] := by
  obtain ⟨size, es0, n, hp, G, n1, n6, s2, s3⟩ := n_plan ns (70 * (i : Int)) (by omega) hl
  obtain ⟨g1, g2, g3, g4, g5⟩ := gp_facts n1 n6 G
  have O := mk_okp s2 s3 g1 g2 g3 g4 g5
  generalize srt2 es0 = es at hp O
  have hp' : Fn__law_plan [scr ns, .int (70 * (i : Int))] = .ok (plan size es) := hp
  have he : ∀ e ∈ es, Ok1 e := fun e h => ok1 (O.en e h)
  have ht := n_text (size := size) (by omega) he O.l8
  have hlen := txt_len (size := size) he O.l8
  have hback := parse_back O
  have hform := n_format O
  have hbad := bads_ok (size := size) he O.l8
  have h0 : 0 < (unln (lns size es)).length := by rw [txt_head]; simp
  generalize unln (lns size es) = T at ht hlen hback hform hbad h0
  have hm : mulD (.int 70) (.int (i : Int)) = .ok (.int (70 * (i : Int))) := by
    simp only [mulD]
    rw [if_pos (.inl (by decide))]
  unfold b10_law
  rw [seq_nx (asg_nm (d := plan size es) (by simp only [v_xCall, v_aCons, v_aNil, v_rdV, v_rdB, v_xOp, v_xC, v_gtS, v_gt0, v_ok, hm, v_cok, hp']))]
  simp only [v_ptS, v_pt0]
  rw [seq_nx (asg_nm (d := .str T) (by simp only [v_xCall, v_aCons, v_aNil, v_rdV, v_gtS, v_gt0, v_ok, ht]))]
  simp only [v_ptS, v_pt0]
  obtain ⟨p1, p2⟩ := plain_plan size es
  rw [seq_nx (env' := [some (.fz (scr ns)), some (.fz (.int (i : Int))), some (.fz (plan size es)), some (.fz (.str T)), e4, e5, e6, e7, e8, e9, e10]) (by
    unfold q1_law
    refine if_skip ?_
    simp only [v_tOr, v_tVal, v_xOp, v_xCall, v_aCons, v_aNil, v_rdV, v_rdB, v_gtS, v_gt0, v_ok, hform, ne_str, beq_self_eq_true, Bool.not_true, v_cok, v_asB, Bool.false_eq_true, if_false, v_rdL, hback, ne_same p1 p2])]
  obtain ⟨e4', e5', e6', e7', e8', h6⟩ := q6_ok ns hl i T (by omega) h0 (some (.fz (plan size es))) e4 e5 e6 e7 e8 e9 e10
  rw [seq_nx h6]
  have r1 := rep_ok [112, 108, 97, 110] [112, 108, 97, 110, 115] T (by omega) (by simp)
  have r2 := rep_ok [112, 108, 97, 110, 32] [112, 108, 97, 110, 32, 48] T (by omega) (by simp)
  have i1 : T.length + 1 ≤ 16777216 := by omega
  have i2 : 1 + T.length ≤ 16777216 := by omega
  have i3 : T.length + T.length ≤ 16777216 := by omega
  have i4 : T.length + 8 ≤ 16777216 := by omega
  have i5 : T.length + 9 ≤ 16777216 := by omega
  rw [seq_nx (env' := [some (.fz (scr ns)), some (.fz (.int (i : Int))), some (.fz (plan size es)), some (.fz (.str T)), e4', e5', e6', e7', e8', some (.ow (.lst [.non, .int 7, .str [], .str T.dropLast, .str (T ++ [10]), .str (32 :: T), .str (replL [112, 108, 97, 110] [112, 108, 97, 110, 115] T)])), e10]) (by
    simp [sl_last, r1, i1, i2])]
  rw [seq_nx (env' := [some (.fz (scr ns)), some (.fz (.int (i : Int))), some (.fz (plan size es)), some (.fz (.str T)), e4', e5', e6', e7', e8', some (.ow (.lst ([.non, .int 7, .str [], .str T.dropLast, .str (T ++ [10]), .str (32 :: T), .str (replL [112, 108, 97, 110] [112, 108, 97, 110, 115] T)] ++ [.lst [.str T], .str (T ++ T)]))), e10]) (by
    simp [i3, exD])]
  rw [seq_nx (env' := [some (.fz (scr ns)), some (.fz (.int (i : Int))), some (.fz (plan size es)), some (.fz (.str T)), e4', e5', e6', e7', e8', some (.ow (.lst (badsL T))), e10]) (by
    simp [r2, i4, i5, exD, badsL])]
  obtain ⟨e10', h9⟩ := q9_ok (badsL T) hbad (some (.fz (scr ns))) (some (.fz (.int (i : Int)))) (some (.fz (plan size es))) (some (.fz (.str T))) e4' e5' e6' e7' e8' e10
  refine ⟨some (.fz (plan size es)), some (.fz (.str T)), e4', e5', e6', e7', e8', some (.fz (.lst (badsL T))), e10', ?_⟩
  rw [v_sFrz]
  simp only [v_frz, v_gtS, v_gt0, v_ptS, v_pt0]
  exact h9
theorem okp2 : OkP 2 [([48], [97]), ([49, 120], [98])] := by
  refine ⟨by decide, by decide, by decide, by decide, by decide, ?_, by decide, by decide⟩
  intro p hp
  simp at hp
  subst hp
  rw [dlt_ent]
  decide
theorem math (ns : List Int) (hl : ns.length ≤ 63) : Fn_law [.lst (ns.map D.int)] = .ok (.bl true) := by
  have e0 : Fn_law [scr ns] = outOf (sv_law [some (.fz (scr ns)), none, none, none, none, none, none, none, none, none, none]) := rfl
  show Fn_law [scr ns] = _
  rw [e0]
  obtain ⟨env', h1, e1, e2, e3, e4, e5, e6, e7, e8, e9, e10, rfl⟩ := forD_inv (T := .nm 1) (b := b10_law) (fun k : Nat => D.int (k : Int)) (fun env => ∃ e1 e2 e3 e4 e5 e6 e7 e8 e9 e10, env = [some (.fz (scr ns)), e1, e2, e3, e4, e5, e6, e7, e8, e9, e10]) (List.range 6)
    [some (.fz (scr ns)), none, none, none, none, none, none, none, none, none, none] ⟨_, _, _, _, _, _, _, _, _, _, rfl⟩ (by
      rintro i hi env ⟨e1, e2, e3, e4, e5, e6, e7, e8, e9, e10, rfl⟩
      obtain ⟨e2', e3', e4', e5', e6', e7', e8', e9', e10', h⟩ := b10_ok ns (by omega) i e2 e3 e4 e5 e6 e7 e8 e9 e10
      exact ⟨_, rfl, _, h, _, _, _, _, _, _, _, _, _, _, rfl⟩)
  unfold sv_law
  have hr : rng1 (.int 6) = .ok ((List.range 6).map fun (i : Nat) => D.int (i : Int)) := rng1_ok (n := 6) (by decide)
  rw [seq_nx (env' := [some (.fz (scr ns)), e1, e2, e3, e4, e5, e6, e7, e8, e9, e10]) (by
    unfold q11_law
    rw [v_sFor, v_iR1, v_xC, v_ok, hr]
    exact h1)]
  have hf := n_format okp2
  have hb := parse_back okp2
  obtain ⟨p1, p2⟩ := plain_plan 2 [([48], [97]), ([49, 120], [98])]
  have hq := eq_same p1 p2
  have ht : unln (lns 2 [([48], [97]), ([49, 120], [98])]) = [112, 108, 97, 110, 32, 50, 10, 101, 110, 116, 114, 121, 32, 48, 32, 97, 10, 101, 110, 116, 114, 121, 32, 49, 120, 32, 98, 10] := by decide
  rw [ht] at hf hb
  rw [seq_nx (asg_nm (d := plan 2 [([48], [97]), ([49, 120], [98])]) (by simp [plan, ent]))]
  simp only [v_ptS, v_pt0]
  rw [v_sRet, v_xAnd, v_xOp, v_xCall, v_aCons, v_aNil, v_rdV]
  simp only [v_gtS, v_gt0, v_ok, hf, v_xC, eq_str, beq_self_eq_true, v_cok, v_asB, if_true]
  rw [v_xOp, v_xCall, v_aCons, v_aNil, v_xCall, v_aCons, v_aNil, v_rdV, v_rdB]
  simp only [v_gtS, v_gt0, v_ok, hf, hb, hq, v_cok, v_fok, v_outr]
end Pv.W52

namespace Pv
open Classical
/-! ### different tuples of ints and texts, and their order -/
theorem msN_congr {α : Type} {le le' : α → α → Bool} : ∀ (l : List α), (∀ a ∈ l, ∀ b ∈ l, le a b = le' a b) → l.mergeSort le = l.mergeSort le' := by
  intro l h
  have mg : ∀ (xs ys : List α), (∀ a ∈ xs, ∀ b ∈ ys, le a b = le' a b) → List.merge xs ys le = List.merge xs ys le' := by
    intro xs
    induction xs with
    | nil => intro ys _; simp
    | cons x xs ih =>
      intro ys
      induction ys with
      | nil => intro _; simp
      | cons y ys ih2 =>
        intro h
        rw [List.cons_merge_cons, List.cons_merge_cons, h x List.mem_cons_self y List.mem_cons_self]
        split
        · rw [ih (y :: ys) fun a ha b hb => h a (List.mem_cons_of_mem _ ha) b hb]
        · rw [ih2 fun a ha b hb => h a ha b (List.mem_cons_of_mem _ hb)]
  have key : ∀ (n : Nat) (l : List α), l.length ≤ n → (∀ a ∈ l, ∀ b ∈ l, le a b = le' a b) → l.mergeSort le = l.mergeSort le' := by
    intro n
    induction n with
    | zero =>
      intro l hl _
      have : l = [] := List.eq_nil_of_length_eq_zero (by omega)
      subst this
      simp
    | succ n ih =>
      intro l hl h
      match l, hl, h with
      | [], _, _ => simp
      | [a], _, _ => simp
      | a :: b :: xs, hl, h =>
        rw [List.mergeSort, List.mergeSort]
        have hs : ∀ {z : α}, z ∈ (List.MergeSort.Internal.splitInTwo ⟨a :: b :: xs, rfl⟩).1.1 → z ∈ a :: b :: xs := fun {z} hz => by
          rw [List.MergeSort.Internal.splitInTwo_fst] at hz
          exact List.mem_of_mem_take hz
        have hs2 : ∀ {z : α}, z ∈ (List.MergeSort.Internal.splitInTwo ⟨a :: b :: xs, rfl⟩).2.1 → z ∈ a :: b :: xs := fun {z} hz => by
          rw [List.MergeSort.Internal.splitInTwo_snd] at hz
          exact List.mem_of_mem_drop hz
        have l1 : (List.MergeSort.Internal.splitInTwo ⟨a :: b :: xs, rfl⟩).1.1.length ≤ n := by
          rw [List.MergeSort.Internal.splitInTwo_fst]
          simp only [List.length_take, List.length_cons] at hl ⊢
          omega
        have l2 : (List.MergeSort.Internal.splitInTwo ⟨a :: b :: xs, rfl⟩).2.1.length ≤ n := by
          rw [List.MergeSort.Internal.splitInTwo_snd]
          simp only [List.length_drop, List.length_cons] at hl ⊢
          omega
        show List.merge _ _ _ = List.merge _ _ _
        rw [ih _ l1 fun x hx y hy => h x (hs hx) y (hs hy), ih _ l2 fun x hx y hy => h x (hs2 hx) y (hs2 hy)]
        refine mg _ _ fun x hx y hy => h x (hs ?_) y (hs2 ?_)
        · exact (List.mergeSort_perm _ _).mem_iff.mp hx
        · exact (List.mergeSort_perm _ _).mem_iff.mp hy
  exact key l.length l (Nat.le_refl _) h
theorem alkN_mem {ds : List D} (h : alkAll ds = true) {a b : D} (ha : a ∈ ds) (hb : b ∈ ds) : alk a b = true := by
  unfold alkAll at h
  rw [List.all_eq_true] at h
  have := h a ha
  rw [List.all_eq_true] at this
  exact this b hb
theorem at_eq {a b : D} (ha : isAt a = true) (hb : isAt b = true) : deq a b = decide (a = b) := by
  rw [Bool.eq_iff_iff, decide_eq_true_eq]
  cases a <;> simp [isAt] at ha <;> cases b <;> simp [isAt] at hb <;> simp [deq]
theorem ats_eq : ∀ {as bs : List D}, as.all isAt = true → bs.all isAt = true → deqs as bs = decide (as = bs)
  | [], [], _, _ => by simp [deqs]
  | [], _ :: _, _, _ => by simp [deqs]
  | _ :: _, [], _, _ => by simp [deqs]
  | a :: as, b :: bs, ha, hb => by
    rw [List.all_cons, Bool.and_eq_true] at ha hb
    rw [deqs, at_eq ha.1 hb.1, ats_eq ha.2 hb.2]
    by_cases h : a = b <;> simp [h]
theorem tA_eq {a b : D} (ha : tupA a = true) (hb : tupA b = true) : deq a b = decide (a = b) := by
  cases a with
  | tup as =>
    cases b with
    | tup bs =>
      cases as with
      | nil => simp [tupA] at ha
      | cons x xs =>
        cases bs with
        | nil => simp [tupA] at hb
        | cons y ys =>
          rw [deq, ats_eq ha hb]
          simp
    | _ => simp [tupA] at hb
  | _ => simp [tupA] at ha
theorem distD_mem {xs : List D} : ∀ {acc : List D}, (∀ d ∈ xs, tupA d = true) → (∀ d ∈ acc, tupA d = true) → ∀ y, y ∈ distD acc xs ↔ y ∈ acc ∨ y ∈ xs := by
  induction xs with
  | nil => intro acc _ _ y; simp [distD]
  | cons x xs ih =>
    intro acc hx ha y
    have hx1 := hx x List.mem_cons_self
    have hany : (acc.any fun y => deq y x) = decide (x ∈ acc) := by
      rw [Bool.eq_iff_iff, List.any_eq_true, decide_eq_true_eq]
      constructor
      · rintro ⟨z, hz, e⟩
        rw [tA_eq (ha z hz) hx1, decide_eq_true_eq] at e
        exact e ▸ hz
      · intro h
        exact ⟨x, h, by rw [tA_eq hx1 hx1]; simp⟩
    rw [distD, hany, ih (fun d hd => hx d (List.mem_cons_of_mem _ hd))]
    · by_cases h : x ∈ acc
      · simp only [h, decide_true, if_true, List.mem_cons]
        constructor
        · rintro (q | q)
          · exact .inl q
          · exact .inr (.inr q)
        · rintro (q | rfl | q)
          · exact .inl q
          · exact .inl h
          · exact .inr q
      · simp only [h, decide_false, Bool.false_eq_true, if_false, List.mem_cons]
        constructor
        · rintro ((q | q) | q)
          · exact .inr (.inl q)
          · exact .inl q
          · exact .inr (.inr q)
        · rintro (q | q | q)
          · exact .inl (.inr q)
          · exact .inl (.inl q)
          · exact .inr q
    · intro d hd
      split at hd
      · exact ha d hd
      · rcases List.mem_cons.mp hd with rfl | hd
        · exact hx1
        · exact ha d hd
theorem distD_nodup {xs : List D} : ∀ {acc : List D}, (∀ d ∈ xs, tupA d = true) → (∀ d ∈ acc, tupA d = true) → acc.Nodup → (distD acc xs).Nodup := by
  induction xs with
  | nil => intro acc _ _ h; exact h
  | cons x xs ih =>
    intro acc hx ha nd
    have hx1 := hx x List.mem_cons_self
    rw [distD]
    refine ih (fun d hd => hx d (List.mem_cons_of_mem _ hd)) (fun d hd => ?_) ?_
    · split at hd
      · exact ha d hd
      · rcases List.mem_cons.mp hd with rfl | hd
        · exact hx1
        · exact ha d hd
    · split
      · exact nd
      · rename_i h
        refine List.nodup_cons.mpr ⟨fun hm => h ?_, nd⟩
        rw [List.any_eq_true]
        exact ⟨x, hm, by rw [tA_eq hx1 hx1]; simp⟩
theorem distD_len : ∀ (xs acc : List D), (distD acc xs).length ≤ acc.length + xs.length
  | [], acc => Nat.le_refl _
  | x :: xs, acc => by
    have := distD_len xs (if acc.any (fun y => deq y x) = true then acc else x :: acc)
    rw [distD]
    refine Nat.le_trans this ?_
    split <;> simp <;> omega
theorem permD : ∀ (ls ys : List D), ls.Nodup → (∀ x ∈ ls, x ∈ ys) → ys.length ≤ ls.length → ys.Perm ls
  | [], ys, _, _, hl => by
    have : ys = [] := List.eq_nil_of_length_eq_zero (by simpa using hl)
    subst this
    exact .refl _
  | x :: ls, ys, nd, hs, hl => by
    rw [List.nodup_cons] at nd
    obtain ⟨as, bs, rfl⟩ := List.append_of_mem (hs x List.mem_cons_self)
    have ih := permD ls (as ++ bs) nd.2 (fun y hy => by
      have ne : y ≠ x := fun e => nd.1 (e ▸ hy)
      have := hs y (List.mem_cons_of_mem _ hy)
      simp only [List.mem_append, List.mem_cons] at this ⊢
      rcases this with q | q | q
      · exact .inl q
      · exact absurd q ne
      · exact .inr q) (by simp only [List.length_append, List.length_cons] at hl ⊢; omega)
    exact List.perm_middle.trans (ih.cons x)
/-! ### the order of such tuples -/
theorem at_tri {a b : D} (h : alk a b = true) (ha : isAt a = true) (hb : isAt b = true) : dlt a b = true ∨ a = b ∨ dlt b a = true := by
  cases a <;> simp [isAt] at ha <;> cases b <;> simp [isAt] at hb <;> simp [alk] at h
  · rename_i i j
    simp only [dlt, decide_eq_true_eq, D.int.injEq]
    omega
  · rename_i x y
    simp only [dlt, decide_eq_true_eq, D.str.injEq]
    by_cases q : x < y
    · exact .inl q
    · by_cases z : y < x
      · exact .inr (.inr z)
      · exact .inr (.inl (List.le_antisymm (List.not_lt.mp z) (List.not_lt.mp q)))
theorem at_asym {a b : D} (h : dlt a b = true) (ha : isAt a = true) (hb : isAt b = true) : dlt b a = false := by
  cases a <;> simp [isAt] at ha <;> cases b <;> simp [isAt] at hb <;> simp [dlt] at h ⊢
  · omega
  · exact List.le_of_lt h
theorem at_trans {a b c : D} (h : dlt a b = true) (k : dlt b c = true) (ha : isAt a = true) (hb : isAt b = true) (hc : isAt c = true) : dlt a c = true := by
  cases a <;> simp [isAt] at ha <;> cases b <;> simp [isAt] at hb <;> cases c <;> simp [isAt] at hc <;> simp [dlt] at h k ⊢
  · omega
  · exact List.lt_trans h k
theorem ats_tri : ∀ {as bs : List D}, alks as bs = true → as.all isAt = true → bs.all isAt = true → dlts as bs = true ∨ as = bs ∨ dlts bs as = true
  | [], [], _, _, _ => .inr (.inl rfl)
  | [], _ :: _, _, _, _ => .inl (by simp [dlts])
  | _ :: _, [], _, _, _ => .inr (.inr (by simp [dlts]))
  | a :: as, b :: bs, h, ha, hb => by
    rw [List.all_cons, Bool.and_eq_true] at ha hb
    rw [alks, Bool.and_eq_true] at h
    rw [dlts, dlts, at_eq ha.1 hb.1, at_eq hb.1 ha.1]
    rcases at_tri h.1 ha.1 hb.1 with q | q | q
    · by_cases e : a = b
      · subst e
        rcases ats_tri h.2 ha.2 hb.2 with z | z | z
        · exact .inl (by simpa using z)
        · exact .inr (.inl (by rw [z]))
        · exact .inr (.inr (by simpa using z))
      · exact .inl (by simpa [e] using q)
    · subst q
      rcases ats_tri h.2 ha.2 hb.2 with z | z | z
      · exact .inl (by simpa using z)
      · exact .inr (.inl (by rw [z]))
      · exact .inr (.inr (by simpa using z))
    · by_cases e : b = a
      · subst e
        rcases ats_tri h.2 ha.2 hb.2 with z | z | z
        · exact .inl (by simpa using z)
        · exact .inr (.inl (by rw [z]))
        · exact .inr (.inr (by simpa using z))
      · exact .inr (.inr (by simpa [e] using q))
theorem ats_asym : ∀ {as bs : List D}, dlts as bs = true → as.all isAt = true → bs.all isAt = true → dlts bs as = false
  | [], [], h, _, _ => by simp [dlts] at h
  | [], _ :: _, _, _, _ => by simp [dlts]
  | _ :: _, [], h, _, _ => by simp [dlts] at h
  | a :: as, b :: bs, h, ha, hb => by
    rw [List.all_cons, Bool.and_eq_true] at ha hb
    rw [dlts, at_eq ha.1 hb.1] at h
    rw [dlts, at_eq hb.1 ha.1]
    by_cases e : a = b
    · subst e
      simp only [decide_true, if_true] at h ⊢
      exact ats_asym h ha.2 hb.2
    · have e2 : ¬ b = a := fun q => e q.symm
      simp only [e, e2, decide_false, Bool.false_eq_true, if_false] at h ⊢
      exact at_asym h ha.1 hb.1
theorem ats_trans : ∀ {as bs cs : List D}, dlts as bs = true → dlts bs cs = true → as.all isAt = true → bs.all isAt = true → cs.all isAt = true → dlts as cs = true
  | [], [], _, h, _, _, _, _ => by simp [dlts] at h
  | _, _ :: _, [], _, k, _, _, _ => by simp [dlts] at k
  | [], _ :: _, _ :: _, _, _, _, _, _ => by simp [dlts]
  | _ :: _, [], _, h, _, _, _, _ => by simp [dlts] at h
  | a :: as, b :: bs, c :: cs, h, k, ha, hb, hc => by
    rw [List.all_cons, Bool.and_eq_true] at ha hb hc
    rw [dlts, at_eq ha.1 hb.1] at h
    rw [dlts, at_eq hb.1 hc.1] at k
    rw [dlts, at_eq ha.1 hc.1]
    by_cases e : a = b
    · subst e
      simp only [decide_true, if_true] at h
      by_cases e2 : a = c
      · subst e2
        simp only [decide_true, if_true] at k ⊢
        exact ats_trans h k ha.2 hb.2 hc.2
      · simp only [e2, decide_false, Bool.false_eq_true, if_false] at k ⊢
        exact k
    · simp only [e, decide_false, Bool.false_eq_true, if_false] at h
      by_cases e2 : b = c
      · subst e2
        simp only [e, decide_false, Bool.false_eq_true, if_false]
        exact h
      · simp only [e2, decide_false, Bool.false_eq_true, if_false] at k
        have q := at_trans h k ha.1 hb.1 hc.1
        have e3 : ¬ a = c := fun z => by
          subst z
          have := at_asym h ha.1 hb.1
          rw [k] at this; cases this
        simp only [e3, decide_false, Bool.false_eq_true, if_false]
        exact q
theorem tA_tri {a b : D} (h : alk a b = true) (ha : tupA a = true) (hb : tupA b = true) : dlt a b = true ∨ a = b ∨ dlt b a = true := by
  cases a with
  | tup as =>
    cases b with
    | tup bs =>
      cases as with
      | nil => simp [tupA] at ha
      | cons x xs =>
        cases bs with
        | nil => simp [tupA] at hb
        | cons y ys =>
          rw [alk] at h
          rw [dlt, dlt]
          rcases ats_tri h ha hb with q | q | q
          · exact .inl q
          · exact .inr (.inl (by rw [q]))
          · exact .inr (.inr q)
    | _ => simp [tupA] at hb
  | _ => simp [tupA] at ha
theorem tA_asym {a b : D} (h : dlt a b = true) (ha : tupA a = true) (hb : tupA b = true) : dlt b a = false := by
  cases a with
  | tup as =>
    cases b with
    | tup bs =>
      cases as with
      | nil => simp [tupA] at ha
      | cons x xs =>
        cases bs with
        | nil => simp [tupA] at hb
        | cons y ys => rw [dlt] at h ⊢; exact ats_asym h ha hb
    | _ => simp [tupA] at hb
  | _ => simp [tupA] at ha
theorem tA_trans {a b c : D} (h : dlt a b = true) (k : dlt b c = true) (ha : tupA a = true) (hb : tupA b = true) (hc : tupA c = true) : dlt a c = true := by
  cases a with
  | tup as =>
    cases b with
    | tup bs =>
      cases c with
      | tup cs =>
        cases as with
        | nil => simp [tupA] at ha
        | cons x xs =>
          cases bs with
          | nil => simp [tupA] at hb
          | cons y ys =>
            cases cs with
            | nil => simp [tupA] at hc
            | cons z zs => rw [dlt] at h k ⊢; exact ats_trans h k ha hb hc
      | _ => simp [tupA] at hc
    | _ => simp [tupA] at hb
  | _ => simp [tupA] at ha
/-- the sorted list of different ones, whatever order they come in -/
theorem srtT_unique {ls ys : List D} (p : ys.Perm ls) (hA : ∀ d ∈ ls, tupA d = true) (hk : alkAll ls = true) : ys.mergeSort dle = ls.mergeSort dle := by
  have le_iff : ∀ a b : D, dle a b = true ↔ ¬ dlt b a = true := fun a b => by simp [dle]
  -- total on the elements: by restricting to them
  have key : ∀ l : List D, l.Perm ls → (l.mergeSort dle).Pairwise fun a b => dle a b = true := by
    intro l pl
    let le' : D → D → Bool := fun a b => if a ∈ ls ∧ b ∈ ls then dle a b else decide (b ∈ ls → a ∈ ls)
    have e : l.mergeSort dle = l.mergeSort le' := msN_congr l fun a ha b hb => by
      show dle a b = if a ∈ ls ∧ b ∈ ls then dle a b else _
      rw [if_pos ⟨pl.mem_iff.mp ha, pl.mem_iff.mp hb⟩]
    have tr : ∀ a b c, le' a b = true → le' b c = true → le' a c = true := by
      intro a b c h k
      show (if a ∈ ls ∧ c ∈ ls then dle a c else decide (c ∈ ls → a ∈ ls)) = true
      have h' : (if a ∈ ls ∧ b ∈ ls then dle a b else decide (b ∈ ls → a ∈ ls)) = true := h
      have k' : (if b ∈ ls ∧ c ∈ ls then dle b c else decide (c ∈ ls → b ∈ ls)) = true := k
      by_cases ha : a ∈ ls <;> by_cases hb : b ∈ ls <;> by_cases hc : c ∈ ls <;> simp [ha, hb, hc] at h' k' ⊢
      rw [le_iff] at h' k' ⊢
      intro q
      rcases tA_tri (alkN_mem hk hb hc) (hA b hb) (hA c hc) with z | z | z
      · exact h' (tA_trans z q (hA b hb) (hA c hc) (hA a ha))
      · subst z; exact h' q
      · exact k' z
    have tot : ∀ a b, (le' a b || le' b a) = true := by
      intro a b
      show ((if a ∈ ls ∧ b ∈ ls then dle a b else decide (b ∈ ls → a ∈ ls)) || (if b ∈ ls ∧ a ∈ ls then dle b a else decide (a ∈ ls → b ∈ ls))) = true
      by_cases ha : a ∈ ls <;> by_cases hb : b ∈ ls <;> simp [ha, hb]
      rw [le_iff, le_iff]
      by_cases z : dlt b a = true
      · exact .inr (by rw [tA_asym z (hA b hb) (hA a ha)]; simp)
      · exact .inl z
    have pw := List.pairwise_mergeSort tr tot l
    rw [e]
    refine List.Pairwise.imp_of_mem (fun {a b} ha hb h => ?_) pw
    have h' : (if a ∈ ls ∧ b ∈ ls then dle a b else decide (b ∈ ls → a ∈ ls)) = true := h
    rw [if_pos ⟨pl.mem_iff.mp ((List.mergeSort_perm _ _).mem_iff.mp ha), pl.mem_iff.mp ((List.mergeSort_perm _ _).mem_iff.mp hb)⟩] at h'
    exact h'
  refine List.Perm.eq_of_pairwise (le := fun a b => dle a b = true) (fun a b ha hb h k => ?_) (key ys p) (key ls (.refl _)) (((List.mergeSort_perm ys _).trans p).trans (List.mergeSort_perm ls _).symm)
  have ha' : a ∈ ls := p.mem_iff.mp ((List.mergeSort_perm _ _).mem_iff.mp ha)
  have hb' : b ∈ ls := (List.mergeSort_perm _ _).mem_iff.mp hb
  rw [le_iff] at h k
  rcases tA_tri (alkN_mem hk ha' hb') (hA a ha') (hA b hb') with z | z | z
  · exact absurd z k
  · exact z
  · exact absurd z h
/-- a rising list of such tuples is its own sorted set -/
theorem sset_self {ls : List D} (hA : ∀ d ∈ ls, tupA d = true) (hk : alkAll ls = true) (hp : ls.Pairwise fun a b => dlt a b = true) : (distD [] ls).mergeSort dle = ls := by
  have nd : ls.Nodup := List.Pairwise.imp_of_mem (fun {a b} ha hb h e => by
    subst e
    have := tA_asym h (hA _ ha) (hA _ ha)
    rw [h] at this; cases this) hp
  have dm := distD_mem (xs := ls) (acc := []) hA (fun d hd => nomatch hd)
  have pm : (distD [] ls).Perm ls := permD ls _ nd (fun x hx => (dm x).mpr (.inr hx)) (by simpa using distD_len ls [])
  rw [srtT_unique pm hA hk]
  exact List.mergeSort_of_pairwise (List.Pairwise.imp_of_mem (fun {a b} ha hb h => by
    show (!dlt b a) = true
    rw [tA_asym h (hA a ha) (hA b hb)]; rfl) hp)
theorem ssetT_self {ls : List D} (hA : ∀ d ∈ ls, tupA d = true) (hk : alkAll ls = true) (hp : ls.Pairwise fun a b => dlt a b = true) (hl : ls.length ≤ 4000) : ssetT (.lst ls) = .ok (.lst ls) := by
  unfold ssetT
  dsimp only
  rw [if_pos ⟨List.all_eq_true.mpr hA, hk, hl⟩, sset_self hA hk hp]
end Pv

namespace Pv
variable [HasW]
open PySem PySem.Spec L2 PySem.Froz Classical
/-! ### sorted(set(xs)), xs a list of tuples of ints and texts -/
def keyOf : D → Key
  | .int i => .inl i
  | .str l => .inr (tx l)
  | _ => .inl 0
def ksOf : D → List Key
  | .tup ds => ds.map keyOf
  | _ => []
def atOf : Key → D
  | .inl i => .int i
  | .inr x => .str x.cps.toList
def tpOf (k : List Key) : D := .tup (k.map atOf)
theorem at_key {d : D} (h : isAt d = true) : atOf (keyOf d) = d := by
  cases d with
  | int i => rfl
  | str l => simp [keyOf, atOf, tx]
  | _ => simp [isAt] at h
theorem tp_ks {d : D} (h : tupA d = true) : tpOf (ksOf d) = d := by
  cases d with
  | tup ds =>
    cases ds with
    | nil => simp [tupA] at h
    | cons e es =>
      simp only [tupA, List.all_eq_true] at h
      unfold tpOf ksOf
      rw [List.map_map]
      congr 1
      have : ((e :: es).map (atOf ∘ keyOf)) = (e :: es).map id := List.map_congr_left fun x hx => at_key (h x hx)
      rw [this, List.map_id]
  | _ => simp [tupA] at h
theorem ks_inj {a b : D} (ha : tupA a = true) (hb : tupA b = true) (h : ksOf a = ksOf b) : a = b := by
  rw [← tp_ks ha, ← tp_ks hb, h]
end Pv

namespace Pv
variable [HasW]
open PySem PySem.Spec L2 PySem.Froz
theorem perm_back {α β : Type} {f : α → β} {vs us : List β} (p : vs.Perm us) : ∀ {L : List α}, us = L.map f → ∃ L' : List α, L'.Perm L ∧ vs = L'.map f := by
  induction p with
  | nil =>
    intro L e
    have : L = [] := by simpa using e.symm
    rw [this]
    exact ⟨[], .refl _, rfl⟩
  | cons x _ ih =>
    intro L e
    cases L with
    | nil => simp at e
    | cons y L =>
      simp only [List.map_cons, List.cons.injEq] at e
      obtain ⟨L', h1, h2⟩ := ih e.2
      exact ⟨y :: L', h1.cons y, by rw [List.map_cons, ← h2, e.1]⟩
  | swap x y l =>
    intro L e
    match L, e with
    | [], e => simp at e
    | [_], e => simp at e
    | a :: b :: L, e =>
      simp only [List.map_cons, List.cons.injEq] at e
      exact ⟨b :: a :: L, .swap a b L, by simp [e.1, e.2.1, e.2.2]⟩
  | trans _ _ ih1 ih2 =>
    intro L e
    obtain ⟨L1, h1, h2⟩ := ih2 e
    obtain ⟨L2, h3, h4⟩ := ih1 h2
    exact ⟨L2, h3.trans h1, h4⟩
theorem at_inj {a b : Key} (h : atOf a = atOf b) : a = b := by
  cases a with
  | inl i => cases b with
    | inl j => injection h with h; rw [h]
    | inr y => cases h
  | inr x => cases b with
    | inl j => cases h
    | inr y =>
      have h' : D.str x.cps.toList = D.str y.cps.toList := h
      injection h' with h'
      have : x = y := by
        cases x; cases y
        simp only [Str.mk.injEq]
        exact Array.toList_inj.mp h'
      rw [this]
theorem ats_inj : ∀ {a b : List Key}, a.map atOf = b.map atOf → a = b
  | [], [], _ => rfl
  | [], _ :: _, e => by simp at e
  | _ :: _, [], e => by simp at e
  | x :: xs, y :: ys, e => by
    simp only [List.map_cons, List.cons.injEq] at e
    rw [at_inj e.1, ats_inj e.2]
theorem tp_inj {a b : List Key} (h : tpOf a = tpOf b) : a = b := by
  unfold tpOf at h
  injection h with h
  exact ats_inj h
theorem reads_items {P : Program} {w : World} {h : Heap} : ∀ {k : List Key} {vs : List Value}, ItemsAre (mixKind P w) k vs → PySem.ReadsAll h vs (toPs (k.map atOf)) []
  | _, _, .nil => .nil
  | _, _, .cons h1 t => by
    have ih := reads_items (h := h) t
    rcases keyIs_shape h1 with ⟨i, u, rfl, rfl⟩ | ⟨x, u, rfl, rfl⟩
    · exact PySem.ReadsAll.cons (as := []) (.int i u) ih
    · have e : toP (atOf (.inr x)) = .str x := by
        show PyData.str (tx x.cps.toList) = _
        congr 1
      rw [List.map_cons, toPs, e]
      exact PySem.ReadsAll.cons (as := []) (.str x u) ih
theorem reads_K {P : Program} {w : World} {h : Heap} {k : List Key} {a : Addr} (x : IsK P w h k a) : PySem.Reads h (.ref a) (toP (tpOf k)) [] := by
  obtain ⟨o, items, n, ho, hc, hd, hi⟩ := x
  exact .tuple ho hc hd (reads_items hi)
theorem tup_plain {d : D} (h : tupA d = true) : plain d = true ∧ dep d ≤ 1 ∧ isNon d = false := by
  cases d with
  | tup ds =>
    cases ds with
    | nil => simp [tupA] at h
    | cons e es =>
      simp only [tupA] at h
      have key : ∀ l : List D, l.all isAt = true → plains l = true ∧ deps l = 0 := by
        intro l
        induction l with
        | nil => intro _; simp [plains, deps]
        | cons x xs ih =>
          intro hl
          rw [List.all_cons, Bool.and_eq_true] at hl
          obtain ⟨i1, i2⟩ := ih hl.2
          have hx := hl.1
          cases x <;> simp [isAt] at hx <;> simp [plains, deps, plain, dep, i1, i2]
      obtain ⟨k1, k2⟩ := key _ h
      exact ⟨by rw [plain]; exact k1, by rw [dep, k2]; decide, rfl⟩
  | _ => simp [tupA] at h
section
variable {P : Program} {w : World} {A : Around} {E : Value → Shared → Prop} {s : Shared}
/-- sorted(s), s a set of tuples -/
theorem sorted_K {a : Addr} {L : List (Addr × List Key)} {ls : List D} {Rel : Value → D → Prop} {Q : Value → Shared → Prop} (R : StS P w s.heap a L) (hh : A.handled = none) (hb : L.length < scanBound) (hu : A.units + 100 < cLine)
    (hA : ∀ d ∈ ls, tupA d = true) (hk : alkAll ls = true) (hnd : ls.Nodup) (hm : ∀ d, d ∈ ls ↔ ∃ p ∈ L, tpOf p.2 = d) (hR : ∀ p ∈ L, Rel (.ref p.1) (tpOf p.2))
    (hQ : ∀ (s' : Shared) (p : Addr) (out : List Value) (c : Nat), (∀ b o, s.heap.get? b = some o → s'.heap.get? b = some o) → s'.gens = s.gens → s'.os = s.os → s.heap.objs.size ≤ p →
      s'.heap.get? p = some (PyProof.Rows.seqObj "list" out.toArray c) → out.length = ls.length → PySem.W.EachIs Rel out (ls.mergeSort dle) → Q (.ref p) s') :
    wpAny (model P w) A (call (.builtin "sorted") [.ref a]) Q E s := by
  obtain ⟨es, ep, t, R⟩ := R
  obtain ⟨o, ho, hex, hd⟩ := R.ob
  have hsz := R.size
  refine Calls.call_function_entry PyProof.Rows.kind_sorted PyProof.Rows.plain_sorted PyProof.Rows.entry_sorted (PyProof.Rows.args_sorted1 _) ?_
  unfold Builtin.«sorted»
  refine wpAny_bind (m := checkCount "sorted" 1 1 _) (wpAny_pure ?_)
  refine wpAny_bind (collect_set (A := A.in1) (es := es) (ep := ep) (t := t) hh ⟨_, ho, hex.1, hd⟩ R.fits (by omega) R.tab.ris R.led fun s1 vs k1 hz g1 o1 pm => ?_)
  have e2 : es.toList.map (·.2) = L.map fun p => Value.ref p.1 := by rw [R.rows, List.map_map]; rfl
  obtain ⟨L', pl, rfl⟩ := perm_back pm e2
  have hmem : ∀ p ∈ L', p ∈ L := fun p hp => pl.mem_iff.mp hp
  have ndL : (L'.map fun p => tpOf p.2).Nodup := by
    have h1 : (L'.map (·.2)).Nodup := (pl.map (·.2)).nodup_iff.mpr R.nd
    have h2 : ((L'.map (·.2)).map tpOf).Nodup := by
      rw [List.nodup_iff_pairwise_ne, List.pairwise_map]
      exact (List.nodup_iff_pairwise_ne.mp h1).imp fun hne e => hne (tp_inj e)
    rw [List.map_map] at h2
    exact h2
  have hpm : (L'.map fun p => tpOf p.2).Perm ls := by
    have m1 : ∀ x ∈ ls, x ∈ L'.map fun p => tpOf p.2 := fun x hx => by
      obtain ⟨p, hp, e⟩ := (hm x).mp hx
      exact List.mem_map.mpr ⟨p, pl.mem_iff.mpr hp, e⟩
    have m2 : ∀ x ∈ L'.map (fun p => tpOf p.2), x ∈ ls := fun x hx => by
      obtain ⟨p, hp, e⟩ := List.mem_map.mp hx
      exact (hm x).mpr ⟨p, hmem p hp, e⟩
    have le : ∀ (as bs : List D), as.Nodup → (∀ x ∈ as, x ∈ bs) → as.length ≤ bs.length := by
      intro as
      induction as with
      | nil => intro bs _ _; exact Nat.zero_le _
      | cons x as ih =>
        intro bs nd hs
        rw [List.nodup_cons] at nd
        obtain ⟨b1, b2, rfl⟩ := List.append_of_mem (hs x List.mem_cons_self)
        have := ih (b1 ++ b2) nd.2 fun y hy => by
          have ne : y ≠ x := fun e => nd.1 (e ▸ hy)
          have := hs y (List.mem_cons_of_mem _ hy)
          simp only [List.mem_append, List.mem_cons] at this ⊢
          rcases this with q | q | q
          · exact .inl q
          · exact absurd q ne
          · exact .inr q
        simp only [List.length_append, List.length_cons] at this ⊢
        omega
    exact permD ls _ hnd m1 (le _ _ ndL m2)
  have hvl : (L'.map fun p => Value.ref p.1).length = L.length := by rw [List.length_map, pl.length_eq]
  have each1 : ∀ (l : List (Addr × List Key)), (∀ p ∈ l, p ∈ L) → PySem.W.EachIs Rel (l.map fun p => Value.ref p.1) (l.map fun p => tpOf p.2) := by
    intro l
    induction l with
    | nil => intro _; exact .nil
    | cons p l ih => intro h; exact .cons (hR p (h p List.mem_cons_self)) (ih fun q hq => h q (List.mem_cons_of_mem _ hq))
  have each2 : ∀ (h' : Heap), (∀ b o, s.heap.get? b = some o → h'.get? b = some o) → ∀ (x : Addr) (l : List (Addr × List Key)), (∀ p ∈ l, p ∈ L) → PySem.W.EachIs (fun v b => ∃ as, PySem.Reads h' v (toP b) as ∧ x ∉ as) (l.map fun p => Value.ref p.1) (l.map fun p => tpOf p.2) := by
    intro h' kp x l
    induction l with
    | nil => intro _; exact .nil
    | cons p l ih => intro h; exact .cons ⟨[], reads_K (isK_keep (R.key p (h p List.mem_cons_self)) kp), by simp⟩ (ih fun q hq => h q (List.mem_cons_of_mem _ hq))
  have hA' : ∀ d ∈ L'.map (fun p => tpOf p.2), tupA d = true := fun d hd' => hA d (hpm.mem_iff.mp hd')
  have hk' : ∀ a ∈ L'.map (fun p => tpOf p.2), ∀ b ∈ L'.map (fun p => tpOf p.2), alk a b = true := fun a ha b hb' => alkAll_mem hk (hpm.mem_iff.mp ha) (hpm.mem_iff.mp hb')
  have hlen2 : (L'.map fun p => tpOf p.2).length = L.length := by rw [List.length_map, pl.length_eq]
  refine wpAny_bind (wpAny_newList ?_ (by rw [hvl, sizeLine_eq]; unfold scanBound at hb; omega))
  have kp2 : ∀ b o, s.heap.get? b = some o → (s1.heap.push (PyProof.Rows.seqObj "list" (L'.map fun p => Value.ref p.1).toArray 0)).get? b = some o := fun b o e => Heap.get?_push_of_some _ (k1 b o e)
  have hoL : (s1.heap.push (PyProof.Rows.seqObj "list" (L'.map fun p => Value.ref p.1).toArray 0)).get? s1.heap.objs.size = some (PyProof.Rows.seqObj "list" (L'.map fun p => Value.ref p.1).toArray 0) := Heap.get?_push_size _ rfl
  refine wpAny_bind (wpAny_holding (PySem.W.list_sort_data (s := { s1 with heap := s1.heap.push (PyProof.Rows.seqObj "list" (L'.map fun p => Value.ref p.1).toArray 0) }) (enc := toP) hoL (each1 L' hmem) (each2 _ kp2 _ L' hmem)
    ?al ?so (by rw [hlen2, sizeLine_eq]; unfold scanBound at hb; omega) (fun b hb' => ?dp) fun out ho' eo => ?_))
  case al =>
    intro a ha b hb'
    obtain ⟨a', ha', rfl⟩ := List.mem_map.mp ha
    obtain ⟨b', hb'', rfl⟩ := List.mem_map.mp hb'
    exact toP_alike a' b' (hk' a' ha' b' hb'') (tup_plain (hA' a' ha')).1 (tup_plain (hA' b' hb'')).1
  case so =>
    refine .inl fun d hd' => ?_
    obtain ⟨d', hd'', rfl⟩ := List.mem_map.mp hd'
    have := hA' d' hd''
    cases d' with
    | tup es =>
      cases es with
      | nil => simp [tupA] at this
      | cons y ys => exact ⟨toP y, toPs ys, by simp [toP, toPs]⟩
    | _ => simp [tupA] at this
  case dp =>
    rw [toP_dep]
    have := (tup_plain (hA' b hb')).2.1
    simp only [Around.in1]
    omega
  obtain ⟨c, hc⟩ := PyProof.Rows.sortedHeap_at (vs := (L'.map fun p => Value.ref p.1)) (out := out.toArray) hoL
  have ems : (L'.map fun p => tpOf p.2).mergeSort (PySem.W.dataLe false toP) = ls.mergeSort dle := by
    rw [← srtT_unique hpm hA hk]
    refine ms_congr _ fun a ha b hb' => ?_
    rw [PySem.W.dataLe_eq]
    show (!PySem.W.dataLt (toP b) (toP a)) = !dlt b a
    rw [toP_lt b a (hk' b hb' a ha) (tup_plain (hA' b hb')).1 (tup_plain (hA' a ha)).1 (tup_plain (hA' b hb')).2.2]
  rw [ems] at eo
  refine wpAny_pure ⟨_, rfl, hQ _ s1.heap.objs.size out c (fun b u e => ?_) g1 o1 hz hc (by rw [ho', hpm.length_eq]) eo⟩
  have q := k1 b u e
  have hlt := Heap.lt_size q
  show (PyProof.Rows.sortedHeap (s1.heap.push (PyProof.Rows.seqObj "list" (L'.map fun p => Value.ref p.1).toArray 0)) s1.heap.objs.size (L'.map fun p => Value.ref p.1) out.toArray).get? b = some u
  rw [PyProof.Rows.sortedHeap_old (Nat.ne_of_lt hlt) (by rw [PyProof.Rows.size_push']; exact Nat.lt_succ_of_lt hlt)]
  exact Heap.get?_push_of_some _ q
end
/-- the items of a list of tuples -/
theorem keys_of {X : Cx} {pins : List (Addr × Obj)} {σ : St} {H : Hp} {s : Shared} (I : Inv X pins σ H s) {P : V → D → Prop} : ∀ {vs : List V} {us : List Value} {ds : List D}, Vals vs us → PySem.W.EachIs (fun v d => tupA d = true ∧ P v d ∧ ∃ a, v = V.ref a ∧ SqT X.K H a ((ksOf d).map kV)) vs ds →
    ∃ ks : List (Addr × List Key), us = ks.map (fun p => Value.ref p.1) ∧ ks.map (fun p => tpOf p.2) = ds ∧ ∀ p ∈ ks, IsK X.prog X.w s.heap p.2 p.1 ∧ P (.ref p.1) (tpOf p.2)
  | _, _, _, .nil, .nil => ⟨[], rfl, rfl, fun p hp => nomatch hp⟩
  | _, _, _, .cons r t, .cons ⟨hA, hp, a, e, q⟩ z => by
    obtain ⟨ks, h1, h2, h3⟩ := keys_of I t z
    subst e
    cases r
    obtain ⟨its, rv, hT, _⟩ := I.tuple q
    refine ⟨(a, ksOf _) :: ks, by rw [h1]; rfl, by rw [List.map_cons, h2, tp_ks hA], fun p hp' => ?_⟩
    rcases List.mem_cons.mp hp' with rfl | hp'
    · refine ⟨?_, by rw [tp_ks hA]; exact hp⟩
      obtain ⟨o, ho, hc, n, hd⟩ := hT
      exact ⟨o, its.toArray, n, ho, hc, hd, by simpa using items_are rv⟩
    · exact h3 p hp'
theorem atoms_kV {K : PySem.W.Frag} {F : Hp} : ∀ {vs : List V} {ds : List D}, RpA K F vs ds → ds.all isAt = true → vs = (ds.map keyOf).map kV
  | _, _, .nil, _ => rfl
  | _, _, .cons r t, h => by
    rw [List.all_cons, Bool.and_eq_true] at h
    rw [List.map_cons, List.map_cons, ← atoms_kV t h.2]
    congr 1
    cases r with
    | int i => rfl
    | str l z => rfl
    | _ => simp [isAt] at h
theorem each_K {K : PySem.W.Frag} {F H : Hp} (s : Sub F H) : ∀ {vs : List V} {ds : List D}, RpA K F vs ds → ds.all tupA = true → PySem.W.EachIs (fun v d => tupA d = true ∧ Rp K F v d ∧ ∃ a, v = V.ref a ∧ SqT K H a ((ksOf d).map kV)) vs ds
  | _, _, .nil, _ => .nil
  | _, _, .cons r t, h => by
    rw [List.all_cons, Bool.and_eq_true] at h
    refine .cons ⟨h.1, r, ?_⟩ (each_K s t h.2)
    cases r with
    | tup q z r =>
      refine ⟨_, rfl, ?_⟩
      have : tupA (.tup _) = true := h.1
      rename_i vs ds
      have ha : ds.all isAt = true := by
        cases ds with
        | nil => rfl
        | cons e es => exact this
      show SqT K H _ ((ds.map keyOf).map kV)
      rw [← atoms_kV r ha]
      exact s.tup q
    | _ => simp [tupA] at h
section
variable {ct : String → Addr} {k : Nat} {X : Cx} {W : WS} {e a b c : Expr} {es : List Expr} {pos : Pos} {ev ea eb ec : Xv}
theorem e_ssetT {p p2 q : Pos} (hm : X.mg "sorted" = none) (hm2 : X.mg "set" = none) (ha : PBv ct k X W a ea) (hg : Gl X "sorted" := by rfl) (hg2 : Gl X "set" := by rfl) (na : starEach [a] X.env = (false, eval a X.env) :: starEach [] X.env := by rfl) :
    PEv ct k X W (.Call (.Name "sorted" p) [.Call (.Name "set" p2) [a] [] q] [] pos) (xU ssetT ea) := fun C => by
  have h0 : PE X (.Call (.Name "sorted" p) [.Call (.Name "set" p2) [a] [] q] [] pos) (fun σ H Q => rd X.K (RBo X.K) W ea σ H fun x H1 => ∃ (l : Addr) (vs : List V) (ds : List D) (P : V → D → Prop), x = .ref l ∧ SqL X.K H1 l vs ∧
      PySem.W.EachIs (fun v d => tupA d = true ∧ P v d ∧ ∃ a, v = V.ref a ∧ SqT X.K H1 a ((ksOf d).map kV)) vs ds ∧ ds.all tupA = true ∧ alkAll ds = true ∧ ds.length ≤ 4000 ∧
      ∀ ys p, PySem.W.EachIs P ys ((distD [] ds).mergeSort dle) → ys.length ≤ LIM → H1 p = none → Q (.ref p) (upd H1 p (.lst ys))) := by
    refine ⟨fun pins s σ H Q I h => ?_⟩
    refine PyProof.Rows.Call_ (ld_blt I hg hm (show bootBuiltins "sorted" = some (.builtin "sorted") by decide +kernel) ?_)
    refine PyProof.Rows.callWith_builtin1 (PyProof.Rows.args_cons ?_ rfl) rfl rfl
    refine PyProof.Rows.Call_ (ld_blt I hg2 hm2 (show bootBuiltins "set" = some (.type "set") by decide +kernel) ?_)
    refine PyProof.Rows.callWith_type1 (PyProof.Rows.args_cons (thn ((ha C).run pins s σ H _ I h) fun v s1 ⟨x, H1, I1, r1, q1⟩ => PyProof.Rows.args_nil ?_) na) na rfl
    obtain ⟨l, vs, ds, P, rfl, hq, hE, hA, hk, hn, q1⟩ := q1
    cases r1
    obtain ⟨its, rv, hl, hz⟩ := I1.list hq
    obtain ⟨ks, e1, e2, e3⟩ := keys_of I1 rv hE
    have hkl : ks.length = ds.length := by rw [← e2, List.length_map]
    refine call_set_K (items := its.toArray) ks (I1.ok.hd C.calm) hl.isList (by simpa using e1) (fun p hp => (e3 p hp).1) (by rw [hkl]; exact hn) (by have := C.room.un; omega) fun h' tk L hS g hk' => ?_
    refine PyProof.Rows.args_nil ?_
    have I2 : Inv X pins σ H1 { s1 with heap := h', toks := tk } := I1.kept hk'
    have tk1 : ks.take ks.length = ks := List.take_length
    have hAm : ∀ d ∈ ds, tupA d = true := fun d hd => List.all_eq_true.mp hA d hd
    have dm := distD_mem (xs := ds) (acc := []) hAm (fun d hd => nomatch hd)
    have hdl := distD_len ds []
    simp only [List.length_nil, Nat.zero_add] at hdl
    refine sorted_K (s := { s1 with heap := h', toks := tk }) (ls := distD [] ds) (Rel := fun u d => ∃ v, RelV v u ∧ P v d) hS (I1.ok.hd C.calm) (by have := g.len; unfold scanBound; omega) (by have := C.room.un; omega)
      (fun d hd => hAm d (by simpa using (dm d).mp hd)) ?al (distD_nodup hAm (fun d hd => nomatch hd) List.nodup_nil) ?mm ?rr fun s2 pp out c k2 g2 o2 hp hget hol eo => ?_
    case al =>
      unfold alkAll
      rw [List.all_eq_true]
      intro x hx
      rw [List.all_eq_true]
      intro y hy
      exact alkAll_mem hk (by simpa using (dm x).mp hx) (by simpa using (dm y).mp hy)
    case mm =>
      intro d
      rw [dm d]
      simp only [List.not_mem_nil, false_or]
      constructor
      · intro hd
        rw [← e2] at hd
        obtain ⟨p, hp, rfl⟩ := List.mem_map.mp hd
        obtain ⟨p', hp', e⟩ := List.mem_map.mp (g.all p (by rw [tk1]; exact hp))
        exact ⟨p', hp', by rw [e]⟩
      · rintro ⟨p, hp, rfl⟩
        have := g.sub p hp
        rw [tk1] at this
        rw [← e2]
        exact List.mem_map.mpr ⟨p, this, rfl⟩
    case rr =>
      intro p hp
      have := g.sub p hp
      rw [tk1] at this
      exact ⟨.ref p.1, rfl, (e3 p this).2⟩
    obtain ⟨ys, h1, h2⟩ := each_back eo
    have hyl : ys.length = out.length := h1.length
    have hlen : ys.length ≤ LIM := by rw [hyl, hol]; exact Nat.le_trans (Nat.le_trans hdl hn) (by decide)
    have np : H1 pp = none := I2.hok.fresh hp
    have hp1 : s1.heap.objs.size ≤ pp := by
      obtain ⟨es, ep, t, R⟩ := hS
      obtain ⟨o, ho, _⟩ := R.ob
      have hp' : h'.objs.size ≤ pp := hp
      exact Nat.le_trans (Nat.le_of_lt (Heap.lt_size ho)) hp'
    have kk : ∀ (b : Addr) (u : Obj), s1.heap.get? b = some u → s2.heap.get? b = some u := fun b u e => k2 b u (hk' b u e)
    have J : Inv X pins σ (upd H1 pp (.lst ys)) { s1 with heap := s2.heap, gens := s2.gens, drawn := s2.drawn, toks := s2.toks } :=
      I1.call (ch := []) (Un.laid kk hp1 np) (I1.hok.laid kk hp1 ⟨by rw [lim]; exact hlen, out, c, h1, hget⟩) (by rw [g2]; exact I1.bare) (fun _ z => nomatch z)
    have e : s2 = { s1 with heap := s2.heap, gens := s2.gens, drawn := s2.drawn, toks := s2.toks } := by
      cases s2
      cases s1
      cases o2
      rfl
    rw [e]
    exact ⟨.ref pp, _, J, rfl, q1 ys pp h2 hlen np⟩
  refine h0.imp fun σ H Q ⟨H0, F0, F, env, S, g⟩ => seq S g fun x d F1 H1 S1 g1 rx q1 => ?_
  have q3 := got_wf q1
  cases d with
  | lst ds =>
    obtain ⟨p, vs, ex, hq, zl, rv⟩ := bo_lst S1.sub rx
    subst ex
    dsimp only [ssetT] at q3
    split at q3
    · rename_i z
      obtain ⟨z1, z2, z3⟩ := z
      refine ⟨p, vs, ds, Rp X.K F1, rfl, .inl hq, each_K S1.sub rv z1, z1, z2, z3, fun ys p' h1 hl np => ?_⟩
      exact got_new S1.sub q3 np fun ff => .lst upd_same hl ((A_each h1).mono ff)
    · exact q3.elim
  | _ => exact q3.elim
end
end Pv

namespace Pv
variable [HasW]
open PySem PySem.Spec L2
/-! ### expressions that give what is new: owned -/
/-- new since Hs, not frozen -/
def RO (K : PySem.W.Frag) (Hs : Hp) : Hp → Hp → V → D → Prop := fun F' H' v d => ∃ a, v = .ref a ∧ Hs a = none ∧ F' a = none ∧ RpO K F' H' a d
def PEo (ct : String → Addr) (k : Nat) (X : Cx) (W : WS) (e : Expr) (ev : En → Res D) : Prop := Cz ct k X W → PE X e (fun σ H Q => ∃ H0 F0 F env, SR X.K H0 F0 F H σ env ∧ Got (RO X.K H) W F H σ Q (ev env))
theorem not_frz {F H : Hp} {p : Addr} (s : Sub F H) (np : H p = none) : F p = none := by
  cases y : F p with
  | none => rfl
  | some u =>
    rcases s p u y with q | ⟨o', q⟩
    · rw [np] at q; cases q
    · rw [np] at q; cases q
theorem got_own {K : PySem.W.Frag} {Hs F H : Hp} {Q : VK} {ds : List D} {ys : List V} {p : Addr} (s : Sub F H) (g : Got (RO K Hs) WF F H [] Q (.ok (.lst ds))) (hs : Hs p = none) (np : H p = none) (hl : ys.length ≤ LIM) (r : RpA K F ys ds) : Q (.ref p) (upd H p (.lst ys)) :=
  g _ F _ (Gd.drop s np) ⟨p, rfl, hs, not_frz s np, .lst upd_same hl r⟩
section
variable {K : PySem.W.Frag} {ct : String → Addr} {k : Nat} {X : Cx} {W : WS} {e a b c : Expr} {es : List Expr} {pos : Pos} {ev ea eb ec : Xv}
theorem ud_srtO {Hs F H : Hp} {x : V} {d : D} {Q : VK} (hf : ∀ p, H p = none → Hs p = none) (s : Sub F H) (rx : RBo K F H x d) (g : Got (RO K Hs) WF F H [] Q (sortD d)) : rSrtL K [x] H Q ∨ rSrtD [x] H Q := by
  cases d with
  | lst ds =>
    dsimp only [sortD] at g
    split at g
    · rename_i z
      unfold srtOk at z
      simp only [Bool.and_eq_true, decide_eq_true_eq] at z
      obtain ⟨⟨⟨z1, z2⟩, z3⟩, z4⟩ := z
      obtain ⟨p, vs, ex, hq, zl, rv⟩ := bo_lst s rx
      subst ex
      obtain ⟨dp, cl⟩ := rpA_dp s rv z1
      rw [toPs_map] at dp
      have hal : PySem.W.AllAlike (ds.map toP) := by
        intro a ha b hb
        obtain ⟨a', ha', rfl⟩ := List.mem_map.mp ha
        obtain ⟨b', hb', rfl⟩ := List.mem_map.mp hb
        exact toP_alike a' b' (alkAll_mem z2 ha' hb') (plains_mem z1 _ ha') (plains_mem z1 _ hb')
      have hso : PySem.W.Sortable (ds.map toP) := by
        rw [Bool.or_eq_true] at z4
        rcases z4 with z4 | z4
        · refine .inl fun d hd => ?_
          obtain ⟨d', hd', rfl⟩ := List.mem_map.mp hd
          have := List.all_eq_true.mp z4 d' hd'
          cases d' with
          | tup es =>
            cases es with
            | nil => simp at this
            | cons y ys => exact ⟨toP y, toPs ys, by simp [toP, toPs]⟩
          | _ => simp at this
        · refine .inr fun d hd => ?_
          obtain ⟨d', hd', rfl⟩ := List.mem_map.mp hd
          have := List.all_eq_true.mp z4 d' hd'
          have pl := plains_mem z1 _ hd'
          cases d' with
          | non => simp at this
          | tup es => simp at this
          | dic _ => simp [plain] at pl
          | obj _ => simp [plain] at pl
          | fn _ => simp [plain] at pl
          | kd _ => simp [plain] at pl
          | _ => simp [toP]
      have ems : ds.mergeSort (PySem.W.dataLe false toP) = ds.mergeSort dle := by
        refine ms_congr ds fun a ha b hb => ?_
        rw [PySem.W.dataLe_eq]
        show (!PySem.W.dataLt (toP b) (toP a)) = !dlt b a
        have hn : isNon b = false := by
          rw [Bool.or_eq_true] at z4
          rcases z4 with z4 | z4
          · have := List.all_eq_true.mp z4 b hb
            cases b <;> first | rfl | (simp at this; done)
          · have := List.all_eq_true.mp z4 b hb
            cases b <;> first | rfl | (simp at this; done)
        rw [toP_lt b a (alkAll_mem z2 hb ha) (plains_mem z1 _ hb) (plains_mem z1 _ ha) hn]
      refine .inl ⟨p, vs, ds, Rp K F, rfl, .inl hq, dp, each_A rv, hal, hso, fun d hd => ?_, fun ys p' h1 np => ?_⟩
      · rw [toP_dep]; exact Nat.le_trans (deps_mem hd) z3
      · rw [ems] at h1
        have ra := A_each h1
        have hl : ys.length ≤ LIM := by
          rw [ra.length, List.length_mergeSort, ← rv.length]; exact zl
        exact got_own s g (hf _ np) np hl ra
    · exact g.elim
  | dic ds =>
    obtain ⟨p, kvs, ex, hq, zl, rv⟩ := bo_dic s rx
    subst ex
    obtain ⟨h1, h2⟩ := rpK_keys rv
    refine .inr ⟨p, kvs, ds.map (·.1), rfl, hq, h1, fun p' np => ?_⟩
    have e1 : ((ds.map (·.1)).mergeSort (PySem.W.dataLe false fun l => PyData.str (tx l))).map D.str = (ds.map fun kv => D.str kv.1).mergeSort dle := by
      rw [PySem.W.dataLe_eq]
      have e2 : (fun a b : List Nat => cond false (!PySem.W.dataLt (PyData.str (tx a)) (PyData.str (tx b))) (!PySem.W.dataLt (PyData.str (tx b)) (PyData.str (tx a)))) = fun a b => dle (D.str a) (D.str b) := by
        funext a b
        show (!PySem.W.dataLt (PyData.str (tx b)) (PyData.str (tx a))) = !dlt (.str b) (.str a)
        rw [PySem.W.dataLt_str, tx_list, tx_list]
        simp [dlt]
      rw [e2, ms_map (le := dle) D.str, List.map_map]
      rfl
    dsimp only [sortD] at g
    rw [← e1] at g
    refine got_own s g (hf _ np) np ?_ (rpA_strs fun l hl => h2 l ((List.mergeSort_perm _ _).mem_iff.mp hl))
    rw [List.length_map, List.length_mergeSort, List.length_map, ← rv.length]; exact zl
  | _ => exact g.elim
theorem o_sorted {p : Pos} (hm : X.mg "sorted" = none) (ha : PBv ct k X W a ea) (hg : Gl X "sorted" := by rfl) (he : starEach [a] X.env = (false, eval a X.env) :: starEach [] X.env := by rfl) : PEo ct k X W (.Call (.Name "sorted" p) [a] [] pos) (xU sortD ea) := fun C =>
  (pe_callB (CallR.or (cr_srtL C.room) (call_srtD C.calm C.room)) hg hm (by decide +kernel) (pa_cons (ha C) pa_nil he) (by decide) (by decide) he).imp fun σ H Q ⟨H0, F0, F, env, S, g⟩ => seq S g fun v d F1 H1 S1 g1 rv q => ud_srtO (fun _ n => g1.hh.free n) S1.sub rv (got_wf q)
theorem o_call {j : Nat} {fx : Str} {p2 : Pos} {Fn : List D → Res D} {aa : Av} (G : CaO X.prog X.w X.K X.mg X.base ct j fx Fn) (ha : PAv ct k X W (e :: es) aa) (hj : j ≤ k := by decide) (hg : Gl X fx := by rfl) (hdb : (fx == ("__debug__" : Str)) = false := by decide)
    (he : starEach (e :: es) X.env = (false, eval e X.env) :: starEach es X.env := by rfl) (hpl : (backTo pos (starEach es X.env)).any (·.1) = false := by rfl) : PEo ct k X W (.Call (.Name fx p2) (e :: es) [] pos) (xCall Fn aa) := fun C => by
  obtain ⟨f, fd, ps, G, hm, hk, hb⟩ := G
  exact (pe_callS G (C.room.mono hj) hg hm hk hb (fun σ => passAt C.tk σ) (ha C) hdb he hpl).imp fun σ H Q ⟨H0, F0, F, env, S, g⟩ => seq S g fun vs ds F1 H1 S1 g1 rv q => ⟨F1, ds, S1.sub, rv, by
    cases z : Fn ds with
    | ok d => rw [z] at q; exact fun a F' H' gd na nf r => q _ F' H' gd ⟨a, rfl, g1.hh.free na, nf, r⟩
    | exc c => rw [z] at q; exact fun F' H' gd => ⟨c, rfl, rfl, q F' H' gd⟩
    | bad => rw [z] at q; exact q⟩
end
section
variable {ct : String → Addr} {k : Nat} {X : Cx} {W : WS} {e a b c : Expr} {es : List Expr} {pos : Pos} {ev ea eb ec : Xv}
theorem o_sset {p p2 q : Pos} (hm : X.mg "sorted" = none) (hm2 : X.mg "set" = none) (ha : PBv ct k X W a ea) (hg : Gl X "sorted" := by rfl) (hg2 : Gl X "set" := by rfl) (na : starEach [a] X.env = (false, eval a X.env) :: starEach [] X.env := by rfl) :
    PEo ct k X W (.Call (.Name "sorted" p) [.Call (.Name "set" p2) [a] [] q] [] pos) (xU ssetD ea) := fun C => by
  have h0 : PE X (.Call (.Name "sorted" p) [.Call (.Name "set" p2) [a] [] q] [] pos) (fun σ H Q => rd X.K (RBo X.K) W ea σ H fun x H1 => ∃ (l : Addr) (ls : List (List Nat)), x = .ref l ∧ SqL X.K H1 l ((ls.map tx).map V.str) ∧ ls.length ≤ 4000 ∧
      ∀ p, H1 p = none → Q (.ref p) (upd H1 p (.lst (((distN [] ls).mergeSort fun a b => dle (.str a) (.str b)).map fun l => V.str (tx l))))) := by
    refine ⟨fun pins s σ H Q I h => ?_⟩
    refine PyProof.Rows.Call_ (ld_blt I hg hm (show bootBuiltins "sorted" = some (.builtin "sorted") by decide +kernel) ?_)
    refine PyProof.Rows.callWith_builtin1 (PyProof.Rows.args_cons ?_ rfl) rfl rfl
    refine PyProof.Rows.Call_ (ld_blt I hg2 hm2 (show bootBuiltins "set" = some (.type "set") by decide +kernel) ?_)
    refine PyProof.Rows.callWith_type1 (PyProof.Rows.args_cons (thn ((ha C).run pins s σ H _ I h) fun v s1 ⟨x, H1, I1, r1, q1⟩ => PyProof.Rows.args_nil ?_) na) na rfl
    obtain ⟨l, ls, rfl, hq, hn, q1⟩ := q1
    cases r1
    obtain ⟨its, rv, hl, hz⟩ := I1.list hq
    refine call_set_tx (xs := ls.map tx) (I1.ok.hd C.calm) hl.isList (by simpa using strsAre_of rv) (by rw [List.length_map]; unfold scanBound; omega) fun h' tk hS hk => ?_
    refine PyProof.Rows.args_nil ?_
    have I2 : Inv X pins σ H1 { s1 with heap := h', toks := tk } := I1.kept hk
    have hS' : TxS X.prog X.w h' s1.heap.objs.size ((distN [] ls).map tx) := by
      have := dist_tx ls []
      rw [← this]; exact hS
    have hdl := distN_len ls []
    simp only [List.length_nil, Nat.zero_add] at hdl
    refine sorted_tx (s := { s1 with heap := h', toks := tk }) hS' (I1.ok.hd C.calm) (by unfold scanBound; omega) (by have := C.room.un; omega) fun s2 pp out c k2 g2 o2 hp hget eo => ?_
    have hv := each_vals eo
    have hlen : (((distN [] ls).mergeSort fun a b => dle (.str a) (.str b)).map fun l => V.str (tx l)).length ≤ sizeLine := by
      rw [List.length_map, List.length_mergeSort, lim]
      exact Nat.le_trans (Nat.le_trans hdl hn) (by decide)
    have np : H1 pp = none := I2.hok.fresh hp
    have hp1 : s1.heap.objs.size ≤ pp := by
      obtain ⟨D, hD, _⟩ := hS'
      have hp' : h'.objs.size ≤ pp := hp
      exact Nat.le_trans (Nat.le_of_lt (Heap.lt_size hD)) hp'
    have kk : ∀ (b : Addr) (u : Obj), s1.heap.get? b = some u → s2.heap.get? b = some u := fun b u e => k2 b u (hk b u e)
    have J : Inv X pins σ (upd H1 pp (.lst (((distN [] ls).mergeSort fun a b => dle (.str a) (.str b)).map fun l => V.str (tx l)))) { s1 with heap := s2.heap, gens := s2.gens, drawn := s2.drawn, toks := s2.toks } :=
      I1.call (ch := []) (Un.laid kk hp1 np) (I1.hok.laid kk hp1 ⟨hlen, out, c, hv, hget⟩) (by rw [g2]; exact I1.bare) (fun _ z => nomatch z)
    have e : s2 = { s1 with heap := s2.heap, gens := s2.gens, drawn := s2.drawn, toks := s2.toks } := by
      cases s2
      cases s1
      cases o2
      rfl
    rw [e]
    exact ⟨.ref pp, _, J, rfl, q1 pp np⟩
  refine h0.imp fun σ H Q ⟨H0, F0, F, env, S, g⟩ => seq S g fun x d F1 H1 S1 g1 rx q1 => ?_
  have q3 := got_wf q1
  cases d with
  | lst ds =>
    obtain ⟨p, vs, ex, hq, zl, rv⟩ := bo_lst S1.sub rx
    subst ex
    dsimp only [ssetD] at q3
    cases z : asSs ds with
    | none => rw [z] at q3; exact q3.elim
    | some ls =>
      rw [z] at q3
      dsimp only at q3
      obtain ⟨h1, h2, h3⟩ := asSs_rp rv z
      split at q3
      · rename_i hn
        refine ⟨p, ls, rfl, .inl (by rw [← h1]; exact hq), hn, fun p' np => ?_⟩
        refine got_own S1.sub q3 (g1.hh.free np) np ?_ (rpA_strs fun l hl => ?_)
        · rw [List.length_map, List.length_mergeSort]
          have := distN_len ls []
          simp only [List.length_nil, Nat.zero_add] at this
          exact Nat.le_trans (Nat.le_trans this hn) (by decide)
        · rcases distN_mem ls [] l ((List.mergeSort_perm _ _).mem_iff.mp hl) with q | q
          · exact nomatch q
          · exact h3 l q
      · exact q3.elim
  | _ => exact q3.elim
end
section
variable {ct : String → Addr} {k : Nat} {X : Cx} {W : WS} {e a b c : Expr} {es : List Expr} {pos : Pos} {ev ea eb ec : Xv}
theorem o_ssetT {p p2 q : Pos} (hm : X.mg "sorted" = none) (hm2 : X.mg "set" = none) (ha : PBv ct k X W a ea) (hg : Gl X "sorted" := by rfl) (hg2 : Gl X "set" := by rfl) (na : starEach [a] X.env = (false, eval a X.env) :: starEach [] X.env := by rfl) :
    PEo ct k X W (.Call (.Name "sorted" p) [.Call (.Name "set" p2) [a] [] q] [] pos) (xU ssetT ea) := fun C => by
  have h0 : PE X (.Call (.Name "sorted" p) [.Call (.Name "set" p2) [a] [] q] [] pos) (fun σ H Q => rd X.K (RBo X.K) W ea σ H fun x H1 => ∃ (l : Addr) (vs : List V) (ds : List D) (P : V → D → Prop), x = .ref l ∧ SqL X.K H1 l vs ∧
      PySem.W.EachIs (fun v d => tupA d = true ∧ P v d ∧ ∃ a, v = V.ref a ∧ SqT X.K H1 a ((ksOf d).map kV)) vs ds ∧ ds.all tupA = true ∧ alkAll ds = true ∧ ds.length ≤ 4000 ∧
      ∀ ys p, PySem.W.EachIs P ys ((distD [] ds).mergeSort dle) → ys.length ≤ LIM → H1 p = none → Q (.ref p) (upd H1 p (.lst ys))) := by
    refine ⟨fun pins s σ H Q I h => ?_⟩
    refine PyProof.Rows.Call_ (ld_blt I hg hm (show bootBuiltins "sorted" = some (.builtin "sorted") by decide +kernel) ?_)
    refine PyProof.Rows.callWith_builtin1 (PyProof.Rows.args_cons ?_ rfl) rfl rfl
    refine PyProof.Rows.Call_ (ld_blt I hg2 hm2 (show bootBuiltins "set" = some (.type "set") by decide +kernel) ?_)
    refine PyProof.Rows.callWith_type1 (PyProof.Rows.args_cons (thn ((ha C).run pins s σ H _ I h) fun v s1 ⟨x, H1, I1, r1, q1⟩ => PyProof.Rows.args_nil ?_) na) na rfl
    obtain ⟨l, vs, ds, P, rfl, hq, hE, hA, hk, hn, q1⟩ := q1
    cases r1
    obtain ⟨its, rv, hl, hz⟩ := I1.list hq
    obtain ⟨ks, e1, e2, e3⟩ := keys_of I1 rv hE
    have hkl : ks.length = ds.length := by rw [← e2, List.length_map]
    refine call_set_K (items := its.toArray) ks (I1.ok.hd C.calm) hl.isList (by simpa using e1) (fun p hp => (e3 p hp).1) (by rw [hkl]; exact hn) (by have := C.room.un; omega) fun h' tk L hS g hk' => ?_
    refine PyProof.Rows.args_nil ?_
    have I2 : Inv X pins σ H1 { s1 with heap := h', toks := tk } := I1.kept hk'
    have tk1 : ks.take ks.length = ks := List.take_length
    have hAm : ∀ d ∈ ds, tupA d = true := fun d hd => List.all_eq_true.mp hA d hd
    have dm := distD_mem (xs := ds) (acc := []) hAm (fun d hd => nomatch hd)
    have hdl := distD_len ds []
    simp only [List.length_nil, Nat.zero_add] at hdl
    refine sorted_K (s := { s1 with heap := h', toks := tk }) (ls := distD [] ds) (Rel := fun u d => ∃ v, RelV v u ∧ P v d) hS (I1.ok.hd C.calm) (by have := g.len; unfold scanBound; omega) (by have := C.room.un; omega)
      (fun d hd => hAm d (by simpa using (dm d).mp hd)) ?al (distD_nodup hAm (fun d hd => nomatch hd) List.nodup_nil) ?mm ?rr fun s2 pp out c k2 g2 o2 hp hget hol eo => ?_
    case al =>
      unfold alkAll
      rw [List.all_eq_true]
      intro x hx
      rw [List.all_eq_true]
      intro y hy
      exact alkAll_mem hk (by simpa using (dm x).mp hx) (by simpa using (dm y).mp hy)
    case mm =>
      intro d
      rw [dm d]
      simp only [List.not_mem_nil, false_or]
      constructor
      · intro hd
        rw [← e2] at hd
        obtain ⟨p, hp, rfl⟩ := List.mem_map.mp hd
        obtain ⟨p', hp', e⟩ := List.mem_map.mp (g.all p (by rw [tk1]; exact hp))
        exact ⟨p', hp', by rw [e]⟩
      · rintro ⟨p, hp, rfl⟩
        have := g.sub p hp
        rw [tk1] at this
        rw [← e2]
        exact List.mem_map.mpr ⟨p, this, rfl⟩
    case rr =>
      intro p hp
      have := g.sub p hp
      rw [tk1] at this
      exact ⟨.ref p.1, rfl, (e3 p this).2⟩
    obtain ⟨ys, h1, h2⟩ := each_back eo
    have hyl : ys.length = out.length := h1.length
    have hlen : ys.length ≤ LIM := by rw [hyl, hol]; exact Nat.le_trans (Nat.le_trans hdl hn) (by decide)
    have np : H1 pp = none := I2.hok.fresh hp
    have hp1 : s1.heap.objs.size ≤ pp := by
      obtain ⟨es, ep, t, R⟩ := hS
      obtain ⟨o, ho, _⟩ := R.ob
      have hp' : h'.objs.size ≤ pp := hp
      exact Nat.le_trans (Nat.le_of_lt (Heap.lt_size ho)) hp'
    have kk : ∀ (b : Addr) (u : Obj), s1.heap.get? b = some u → s2.heap.get? b = some u := fun b u e => k2 b u (hk' b u e)
    have J : Inv X pins σ (upd H1 pp (.lst ys)) { s1 with heap := s2.heap, gens := s2.gens, drawn := s2.drawn, toks := s2.toks } :=
      I1.call (ch := []) (Un.laid kk hp1 np) (I1.hok.laid kk hp1 ⟨by rw [lim]; exact hlen, out, c, h1, hget⟩) (by rw [g2]; exact I1.bare) (fun _ z => nomatch z)
    have e : s2 = { s1 with heap := s2.heap, gens := s2.gens, drawn := s2.drawn, toks := s2.toks } := by
      cases s2
      cases s1
      cases o2
      rfl
    rw [e]
    exact ⟨.ref pp, _, J, rfl, q1 ys pp h2 hlen np⟩
  refine h0.imp fun σ H Q ⟨H0, F0, F, env, S, g⟩ => seq S g fun x d F1 H1 S1 g1 rx q1 => ?_
  have q3 := got_wf q1
  cases d with
  | lst ds =>
    obtain ⟨p, vs, ex, hq, zl, rv⟩ := bo_lst S1.sub rx
    subst ex
    dsimp only [ssetT] at q3
    split at q3
    · rename_i z
      obtain ⟨z1, z2, z3⟩ := z
      refine ⟨p, vs, ds, Rp X.K F1, rfl, .inl hq, each_K S1.sub rv z1, z1, z2, z3, fun ys p' h1 hl np => ?_⟩
      exact got_own S1.sub q3 (g1.hh.free np) np hl (A_each h1)
    · exact q3.elim
  | _ => exact q3.elim
end
/-! ### statements whose returns are owned -/
def PSO (ct : String → Addr) (k : Nat) (X : Cx) (W : WS) (st : Stmt) (sv : Sv) : Prop := Cz ct k X W → PS X st (rsO X.K W sv)
def NoRet (s : Sv) : Prop := ∀ env d, s env ≠ .ret d
section
variable {ct : String → Addr} {k : Nat} {X : Cx} {W : WS} {e a b c : Expr} {es : List Expr} {pos : Pos} {ev ea eb ec : Xv} {st : Stmt} {rest : List Stmt} {s r : Sv}
theorem so_nr (h : PSv ct k X W st s) (n : NoRet s) : PSO ct k X W st s := fun C => (h C).imp fun Dn σ H ⟨H0, F0, F, env, S, g⟩ => ⟨H0, F0, F, env, S, by
  cases z : s env with
  | ret d => exact absurd z (n env d)
  | nx env' => rw [z] at g; exact g
  | brk env' => rw [z] at g; exact g
  | cont env' => rw [z] at g; exact g
  | exc c env' => rw [z] at g; exact g
  | bad => rw [z] at g; exact g⟩
theorem so_ret (h : PEo ct k X W e ev) : PSO ct k X W (.Return (some e) pos) (sRet ev) := fun C => (ps_ret (h C)).imp fun Dn σ H ⟨H0, F0, F, env, S, g⟩ => ⟨H0, F0, F, env, S, by
  unfold sRet at g
  cases z : ev env with
  | ok d =>
    rw [z] at g
    rintro v F' H' gd ⟨a, rfl, na, nf, r⟩
    exact g a F' H' (S.gd.trans gd) (S.gd.hh.free na) nf r
  | exc c => rw [z] at g; exact fun F' H' gd => g σ F' H' (S.grow gd)
  | bad => rw [z] at g; exact g⟩
theorem so_retv (i : Nat) {x : Str} {p : Pos} (hN : X.N[i]? = some x := by rfl) (hv : Vis X.env.scope x := by first | exact Or.inl rfl | exact Or.inr (Or.inl rfl) | exact Or.inr (Or.inr rfl)) (hd : (x == ("__debug__" : Str)) = false := by decide)
    (hcd : (x == ("__classdict__" : Str)) = false := by decide) : PSO ct k X W (.Return (some (.Name x p)) pos) (sRetO i) := fun C =>
  (ps_ret (pe_var hN hv hd hcd)).imp fun Dn σ H ⟨H0, F0, F, env, S, g⟩ => by
    unfold sRetO at g
    cases q : gt env i with
    | none => rw [q] at g; exact (show False from g).elim
    | some sl =>
      rw [q] at g
      cases sl with
      | fz d => exact (show False from g).elim
      | ow d =>
        obtain ⟨a, h1, h2, h3, h4⟩ := S.ow i d q
        exact ⟨_, h1, g a F H S.gd h2 h3 h4⟩
theorem so_frz (i : Nat) (h : PSO ct k X W st s) : PSO ct k X W st (sFrz i s) := fun C => (h C).imp fun Dn σ H ⟨H0, F0, F, env, S, g⟩ => by
  obtain ⟨F', S'⟩ := S.frz i
  exact ⟨H0, F0, F', _, S', g⟩
theorem sso_nil : PSsO ct k X W [] sNil := fun C => pss_nil.imp fun Dn σ H ⟨H0, F0, F, env, S, g⟩ => g σ F H S
theorem sso_one (h : PSO ct k X W st s) : PSsO ct k X W [st] s := fun C => pss_one (h C)
theorem sso_cons (h1 : PSO ct k X W st s) (h2 : PSsO ct k X W rest r) : PSsO ct k X W (st :: rest) (sSeq s r) := fun C => (pss_cons (h1 C) (h2 C)).imp fun Dn σ H ⟨H0, F0, F, env, S, g⟩ => by
  refine ⟨H0, F0, F, env, S, ?_⟩
  unfold sSeq at g
  cases q : s env with
  | nx env' => rw [q] at g; exact fun σ' F' H' S' => ⟨H0, F0, F', env', S', g⟩
  | ret d => rw [q] at g; exact g
  | brk env' => rw [q] at g; exact g
  | cont env' => rw [q] at g; exact g
  | exc c env' => rw [q] at g; exact g
  | bad => rw [q] at g; exact g
theorem so_if {t : Tv} {sa sb : List Stmt} (ht : PTv ct k X W e t) (ha : PSsO ct k X W sa s) (hb : PSsO ct k X W sb r) : PSO ct k X W (.If e sa sb pos) (sIf t s r) := fun C =>
  (ps_if (ht C) (ha C) (hb C)).imp fun Dn σ H ⟨H0, F0, F, env, S, g⟩ => ⟨H0, F0, F, env, S, by
    unfold sIf at g
    cases q : t env with
    | ok d =>
      rw [q] at g
      intro v F1 H1 g1 rv
      have rv' : v = d := rv
      subst rv'
      cases v with
      | true => exact ⟨H0, F0, F1, env, S.grow g1, g⟩
      | false => exact ⟨H0, F0, F1, env, S.grow g1, g⟩
    | exc c => rw [q] at g; exact fun F' H' gd => g σ F' H' (S.grow gd)
    | bad => rw [q] at g; exact g⟩
end
/-! ### what does not return -/
theorem fl_nr {α : Type} {r : Res α} {env : En} {k : α → Fl} (h : ∀ x d, k x ≠ .ret d) (d : D) : r.fl env k ≠ .ret d := by
  cases r with
  | ok x => exact h x d
  | exc c => intro z; cases z
  | bad => intro z; cases z
theorem nr_expr {a : Xv} : NoRet (sExpr a) := fun env d => fl_nr (fun _ _ z => by cases z) d
theorem nr_asg {T : Tg} {a : Xv} : NoRet (sAsg T a) := fun env d => fl_nr (fun x _ z => by
  cases q : stT T x env with
  | none => rw [q] at z; cases z
  | some e => rw [q] at z; cases z) d
theorem nr_own {is : List Nat} {o : Ov} : NoRet (sOwn is o) := fun env d => fl_nr (fun x _ z => by
  cases q : ptSl is x env with
  | none => rw [q] at z; cases z
  | some e => rw [q] at z; cases z) d
theorem nr_app {i : Nat} {a : Xv} : NoRet (sApp i a) := fun env d z => by
  unfold sApp at z
  split at z
  · exact fl_nr (fun x _ z => by split at z <;> cases z) d z
  · cases z
theorem nr_ext {i : Nat} {a : Xv} : NoRet (sExt i a) := fun env d z => by
  unfold sExt at z
  split at z
  · refine fl_nr (fun x _ z => ?_) d z
    split at z
    · split at z <;> cases z
    · cases z
  · cases z
theorem nr_nil : NoRet sNil := fun env d z => by cases z
theorem nr_raise {c : String} : NoRet (sRaise c) := fun env d z => by cases z
theorem nr_frz {i : Nat} {s : Sv} (h : NoRet s) : NoRet (sFrz i s) := fun env d => h _ d
theorem nr_seq {s r : Sv} (h1 : NoRet s) (h2 : NoRet r) : NoRet (sSeq s r) := fun env d z => by
  unfold sSeq at z
  cases q : s env with
  | nx e => rw [q] at z; exact h2 e d z
  | ret d' => exact h1 env d' q
  | brk e => rw [q] at z; cases z
  | cont e => rw [q] at z; cases z
  | exc c e => rw [q] at z; cases z
  | bad => rw [q] at z; cases z
theorem nr_if {t : Tv} {s r : Sv} (h1 : NoRet s) (h2 : NoRet r) : NoRet (sIf t s r) := fun env d => fl_nr (fun x d z => by
  cases x with
  | true => exact h1 env d z
  | false => exact h2 env d z) d
theorem nr_forD {T : Tg} {b : Sv} (h : NoRet b) : ∀ (xs : List D) (env : En) (d : D), forD T b xs env ≠ .ret d
  | [], env, d => fun z => by cases z
  | x :: xs, env, d => fun z => by
    unfold forD at z
    cases q : stT T x env with
    | none => rw [q] at z; cases z
    | some e =>
      rw [q] at z
      dsimp only at z
      cases q2 : b e with
      | nx e2 => rw [q2] at z; exact nr_forD h xs e2 d z
      | cont e2 => rw [q2] at z; exact nr_forD h xs e2 d z
      | ret d' => exact h e d' q2
      | brk e2 => rw [q2] at z; cases z
      | exc c e2 => rw [q2] at z; cases z
      | bad => rw [q2] at z; cases z
theorem nr_for {T : Tg} {iv : Av} {b : Sv} (h : NoRet b) : NoRet (sFor T iv b) := fun env d => fl_nr (fun x d => nr_forD h x env d) d
/-! ### the owned twin of a def -/
theorem mkO {n m : Nat} {sv : Sv} {ds : List D} {l : List D} (h : mkFn n m sv ds = .ok (.lst l)) : mkFnO n m sv ds = .ok (.lst l) := by
  unfold mkFn at h
  unfold mkFnO
  by_cases z : ds.length = n
  · rw [if_pos z] at h ⊢
    cases q : sv (iniE m ds) with
    | ret d => rw [q] at h; exact h
    | nx e => rw [q] at h; cases h
    | brk e => rw [q] at h; cases h
    | cont e => rw [q] at h; cases h
    | exc c e => rw [q] at h; cases h
    | bad => rw [q] at h; cases h
  · rw [if_neg z] at h; cases h
end Pv

namespace Pv
variable [HasW]
open PySem PySem.Spec L2
/-- new lists, each its own -/
def FL (Hs F H : Hp) (vs : List V) : Prop := ∃ as : List Addr, vs = as.map V.ref ∧ as.Nodup ∧ ∀ a ∈ as, Hs a = none ∧ F a = none ∧ ∃ xs, H a = some (.lst xs) ∧ xs.length ≤ 1000000
theorem ref_inj : ∀ {l m : List Addr}, l.map V.ref = m.map V.ref → l = m
  | [], [], _ => rfl
  | [], _ :: _, h => by cases h
  | _ :: _, [], h => by cases h
  | a :: l, b :: m, h => by
    rw [List.map_cons, List.map_cons] at h
    injection h with h1 h2
    injection h1 with h1
    rw [h1, ref_inj h2]
section
variable {Hs Hs' F H F' H' : Hp} {vs ws : List V}
theorem FL.start (h : Same Hs Hs') (f : FL Hs' F H vs) : FL Hs F H vs := by
  obtain ⟨as, e, nd, h1⟩ := f
  exact ⟨as, e, nd, fun a ha => ⟨h.free (h1 a ha).1, (h1 a ha).2⟩⟩
theorem Gd.nf (g : Gd F H F' H') {a : Addr} {o : HO} (hf : F a = none) (hh : H a = some o) : F' a = none := by
  cases q : F' a with
  | none => rfl
  | some u =>
    rcases g.nw a (by rw [q]; simp) with z | z
    · exact absurd hf z
    · rw [hh] at z; cases z
theorem FL.grow (f : FL Hs F H vs) (g : Gd F H F' H') : FL Hs F' H' vs := by
  obtain ⟨as, e, nd, h1⟩ := f
  refine ⟨as, e, nd, fun a ha => ?_⟩
  obtain ⟨a1, a2, xs, a3, a4⟩ := h1 a ha
  exact ⟨a1, g.nf a2 a3, xs, g.hh a _ a3, a4⟩
theorem FL.app (s : Same Hs H) (f : FL Hs F H vs) (g : Gd F H F' H') (f2 : FL H F' H' ws) : FL Hs F' H' (vs ++ ws) := by
  obtain ⟨as, e, nd, h1⟩ := f.grow g
  obtain ⟨as0, e0, nd0, h0⟩ := f
  obtain ⟨bs, e2, nd2, h2⟩ := f2
  have ea : as = as0 := by
    exact ref_inj (e.symm.trans e0)
  subst ea
  refine ⟨as ++ bs, by rw [e, e2, List.map_append], ?_, fun a ha => ?_⟩
  · rw [List.nodup_append]
    refine ⟨nd, nd2, fun a ha b hb z => ?_⟩
    subst z
    obtain ⟨_, _, xs, q, _⟩ := h0 a ha
    rw [(h2 a hb).1] at q
    cases q
  · rcases List.mem_append.mp ha with z | z
    · exact h1 a z
    · obtain ⟨q1, q2⟩ := h2 a z
      exact ⟨s.free q1, q2⟩
theorem FL.mem (f : FL Hs F H vs) {p : Addr} (np : H p = none) : V.ref p ∉ vs := by
  obtain ⟨as, e, nd, h1⟩ := f
  rw [e]
  intro h
  obtain ⟨a, ha, z⟩ := List.mem_map.mp h
  injection z with z
  subst z
  obtain ⟨_, _, xs, q, _⟩ := h1 a ha
  rw [np] at q; cases q
/-- a new list of new lists -/
structure FLL (Hs F H : Hp) (L : Addr) (vs : List V) : Prop where
  n0 : Hs L = none
  nf : F L = none
  hl : H L = some (.lst vs)
  le : vs.length ≤ 100
  fl : FL Hs F H vs
  ni : V.ref L ∉ vs
theorem ll_new {p : Addr} (s : Sub F H) (np : H p = none) (h0 : Hs p = none) (f : FL Hs F H vs) (hl : vs.length ≤ 100) : FLL Hs F (upd H p (.lst vs)) p vs :=
  ⟨h0, not_frz s np, upd_same, hl, f.grow (Gd.drop s np), f.mem np⟩
theorem FLL.grow {L : Addr} (f : FLL Hs F H L vs) (g : Gd F H F' H') : FLL Hs F' H' L vs := ⟨f.n0, g.nf f.nf f.hl, g.hh _ _ f.hl, f.le, f.fl.grow g, f.ni⟩
end
/-! ### a list display of new lists -/
def PAl (ct : String → Addr) (k : Nat) (X : Cx) (W : WS) (es : List Expr) (lo : En → Bool) (n : Nat) : Prop := Cz ct k X W → PA X es (fun σ H Q => ∃ H0 F0 F env, SR X.K H0 F0 F H σ env ∧ lo env = true ∧ ∀ vs F' H', Gd F H F' H' → FL H F' H' vs → vs.length = n → Q vs H')
section
variable {ct : String → Addr} {k : Nat} {X : Cx} {W : WS} {e a b c : Expr} {es : List Expr} {pos : Pos} {ev ea eb ec : Xv} {lo l2 l3 l4 : En → Bool} {n n2 n3 n4 : Nat}
theorem al_nil : PAl ct k X W [] aoNil 0 := fun C => pa_nil.imp fun σ H Q ⟨H0, F0, F, env, S, _, h⟩ => h [] F H (.refl S.sub) ⟨[], rfl, List.nodup_nil, fun _ h => nomatch h⟩ rfl
theorem al_cons (ha : PEo ct k X W e ev) (hr : PAl ct k X W es lo n) (hs : starEach (e :: es) X.env = (false, eval e X.env) :: starEach es X.env := by rfl) : PAl ct k X W (e :: es) (aoCons ev lo) (n + 1) := fun C =>
  (pa_cons (ha C) (hr C) hs).imp fun σ H Q ⟨H0, F0, F, env, S, hlo, h⟩ => ⟨H0, F0, F, env, S, by
    unfold aoCons at hlo
    rw [Bool.and_eq_true] at hlo
    obtain ⟨z1, z2⟩ := hlo
    cases q : ev env with
    | ok d =>
      rw [q] at z1
      cases d with
      | lst ds =>
        have z1' : ds.length ≤ 1000000 := of_decide_eq_true z1
        rintro v F1 H1 g1 ⟨a, rfl, na, nf, r⟩
        cases r with
        | @lst xs _ q1 z rr =>
          refine ⟨H0, F0, F1, env, S.grow g1, z2, fun vs F2 H2 g2 f hn => h (.ref a :: vs) F2 H2 (g1.trans g2) ?_ (by rw [List.length_cons, hn])⟩
          have fa : FL H F1 H1 [.ref a] := ⟨[a], rfl, by simp, fun b hb => by
            rw [List.mem_singleton] at hb
            subst hb
            exact ⟨na, nf, xs, q1, by rw [rr.length]; exact z1'⟩⟩
          exact FL.app g1.hh fa g2 f
      | _ => exact absurd z1 Bool.false_ne_true
    | exc c => rw [q] at z1; exact absurd z1 Bool.false_ne_true
    | bad => rw [q] at z1; exact absurd z1 Bool.false_ne_true⟩
end
section
variable {K : PySem.W.Frag} {H0 F0 F H : Hp} {σ : St} {env : En}
theorem SR.setN (S : SR K H0 F0 F H σ env) {i : Nat} (n : gt env i = none) (v : Option V) : SR K H0 F0 F H (σ.set i v) env := by
  have ne : ∀ {j : Nat} {sl : Sl}, gt env j = some sl → i ≠ j := fun h z => by subst z; rw [n] at h; cases h
  refine ⟨S.gd, by rw [List.length_set]; exact S.len, fun j d e => ?_, fun j d e => ?_, fun j j' d1 d2 b e1 e2 h1 h2 => ?_⟩
  · obtain ⟨w, h1, h2⟩ := S.fz j d e
    exact ⟨w, by rw [List.getElem?_set_ne (ne e)]; exact h1, h2⟩
  · obtain ⟨w, h1, h2⟩ := S.ow j d e
    exact ⟨w, by rw [List.getElem?_set_ne (ne e)]; exact h1, h2⟩
  · rw [List.getElem?_set_ne (ne e1)] at h1
    rw [List.getElem?_set_ne (ne e2)] at h2
    exact S.ap j j' d1 d2 b e1 e2 h1 h2
end
/-- found + [..] -/
theorem ll_step {Hs F H F' H' : Hp} {L : Addr} {vs ws : List V} (s : Same Hs H) (s' : Sub F' H') (f : FLL Hs F H L vs) (g : Gd F H F' H') (fw : FL H F' H' ws) {q r : Addr} (nq : H' q = none) (nr : upd H' q (.lst ws) r = none) (hl : vs.length + ws.length ≤ 100) :
    FLL Hs F' (upd (upd H' q (.lst ws)) r (.lst (vs ++ ws))) r (vs ++ ws) ∧ Gd F' H' F' (upd (upd H' q (.lst ws)) r (.lst (vs ++ ws))) := by
  have g1 := Gd.drop (o := .lst ws) s' nq
  have g2 := Gd.drop (o := .lst (vs ++ ws)) g1.sub nr
  have fl := (FL.app s f.fl g fw).grow g1
  have h0 : Hs r = none := s.free (g.hh.free (g1.hh.free nr))
  exact ⟨ll_new g1.sub nr h0 fl (by rw [List.length_append]; exact hl), g1.trans g2⟩
def tLL (K : PySem.W.Frag) (f : En → Bool) : TS := fun Dn σ H => ∃ H0 F0 F env, SR K H0 F0 F H σ env ∧ f env = true ∧ ∀ L vs F' H', Gd F0 H0 F' H' → FLL H0 F' H' L vs → Dn.rt (.ref L) H'
section
variable {ct : String → Addr} {k : Nat} {X : Cx} {W : WS} {e a b c : Expr} {e2 e3 e4 : List Expr} {l2 l3 l4 : En → Bool} {n2 n3 n4 : Nat} {st : Stmt} {s1 : Sv}
theorem ll_body (i : Nat) {x : Str} {p2 p3 p3' p4' q2 q3 q4 r3 r4 u2 u3 u4 : Pos} (h1 : PSv ct k X W st s1) (h2 : PAl ct k X W e2 l2 n2) (h3 : PAl ct k X W e3 l3 n3) (h4 : PAl ct k X W e4 l4 n4) (hn : n2 + n3 + n4 ≤ 100) (hi : X.N[i]? = some x := by rfl) (hx : Loc X.env.scope x := by first | exact Or.inl rfl | exact Or.inr rfl) (hf : X.fn x = true ∨ X.env.scope.names.lookup x = some .local := by first | exact .inl rfl | exact .inr rfl)
    (hv : Vis X.env.scope x := by first | exact Or.inl rfl | exact Or.inr (Or.inl rfl) | exact Or.inr (Or.inr rfl)) (hd : (x == ("__debug__" : Str)) = false := by decide) (hcd : (x == ("__classdict__" : Str)) = false := by decide)
    (hs2 : swapsWith (.List e2 q2) (some (.Name x p2)) u2.line X.env = pure false := by rfl) (hs3 : swapsWith (.BinOp (.Name x p3') .Add (.List e3 q3) r3) (some (.Name x p3)) u3.line X.env = pure false := by rfl) :
    Cz ct k X W → PSs X [st, .Assign [.Name x p2] (.List e2 q2) u2, .Assign [.Name x p3] (.BinOp (.Name x p3') .Add (.List e3 q3) r3) u3, .Return (some (.BinOp (.Name x p4') .Add (.List e4 q4) r4)) u4] (tLL X.K (lsOk i s1 l2 l3 l4)) := fun C =>
  (pss_cons (h1 C) (pss_cons (ps_set C.nd hi hx (pe_lst (h2 C)) hs2 hf) (pss_cons (ps_set C.nd hi hx (pe_op op_catR (pe_var hi hv hd hcd) (pe_lst (h3 C))) hs3 hf) (pss_one (ps_ret (pe_op op_catR (pe_var hi hv hd hcd) (pe_lst (h4 C)))))))).imp fun Dn σ H ⟨H0, F0, F, env, S, g, done⟩ => by
    unfold lsOk at g
    cases q : s1 env with
    | nx env1 =>
      rw [q] at g
      simp only [Bool.and_eq_true] at g
      obtain ⟨⟨⟨⟨zl, z0⟩, z2⟩, z3⟩, z4⟩ := g
      have zl' : i < env1.length := of_decide_eq_true zl
      have z0' : gt env1 i = none := by simpa using z0
      refine ⟨H0, F0, F, env, S, ?_⟩
      rw [q]
      intro σ1 F1 H1 S1
      have hσ1 : i < σ1.length := by rw [S1.len]; exact zl'
      refine ⟨H0, F0, F1, env1, S1, z2, fun vs F2 H2 g2 f2 hn2 => ⟨by rw [lim, hn2]; show n2 ≤ 16777216; omega, fun p np => ?_⟩⟩
      have S2 := S1.grow g2
      have f2' : FL H0 F2 H2 vs := f2.start S1.gd.hh
      have L2 := ll_new (Hs := H0) S2.sub np (S2.gd.hh.free np) f2' (by omega)
      have S3 := (S2.grow (Gd.drop (o := .lst vs) S2.sub np)).setN z0' (some (.ref p))
      have hp : (σ1.set i (some (V.ref p)))[i]? = some (some (.ref p)) := by rw [List.getElem?_set_self (by omega)]
      refine ⟨.ref p, hp, H0, F0, F2, env1, S3, z3, fun ws F3 H3 g3 f3 hn3 => ⟨by rw [lim, hn3]; show n3 ≤ 16777216; omega, fun q' nq => ?_⟩⟩
      have L2' := L2.grow g3
      have hpq : p ≠ q' := fun z => by subst z; rw [L2'.hl] at nq; cases nq
      refine ⟨p, q', vs, ws, rfl, rfl, .inl (by rw [upd_ne hpq]; exact L2'.hl), .inl upd_same, by rw [lim]; show _ ≤ 16777216; omega, fun r nr => ?_⟩
      obtain ⟨L3, gd3⟩ := ll_step S3.gd.hh g3.sub L2 g3 f3 nq nr (by omega)
      have S4 := (S3.grow (g3.trans gd3)).setN z0' (some (.ref r))
      have hr : ((σ1.set i (some (V.ref p))).set i (some (V.ref r)))[i]? = some (some (.ref r)) := by rw [List.getElem?_set_self (by rw [List.length_set]; omega)]
      refine ⟨.ref r, hr, H0, F0, F3, env1, S4, z4, fun us F4 H4 g4 f4 hn4 => ⟨by rw [lim, hn4]; show n4 ≤ 16777216; omega, fun q2' nq2 => ?_⟩⟩
      have L3' := L3.grow g4
      have hrq : r ≠ q2' := fun z => by subst z; rw [L3'.hl] at nq2; cases nq2
      refine ⟨r, q2', vs ++ ws, us, rfl, rfl, .inl (by rw [upd_ne hrq]; exact L3'.hl), .inl upd_same, by rw [lim, List.length_append]; show _ ≤ 16777216; omega, fun r2 nr2 => ?_⟩
      obtain ⟨L4, gd4⟩ := ll_step S4.gd.hh g4.sub L3 g4 f4 nq2 nr2 (by rw [List.length_append]; omega)
      exact done r2 _ F4 _ (S4.gd.trans (g4.trans gd4)) L4
    | ret d => rw [q] at g; exact absurd g Bool.false_ne_true
    | brk e => rw [q] at g; exact absurd g Bool.false_ne_true
    | cont e => rw [q] at g; exact absurd g Bool.false_ne_true
    | exc c e => rw [q] at g; exact absurd g Bool.false_ne_true
    | bad => rw [q] at g; exact absurd g Bool.false_ne_true
end
/-- what a def gives that makes a list of new lists -/
def spL (K : PySem.W.Frag) (f : List D → Bool) : Sp := fun vs H Q E => ∃ F ds, Sub F H ∧ RpA K F vs ds ∧ f ds = true ∧ ∀ L us F' H', Gd F H F' H' → FLL H F' H' L us → Q (.ref L) H'
def CaL (P : Program) (w : World) (K : PySem.W.Frag) (mg : Str → Option Value) (base : Heap) (j : Nat) (x : Str) (f : List D → Bool) : Prop :=
  ∃ fa fd ps, FnOk P w K mg base (L2.CX P w) j fa fd ps (spL K f) ∧ mg x = some (.ref fa) ∧ PySem.W.keepIn K (.ref fa) = true ∧ Binds K fd ps []
theorem def_okL {P : Program} {w : World} {K : PySem.W.Frag} {mg : Str → Option Value} {base : Heap} {ct : String → Addr} {x : Str} {st : Stmt} {f : Addr} {fd : FuncData} {N ps : List Str} {k : Nat} {fb : En → Bool}
    (F : FnP K x st f fd) (hm : mg x = some (.ref f)) (S : FnScope N ps (defScope st))
    (hbi : ∀ (kV doc pm : Value) (an : Option Addr) (cdv ct : Value) (us : List Value), us.length = ps.length → bindArgs (PySem.W.fnOf x x (defArgs st) (defBody st) (defScope st) .none kV doc pm an cdv ct) ⟨us, []⟩ = pure (ps.zip us))
    (hb : ∀ (cdv : Value) (A : Around) (outer : List Env) (s : Shared) (H : Hp) (E : XK) (W : WS), Cz ct k (cxOf (L2.CX P w) P w K mg base N x (defScope st) f cdv A outer s H E) W → PSs (cxOf (L2.CX P w) P w K mg base N x (defScope st) f cdv A outer s H E) (defBody st) (tLL K fb)) :
    CaL P w K mg base (k + 1) x (mkLs ps.length N.length fb) := by
  refine ⟨f, fd, ps, ?_, hm, F.kp, F.bindsN hbi⟩
  refine F.ok S (fun vs H Q E h => ?_) (fun cdv A outer s H vs Q E hr h => ?_)
  · obtain ⟨F0, ds, hs, r, h, _⟩ := h
    unfold mkLs at h
    rw [Bool.and_eq_true] at h
    rw [r.length]
    exact of_decide_eq_true h.1
  · obtain ⟨F0, ds, hs, r, h, done⟩ := h
    unfold mkLs at h
    rw [Bool.and_eq_true] at h
    have C : Cz ct k (cxOf (L2.CX P w) P w K mg base N x (defScope st) f cdv A outer s H E) (fun c _ H' => E (.ref (ct c)) none H') :=
      ⟨(takes_of rfl rfl rfl rfl).imp fun c d σ H' ⟨c', e1, e2, z⟩ => by rw [e1, e2]; exact z, passes_of rfl, rfl, S.nd, hr⟩
    exact ⟨_, hb cdv A outer s H E _ C, H, F0, F0, iniE N.length ds, sr_ini hs r, h.2, fun L us F' H' g f => done L us F' H' g f⟩
/-! ### the lists are spoilt -/
/-- rows is a list of lists: each may change, nothing else does -/
def spS : Sp := fun vs H Q E => ∃ (L : Addr) (as : List Addr), vs = [.ref L] ∧ H L = some (.lst (as.map V.ref)) ∧ as.Nodup ∧ L ∉ as ∧ (∀ a ∈ as, ∃ xs, H a = some (.lst xs) ∧ xs.length ≤ 1000000) ∧ ∀ H', (∀ b, b ∉ as → H' b = H b) → Q (.bl true) H'
def CaS (P : Program) (w : World) (K : PySem.W.Frag) (mg : Str → Option Value) (base : Heap) (j : Nat) (x : Str) : Prop :=
  ∃ fa fd ps, FnOk P w K mg base (L2.CX P w) j fa fd ps spS ∧ mg x = some (.ref fa) ∧ PySem.W.keepIn K (.ref fa) = true ∧ Binds K fd ps []
section
variable {ct : String → Addr} {k : Nat} {X : Cx} {W : WS} {e a b c : Expr} {es : List Expr} {pos : Pos} {ev ea eb ec : Xv}
theorem e_spoil {j j2 : Nat} {fx gx : Str} {p p2 pos2 : Pos} {f : List D → Bool} {aa : Av} (G : CaL X.prog X.w X.K X.mg X.base j fx f) (G2 : CaS X.prog X.w X.K X.mg X.base j2 gx) (ha : PAv ct k X W (e :: es) aa) (hj : j ≤ k := by decide) (hj2 : j2 ≤ k := by decide) (hg : Gl X fx := by rfl) (hg2 : Gl X gx := by rfl) (hdb : (fx == ("__debug__" : Str)) = false := by decide) (hdb2 : (gx == ("__debug__" : Str)) = false := by decide)
    (he : starEach (e :: es) X.env = (false, eval e X.env) :: starEach es X.env := by rfl) (hpl : (backTo pos2 (starEach es X.env)).any (·.1) = false := by rfl)
    (he2 : starEach [.Call (.Name fx p2) (e :: es) [] pos2] X.env = (false, eval (.Call (.Name fx p2) (e :: es) [] pos2) X.env) :: starEach [] X.env := by rfl) (hpl2 : (backTo pos (starEach [] X.env)).any (·.1) = false := by rfl) :
    PEv ct k X W (.Call (.Name gx p) [.Call (.Name fx p2) (e :: es) [] pos2] [] pos) (xSp f aa) := fun C => by
  obtain ⟨fa, fd, ps, G, hm, hk, hb⟩ := G
  obtain ⟨fa2, fd2, ps2, G2, hm2, hk2, hb2⟩ := G2
  exact (pe_callS G2 (C.room.mono hj2) hg2 hm2 hk2 hb2 (fun σ => passAt C.tk σ) (pa_cons (pe_callS G (C.room.mono hj) hg hm hk hb (fun σ => passAt C.tk σ) (ha C) hdb he hpl) pa_nil he2) hdb2 he2 hpl2).imp fun σ H Q ⟨H0, F0, F, env, S, g⟩ => seq S g fun vs ds F1 H1 S1 g1 rv q => by
    by_cases z : f ds = true
    · rw [if_pos z] at q
      refine ⟨F1, ds, S1.sub, rv, z, fun L us F' H' gd fl => ?_⟩
      obtain ⟨as, e1, nd, h1⟩ := fl.fl
      refine ⟨L, as, rfl, by rw [← e1]; exact fl.hl, nd, fun hm => fl.ni (by rw [e1]; exact List.mem_map.mpr ⟨L, hm, rfl⟩), fun a ha => (h1 a ha).2.2, fun H2 h2 => ?_⟩
      refine q (.bl true) F' H2 ⟨gd.ff, fun b o hb => ?_, fun b u hb => ?_, gd.nw⟩ (.bl true)
      · have nb : b ∉ as := fun m => by rw [(h1 b m).1] at hb; cases hb
        rw [h2 b nb]
        exact gd.hh b o hb
      · have nb : b ∉ as := fun m => by rw [(h1 b m).2.1] at hb; cases hb
        rcases gd.sub b u hb with y | ⟨o', y⟩
        · exact .inl (by rw [h2 b nb]; exact y)
        · exact .inr ⟨o', by rw [h2 b nb]; exact y⟩
    · rw [if_neg z] at q
      exact (show False from q).elim
end
/-- the walk of the def that spoils -/
def tSp : TS := fun Dn σ H => ∃ (L : Addr) (as : List Addr), σ = [some (.ref L), none] ∧ H L = some (.lst (as.map V.ref)) ∧ as.Nodup ∧ L ∉ as ∧ (∀ a ∈ as, ∃ xs, H a = some (.lst xs) ∧ xs.length ≤ 1000000) ∧ ∀ H', (∀ b, b ∉ as → H' b = H b) → Dn.rt (.bl true) H'
section
variable {ct : String → Addr} {k : Nat} {X : Cx} {W : WS}
theorem kit_list {K : PySem.W.Frag} : PySem.W.kitOne K (.type "list") (.type "list") = some true := by rfl
theorem sp_body {p1 p2 p3 p4 p5 p6 p7 p8 p9 p10 a1 a2 a3 a4 a5 b1 b2 b3 b4 b5 b6 f1 r1 r2 : Pos} {j1 j2 j3 j4 j5} (hN : X.N = [("rows" : Str), ("some" : Str)]) (hm : X.mg "isinstance" = none) (hl : X.mg "list" = none) (hg : Gl X "isinstance") (hg2 : Gl X "list")
    (hx : Loc X.env.scope "some") (hf : X.fn "some" = true ∨ X.env.scope.names.lookup ("some" : Str) = some .local) (hv : Vis X.env.scope "rows") (hv2 : Vis X.env.scope "some")
    (he1 : starEach [.Name "some" p4, .Name "list" p5] X.env = (false, eval (.Name "some" p4) X.env) :: starEach [.Name "list" p5] X.env) (he2 : starEach [.Name "list" p5] X.env = (false, eval (.Name "list" p5) X.env) :: starEach [] X.env) (hpl : (backTo p6 (starEach [.Name "list" p5] X.env)).any (·.1) = false)
    (hit : ∀ whole, isTrue (.Call (.Name "isinstance" p3) [.Name "some" p4, .Name "list" p5] [] p6) X.env whole = (do let v ← whole; standAt (Expr.Call (.Name "isinstance" p3) [.Name "some" p4, .Name "list" p5] [] p6).pos; holding [v] (truthy v)))
    (hst : starEach [.Constant .none j2 a3] X.env = (false, eval (.Constant .none j2 a3) X.env) :: starEach [] X.env)
    (hbase : attributeBase (.Name "some" a1) "append" X.env (eval (.Name "some" a1) X.env) = eval (.Name "some" a1) X.env)
    (hfew : ((backTo a4 (starEach [.Constant .none j2 a3] X.env)).all (fun x => !x.1) && (backToKw a4 (keywordEach [] X.env)).all (fun x => x.1.isSome) && decide (([.Constant .none j2 a3] : List Expr).length + ([] : List Keyword).length + (if ([] : List Keyword).isEmpty then 0 else 1) < 30)) = true)
    (hline : (a2.endLine == a4.line) = true) (hplain : (backTo a4 (starEach [] X.env)).any (·.1) = false)
    (hs : swapsWith (.Call (.Attribute (.Name "some" a1) "append" a2) [.Constant .none j2 a3] [] a4) none a5.line X.env = pure false)
    (hstB : starEach [.Constant (.int 0) j3 b3, .Constant (.int 7) j4 b4] X.env = (false, eval (.Constant (.int 0) j3 b3) X.env) :: starEach [.Constant (.int 7) j4 b4] X.env) (hstB2 : starEach [.Constant (.int 7) j4 b4] X.env = (false, eval (.Constant (.int 7) j4 b4) X.env) :: starEach [] X.env)
    (hbaseB : attributeBase (.Name "some" b1) "insert" X.env (eval (.Name "some" b1) X.env) = eval (.Name "some" b1) X.env)
    (hfewB : ((backTo b5 (starEach [.Constant (.int 0) j3 b3, .Constant (.int 7) j4 b4] X.env)).all (fun x => !x.1) && (backToKw b5 (keywordEach [] X.env)).all (fun x => x.1.isSome) && decide (([.Constant (.int 0) j3 b3, .Constant (.int 7) j4 b4] : List Expr).length + ([] : List Keyword).length + (if ([] : List Keyword).isEmpty then 0 else 1) < 30)) = true)
    (hlineB : (b2.endLine == b5.line) = true) (hplainB : (backTo b5 (starEach [.Constant (.int 7) j4 b4] X.env)).any (·.1) = false)
    (hsB : swapsWith (.Call (.Attribute (.Name "some" b1) "insert" b2) [.Constant (.int 0) j3 b3, .Constant (.int 7) j4 b4] [] b5) none b6.line X.env = pure false)
    (hfs : ∀ x, foldedSetIterable (.Name "rows" p2) X.env x = pure x) :
    Cz ct k X W → PSs X [.For (.Name "some" p1) (.Name "rows" p2) [.If (.UnaryOp .Not (.Call (.Name "isinstance" p3) [.Name "some" p4, .Name "list" p5] [] p6) p7) [.Return (some (.Constant (.bool false) j1 p8)) p9] [] p10, .Expr (.Call (.Attribute (.Name "some" a1) "append" a2) [.Constant .none j2 a3] [] a4) a5, .Expr (.Call (.Attribute (.Name "some" b1) "insert" b2) [.Constant (.int 0) j3 b3, .Constant (.int 7) j4 b4] [] b5) b6] [] f1, .Return (some (.Constant (.bool true) j5 r1)) r2] tSp := fun C => by
  have h0 : X.N[0]? = some ("rows" : Str) := by rw [hN]; rfl
  have h1 : X.N[1]? = some ("some" : Str) := by rw [hN]; rfl
  refine (pss_cons (ps_for C.po C.calm (pi_list (pe_var h0 hv (by decide) (by decide))) (pg_name C.nd h1 hx hf)
    (pss_cons (ps_if (pt_not (pt_val (pe_callB call_isi hg hm (by decide +kernel) (pa_cons (pe_var h1 hv2 (by decide) (by decide)) (pa_cons (pe_bltn (v := .ty "list") hg2 hl (by decide +kernel) rfl (by decide) (by decide)) pa_nil he2) he1) (by decide) (by decide) he1 hpl) hit)) (pss_one (ps_ret pe_bl)) pss_nil)
    (pss_cons (ps_expr (pe_bm PySem.F.plainAttrs_list PySem.F.slot_list_append PySem.F.type_list_append mt_append (pe_var h1 hv2 (by decide) (by decide)) (pa_cons pe_non pa_nil hst) hbase hfew hline hst hplain) hs)
    (pss_one (ps_expr (pe_bm PySem.F.plainAttrs_list PySem.F.slot_list_insert PySem.F.type_list_insert mt_insert (pe_var h1 hv2 (by decide) (by decide)) (pa_cons pe_int (pa_cons pe_int pa_nil hstB2) hstB) hbaseB hfewB hlineB hstB hplainB) hsB)))) hfs) (pss_one (ps_ret pe_bl))).imp ?_
  rintro Dn σ H ⟨L, as, rfl, hL, nd, nL, ha, done⟩
  refine ⟨.ref L, rfl, L, rfl, ⟨_, .inl (.inl hL)⟩, fun i m σ H' => m = as.length - i ∧ i ≤ as.length ∧ (∃ v, σ = [some (.ref L), v]) ∧ (∀ b, b ∉ as → H' b = H b) ∧ ∀ j a, i ≤ j → as[j]? = some a → ∃ xs, H' a = some (.lst xs) ∧ xs.length ≤ 1000000, ⟨as.length, by omega, Nat.zero_le _, ⟨none, rfl⟩, fun _ _ => rfl, fun j a _ e => ha a (List.mem_of_getElem? e)⟩, ?_⟩
  rintro i m σ H' ⟨rfl, hi, ⟨v, rfl⟩, same, rest⟩
  have hL' : H' L = some (.lst (as.map V.ref)) := by rw [same L nL]; exact hL
  by_cases hlt : i < as.length
  · right
    have hai : as[i]? = some as[i] := List.getElem?_eq_getElem hlt
    refine ⟨⟨as.map V.ref, .ref as[i], .inl (.inl hL'), by rw [List.getElem?_map, hai]; rfl⟩, fun σ2 H2 => (∃ v, σ2 = [some (.ref L), v]) ∧ (∀ b, b ∉ as → H2 b = H b) ∧ ∀ j a, i + 1 ≤ j → as[j]? = some a → ∃ xs, H2 a = some (.lst xs) ∧ xs.length ≤ 1000000, fun σ2 H2 ⟨q1, q2, q3⟩ => ⟨as.length - (i + 1), by omega, rfl, hlt, q1, q2, q3⟩, ?_⟩
    rintro x H2 ⟨rfl, hx2⟩
    have ex : x = .ref as[i] := by
      have := hx2 _ (.inl (.inl hL'))
      rw [List.getElem?_map, hai] at this
      exact (Option.some.inj this).symm
    subst ex
    obtain ⟨xs, hxs, hxl⟩ := rest i as[i] (Nat.le_refl _) hai
    have hmem : as[i] ∈ as := List.getElem_mem hlt
    have apart : ∀ (j : Nat) (a : Addr), i + 1 ≤ j → as[j]? = some a → a ≠ as[i] := fun j a hj e z => by
      obtain ⟨hj2, e2⟩ := List.getElem?_eq_some_iff.mp e
      have := (List.nodup_iff_pairwise_ne.mp nd)
      have := List.pairwise_iff_getElem.mp this i j hlt hj2 (by omega)
      exact this (by rw [e2, z])
    refine ⟨.ref as[i], rfl, .ref as[i], .ty "list", .type "list", .type "list", true, rfl, .ty "list", .base (.lst hxs), kit_list, true, rfl, ?_⟩
    show (if (!true) = true then _ else _)
    rw [if_neg (by decide)]
    refine ⟨.ref as[i], rfl, .inl ⟨rfl, xs, .inl (.inl hxs)⟩, as[i], xs, .non, rfl, rfl, hxs, by rw [lim]; show _ < 16777216; omega, ?_⟩
    refine ⟨.ref as[i], rfl, .inl ⟨rfl, xs ++ [.non], .inl (.inl upd_same)⟩, as[i], xs ++ [.non], 0, .int 7, rfl, rfl, upd_same, by rw [lim, List.length_append]; show _ < 16777216; simp; omega, by decide, by decide, ?_⟩
    refine ⟨⟨_, rfl⟩, fun b nb => ?_, fun j a hj e => ?_⟩
    · have ne : b ≠ as[i] := fun z => nb (z ▸ hmem)
      rw [upd_ne ne, upd_ne ne]
      exact same b nb
    · have ne := apart j a hj e
      rw [upd_ne ne, upd_ne ne]
      exact rest j a (by omega) e
  · left
    refine ⟨⟨as.map V.ref, .inl (.inl hL'), by rw [List.length_map]; omega⟩, ?_⟩
    exact done H' same
end
theorem def_okS {P : Program} {w : World} {K : PySem.W.Frag} {mg : Str → Option Value} {base : Heap} {ct : String → Addr} {x : Str} {st : Stmt} {f : Addr} {fd : FuncData} {k : Nat}
    (F : FnP K x st f fd) (hm : mg x = some (.ref f)) (S : FnScope [("rows" : Str), ("some" : Str)] [("rows" : Str)] (defScope st))
    (hbi : ∀ (kV doc pm : Value) (an : Option Addr) (cdv ct : Value) (us : List Value), us.length = 1 → bindArgs (PySem.W.fnOf x x (defArgs st) (defBody st) (defScope st) .none kV doc pm an cdv ct) ⟨us, []⟩ = pure ([("rows" : Str)].zip us))
    (hb : ∀ (cdv : Value) (A : Around) (outer : List Env) (s : Shared) (H : Hp) (E : XK) (W : WS), Cz ct k (cxOf (L2.CX P w) P w K mg base [("rows" : Str), ("some" : Str)] x (defScope st) f cdv A outer s H E) W → PSs (cxOf (L2.CX P w) P w K mg base [("rows" : Str), ("some" : Str)] x (defScope st) f cdv A outer s H E) (defBody st) tSp) :
    CaS P w K mg base (k + 1) x := by
  refine ⟨f, fd, [("rows" : Str)], ?_, hm, F.kp, F.bindsN hbi⟩
  refine F.ok S (fun vs H Q E h => ?_) (fun cdv A outer s H vs Q E hr h => ?_)
  · obtain ⟨L, as, rfl, _⟩ := h
    rfl
  · obtain ⟨L, as, rfl, h1, h2, h3, h4, h5⟩ := h
    have C : Cz ct k (cxOf (L2.CX P w) P w K mg base [("rows" : Str), ("some" : Str)] x (defScope st) f cdv A outer s H E) (fun c _ H' => E (.ref (ct c)) none H') :=
      ⟨(takes_of rfl rfl rfl rfl).imp fun c d σ H' ⟨c', e1, e2, z⟩ => by rw [e1, e2]; exact z, passes_of rfl, rfl, S.nd, hr⟩
    exact ⟨_, hb cdv A outer s H E _ C, L, as, rfl, h1, h2, h3, h4, fun H' z => h5 H' z⟩
end Pv

namespace Pv
variable [HasW]
open PySem PySem.Spec L2 LamX
/-! ### tables of code objects: they may grow, all else stays -/
def IsTC (b : Addr) (o : HO) : Prop := (∃ ps, o = .tbl ps) ∨ ∃ q, o = CodeO b q
def NoT (F : Hp) : Prop := ∀ b o, F b = some o → ¬ IsTC b o
open Classical in
noncomputable def noT (F : Hp) : Hp := fun b => if ∃ o, F b = some o ∧ IsTC b o then none else F b
theorem code_ne_kd {c : Addr} {q : Str} {ks : List (Option (List Nat))} : CodeO c q ≠ .ext (kdH c ks) := fun z => by
  unfold CodeO at z
  injection z with z
  have h := congrFun z ⟨Array.replicate (c + 1) { cls := .none, data := .fields #[.none, .str q default] }, {}⟩
  have hg : (⟨Array.replicate (c + 1) { cls := .none, data := .fields #[.none, .str q default] }, {}⟩ : Heap).get? c = some { cls := .none, data := .fields #[.none, .str q default] } := by
    unfold Heap.get?
    simp
  have h1 : kdH c ks ⟨Array.replicate (c + 1) { cls := .none, data := .fields #[.none, .str q default] }, {}⟩ := by
    rw [← h]
    exact ⟨_, _, _, hg, rfl, rfl⟩
  obtain ⟨_, o, es, ep, e, hx, _⟩ := h1
  rw [hg] at e
  cases e
  have := hx.1
  cases this
theorem tc_lst {b : Addr} {xs : List V} : ¬ IsTC b (.lst xs) := by
  rintro (⟨ps, z⟩ | ⟨q, z⟩)
  · cases z
  · unfold CodeO at z; cases z
theorem tc_tup {b : Addr} {xs : List V} : ¬ IsTC b (.tup xs) := by
  rintro (⟨ps, z⟩ | ⟨q, z⟩)
  · cases z
  · unfold CodeO at z; cases z
theorem tc_dK {b : Addr} {xs : List (Key × V)} : ¬ IsTC b (.dK xs) := by
  rintro (⟨ps, z⟩ | ⟨q, z⟩)
  · cases z
  · unfold CodeO at z; cases z
theorem tc_frz {b : Addr} {ob : Obj} {u : HO} : ¬ IsTC b (.frz ob u) := by
  rintro (⟨ps, z⟩ | ⟨q, z⟩)
  · cases z
  · unfold CodeO at z; cases z
theorem tc_kd {b : Addr} {ks : List (Option (List Nat))} : ¬ IsTC b (.ext (kdH b ks)) := by
  rintro (⟨ps, z⟩ | ⟨q, z⟩)
  · cases z
  · exact code_ne_kd z.symm
section
variable {F H : Hp} {b : Addr} {o : HO}
theorem noT_at (h : F b = some o) (n : ¬ IsTC b o) : noT F b = some o := by
  unfold noT
  rw [if_neg]
  · exact h
  · rintro ⟨o', e, t⟩
    rw [h] at e; cases e; exact n t
theorem noT_some (h : noT F b = some o) : F b = some o ∧ ¬ IsTC b o := by
  unfold noT at h
  split at h
  · cases h
  · rename_i z
    exact ⟨h, fun t => z ⟨o, h, t⟩⟩
theorem noT_none (h : F b = none) : noT F b = none := by
  cases q : noT F b with
  | none => rfl
  | some o => rw [(noT_some q).1] at h; cases h
theorem NoT.noT : NoT (noT F) := fun b o h => (noT_some h).2
end
section
variable {K : PySem.W.Frag} {F : Hp}
mutual
theorem Rp.er : ∀ {v : V} {d : D}, Rp K F v d → Rp K (noT F) v d
  | _, _, .non => .non
  | _, _, .bl b => .bl b
  | _, _, .int i => .int i
  | _, _, .str l z => .str l z
  | _, _, .tup q z r => .tup (q.imp (fun h => noT_at h tc_tup) id) z (RpA.er r)
  | _, _, .lst q z r => .lst (noT_at q tc_lst) z (RpA.er r)
  | _, _, .dic q z r => .dic (noT_at q tc_dK) z (RpK.er r)
  | _, _, .obj a => .obj a
  | _, _, .fn n => .fn n
  | _, _, .kd q z r => .kd (noT_at q tc_kd) z r
theorem RpA.er : ∀ {vs : List V} {ds : List D}, RpA K F vs ds → RpA K (noT F) vs ds
  | _, _, .nil => .nil
  | _, _, .cons r t => .cons (Rp.er r) (RpA.er t)
theorem RpK.er : ∀ {vs : List (Key × V)} {ds : List (List Nat × D)}, RpK K F vs ds → RpK K (noT F) vs ds
  | _, _, .nil => .nil
  | _, _, .cons z r t => .cons z (Rp.er r) (RpK.er t)
end
theorem RpO.er {H : Hp} {a : Addr} {d : D} (r : RpO K F H a d) : RpO K (noT F) H a d := by
  cases r with
  | kd q z r => exact .kd q z r
  | lst q z r => exact .lst q z r.er
  | dic q z r => exact .dic q z r.er
theorem RpO.ntc {H : Hp} {a : Addr} {d : D} (r : RpO K F H a d) : ∃ o, H a = some o ∧ ¬ IsTC a o := by
  cases r with
  | kd q z r => exact ⟨_, q, tc_kd⟩
  | lst q z r => exact ⟨_, q, tc_lst⟩
  | dic q z r => exact ⟨_, q, tc_dK⟩
end
section
variable {K : PySem.W.Frag} {H0 F0 F H F1 H1 : Hp} {σ σ1 : St} {env env1 : En} {T : List (Addr × Str)}
theorem Gd.er (g : Gd F0 H0 F H) (n : NoT F0) : Gd F0 H0 (noT F) H := ⟨fun b u h => noT_at (g.ff b u h) (n b u h), g.hh, fun b u h => g.sub b u (noT_some h).1, fun b h => g.nw b fun z => h (noT_none z)⟩
theorem SR.er (S : SR K H0 F0 F H σ env) (n : NoT F0) : SR K H0 F0 (noT F) H σ env := by
  refine ⟨S.gd.er n, S.len, fun i d e => ?_, fun i d e => ?_, S.ap⟩
  · obtain ⟨v, h1, h2⟩ := S.fz i d e
    exact ⟨v, h1, h2.er⟩
  · obtain ⟨a, h1, h2, h3, h4⟩ := S.ow i d e
    exact ⟨a, h1, h2, noT_none h3, h4.er⟩
/-- the state of a def that makes lambdas -/
structure ST (K : PySem.W.Frag) (T : List (Addr × Str)) (H0 F0 F H : Hp) (σ : St) (env : En) : Prop where
  s : SR K H0 F0 F H σ env
  n0 : NoT H0
  m0 : NoT F0
  nf : NoT F
  tb : Tabs T H
theorem Tabs.same (t : Tabs T H) (s : Same H H1) : Tabs T H1 := t.ext s
theorem ST.grow (S : ST K T H0 F0 F H σ env) (g : Gd F H F1 H1) : ST K T H0 F0 (noT F1) H1 σ env := ⟨(S.s.grow g).er S.m0, S.n0, S.m0, NoT.noT, S.tb.ext g.hh⟩
/-- all but the tables stay -/
theorem ST.tab (S : ST K T H0 F0 F H σ env) (e : ExtN H H1) (t : Tabs T H1) : ST K T H0 F0 F H1 σ env := by
  have keep : ∀ b o, H b = some o → ¬ IsTC b o → H1 b = some o := fun b o h n => e b o h fun ps z => n (.inl ⟨ps, z⟩)
  have gd := S.s.gd
  refine ⟨⟨⟨gd.ff, fun b o h => keep b o (gd.hh b o h) (S.n0 b o h), fun b u h => ?_, gd.nw⟩, S.s.len, S.s.fz, fun i d q => ?_, S.s.ap⟩, S.n0, S.m0, S.nf, t⟩
  · rcases gd.sub b u h with z | ⟨ob, z⟩
    · exact .inl (keep b u z (S.nf b u h))
    · exact .inr ⟨ob, keep b _ z tc_frz⟩
  · obtain ⟨a, h1, h2, h3, h4⟩ := S.s.ow i d q
    refine ⟨a, h1, h2, h3, h4.mono (fun _ _ h => h) fun o z => ?_⟩
    obtain ⟨o', e1, e2⟩ := h4.ntc
    rw [z] at e1
    cases e1
    exact keep a o z e2
/-- the ghost start, with the tables and their code objects -/
noncomputable def plusT (H0 H : Hp) : Hp := fun b => open Classical in if ∃ o, H b = some o ∧ IsTC b o then H b else H0 b
theorem plus_some (s : Same H0 H) {b : Addr} {o : HO} (h : H0 b = some o) : plusT H0 H b = some o := by
  unfold plusT
  split
  · exact s b o h
  · exact h
theorem plus_none {b : Addr} (s : Same H0 H) (h : plusT H0 H b = none) : H0 b = none := by
  cases q : H0 b with
  | none => rfl
  | some o => rw [plus_some s q] at h; cases h
theorem plus_free {b : Addr} {o : HO} (h : H b = some o) (n : ¬ IsTC b o) : plusT H0 H b = H0 b := by
  unfold plusT
  rw [if_neg]
  rintro ⟨o', e, t⟩
  rw [h] at e; cases e; exact n t
theorem ST.plus (S : ST K T H0 F0 F H σ env) : SR K (plusT H0 H) F0 F H σ env := by
  have gd := S.s.gd
  refine ⟨⟨gd.ff, fun b o h => ?_, gd.sub, fun b h => ?_⟩, S.s.len, S.s.fz, fun i d q => ?_, S.s.ap⟩
  · unfold plusT at h
    split at h
    · exact h
    · exact gd.hh b o h
  · rcases gd.nw b h with z | z
    · exact .inl z
    · right
      cases q : F b with
      | none => exact absurd q h
      | some u =>
        have nt := S.nf b u q
        rcases gd.sub b u q with y | ⟨ob, y⟩
        · rw [plus_free y nt]; exact z
        · rw [plus_free y tc_frz]; exact z
  · obtain ⟨a, h1, h2, h3, h4⟩ := S.s.ow i d q
    obtain ⟨o', e1, e2⟩ := h4.ntc
    exact ⟨a, h1, by rw [plus_free e1 e2]; exact h2, h3, h4⟩
theorem Gd.unplus (s : Same H0 H) (g : Gd F0 (plusT H0 H) F1 H1) : Gd F0 H0 F1 H1 := ⟨g.ff, fun b o h => g.hh b o (plus_some s h), g.sub, fun b h => (g.nw b h).imp id fun z => plus_none s z⟩
theorem tabs_plus (t : Tabs T H) (g : Same (plusT H0 H) H1) : Tabs T H1 := fun p hp => by
  obtain ⟨ps, h1, h2, h3⟩ := t p hp
  have at_ : ∀ {b : Addr} {o : HO}, H b = some o → IsTC b o → H1 b = some o := fun {b o} h i => g b o (by
    unfold plusT
    rw [if_pos ⟨o, h, i⟩]; exact h)
  refine ⟨ps, at_ h1 (.inl ⟨ps, rfl⟩), h2, fun pos cv hc => ?_⟩
  obtain ⟨c, e1, e2⟩ := h3 pos cv hc
  exact ⟨c, e1, at_ e2 (.inr ⟨_, rfl⟩)⟩
theorem ST.unplus (S : ST K T H0 F0 F H σ env) (S1 : SR K (plusT H0 H) F0 F1 H1 σ1 env1) : ST K T H0 F0 (noT F1) H1 σ1 env1 := by
  have s := S.s.gd.hh
  refine ⟨SR.er ⟨Gd.unplus s S1.gd, S1.len, S1.fz, fun i d q => ?_, S1.ap⟩ S.m0, S.n0, S.m0, NoT.noT, tabs_plus S.tb S1.gd.hh⟩
  obtain ⟨a, h1, h2, h3, h4⟩ := S1.ow i d q
  exact ⟨a, h1, plus_none s h2, h3, h4⟩
end
/-! ### statements -/
def GotT (K : PySem.W.Frag) (T : List (Addr × Str)) (W : WS) (H0 F0 : Hp) (Dn : Ends) : Fl → Prop
  | .nx env => ∀ σ F H, ST K T H0 F0 F H σ env → Dn.nx σ H
  | .ret d => ∀ v F H, Gd F0 H0 F H → Rp K F v d → Dn.rt v H
  | .brk env => ∀ σ F H, ST K T H0 F0 F H σ env → Dn.bk σ H
  | .cont env => ∀ σ F H, ST K T H0 F0 F H σ env → Dn.ct σ H
  | .exc c env => ∀ σ F H, SR K H0 F0 F H σ env → W c σ H
  | .bad => False
def rsT (K : PySem.W.Frag) (T : List (Addr × Str)) (W : WS) (sv : Sv) : TS := fun Dn σ H => ∃ H0 F0 F env, ST K T H0 F0 F H σ env ∧ GotT K T W H0 F0 Dn (sv env)
def PSt (T : List (Addr × Str)) (ct : String → Addr) (k : Nat) (X : Cx) (W : WS) (st : Stmt) (sv : Sv) : Prop := Cz ct k X W → PS X st (rsT X.K T W sv)
def PSst (T : List (Addr × Str)) (ct : String → Addr) (k : Nat) (X : Cx) (W : WS) (st : List Stmt) (sv : Sv) : Prop := Cz ct k X W → PSs X st (rsT X.K T W sv)
section
variable {T : List (Addr × Str)} {ct : String → Addr} {k : Nat} {X : Cx} {W : WS} {e a b c : Expr} {es : List Expr} {pos : Pos} {ev ea eb ec : Xv} {st : Stmt} {rest : List Stmt} {s r : Sv}
/-- a statement that makes no lambda -/
theorem st_lift (h : PSv ct k X W st s) : PSt T ct k X W st s := fun C => (h C).imp fun Dn σ H ⟨H0, F0, F, env, S, g⟩ => ⟨plusT H0 H, F0, F, env, S.plus, by
  cases z : s env with
  | nx e => rw [z] at g; exact fun σ1 F1 H1 S1 => g σ1 _ H1 (S.unplus S1)
  | ret d => rw [z] at g; exact fun v F1 H1 g1 r1 => g v F1 H1 (Gd.unplus S.s.gd.hh g1) r1
  | brk e => rw [z] at g; exact fun σ1 F1 H1 S1 => g σ1 _ H1 (S.unplus S1)
  | cont e => rw [z] at g; exact fun σ1 F1 H1 S1 => g σ1 _ H1 (S.unplus S1)
  | exc c e => rw [z] at g; exact fun σ1 F1 H1 S1 => g σ1 _ H1 (S.unplus S1).s
  | bad => rw [z] at g; exact g⟩
theorem sst_nil : PSst T ct k X W [] sNil := fun C => pss_nil.imp fun Dn σ H ⟨H0, F0, F, env, S, g⟩ => g σ F H S
theorem sst_one (h : PSt T ct k X W st s) : PSst T ct k X W [st] s := fun C => pss_one (h C)
theorem sst_cons (h1 : PSt T ct k X W st s) (h2 : PSst T ct k X W rest r) : PSst T ct k X W (st :: rest) (sSeq s r) := fun C => (pss_cons (h1 C) (h2 C)).imp fun Dn σ H ⟨H0, F0, F, env, S, g⟩ => by
  refine ⟨H0, F0, F, env, S, ?_⟩
  unfold sSeq at g
  cases q : s env with
  | nx env' => rw [q] at g; exact fun σ' F' H' S' => ⟨H0, F0, F', env', S', g⟩
  | ret d => rw [q] at g; exact g
  | brk env' => rw [q] at g; exact g
  | cont env' => rw [q] at g; exact g
  | exc c env' => rw [q] at g; exact g
  | bad => rw [q] at g; exact g
theorem sst_frz (i : Nat) (h : PSt T ct k X W st s) : PSt T ct k X W st (sFrz i s) := fun C => (h C).imp fun Dn σ H ⟨H0, F0, F, env, S, g⟩ => by
  obtain ⟨F', S'⟩ := S.s.frz i
  exact ⟨H0, F0, _, _, ⟨S'.er S.m0, S.n0, S.m0, NoT.noT, S.tb⟩, g⟩
/-- a test that may make a lambda -/
def PTt (T : List (Addr × Str)) (ct : String → Addr) (k : Nat) (X : Cx) (W : WS) (e : Expr) (t : Tv) : Prop := Cz ct k X W → PT X e (fun σ H Q => ∃ H0 F0 F env, ST X.K T H0 F0 F H σ env ∧ match t env with
  | .ok b => ∀ F' H', ST X.K T H0 F0 F' H' σ env → Q b H'
  | .exc c => ∀ F' H', SR X.K H0 F0 F' H' σ env → W c σ H'
  | .bad => False)
theorem tt_lift {t : Tv} (h : PTv ct k X W e t) : PTt T ct k X W e t := fun C => (h C).imp fun σ H Q ⟨H0, F0, F, env, S, g⟩ => ⟨H0, F0, F, env, S.s, by
  cases z : t env with
  | ok b => rw [z] at g; exact fun v F1 H1 g1 rv => by cases rv; exact g _ H1 (S.grow g1)
  | exc c => rw [z] at g; exact fun F1 H1 g1 => g F1 H1 (S.s.grow g1)
  | bad => rw [z] at g; exact g⟩
theorem st_if {t : Tv} {sa sb : List Stmt} (ht : PTt T ct k X W e t) (ha : PSst T ct k X W sa s) (hb : PSst T ct k X W sb r) : PSt T ct k X W (.If e sa sb pos) (sIf t s r) := fun C =>
  (ps_if (ht C) (ha C) (hb C)).imp fun Dn σ H ⟨H0, F0, F, env, S, g⟩ => ⟨H0, F0, F, env, S, by
    unfold sIf at g
    cases q : t env with
    | ok d =>
      rw [q] at g
      intro F1 H1 S1
      cases d with
      | true => exact ⟨H0, F0, F1, env, S1, g⟩
      | false => exact ⟨H0, F0, F1, env, S1, g⟩
    | exc c => rw [q] at g; exact fun F1 H1 S1 => g σ F1 H1 S1
    | bad => rw [q] at g; exact g⟩
end
end Pv

namespace Pv
variable [HasW]
open PySem PySem.Spec L2 LamX
/-! ### walks of what no table stands in -/
def RFt (K : PySem.W.Frag) : Hp → Hp → It → List D → Prop := fun F _ J ds => WalkD K (noT F) NoL J ds ∧ ds.length ≤ LIM
def PFt (ct : String → Addr) (k : Nat) (X : Cx) (W : WS) (tg iter : Expr) (iv : Av) : Prop := Cz ct k X W → PI X tg iter (rd X.K (RFt X.K) W iv)
section
variable {ct : String → Addr} {k : Nat} {X : Cx} {W : WS} {e a b c tg : Expr} {es : List Expr} {pos : Pos} {ev ea eb ec : Xv}
theorem it_seq (h : PEv ct k X W e ev) : PFt ct k X W tg e (iSeq ev) := fun C =>
  ((pi_list (h C)).or ((pi_tup (h C)).or (pi_str (h C)))).imp fun σ H Q ⟨H0, F0, F, env, S, g⟩ => by
    by_cases h1 : ∃ ds, ev env = .ok (.lst ds)
    · obtain ⟨ds, z⟩ := h1
      refine .inl (seqE S g fun x d' F1 H1 ee S1 g1 rx q1 => ?_)
      rw [z] at ee; cases ee
      cases rx with
      | lst q zz r => exact ⟨_, rfl, ⟨_, .inl (S1.sub _ _ q)⟩, q1 _ F1 H1 (.refl S1.sub) ⟨wk_lst (noT_at q tc_lst) r.er, by rw [← r.length]; exact zz⟩⟩
    · by_cases h2 : ∃ ds, ev env = .ok (.tup ds)
      · obtain ⟨ds, z⟩ := h2
        refine .inr (.inl (seqE S g fun x d' F1 H1 ee S1 g1 rx q1 => ?_))
        rw [z] at ee; cases ee
        cases rx with
        | tup q zz r => exact ⟨_, rfl, ⟨_, S1.sub.tup q⟩, q1 _ F1 H1 (.refl S1.sub) ⟨wk_tup (q.imp (fun h => noT_at h tc_tup) id) r.er, by rw [← r.length]; exact zz⟩⟩
      · refine .inr (.inr (seqE S g fun x d' F1 H1 ee S1 g1 rx q1 => ?_))
        cases d' with
        | lst ds => exact absurd ⟨ds, ee⟩ h1
        | tup ds => exact absurd ⟨ds, ee⟩ h2
        | str l =>
          cases rx with
          | str _ z => exact ⟨_, rfl, q1 _ F1 H1 (.refl S1.sub) ⟨wk_str z, by simpa using z.1⟩⟩
        | _ => exact q1.elim
theorem it_r1 {p : Pos} (hm : X.mg "range" = none) (ha : PEv ct k X W a ea) (hg : Gl X "range" := by rfl) (hs : starEach [a] X.env = [(false, eval a X.env)] := by rfl) : PFt ct k X W tg (.Call (.Name "range" p) [a] [] pos) (iR1 ea) := fun C =>
  (pi_range1 hg hm (pa_cons (ha C) pa_nil hs) hs).imp fun σ H Q ⟨H0, F0, F, env, S, g⟩ => seq S g fun x d F1 H1 S1 g1 rx q1 => by
    cases d with
    | int j =>
      have ex := bo_int (H := H1) (.inl rx)
      subst ex
      dsimp only [rng1] at q1
      split at q1
      · rename_i z
        exact ⟨j, rfl, z.1, z.2.1, q1 _ F1 H1 (.refl S1.sub) ⟨wk_rng, by rw [rngD_len]; exact z.2.2⟩⟩
      · exact q1.elim
    | _ => exact q1.elim
end
section
variable {K : PySem.W.Frag} {H0 F0 F H F1 H1 : Hp} {σ σ1 : St} {env env1 : En} {T : List (Addr × Str)}
theorem SR.weak {B B' : Hp} (S : SR K B F0 F H σ env) (h : ∀ b o, B' b = some o → B b = some o) : SR K B' F0 F H σ env := by
  have hn : ∀ b, B b = none → B' b = none := fun b z => by
    cases q : B' b with
    | none => rfl
    | some o => rw [h b o q] at z; cases z
  refine ⟨⟨S.gd.ff, fun b o z => S.gd.hh b o (h b o z), S.gd.sub, fun b z => (S.gd.nw b z).imp id (hn b)⟩, S.len, S.fz, fun i d e => ?_, S.ap⟩
  obtain ⟨a, h1, h2, h3, h4⟩ := S.ow i d e
  exact ⟨a, h1, hn a h2, h3, h4⟩
theorem ST.rebase (S : ST K T H0 F0 F H σ env) : ST K T (noT (bse env σ H)) F F H σ env :=
  ⟨(S.s.rebase).weak fun b o h => (noT_some h).1, NoT.noT, S.nf, S.nf, S.tb⟩
theorem base_none (S : ST K T H0 F0 F H σ env) {a : Addr} (h : noT (bse env σ H) a = none) : H0 a = none := by
  cases q : H0 a with
  | none => rfl
  | some o =>
    have h1 := S.s.gd.hh a o q
    have h2 : bse env σ H a = some o := by
      cases z : bse env σ H a with
      | none => rw [bse_none S.s z] at q; cases q
      | some u =>
        have := bse_some z
        rw [h1] at this
        rw [this]
    rw [noT_at h2 (S.n0 a o q)] at h
    cases h
theorem Gd.unbaseT (S : ST K T H0 F0 F H σ env) (g : Gd F (noT (bse env σ H)) F1 H1) : Gd F0 H0 F1 H1 := by
  refine ⟨fun b u h => g.ff b u (S.s.gd.ff b u h), fun b o h => ?_, g.sub, fun b h => ?_⟩
  · cases q : noT (bse env σ H) b with
    | none => rw [base_none S q] at h; cases h
    | some u =>
      have h1 := bse_some (noT_some q).1
      rw [S.s.gd.hh b o h] at h1
      cases h1
      exact g.hh b _ q
  · rcases g.nw b h with z | z
    · exact S.s.gd.nw b z
    · exact .inr (base_none S z)
theorem ST.unbase (S : ST K T H0 F0 F H σ env) (S1 : SR K (noT (bse env σ H)) F F1 H1 σ1 env1) : SR K H0 F0 F1 H1 σ1 env1 := by
  refine ⟨Gd.unbaseT S S1.gd, S1.len, S1.fz, fun i d q => ?_, S1.ap⟩
  obtain ⟨a, h1, h2, h3, h4⟩ := S1.ow i d q
  exact ⟨a, h1, base_none S h2, h3, h4⟩
theorem ST.unbaseT (S : ST K T H0 F0 F H σ env) (S1 : ST K T (noT (bse env σ H)) F F1 H1 σ1 env1) : ST K T H0 F0 F1 H1 σ1 env1 := ⟨S.unbase S1.s, S.n0, S.m0, S1.nf, S1.tb⟩
end
section
variable {T : List (Addr × Str)} {ct : String → Addr} {k : Nat} {X : Cx} {W : WS} {e a b c : Expr} {es : List Expr} {pos : Pos} {ev ea eb ec : Xv}
/-- for G in iter: body, the body may make lambdas -/
theorem st_for {tg iter : Expr} {body : List Stmt} {G : Tg} {iv : Av} {bv : Sv} (hi : PFt ct k X W tg iter iv) (hg : X.N.Nodup → X.calm = true → PGv X tg G) (hb : PSst T ct k X W body bv)
    (hs : ∀ x, foldedSetIterable iter X.env x = pure x := by intro _; rfl) : PSt T ct k X W (.For tg iter body [] pos) (sFor G iv bv) := fun C =>
  (ps_for C.po C.calm (hi C) (hg C.nd C.calm) (hb C) hs).imp fun Dn σ H ⟨H0, F0, F, env, S, g⟩ => by
    refine ⟨H0, F0, F, env, S.s, ?_⟩
    unfold sFor at g
    cases qi : iv env with
    | exc c => rw [qi] at g; exact fun F' H' gd => g σ F' H' (S.s.grow gd)
    | bad => rw [qi] at g; exact g
    | ok ds =>
    rw [qi] at g
    have q : GotT X.K T W H0 F0 Dn (forD G bv ds env) := g
    intro J F1 H1 g1 rJ
    obtain ⟨wk, hz⟩ := rJ
    have S1 := S.grow g1
    refine ⟨fun i m σ' H' => m = ds.length - i ∧ i ≤ ds.length ∧ ∃ F' env', ST X.K T (noT (bse env σ H1)) (noT F1) F' H' σ' env' ∧ GotT X.K T W H0 F0 Dn (forD G bv (ds.drop i) env'),
      ⟨ds.length, by omega, Nat.zero_le _, noT F1, env, S1.rebase, q⟩, ?_⟩
    rintro i m σ' H' ⟨rfl, hi, F', env', S', q'⟩
    by_cases hlt : i < ds.length
    · refine .inr ⟨wk.go i H' F' hlt S'.s.gd.ff S'.s.sub trivial, fun σ2 H2 => ∃ F2 env2, ST X.K T (noT (bse env σ H1)) (noT F1) F2 H2 σ2 env2 ∧ GotT X.K T W H0 F0 Dn (forD G bv (ds.drop (i + 1)) env2),
        fun σ2 H2 ⟨F2, env2, S2, q2⟩ => ⟨ds.length - (i + 1), by omega, rfl, hlt, F2, env2, S2, q2⟩, fun x H2 hy => ?_⟩
      obtain ⟨F2, gd2, d, hd, rx⟩ := wk.yld i H' F' x H2 hlt S'.s.gd.ff S'.s.sub trivial hy
      have hdr : ds.drop i = d :: ds.drop (i + 1) := by
        rw [List.drop_eq_getElem_cons hlt]
        congr 1
        rw [List.getElem?_eq_getElem hlt] at hd
        exact Option.some.inj hd
      rw [hdr] at q'
      unfold forD at q'
      cases z : stT G d env' with
      | none => rw [z] at q'; exact q'.elim
      | some env2 =>
        rw [z] at q'
        refine g_run (ixs G) (fun i h => h) (S'.s.grow gd2) rx z fun σ2 S2 _ => ⟨_, _, noT F2, env2, ⟨S2.er S'.m0, S'.n0, S'.m0, NoT.noT, S'.tb.ext gd2.hh⟩, ?_⟩
        dsimp only at q'
        cases y : bv env2 with
        | nx e => rw [y] at q'; exact fun σ3 F3 H3 S3 => ⟨F3, e, S3, q'⟩
        | cont e => rw [y] at q'; exact fun σ3 F3 H3 S3 => ⟨F3, e, S3, q'⟩
        | brk e => rw [y] at q'; exact fun σ3 F3 H3 S3 => q' σ3 F3 H3 (S1.unbaseT S3)
        | ret d => rw [y] at q'; exact fun v F3 H3 g3 r3 => q' v F3 H3 (Gd.unbaseT S1 g3) r3
        | exc c e => rw [y] at q'; exact fun σ3 F3 H3 S3 => q' σ3 F3 H3 (S1.unbase S3)
        | bad => rw [y] at q'; exact q'.elim
    · have e : i = ds.length := by omega
      subst e
      rw [List.drop_length] at q'
      exact .inl ⟨wk.stop H' F' S'.s.gd.ff S'.s.sub trivial, q' σ' F' H' (S1.unbaseT S')⟩
/-! ### expressions that make a lambda -/
def PEt (T : List (Addr × Str)) (ct : String → Addr) (k : Nat) (X : Cx) (W : WS) (e : Expr) (ev : Xv) : Prop := Cz ct k X W → PE X e (fun σ H Q => ∃ H0 F0 F env, ST X.K T H0 F0 F H σ env ∧ match ev env with
  | .ok d => ∀ v F' H', ST X.K T H0 F0 F' H' σ env → Rp X.K F' v d → Q v H'
  | .exc c => ∀ F' H', SR X.K H0 F0 F' H' σ env → W c σ H'
  | .bad => False)
theorem st_asg {i : Nat} {x : Str} {p : Pos} (ha : PEt T ct k X W e ev) (hi : X.N[i]? = some x := by rfl) (hx : Loc X.env.scope x := by first | exact Or.inl rfl | exact Or.inr rfl) (hf : X.fn x = true ∨ X.env.scope.names.lookup x = some .local := by first | exact .inl rfl | exact .inr rfl)
    (hs : swapsWith e (some (.Name x p)) pos.line X.env = pure false := by rfl) : PSt T ct k X W (.Assign [.Name x p] e pos) (sAsg (.nm i) ev) := fun C =>
  (ps_set C.nd hi hx (ha C) hs hf).imp fun Dn σ H ⟨H0, F0, F, env, S, g⟩ => ⟨H0, F0, F, env, S, by
    unfold sAsg at g
    cases q : ev env with
    | ok d => rw [q] at g; exact fun v F' H' S' r => g _ F' H' ⟨S'.s.set i r, S'.n0, S'.m0, S'.nf, S'.tb⟩
    | exc c => rw [q] at g; exact fun F' H' S' => g σ F' H' S'
    | bad => rw [q] at g; exact g⟩
theorem tt_cmp {op : CmpOp} {r : R2} {f : D → D → Res D} (hd : OpD X.K r f) (ho : OpR X (compareOp op) r) (ha : PEt T ct k X W a ea) (hb : PBv ct k X W b eb) (hm : behindInMarks op b = false := by first | exact nomark _ | with_unfolding_all rfl) :
    PTt T ct k X W (.Compare a [op] [b] pos) (tVal (xOp f ea eb)) := fun C =>
  (pt_cmpR ho (ha C) (hb C) hm).imp fun σ H Q ⟨H0, F0, F, env, S, g⟩ => by
    refine ⟨H0, F0, F, env, S, ?_⟩
    have e : tVal (xOp f ea eb) env = ((ea env).bind fun x => (eb env).bind fun y => (f x y).calm.bind asB) := by
      unfold tVal xOp
      cases ea env with
      | ok x =>
        cases eb env with
        | ok y => cases f x y <;> rfl
        | exc c => rfl
        | bad => rfl
      | exc c => rfl
      | bad => rfl
    rw [e] at g
    cases q : ea env with
    | ok x =>
      rw [q] at g
      intro v F1 H1 S1 rv
      have g' : (match ((eb env).bind fun y => (f x y).calm.bind asB) with
        | .ok b => ∀ F' H', ST X.K T H0 F0 F' H' σ env → Q b H'
        | .exc c => ∀ F' H', SR X.K H0 F0 F' H' σ env → W c σ H'
        | .bad => False) := g
      refine ⟨H0, F0, F1, env, S1.s, ?_⟩
      cases q2 : eb env with
      | ok y =>
        rw [q2] at g'
        intro u F2 H2 g2 ru
        have S2 := S1.grow g2
        refine hd F2 H2 v u x y _ (S1.s.grow g2).sub (.inl (rv.mono g2.ff)) ru ?_
        have g2' : (match ((f x y).calm.bind asB) with
          | .ok b => ∀ F' H', ST X.K T H0 F0 F' H' σ env → Q b H'
          | .exc c => ∀ F' H', SR X.K H0 F0 F' H' σ env → W c σ H'
          | .bad => False) := g'
        cases q3 : f x y with
        | ok z =>
          rw [q3] at g2'
          have g' := g2'
          intro w F3 H3 g3 rw'
          cases z with
          | bl bb => exact ⟨bb, rp_bl rw', g' _ H3 (show ST X.K T H0 F0 (noT F3) H3 σ env from ⟨((S1.s.grow g2).grow g3).er S1.m0, S1.n0, S1.m0, NoT.noT, (S1.tb.ext g2.hh).ext g3.hh⟩)⟩
          | _ => exact (show False from g').elim
        | exc c => rw [q3] at g2'; exact (show False from g2').elim
        | bad => rw [q3] at g2'; exact (show False from g2').elim
      | exc c => rw [q2] at g'; exact fun F2 H2 g2 => g' F2 H2 (S1.s.grow g2)
      | bad => rw [q2] at g'; exact g'.elim
    | exc c => rw [q] at g; exact g
    | bad => rw [q] at g; exact g
end
end Pv

namespace Pv
open PySem PySem.Spec L2 LamX
section
variable [HasW]
variable {T : List (Addr × Str)} {ct : String → Addr} {k : Nat} {X : Cx} {W : WS} {e a b c : Expr} {es : List Expr} {pos : Pos} {ev ea eb ec : Xv}
/-- a or b, b may make a lambda -/
def PWt (T : List (Addr × Str)) (ct : String → Addr) (k : Nat) (X : Cx) (W : WS) (e : Expr) (t : Tv) : Prop := Cz ct k X W → PW X e (fun σ H Q => ∃ H0 F0 F env, ST X.K T H0 F0 F H σ env ∧ match t env with
  | .ok b => ∀ F' H', ST X.K T H0 F0 F' H' σ env → Q b H'
  | .exc c => ∀ F' H', SR X.K H0 F0 F' H' σ env → W c σ H'
  | .bad => False)
theorem PWt.t {t : Tv} (h : PWt T ct k X W e t) : PTt T ct k X W e t := fun C => (h C).pt
theorem wt_or1 {t : Tv} (h : PTt T ct k X W a t) : PWt T ct k X W (.BoolOp .Or [a] pos) t := fun C => pw_or1 (h C)
theorem wt_or {ta tb : Tv} {rest : List Expr} (ha : PTt T ct k X W a ta) (hb : PWt T ct k X W (.BoolOp .Or (b :: rest) pos) tb) : PWt T ct k X W (.BoolOp .Or (a :: b :: rest) pos) (tOr' ta tb) := fun C =>
  L2.PW.imp (pw_or (ha C) (hb C)) fun σ H Q ⟨H0, F0, F, env, S, g⟩ => by
    refine ⟨H0, F0, F, env, S, ?_⟩
    unfold tOr' at g
    cases q : ta env with
    | ok x =>
      rw [q] at g
      intro F1 H1 S1
      cases x with
      | true => exact g F1 H1 S1
      | false => exact ⟨H0, F0, F1, env, S1, g⟩
    | exc c => rw [q] at g; exact g
    | bad => rw [q] at g; exact g
end
/-! ### try: return a() / except x: return None -/
def TTnon (K : PySem.W.Frag) (CS : Addr) : (XK → Hp → VK → Prop) → Hp → VK → Prop := fun tl H Q =>
  tl (fun cls _ H' => ∃ b, PySem.W.exmOne K cls (.ref CS) = some b ∧ (b = true → Q .non H') ∧ (b = false → False)) H Q
theorem non_gives {X : Cx} {Ng : List Str} {x a e q : Str} {sg : Scope} {g CS : Addr} {cdg : Value} {j} {p1 p2 p3 p4 p5 p6 p7 p8 : Pos} (hge : sg.names.lookup e = some .globalImplicit) (hme : X.mg e = some (.ref CS)) (hde : (e == ("__debug__" : Str)) = false) (h0 : ∀ f : Addr, (L2.start Ng [V.ref f])[0]? = some (some (V.ref f))) :
    GivesTo X Ng x sg g cdg [.Try [.Return (some (.Call (.Name a p1) [] [] p2)) p3] [.ExceptHandler (some (.Name e p4)) none [.Return (some (.Constant .none j p5)) p6] p7] [] [] p8] a q (TTnon X.K CS) := by
  intro f c' s H Q tl act hc h
  have hgl : Gl (cxOf C8.CX0 X.prog X.w X.K X.mg X.base Ng x sg g cdg X.A X.stack s H C8.E0).nox e := hge
  refine ⟨_, pss_one (ps_try_only (X := (cxOf C8.CX0 X.prog X.w X.K X.mg X.base Ng x sg g cdg X.A X.stack s H C8.E0).nox) (c := .ref CS)
      (tb := fun W D σ H => ∃ Ech : XK, (∀ cls d σ' H', Ech cls d H' → W cls d σ' H') ∧ σ[0]? = some (some (.ref f)) ∧ H c' = some (CodeO c' q) ∧ tl Ech H D.rt)
      rfl rfl ⟨hgl, hde, .inl hme⟩ LamX.takes0 (fun W pn xe tk _ => ?_) (fun a oe cls d pn _ _ => pss_one (ps_ret pe_non))), ?_⟩
  · refine ⟨fun pins s' σ H' D I h' => ?_⟩
    obtain ⟨Ech, hW, h1, h2, h3⟩ := h'
    have hp := act W pn xe Ech p1 p2 tk hW
    have hq := pss_one (ps_ret (pos := p3) hp)
    exact hq.run pins s' σ H' D I ⟨h1, h2, h3⟩
  · exact ⟨fun cls _ H' => ∃ b, PySem.W.exmOne X.K cls (.ref CS) = some b ∧ (b = true → Q .non H') ∧ (b = false → False), fun cls d σ' H' ⟨b, e1, e2, e3⟩ => ⟨b, e1, fun hb a _ => e2 hb, fun hb => e3 hb⟩, h0 f, hc, h⟩
/-- the def that calls what it got and returns None for an exception of the class e -/
structure RdS (st : Stmt) (a e : Str) : Prop where
  body : ∃ j p1 p2 p3 p4 p5 p6 p7 p8, defBody st = [.Try [.Return (some (.Call (.Name a p1) [] [] p2)) p3] [.ExceptHandler (some (.Name e p4)) none [.Return (some (.Constant .none j p5)) p6] p7] [] [] p8]
  sc : FnScope [a] [a] (defScope st)
  ge : (defScope st).names.lookup e = some .globalImplicit
  de : (e == ("__debug__" : Str)) = false
  va : Vis (defScope st) a
  da : (a == ("__debug__" : Str)) = false
  ca : (a == ("__classdict__" : Str)) = false
structure CaR (K : PySem.W.Frag) (mg : Str → Option Value) (ct : String → Addr) (x : Str) (cat : String → Option Bool) : Prop where
  ex : ∃ (st : Stmt) (g : Addr) (fd : FuncData) (a e : Str) (CS : Addr), FnP K x st g fd ∧ RdS st a e ∧ Binds K fd [a] [] ∧ mg x = some (.ref g) ∧ mg e = some (.ref CS) ∧ ∀ c b, cat c = some b → PySem.W.exmOne K (.ref (ct c)) (.ref CS) = some b
section
variable [HasW]
variable {T : List (Addr × Str)} {ct : String → Addr} {k : Nat} {X : Cx} {W : WS} {ev : Xv}
theorem et_read {x : Str} {c P : Addr} {kk : Nat} {cat : String → Option Bool} {params : Arguments} {body : Expr} {scope : Scope} {p lpos pos : Pos} (G : CaR X.K X.mg ct x cat) (TB : TabB X.base X.mg c P) (hcode : X.env.code = .ref c)
    (hT : T = [(P, X.env.qual ++ "<lambda>")]) (hb : ∀ (A : Around) (outer : List Env) (s : Shared) (H : Hp) (E : XK) (f c' : Addr) (W' : WS), PEv ct kk (lamCx X A outer s H E scope f c') W' body ev)
    (hk : kk + 2 ≤ k := by decide) (L : LamS X.env.scope scope := by exact LamX.lamS_by rfl) (hdef : defaultsOf params X.env = ([], []) := by rfl)
    (hbind : ∀ (q : Str) (cl : List (Str × Addr)) (pm cv ctv : Value), bindArgs (PySem.W.kla_fn "<lambda>" q params body scope cl pm cv ctv) ⟨[], []⟩ = pure [] := by intros; rfl)
    (hg : Gl X x := by rfl) (hdb : (x == ("__debug__" : Str)) = false := by decide) :
    PEt T ct k X W (.Call (.Name x p) [.Lambda params body scope lpos] [] pos) (rdL cat ev) := fun C => by
  obtain ⟨st, g, fd, a, e, CS, F, R, B, hm, hme, hcat⟩ := G.ex
  obtain ⟨oc, od, dV, kV, doc, pm, an, cdv, ctv, osl, rfl, lk, hcd, _, _⟩ := F.ex
  obtain ⟨j, p1, p2, p3, p4, p5, p6, p7, p8, eb⟩ := R.body
  have hG : GivesTo X [a] x (defScope st) g cdv (defBody st) a (X.env.qual ++ "<lambda>") (TTnon X.K CS) := by
    rw [eb]
    exact non_gives R.ge hme R.de fun f => rfl
  have room : Room (kk + 2) X.A := C.room.mono hk
  refine (pe_lamcall (T := T) (TT := TTnon X.K CS) (t := fun E => rd X.K (RE X.K) (fun c _ H' => E (.ref (ct c)) none H') ev) hg hm F.kp lk hcd B R.sc rfl R.va hG TB hcode (by rw [hT]; exact List.mem_singleton.mpr rfl) (fun p hp _ => by
    rw [hT] at hp
    rw [List.mem_singleton.mp hp]) room L hdef hbind (fun A outer s H E f c' hr => hb A outer s H E f c' _ ⟨(takes_of rfl rfl rfl rfl).imp fun c d σ H' ⟨c', e1, e2, z⟩ => by rw [e1, e2]; exact z, passes_of rfl, rfl, C.nd, hr⟩) hdb R.da R.ca).imp fun σ H Q ⟨H0, F0, F', env, S, g⟩ => ⟨S.tb, fun H1 eN T1 => ?_⟩
  have S1 := S.tab eN T1
  refine ⟨H0, F0, F', env, S1.s, ?_⟩
  unfold rdL at g
  cases q : ev env with
  | ok d =>
    rw [q] at g
    exact fun v F2 H2 gd r => g v _ H2 (S1.grow gd) r.er
  | exc c =>
    rw [q] at g
    intro F2 H2 gd
    by_cases z : cat c = some true
    · dsimp only at g
      rw [if_pos z] at g
      exact ⟨true, hcat c true z, fun _ => g _ _ H2 (S1.grow gd) .non, fun z => by cases z⟩
    · dsimp only at g
      rw [if_neg z] at g
      exact g.elim
  | bad => rw [q] at g; exact g.elim
def lamQ (qual : Str) : Str := (qual ++ ".<locals>.") ++ "<lambda>"
theorem et_readC {P : Program} {w : World} {K : PySem.W.Frag} {mg : Str → Option Value} {base : Heap} {N : List Str} {qual : Str} {sc : Scope} {f : Addr} {A : Around} {outer : List Env} {s : Shared} {H : Hp} {E : XK}
    {x : Str} {c Pt : Addr} {kk : Nat} {cat : String → Option Bool} {params : Arguments} {body : Expr} {scope : Scope} {p lpos pos : Pos} (G : CaR K mg ct x cat) (TB : TabB base mg c Pt)
    (hb : ∀ (A' : Around) (outer' : List Env) (s' : Shared) (H' : Hp) (E' : XK) (f' c' : Addr) (W' : WS), PEv ct kk (lamCx (cxOf (L2.CX P w) P w K mg base N qual sc f (.ref c) A outer s H E) A' outer' s' H' E' scope f' c') W' body ev)
    (hk : kk + 2 ≤ k := by decide) (L : LamS sc scope := by exact LamX.lamS_by rfl) (hdef : defaultsOf params (cxOf (L2.CX P w) P w K mg base N qual sc f (.ref c) A outer s H E).env = ([], []) := by rfl)
    (hbind : ∀ (q : Str) (cl : List (Str × Addr)) (pm cv ctv : Value), bindArgs (PySem.W.kla_fn "<lambda>" q params body scope cl pm cv ctv) ⟨[], []⟩ = pure [] := by intros; rfl)
    (hg : Gl (cxOf (L2.CX P w) P w K mg base N qual sc f (.ref c) A outer s H E) x := by rfl) (hdb : (x == ("__debug__" : Str)) = false := by decide) :
    PEt [(Pt, lamQ qual)] ct k (cxOf (L2.CX P w) P w K mg base N qual sc f (.ref c) A outer s H E) W (.Call (.Name x p) [.Lambda params body scope lpos] [] pos) (rdL cat ev) :=
  et_read (X := cxOf (L2.CX P w) P w K mg base N qual sc f (.ref c) A outer s H E) G TB rfl (by unfold lamQ; rfl) hb hk L hdef hbind hg hdb
end
/-! ### the law's def -/
def spT [HasW] (K : PySem.W.Frag) (T : List (Addr × Str)) (Fn : List D → Res D) : Sp := fun vs H Q _ => ∃ F0 ds, Sub F0 H ∧ NoT F0 ∧ Tabs T H ∧ RpA K F0 vs ds ∧ match Fn ds with
  | .ok d => ∀ v F' H', Rp K F' v d → Q v H'
  | _ => False
section
variable [HasW]
theorem sr_iniT {K : PySem.W.Frag} {N : List Str} {F0 H : Hp} {vs : List V} {ds : List D} {T : List (Addr × Str)} (hs : Sub F0 H) (n : NoT F0) (t : Tabs T H) (r : RpA K F0 vs ds) : ST K T (noT H) F0 F0 H (L2.start N vs) (iniE N.length ds) :=
  ⟨(sr_ini hs r).weak fun b o h => (noT_some h).1, NoT.noT, n, n, t⟩
theorem def_okT {P : Program} {w : World} {K : PySem.W.Frag} {mg : Str → Option Value} {base : Heap} {ct : String → Addr} {x : Str} {st : Stmt} {f : Addr} {fd : FuncData} {N ps : List Str} {k : Nat} {sv : Sv} {T : List (Addr × Str)} {c : Addr}
    (F : FnP K x st f fd) (hc : fd.code = .ref c) (S : FnScope N ps (defScope st))
    (hb : ∀ (A : Around) (outer : List Env) (s : Shared) (H : Hp) (E : XK) (W : WS), PSst T ct k (cxOf (L2.CX P w) P w K mg base N x (defScope st) f (.ref c) A outer s H E) W (defBody st) sv) :
    FnOk P w K mg base (L2.CX P w) (k + 1) f fd ps (spT K T (mkFn ps.length N.length sv)) := by
  obtain ⟨oc, od, dV, kV, doc, pm, an, cdv, ctv, osl, rfl, lk, hcd, _, _⟩ := F.ex
  have hc : cdv = .ref c := hc
  subst hc
  refine fn_of lk hcd S (fun vs H Q E h => ?_) fun A outer s H vs Q E hr h => ?_
  · obtain ⟨F0, ds, hs, n, t, r, h⟩ := h
    rw [r.length]
    unfold mkFn at h
    by_cases z : ds.length = ps.length
    · exact z
    · rw [if_neg z] at h; exact h.elim
  · obtain ⟨F0, ds, hs, n, t, r, h⟩ := h
    unfold mkFn at h
    by_cases z : ds.length = ps.length
    case neg => rw [if_neg z] at h; exact h.elim
    rw [if_pos z] at h
    have C : Cz ct k (cxOf (L2.CX P w) P w K mg base N x (defScope st) f (.ref c) A outer s H E) (fun c _ H' => E (.ref (ct c)) none H') :=
      ⟨(takes_of rfl rfl rfl rfl).imp fun c d σ H' ⟨c', e1, e2, z⟩ => by rw [e1, e2]; exact z, passes_of rfl, rfl, S.nd, hr⟩
    refine ⟨_, hb A outer s H E _ C, noT H, F0, F0, iniE N.length ds, sr_iniT hs n t r, ?_⟩
    cases z : sv (iniE N.length ds) with
    | ret d => rw [z] at h; exact fun v F' H' _ r => h v F' H' r
    | nx env' => rw [z] at h; exact fun σ F' H' S' => h .non F' H' .non
    | exc c env' => rw [z] at h; exact h.elim
    | brk env' => rw [z] at h; exact h.elim
    | cont env' => rw [z] at h; exact h.elim
    | bad => rw [z] at h; exact h.elim
theorem law_spT {K : PySem.W.Frag} {T : List (Addr × Str)} {Fn : List D → Res D} {H : Hp} {a : Addr} {ns : List Int} {E : XK} (hno : noL K = true) (t : Tabs T H) (hS : SqL K H a (ns.map V.int)) (hl : ns.length ≤ LIM) (h : Fn [.lst (ns.map D.int)] = .ok (.bl true)) :
    spT K T Fn [.ref a] H (fun v _ => v = .bl true) E := by
  have hR : Rd H a (.lst (ns.map V.int)) := by
    rcases hS with hS | ⟨o, its, n, e, hc, _⟩
    · exact hS
    · exact absurd hc (noL_ok hno e)
  refine ⟨fun b => if b = a then some (.lst (ns.map V.int)) else none, [.lst (ns.map D.int)], fun b u hb => ?_, fun b u hb => ?_, t, .cons (.lst (if_pos rfl) (by simpa using hl) ?_) .nil, ?_⟩
  · dsimp only at hb
    by_cases e : b = a
    · subst e
      rw [if_pos rfl] at hb
      cases hb
      exact hR
    · rw [if_neg e] at hb; cases hb
  · dsimp only at hb
    by_cases e : b = a
    · rw [if_pos e] at hb
      cases hb
      exact tc_lst
    · rw [if_neg e] at hb; cases hb
  · have key : ∀ (F : Hp) (ns : List Int), RpA K F (ns.map V.int) (ns.map D.int) := by
      intro F ns
      induction ns with
      | nil => exact .nil
      | cons n ns ih => exact .cons (.int n) ih
    exact key _ ns
  · rw [h]
    intro v F' H' r
    exact rp_bl r
end
/-! ### the head: no empty table is among what is known -/
def notT (o : Obj) : Bool := match o.data with
  | .fields vs => !(vs.size == 0)
  | _ => true
def getN (g : Addr → Option Obj) (a : Addr) : Option Obj := (g a).filter notT
theorem getN_some {g : Addr → Option Obj} {a : Addr} {o : Obj} (h : getN g a = some o) : g a = some o ∧ notT o = true := by
  unfold getN at h
  exact Option.filter_eq_some_iff.mp h
def obsN (n : Nat) (fa : List He.Fa) (fn : List He.DefD) (ex : PySem.W.Frag → Bool) (g : Addr → Option Obj) : AlE := (He.obsD fa fn (He.frG (getN g) (He.asD g n)), ex (He.frG (getN g) (He.asD g n)))
def hookN (n : Nat) (fa : List He.Fa) (fn : List He.DefD) (ex : PySem.W.Frag → Bool) : PySem.W.Hook where
  α := AlE
  obs := fun s => obsN n fa fn ex s.heap.get?
  val := fun _ => (He.valD fn, true)
  says := fun _ h => ∃ K : PySem.W.Frag, K.In h ∧ (∀ a o, K.lookup a = some o → notT o = true) ∧ He.SaysD fa fn K ∧ ex K = true
  of := fun _ _ e => ⟨_, fun a o h => (getN_some (He.frG_at _ h)).1, fun a o h => (getN_some (He.frG_at _ h)).2, congrArg (fun z : AlE => z.1) e, congrArg (fun z : AlE => z.2) e⟩
  keeps := fun _ _ _ ⟨K, hK, c⟩ k => ⟨K, PySem.W.Frag.In.keeps hK k, c⟩
theorem obsN_eq {n : Nat} {fa : List He.Fa} {fn : List He.DefD} {ex : PySem.W.Frag → Bool} {g : Addr → Option Obj} {s : Shared} (h : ∀ a, g a = s.heap.get? a) : obsN n fa fn ex g = (hookN n fa fn ex).obs s := by
  have e : g = s.heap.get? := funext h
  rw [e] <;> rfl
theorem walk_ofN {l : PySem.W.OpenLaw} {n k : Nat} {q : Program} {loose : List Str} {XP : (Str → Option Value) → Heap → Prop} {YP : World → Heap → Prop} {d d' : DefRec} {x : Str}
    (hn : l.most = some n) (hn2 : n ≤ sizeLine) (hdf : d.params.defaults = []) (hr : Room k callerA) (hq : (PyProof.Rows.recsOf q).find? (fun e => e.name == d.name) = some d')
    (F : ∀ (w : World) (mg : Str → Option Value) (fa : Addr) (h : Heap), YP w h → h.Ns mainGlobals mg → mg d.name = some (.ref fa) →
      ∃ (K : PySem.W.Frag) (fd : FuncData) (sp : Sp) (c P : Addr), K.In h ∧ (∀ a o, K.lookup a = some o → notT o = true) ∧ PySem.W.tabIn K d.name = some (c, P) ∧ (∀ (s : Shared) (u : Value), BindsTo s fd ⟨[u], []⟩ [(x, u)]) ∧
        (∀ (H : Hp) (a : Addr) (ns : List Int), ns.length ≤ n → H P = some (.tbl #[]) → SqL K H a (ns.map V.int) → sp [.ref a] H (fun v _ => v = .bl true) fun _ _ _ => False) ∧
        ∀ base : Heap, K.In base → base.Ns mainGlobals mg → TabB base mg c P → FnOk l.prog w K mg base (L2.CX l.prog w) k fa fd [x] sp) :
    PySem.W.WalkO q loose XP YP l.row.toRowW d [] (fun f vs => PySem.call f vs) := by
  refine Att.attach_callB hn hdf fun w s₀ s₁ mg mb fa o pm cd doc a vs ns G Y ho hd hcd hmg hobj hints hlen hbits hg => ?_
  obtain ⟨K, fd, sp, c, P, KX, hno, ht, hb, hsp, hF⟩ := F w mg fa _ Y G.T.g hmg
  obtain ⟨C, hP⟩ := PySem.W.tab_of G.T KX hq ht
  refine law_callTs (cs := [(c, P)]) KX G.T.g G.T.b G.T.builtins G.T.nolimit hg (fun p hp => by rw [List.mem_singleton.mp hp]; exact hP) (fun p hp => ?_) (fun p hp => by rw [List.mem_singleton.mp hp]; exact C) G.T.bmain hobj hints (Nat.le_trans hlen hn2) hr (fun base h1 h2 h3 => hF base h1 h2 (h3 (c, P) (List.mem_singleton.mpr rfl))) hb
    (fun H hH hS => hsp H a ns hlen (hH (c, P) (List.mem_singleton.mpr rfl)) hS) fun H e s' z => by
      obtain ⟨_, _, _, _, _, _, _, _, _, _, _, _, z⟩ := z
      exact z
  rw [List.mem_singleton.mp hp]
  cases q : K.lookup P with
  | none => rfl
  | some ob =>
    have e1 := KX P ob q
    rw [hP] at e1
    cases e1
    have z := hno P _ q
    cases z
end Pv

namespace Pv
variable [HasW]
open PySem PySem.Spec L2
/-! ### split -/
theorem splL_ne (c : Nat) : ∀ l, splL c l ≠ []
  | [] => by simp [splL]
  | a :: r => by
    unfold splL
    split
    · simp
    · cases splL c r <;> simp
theorem spl_eq (c : Nat) : ∀ (l acc : List Nat), TL.spl [c] 0 acc l = match splL c l with | [] => [] | w :: ws => (acc ++ w) :: ws
  | [], acc => by simp [TL.spl, splL]
  | a :: r, acc => by
    unfold TL.spl splL
    by_cases h : a = c
    · have hp : TL.pre [c] (a :: r) = true := by simp [TL.pre, h]
      rw [if_pos hp, if_pos h]
      have e := spl_eq c r []
      show acc :: TL.spl [c] 0 [] r = _
      rw [e]
      have := splL_ne c r
      cases q : splL c r with
      | nil => exact absurd q this
      | cons w ws => simp
    · have hp : ¬ TL.pre [c] (a :: r) = true := by simp [TL.pre, h]
      rw [if_neg hp, if_neg h]
      rw [spl_eq c r (acc ++ [a])]
      cases q : splL c r with
      | nil => exact absurd q (splL_ne c r)
      | cons w ws => simp
theorem spl_eq0 (c : Nat) (l : List Nat) : TL.spl [c] 0 [] l = splL c l := by
  rw [spl_eq]
  cases q : splL c l with
  | nil => rfl
  | cons w ws => simp
theorem splL_mem (c : Nat) : ∀ (l : List Nat) {w : List Nat} {x : Nat}, w ∈ splL c l → x ∈ w → x ∈ l
  | [], w, x, h, hx => by
    simp only [splL, List.mem_singleton] at h
    subst h; cases hx
  | a :: r, w, x, h, hx => by
    unfold splL at h
    split at h
    · rcases List.mem_cons.mp h with e | h
      · subst e; cases hx
      · exact List.mem_cons_of_mem _ (splL_mem c r h hx)
    · cases q : splL c r with
      | nil => exact absurd q (splL_ne c r)
      | cons v vs =>
        rw [q] at h
        rcases List.mem_cons.mp h with e | h
        · subst e
          rcases List.mem_cons.mp hx with e | hx
          · subst e; exact List.mem_cons_self
          · exact List.mem_cons_of_mem _ (splL_mem c r (by rw [q]; exact List.mem_cons_self) hx)
        · exact List.mem_cons_of_mem _ (splL_mem c r (by rw [q]; exact List.mem_cons_of_mem _ h) hx)
theorem splL_len (c : Nat) : ∀ (l : List Nat), (splL c l).length ≤ l.length + 1
  | [] => by simp [splL]
  | a :: r => by
    unfold splL
    have ih := splL_len c r
    split
    · simp; omega
    · cases q : splL c r with
      | nil => simp
      | cons v vs => rw [q] at ih; simp at ih ⊢; omega
theorem splL_lenW (c : Nat) : ∀ (l : List Nat) {w : List Nat}, w ∈ splL c l → w.length ≤ l.length
  | [], w, h => by
    simp only [splL, List.mem_singleton] at h
    subst h; simp
  | a :: r, w, h => by
    unfold splL at h
    split at h
    · rcases List.mem_cons.mp h with e | h
      · subst e; simp
      · have := splL_lenW c r h
        simp; omega
    · cases q : splL c r with
      | nil => exact absurd q (splL_ne c r)
      | cons v vs =>
        rw [q] at h
        rcases List.mem_cons.mp h with e | h
        · subst e
          have := splL_lenW c r (w := v) (by rw [q]; exact List.mem_cons_self)
          simp; omega
        · have := splL_lenW c r (w := w) (by rw [q]; exact List.mem_cons_of_mem _ h)
          simp; omega
section
variable {ct : String → Addr} {k : Nat} {X : Cx} {W : WS} {e a b c : Expr} {es xs : List Expr} {pos : Pos} {ev ea eb ec : Xv} {aa : Av}
theorem rpA_txs {K : PySem.W.Frag} {F : Hp} : ∀ {ls : List (List Nat)}, (∀ l ∈ ls, okS l) → RpA K F ((ls.map tx).map V.str) (ls.map D.str)
  | [], _ => .nil
  | l :: ls, h => .cons (.str l (h l List.mem_cons_self)) (rpA_txs fun m hm => h m (List.mem_cons_of_mem _ hm))
theorem e_split {apos : Pos} (ha : PEv ct k X W a ea) (hb : PEv ct k X W b eb) (hs : starEach [b] X.env = [(false, eval b X.env)] := by rfl) (hbase : attributeBase a "split" X.env (eval a X.env) = eval a X.env := by rfl) (hline : (apos.endLine == pos.line) = true := by rfl) :
    PEv ct k X W (.Call (.Attribute a "split" apos) [b] [] pos) (xM isStr splitD ea eb) := fun C =>
  (pe_m1 PySem.F.slot_str_split PySem.F.type_str_split mt_split (ha C) (hb C) hs hbase hline).imp fun σ H Q ⟨H0, F0, F, env, S, g⟩ => seq S g fun x d F1 H1 S1 g1 rx q1 => by
    cases d with
    | str l =>
      obtain ⟨ex, hx⟩ := bo_str (H := H1) (.inl rx)
      refine ⟨⟨_, ex⟩, seq S1 q1 fun y e F2 H2 S2 g2 ry q2 => ?_⟩
      have q3 := got_wf q2
      cases e with
      | str m =>
        obtain ⟨ey, hy⟩ := bo_str (H := H2) (.inl ry)
        match m, ey, q3 with
        | [c], ey, q3 =>
          dsimp only [splitD] at q3
          split at q3
          · rename_i z
            refine ⟨tx l, tx [c], ex, by rw [ey], rfl, by rw [tx_len]; exact z.2, fun p np => ?_⟩
            have es : Txt.split (tx l) (tx [c]) = (splL c l).map tx := by
              have := SX.split_S (a := l) (b := [c]) (by simp) (by simpa using z.1)
              rw [spl_eq0] at this
              exact this
            rw [es]
            refine got_new S2.sub q3 np fun ff => .lst upd_same (by simp only [List.length_map]; have := splL_len c l; omega) (rpA_txs fun w hw => ⟨?_, fun x hx' => hx.2 x (splL_mem c l hw hx')⟩)
            have := splL_lenW c l hw
            omega
          · exact q3.elim
        | [], _, q3 => exact q3.elim
        | _ :: _ :: _, _, q3 => exact q3.elim
      | _ => exact q3.elim
    | _ => exact q1.elim
/-! ### int(text), str(number) -/
theorem ud_intS {K : PySem.W.Frag} : UnD K (fun xs H Q => ∃ a n, xs = [.str a] ∧ PySem.intText? a = some n ∧ a.length ≤ 640 ∧ Q (.int n) H) intS := by
  intro F H x d Q s rx g
  cases d with
  | str l =>
    obtain ⟨ex, hx⟩ := bo_str rx
    match l, ex, g with
    | [c], ex, g =>
      dsimp only [intS] at g
      split at g
      · rename_i z
        refine ⟨tx [c], ((c - 48 : Nat) : Int), by rw [ex], ?_, by rw [tx_len]; simp, got_ok s g (.int _)⟩
        have : c = 48 ∨ c = 49 ∨ c = 50 ∨ c = 51 ∨ c = 52 ∨ c = 53 ∨ c = 54 ∨ c = 55 ∨ c = 56 ∨ c = 57 := by omega
        rcases this with rfl | rfl | rfl | rfl | rfl | rfl | rfl | rfl | rfl | rfl <;> decide +kernel
      · exact g.elim
    | [], _, g => exact g.elim
    | _ :: _ :: _, _, g => exact g.elim
  | _ => exact g.elim
theorem e_intS {p : Pos} (hm : X.mg "int" = none) (ha : PBv ct k X W a ea) (hg : Gl X "int" := by rfl) (he : starEach [a] X.env = (false, eval a X.env) :: starEach [] X.env := by rfl) : PEv ct k X W (.Call (.Name "int" p) [a] [] pos) (xU intS ea) := e_bty ud_intS (fun _ => call_int_str) hm (by decide +kernel) ha hg (by decide) (by decide) he
theorem ud_strI {K : PySem.W.Frag} : UnD K (fun xs H Q => ∃ i : Int, xs = [.int i] ∧ i.natAbs.log2 < 1920 ∧ Q (.str (toString i)) H) strI := by
  intro F H x d Q s rx g
  cases d with
  | int i =>
    rw [bo_int rx]
    dsimp only [strI] at g
    split at g
    · rename_i z
      have : i = 0 ∨ i = 1 ∨ i = 2 ∨ i = 3 ∨ i = 4 ∨ i = 5 ∨ i = 6 ∨ i = 7 ∨ i = 8 ∨ i = 9 := by omega
      rcases this with rfl | rfl | rfl | rfl | rfl | rfl | rfl | rfl | rfl | rfl <;> exact ⟨_, rfl, by decide +kernel, got_ok s g (.str _ (by decide))⟩
    · exact g.elim
  | _ => exact g.elim
theorem e_strI {p : Pos} (hm : X.mg "str" = none) (ha : PBv ct k X W a ea) (hg : Gl X "str" := by rfl) (he : starEach [a] X.env = (false, eval a X.env) :: starEach [] X.env := by rfl) : PEv ct k X W (.Call (.Name "str" p) [a] [] pos) (xU strI ea) := e_bty ud_strI (fun _ => call_str_int) hm (by decide +kernel) ha hg (by decide) (by decide) he
/-! ### x.replace(y, z): a token must be out -/
def PETv (ct : String → Addr) (k : Nat) (X : Cx) (W : WS) (e : Expr) (ev : Xv) : Prop := Cz ct k X W → PET X e (rd X.K (RE X.K) W ev)
def PATv (ct : String → Addr) (k : Nat) (X : Cx) (W : WS) (es : List Expr) (ev : Av) : Prop := Cz ct k X W → PAT X es (rd X.K (RA X.K) W ev)
/-- behind it a token is out -/
def PE1 (X : Cx) (e : Expr) (t : TE) : Prop := ∀ (pins : List (Addr × Obj)) (s : Shared) (σ : St) (H : Hp) (Q : VK), Inv X pins σ H s → t σ H Q → wpAny (model X.prog X.w) X.A (eval e X.env) (fun v s1 => 1 ≤ s1.toks ∧ EP X pins σ Q v s1) X.xe s
def PE1v (ct : String → Addr) (k : Nat) (X : Cx) (W : WS) (e : Expr) (ev : Xv) : Prop := Cz ct k X W → PE1 X e (rd X.K (RE X.K) W ev)
theorem PETv.of (h : PEv ct k X W e ev) : PETv ct k X W e ev := fun C pins s σ H Q _ I q => (h C).run pins s σ H Q I q
theorem at_nil : PATv ct k X W [] aNil := fun C pos pins s σ H Q _ I q => (a_nil C).run pos pins s σ H Q I q
theorem at_cons (ha : PETv ct k X W e ea) (hr : PATv ct k X W es aa) (hs : starEach (e :: es) X.env = (false, eval e X.env) :: starEach es X.env := by rfl) : PATv ct k X W (e :: es) (aCons ea aa) := fun C p pins s σ H Q h0 I h => by
  refine pat_cons (ha C) (hr C) hs p pins s σ H Q h0 I ?_
  obtain ⟨H0, F0, F, env, S, g⟩ := h
  exact seq S g fun x d F1 H1 S1 g1 rx q1 => seq S1 q1 fun xs ds F2 H2 S2 g2 rxs q2 => q2 (x :: xs) F2 H2 (.refl S2.sub) (.cons (Rp.mono g2.ff rx) rxs)
theorem pa_cons1 {te : TE} {ta : TA} (ha : PE1 X e te) (hr : PAT X es ta) (hs : starEach (e :: es) X.env = (false, eval e X.env) :: starEach es X.env := by rfl) : PA X (e :: es) (tCons te ta) := by
  refine ⟨fun p pins s σ H Q I h => ?_⟩
  rw [hs]
  show wpAny _ _ (spliced ((false, eval e X.env) :: backTo p (starEach es X.env))) _ _ s
  refine Calls.spliced_cons (wpAny_mono (ha pins s σ H _ I h) (fun v s1 q => ?_) fun _ _ z => z)
  obtain ⟨hk, x, H1, I1, r1, q1⟩ := q
  exact thn (hr p pins s1 σ H1 _ hk I1 q1) fun us s2 ⟨xs, H2, I2, r2, q2⟩ => ⟨x :: xs, H2, I2, .cons r1 r2, q2⟩
theorem a_cons1 (ha : PE1v ct k X W e ea) (hr : PATv ct k X W es aa) (hs : starEach (e :: es) X.env = (false, eval e X.env) :: starEach es X.env := by rfl) : PAv ct k X W (e :: es) (aCons ea aa) := fun C =>
  (pa_cons1 (ha C) (hr C) hs).imp fun σ H Q ⟨H0, F0, F, env, S, g⟩ => seq S g fun x d F1 H1 S1 g1 rx q1 => seq S1 q1 fun xs ds F2 H2 S2 g2 rxs q2 =>
    q2 (x :: xs) F2 H2 (.refl S2.sub) (.cons (Rp.mono g2.ff rx) rxs)
theorem e1_str (l : List Nat) {x : Str} {j} (h : x.cps.toList = l := by rfl) (hz : okS l := by decide) : PE1v ct k X W (.Constant (.str x) j pos) (xC (.str l)) := fun C pins s σ H Q I ⟨H0, F0, F, env, S, g⟩ => by
  have e := tx_of h
  subst e
  exact Calls.Constant_str ⟨by show 1 ≤ s.toks + 1; omega, .str _, H, I.tok _, ⟨_, rfl⟩, g _ F H (.refl S.sub) (.str l hz)⟩
theorem pe1_op {op : Operator} {r : R2} {ta tb : TE} (ho : OpR X (binaryOp op) r) (ha : PE X a ta) (hb : PE1 X b tb) : PE1 X (.BinOp a op b pos) (tOp r ta tb) := by
  intro pins s σ H Q I h
  refine wpAny_BinOp (thn (ha.run pins s σ H _ I h) fun v s1 ⟨x, H1, I1, r1, q1⟩ => ?_)
  refine wpAny_mono (hb pins s1 σ H1 _ I1 q1) (fun u s2 ⟨hk, y, H2, I2, r2, q2⟩ => ?_) fun _ _ z => z
  exact wpAny_mono (PySem.wpAny_toks_of hk (ho pins s2 σ H2 x y v u Q I2 r1 r2 q2)) (fun _ _ z => z) fun _ _ z => z.2
theorem e1_add (ha : PBv ct k X W a ea) (l : List Nat) {x : Str} {j} {p : Pos} (h : x.cps.toList = l := by rfl) (hz : okS l := by decide) : PE1v ct k X W (.BinOp a .Add (.Constant (.str x) j p) pos) (xOp addD ea (xC (.str l))) := fun C pins s σ H Q I ⟨H0, F0, F, env, S, g⟩ => by
  refine pe1_op op_addA (ha C) (e1_str (ct := ct) (k := k) (W := W) l h hz C) pins s σ H Q I ?_
  exact seq S g fun x d F1 H1 S1 g1 rx q1 => seq S1 q1 fun y e F2 H2 S2 g2 ry q2 => od_add F2 H2 x y d e Q S2.sub (rx.grow g2) (.inl ry) (got_wf q2)
theorem repl_tx (l y z : List Nat) (hy : 1 ≤ y.length) : Txt.replace (tx l) (tx y) (tx z) = tx (StrLaws.replL y z l) := by
  have e := StrLaws.replace_list (x := tx l) (y := tx y) (z := tx z) (by rw [tx_len]; exact hy)
  have e2 : ∀ m : List Nat, (tx m).cps.toList = m := fun m => by simp [tx]
  rw [e2, e2, e2] at e
  exact tx_of e
theorem repl_mem {y z : List Nat} : ∀ (n : Nat) (l : List Nat), l.length ≤ n → y ≠ [] → ∀ {x : Nat}, x ∈ StrLaws.replL y z l → x ∈ z ∨ x ∈ l := by
  intro n
  induction n with
  | zero =>
    intro l hl hy x hx
    have : l = [] := List.eq_nil_of_length_eq_zero (by omega)
    subst this
    rw [StrLaws.replL_nil] at hx; cases hx
  | succ n ih =>
    intro l hl hy x hx
    cases l with
    | nil => rw [StrLaws.replL_nil] at hx; cases hx
    | cons c r =>
      by_cases h : (c :: r).take y.length = y
      · rw [StrLaws.replL_hit hy h] at hx
        rcases List.mem_append.mp hx with q | q
        · exact .inl q
        · have hl2 : ((c :: r).drop y.length).length ≤ n := by
            have : 1 ≤ y.length := by cases y with | nil => exact absurd rfl hy | cons _ _ => simp
            simp at hl ⊢; omega
          exact (ih _ hl2 hy q).imp id fun q => List.mem_of_mem_drop q
      · rw [StrLaws.replL_miss h] at hx
        rcases List.mem_cons.mp hx with q | q
        · exact .inr (by rw [q]; exact List.mem_cons_self)
        · exact (ih r (by simpa using hl) hy q).imp id fun q => List.mem_cons_of_mem _ q
theorem et_repl (y z : List Nat) {ys zs : Str} {j j' : Nat} {c0 c1 apos : Pos} (ha : PEv ct k X W a ea) (hy : ys = tx y := by rfl) (hz : zs = tx z := by rfl) (h1 : 1 ≤ y.length := by decide) (h2 : okS z := by decide) (hyz : (ys == zs) = false := by decide)
    (hst : starEach [.Constant (.str ys) j c0, .Constant (.str zs) j' c1] X.env = [(false, eval (.Constant (.str ys) j c0) X.env), (false, eval (.Constant (.str zs) j' c1) X.env)] := by rfl)
    (hbase : attributeBase a "replace" X.env (eval a X.env) = eval a X.env := by rfl) (hline : (apos.endLine == pos.line) = true := by rfl) :
    PETv ct k X W (.Call (.Attribute a "replace" apos) [.Constant (.str ys) j c0, .Constant (.str zs) j' c1] [] pos) (xU (repD y z) ea) := fun C pins s σ H Q h0 I ⟨H0, F0, F, env, S, g⟩ => by
  refine CwR.pet_replC (ha C) hyz hst hbase hline pins s σ H Q h0 I ?_
  exact seq S g fun x d F1 H1 S1 g1 rx q1 => by
    have q3 := got_wf q1
    cases d with
    | str l =>
      obtain ⟨ex, hx⟩ := bo_str (H := H1) (.inl rx)
      dsimp only [repD] at q3
      split at q3
      · rename_i zz
        refine ⟨tx l, ex, by rw [hz, tx_len, tx_len]; exact zz, ?_⟩
        rw [hy, hz, repl_tx l y z h1]
        refine got_ok S1.sub q3 (.str _ ⟨?_, fun c hc => ?_⟩)
        · have := TK.replace_len (tx l) (tx y) (tx z)
          rw [repl_tx l y z h1, tx_len, tx_len, tx_len] at this
          omega
        · rcases repl_mem l.length l (Nat.le_refl _) (by intro e; rw [e] at h1; simp at h1) hc with q | q
          · exact h2.2 c q
          · exact hx.2 c q
      · exact q3.elim
    | _ => exact q3.elim
end
end Pv

namespace Pv.W52
variable [HasW]
open PySem PySem.Spec L2
def top (i : Nat) : Stmt := PySem.Challenge.pw_dialslips_k52_formats.main.body.getD i (.Pass ⟨0, 0, 0, 0⟩)
theorem excV : ExcBaseFacts "ValueError" "ValueError.__new__" "ValueError.__init__" He.veBase := PySem.F.excBase_ValueError
structure Vx (K : PySem.W.Frag) (mg : Str → Option Value) : Prop where
  f_all : mg "all" = none
  f_any : mg "any" = none
  f_bool : mg "bool" = none
  f_enumerate : mg "enumerate" = none
  f_int : mg "int" = none
  f_isinstance : mg "isinstance" = none
  f_len : mg "len" = none
  f_max : mg "max" = none
  f_range : mg "range" = none
  f_sorted : mg "sorted" = none
  f_str : mg "str" = none
  f_tuple : mg "tuple" = none
  f_zip : mg "zip" = none
  c_ANY : ∃ t, mg "ANY" = some (.str "x" t)
  c_DIGITS_formats : ∃ t, mg "DIGITS_formats" = some (.str "0123456789" t)
  c_DIGITS_plans : ∃ t, mg "DIGITS_plans" = some (.str "012345" t)
  c_ENTRY : ∃ t, mg "ENTRY" = some (.str "entry" t)
  c_LETTERS : ∃ t, mg "LETTERS" = some (.str "abcdefghijklmnopqrstuvwxyz" t)
  c_MAX_ENTRIES : ∃ t, mg "MAX_ENTRIES" = some (.int 8 t)
  c_MAX_HOLDER : ∃ t, mg "MAX_HOLDER" = some (.int 3 t)
  c_MAX_LENGTH : ∃ t, mg "MAX_LENGTH" = some (.int 6 t)
  c_MAX_NUMBERS : ∃ t, mg "MAX_NUMBERS" = some (.int 200 t)
  c_MAX_SIZE : ∃ t, mg "MAX_SIZE" = some (.int 6 t)
  c_NEWLINE : ∃ t, mg "NEWLINE" = some (.str "\n" t)
  c_PLAN : ∃ t, mg "PLAN" = some (.str "plan" t)
  c_SPACE : ∃ t, mg "SPACE" = some (.str " " t)
  n_DialError : mg "DialError" = some (.ref (He.ga K "DialError"))
  x_DialError : PySem.W.excIn K (He.ga K "DialError") He.veBase "ValueError.__new__" = true ∧ PySem.W.keepIn K (.ref (He.ga K "DialError")) = true ∧ PySem.W.subIn K (.ref (He.ga K "DialError")) (.type "BaseException") = some true ∧ PySem.W.typeIn K (.ref (He.ga K "DialError")) = some (.type "type")
  n_InvalidPlan : mg "InvalidPlan" = some (.ref (He.ga K "InvalidPlan"))
  x_InvalidPlan : PySem.W.excIn K (He.ga K "InvalidPlan") He.veBase "ValueError.__new__" = true ∧ PySem.W.keepIn K (.ref (He.ga K "InvalidPlan")) = true ∧ PySem.W.subIn K (.ref (He.ga K "InvalidPlan")) (.type "BaseException") = some true ∧ PySem.W.typeIn K (.ref (He.ga K "InvalidPlan")) = some (.type "type")
  n_ParseError : mg "ParseError" = some (.ref (He.ga K "ParseError"))
  x_ParseError : PySem.W.excIn K (He.ga K "ParseError") He.veBase "ValueError.__new__" = true ∧ PySem.W.keepIn K (.ref (He.ga K "ParseError")) = true ∧ PySem.W.subIn K (.ref (He.ga K "ParseError")) (.type "BaseException") = some true ∧ PySem.W.typeIn K (.ref (He.ga K "ParseError")) = some (.type "type")
  cat : ∀ c b, catE c = some b → PySem.W.exmOne K (.ref (ctK K c)) (.ref (He.ga K "DialError")) = some b
  catR : ∀ c b, catR c = some b → PySem.W.exmOne K (.ref (ctK K c)) (.ref (He.ga K "ParseError")) = some b
  ec : ∀ c, c ∈ excs → ExcC K (ctK K c)
  ek : ∀ c, c ∈ excs → ∀ d, d ∈ excs → PySem.W.kitOne K (.ref (ctK K c)) (.ref (ctK K d)) = some (isa c d)
section
variable {P : Program} {w : World} {K : PySem.W.Frag} {mg : Str → Option Value} {base : Heap} {f : Addr} {fd : FuncData}
theorem ok__law_pick (V : Vx K mg)  (F : FnP K "_law_pick" (top 31) f fd) (hm : mg "_law_pick" = some (.ref f)) : Ca P w K mg base (ctK K) 1 "_law_pick" Fn__law_pick :=
  def_okD (N := ["script", "k", "many", "cell", "rest", "again", "drawn"]) (ps := ["script", "k", "many"]) F hm ⟨rfl, rfl, rfl, by decide +kernel, rfl, by decide +kernel, by decide +kernel⟩ (fun _ _ _ _ _ _ us hl => match us, hl with | [_, _, _], _ => rfl) (fun cdv A outer s H E W =>
  (ss_cons (s_asg (e_if (t_ne (b_var 0) (PEv.bo (e_lst a_nil))) (e_ix (b_var 0) (PEv.bo (e_mod (PEv.bo (e_toint V.f_int (b_var 1))) (PEv.bo (e_len V.f_len (b_var 0)))))) e_int) (fun hN hC => g_nm 3 hN))
  (ss_cons (s_par2 4 5 (l_fz (e_fdiv (b_var 3) (PEv.bo (e_pow (PEv.bo e_int) (PEv.bo e_int)))) (l_fz (e_fdiv (b_var 1) (PEv.bo (e_max2 V.f_max (PEv.bo (e_len V.f_len (b_var 0))) (PEv.bo e_int)))) l_nil)) (by with_unfolding_all rfl))
  (ss_cons (s_wh (fuel 5) (PWv.t (w_and (t_gt (b_var 4) (PEv.bo e_int)) (w_and1 (t_gt (b_var 5) (PEv.bo e_int))))) (ss_one (s_par2 4 5 (l_fz (e_fdiv (b_var 4) (PEv.bo e_int)) (l_fz (e_sub (b_var 5) (PEv.bo e_int)) l_nil)) (by with_unfolding_all rfl))))
  (ss_cons (s_if (t_gt (b_var 4) (PEv.bo e_int)) (ss_one (s_ret (e_mod (PEv.bo (e_toint V.f_int (PEv.bo (e_mod (PEv.bo (e_toint V.f_int (b_var 4))) (PEv.bo e_int))))) (b_var 2)))) ss_nil)
  (ss_cons (s_asg (e_mod (PEv.bo (e_toint V.f_int (PEv.bo (e_mul (PEv.bo (e_add (PEv.bo (e_mul (b_var 3) (PEv.bo e_int))) (PEv.bo (e_mul (PEv.bo e_int) (PEv.bo (e_add (b_var 1) (PEv.bo e_int))))))) (PEv.bo e_int))))) (PEv.bo e_int)) (fun hN hC => g_nm 6 hN))
  (ss_one (s_ret (e_mod (PEv.bo (e_toint V.f_int (PEv.bo (e_mod (PEv.bo (e_toint V.f_int (PEv.bo (e_add (PEv.bo (e_mul (b_var 6) (b_var 6))) (PEv.bo (e_fdiv (b_var 6) (PEv.bo e_int))))))) (PEv.bo e_int))))) (b_var 2))))))))))
theorem ok__law_agree (V : Vx K mg)  (F : FnP K "_law_agree" (top 32) f fd) (hm : mg "_law_agree" = some (.ref f)) : Ca P w K mg base (ctK K) 1 "_law_agree" Fn__law_agree :=
  def_okD (N := ["one", "other", "left", "right"]) (ps := ["one", "other"]) F hm ⟨rfl, rfl, rfl, by decide +kernel, rfl, by decide +kernel, by decide +kernel⟩ (fun _ _ _ _ _ _ us hl => match us, hl with | [_, _], _ => rfl) (fun cdv A outer s H E W =>
  (ss_cons (s_if (t_ne (PEv.bo (e_len V.f_len (b_var 0))) (PEv.bo (e_len V.f_len (b_var 1)))) (ss_one (s_ret e_bl)) ss_nil)
  (ss_one (s_ret (e_eq (PEv.bo (e_lc (PFv.w (i_zip V.f_zip (e_var 0) (e_var 1))) (own := [("left", 2), ("right", 3)]) (by with_unfolding_all rfl) (by decide) (fun _ _ _ _ _ hN hC => (g_tp hC (gs_cons (g_nm 2 hN) (gs_cons (g_nm 3 hN) gs_nil)))) (fun _ _ _ _ _ => (ts_one (PWv.t (w_and (t_ne (b_var 2) (b_var 3)) (w_and (t_ne (b_var 2) (PEv.bo (e_str [120]))) (w_and1 (t_ne (b_var 3) (PEv.bo (e_str [120]))))))))) (fun _ _ _ _ _ => e_int))) (PEv.bo (e_lst a_nil)))))))
theorem ok__law_plan (V : Vx K mg) (g__law_agree : Ca P w K mg base (ctK K) 1 "_law_agree" Fn__law_agree) (g__law_pick : Ca P w K mg base (ctK K) 1 "_law_pick" Fn__law_pick) (F : FnP K "_law_plan" (top 33) f fd) (hm : mg "_law_plan" = some (.ref f)) : Ca P w K mg base (ctK K) 2 "_law_plan" Fn__law_plan :=
  def_okD (N := ["script", "at", "size", "entries", "k", "length", "signs", "pattern", "n", "holder", "one"]) (ps := ["script", "at"]) F hm ⟨rfl, rfl, rfl, by decide +kernel, rfl, by decide +kernel, by decide +kernel⟩ (fun _ _ _ _ _ _ us hl => match us, hl with | [_, _], _ => rfl) (fun cdv A outer s H E W =>
  (ss_cons (s_par2 2 3 (l_fz (e_add (PEv.bo e_int) (PEv.bo (e_callC g__law_pick (a_cons (e_var 0) (a_cons (e_var 1) (a_cons e_int a_nil)))))) (l_lst a_nil l_nil)) (by with_unfolding_all rfl))
  (ss_cons (s_for (i_r1 V.f_range (e_add (PEv.bo e_int) (PEv.bo (e_callC g__law_pick (a_cons (e_var 0) (a_cons (e_add (b_var 1) (PEv.bo e_int)) (a_cons e_int a_nil))))))) (fun hN hC => (g_nm 4 hN)) (ss_cons (s_asg (e_add (PEv.bo e_int) (PEv.bo (e_callC g__law_pick (a_cons (e_var 0) (a_cons (e_add (PEv.bo (e_add (b_var 1) (PEv.bo e_int))) (PEv.bo (e_mul (PEv.bo e_int) (b_var 4)))) (a_cons e_int a_nil)))))) (fun hN hC => g_nm 5 hN))
  (ss_cons (s_asg (e_add (PEv.bo (e_mul (PEv.bo (e_sl (PEv.bo (e_str [48, 49, 50])) o_none (o_some (e_var 2)))) (PEv.bo e_int))) (PEv.bo (e_str [120]))) (fun hN hC => g_nm 6 hN))
  (ss_cons (s_asg (e_join (e_str []) (PEv.bo (e_lc (PFv.w (i_r1 V.f_range (e_var 5))) (own := [("n", 8)]) (by with_unfolding_all rfl) (by decide) (fun _ _ _ _ _ hN hC => (g_nm 8 hN)) (fun _ _ _ _ _ => ts_nil) (fun _ _ _ _ _ => (e_ix (b_var 6) (PEv.bo (e_callC g__law_pick (a_cons (e_var 0) (a_cons (e_add (PEv.bo (e_add (PEv.bo (e_add (b_var 1) (PEv.bo e_int))) (PEv.bo (e_mul (PEv.bo e_int) (b_var 4))))) (b_var 8)) (a_cons (e_len V.f_len (b_var 6)) a_nil)))))))))) (fun hN hC => g_nm 7 hN))
  (ss_cons (s_asg (e_ix (PEv.bo (e_str [97, 98, 99])) (PEv.bo (e_callC g__law_pick (a_cons (e_var 0) (a_cons (e_add (PEv.bo (e_add (b_var 1) (PEv.bo e_int))) (PEv.bo (e_mul (PEv.bo e_int) (b_var 4)))) (a_cons e_int a_nil)))))) (fun hN hC => g_nm 9 hN))
  (ss_one (s_if (t_eq (PEv.bo (e_lc (w_seq (b_var 3)) (own := [("one", 10)]) (by with_unfolding_all rfl) (by decide) (fun _ _ _ _ _ hN hC => (g_nm 10 hN)) (fun _ _ _ _ _ => (ts_one (t_val (e_callC g__law_agree (a_cons (e_ix (b_var 10) (PEv.bo e_int)) (a_cons (e_var 7) a_nil)))))) (fun _ _ _ _ _ => (e_var 10)))) (PEv.bo (e_lst a_nil))) (ss_one (s_app 3 (e_tup (a_cons (e_var 7) (a_cons (e_var 9) a_nil))))) ss_nil)))))))
  (ss_one (s_ret (e_tup (a_cons (e_var 2) (a_cons (e_totup V.f_tuple (PEv.bo (e_sorted V.f_sorted (b_var 3)))) a_nil))))))))
theorem ok__law_text (V : Vx K mg)  (F : FnP K "_law_text" (top 34) f fd) (hm : mg "_law_text" = some (.ref f)) : Ca P w K mg base (ctK K) 1 "_law_text" Fn__law_text :=
  def_okD (N := ["plan", "one", "two"]) (ps := ["plan"]) F hm ⟨rfl, rfl, rfl, by decide +kernel, rfl, by decide +kernel, by decide +kernel⟩ (fun _ _ _ _ _ _ us hl => match us, hl with | [_], _ => rfl) (fun cdv A outer s H E W =>
  (ss_one (s_ret (e_add (PEv.bo (e_add (PEv.bo (e_add (PEv.bo (e_str [112, 108, 97, 110, 32])) (PEv.bo (e_strI V.f_str (PEv.bo (e_ix (b_var 0) (PEv.bo e_int))))))) (PEv.bo (e_str [10])))) (PEv.bo (e_join (e_str []) (PEv.bo (e_lc (w_seq (PEv.bo (e_ix (b_var 0) (PEv.bo e_int)))) (own := [("one", 1), ("two", 2)]) (by with_unfolding_all rfl) (by decide) (fun _ _ _ _ _ hN hC => (g_tp hC (gs_cons (g_nm 1 hN) (gs_cons (g_nm 2 hN) gs_nil)))) (fun _ _ _ _ _ => ts_nil) (fun _ _ _ _ _ => (e_add (PEv.bo (e_add (PEv.bo (e_add (PEv.bo (e_add (PEv.bo (e_str [101, 110, 116, 114, 121, 32])) (b_var 1))) (PEv.bo (e_str [32])))) (b_var 2))) (PEv.bo (e_str [10]))))))))))))
theorem ok_agree (V : Vx K mg)  (F : FnP K "agree" (top 16) f fd) (hm : mg "agree" = some (.ref f)) : Ca P w K mg base (ctK K) 1 "agree" Fn_agree :=
  def_okD (N := ["one", "other", "left", "right"]) (ps := ["one", "other"]) F hm ⟨rfl, rfl, rfl, by decide +kernel, rfl, by decide +kernel, by decide +kernel⟩ (fun _ _ _ _ _ _ us hl => match us, hl with | [_, _], _ => rfl) (fun cdv A outer s H E W =>
  (ss_cons (s_if (t_ne (PEv.bo (e_len V.f_len (b_var 0))) (PEv.bo (e_len V.f_len (b_var 1)))) (ss_one (s_ret e_bl)) ss_nil)
  (ss_one (s_ret (e_all V.f_all (PEv.bo (e_lc (PFv.w (i_zip V.f_zip (e_var 0) (e_var 1))) (own := [("left", 2), ("right", 3)]) (by with_unfolding_all rfl) (by decide) (fun _ _ _ _ _ hN hC => (g_tp hC (gs_cons (g_nm 2 hN) (gs_cons (g_nm 3 hN) gs_nil)))) (fun _ _ _ _ _ => ts_nil) (fun _ _ _ _ _ => (e_or (e_eq (b_var 2) (b_var 3)) (e_one (e_in (PEv.bo (e_gstr [120] V.c_ANY)) (PEv.bo (e_tup (a_cons (e_var 2) (a_cons (e_var 3) a_nil)))))))))))))))
theorem ok_are_apart (V : Vx K mg) (g_agree : Ca P w K mg base (ctK K) 1 "agree" Fn_agree) (F : FnP K "are_apart" (top 17) f fd) (hm : mg "are_apart" = some (.ref f)) : Ca P w K mg base (ctK K) 2 "are_apart" Fn_are_apart :=
  def_okD (N := ["entries", "number", "entry", "other"]) (ps := ["entries"]) F hm ⟨rfl, rfl, rfl, by decide +kernel, rfl, by decide +kernel, by decide +kernel⟩ (fun _ _ _ _ _ _ us hl => match us, hl with | [_], _ => rfl) (fun cdv A outer s H E W =>
  (ss_cons (s_for (i_enum V.f_enumerate (e_var 0)) (fun hN hC => (g_tp hC (gs_cons (g_nm 1 hN) (gs_cons (g_nm 2 hN) gs_nil)))) (ss_one (s_if (t_val (e_any V.f_any (PEv.bo (e_lc (w_seq (PEv.bo (e_sl (b_var 0) (o_some (e_add (b_var 1) (PEv.bo e_int))) o_none))) (own := [("other", 3)]) (by with_unfolding_all rfl) (by decide) (fun _ _ _ _ _ hN hC => (g_nm 3 hN)) (fun _ _ _ _ _ => ts_nil) (fun _ _ _ _ _ => (e_callC g_agree (a_cons (e_ix (b_var 2) (PEv.bo e_int)) (a_cons (e_ix (b_var 3) (PEv.bo e_int)) a_nil)))))))) (ss_one (s_ret e_bl)) ss_nil)))
  (ss_one (s_ret e_bl))))
theorem ok_is_int (V : Vx K mg)  (F : FnP K "is_int" (top 13) f fd) (hm : mg "is_int" = some (.ref f)) : Ca P w K mg base (ctK K) 1 "is_int" Fn_is_int :=
  def_okD (N := ["value", "least", "most"]) (ps := ["value", "least", "most"]) F hm ⟨rfl, rfl, rfl, by decide +kernel, rfl, by decide +kernel, by decide +kernel⟩ (fun _ _ _ _ _ _ us hl => match us, hl with | [_, _, _], _ => rfl) (fun cdv A outer s H E W =>
  (ss_one (s_ret (e_and (e_isi .int V.f_isinstance V.f_int (by decide +kernel) (b_var 0)) (e_and (e_not (e_isi .bool V.f_isinstance V.f_bool (by decide +kernel) (b_var 0))) (e_one (e_lele (b_var 1) (b_var 0) (b_var 2))))))))
theorem ok_count_numbers (V : Vx K mg)  (F : FnP K "count_numbers" (top 18) f fd) (hm : mg "count_numbers" = some (.ref f)) : Ca P w K mg base (ctK K) 1 "count_numbers" Fn_count_numbers :=
  def_okD (N := ["size", "entries", "found", "pattern", "holder", "many", "sign"]) (ps := ["size", "entries"]) F hm ⟨rfl, rfl, rfl, by decide +kernel, rfl, by decide +kernel, by decide +kernel⟩ (fun _ _ _ _ _ _ us hl => match us, hl with | [_, _], _ => rfl) (fun cdv A outer s H E W =>
  (ss_cons (s_asg e_int (fun hN hC => g_nm 2 hN))
  (ss_cons (s_for (i_seq (e_var 1)) (fun hN hC => (g_tp hC (gs_cons (g_nm 3 hN) (gs_cons (g_nm 4 hN) gs_nil)))) (ss_cons (s_asg e_int (fun hN hC => g_nm 5 hN))
  (ss_cons (s_for (i_seq (e_var 3)) (fun hN hC => (g_nm 6 hN)) (ss_one (s_asg (e_mul (b_var 5) (PEv.bo (e_if (t_eq (b_var 6) (PEv.bo (e_gstr [120] V.c_ANY))) (e_var 0) e_int))) (fun hN hC => g_nm 5 hN))))
  (ss_one (s_asg (e_add (b_var 2) (b_var 5)) (fun hN hC => g_nm 2 hN))))))
  (ss_one (s_ret (e_var 2))))))
theorem ok_is_word (V : Vx K mg)  (F : FnP K "is_word" (top 14) f fd) (hm : mg "is_word" = some (.ref f)) : Ca P w K mg base (ctK K) 1 "is_word" Fn_is_word :=
  def_okD (N := ["value", "signs", "least", "most", "sign"]) (ps := ["value", "signs", "least", "most"]) F hm ⟨rfl, rfl, rfl, by decide +kernel, rfl, by decide +kernel, by decide +kernel⟩ (fun _ _ _ _ _ _ us hl => match us, hl with | [_, _, _, _], _ => rfl) (fun cdv A outer s H E W =>
  (ss_one (s_ret (e_and (e_isi .str V.f_isinstance V.f_str (by decide +kernel) (b_var 0)) (e_and (e_lele (b_var 2) (PEv.bo (e_len V.f_len (b_var 0))) (b_var 3)) (e_one (e_all V.f_all (PEv.bo (e_lc (w_seq (b_var 0)) (own := [("sign", 4)]) (by with_unfolding_all rfl) (by decide) (fun _ _ _ _ _ hN hC => (g_nm 4 hN)) (fun _ _ _ _ _ => ts_nil) (fun _ _ _ _ _ => (e_in (b_var 4) (b_var 1))))))))))))
theorem ok_is_entry (V : Vx K mg) (g_is_word : Ca P w K mg base (ctK K) 1 "is_word" Fn_is_word) (F : FnP K "is_entry" (top 15) f fd) (hm : mg "is_entry" = some (.ref f)) : Ca P w K mg base (ctK K) 2 "is_entry" Fn_is_entry :=
  def_okD (N := ["size", "value"]) (ps := ["size", "value"]) F hm ⟨rfl, rfl, rfl, by decide +kernel, rfl, by decide +kernel, by decide +kernel⟩ (fun _ _ _ _ _ _ us hl => match us, hl with | [_, _], _ => rfl) (fun cdv A outer s H E W =>
  (ss_cons (s_if (PWv.t (w_or (t_not (t_val (e_isi .tuple V.f_isinstance V.f_tuple (by decide +kernel) (b_var 1)))) (w_or1 (t_ne (PEv.bo (e_len V.f_len (b_var 1))) (PEv.bo e_int))))) (ss_one (s_ret e_bl)) ss_nil)
  (ss_one (s_ret (e_and (e_callC g_is_word (a_cons (e_ix (b_var 1) (PEv.bo e_int)) (a_cons (e_add (PEv.bo (e_sl (PEv.bo (e_gstr [48, 49, 50, 51, 52, 53] V.c_DIGITS_plans)) o_none (o_some (e_var 0)))) (PEv.bo (e_gstr [120] V.c_ANY))) (a_cons e_int (a_cons (e_gint V.c_MAX_LENGTH) a_nil))))) (e_one (e_callC g_is_word (a_cons (e_ix (b_var 1) (PEv.bo e_int)) (a_cons (e_gstr [97, 98, 99, 100, 101, 102, 103, 104, 105, 106, 107, 108, 109, 110, 111, 112, 113, 114, 115, 116, 117, 118, 119, 120, 121, 122] V.c_LETTERS) (a_cons e_int (a_cons (e_gint V.c_MAX_HOLDER) a_nil)))))))))))
theorem ok_is_plan (V : Vx K mg) (g_are_apart : Ca P w K mg base (ctK K) 2 "are_apart" Fn_are_apart) (g_count_numbers : Ca P w K mg base (ctK K) 1 "count_numbers" Fn_count_numbers) (g_is_entry : Ca P w K mg base (ctK K) 2 "is_entry" Fn_is_entry) (g_is_int : Ca P w K mg base (ctK K) 1 "is_int" Fn_is_int) (F : FnP K "is_plan" (top 19) f fd) (hm : mg "is_plan" = some (.ref f)) : Ca P w K mg base (ctK K) 3 "is_plan" Fn_is_plan :=
  def_okD (N := ["candidate", "size", "entries", "entry", "one", "other"]) (ps := ["candidate"]) F hm ⟨rfl, rfl, rfl, by decide +kernel, rfl, by decide +kernel, by decide +kernel⟩ (fun _ _ _ _ _ _ us hl => match us, hl with | [_], _ => rfl) (fun cdv A outer s H E W =>
  (ss_cons (s_if (PWv.t (w_or (t_not (t_val (e_isi .tuple V.f_isinstance V.f_tuple (by decide +kernel) (b_var 0)))) (w_or (t_ne (PEv.bo (e_len V.f_len (b_var 0))) (PEv.bo e_int)) (w_or1 (t_not (t_val (e_callC g_is_int (a_cons (e_ix (b_var 0) (PEv.bo e_int)) (a_cons e_int (a_cons (e_gint V.c_MAX_SIZE) a_nil)))))))))) (ss_one (s_ret e_bl)) ss_nil)
  (ss_cons (s_asg (e_var 0) (fun hN hC => (g_tp hC (gs_cons (g_nm 1 hN) (gs_cons (g_nm 2 hN) gs_nil)))))
  (ss_cons (s_if (PWv.t (w_or (t_not (t_val (e_isi .tuple V.f_isinstance V.f_tuple (by decide +kernel) (b_var 2)))) (w_or1 (t_not (t_lele (PEv.bo e_int) (PEv.bo (e_len V.f_len (b_var 2))) (PEv.bo (e_gint V.c_MAX_ENTRIES))))))) (ss_one (s_ret e_bl)) ss_nil)
  (ss_cons (s_if (t_not (t_val (e_all V.f_all (PEv.bo (e_lc (w_seq (b_var 2)) (own := [("entry", 3)]) (by with_unfolding_all rfl) (by decide) (fun _ _ _ _ _ hN hC => (g_nm 3 hN)) (fun _ _ _ _ _ => ts_nil) (fun _ _ _ _ _ => (e_callC g_is_entry (a_cons (e_var 1) (a_cons (e_var 3) a_nil))))))))) (ss_one (s_ret e_bl)) ss_nil)
  (ss_cons (s_if (t_not (t_val (e_all V.f_all (PEv.bo (e_lc (PFv.w (i_zip V.f_zip (e_var 2) (e_sl (b_var 2) (o_some e_int) o_none))) (own := [("one", 4), ("other", 5)]) (by with_unfolding_all rfl) (by decide) (fun _ _ _ _ _ hN hC => (g_tp hC (gs_cons (g_nm 4 hN) (gs_cons (g_nm 5 hN) gs_nil)))) (fun _ _ _ _ _ => ts_nil) (fun _ _ _ _ _ => (e_lt (b_var 4) (b_var 5)))))))) (ss_one (s_ret e_bl)) ss_nil)
  (ss_one (s_ret (e_and (e_callC g_are_apart (a_cons (e_var 2) a_nil)) (e_one (e_le (PEv.bo (e_callC g_count_numbers (a_cons (e_var 1) (a_cons (e_var 2) a_nil)))) (PEv.bo (e_gint V.c_MAX_NUMBERS)))))))))))))
theorem ok_check_plan (V : Vx K mg) (g_is_plan : Ca P w K mg base (ctK K) 3 "is_plan" Fn_is_plan) (F : FnP K "check_plan" (top 20) f fd) (hm : mg "check_plan" = some (.ref f)) : Ca P w K mg base (ctK K) 4 "check_plan" Fn_check_plan :=
  def_okD (N := ["value"]) (ps := ["value"]) F hm ⟨rfl, rfl, rfl, by decide +kernel, rfl, by decide +kernel, by decide +kernel⟩ (fun _ _ _ _ _ _ us hl => match us, hl with | [_], _ => rfl) (fun cdv A outer s H E W =>
  (ss_one (s_if (t_not (t_val (e_callC g_is_plan (a_cons (e_var 0) a_nil)))) (ss_one (s_raise "InvalidPlan" rfl excV V.x_InvalidPlan.1 V.n_InvalidPlan V.x_InvalidPlan.2.1 V.x_InvalidPlan.2.2.1 V.x_InvalidPlan.2.2.2)) ss_nil)))
theorem ok_join_plan (V : Vx K mg)  (F : FnP K "join_plan" (top 27) f fd) (hm : mg "join_plan" = some (.ref f)) : Ca P w K mg base (ctK K) 1 "join_plan" Fn_join_plan :=
  def_okD (N := ["plan", "size", "entries", "rows", "pattern", "holder", "row"]) (ps := ["plan"]) F hm ⟨rfl, rfl, rfl, by decide +kernel, rfl, by decide +kernel, by decide +kernel⟩ (fun _ _ _ _ _ _ us hl => match us, hl with | [_], _ => rfl) (fun cdv A outer s H E W =>
  (ss_cons (s_asg (e_var 0) (fun hN hC => (g_tp hC (gs_cons (g_nm 1 hN) (gs_cons (g_nm 2 hN) gs_nil)))))
  (ss_cons (s_asg (e_add (PEv.bo (e_lst (a_cons (e_lst (a_cons (e_gstr [112, 108, 97, 110] V.c_PLAN) (a_cons (e_strI V.f_str (b_var 1)) a_nil))) a_nil))) (PEv.bo (e_lc (w_seq (b_var 2)) (own := [("pattern", 4), ("holder", 5)]) (by with_unfolding_all rfl) (by decide) (fun _ _ _ _ _ hN hC => (g_tp hC (gs_cons (g_nm 4 hN) (gs_cons (g_nm 5 hN) gs_nil)))) (fun _ _ _ _ _ => ts_nil) (fun _ _ _ _ _ => (e_lst (a_cons (e_gstr [101, 110, 116, 114, 121] V.c_ENTRY) (a_cons (e_var 4) (a_cons (e_var 5) a_nil)))))))) (fun hN hC => g_nm 3 hN))
  (ss_one (s_ret (e_join (e_str []) (PEv.bo (e_lc (w_seq (b_var 3)) (own := [("row", 6)]) (by with_unfolding_all rfl) (by decide) (fun _ _ _ _ _ hN hC => (g_nm 6 hN)) (fun _ _ _ _ _ => ts_nil) (fun _ _ _ _ _ => (e_add (PEv.bo (e_join (e_gstr [32] V.c_SPACE) (b_var 6))) (PEv.bo (e_gstr [10] V.c_NEWLINE))))))))))))
theorem ok_format_plan (V : Vx K mg) (g_check_plan : Ca P w K mg base (ctK K) 4 "check_plan" Fn_check_plan) (g_join_plan : Ca P w K mg base (ctK K) 1 "join_plan" Fn_join_plan) (F : FnP K "format_plan" (top 28) f fd) (hm : mg "format_plan" = some (.ref f)) : Ca P w K mg base (ctK K) 5 "format_plan" Fn_format_plan :=
  def_okD (N := ["plan"]) (ps := ["plan"]) F hm ⟨rfl, rfl, rfl, by decide +kernel, rfl, by decide +kernel, by decide +kernel⟩ (fun _ _ _ _ _ _ us hl => match us, hl with | [_], _ => rfl) (fun cdv A outer s H E W =>
  (ss_cons (s_expr (e_callC g_check_plan (a_cons (e_var 0) a_nil)))
  (ss_one (s_ret (e_callC g_join_plan (a_cons (e_var 0) a_nil))))))
theorem ok_parse_plan (V : Vx K mg) (g_is_plan : Ca P w K mg base (ctK K) 3 "is_plan" Fn_is_plan) (g_join_plan : Ca P w K mg base (ctK K) 1 "join_plan" Fn_join_plan) (F : FnP K "parse_plan" (top 29) f fd) (hm : mg "parse_plan" = some (.ref f)) : Ca P w K mg base (ctK K) 4 "parse_plan" Fn_parse_plan :=
  def_okD (N := ["text", "rows", "row", "size", "number", "plan"]) (ps := ["text"]) F hm ⟨rfl, rfl, rfl, by decide +kernel, rfl, by decide +kernel, by decide +kernel⟩ (fun _ _ _ _ _ _ us hl => match us, hl with | [_], _ => rfl) (fun cdv A outer s H E W =>
  (ss_cons (s_if (t_not (t_val (e_isi .str V.f_isinstance V.f_str (by decide +kernel) (b_var 0)))) (ss_one (s_raise "ParseError" rfl excV V.x_ParseError.1 V.n_ParseError V.x_ParseError.2.1 V.x_ParseError.2.2.1 V.x_ParseError.2.2.2)) ss_nil)
  (ss_cons (s_lc 1 (w_seq (PEv.bo (e_sl (PEv.bo (e_split (e_var 0) (e_gstr [10] V.c_NEWLINE))) o_none (o_some e_neg)))) (own := [("row", 2)]) (by with_unfolding_all rfl) (by decide) (fun _ _ _ _ _ hN hC => (g_nm 2 hN)) (fun _ _ _ _ _ => ts_nil) (fun _ _ _ _ _ => (e_split (e_var 2) (e_gstr [32] V.c_SPACE))) (sw_true rfl rfl rfl (by with_unfolding_all rfl)))
  (ss_cons (s_if (PWv.t (w_or (t_eq (b_var 1) (PEv.bo (e_lst a_nil))) (w_or (t_ne (PEv.bo (e_len V.f_len (PEv.bo (e_ix (b_var 1) (PEv.bo e_int))))) (PEv.bo e_int)) (w_or1 (t_not (t_val (e_all V.f_all (PEv.bo (e_lc (w_seq (PEv.bo (e_sl (b_var 1) (o_some e_int) o_none))) (own := [("row", 2)]) (by with_unfolding_all rfl) (by decide) (fun _ _ _ _ _ hN hC => (g_nm 2 hN)) (fun _ _ _ _ _ => ts_nil) (fun _ _ _ _ _ => (e_eq (PEv.bo (e_len V.f_len (b_var 2))) (PEv.bo e_int)))))))))))) (ss_one (s_raise "ParseError" rfl excV V.x_ParseError.1 V.n_ParseError V.x_ParseError.2.1 V.x_ParseError.2.2.1 V.x_ParseError.2.2.2)) ss_nil)
  (ss_cons (s_asg (e_ix (PEv.bo (e_ix (b_var 1) (PEv.bo e_int))) (PEv.bo e_int)) (fun hN hC => g_nm 3 hN))
  (ss_cons (s_asg (e_if (PWv.t (w_and (t_eq (PEv.bo (e_len V.f_len (b_var 3))) (PEv.bo e_int)) (w_and1 (t_in (b_var 3) (PEv.bo (e_gstr [48, 49, 50, 51, 52, 53, 54, 55, 56, 57] V.c_DIGITS_formats)))))) (e_intS V.f_int (b_var 3)) e_non) (fun hN hC => g_nm 4 hN))
  (ss_cons (s_asg (e_tup (a_cons (e_var 4) (a_cons (e_totup V.f_tuple (PEv.bo (e_lc (w_seq (PEv.bo (e_sl (b_var 1) (o_some e_int) o_none))) (own := [("row", 2)]) (by with_unfolding_all rfl) (by decide) (fun _ _ _ _ _ hN hC => (g_nm 2 hN)) (fun _ _ _ _ _ => ts_nil) (fun _ _ _ _ _ => (e_tup (a_cons (e_ix (b_var 2) (PEv.bo e_int)) (a_cons (e_ix (b_var 2) (PEv.bo e_int)) a_nil))))))) a_nil))) (fun hN hC => g_nm 5 hN))
  (ss_cons (s_if (PWv.t (w_or (t_not (t_val (e_callC g_is_plan (a_cons (e_var 5) a_nil)))) (w_or1 (t_ne (PEv.bo (e_callC g_join_plan (a_cons (e_var 5) a_nil))) (b_var 0))))) (ss_one (s_raise "ParseError" rfl excV V.x_ParseError.1 V.n_ParseError V.x_ParseError.2.1 V.x_ParseError.2.2.1 V.x_ParseError.2.2.2)) ss_nil)
  (ss_one (s_ret (e_var 5)))))))))))
theorem okR__law_read (V : Vx K mg) (F : FnP K "_law_read" (top 35) f fd) (hm : mg "_law_read" = some (.ref f)) : CaR K mg (ctK K) "_law_read" catR :=
  ⟨top 35, f, fd, "call", "ParseError", _, F, ⟨⟨_, _, _, _, _, _, _, _, _, by with_unfolding_all rfl⟩, ⟨rfl, rfl, rfl, by decide +kernel, rfl, by decide +kernel, by decide +kernel⟩, by rfl, by decide, by exact Or.inl rfl, by decide, by decide⟩, F.bindsN (fun _ _ _ _ _ _ us hl => match us, hl with | [_], _ => rfl), hm, V.n_ParseError, V.catR⟩
theorem ok_law (V : Vx K mg) (g__law_pick : Ca P w K mg base (ctK K) 1 "_law_pick" Fn__law_pick) (g__law_plan : Ca P w K mg base (ctK K) 2 "_law_plan" Fn__law_plan) (g__law_text : Ca P w K mg base (ctK K) 1 "_law_text" Fn__law_text) (g_format_plan : Ca P w K mg base (ctK K) 5 "format_plan" Fn_format_plan) (g_is_plan : Ca P w K mg base (ctK K) 3 "is_plan" Fn_is_plan) (g_parse_plan : Ca P w K mg base (ctK K) 4 "parse_plan" Fn_parse_plan) (gR : CaR K mg (ctK K) "_law_read" catR) {c Pt : Addr} (TB : LamX.TabB base mg c Pt) (hc : fd.code = .ref c) (F : FnP K "law" (top 36) f fd) : FnOk P w K mg base (L2.CX P w) 7 f fd ["script"] (spT K [(Pt, lamQ ("law" : Str))] Fn_law) :=
  def_okT (ct := ctK K) (N := ["script", "i", "plan", "text", "k", "spot", "sign", "off", "found", "bads", "bad"]) (ps := ["script"]) F hc ⟨rfl, rfl, rfl, by decide +kernel, rfl, by decide +kernel, by decide +kernel⟩ (fun A outer s H E W =>
  (sst_cons (st_for (it_r1 V.f_range e_int) (fun hN hC => (g_nm 1 hN)) (sst_cons (st_lift (s_asg (e_callC g__law_plan (a_cons (e_var 0) (a_cons (e_mul (PEv.bo e_int) (b_var 1)) a_nil))) (fun hN hC => g_nm 2 hN)))
  (sst_cons (st_lift (s_asg (e_callC g__law_text (a_cons (e_var 2) a_nil)) (fun hN hC => g_nm 3 hN)))
  (sst_cons (st_if (PWt.t (wt_or (tt_lift (t_ne (PEv.bo (e_callC g_format_plan (a_cons (e_var 2) a_nil))) (b_var 3))) (wt_or1 (fun C => tt_cmp od_ne (op_neP C.room) (et_readC (kk := 4) gR TB (fun A outer s H E f c' W' => (e_callC g_parse_plan (a_cons (e_var 3) a_nil)))) (b_var 2) (nomark _) C)))) (sst_one (st_lift (s_ret e_bl))) sst_nil)
  (sst_cons (st_for (it_r1 V.f_range e_int) (fun hN hC => (g_nm 4 hN)) (sst_cons (st_lift (s_asg (e_callC g__law_pick (a_cons (e_var 0) (a_cons (e_add (PEv.bo (e_add (PEv.bo (e_mul (PEv.bo e_int) (b_var 1))) (PEv.bo e_int))) (b_var 4)) (a_cons (e_len V.f_len (b_var 3)) a_nil)))) (fun hN hC => g_nm 5 hN)))
  (sst_one (st_for (it_seq (e_tup (a_cons (e_str [48]) (a_cons (e_str [49]) (a_cons (e_str [32]) (a_cons (e_str [10]) (a_cons (e_str []) (a_cons (e_str [120]) (a_cons (e_str [97]) (a_cons (e_str [55]) a_nil)))))))))) (fun hN hC => (g_nm 6 hN)) (sst_cons (st_lift (s_asg (e_add (PEv.bo (e_add (PEv.bo (e_sl (b_var 3) o_none (o_some (e_var 5)))) (b_var 6))) (PEv.bo (e_sl (b_var 3) (o_some (e_add (b_var 5) (PEv.bo e_int))) o_none))) (fun hN hC => g_nm 7 hN)))
  (sst_cons (st_asg (i := 8) (et_readC (kk := 4) gR TB (fun A outer s H E f c' W' => (e_callC g_parse_plan (a_cons (e_var 7) a_nil)))))
  (sst_one (st_lift (s_if (PWv.t (w_and (t_isn (b_var 8) (PEv.bo e_non)) (w_and1 (PWv.t (w_or (t_not (t_val (e_callC g_is_plan (a_cons (e_var 8) a_nil)))) (w_or1 (t_ne (PEv.bo (e_callC g__law_text (a_cons (e_var 8) a_nil))) (b_var 7)))))))) (ss_one (s_ret e_bl)) ss_nil)))))))))
  (sst_cons (st_lift (s_newL 9 (a_cons e_non (a_cons e_int (a_cons1 (e1_str []) (at_cons (PETv.of (e_sl (b_var 3) o_none (o_some e_neg))) (at_cons (PETv.of (e_add (b_var 3) (PEv.bo (e_str [10])))) (at_cons (PETv.of (e_add (PEv.bo (e_str [32])) (b_var 3))) (at_cons (et_repl [112, 108, 97, 110] [112, 108, 97, 110, 115] (e_var 3)) at_nil)))))))))
  (sst_cons (st_lift (s_ext 9 (e_lst (a_cons (e_lst (a_cons (e_var 3) a_nil)) (a_cons (e_add (b_var 3) (b_var 3)) a_nil)))))
  (sst_cons (st_lift (s_ext 9 (e_lst (a_cons1 (e1_add (b_var 3) [101, 110, 116, 114, 121, 32, 48, 10]) (at_cons (PETv.of (e_add (b_var 3) (PEv.bo (e_str [101, 110, 116, 114, 121, 32, 32, 97, 10])))) (at_cons (et_repl [112, 108, 97, 110, 32] [112, 108, 97, 110, 32, 48] (e_var 3)) (at_cons (PETv.of (e_str [112, 108, 97, 110, 32, 50, 10])) at_nil)))))))
  (sst_one (sst_frz 9 (st_for (it_seq (e_var 9)) (fun hN hC => (g_nm 10 hN)) (sst_one (st_if (fun C => tt_cmp od_isn op_notA (et_readC (kk := 4) gR TB (fun A outer s H E f c' W' => (e_callC g_parse_plan (a_cons (e_var 10) a_nil)))) (PEv.bo e_non) (nomark _) C) (sst_one (st_lift (s_ret e_bl))) sst_nil)))))))))))))
  (sst_cons (st_lift (s_asg (e_tup (a_cons e_int (a_cons (e_tup (a_cons (e_tup (a_cons (e_str [48]) (a_cons (e_str [97]) a_nil))) (a_cons (e_tup (a_cons (e_str [49, 120]) (a_cons (e_str [98]) a_nil))) a_nil))) a_nil))) (fun hN hC => g_nm 2 hN)))
  (sst_one (st_lift (s_ret (e_and (e_eq (PEv.bo (e_callC g_format_plan (a_cons (e_var 2) a_nil))) (PEv.bo (e_str [112, 108, 97, 110, 32, 50, 10, 101, 110, 116, 114, 121, 32, 48, 32, 97, 10, 101, 110, 116, 114, 121, 32, 49, 120, 32, 98, 10]))) (e_one (e_eq (PEv.bo (e_callC g_parse_plan (a_cons (e_callC g_format_plan (a_cons (e_var 2) a_nil)) a_nil))) (b_var 2))))))))))
end
end Pv.W52

namespace Pv.W52
open PySem PySem.Spec L2
def d__law_pick : He.DefD := ⟨("_law_pick", none), "_law_pick", "_law_pick", defArgs (top 31), defBody (top 31), defScope (top 31), [], []⟩
def d__law_agree : He.DefD := ⟨("_law_agree", none), "_law_agree", "_law_agree", defArgs (top 32), defBody (top 32), defScope (top 32), [], []⟩
def d__law_plan : He.DefD := ⟨("_law_plan", none), "_law_plan", "_law_plan", defArgs (top 33), defBody (top 33), defScope (top 33), [], []⟩
def d__law_text : He.DefD := ⟨("_law_text", none), "_law_text", "_law_text", defArgs (top 34), defBody (top 34), defScope (top 34), [], []⟩
def d_agree : He.DefD := ⟨("agree", none), "agree", "agree", defArgs (top 16), defBody (top 16), defScope (top 16), [], []⟩
def d_are_apart : He.DefD := ⟨("are_apart", none), "are_apart", "are_apart", defArgs (top 17), defBody (top 17), defScope (top 17), [], []⟩
def d_is_int : He.DefD := ⟨("is_int", none), "is_int", "is_int", defArgs (top 13), defBody (top 13), defScope (top 13), [], []⟩
def d_count_numbers : He.DefD := ⟨("count_numbers", none), "count_numbers", "count_numbers", defArgs (top 18), defBody (top 18), defScope (top 18), [], []⟩
def d_is_word : He.DefD := ⟨("is_word", none), "is_word", "is_word", defArgs (top 14), defBody (top 14), defScope (top 14), [], []⟩
def d_is_entry : He.DefD := ⟨("is_entry", none), "is_entry", "is_entry", defArgs (top 15), defBody (top 15), defScope (top 15), [], []⟩
def d_is_plan : He.DefD := ⟨("is_plan", none), "is_plan", "is_plan", defArgs (top 19), defBody (top 19), defScope (top 19), [], []⟩
def d_check_plan : He.DefD := ⟨("check_plan", none), "check_plan", "check_plan", defArgs (top 20), defBody (top 20), defScope (top 20), [], []⟩
def d_join_plan : He.DefD := ⟨("join_plan", none), "join_plan", "join_plan", defArgs (top 27), defBody (top 27), defScope (top 27), [], []⟩
def d_format_plan : He.DefD := ⟨("format_plan", none), "format_plan", "format_plan", defArgs (top 28), defBody (top 28), defScope (top 28), [], []⟩
def d_parse_plan : He.DefD := ⟨("parse_plan", none), "parse_plan", "parse_plan", defArgs (top 29), defBody (top 29), defScope (top 29), [], []⟩
def d__law_read : He.DefD := ⟨("_law_read", none), "_law_read", "_law_read", defArgs (top 35), defBody (top 35), defScope (top 35), [], []⟩
def d_law : He.DefD := ⟨("law", none), "law", "law", defArgs (top 36), defBody (top 36), defScope (top 36), [], []⟩
def fn : List He.DefD := [d__law_pick, d__law_agree, d__law_plan, d__law_text, d_agree, d_are_apart, d_is_int, d_count_numbers, d_is_word, d_is_entry, d_is_plan, d_check_plan, d_join_plan, d_format_plan, d_parse_plan, d__law_read, d_law]
def fa : List He.Fa := [.glo "_law_pick", .glo "_law_agree", .glo "_law_plan", .glo "_law_text", .glo "agree", .glo "are_apart", .glo "is_int", .glo "count_numbers", .glo "is_word", .glo "is_entry", .glo "is_plan", .glo "check_plan", .glo "join_plan", .glo "format_plan", .glo "parse_plan", .glo "_law_read", .glo "law", .free "all", .free "any", .free "bool", .free "enumerate", .free "int", .free "isinstance", .free "len", .free "max", .free "range", .free "sorted", .free "str", .free "tuple", .free "zip", .str "ANY" "x", .str "DIGITS_formats" "0123456789", .str "DIGITS_plans" "012345", .str "ENTRY" "entry", .str "LETTERS" "abcdefghijklmnopqrstuvwxyz", .int "MAX_ENTRIES" 8, .int "MAX_HOLDER" 3, .int "MAX_LENGTH" 6, .int "MAX_NUMBERS" 200, .int "MAX_SIZE" 6, .str "NEWLINE" "\n", .str "PLAN" "plan", .str "SPACE" " ", .glo "DialError", .exc "DialError", .glo "InvalidPlan", .exc "InvalidPlan", .glo "ParseError", .exc "ParseError"]
abbrev R : PySem.W.OpenRow := PySem.W.OpenLaw.row PySem.Challenge.rw_dialslips_k52_formats
def exL (K : PySem.W.Frag) : Bool := exB excs isa K && (PySem.W.tabIn K "law").isSome
abbrev hk : PySem.W.Hook := hookN 4 fa fn (exL)
def ob (s : PySem.W.SharedT) : AlE := obsN 4 fa fn (exL) (HandSHeadRun.getT s)
theorem ob_eq (s : PySem.W.SharedT) : ob s = hk.obs s.abs := obsN_eq (HandSHeadRun.getT_eq s)
abbrev loo : List Str := (["DialError", "InvalidPlan", "ParseError", "DIGITS_plans", "LETTERS", "ANY", "MAX_SIZE", "MAX_LENGTH", "MAX_ENTRIES", "MAX_HOLDER", "MAX_NUMBERS", "is_int", "is_word", "is_entry", "agree", "are_apart", "count_numbers", "is_plan", "check_plan", "SPACE"] : List Str) ++ (["NEWLINE", "PLAN", "ENTRY", "DIGITS_formats", "join_plan", "format_plan", "parse_plan", "_law_pick", "_law_agree", "_law_plan", "_law_text", "_law_read"] : List Str)
theorem run (w : World) : HandSHeadRun.RunEq R (PySem.W.view R.prog [36]) hk ob 4000 loo w := by
  intro os
  kernel_rfl
theorem vx [HasW] {K : PySem.W.Frag} {h : Heap} {mg : Str → Option Value} (X : K.In h) (G : h.Ns mainGlobals mg) (c : He.SaysD fa fn K) (ex : exB excs isa K = true) : Vx K mg := by
  obtain ⟨e1, e2, e3⟩ := exB_ok ex
  refine ⟨He.free_ok X G (c.fact 17 (f := .free "all") rfl), He.free_ok X G (c.fact 18 (f := .free "any") rfl), He.free_ok X G (c.fact 19 (f := .free "bool") rfl), He.free_ok X G (c.fact 20 (f := .free "enumerate") rfl), He.free_ok X G (c.fact 21 (f := .free "int") rfl), He.free_ok X G (c.fact 22 (f := .free "isinstance") rfl), He.free_ok X G (c.fact 23 (f := .free "len") rfl), He.free_ok X G (c.fact 24 (f := .free "max") rfl), He.free_ok X G (c.fact 25 (f := .free "range") rfl), He.free_ok X G (c.fact 26 (f := .free "sorted") rfl), He.free_ok X G (c.fact 27 (f := .free "str") rfl), He.free_ok X G (c.fact 28 (f := .free "tuple") rfl), He.free_ok X G (c.fact 29 (f := .free "zip") rfl), He.str_ok X G (c.fact 30 (f := .str "ANY" "x") rfl), He.str_ok X G (c.fact 31 (f := .str "DIGITS_formats" "0123456789") rfl), He.str_ok X G (c.fact 32 (f := .str "DIGITS_plans" "012345") rfl), He.str_ok X G (c.fact 33 (f := .str "ENTRY" "entry") rfl), He.str_ok X G (c.fact 34 (f := .str "LETTERS" "abcdefghijklmnopqrstuvwxyz") rfl), He.int_ok X G (c.fact 35 (f := .int "MAX_ENTRIES" 8) rfl), He.int_ok X G (c.fact 36 (f := .int "MAX_HOLDER" 3) rfl), He.int_ok X G (c.fact 37 (f := .int "MAX_LENGTH" 6) rfl), He.int_ok X G (c.fact 38 (f := .int "MAX_NUMBERS" 200) rfl), He.int_ok X G (c.fact 39 (f := .int "MAX_SIZE" 6) rfl), He.str_ok X G (c.fact 40 (f := .str "NEWLINE" "\n") rfl), He.str_ok X G (c.fact 41 (f := .str "PLAN" "plan") rfl), He.str_ok X G (c.fact 42 (f := .str "SPACE" " ") rfl), He.glo_ok X G (c.fact 43 (f := .glo "DialError") rfl), He.exc_ok (c.fact 44 (f := .exc "DialError") rfl), He.glo_ok X G (c.fact 45 (f := .glo "InvalidPlan") rfl), He.exc_ok (c.fact 46 (f := .exc "InvalidPlan") rfl), He.glo_ok X G (c.fact 47 (f := .glo "ParseError") rfl), He.exc_ok (c.fact 48 (f := .exc "ParseError") rfl), fun c b hc => ?_, fun c b hc => ?_, e1, e2⟩
  · unfold catE at hc
    split at hc
    · rename_i z
      cases hc
      exact e3 c z "DialError" (by decide)
    · cases hc
  · unfold catR at hc
    split at hc
    · rename_i z
      cases hc
      exact e3 c z "ParseError" (by decide)
    · cases hc
theorem facts [HasW] {P : Program} {w : World} {K : PySem.W.Frag} {h base : Heap} {mg : Str → Option Value} {f : Addr} {fd : FuncData} (hW : HasW.P = P ∧ HasW.w = w) (X : K.In h) (G : h.Ns mainGlobals mg) (c : He.SaysD fa fn K) (ex : exB excs isa K = true) {cc Pt : Addr} (TB : LamX.TabB base mg cc Pt) (hc : fd.code = .ref cc) (F : FnP K "law" (top 36) f fd) : FnOk P w K mg base (L2.CX P w) 7 f fd ["script"] (spT K [(Pt, lamQ ("law" : Str))] Fn_law) := by
  have V := vx X G c ex
  obtain ⟨fd_0, F_0⟩ := c.def_ 0 (d := d__law_pick) rfl
  have g__law_pick := ok__law_pick (P := P) (w := w) (base := base) V  F_0 (He.glo_ok X G (c.fact 0 (f := .glo "_law_pick") rfl))
  obtain ⟨fd_1, F_1⟩ := c.def_ 1 (d := d__law_agree) rfl
  have g__law_agree := ok__law_agree (P := P) (w := w) (base := base) V  F_1 (He.glo_ok X G (c.fact 1 (f := .glo "_law_agree") rfl))
  obtain ⟨fd_2, F_2⟩ := c.def_ 2 (d := d__law_plan) rfl
  have g__law_plan := ok__law_plan (P := P) (w := w) (base := base) V g__law_agree g__law_pick F_2 (He.glo_ok X G (c.fact 2 (f := .glo "_law_plan") rfl))
  obtain ⟨fd_3, F_3⟩ := c.def_ 3 (d := d__law_text) rfl
  have g__law_text := ok__law_text (P := P) (w := w) (base := base) V  F_3 (He.glo_ok X G (c.fact 3 (f := .glo "_law_text") rfl))
  obtain ⟨fd_4, F_4⟩ := c.def_ 4 (d := d_agree) rfl
  have g_agree := ok_agree (P := P) (w := w) (base := base) V  F_4 (He.glo_ok X G (c.fact 4 (f := .glo "agree") rfl))
  obtain ⟨fd_5, F_5⟩ := c.def_ 5 (d := d_are_apart) rfl
  have g_are_apart := ok_are_apart (P := P) (w := w) (base := base) V g_agree F_5 (He.glo_ok X G (c.fact 5 (f := .glo "are_apart") rfl))
  obtain ⟨fd_6, F_6⟩ := c.def_ 6 (d := d_is_int) rfl
  have g_is_int := ok_is_int (P := P) (w := w) (base := base) V  F_6 (He.glo_ok X G (c.fact 6 (f := .glo "is_int") rfl))
  obtain ⟨fd_7, F_7⟩ := c.def_ 7 (d := d_count_numbers) rfl
  have g_count_numbers := ok_count_numbers (P := P) (w := w) (base := base) V  F_7 (He.glo_ok X G (c.fact 7 (f := .glo "count_numbers") rfl))
  obtain ⟨fd_8, F_8⟩ := c.def_ 8 (d := d_is_word) rfl
  have g_is_word := ok_is_word (P := P) (w := w) (base := base) V  F_8 (He.glo_ok X G (c.fact 8 (f := .glo "is_word") rfl))
  obtain ⟨fd_9, F_9⟩ := c.def_ 9 (d := d_is_entry) rfl
  have g_is_entry := ok_is_entry (P := P) (w := w) (base := base) V g_is_word F_9 (He.glo_ok X G (c.fact 9 (f := .glo "is_entry") rfl))
  obtain ⟨fd_10, F_10⟩ := c.def_ 10 (d := d_is_plan) rfl
  have g_is_plan := ok_is_plan (P := P) (w := w) (base := base) V g_are_apart g_count_numbers g_is_entry g_is_int F_10 (He.glo_ok X G (c.fact 10 (f := .glo "is_plan") rfl))
  obtain ⟨fd_11, F_11⟩ := c.def_ 11 (d := d_check_plan) rfl
  have g_check_plan := ok_check_plan (P := P) (w := w) (base := base) V g_is_plan F_11 (He.glo_ok X G (c.fact 11 (f := .glo "check_plan") rfl))
  obtain ⟨fd_12, F_12⟩ := c.def_ 12 (d := d_join_plan) rfl
  have g_join_plan := ok_join_plan (P := P) (w := w) (base := base) V  F_12 (He.glo_ok X G (c.fact 12 (f := .glo "join_plan") rfl))
  obtain ⟨fd_13, F_13⟩ := c.def_ 13 (d := d_format_plan) rfl
  have g_format_plan := ok_format_plan (P := P) (w := w) (base := base) V g_check_plan g_join_plan F_13 (He.glo_ok X G (c.fact 13 (f := .glo "format_plan") rfl))
  obtain ⟨fd_14, F_14⟩ := c.def_ 14 (d := d_parse_plan) rfl
  have g_parse_plan := ok_parse_plan (P := P) (w := w) (base := base) V g_is_plan g_join_plan F_14 (He.glo_ok X G (c.fact 14 (f := .glo "parse_plan") rfl))
  obtain ⟨fd_15, F_15⟩ := c.def_ 15 (d := d__law_read) rfl
  have gR := okR__law_read V F_15 (He.glo_ok X G (c.fact 15 (f := .glo "_law_read") rfl))
  exact ok_law V g__law_pick g__law_plan g__law_text g_format_plan g_is_plan g_parse_plan gR TB hc F
theorem code_of {K : PySem.W.Frag} {h : Heap} {mg : Str → Option Value} {fa c P : Addr} {fd : FuncData} (X : K.In h) (G : h.Ns mainGlobals mg) (ht : PySem.W.tabIn K "law" = some (c, P)) (hm : mg "law" = some (.ref fa)) (F : FnP K "law" (top 36) fa fd) : fd.code = .ref c := by
  obtain ⟨oc, od, dV, kV, doc, pm, an, cdv, ct, osl, e, lk, _, _, _⟩ := F.ex
  exact PySem.W.law_code X G ht hm (X _ _ lk) rfl
end Pv.W52
open PySem PySem.W PySem.Calls PyProof.Rows
theorem Pv.W52.holds (math : ∀ ns : List Int, ns.length ≤ 63 → Pv.W52.Fn_law [.lst (ns.map Pv.D.int)] = .ok (.bl true)) : PySem.Challenge.rw_dialslips_k52_formats.Holds := by
  w_on; o_law
  refine HandSHeadRun.head_any (r := OpenLaw.row PySem.Challenge.rw_dialslips_k52_formats) (q := view (OpenLaw.row PySem.Challenge.rw_dialslips_k52_formats).prog [36]) (H := Pv.W52.hk) (ob := Pv.W52.ob) (M := 4000) (loose := Pv.W52.loo) (d := HandSHeadRun.topDef (OpenLaw.row PySem.Challenge.rw_dialslips_k52_formats).prog 36) (kwd := []) Pv.W52.ob_eq
    (by kernel_rfl) (fun s => by kernel_rfl) Pv.W52.run (by kernel_rfl) (by kernel_rfl) (by kernel_rfl) (by rfl) (by first | assumption | decide +kernel) (by decide +kernel) ⟨rfl, rfl, rfl, rfl, rfl, by decide +kernel⟩ ?hw ?hc
  case hw => w_witness2
  case hc =>
    refine Pv.walk_ofN (l := PySem.Challenge.rw_dialslips_k52_formats) (n := 63) (k := 7) (x := "script") (d' := HandSHeadRun.topDef (OpenLaw.row PySem.Challenge.rw_dialslips_k52_formats).prog 36) rfl (by decide) (by kernel_rfl) ⟨rfl, by decide, by decide⟩ (by kernel_rfl) ?F
    intro w mg fa h Y G hmg0
    letI : Pv.HasW := ⟨PySem.Challenge.rw_dialslips_k52_formats.prog, w⟩
    obtain ⟨K, KX, hnt, c, ex0⟩ := Y
    have enm : (HandSHeadRun.topDef (OpenLaw.row PySem.Challenge.rw_dialslips_k52_formats).prog 36).name = ("law" : PySem.Str) := by kernel_rfl
    have hmg : mg ("law" : PySem.Str) = some (.ref fa) := by
      rw [← enm]
      exact hmg0
    obtain ⟨fd, F⟩ := c.def_ 16 (d := Pv.W52.d_law) rfl
    have e := hmg.symm.trans (He.glo_ok KX G (c.fact 16 (f := .glo "law") rfl))
    cases e
    obtain ⟨ex, htab⟩ := He.ba (show (_ && _) = true from ex0)
    cases ht : PySem.W.tabIn K "law" with
    | none => rw [ht] at htab; cases htab
    | some cp =>
    obtain ⟨cc, Pt⟩ := cp
    have b := L2.FunD.bindsA (ps := ["script"]) F fun _ _ _ _ _ _ us hl => match us, hl with | [_], _ => rfl
    refine ⟨K, fd, Pv.spT K [(Pt, Pv.lamQ ("law" : PySem.Str))] Pv.W52.Fn_law, cc, Pt, KX, hnt, by rw [enm]; exact ht, fun s v => b s [v] rfl, fun H a ns hl hP hS => Pv.law_spT (Pv.exB_noL ex) (fun p hp => by
      rw [List.mem_singleton.mp hp]
      exact LamX.TabS.nil hP) hS (Nat.le_trans hl (by decide)) (math ns hl), fun base _ _ TB => Pv.W52.facts ⟨rfl, rfl⟩ KX G c ex TB (Pv.W52.code_of KX G ht hmg F) F⟩

theorem PySem.Challenge.cw_dialslips_k52_formats_holds : PySem.Challenge.rw_dialslips_k52_formats.Holds := by
  exact Pv.W52.holds Pv.W52.math
