import PyProof.Rows.All
import Wide.All
import OpenK.AllK
import Wide.FinOn
import HandS.ForMost
import HandS.Deep
import HandS.Exc
import HandS.Defaults
import HandS.Conv
import HandS.Text
import HandS.SetBool
import HandS.SetKeys
import HandS.IsInst
import HandS.Zip
import HandS.Iter
import HandS.NoneIn
import KE.SortData
import HandS.TupAny
import HandS.Flow
import KE.GoesNew
import KE.GoesMore
import HandS.Rev
import HandS.Set
import PyProof.SetRoads
import HandS.SetFor
import HandS.CallSlots
import KE.KUnpackStar
import HandS.Small
import HandS.Style
import HandS.ExcIs
import HandS.ExcOwn
import HandS.HeadHook1
import HandS.ExcInit
import HandS.ExcField
import KE.KExcInit
import KE.KExcIs
import HandS.Ends
import HandS.Head0
import HandS.Head1
import HandS.Head2
import HandS.HeadEnd
import HandS.HeadHook2
import HandS.HeadHook3
import KE.KStateDown
import HandS.More
import HandS.Words
import HandS.WordsExc
import PySem.Challenge.RW_scopeshelf_k08_formulas
set_option Elab.async false
set_option linter.all false
set_option maxRecDepth 100000
set_option maxHeartbeats 0
/-! A small reader of the program's own form: values are PyData, lists and dicts that are still written stand in slots of their own. -/
namespace IP
open PySem

abbrev D := PyData
/-- a text by its codes -/
abbrev tx (l : List Nat) : Str := ⟨l.toArray⟩

/-- what a name holds: nothing; a value that nobody writes any more; a list or dict that this name alone holds; a shared cell -/
inductive Slot where
  | un | val (p : D) | own (o : D) | rf (i : Nat) | scr (ns : List Int)
abbrev Env := List Slot
/-- a shared cell: a list that callees write; an instance -/
inductive Cell where
  | ml (xs : List D)
  | ins (c : Str) (fs : List (Str × Slot))
abbrev Store := List Cell
structure Exc where
  cls : Str
  fld : Option (Str × D)
inductive R (α : Type) where
  | ok (a : α) (st : Store) | exc (x : Exc) (st : Store) | stuck
def R.bind {α β : Type} (m : R α) (f : α → Store → R β) : R β := match m with
  | .ok a st => f a st
  | .exc x st => .exc x st
  | .stuck => .stuck
def R.of {α : Type} (o : Option α) (st : Store) : R α := match o with
  | some a => .ok a st
  | none => .stuck
abbrev CallF := Nat → List Slot → Store → R D

/-! ### values -/
abbrev LINE : Nat := 16777216
def truthD : D → Bool
  | .none => false
  | .bool b => b
  | .int i => i != 0
  | .str s => (s.length : Int) != 0
  | .list xs => !xs.isEmpty
  | .tuple xs => !xs.isEmpty
  | .dict kvs => !kvs.isEmpty
mutual
def noDict : D → Bool
  | .list xs => noDicts xs
  | .tuple xs => noDicts xs
  | .dict _ => false
  | _ => true
def noDicts : List D → Bool
  | [] => true
  | x :: xs => noDict x && noDicts xs
end
def eqOk (a b : D) : Bool := noDict a && noDict b && decide (min a.depth b.depth ≤ 150)
def inOk (x : D) (ys : List D) : Bool := noDict x && noDicts ys && decide (min (PyData.depthAll ys) x.depth ≤ 150)
def strIn (x y : Str) : Bool := !(Builtin.Str.occurrences y x 0 y.length 1).isEmpty
inductive Op where
  | add | sub | mul | mod | fdiv | pow | eq | ne | lt | le | gt | ge | isin | notin | isn | notn
def ifs {α : Type} (b : Bool) (a : α) : Option α := match b with
  | true => some a
  | false => none
/-- a key of a plain dict -/
def keyD : D → Option L2.Key
  | .int i => some (.inl i)
  | .str s => some (.inr s)
  | _ => none
/-- the entry of a key in a dict whose keys are ints and texts -/
def findKV (k : L2.Key) : List (D × D) → Option D
  | [] => none
  | (a, v) :: r => match decide (keyD a = some k) with
    | true => some v
    | false => findKV k r
/-- an entry put in its place, or at the end -/
def putD (kvs : List (D × D)) (k : L2.Key) (j x : D) : List (D × D) := match kvs.any fun p => decide (keyD p.1 = some k) with
  | true => kvs.map fun p => match decide (keyD p.1 = some k) with
    | true => (p.1, x)
    | false => p
  | false => kvs ++ [(j, x)]
def keysOk : List (D × D) → Bool
  | [] => true
  | (a, _) :: r => (keyD a).isSome && keysOk r
def addD : D → D → Option D
  | .int i, .int j => some (.int (i + j))
  | .str a, .str b => ifs (decide (a.length + b.length ≤ LINE)) (.str (a ++ b))
  | .list xs, .list ys => ifs (decide (xs.length + ys.length ≤ LINE)) (.list (xs ++ ys))
  | .tuple xs, .tuple ys => ifs (decide (xs.length + ys.length ≤ LINE)) (.tuple (xs ++ ys))
  | _, _ => none
def subD : D → D → Option D
  | .int i, .int j => some (.int (i - j))
  | _, _ => none
/-- a text n times -/
def repS (n : Nat) (a : Str) : Str := ⟨(List.replicate n a.cps).foldl (· ++ ·) #[]⟩
def mulD : D → D → Option D
  | .int i, .int j => ifs (decide ((-(2 ^ 64) < i ∧ i < 2 ^ 64) ∨ (-(2 ^ 64) < j ∧ j < 2 ^ 64))) (.int (i * j))
  | .list xs, .int k => ifs (decide (-(2 ^ 63) ≤ k ∧ k < 2 ^ 63 ∧ xs.length * k.toNat ≤ LINE)) (.list (List.replicate k.toNat xs).flatten)
  | .str a, .int k => ifs (decide (2 ≤ k ∧ k ≤ 1000 ∧ 0 < a.length ∧ a.length ≤ 1000)) (.str (repS k.toNat a))
  | _, _ => none
def modD : D → D → Option D
  | .int i, .int j => ifs (decide (0 < j)) (.int (i % j))
  | _, _ => none
def fdivD : D → D → Option D
  | .int i, .int j => ifs (decide (0 < j ∧ j < 1073741824)) (.int (i / j))
  | _, _ => none
def powD : D → D → Option D
  | .int i, .int j => ifs (decide (0 ≤ j ∧ j ≤ 1000000 ∧ i.natAbs < 2 ^ 64)) (.int (i ^ j.toNat))
  | _, _ => none
def cmpD (f : Int → Int → Bool) : D → D → Option D
  | .int i, .int j => some (.bool (f i j))
  | _, _ => none
/-- n: not in -/
def inD (n : Bool) (x : D) : D → Option D
  | .list ys => ifs (inOk x ys) (.bool (xor n (ys.any fun y => PyData.eqv y x)))
  | .tuple ys => ifs (inOk x ys) (.bool (xor n (ys.any fun y => PyData.eqv y x)))
  | .str y => match x with
    | .str x => some (.bool (xor n (strIn x y)))
    | _ => none
  | .dict kvs => match keyD x with
    | some k => ifs (keysOk kvs) (.bool (xor n (findKV k kvs).isSome))
    | none => none
  | _ => none
def isNon : D → Bool
  | .none => true
  | _ => false
def isD (n : Bool) (a : D) : D → Option D
  | .none => some (.bool (xor n (isNon a)))
  | _ => none
def op2 (o : Op) (a b : D) : Option D := match o with
  | .add => addD a b
  | .sub => subD a b
  | .mul => mulD a b
  | .mod => modD a b
  | .fdiv => fdivD a b
  | .pow => powD a b
  | .eq => ifs (eqOk a b) (.bool (PyData.eqv a b))
  | .ne => ifs (eqOk a b) (.bool (!PyData.eqv a b))
  | .lt => cmpD (fun i j => decide (i < j)) a b
  | .le => cmpD (fun i j => decide (i ≤ j)) a b
  | .gt => cmpD (fun i j => decide (j < i)) a b
  | .ge => cmpD (fun i j => decide (j ≤ i)) a b
  | .isin => inD false a b
  | .notin => inD true a b
  | .isn => isD false a b
  | .notn => isD true a b
def idxD : D → D → Option D
  | .list xs, .int i => L2.atI xs i
  | .tuple xs, .int i => L2.atI xs i
  | .str s, .int i => (L2.atI s.cps.toList i).map fun c => .str ⟨#[c]⟩
  | .dict kvs, k => match keyD k with
    | some k => match keysOk kvs with
      | true => findKV k kvs
      | false => none
    | none => none
  | _, _ => none
def cutD (xs : List D) (lo hi : Option Int) : List D := (xs.drop (HT.sIx xs.length 0 lo)).take (HT.sIx xs.length xs.length hi - HT.sIx xs.length 0 lo)
def slcD : D → Option Int → Option Int → Option D
  | .list xs, lo, hi => some (.list (cutD xs lo hi))
  | .tuple xs, lo, hi => some (.tuple (cutD xs lo hi))
  | .str s, lo, hi => some (.str (L2.cutS s lo hi))
  | _, _, _ => none
inductive Ty where
  | int | str | tuple | bool | list
def isiD : D → Ty → Bool
  | .int _, .int => true
  | .bool _, .int => true
  | .bool _, .bool => true
  | .str _, .str => true
  | .tuple _, .tuple => true
  | .list _, .list => true
  | _, _ => false
inductive F1 where
  | len | list | tuple | sum | int | str
def sumD : List D → Option Int
  | [] => some 0
  | .int i :: r => match sumD r with
    | some s => some (i + s)
    | none => none
  | _ :: _ => none
def f1D : F1 → D → Option D
  | .len, .list xs => some (.int xs.length)
  | .len, .tuple xs => some (.int xs.length)
  | .len, .str s => some (.int s.length)
  | .len, .dict kvs => ifs (keysOk kvs) (.int kvs.length)
  | .list, .list xs => some (.list xs)
  | .list, .tuple xs => some (.list xs)
  | .tuple, .list xs => some (.tuple xs)
  | .tuple, .tuple xs => some (.tuple xs)
  | .sum, .list xs => match sumD xs with
    | some s => some (.int s)
    | none => none
  | .int, .bool b => some (.int (if b then 1 else 0))
  | .int, .int i => some (.int i)
  | _, _ => none
def strsD : List D → Option (List Str)
  | [] => some []
  | .str s :: r => match strsD r with
    | some ss => some (s :: ss)
    | none => none
  | _ :: _ => none

/-! ### the form -/
/-- a target: a name's slot; names' slots -/
inductive Tg where
  | n (i : Nat) | t (is : List Nat)
mutual
inductive E where
  | c (p : D)
  | v (i : Nat)
  | g (x : Str) (p : D)
  | bin (o : Op) (a b : E)
  | chain (o1 o2 : Op) (a b c : E)
  | neg (a : E)
  | nt (a : E)
  | band (es : EL)
  | bor (es : EL)
  | ife (t a b : E)
  | tup (es : EL)
  | lst (es : EL)
  | dic (ks : List D) (es : EL)
  | idx (a b : E)
  | slc (a : E) (lo hi : EO)
  | isi (a : E) (t : Ty)
  | f1 (f : F1) (a : E)
  | lenset (a : E)
  | addl (a b : E)
  | sort (a : E)
  | callK (f : Nat) (a b : E) (k : Str)
  | mk (f : Nat) (a : E)
  | sortset (a : E)
  | sortsc (own : List Nat) (tg : Tg) (it : It) (cond : EL) (elt : E)
  | rev (a : E)
  | callN (f : Nat) (args : AL) (ds : List D)
  | getc (x : Str) (kvs : List (Str × D)) (k : E) (d : E)
  | join (a b : E)
  | call (f : Nat) (args : AL) (ds : List D)
  | lc (own : List Nat) (tg : Tg) (it : It) (cond : EL) (elt : E)
  | lensc (own : List Nat) (tg : Tg) (it : It) (cond : EL) (elt : E)
  | cidx (i : Nat) (b : E)
  | loc (i : Nat)
  | slen (i : Nat)
  | sidx (i : Nat) (b : E)
inductive EL where
  | nil | cons (e : E) (es : EL)
inductive EO where
  | no | yes (e : E)
/-- arguments: a value, a shared cell that a name holds, a new shared list -/
inductive AL where
  | nil | e (e : E) (r : AL) | r (i : Nat) (r : AL) | nl (es : EL) (r : AL)
inductive It where
  | e (a : E) | range1 (a : E) | range2 (a b : E) | enum (a : E) | zip (a b : E) | rev (a : E) | zipM (a b : E)
end
mutual
inductive S where
  | asg (i : Nat) (e : E)
  | asgN (i : Nat) (e : E)
  | asgP (i : Nat) (t e : E) (j : Nat)
  | unp (is : List Nat) (e : E)
  | unpS (i j : Nat) (e : E)
  | app (i : Nat) (e : E)
  | ext (i : Nat) (e : E)
  | seti (i : Nat) (k e : E)
  | cset (i : Nat) (k e : E)
  | ret (e : E)
  | retN
  | ife (t : E) (a b : SL)
  | for_ (tg : Tg) (it : It) (b : SL)
  | expr (e : E)
  | frz (i : Nat)
  | raise (c : Str) (msg : Str)
  | raiseF (c f : Str) (a : E)
  | tryF (b : SL) (c : Str) (i : Nat) (t1 t2 f : Str) (j : Nat)
  | tryI (b : SL) (c : Str) (i : Nat) (t1 : Str) (b1 : Bool) (t2 : Str) (b2 : Bool)
  | bad
inductive SL where
  | nil | cons (s : S) (r : SL)
end

/-! ### what it says -/
def Env.get (env : Env) (i : Nat) : Slot := env.getD i .un
def bindT (tg : Tg) (x : D) (env : Env) : Option Env := match tg with
  | .n i => some (env.set i (.val x))
  | .t is => match x with
    | .tuple xs => match decide (xs.length = is.length) with
      | true => some ((is.zip xs).foldl (fun e p => e.set p.1 (.val p.2)) env)
      | false => none
    | _ => none
def wipeE (env : Env) : List Nat → Env
  | [] => env
  | v :: vs => (wipeE env vs).set v .un
def itemsD : D → Option (List D)
  | .list xs => some xs
  | .tuple xs => some xs
  | .str s => some (s.cps.toList.map fun c => .str ⟨#[c]⟩)
  | _ => none
def enumD : Nat → List D → List D
  | _, [] => []
  | n, x :: r => .tuple [.int n, x] :: enumD (n + 1) r
def zipD : List D → List D → List D
  | x :: xs, y :: ys => .tuple [x, y] :: zipD xs ys
  | _, _ => []
def rangeD (lo : Int) : Nat → List D
  | 0 => []
  | n + 1 => .int lo :: rangeD (lo + 1) n
def rngOk (i : Int) : Bool := decide (-(2 ^ 62) ≤ i) && decide (i < 2 ^ 62)
/-- no exception leaves a comprehension -/
def R.quiet {α : Type} (m : R α) : R α := match m with
  | .ok a st => .ok a st
  | .exc _ _ => .stuck
  | .stuck => .stuck
def ownFree (env : Env) : List Nat → Bool
  | [] => true
  | i :: r => (match env.get i with
    | .own _ => false
    | _ => true) && ownFree env r
/-- a comprehension's loop: t the tests and e the element in the block's slots -/
def loopE (t : Env → Store → R Bool) (e : Env → Store → R D) (tg : Tg) (env : Env) : List D → List D → Store → R (List D)
  | [], acc, st => .ok acc st
  | x :: xs, acc, st => match bindT tg x env with
    | none => .stuck
    | some env' => (t env' st).quiet.bind fun b st1 => match b with
      | true => (e env' st1).quiet.bind fun y st2 => match decide (acc.length < LINE) with
        | true => loopE t e tg env xs (acc ++ [y]) st2
        | false => .stuck
      | false => loopE t e tg env xs acc st1
def keysD : List D → Option (List L2.Key)
  | [] => some []
  | x :: r => match keyD x, keysD r with
    | some k, some ks => some (k :: ks)
    | _, _ => none
/-- each once, the first places kept -/
def addKeys : List L2.Key → List L2.Key → List L2.Key
  | [], acc => acc
  | k :: ks, acc => match acc.any fun j => decide (j = k) with
    | true => addKeys ks acc
    | false => addKeys ks (acc ++ [k])
/-- what sorted takes: all alike; all tuples that are not empty, or none of them None or a tuple -/
def tup1 : D → Bool
  | .tuple (_ :: _) => true
  | _ => false
def flat1 : D → Bool
  | .none => false
  | .tuple _ => false
  | _ => true
def sortB (xs : List D) : Bool := (xs.all fun a => xs.all fun b => PySem.W.alike a b) && (xs.all tup1 || xs.all flat1) && noDicts xs && decide (PyData.depthAll xs ≤ 100)
def sortL (xs : List D) : List D := xs.mergeSort (PySem.W.dataLe false id)
def kD : L2.Key → D
  | .inl i => .int i
  | .inr s => .str s
/-- the ints of a set, rising -/
def insI (z : Int) : List Int → List Int
  | [] => [z]
  | a :: r => if z < a then z :: a :: r else if z = a then a :: r else a :: insI z r
def sInts : List Int → List Int
  | [] => []
  | z :: r => insI z (sInts r)
def leftK : L2.Key → Int
  | .inl i => i
  | .inr _ => 0
def sB (ks : List L2.Key) : Bool := decide (ks.length < 64) && ks.all fun k => k.isLeft
def sF (ks : List L2.Key) : D := .list ((sInts (ks.map leftK)).map PyData.int)
def allStr : List D → Bool
  | [] => true
  | .str _ :: r => allStr r
  | _ :: _ => false
/-- the entry of a text in a constant table -/
def lkS : List (Str × D) → Str → Option D
  | [], _ => none
  | (a, v) :: r, q => match decide (a = q) with
    | true => some v
    | false => lkS r q
def boolD : D → Option Bool
  | .bool b => some b
  | _ => none
mutual
def ev (C : CallF) : E → Env → Store → R D
  | .c p, _, st => .ok p st
  | .v i, env, st => match env.get i with
    | .val p => .ok p st
    | _ => .stuck
  | .g _ p, _, st => .ok p st
  | .bin o a b, env, st => (ev C a env st).bind fun x st1 => (ev C b env st1).bind fun y st2 => R.of (op2 o x y) st2
  | .chain o1 o2 a b c, env, st => (ev C a env st).bind fun x st1 => (ev C b env st1).bind fun y st2 => (R.of ((op2 o1 x y).bind boolD) st2).bind fun k st2 => match k with
    | true => (ev C c env st2).bind fun z st3 => R.of (op2 o2 y z) st3
    | false => .ok (.bool false) st2
  | .neg a, env, st => (ev C a env st).bind fun x st1 => match x with
    | .int i => .ok (.int (-i)) st1
    | _ => .stuck
  | .nt a, env, st => (ev C a env st).bind fun x st1 => .ok (.bool (!truthD x)) st1
  | .band es, env, st => evAnd C es env st
  | .bor es, env, st => evOr C es env st
  | .ife t a b, env, st => (ev C t env st).bind fun k st1 => match truthD k with
    | true => ev C a env st1
    | false => ev C b env st1
  | .tup es, env, st => (evs C es env st).bind fun xs st1 => R.of (ifs (decide (xs.length ≤ LINE)) (.tuple xs)) st1
  | .lst es, env, st => (evs C es env st).bind fun xs st1 => R.of (ifs (decide (xs.length ≤ LINE)) (.list xs)) st1
  | .dic ks es, env, st => (evs C es env st).bind fun xs st1 => .ok (.dict (ks.zip xs)) st1
  | .idx a b, env, st => (ev C a env st).bind fun x st1 => (ev C b env st1).bind fun y st2 => R.of (idxD x y) st2
  | .slc a lo hi, env, st => (ev C a env st).bind fun x st1 => (evo C lo env st1).bind fun l st2 => (evo C hi env st2).bind fun u st3 => R.of (slcD x l u) st3
  | .isi a t, env, st => (ev C a env st).bind fun x st1 => .ok (.bool (isiD x t)) st1
  | .f1 f a, env, st => (ev C a env st).bind fun x st1 => R.of (f1D f x) st1
  | .lenset a, env, st => (ev C a env st).bind fun x st1 => match x with
    | .list xs => R.of ((keysD xs).bind fun ks => ifs (decide (ks.length < 4000)) (.int (addKeys ks []).length)) st1
    | _ => .stuck
  | .addl a b, env, st => (ev C a env st).bind fun x st1 => (ev C b env st1).bind fun y st2 => match x, y with
    | .list xs, .list ys => R.of (ifs (decide (xs.length + ys.length ≤ LINE)) (.list (xs ++ ys))) st2
    | _, _ => .stuck
  | .rev a, env, st => (ev C a env st).bind fun x st1 => match x with
    | .list xs => .ok (.list xs.reverse) st1
    | _ => .stuck
  | .callK f a b _, env, st => (ev C a env st).bind fun x st1 => (ev C b env st1).bind fun y st2 => C f [.val x, .val y] st2
  | .mk f a, env, st => (ev C a env st).bind fun x st1 => match C f [.un, .val x] st1 with
    | .exc z st2 => .exc z st2
    | _ => .stuck
  | .sort a, env, st => (ev C a env st).bind fun x st1 => match x with
    | .list xs => R.of (ifs (sortB xs) (.list (sortL xs))) st1
    | _ => .stuck
  | .sortset a, env, st => (ev C a env st).bind fun x st1 => match x with
    | .list xs => R.of ((keysD xs).bind fun ks => ifs (sB ks) (sF ks)) st1
    | _ => .stuck
  | .sortsc own tg it cond elt, env, st => (evi C it env st).bind fun xs st1 => match ownFree env own with
    | false => .stuck
    | true => (loopE (fun e s => evc C cond e s) (fun e s => ev C elt e s) tg (wipeE env own) xs [] st1).bind fun ys st2 => R.of ((keysD ys).bind fun ks => ifs (sB ks) (sF ks)) st2
  | .callN f args ds, env, st => (eva C args env st).bind fun vs st1 => (C f (vs ++ ds.map Slot.val) st1).bind fun p st2 => match p with
    | .list xs => .ok (.list xs) st2
    | _ => .stuck
  | .getc _ kvs k d, env, st => (ev C k env st).bind fun x st1 => match x with
    | .str q => (ev C d env st1).bind fun y st2 => .ok ((lkS kvs q).getD y) st2
    | _ => .stuck
  | .join a b, env, st => (ev C a env st).bind fun x st1 => match x with
    | .str s => (ev C b env st1).bind fun y st2 => match y with
      | .list xs => match strsD xs with
        | some ss => R.of (ifs (decide ((ss.map (·.length)).sum + ss.length * s.length ≤ LINE)) (.str (Str.join s ss))) st2
        | none => .stuck
      | _ => .stuck
    | _ => .stuck
  | .call f args ds, env, st => (eva C args env st).bind fun vs st1 => C f (vs ++ ds.map Slot.val) st1
  | .lc own tg it cond elt, env, st => (evi C it env st).bind fun xs st1 => match ownFree env own with
    | false => .stuck
    | true => (loopE (fun e s => evc C cond e s) (fun e s => ev C elt e s) tg (wipeE env own) xs [] st1).bind fun ys st2 => .ok (.list ys) st2
  | .lensc own tg it cond elt, env, st => (evi C it env st).bind fun xs st1 => match ownFree env own with
    | false => .stuck
    | true => (loopE (fun e s => evc C cond e s) (fun e s => ev C elt e s) tg (wipeE env own) xs [] st1).bind fun ys st2 => R.of ((keysD ys).bind fun ks => ifs (decide (ks.length < 4000)) (.int (addKeys ks []).length)) st2
  | .cidx i b, env, st => match env.get i with
    | .rf k => (ev C b env st).bind fun y st1 => match st1[k]? with
      | some (.ml xs) => R.of (idxD (.list xs) y) st1
      | _ => .stuck
    | _ => .stuck
  | .loc i, env, st => match env.get i with
    | .own o => .ok o st
    | _ => .stuck
  | .slen i, env, st => match env.get i with
    | .scr ns => .ok (.int ns.length) st
    | _ => .stuck
  | .sidx i b, env, st => match env.get i with
    | .scr ns => (ev C b env st).bind fun y st1 => match y with
      | .int k => R.of ((L2.atI ns k).map .int) st1
      | _ => .stuck
    | _ => .stuck
def evAnd (C : CallF) : EL → Env → Store → R D
  | .nil, _, _ => .stuck
  | .cons a .nil, env, st => ev C a env st
  | .cons a r, env, st => (ev C a env st).bind fun x st1 => match truthD x with
    | true => evAnd C r env st1
    | false => .ok x st1
def evOr (C : CallF) : EL → Env → Store → R D
  | .nil, _, _ => .stuck
  | .cons a .nil, env, st => ev C a env st
  | .cons a r, env, st => (ev C a env st).bind fun x st1 => match truthD x with
    | true => .ok x st1
    | false => evOr C r env st1
def evs (C : CallF) : EL → Env → Store → R (List D)
  | .nil, _, st => .ok [] st
  | .cons a r, env, st => (ev C a env st).bind fun x st1 => (evs C r env st1).bind fun xs st2 => .ok (x :: xs) st2
/-- a comprehension's tests: none or one -/
def evc (C : CallF) : EL → Env → Store → R Bool
  | .nil, _, st => .ok true st
  | .cons a .nil, env, st => (ev C a env st).bind fun x st1 => .ok (truthD x) st1
  | .cons _ (.cons _ _), _, _ => .stuck
def evo (C : CallF) : EO → Env → Store → R (Option Int)
  | .no, _, st => .ok none st
  | .yes a, env, st => (ev C a env st).bind fun x st1 => match x with
    | .int i => .ok (some i) st1
    | _ => .stuck
def eva (C : CallF) : AL → Env → Store → R (List Slot)
  | .nil, _, st => .ok [] st
  | .e a r, env, st => (ev C a env st).bind fun x st1 => (eva C r env st1).bind fun xs st2 => .ok (.val x :: xs) st2
  | .r i r, env, st => match env.get i with
    | .rf k => (eva C r env st).bind fun xs st2 => .ok (.rf k :: xs) st2
    | .scr ns => (eva C r env st).bind fun xs st2 => .ok (.scr ns :: xs) st2
    | _ => .stuck
  | .nl es r, env, st => (evs C es env st).bind fun xs st1 => match decide (xs.length ≤ LINE) with
    | true => (eva C r env (st1 ++ [.ml xs])).bind fun ys st2 => .ok (.rf st1.length :: ys) st2
    | false => .stuck
def evi (C : CallF) : It → Env → Store → R (List D)
  | .e a, env, st => (ev C a env st).bind fun x st1 => R.of (itemsD x) st1
  | .range1 a, env, st => (ev C a env st).bind fun x st1 => match x with
    | .int j => R.of (ifs (rngOk j) (rangeD 0 j.toNat)) st1
    | _ => .stuck
  | .range2 a b, env, st => (ev C a env st).bind fun x st1 => (ev C b env st1).bind fun y st2 => match x, y with
    | .int i, .int j => R.of (ifs (rngOk i && rngOk j) (rangeD i (j - i).toNat)) st2
    | _, _ => .stuck
  | .enum a, env, st => (ev C a env st).bind fun x st1 => match x with
    | .list xs => .ok (enumD 0 xs) st1
    | _ => .stuck
  | .zip a b, env, st => (ev C a env st).bind fun x st1 => (ev C b env st1).bind fun y st2 => match x, y with
    | .list xs, .list ys => .ok (zipD xs ys) st2
    | .tuple xs, .tuple ys => .ok (zipD xs ys) st2
    | _, _ => .stuck
  | .rev a, env, st => (ev C a env st).bind fun x st1 => match x with
    | .list xs => .ok xs.reverse st1
    | .tuple xs => .ok xs.reverse st1
    | _ => .stuck
  | .zipM a b, env, st => (ev C a env st).bind fun x st1 => (ev C b env st1).bind fun y st2 => match x, y with
    | .list xs, .tuple ys => .ok (zipD xs ys) st2
    | _, _ => .stuck
end
inductive RS where
  | nx (env : Env) (st : Store) | ret (p : D) (st : Store) | exc (x : Exc) (env : Env) (st : Store) | stuck
def R.toS {α : Type} (m : R α) (env : Env) (f : α → Store → RS) : RS := match m with
  | .ok a st => f a st
  | .exc x st => .exc x env st
  | .stuck => .stuck
def loopS (body : Env → Store → RS) (tg : Tg) : List D → Env → Store → RS
  | [], env, st => .nx env st
  | x :: xs, env, st => match bindT tg x env with
    | none => .stuck
    | some env' => match body env' st with
      | .nx env2 st2 => loopS body tg xs env2 st2
      | .ret p st2 => .ret p st2
      | .exc x e st2 => .exc x e st2
      | .stuck => .stuck
mutual
def ex (C : CallF) : S → Env → Store → RS
  | .asg i e, env, st => (ev C e env st).toS env fun x st1 => .nx (env.set i (.val x)) st1
  | .asgN i e, env, st => (ev C e env st).toS env fun x st1 => .nx (env.set i (.own x)) st1
  | .asgP i t e j, env, st => (ev C t env st).toS env fun k st1 => match truthD k with
    | true => (ev C e env st1).toS env fun x st2 => .nx (env.set i (.val x)) st2
    | false => match env.get j with
      | .own (.list xs) => match xs[xs.length - 1]? with
        | some x => .nx ((env.set j (.own (.list xs.dropLast))).set i (.val x)) st1
        | none => .stuck
      | _ => .stuck
  | .unp is e, env, st => (ev C e env st).toS env fun x st1 => match bindT (.t is) x env with
    | some env' => .nx env' st1
    | none => .stuck
  | .unpS i j e, env, st => (ev C e env st).toS env fun x st1 => match x with
    | .tuple (y :: ys) => .nx ((env.set i (.val y)).set j (.val (.list ys))) st1
    | _ => .stuck
  | .app i e, env, st => match env.get i with
    | .own (.list xs) => (ev C e env st).toS env fun x st1 => match decide (xs.length < LINE) with
      | true => .nx (env.set i (.own (.list (xs ++ [x])))) st1
      | false => .stuck
    | _ => .stuck
  | .ext i e, env, st => match env.get i with
    | .own (.list xs) => (ev C e env st).toS env fun x st1 => match x with
      | .list ys => match decide (xs.length + ys.length ≤ LINE) with
        | true => .nx (env.set i (.own (.list (xs ++ ys)))) st1
        | false => .stuck
      | _ => .stuck
    | _ => .stuck
  | .seti i k e, env, st => match env.get i with
    | .own (.dict kvs) => (ev C e env st).toS env fun x st1 => (ev C k env st1).toS env fun j st2 => match keyD j, keysOk kvs, decide (kvs.length < LINE) with
      | some q, true, true => .nx (env.set i (.own (.dict (putD kvs q j x)))) st2
      | _, _, _ => .stuck
    | _ => .stuck
  | .cset i k e, env, st => match env.get i with
    | .rf c => (ev C e env st).toS env fun x st1 => (ev C k env st1).toS env fun j st2 => match st2[c]?, j with
      | some (.ml xs), .int z => match L2.ixN xs.length z with
        | some n => .nx env (st2.set c (.ml (xs.set n x)))
        | none => .stuck
      | _, _ => .stuck
    | _ => .stuck
  | .ret e, env, st => (ev C e env st).toS env fun x st1 => .ret x st1
  | .retN, _, st => .ret .none st
  | .ife t a b, env, st => (ev C t env st).toS env fun k st1 => match truthD k with
    | true => exs C a env st1
    | false => exs C b env st1
  | .for_ tg it b, env, st => (evi C it env st).toS env fun xs st1 => loopS (fun e s => exs C b e s) tg xs env st1
  | .expr e, env, st => (ev C e env st).toS env fun _ st1 => .nx env st1
  | .frz i, env, st => match env.get i with
    | .own o => .nx (env.set i (.val o)) st
    | _ => .stuck
  | .raise c _, env, st => .exc ⟨c, none⟩ env st
  | .raiseF c f a, env, st => (ev C a env st).toS env fun x st1 => .exc ⟨c, some (f, x)⟩ env st1
  | .tryF b c _ _ _ f j, env, st => match exs C b env st with
    | .nx env1 st1 => .nx env1 st1
    | .ret p st1 => .ret p st1
    | .exc x env1 st1 => match decide (x.cls = c), x.fld, env1.get j with
      | true, some (g, p), .val q => match decide (g = f), op2 .eq p q with
        | true, some r => .ret r st1
        | _, _ => .stuck
      | _, _, _ => .stuck
    | .stuck => .stuck
  | .tryI b c _ _ b1 _ b2, env, st => match exs C b env st with
    | .nx env1 st1 => .nx env1 st1
    | .ret p st1 => .ret p st1
    | .exc x _ st1 => match decide (x.cls = c), x.fld with
      | true, none => .ret (.bool (b1 && !b2)) st1
      | _, _ => .stuck
    | .stuck => .stuck
  | .bad, _, _ => .stuck
def exs (C : CallF) : SL → Env → Store → RS
  | .nil, env, st => .nx env st
  | .cons s r, env, st => match ex C s env st with
    | .nx env1 st1 => exs C r env1 st1
    | .ret p st1 => .ret p st1
    | .exc x e st1 => .exc x e st1
    | .stuck => .stuck
end
/-- a def: how many names, parameters, the body -/
structure Def where
  names : Nat
  pars : Nat
  body : SL
  fr : Bool := false
def endS (n : Nat) : RS → R D
  | .nx _ st => .ok .none (st.take n)
  | .ret p st => .ok p (st.take n)
  | .exc x _ st => .exc x (st.take n)
  | .stuck => .stuck
/-- the program, so many calls deep -/
def run (P : List Def) : Nat → CallF
  | 0 => fun _ _ _ => .stuck
  | n + 1 => fun f args st => match P[f]? with
    | some d => match decide (args.length = d.pars) with
      | true => endS st.length (exs (run P n) d.body (args ++ List.replicate (d.names - d.pars) .un) st)
      | false => .stuck
    | none => .stuck
end IP
namespace IP
open PySem PySem.Spec L2
open PyProof.Rows hiding St

/-! ### what stands for a value -/
/-- a tuple of the written part -/
def KTup (K : PySem.W.Frag) (a : Addr) (xs : List V) : Prop :=
  ∃ (o : Obj) (its : Array Value) (n : Nat), K.lookup a = some o ∧ o.cls = .type "tuple" ∧ o.data = .seq its n ∧ its.size ≤ sizeLine ∧ Vals xs its.toList
/-- a text within the line, of codes that there are -/
def strGood (x : Str) : Prop := x.length ≤ sizeLine ∧ PyData.strOk x = true
mutual
inductive DV (K : PySem.W.Frag) (N : List Addr) (H : Hp) : D → V → Prop
  | non : DV K N H .none .non
  | bl (b : Bool) : DV K N H (.bool b) (.bl b)
  | int (i : Int) : DV K N H (.int i) (.int i)
  | str (x : Str) : strGood x → DV K N H (.str x) (.str x)
  | tup {a : Addr} {ds : List D} {vs : List V} : H a = some (.tup vs) → a ∉ N → DVs K N H ds vs → DV K N H (.tuple ds) (.ref a)
  | ktup {a : Addr} {ds : List D} {vs : List V} : KTup K a vs → DVs K N H ds vs → DV K N H (.tuple ds) (.ref a)
  | lst {a : Addr} {ds : List D} {vs : List V} : H a = some (.lst vs) → a ∉ N → DVs K N H ds vs → DV K N H (.list ds) (.ref a)
  | dct {a : Addr} {ks : List (D × D)} {kvs : List (Key × V)} : H a = some (.dK kvs) → a ∉ N → DKs K N H ks kvs → DV K N H (.dict ks) (.ref a)
inductive DVs (K : PySem.W.Frag) (N : List Addr) (H : Hp) : List D → List V → Prop
  | nil : DVs K N H [] []
  | cons {d : D} {ds : List D} {v : V} {vs : List V} : DV K N H d v → DVs K N H ds vs → DVs K N H (d :: ds) (v :: vs)
inductive DKs (K : PySem.W.Frag) (N : List Addr) (H : Hp) : List (D × D) → List (Key × V) → Prop
  | nil : DKs K N H [] []
  | cons {a d : D} {ds : List (D × D)} {k : Key} {v : V} {vs : List (Key × V)} : keyD a = some k → DV K N H d v → DKs K N H ds vs → DKs K N H ((a, d) :: ds) ((k, v) :: vs)
end
section
variable {K : PySem.W.Frag} {N N' : List Addr} {H H' : Hp}
mutual
/-- what is not written stays -/
theorem DV.keep (k : ∀ a o, H a = some o → a ∉ N → H' a = some o) (n : ∀ a, (H a).isSome = true → a ∉ N → a ∉ N') : ∀ {d : D} {v : V}, DV K N H d v → DV K N' H' d v
  | _, _, .non => .non
  | _, _, .bl b => .bl b
  | _, _, .int i => .int i
  | _, _, .str x h => .str x h
  | _, _, .tup h hn t => .tup (k _ _ h hn) (n _ (by rw [h]; rfl) hn) (DVs.keep k n t)
  | _, _, .ktup h t => .ktup h (DVs.keep k n t)
  | _, _, .lst h hn t => .lst (k _ _ h hn) (n _ (by rw [h]; rfl) hn) (DVs.keep k n t)
  | _, _, .dct h hn t => .dct (k _ _ h hn) (n _ (by rw [h]; rfl) hn) (DKs.keep k n t)
theorem DVs.keep (k : ∀ a o, H a = some o → a ∉ N → H' a = some o) (n : ∀ a, (H a).isSome = true → a ∉ N → a ∉ N') : ∀ {ds : List D} {vs : List V}, DVs K N H ds vs → DVs K N' H' ds vs
  | _, _, .nil => .nil
  | _, _, .cons h t => .cons (DV.keep k n h) (DVs.keep k n t)
theorem DKs.keep (k : ∀ a o, H a = some o → a ∉ N → H' a = some o) (n : ∀ a, (H a).isSome = true → a ∉ N → a ∉ N') : ∀ {ds : List (D × D)} {vs : List (Key × V)}, DKs K N H ds vs → DKs K N' H' ds vs
  | _, _, .nil => .nil
  | _, _, .cons e h t => .cons e (DV.keep k n h) (DKs.keep k n t)
end
theorem DVs.length : ∀ {ds : List D} {vs : List V}, DVs K N H ds vs → ds.length = vs.length
  | _, _, .nil => rfl
  | _, _, .cons _ t => congrArg (· + 1) t.length
theorem DKs.length : ∀ {ds : List (D × D)} {vs : List (Key × V)}, DKs K N H ds vs → ds.length = vs.length
  | _, _, .nil => rfl
  | _, _, .cons _ _ t => congrArg (· + 1) t.length
theorem DVs.get : ∀ {ds : List D} {vs : List V} {i : Nat} {d : D}, DVs K N H ds vs → ds[i]? = some d → ∃ v, vs[i]? = some v ∧ DV K N H d v
  | _, _, _, _, .nil, e => by simp at e
  | _, _, 0, _, .cons r _, e => by simp at e; subst e; exact ⟨_, rfl, r⟩
  | _, _, i + 1, d, .cons _ t, e => by
    obtain ⟨u, h1, h2⟩ := DVs.get (i := i) (d := d) t (by simpa using e)
    exact ⟨u, by simpa using h1, h2⟩
theorem DVs.getV : ∀ {ds : List D} {vs : List V} {i : Nat} {v : V}, DVs K N H ds vs → vs[i]? = some v → ∃ d, ds[i]? = some d ∧ DV K N H d v
  | _, _, _, _, .nil, e => by simp at e
  | _, _, 0, _, .cons r _, e => by simp at e; subst e; exact ⟨_, rfl, r⟩
  | _, _, i + 1, d, .cons _ t, e => by
    obtain ⟨u, h1, h2⟩ := DVs.getV (i := i) (v := d) t (by simpa using e)
    exact ⟨u, by simpa using h1, h2⟩
theorem DVs.append : ∀ {ds es : List D} {vs ws : List V}, DVs K N H ds vs → DVs K N H es ws → DVs K N H (ds ++ es) (vs ++ ws)
  | _, _, _, _, .nil, t => t
  | _, _, _, _, .cons h t, s => .cons h (DVs.append t s)
theorem DVs.take : ∀ {ds : List D} {vs : List V} (n : Nat), DVs K N H ds vs → DVs K N H (ds.take n) (vs.take n)
  | _, _, 0, _ => by simpa using DVs.nil
  | _, _, n + 1, .nil => by simpa using DVs.nil
  | _, _, n + 1, .cons h t => by simpa using DVs.cons h (DVs.take n t)
theorem DVs.drop : ∀ {ds : List D} {vs : List V} (n : Nat), DVs K N H ds vs → DVs K N H (ds.drop n) (vs.drop n)
  | _, _, 0, h => by simpa using h
  | _, _, n + 1, .nil => by simpa using DVs.nil
  | _, _, n + 1, .cons h t => by simpa using DVs.drop n t
theorem DVs.set : ∀ {ds : List D} {vs : List V} {d : D} {v : V} (i : Nat), DVs K N H ds vs → DV K N H d v → DVs K N H (ds.set i d) (vs.set i v)
  | _, _, _, _, _, .nil, _ => .nil
  | _, _, _, _, 0, .cons _ t, h => .cons h t
  | _, _, _, _, i + 1, .cons h0 t, h => .cons h0 (DVs.set i t h)
theorem DVs.rep {ds : List D} {vs : List V} (h : DVs K N H ds vs) : ∀ k : Nat, DVs K N H (List.replicate k ds).flatten (List.replicate k vs).flatten
  | 0 => .nil
  | k + 1 => by
    rw [List.replicate_succ, List.replicate_succ, List.flatten_cons, List.flatten_cons]
    exact h.append (h.rep k)
theorem DVs.cut {ds : List D} {vs : List V} (h : DVs K N H ds vs) (lo hi : Option Int) : DVs K N H (cutD ds lo hi) (cutV vs lo hi) := by
  unfold cutD cutV
  rw [h.length]
  exact (h.drop _).take _
theorem ktup_sqT {a : Addr} {vs : List V} (h : KTup K a vs) : SqT K H a vs := .inr h
/-- all tracked -/
def Tr (N : List Addr) (H : Hp) : Prop := ∀ a ∈ N, H a ≠ none
/-- nothing changes, things come -/
def Grow (H H' : Hp) : Prop := ∀ a o, H a = some o → H' a = some o
theorem Grow.refl (H : Hp) : Grow H H := fun _ _ h => h
theorem Grow.trans {H H1 H2 : Hp} (a : Grow H H1) (b : Grow H1 H2) : Grow H H2 := fun x o h => b x o (a x o h)
theorem Grow.upd {p : Addr} {o : HO} (h : H p = none) : Grow H (upd H p o) := fun a u e => by
  rw [upd_ne (ne_of_none e h)]; exact e
theorem DV.grow {d : D} {v : V} (g : Grow H H') (h : DV K N H d v) : DV K N H' d v := h.keep (fun a o e _ => g a o e) fun _ _ n => n
theorem DVs.grow {d : List D} {v : List V} (g : Grow H H') (h : DVs K N H d v) : DVs K N H' d v := h.keep (fun a o e _ => g a o e) fun _ _ n => n
theorem DKs.grow {d : List (D × D)} {v : List (Key × V)} (g : Grow H H') (h : DKs K N H d v) : DKs K N H' d v := h.keep (fun a o e _ => g a o e) fun _ _ n => n
theorem Tr.grow (g : Grow H H') (t : Tr N H) : Tr N H' := fun a m e => by
  cases q : H a with
  | none => exact t a m q
  | some o => rw [g a o q] at e; cases e
theorem Tr.fresh (t : Tr N H) {p : Addr} (h : H p = none) : p ∉ N := fun m => t p m h
theorem DV.newTup {ds : List D} {vs : List V} {p : Addr} (t : Tr N H) (hp : H p = none) (h : DVs K N H ds vs) : DV K N (upd H p (.tup vs)) (.tuple ds) (.ref p) :=
  .tup upd_same (t.fresh hp) (h.grow (Grow.upd hp))
theorem DV.newLst {ds : List D} {vs : List V} {p : Addr} (t : Tr N H) (hp : H p = none) (h : DVs K N H ds vs) : DV K N (upd H p (.lst vs)) (.list ds) (.ref p) :=
  .lst upd_same (t.fresh hp) (h.grow (Grow.upd hp))

/-! ### names, cells -/
/-- the script: known to the object, or of the written part -/
def ScrAt (K : PySem.W.Frag) (N : List Addr) (H : Hp) (a : Addr) (ns : List Int) : Prop := ns.length ≤ sizeLine ∧
  ((a ∉ N ∧ ∃ o, H a = some (.frz o (.lst (ns.map V.int)))) ∨ (∀ H' : Hp, SqL K H' a (ns.map V.int)))
theorem ScrAt.sq {a : Addr} {ns : List Int} (h : ScrAt K N H a ns) : SqL K H a (ns.map V.int) := by
  rcases h.2 with ⟨_, o, e⟩ | h
  · exact .inl (.inr ⟨o, e⟩)
  · exact h H
theorem ScrAt.keep (k : ∀ a o, H a = some o → a ∉ N → H' a = some o) (n : ∀ a, (H a).isSome = true → a ∉ N → a ∉ N') {a : Addr} {ns : List Int} (h : ScrAt K N H a ns) : ScrAt K N' H' a ns := by
  refine ⟨h.1, ?_⟩
  rcases h.2 with ⟨hn, o, e⟩ | h
  · exact .inl ⟨n _ (by rw [e]; rfl) hn, o, k _ _ e hn⟩
  · exact .inr h

inductive SlR (K : PySem.W.Frag) (N ca : List Addr) (H : Hp) : Slot → Option V → List Addr → Prop
  | un (o : Option V) : SlR K N ca H .un o []
  | val {p : D} {v : V} : DV K N H p v → SlR K N ca H (.val p) (some v) []
  | lst {a : Addr} {ds : List D} {vs : List V} : H a = some (.lst vs) → DVs K N H ds vs → SlR K N ca H (.own (.list ds)) (some (.ref a)) [a]
  | dct {a : Addr} {ks : List (D × D)} {kvs : List (Key × V)} : H a = some (.dK kvs) → DKs K N H ks kvs → SlR K N ca H (.own (.dict ks)) (some (.ref a)) [a]
  | rf {i : Nat} {a : Addr} : ca[i]? = some a → SlR K N ca H (.rf i) (some (.ref a)) []
  | scr {a : Addr} {ns : List Int} : ScrAt K N H a ns → SlR K N ca H (.scr ns) (some (.ref a)) []
inductive EnvR (K : PySem.W.Frag) (N ca : List Addr) (H : Hp) : Env → St → List Addr → Prop
  | nil : EnvR K N ca H [] [] []
  | cons {s : Slot} {env : Env} {o : Option V} {σ : St} {l L : List Addr} : SlR K N ca H s o l → EnvR K N ca H env σ L → EnvR K N ca H (s :: env) (o :: σ) (l ++ L)
inductive CellR (K : PySem.W.Frag) (N : List Addr) (H : Hp) : Cell → Addr → Prop
  | ml {a : Addr} {ds : List D} {vs : List V} : H a = some (.lst vs) → DVs K N H ds vs → CellR K N H (.ml ds) a
inductive CellsR (K : PySem.W.Frag) (N : List Addr) (H : Hp) : Store → List Addr → Prop
  | nil : CellsR K N H [] []
  | cons {c : Cell} {st : Store} {a : Addr} {as : List Addr} : CellR K N H c a → CellsR K N H st as → CellsR K N H (c :: st) (a :: as)
/-- all that is written here: what the callers hold, what names hold, the cells -/
abbrev own (XL L ca : List Addr) : List Addr := XL ++ (L ++ ca)
structure Rel (K : PySem.W.Frag) (XL ca L : List Addr) (env : Env) (st : Store) (σ : St) (H : Hp) : Prop where
  env : EnvR K (own XL L ca) ca H env σ L
  cells : CellsR K (own XL L ca) H st ca
  nd : (own XL L ca).Nodup
  tr : Tr XL H
/-- from one state to a later one -/
structure Step (L ca : List Addr) (H : Hp) (L' ca' : List Addr) (H' : Hp) : Prop where
  stay : ∀ a o, H a = some o → a ∉ L ++ ca → H' a = some o
  new : ∀ a ∈ L' ++ ca', a ∈ L ++ ca ∨ H a = none
  pre : ca <+: ca'
  there : ∀ a, H a ≠ none → H' a ≠ none
theorem SlR.tr {ca : List Addr} {s : Slot} {o : Option V} {l : List Addr} (h : SlR K N ca H s o l) : Tr l H := fun a m => by
  cases h with
  | un => simp at m
  | val => simp at m
  | lst h _ => simp at m; subst m; rw [h]; exact fun z => by cases z
  | dct h _ => simp at m; subst m; rw [h]; exact fun z => by cases z
  | rf => simp at m
  | scr => simp at m
theorem EnvR.tr {ca : List Addr} : ∀ {env : Env} {σ : St} {L : List Addr}, EnvR K N ca H env σ L → Tr L H
  | _, _, _, .nil => fun _ m => by simp at m
  | _, _, _, .cons h t => fun a m => by
    rcases List.mem_append.mp m with m | m
    · exact h.tr a m
    · exact t.tr a m
theorem CellsR.tr : ∀ {st : Store} {ca : List Addr}, CellsR K N H st ca → Tr ca H
  | _, _, .nil => fun _ m => by simp at m
  | _, _, .cons h t => fun a m => by
    rcases List.mem_cons.mp m with rfl | m
    · cases h with
      | ml h _ => rw [h]; exact fun z => by cases z
    · exact t.tr a m
theorem CellsR.length : ∀ {st : Store} {ca : List Addr}, CellsR K N H st ca → st.length = ca.length
  | _, _, .nil => rfl
  | _, _, .cons _ t => congrArg (· + 1) t.length
theorem CellsR.get : ∀ {st : Store} {ca : List Addr} {i : Nat} {c : Cell}, CellsR K N H st ca → st[i]? = some c → ∃ a, ca[i]? = some a ∧ CellR K N H c a
  | _, _, _, _, .nil, e => by simp at e
  | _, _, 0, _, .cons h _, e => by simp at e; subst e; exact ⟨_, rfl, h⟩
  | _, _, i + 1, c, .cons _ t, e => by
    obtain ⟨a, h1, h2⟩ := CellsR.get (i := i) (c := c) t (by simpa using e)
    exact ⟨a, by simpa using h1, h2⟩
section
variable {XL ca L ca' L' : List Addr} {env : Env} {st : Store} {σ : St}
theorem Rel.trN (r : Rel K XL ca L env st σ H) : Tr (own XL L ca) H := fun a m => by
  rcases List.mem_append.mp m with m | m
  · exact r.tr a m
  · rcases List.mem_append.mp m with m | m
    · exact r.env.tr a m
    · exact r.cells.tr a m
theorem Step.refl (L ca : List Addr) (H : Hp) : Step L ca H L ca H := ⟨fun _ _ h _ => h, fun _ m => .inl m, List.prefix_rfl, fun _ h => h⟩
theorem Step.trans {L1 ca1 L2 ca2 : List Addr} {H1 H2 : Hp} (x : Step L ca H L1 ca1 H1) (y : Step L1 ca1 H1 L2 ca2 H2) : Step L ca H L2 ca2 H2 where
  stay := fun a o h n => y.stay a o (x.stay a o h n) fun m => by
    rcases x.new a m with q | q
    · exact n q
    · rw [h] at q; cases q
  new := fun a m => by
    by_cases q : a ∈ L ++ ca
    · exact .inl q
    rcases y.new a m with m1 | m1
    · exact x.new a m1
    · refine .inr ?_
      cases e : H a with
      | none => rfl
      | some o => rw [x.stay a o e q] at m1; cases m1
  pre := x.pre.trans y.pre
  there := fun a h => y.there a (x.there a h)
theorem Step.grow (g : Grow H H') : Step L ca H L ca H' := ⟨fun a o h _ => g a o h, fun _ m => .inl m, List.prefix_rfl, fun a h => by
  cases q : H a with
  | none => exact absurd q h
  | some o => rw [g a o q]; exact fun z => by cases z⟩
theorem DV.step {d : D} {v : V} (x : Step L ca H L' ca' H') (h : DV K (own XL L ca) H d v) : DV K (own XL L' ca') H' d v :=
  h.keep (fun a o e n => x.stay a o e fun m => n (List.mem_append_right _ m)) fun a e n m => by
    rcases List.mem_append.mp m with m | m
    · exact n (List.mem_append_left _ m)
    · rcases x.new a m with q | q
      · exact n (List.mem_append_right _ q)
      · rw [q] at e; cases e
theorem DVs.step {d : List D} {v : List V} (x : Step L ca H L' ca' H') (h : DVs K (own XL L ca) H d v) : DVs K (own XL L' ca') H' d v :=
  h.keep (fun a o e n => x.stay a o e fun m => n (List.mem_append_right _ m)) fun a e n m => by
    rcases List.mem_append.mp m with m | m
    · exact n (List.mem_append_left _ m)
    · rcases x.new a m with q | q
      · exact n (List.mem_append_right _ q)
      · rw [q] at e; cases e
/-- from one state of an expression to a later one: the names' own things stay -/
theorem Step.toL (x : Step [] ca H [] ca' H') : Step L ca H L ca' H' := ⟨fun a o e n => x.stay a o e fun m => n (List.mem_append_right _ (by simpa using m)), fun a m => by
  rcases List.mem_append.mp m with m | m
  · exact .inl (List.mem_append_left _ m)
  · rcases x.new a (by simpa using m) with q | q
    · exact .inl (List.mem_append_right _ (by simpa using q))
    · exact .inr q, x.pre, x.there⟩
theorem DV.stepE {d : D} {v : V} (x : Step [] ca H [] ca' H') (h : DV K (own XL L ca) H d v) : DV K (own XL L ca') H' d v := h.step (x.toL (L := L))
theorem DVs.stepE {d : List D} {v : List V} (x : Step [] ca H [] ca' H') (h : DVs K (own XL L ca) H d v) : DVs K (own XL L ca') H' d v := h.step (x.toL (L := L))
theorem Tr.step (x : Step L ca H L' ca' H') (t : Tr N H) : Tr N H' := fun a m => x.there a (t a m)
/-! things come -/
theorem SlR.grow {ca : List Addr} {s : Slot} {o : Option V} {l : List Addr} (g : Grow H H') (h : SlR K N ca H s o l) : SlR K N ca H' s o l := by
  cases h with
  | un => exact .un _
  | val h => exact .val (h.grow g)
  | lst h t => exact .lst (g _ _ h) (t.grow g)
  | dct h t => exact .dct (g _ _ h) (t.grow g)
  | rf h => exact .rf h
  | scr h => exact .scr (h.keep (fun a o e _ => g a o e) fun _ _ n => n)
theorem EnvR.grow (g : Grow H H') : ∀ {env : Env} {σ : St} {L : List Addr}, EnvR K N ca H env σ L → EnvR K N ca H' env σ L
  | _, _, _, .nil => .nil
  | _, _, _, .cons h t => .cons (h.grow g) (t.grow g)
theorem CellR.grow {c : Cell} {a : Addr} (g : Grow H H') (h : CellR K N H c a) : CellR K N H' c a := by
  cases h with
  | ml h t => exact .ml (g _ _ h) (t.grow g)
theorem CellsR.grow (g : Grow H H') : ∀ {st : Store} {ca : List Addr}, CellsR K N H st ca → CellsR K N H' st ca
  | _, _, .nil => .nil
  | _, _, .cons h t => .cons (h.grow g) (t.grow g)
theorem Rel.grow (g : Grow H H') (r : Rel K XL ca L env st σ H) : Rel K XL ca L env st σ H' := ⟨r.env.grow g, r.cells.grow g, r.nd, r.tr.grow g⟩
end
end

/-! ### data -/
section
variable {X : Cx} {pins : List (Addr × Obj)} {σ : St} {H : Hp} {s : Shared} {N : List Addr}
mutual
theorem DV.dp {K : PySem.W.Frag} : ∀ (d : D) {v : V}, DV K N H d v → noDict d = true → Dp K H v d
  | .none, _, h, _ => by cases h; exact .non
  | .bool b, _, h, _ => by cases h; exact .bl b
  | .int i, _, h, _ => by cases h; exact .int i
  | .str x, _, h, _ => by cases h; exact .str x
  | .list ds, _, h, n => by
    rw [noDict] at n
    cases h with
    | lst h _ t => exact .lst (.inl (.inl h)) (DVs.dp ds t n)
  | .tuple ds, _, h, n => by
    rw [noDict] at n
    cases h with
    | tup h _ t => exact .tup (.inl (.inl h)) (DVs.dp ds t n)
    | ktup h t => exact .tup (.inr h) (DVs.dp ds t n)
  | .dict _, _, _, n => by rw [noDict] at n; cases n
theorem DVs.dp {K : PySem.W.Frag} : ∀ (ds : List D) {vs : List V}, DVs K N H ds vs → noDicts ds = true → DpAll K H vs ds
  | [], _, h, _ => by cases h; exact .nil
  | d :: ds, _, h, n => by
    rw [noDicts, Bool.and_eq_true] at n
    cases h with
    | cons h t => exact .cons (DV.dp d h n.1) (DVs.dp ds t n.2)
end
mutual
theorem DV.lay {K : PySem.W.Frag} : ∀ (d : D) {v : V}, DV K N H d v → noDict d = true → d.canLay0 = true
  | .none, _, h, _ => by simp [PyData.canLay0]
  | .bool b, _, h, _ => by simp [PyData.canLay0]
  | .int i, _, h, _ => by simp [PyData.canLay0]
  | .str x, _, h, _ => by cases h with | str _ h => simpa [PyData.canLay0] using h.2
  | .list ds, _, h, n => by
    rw [noDict] at n
    rw [PyData.canLay0]
    cases h with
    | lst h _ t => exact DVs.lay ds t n
  | .tuple ds, _, h, n => by
    rw [noDict] at n
    rw [PyData.canLay0]
    cases h with
    | tup h _ t => exact DVs.lay ds t n
    | ktup h t => exact DVs.lay ds t n
  | .dict _, _, _, n => by rw [noDict] at n; cases n
theorem DVs.lay {K : PySem.W.Frag} : ∀ (ds : List D) {vs : List V}, DVs K N H ds vs → noDicts ds = true → PyData.canLayAll0 ds = true
  | [], _, h, _ => by simp [PyData.canLayAll0]
  | d :: ds, _, h, n => by
    rw [noDicts, Bool.and_eq_true] at n
    cases h with
    | cons h t => rw [PyData.canLayAll0, DV.lay d h n.1, DVs.lay ds t n.2]; rfl
end
end
end IP
namespace IP
open PySem PySem.Spec L2
open PyProof.Rows hiding St

theorem line_eq : sizeLine = LINE := sizeLine_eq
theorem ifs_some {α : Type} {b : Bool} {a z : α} (h : ifs b a = some z) : b = true ∧ a = z := by
  cases b with
  | true => exact ⟨rfl, Option.some.inj h⟩
  | false => cases h
theorem good_app {a b : Str} (ha : strGood a) (hb : strGood b) (h : a.length + b.length ≤ sizeLine) : strGood (a ++ b) := by
  refine ⟨?_, ?_⟩
  · show (a.cps ++ b.cps).size ≤ sizeLine
    rw [Array.size_append]
    exact h
  · have h1 : a.cps.all (· < 0x110000) = true := ha.2
    have h2 : b.cps.all (· < 0x110000) = true := hb.2
    show (a.cps ++ b.cps).all (· < 0x110000) = true
    rw [Array.all_append, h1, h2]; rfl
/-- an operation on values -/
def rOp (K : PySem.W.Frag) (g : D → D → Option D) : R2 := fun x y H Q => ∃ N p q z, Tr N H ∧ DV K N H p x ∧ DV K N H q y ∧ g p q = some z ∧ ∀ v H', Grow H H' → DV K N H' z v → Q v H'
section
variable {X : Cx} {N : List Addr} {H : Hp} {K : PySem.W.Frag}
theorem DV.tupS {ds : List D} {v : V} (h : DV K N H (.tuple ds) v) : ∃ a vs, v = .ref a ∧ SqT K H a vs ∧ DVs K N H ds vs := by
  cases h with
  | tup h _ t => exact ⟨_, _, rfl, .inl (.inl h), t⟩
  | ktup h t => exact ⟨_, _, rfl, .inr h, t⟩
theorem DV.lstS {ds : List D} {v : V} (h : DV K N H (.list ds) v) : ∃ a vs, v = .ref a ∧ H a = some (.lst vs) ∧ a ∉ N ∧ DVs K N H ds vs := by
  cases h with
  | lst h n t => exact ⟨_, _, rfl, h, n, t⟩
theorem DVs.nil_iff {ds : List D} {vs : List V} (h : DVs K N H ds vs) : vs = [] ↔ ds = [] := by
  cases h <;> simp
theorem op_addI : OpR X (binaryOp .Add) (rOp X.K addD) := by
  intro pins s σ H x y v u Q I rx ry ⟨N, p, q, z, t, hp, hq, ho, k⟩
  unfold addD at ho
  split at ho
  · cases hp; cases hq; cases ho
    exact op_add pins s σ H _ _ v u Q I rx ry ⟨_, _, rfl, rfl, k _ _ (Grow.refl H) (.int _)⟩
  · obtain ⟨hz, rfl⟩ := ifs_some ho
    cases hp with | str _ ga =>
    cases hq with | str _ gb =>
    have hz' := of_decide_eq_true hz
    rw [← line_eq] at hz'
    exact op_add_str pins s σ H _ _ v u Q I rx ry ⟨_, _, rfl, rfl, hz', k _ _ (Grow.refl H) (.str _ (good_app ga gb hz'))⟩
  · obtain ⟨hz, rfl⟩ := ifs_some ho
    have hz' := of_decide_eq_true hz
    rw [← line_eq] at hz'
    obtain ⟨a, vs, rfl, ha, na, ta⟩ := hp.lstS
    obtain ⟨b, ws, rfl, hb, nb, tb⟩ := hq.lstS
    refine op_cat pins s σ H _ _ v u Q I rx ry ⟨a, b, vs, ws, rfl, rfl, ha, hb, by rw [← ta.length, ← tb.length]; exact hz', fun p np => k _ _ (Grow.upd np) (DV.newLst t np (ta.append tb))⟩
  · obtain ⟨hz, rfl⟩ := ifs_some ho
    have hz' := of_decide_eq_true hz
    rw [← line_eq] at hz'
    have hp' := hp
    have hq' := hq
    obtain ⟨a, vs, rfl, ha, ta⟩ := hp.tupS
    obtain ⟨b, ws, rfl, hb, tb⟩ := hq.tupS
    refine op_catA pins s σ H _ _ v u Q I rx ry ⟨a, b, vs, ws, rfl, rfl, ha, hb, by rw [← ta.length, ← tb.length]; exact hz', fun e => ?_, fun e1 e => ?_, fun e1 e2 p np => ?_⟩
    · rw [ta.nil_iff.mp e, List.nil_append] at k
      exact k _ _ (Grow.refl H) hq'
    · rw [tb.nil_iff.mp e, List.append_nil] at k
      exact k _ _ (Grow.refl H) hp'
    · exact k _ _ (Grow.upd np) (DV.newTup t np (ta.append tb))
  · cases ho
theorem op_subI : OpR X (binaryOp .Sub) (rOp X.K subD) := by
  intro pins s σ H x y v u Q I rx ry ⟨N, p, q, z, t, hp, hq, ho, k⟩
  unfold subD at ho
  split at ho
  · cases hp; cases hq; cases ho
    exact op_sub pins s σ H _ _ v u Q I rx ry ⟨_, _, rfl, rfl, k _ _ (Grow.refl H) (.int _)⟩
  · cases ho
theorem foldl_app {α : Type} : ∀ (n : Nat) (x acc : Array α), ((List.replicate n x).foldl (· ++ ·) acc).toList = acc.toList ++ (List.replicate n x.toList).flatten
  | 0, x, acc => by simp
  | n + 1, x, acc => by
    rw [List.replicate_succ, List.foldl_cons, foldl_app n x (acc ++ x), List.replicate_succ, List.flatten_cons, Array.toList_append, List.append_assoc]
theorem op_mulI : OpR X (binaryOp .Mult) (rOp X.K mulD) := by
  intro pins s σ H x y v u Q I rx ry ⟨N, p, q, z, t, hp, hq, ho, k⟩
  unfold mulD at ho
  split at ho
  · obtain ⟨hz, rfl⟩ := ifs_some ho
    have hz' := of_decide_eq_true hz
    cases hp; cases hq
    exact op_mul pins s σ H _ _ v u Q I rx ry ⟨_, _, rfl, rfl, hz', k _ _ (Grow.refl H) (.int _)⟩
  · obtain ⟨hz, rfl⟩ := ifs_some ho
    obtain ⟨h1, h2, h3⟩ := of_decide_eq_true hz
    cases hq
    obtain ⟨a, vs, rfl, ha, na, ta⟩ := hp.lstS
    rw [← line_eq, ta.length] at h3
    exact op_rep pins s σ H _ _ v u Q I rx ry ⟨a, _, vs, rfl, rfl, ha, h1, h2, h3, fun p np => k _ _ (Grow.upd np) (DV.newLst t np (ta.rep _))⟩
  · obtain ⟨hz, rfl⟩ := ifs_some ho
    obtain ⟨h1, h2, h3, h4⟩ := of_decide_eq_true hz
    cases hq
    cases hp with | str _ ga =>
    rename_i a j
    obtain ⟨t1, rfl⟩ := rx
    obtain ⟨t2, rfl⟩ := ry
    have hl : (repS j.toNat a).length = j.toNat * a.length := by
      show (repS j.toNat a).cps.size = _
      rw [← Array.length_toList]
      show ((List.replicate j.toNat a.cps).foldl (· ++ ·) #[]).toList.length = _
      rw [foldl_app, List.nil_append]
      simp [Str.length]
    have hn : j.toNat * a.length ≤ 1000000 := Nat.le_trans (Nat.mul_le_mul (show j.toNat ≤ 1000 by omega) h4) (by decide)
    have hsz : (1000000 : Nat) ≤ sizeLine := by rw [line_eq]; decide
    have hg : strGood (repS j.toNat a) := by
      refine ⟨?_, ?_⟩
      · show (repS j.toNat a).length ≤ _
        rw [hl]
        omega
      · show (repS j.toNat a).cps.all (· < 0x110000) = true
        have g2 : a.cps.all (· < 0x110000) = true := ga.2
        rw [← Array.all_toList] at g2 ⊢
        show ((List.replicate j.toNat a.cps).foldl (· ++ ·) #[]).toList.all _ = true
        rw [foldl_app, List.nil_append, List.all_eq_true]
        intro c m
        obtain ⟨l, m1, m2⟩ := List.mem_flatten.mp m
        rw [List.eq_of_mem_replicate m1] at m2
        exact List.all_eq_true.mp g2 c m2
    have n1 : (decide (j < -(2 ^ 63 : Int)) || decide (j ≥ 2 ^ 63)) = false := by
      rw [Bool.or_eq_false_iff, decide_eq_false_iff_not, decide_eq_false_iff_not]
      omega
    have n2 : ¬ ((a.length : Int) > (2 ^ 63 - 1) / j) := by
      have : (a.length : Int) ≤ (2 ^ 63 - 1) / j := by
        refine Int.le_ediv_of_mul_le (by omega) ?_
        have e1 : (a.length : Int) * j ≤ 1000 * 1000 := Int.mul_le_mul (by omega) h2 (by omega) (by omega)
        have e2 : (1000 * 1000 : Int) ≤ 2 ^ 63 - 1 := by decide
        omega
      omega
    have n3 : Builtin.Str.tooLong (a.length * j.toNat) = false := by
      unfold Builtin.Str.tooLong
      rw [decide_eq_false_iff_not, Nat.mul_comm]
      omega
    have n4 : ¬ j < 1 := by omega
    have n5 : ¬ (j == 1 || a.length == 0) = true := by
      rw [Bool.or_eq_true, beq_iff_eq, beq_iff_eq]
      omega
    refine P.mul_str n1 (fun _ _ => n2) (fun _ _ => n3) ?_
    rw [if_neg n4, if_neg n5]
    refine ⟨?_, .str (repS j.toNat a), H, I.tok _, ⟨_, rfl⟩, k _ _ (Grow.refl H) (.str _ hg)⟩
    show (repS j.toNat a).length ≤ _
    rw [hl]
    omega
  · cases ho
theorem op_modI : OpR X (binaryOp .Mod) (rOp X.K modD) := by
  intro pins s σ H x y v u Q I rx ry ⟨N, p, q, z, t, hp, hq, ho, k⟩
  unfold modD at ho
  split at ho
  · obtain ⟨hz, rfl⟩ := ifs_some ho
    have hz' := of_decide_eq_true hz
    cases hp; cases hq
    exact op_mod pins s σ H _ _ v u Q I rx ry ⟨_, _, rfl, rfl, hz', k _ _ (Grow.refl H) (.int _)⟩
  · cases ho
theorem op_fdivI : OpR X (binaryOp .FloorDiv) (rOp X.K fdivD) := by
  intro pins s σ H x y v u Q I rx ry ⟨N, p, q, z, t, hp, hq, ho, k⟩
  unfold fdivD at ho
  split at ho
  · obtain ⟨hz, rfl⟩ := ifs_some ho
    have hz' := of_decide_eq_true hz
    cases hp; cases hq
    exact op_fdiv pins s σ H _ _ v u Q I rx ry ⟨_, _, rfl, rfl, hz', k _ _ (Grow.refl H) (.int _)⟩
  · cases ho
theorem op_powI : OpR X (binaryOp .Pow) (rOp X.K powD) := by
  intro pins s σ H x y v u Q I rx ry ⟨N, p, q, z, t, hp, hq, ho, k⟩
  unfold powD at ho
  split at ho
  · obtain ⟨hz, rfl⟩ := ifs_some ho
    have hz' := of_decide_eq_true hz
    cases hp; cases hq
    exact op_pow pins s σ H _ _ v u Q I rx ry ⟨_, _, rfl, rfl, hz', k _ _ (Grow.refl H) (.int _)⟩
  · cases ho
theorem op_cmpI {op : CmpOp} {f : Int → Int → Bool} (h : OpR X (compareOp op) (rI0 fun i j => .bl (f i j))) : OpR X (compareOp op) (rOp X.K (cmpD f)) := by
  intro pins s σ H x y v u Q I rx ry ⟨N, p, q, z, t, hp, hq, ho, k⟩
  unfold cmpD at ho
  split at ho
  · cases hp; cases hq; cases ho
    exact h pins s σ H _ _ v u Q I rx ry ⟨_, _, rfl, rfl, k _ _ (Grow.refl H) (.bl _)⟩
  · cases ho
theorem eqOk_ {p q : D} (h : eqOk p q = true) : noDict p = true ∧ noDict q = true ∧ min p.depth q.depth ≤ 150 := by
  unfold eqOk at h
  rw [Bool.and_eq_true, Bool.and_eq_true] at h
  exact ⟨h.1.1, h.1.2, of_decide_eq_true h.2⟩
theorem op_eqI (hu : X.A.units + 151 < cLine) : OpR X (compareOp .Eq) (rOp X.K fun a b => ifs (eqOk a b) (.bool (PyData.eqv a b))) := by
  intro pins s σ H x y v u Q I rx ry ⟨N, p, q, z, t, hp, hq, ho, k⟩
  obtain ⟨hz, rfl⟩ := ifs_some ho
  obtain ⟨n1, n2, hd⟩ := eqOk_ hz
  obtain ⟨as, r1⟩ := Dp.reads I p x v (hp.dp p n1) rx
  obtain ⟨bs, r2⟩ := Dp.reads I q y u (hq.dp q n2) ry
  exact SeqAt.compareEq_reads r1 r2 (hp.lay p n1) (hq.lay q n2) (by omega) ⟨.bl _, H, I, rfl, k _ _ (Grow.refl H) (.bl _)⟩
theorem op_neI (hu : X.A.units + 151 < cLine) : OpR X (compareOp .NotEq) (rOp X.K fun a b => ifs (eqOk a b) (.bool (!PyData.eqv a b))) := by
  intro pins s σ H x y v u Q I rx ry ⟨N, p, q, z, t, hp, hq, ho, k⟩
  obtain ⟨hz, rfl⟩ := ifs_some ho
  obtain ⟨n1, n2, hd⟩ := eqOk_ hz
  obtain ⟨as, r1⟩ := Dp.reads I p x v (hp.dp p n1) rx
  obtain ⟨bs, r2⟩ := Dp.reads I q y u (hq.dp q n2) ry
  exact SeqAt.compareNe_reads r1 r2 (hp.lay p n1) (hq.lay q n2) (by omega) ⟨.bl _, H, I, rfl, k _ _ (Grow.refl H) (.bl _)⟩
theorem inOk_ {x : D} {ys : List D} (h : inOk x ys = true) : noDict x = true ∧ noDicts ys = true ∧ min (PyData.depthAll ys) x.depth ≤ 150 := by
  unfold inOk at h
  rw [Bool.and_eq_true, Bool.and_eq_true] at h
  exact ⟨h.1.1, h.1.2, of_decide_eq_true h.2⟩
theorem DV.readL (hz : X.K = K) {pins : List (Addr × Obj)} {σ : St} {s : Shared} (I : Inv X pins σ H s) {p : D} {x : V} {v : Value} (h : DV X.K N H p x) (n : noDict p = true) (r : RelV x v) : ∃ as, Reads s.heap v p as :=
  Dp.reads I p x v (h.dp p n) r
theorem xor_true_not (b : Bool) : xor true b = !b := by cases b <;> rfl
theorem xor_false_id (b : Bool) : xor false b = b := by cases b <;> rfl
/-! ### in, not in -/
theorem keyD_kV {a : D} {k : Key} {x : V} (e : keyD a = some k) (h : DV K N H a x) : x = kV k := by
  unfold keyD at e
  split at e
  · cases e; cases h; rfl
  · cases e; cases h; rfl
  · cases e
theorem findKV_val {k : Key} : ∀ {ks : List (D × D)} {kvs : List (Key × V)}, DKs K N H ks kvs → (∀ d, findKV k ks = some d → ∃ v, valV kvs k = some v ∧ DV K N H d v) ∧ (findKV k ks = none → valV kvs k = none)
  | _, _, .nil => ⟨fun _ e => (nomatch e), fun _ => rfl⟩
  | _, _, .cons (a := a) (d := d0) (k := k0) (v := v0) (vs := vs) e h t => by
    have ih := findKV_val (k := k) t
    have hv : valV ((k0, v0) :: vs) k = if decide (k0 = k) = true then some v0 else valV vs k := by
      unfold valV
      rw [List.find?_cons]
      by_cases q : k0 = k
      · simp [q]
      · simp [q]
    unfold findKV
    rw [hv]
    by_cases q : k0 = k
    · subst q
      rw [e]
      simp only [decide_true, if_true]
      exact ⟨fun d hd => (by cases hd; exact ⟨_, rfl, h⟩), fun hd => (nomatch hd)⟩
    · have q2 : ¬ keyD a = some k := by
        rw [e]
        exact fun z => q (Option.some.inj z)
      simp only [q, q2, decide_false, Bool.false_eq_true, if_false]
      exact ih
theorem DV.dctS {ks : List (D × D)} {v : V} (h : DV K N H (.dict ks) v) : ∃ a kvs, v = .ref a ∧ H a = some (.dK kvs) ∧ a ∉ N ∧ DKs K N H ks kvs := by
  cases h with
  | dct h n t => exact ⟨_, _, rfl, h, n, t⟩
theorem valV_some {k : Key} {ks : List (D × D)} {kvs : List (Key × V)} (h : DKs K N H ks kvs) : (valV kvs k).isSome = (findKV k ks).isSome := by
  obtain ⟨h1, h2⟩ := findKV_val (k := k) h
  cases e : findKV k ks with
  | none => rw [h2 e]; rfl
  | some d =>
    obtain ⟨v, e2, _⟩ := h1 d e
    rw [e2]; rfl
theorem op_inI (hu : X.A.units + 152 < cLine) : OpR X (compareOp .In) (rOp X.K (inD false)) := by
  intro pins s σ H x y v u Q I rx ry ⟨N, p, q, z, t, hp, hq, ho, k⟩
  have kf := fun b => k (.bl b) H (Grow.refl H)
  unfold inD at ho
  split at ho
  · obtain ⟨hz, rfl⟩ := ifs_some ho
    obtain ⟨n1, n2, hd⟩ := inOk_ hz
    rw [xor_false_id] at kf
    obtain ⟨as, r1⟩ := hp.readL rfl I n1 rx
    obtain ⟨bs, r2⟩ := hq.readL rfl I (by rw [noDict]; exact n2) ry
    exact SeqAt.in_list_reads r2 r1 (by have := hq.lay _ (by rw [noDict]; exact n2); rwa [PyData.canLay0] at this) (hp.lay p n1) (by omega) ⟨.bl _, H, I, rfl, kf _ (.bl _)⟩
  · obtain ⟨hz, rfl⟩ := ifs_some ho
    obtain ⟨n1, n2, hd⟩ := inOk_ hz
    rw [xor_false_id] at kf
    obtain ⟨as, r1⟩ := hp.readL rfl I n1 rx
    obtain ⟨bs, r2⟩ := hq.readL rfl I (by rw [noDict]; exact n2) ry
    exact SeqAt.in_tuple_reads r2 r1 (by have := hq.lay _ (by rw [noDict]; exact n2); rwa [PyData.canLay0] at this) (hp.lay p n1) (by omega) ⟨.bl _, H, I, rfl, kf _ (.bl _)⟩
  · split at ho
    · cases ho
      cases hp; cases hq
      rw [xor_false_id] at kf
      exact op_in_str pins s σ H _ _ v u Q I rx ry ⟨_, _, rfl, rfl, kf _ (.bl _)⟩
    · cases ho
  · split at ho
    · rename_i kk hk
      obtain ⟨hz, rfl⟩ := ifs_some ho
      rw [xor_false_id] at kf
      obtain ⟨a, kvs, rfl, ha, na, tk⟩ := hq.dctS
      have ex := keyD_kV hk hp
      subst ex
      cases ry
      refine d_in (by omega) I (DGet.k (k := kk) ha) rx fun s' I' => ⟨.bl _, H, I', rfl, ?_⟩
      rw [valV_some tk]
      exact kf _ (.bl _)
    · cases ho
  · cases ho
theorem op_notInI (hu : X.A.units + 152 < cLine) : OpR X (compareOp .NotIn) (rOp X.K (inD true)) := by
  intro pins s σ H x y v u Q I rx ry ⟨N, p, q, z, t, hp, hq, ho, k⟩
  have kf := fun b => k (.bl b) H (Grow.refl H)
  unfold inD at ho
  split at ho
  · obtain ⟨hz, rfl⟩ := ifs_some ho
    obtain ⟨n1, n2, hd⟩ := inOk_ hz
    rw [xor_true_not] at kf
    obtain ⟨as, r1⟩ := hp.readL rfl I n1 rx
    obtain ⟨bs, r2⟩ := hq.readL rfl I (by rw [noDict]; exact n2) ry
    exact SeqAt.notIn_list_reads r2 r1 (by have := hq.lay _ (by rw [noDict]; exact n2); rwa [PyData.canLay0] at this) (hp.lay p n1) (by omega) ⟨.bl _, H, I, rfl, kf _ (.bl _)⟩
  · obtain ⟨hz, rfl⟩ := ifs_some ho
    obtain ⟨n1, n2, hd⟩ := inOk_ hz
    rw [xor_true_not] at kf
    obtain ⟨as, r1⟩ := hp.readL rfl I n1 rx
    obtain ⟨bs, r2⟩ := hq.readL rfl I (by rw [noDict]; exact n2) ry
    exact SeqAt.notIn_tuple_reads r2 r1 (by have := hq.lay _ (by rw [noDict]; exact n2); rwa [PyData.canLay0] at this) (hp.lay p n1) (by omega) ⟨.bl _, H, I, rfl, kf _ (.bl _)⟩
  · split at ho
    · cases ho
      cases hp; cases hq
      rw [xor_true_not] at kf
      exact op_notin_str pins s σ H _ _ v u Q I rx ry ⟨_, _, rfl, rfl, kf _ (.bl _)⟩
    · cases ho
  · split at ho
    · rename_i kk hk
      obtain ⟨hz, rfl⟩ := ifs_some ho
      rw [xor_true_not] at kf
      obtain ⟨a, kvs, rfl, ha, na, tk⟩ := hq.dctS
      have ex := keyD_kV hk hp
      subst ex
      cases ry
      refine d_notIn (by omega) I (DGet.k (k := kk) ha) rx fun s' I' => ⟨.bl _, H, I', rfl, ?_⟩
      rw [valV_some tk]
      exact kf _ (.bl _)
    · cases ho
  · cases ho
/-! ### is None -/
theorem isNon_dec {p : D} {x : V} (h : DV K N H p x) : decide (x = .non) = isNon p := by
  cases h <;> rfl
theorem op_isI : OpR X (compareOp .Is) (rOp X.K (isD false)) := by
  intro pins s σ H x y v u Q I rx ry ⟨N, p, q, z, t, hp, hq, ho, k⟩
  unfold isD at ho
  split at ho
  · cases ho
    cases hq
    refine op_isN pins s σ H _ _ v u Q I rx ry ⟨rfl, ?_⟩
    rw [isNon_dec hp]
    rw [xor_false_id] at k
    exact k _ _ (Grow.refl H) (.bl _)
  · cases ho
theorem op_isnotI : OpR X (compareOp .IsNot) (rOp X.K (isD true)) := by
  intro pins s σ H x y v u Q I rx ry ⟨N, p, q, z, t, hp, hq, ho, k⟩
  unfold isD at ho
  split at ho
  · cases ho
    cases hq
    refine op_notN pins s σ H _ _ v u Q I rx ry ⟨rfl, ?_⟩
    rw [isNon_dec hp]
    rw [xor_true_not] at k
    exact k _ _ (Grow.refl H) (.bl _)
  · cases ho
/-! ### truth -/
theorem DV.tru {p : D} {x : V} (h : DV K N H p x) : TruV K x H (truthD p) := by
  cases h with
  | non => rfl
  | bl b => rfl
  | int i => rfl
  | str x g => exact ⟨g.1, rfl⟩
  | tup h _ t => exact .inr (.inl ⟨_, .inl (.inl h), by cases t <;> rfl⟩)
  | ktup h t => exact .inr (.inl ⟨_, .inr h, by cases t <;> rfl⟩)
  | lst h _ t => exact .inl ⟨_, .inl (.inl h), by cases t <;> rfl⟩
  | dct h _ t => exact .inr (.inr ⟨_, h, by cases t <;> rfl⟩)
/-! ### items -/
theorem ixN_lt {n : Nat} {i : Int} {j : Nat} (h : ixN n i = some j) : j < n := (ixN_seq h).2.1
theorem atI_dv {ds : List D} {vs : List V} {i : Int} {d : D} (t : DVs K N H ds vs) (h : atI ds i = some d) : ∃ v, atI vs i = some v ∧ DV K N H d v := by
  unfold atI at h ⊢
  rw [← t.length]
  cases e : ixN ds.length i with
  | none => rw [e] at h; cases h
  | some j =>
    rw [e] at h
    exact t.get h
theorem good_one {s : Str} {c : Nat} (g : strGood s) (h : c ∈ s.cps.toList) : strGood ⟨#[c]⟩ := by
  refine ⟨by show 1 ≤ sizeLine; decide, ?_⟩
  have h1 : s.cps.all (· < 0x110000) = true := g.2
  rw [← Array.all_toList] at h1
  have h2 := List.all_eq_true.mp h1 c h
  show (#[c] : Array Nat).all (· < 0x110000) = true
  rw [← Array.all_toList]
  simpa using h2
theorem atI_mem {α : Type} {xs : List α} {i : Int} {v : α} (h : atI xs i = some v) : v ∈ xs := by
  obtain ⟨j, _, e, _⟩ := atI_get h
  exact List.mem_of_getElem? e
theorem ix_I (hu : X.A.units + 1 < cLine) : IxR X (rOp X.K idxD) := by
  intro ve sl pins s σ H x y v u Q I rx ry ⟨N, p, q, z, t, hp, hq, ho, k⟩ hs
  unfold idxD at ho
  split at ho
  · cases hq
    obtain ⟨a, vs, rfl, ha, na, ta⟩ := hp.lstS
    obtain ⟨w, e, hw⟩ := atI_dv ta ho
    exact ix_list ve sl pins s σ H _ _ v u Q I rx ry ⟨a, vs, _, w, rfl, rfl, .inl (.inl ha), e, k _ _ (Grow.refl H) hw⟩ hs
  · cases hq
    obtain ⟨a, vs, rfl, ha, ta⟩ := hp.tupS
    obtain ⟨w, e, hw⟩ := atI_dv ta ho
    exact ix_tup ve sl pins s σ H _ _ v u Q I rx ry ⟨a, vs, _, w, rfl, rfl, ha, e, k _ _ (Grow.refl H) hw⟩ hs
  · cases hq
    cases hp with | str _ g =>
    obtain ⟨c, e, rfl⟩ := Option.map_eq_some_iff.mp ho
    exact ix_str ve sl pins s σ H _ _ v u Q I rx ry ⟨_, _, c, rfl, rfl, g.1, e, k _ _ (Grow.refl H) (.str _ (good_one g (atI_mem e)))⟩ hs
  · split at ho
    · rename_i kk hk
      split at ho
      · obtain ⟨a, kvs, rfl, ha, na, tk⟩ := hp.dctS
        have ex := keyD_kV hk hq
        subst ex
        obtain ⟨w, e, hw⟩ := (findKV_val (k := kk) tk).1 _ ho
        cases rx
        have g : DGet H a (kV kk) (some w) := e ▸ DGet.k (k := kk) ha
        have ge : wpAny (model X.prog X.w) X.A (getItem (.ref a) u) (EP X pins σ Q) X.xe s :=
          d_getItem (by omega) I g ry fun w' s' I' r' => ⟨w, H, I', r', k _ _ (Grow.refl H) hw⟩
        exact tail_any (dict_typeIs I g) PySem.F.slot_dict_getitem.lookup ge hs
      · cases ho
    · cases ho
  · cases ho
end
end IP
namespace IP
open PySem PySem.Spec L2
open PyProof.Rows hiding St

/-- an exception that stands for x -/
def ExR (mg : Str → Option Value) (K : PySem.W.Frag) (N : List Addr) (H : Hp) (x : Exc) (cls : Value) (d : Option Addr) : Prop :=
  ∃ a, mg x.cls = some (.ref a) ∧ cls = .ref a ∧ (match x.fld with
    | none => d = none
    | some (f, p) => ∃ dx v, d = some dx ∧ H dx = some (.xd [(f, v)]) ∧ dx ∉ N ∧ DV K N H p v)
section
variable (X : Cx) (W : WX) (XL L : List Addr) (env : Env) (σ : L2.St)
/-- what is asked of the end of a reading -/
def Fin {α β : Type} (ca : List Addr) (H : Hp) (rel : List Addr → Hp → α → β → Prop) (Q : β → Hp → Prop) (r : R α) : Prop := match r with
  | .ok a st' => ∀ ca' b H', Rel X.K XL ca' L env st' σ H' → Step [] ca H [] ca' H' → rel (own XL L ca') H' a b → Q b H'
  | .exc x st' => ∀ ca' H' cls d, Rel X.K XL ca' L env st' σ H' → Step [] ca H [] ca' H' → ExR X.mg X.K (own XL L ca') H' x cls d → W cls d σ H'
  | .stuck => False
end
section
variable {X : Cx} {W : WX} {XL L : List Addr} {env : Env} {σ : L2.St} {α β γ δ : Type} {ca ca1 : List Addr} {H H1 : Hp} {rel : List Addr → Hp → α → β → Prop} {rel2 : List Addr → Hp → γ → δ → Prop} {Q Q' : β → Hp → Prop} {Q2 : δ → Hp → Prop}
theorem Fin.step {r : R α} (s : Step [] ca H [] ca1 H1) (h : Fin X W XL L env σ ca H rel Q r) : Fin X W XL L env σ ca1 H1 rel Q r := by
  cases r with
  | ok a st => exact fun ca' b H' R S q => h ca' b H' R (s.trans S) q
  | exc x st => exact fun ca' H' cls d R S q => h ca' H' cls d R (s.trans S) q
  | stuck => exact h
theorem Fin.bind {m : R α} {f : α → Store → R γ} (h : Fin X W XL L env σ ca H rel2 Q2 (m.bind f)) :
    Fin X W XL L env σ ca H rel (fun b H1 => ∃ ca1 st1 a, Rel X.K XL ca1 L env st1 σ H1 ∧ Step [] ca H [] ca1 H1 ∧ rel (own XL L ca1) H1 a b ∧ Fin X W XL L env σ ca1 H1 rel2 Q2 (f a st1)) m := by
  cases m with
  | ok a st => exact fun ca' b H' R S q => ⟨ca', st, a, R, S, q, Fin.step S h⟩
  | exc x st => exact h
  | stuck => exact h
theorem Fin.mono {r : R α} (h : Fin X W XL L env σ ca H rel Q r) (k : ∀ b H', Q b H' → Q' b H') : Fin X W XL L env σ ca H rel Q' r := by
  cases r with
  | ok a st => exact fun ca' b H' R S q => k b H' (h ca' b H' R S q)
  | exc x st => exact h
  | stuck => exact h
theorem Fin.ok {a : α} {st : Store} {b : β} (h : Fin X W XL L env σ ca H rel Q (.ok a st)) (R : Rel X.K XL ca L env st σ H) (q : rel (own XL L ca) H a b) : Q b H := h ca b H R (Step.refl _ _ _) q
theorem Fin.grown {a : α} {st : Store} {b : β} (h : Fin X W XL L env σ ca H rel Q (.ok a st)) (R : Rel X.K XL ca L env st σ H) (g : Grow H H1) (q : rel (own XL L ca) H1 a b) : Q b H1 := h ca b H1 (R.grow g) (Step.grow g) q
end
section
variable (X : Cx) (W : WX) (C : CallF) (XL : List Addr)
abbrev eqR {α : Type} : List Addr → Hp → α → α → Prop := fun _ _ a b => a = b
def tE (e : E) : TE := fun σ H Q => ∃ ca L env st, Rel X.K XL ca L env st σ H ∧ Fin X W XL L env σ ca H (DV X.K) Q (ev C e env st)
def tr1 (r : R D) : R Bool := r.bind fun x st => .ok (truthD x) st
def tT (e : E) : TT := fun σ H Q => ∃ ca L env st, Rel X.K XL ca L env st σ H ∧ Fin X W XL L env σ ca H eqR Q (tr1 (ev C e env st))
def tEs (es : EL) : TA := fun σ H Q => ∃ ca L env st, Rel X.K XL ca L env st σ H ∧ Fin X W XL L env σ ca H (DVs X.K) Q (evs C es env st)
abbrev SE (e : E) (x : Expr) : Prop := PE X x (tE X W C XL e)
abbrev ST (e : E) (x : Expr) : Prop := PT X x (tT X W C XL e)
abbrev SEs (es : EL) (xs : List Expr) : Prop := PA X xs (tEs X W C XL es)
end
theorem PE.weak {X : Cx} {x : Expr} {t t' : TE} (h : PE X x t) (k : ∀ σ H Q, t' σ H Q → t σ H Q) : PE X x t' := ⟨fun pins s σ H Q I z => h.run pins s σ H Q I (k σ H Q z)⟩
theorem PT.weak {X : Cx} {x : Expr} {t t' : TT} (h : PT X x t) (k : ∀ σ H Q, t' σ H Q → t σ H Q) : PT X x t' := ⟨fun pins s σ H Q I z => h.run pins s σ H Q I (k σ H Q z)⟩
theorem PA.weak {X : Cx} {x : List Expr} {t t' : TA} (h : PA X x t) (k : ∀ σ H Q, t' σ H Q → t σ H Q) : PA X x t' := ⟨fun pos pins s σ H Q I z => h.run pos pins s σ H Q I (k σ H Q z)⟩
section
variable {X : Cx} {W : WX} {C : CallF} {XL : List Addr} {a b c : E} {x y z : Expr} {pos : Pos}

/-! ### operations -/
theorem R.of_fin {L ca : List Addr} {env : Env} {st : Store} {σ : L2.St} {H : Hp} {Q : VK} {g : D → D → Option D} {p q : D} {v u : V} (rl : Rel X.K XL ca L env st σ H) (hp : DV X.K (own XL L ca) H p v) (hq : DV X.K (own XL L ca) H q u)
    (h : Fin X W XL L env σ ca H (DV X.K) Q (R.of (g p q) st)) : rOp X.K g v u H Q := by
  cases e : g p q with
  | none => rw [e] at h; exact h.elim
  | some r => rw [e] at h; exact ⟨_, p, q, r, rl.trN, hp, hq, e, fun w H' gr hz => h.grown rl gr hz⟩
/-- two readings in a row, then an operation on their values -/
theorem two {g : D → D → Option D} {f : D → D → Store → R D} (hf : ∀ p q st, f p q st = R.of (g p q) st) {σ : L2.St} {H : Hp} {Q : VK} {ca L : List Addr} {env : Env} {st : Store} (R0 : Rel X.K XL ca L env st σ H)
    (h : Fin X W XL L env σ ca H (DV X.K) Q ((ev C a env st).bind fun p st1 => (ev C b env st1).bind fun q st2 => f p q st2)) : tOp (rOp X.K g) (tE X W C XL a) (tE X W C XL b) σ H Q := by
  refine ⟨ca, L, env, st, R0, (Fin.bind (rel := DV X.K) h).mono fun v H1 ⟨ca1, st1, p, R1, S1, hp, h1⟩ => ?_⟩
  refine ⟨ca1, L, env, st1, R1, (Fin.bind (rel := DV X.K) h1).mono fun u H2 ⟨ca2, st2, q, R2, S2, hq, h2⟩ => ?_⟩
  rw [hf] at h2
  exact R.of_fin R2 (hp.stepE S2) hq h2
theorem se_bin {op : Operator} {o : Op} (ho : OpR X (binaryOp op) (rOp X.K (op2 o))) (ha : SE X W C XL a x) (hb : SE X W C XL b y) : SE X W C XL (.bin o a b) (.BinOp x op y pos) := by
  refine PE.weak (pe_op ho ha hb) fun σ H Q ⟨ca, L, env, st, R0, h⟩ => ?_
  rw [ev] at h
  exact two (fun _ _ _ => rfl) R0 h
theorem se_cmp {op : CmpOp} {o : Op} (ho : OpR X (compareOp op) (rOp X.K (op2 o))) (ha : SE X W C XL a x) (hb : SE X W C XL b y) (hm : behindInMarks op y = false) : SE X W C XL (.bin o a b) (.Compare x [op] [y] pos) := by
  refine PE.weak (pe_cmpR ho ha hb hm) fun σ H Q ⟨ca, L, env, st, R0, h⟩ => ?_
  rw [ev] at h
  exact two (fun _ _ _ => rfl) R0 h
/-- the operations that give truth values -/
def isCmp : Op → Bool
  | .add => false | .sub => false | .mul => false | .mod => false | .fdiv => false | .pow => false | _ => true
theorem inD_bool {n : Bool} {p q r : D} (h : inD n p q = some r) : ∃ k, r = .bool k := by
  unfold inD at h
  split at h
  · exact ⟨_, (ifs_some h).2.symm⟩
  · exact ⟨_, (ifs_some h).2.symm⟩
  · split at h
    · exact ⟨_, (Option.some.inj h).symm⟩
    · cases h
  · split at h
    · exact ⟨_, (ifs_some h).2.symm⟩
    · cases h
  · cases h
theorem cmpD_bool {f : Int → Int → Bool} {p q r : D} (h : cmpD f p q = some r) : ∃ k, r = .bool k := by
  unfold cmpD at h
  split at h
  · exact ⟨_, (Option.some.inj h).symm⟩
  · cases h
theorem isD_bool {n : Bool} {p q r : D} (h : isD n p q = some r) : ∃ k, r = .bool k := by
  unfold isD at h
  split at h
  · exact ⟨_, (Option.some.inj h).symm⟩
  · cases h
theorem op2_bool {o : Op} (ho : isCmp o = true) {p q r : D} (h : op2 o p q = some r) : ∃ k, r = .bool k := by
  cases o with
  | eq => exact ⟨_, (ifs_some h).2.symm⟩
  | ne => exact ⟨_, (ifs_some h).2.symm⟩
  | lt => exact cmpD_bool h
  | le => exact cmpD_bool h
  | gt => exact cmpD_bool h
  | ge => exact cmpD_bool h
  | isin => exact inD_bool h
  | notin => exact inD_bool h
  | isn => exact isD_bool h
  | notn => exact isD_bool h
  | _ => cases ho
theorem DV.boolV {K : PySem.W.Frag} {N : List Addr} {H : Hp} {k : Bool} {v : V} (h : DV K N H (.bool k) v) : v = .bl k := by cases h; rfl
theorem DV.intV {K : PySem.W.Frag} {N : List Addr} {H : Hp} {k : Int} {v : V} (h : DV K N H (.int k) v) : v = .int k := by cases h; rfl
theorem R.of_finT {L ca : List Addr} {env : Env} {st : Store} {σ : L2.St} {H : Hp} {Q : Bool → Hp → Prop} {o : Op} (ho : isCmp o = true) {p q : D} {v u : V} (rl : Rel X.K XL ca L env st σ H) (hp : DV X.K (own XL L ca) H p v) (hq : DV X.K (own XL L ca) H q u)
    (h : Fin X W XL L env σ ca H eqR Q (tr1 (R.of (op2 o p q) st))) : rOp X.K (op2 o) v u H (fun w H' => ∃ k, w = .bl k ∧ Q k H') := by
  cases e : op2 o p q with
  | none => rw [e] at h; exact h.elim
  | some r =>
    rw [e] at h
    obtain ⟨k, rfl⟩ := op2_bool ho e
    exact ⟨_, p, q, _, rl.trN, hp, hq, e, fun w H' gr hz => ⟨k, hz.boolV, Fin.grown h rl gr rfl⟩⟩
theorem tr1_bind {m : R D} {f : D → Store → R D} : tr1 (m.bind f) = m.bind fun p st => tr1 (f p st) := by
  cases m <;> rfl
theorem st_cmp {op : CmpOp} {o : Op} (hc : isCmp o = true) (ho : OpR X (compareOp op) (rOp X.K (op2 o))) (ha : SE X W C XL a x) (hb : SE X W C XL b y) (hm : behindInMarks op y = false) : ST X W C XL (.bin o a b) (.Compare x [op] [y] pos) := by
  refine PT.weak (pt_cmpR ho ha hb hm) fun σ H Q ⟨ca, L, env, st, R0, h⟩ => ?_
  rw [ev, tr1_bind] at h
  refine ⟨ca, L, env, st, R0, (Fin.bind (rel := DV X.K) h).mono fun v H1 ⟨ca1, st1, p, R1, S1, hp, h1⟩ => ?_⟩
  rw [tr1_bind] at h1
  refine ⟨ca1, L, env, st1, R1, (Fin.bind (rel := DV X.K) h1).mono fun u H2 ⟨ca2, st2, q, R2, S2, hq, h2⟩ => ?_⟩
  exact R.of_finT hc R2 (hp.stepE S2) hq h2
/-- a test of any expression whose test is its value's truth -/
theorem st_val (ha : SE X W C XL a x) (he : ∀ whole, isTrue x X.env whole = (do let v ← whole; standAt x.pos; holding [v] (truthy v))) : ST X W C XL a x := by
  refine PT.weak (pt_truth ha he) fun σ H Q ⟨ca, L, env, st, R0, h⟩ => ?_
  refine ⟨ca, L, env, st, R0, (Fin.bind (rel := DV X.K) h).mono fun v H1 ⟨ca1, st1, p, R1, S1, hp, h1⟩ => ?_⟩
  exact ⟨_, hp.tru, h1.ok R1 rfl⟩

/-! ### names, constants -/
theorem se_c {p : D} {v : V} (hx : PE X x (tC v)) (hp : ∀ N H, DV X.K N H p v) : SE X W C XL (.c p) x := by
  refine PE.weak hx fun σ H Q ⟨ca, L, env, st, R0, h⟩ => ?_
  rw [ev] at h
  exact h.ok R0 (hp _ _)
theorem EnvR.get {K : PySem.W.Frag} {N ca : List Addr} {H : Hp} : ∀ {env : Env} {σ : L2.St} {L : List Addr} {i : Nat} {s : Slot}, EnvR K N ca H env σ L → env.get i = s → (∀ o, s ≠ .un → σ[i]? = some o → ∃ l, SlR K N ca H s o l ∧ ∀ a ∈ l, a ∈ L) ∧ (s ≠ .un → ∃ o, σ[i]? = some o)
  | _, _, _, i, s, .nil, e => by
    have : s = .un := by rw [← e]; simp [Env.get]
    exact ⟨fun _ n => absurd this n, fun n => absurd this n⟩
  | _, _, _, 0, s, .cons h t, e => by
    have : s = _ := e.symm
    subst this
    exact ⟨fun o _ q => by
      simp at q
      subst q
      exact ⟨_, h, fun a m => List.mem_append_left _ m⟩, fun _ => ⟨_, rfl⟩⟩
  | _, _, _, i + 1, s, .cons h t, e => by
    obtain ⟨h1, h2⟩ := EnvR.get (i := i) (s := s) t (by rw [← e]; simp [Env.get])
    exact ⟨fun o n q => by
      obtain ⟨l, a1, a2⟩ := h1 o n (by simpa using q)
      exact ⟨l, a1, fun a m => List.mem_append_right _ (a2 a m)⟩, fun n => by simpa using h2 n⟩
theorem Rel.slot {K : PySem.W.Frag} {XL ca L : List Addr} {env : Env} {st : Store} {σ : L2.St} {H : Hp} (r : Rel K XL ca L env st σ H) {i : Nat} {s : Slot} (e : env.get i = s) (n : s ≠ .un) : ∃ o l, σ[i]? = some o ∧ SlR K (own XL L ca) ca H s o l ∧ ∀ a ∈ l, a ∈ L := by
  obtain ⟨h1, h2⟩ := r.env.get e
  obtain ⟨o, ho⟩ := h2 n
  obtain ⟨l, h3, h4⟩ := h1 o n ho
  exact ⟨o, l, ho, h3, h4⟩
theorem se_v {i : Nat} {nm : Str} (hN : X.N[i]? = some nm) (hv : Vis X.env.scope nm) (hd : (nm == ("__debug__" : Str)) = false) (hcd : (nm == ("__classdict__" : Str)) = false) : SE X W C XL (.v i) (.Name nm pos) := by
  refine PE.weak (pe_var hN hv hd hcd) fun σ H Q ⟨ca, L, env, st, R0, h⟩ => ?_
  rw [ev] at h
  split at h
  · rename_i p e
    obtain ⟨o, l, ho, hs, _⟩ := R0.slot e (fun z => by cases z)
    cases hs with
    | val hv => exact ⟨_, ho, h.ok R0 hv⟩
  · exact h.elim
theorem se_g {nm : Str} {p : D} {v : V} {u : Value} (hg : Gl X nm) (hm : X.mg nm = some u) (r : RelV v u) (hp : ∀ N H, DV X.K N H p v) (hd : (nm == ("__debug__" : Str)) = false) : SE X W C XL (.g nm p) (.Name nm pos) := by
  refine PE.weak (pe_glob hg hm r hd) fun σ H Q ⟨ca, L, env, st, R0, h⟩ => ?_
  rw [ev] at h
  exact h.ok R0 (hp _ _)

/-! ### not, and, or, if -/
theorem st_nt (ha : ST X W C XL a x) : ST X W C XL (.nt a) (.UnaryOp .Not x pos) := by
  refine PT.weak (pt_not ha) fun σ H Q ⟨ca, L, env, st, R0, h⟩ => ?_
  refine ⟨ca, L, env, st, R0, ?_⟩
  rw [ev, tr1_bind] at h
  cases e : ev C a env st with
  | ok p st1 => rw [e] at h; exact fun ca' b H' R S q => h ca' (!b) H' R S (by rw [← q]; rfl)
  | exc z st1 => rw [e] at h; exact h
  | stuck => rw [e] at h; exact h
theorem se_nt (ha : SE X W C XL a x) : SE X W C XL (.nt a) (.UnaryOp .Not x pos) := by
  refine PE.weak (pe_notT ha) fun σ H Q ⟨ca, L, env, st, R0, h⟩ => ?_
  rw [ev] at h
  exact ⟨ca, L, env, st, R0, (Fin.bind (rel := DV X.K) h).mono fun v H1 ⟨ca1, st1, p, R1, S1, hp, h1⟩ => ⟨_, hp.tru, h1.ok R1 (.bl _)⟩⟩
theorem se_neg (ha : SE X W C XL a x) : SE X W C XL (.neg a) (.UnaryOp .USub x pos) := by
  refine PE.weak (pe_un un_neg ha) fun σ H Q ⟨ca, L, env, st, R0, h⟩ => ?_
  rw [ev] at h
  refine ⟨ca, L, env, st, R0, (Fin.bind (rel := DV X.K) h).mono fun v H1 ⟨ca1, st1, p, R1, S1, hp, h1⟩ => ?_⟩
  split at h1
  · cases hp
    exact ⟨_, rfl, h1.ok R1 (.int _)⟩
  · exact h1.elim
theorem se_ife {t : E} {w : Expr} (ht : ST X W C XL t w) (ha : SE X W C XL a x) (hb : SE X W C XL b y) : SE X W C XL (.ife t a b) (.IfExp w x y pos) := by
  refine PE.weak (pe_ifExp ht ha hb) fun σ H Q ⟨ca, L, env, st, R0, h⟩ => ?_
  have h' : Fin X W XL L env σ ca H (DV X.K) Q ((tr1 (ev C t env st)).bind fun k st1 => match k with
    | true => ev C a env st1
    | false => ev C b env st1) := by
    rw [ev] at h
    cases e : ev C t env st <;> rw [e] at h <;> exact h
  refine ⟨ca, L, env, st, R0, (Fin.bind (rel := eqR) h').mono fun k H1 ⟨ca1, st1, k', R1, S1, hk, h1⟩ => ?_⟩
  cases hk
  cases k with
  | true => exact ⟨ca1, L, env, st1, R1, h1⟩
  | false => exact ⟨ca1, L, env, st1, R1, h1⟩
theorem st_ife {t : E} {w : Expr} (he : SE X W C XL (.ife t a b) (.IfExp w x y pos)) (ht : ST X W C XL t w) (ha : ST X W C XL a x) (hb : ST X W C XL b y) : ST X W C XL (.ife t a b) (.IfExp w x y pos) := by
  refine ⟨fun pins s σ H Q I ⟨ca, L, env, st, R0, h⟩ => ?_⟩
  have h' : Fin X W XL L env σ ca H eqR Q ((tr1 (ev C t env st)).bind fun k st1 => match k with
    | true => tr1 (ev C a env st1)
    | false => tr1 (ev C b env st1)) := by
    rw [ev, tr1_bind] at h
    cases e : ev C t env st with
    | ok p st1 =>
      rw [e] at h
      show Fin X W XL L env σ ca H eqR Q (match truthD p with
        | true => tr1 (ev C a env st1)
        | false => tr1 (ev C b env st1))
      cases e2 : truthD p with
      | true =>
        have h2 : Fin X W XL L env σ ca H eqR Q (tr1 (match truthD p with
          | true => ev C a env st1
          | false => ev C b env st1)) := h
        rw [e2] at h2
        exact h2
      | false =>
        have h2 : Fin X W XL L env σ ca H eqR Q (tr1 (match truthD p with
          | true => ev C a env st1
          | false => ev C b env st1)) := h
        rw [e2] at h2
        exact h2
    | exc _ _ => rw [e] at h; exact h
    | stuck => rw [e] at h; exact h
  rw [PySem.isTrue]
  have q : tT X W C XL t σ H (fun k H1 => match k with
    | true => tT X W C XL a σ H1 Q
    | false => tT X W C XL b σ H1 Q) := by
    refine ⟨ca, L, env, st, R0, (Fin.bind (rel := eqR) h').mono fun k H1 ⟨ca1, st1, k', R1, S1, hk, h1⟩ => ?_⟩
    cases hk
    cases k with
    | true => exact ⟨ca1, L, env, st1, R1, h1⟩
    | false => exact ⟨ca1, L, env, st1, R1, h1⟩
  refine wpAny_bind (thn (ht.run pins s σ H _ I q) fun k s1 ⟨H1, I1, q1⟩ => ?_)
  cases k with
  | true => exact ha.run pins s1 σ H1 Q I1 q1
  | false => exact hb.run pins s1 σ H1 Q I1 q1
theorem se_and1 {op : BoolOp} (ha : SE X W C XL a x) : SE X W C XL (.band (.cons a .nil)) (.BoolOp op [x] pos) := by
  refine PE.weak (pe_one ha) fun σ H Q ⟨ca, L, env, st, R0, h⟩ => ?_
  rw [ev, evAnd] at h
  exact ⟨ca, L, env, st, R0, h⟩
theorem se_and {r : EL} {rest : List Expr} {e2 : E} (hr : r = .cons e2 s2) (ha : SE X W C XL a x) (hb : SE X W C XL (.band r) (.BoolOp .And (y :: rest) pos)) : SE X W C XL (.band (.cons a r)) (.BoolOp .And (x :: y :: rest) pos) := by
  subst hr
  refine PE.weak (pe_andT ha hb) fun σ H Q ⟨ca, L, env, st, R0, h⟩ => ?_
  rw [ev, evAnd] at h
  · refine ⟨ca, L, env, st, R0, (Fin.bind (rel := DV X.K) h).mono fun v H1 ⟨ca1, st1, p, R1, S1, hp, h1⟩ => ⟨_, hp.tru, ?_⟩⟩
    cases e : truthD p with
    | true =>
      rw [e] at h1
      exact ⟨ca1, L, env, st1, R1, by rw [ev]; exact h1⟩
    | false =>
      rw [e] at h1
      exact h1.ok R1 hp
  · exact fun z => by cases z
theorem se_or1 {op : BoolOp} (ha : SE X W C XL a x) : SE X W C XL (.bor (.cons a .nil)) (.BoolOp op [x] pos) := by
  refine PE.weak (pe_one ha) fun σ H Q ⟨ca, L, env, st, R0, h⟩ => ?_
  rw [ev, evOr] at h
  exact ⟨ca, L, env, st, R0, h⟩
theorem se_or {r : EL} {rest : List Expr} {e2 : E} (hr : r = .cons e2 s2) (ha : SE X W C XL a x) (hb : SE X W C XL (.bor r) (.BoolOp .Or (y :: rest) pos)) : SE X W C XL (.bor (.cons a r)) (.BoolOp .Or (x :: y :: rest) pos) := by
  subst hr
  refine PE.weak (pe_orT ha hb) fun σ H Q ⟨ca, L, env, st, R0, h⟩ => ?_
  rw [ev, evOr] at h
  · refine ⟨ca, L, env, st, R0, (Fin.bind (rel := DV X.K) h).mono fun v H1 ⟨ca1, st1, p, R1, S1, hp, h1⟩ => ⟨_, hp.tru, ?_⟩⟩
    cases e : truthD p with
    | true =>
      rw [e] at h1
      exact h1.ok R1 hp
    | false =>
      rw [e] at h1
      exact ⟨ca1, L, env, st1, R1, by rw [ev]; exact h1⟩
  · exact fun z => by cases z
theorem sw_and1 (ha : ST X W C XL a x) : PW X (.BoolOp .And [x] pos) (tT X W C XL (.band (.cons a .nil))) := by
  refine ⟨fun wh pins s σ H Q I ⟨ca, L, env, st, R0, h⟩ => (pw_and1 ha).run wh pins s σ H Q I ?_⟩
  rw [ev, evAnd] at h
  exact ⟨ca, L, env, st, R0, h⟩
theorem sw_or1 (ha : ST X W C XL a x) : PW X (.BoolOp .Or [x] pos) (tT X W C XL (.bor (.cons a .nil))) := by
  refine ⟨fun wh pins s σ H Q I ⟨ca, L, env, st, R0, h⟩ => (pw_or1 ha).run wh pins s σ H Q I ?_⟩
  rw [ev, evOr] at h
  exact ⟨ca, L, env, st, R0, h⟩
theorem sw_and {r : EL} {rest : List Expr} {e2 : E} {s2 : EL} (hr : r = .cons e2 s2) (ha : ST X W C XL a x) (hb : PW X (.BoolOp .And (y :: rest) pos) (tT X W C XL (.band r))) :
    PW X (.BoolOp .And (x :: y :: rest) pos) (tT X W C XL (.band (.cons a r))) := by
  subst hr
  refine ⟨fun wh pins s σ H Q I ⟨ca, L, env, st, R0, h⟩ => (pw_and ha hb).run wh pins s σ H Q I ?_⟩
  rw [ev, evAnd, tr1_bind] at h
  · have h' : Fin X W XL L env σ ca H eqR Q ((tr1 (ev C a env st)).bind fun k st1 => match k with
      | true => tr1 (evAnd C (.cons e2 s2) env st1)
      | false => .ok false st1) := by
      cases e : ev C a env st with
      | ok p st1 =>
        rw [e] at h
        show Fin X W XL L env σ ca H eqR Q (match truthD p with
          | true => tr1 (evAnd C (.cons e2 s2) env st1)
          | false => .ok false st1)
        have h2 : Fin X W XL L env σ ca H eqR Q (tr1 (match truthD p with
          | true => evAnd C (.cons e2 s2) env st1
          | false => .ok p st1)) := h
        cases e2 : truthD p with
        | true => rw [e2] at h2; exact h2
        | false =>
          rw [e2] at h2
          have h3 : Fin X W XL L env σ ca H eqR Q (.ok (truthD p) st1) := h2
          rw [e2] at h3
          exact h3
      | exc _ _ => rw [e] at h; exact h
      | stuck => rw [e] at h; exact h
    refine ⟨ca, L, env, st, R0, (Fin.bind (rel := eqR) h').mono fun k H1 ⟨ca1, st1, k', R1, S1, hk, h1⟩ => ?_⟩
    cases hk
    cases k with
    | true => exact ⟨ca1, L, env, st1, R1, by rw [ev]; exact h1⟩
    | false => exact h1.ok R1 rfl
  · exact fun z => by cases z
theorem sw_or {r : EL} {rest : List Expr} {e2 : E} {s2 : EL} (hr : r = .cons e2 s2) (ha : ST X W C XL a x) (hb : PW X (.BoolOp .Or (y :: rest) pos) (tT X W C XL (.bor r))) :
    PW X (.BoolOp .Or (x :: y :: rest) pos) (tT X W C XL (.bor (.cons a r))) := by
  subst hr
  refine ⟨fun wh pins s σ H Q I ⟨ca, L, env, st, R0, h⟩ => (pw_or ha hb).run wh pins s σ H Q I ?_⟩
  rw [ev, evOr, tr1_bind] at h
  · have h' : Fin X W XL L env σ ca H eqR Q ((tr1 (ev C a env st)).bind fun k st1 => match k with
      | true => .ok true st1
      | false => tr1 (evOr C (.cons e2 s2) env st1)) := by
      cases e : ev C a env st with
      | ok p st1 =>
        rw [e] at h
        show Fin X W XL L env σ ca H eqR Q (match truthD p with
          | true => .ok true st1
          | false => tr1 (evOr C (.cons e2 s2) env st1))
        have h2 : Fin X W XL L env σ ca H eqR Q (tr1 (match truthD p with
          | true => .ok p st1
          | false => evOr C (.cons e2 s2) env st1)) := h
        cases e2 : truthD p with
        | false => rw [e2] at h2; exact h2
        | true =>
          rw [e2] at h2
          have h3 : Fin X W XL L env σ ca H eqR Q (.ok (truthD p) st1) := h2
          rw [e2] at h3
          exact h3
      | exc _ _ => rw [e] at h; exact h
      | stuck => rw [e] at h; exact h
    refine ⟨ca, L, env, st, R0, (Fin.bind (rel := eqR) h').mono fun k H1 ⟨ca1, st1, k', R1, S1, hk, h1⟩ => ?_⟩
    cases hk
    cases k with
    | true => exact h1.ok R1 rfl
    | false => exact ⟨ca1, L, env, st1, R1, by rw [ev]; exact h1⟩
  · exact fun z => by cases z
end
end IP
namespace IP
open PySem PySem.Spec L2
open PyProof.Rows hiding St
section
variable {X : Cx} {W : WX} {C : CallF} {XL : List Addr} {a b c : E} {x y z : Expr} {pos : Pos}
/-! ### lists of expressions, displays -/
theorem ses_nil : SEs X W C XL .nil [] := by
  refine PA.weak pa_nil fun σ H Q ⟨ca, L, env, st, R0, h⟩ => ?_
  rw [evs] at h
  exact h.ok R0 .nil
theorem ses_cons {r : EL} {xs : List Expr} (ha : SE X W C XL a x) (hr : SEs X W C XL r xs) (hs : starEach (x :: xs) X.env = (false, eval x X.env) :: starEach xs X.env) : SEs X W C XL (.cons a r) (x :: xs) := by
  refine PA.weak (pa_cons ha hr hs) fun σ H Q ⟨ca, L, env, st, R0, h⟩ => ?_
  rw [evs] at h
  refine ⟨ca, L, env, st, R0, (Fin.bind (rel := DV X.K) h).mono fun v H1 ⟨ca1, st1, p, R1, S1, hp, h1⟩ => ?_⟩
  refine ⟨ca1, L, env, st1, R1, (Fin.bind (rel := DVs X.K) h1).mono fun vs H2 ⟨ca2, st2, ps, R2, S2, hps, h2⟩ => ?_⟩
  exact h2.ok R2 (.cons (hp.stepE S2) hps)
theorem R.of_ok {α β : Type} {L ca : List Addr} {env : Env} {st : Store} {σ : L2.St} {H : Hp} {rel : List Addr → Hp → α → β → Prop} {Q : β → Hp → Prop} {o : Option α} (h : Fin X W XL L env σ ca H rel Q (R.of o st)) : ∃ z, o = some z ∧ Fin X W XL L env σ ca H rel Q (.ok z st) := by
  cases o with
  | none => exact h.elim
  | some z => exact ⟨z, rfl, h⟩
theorem se_tup {es : EL} {xs : List Expr} {k : Nat} (h : SEs X W C XL es xs) : SE X W C XL (.tup es) (.Tuple xs k pos) := by
  refine PE.weak (pe_tup h) fun σ H Q ⟨ca, L, env, st, R0, h⟩ => ?_
  rw [ev] at h
  refine ⟨ca, L, env, st, R0, (Fin.bind (rel := DVs X.K) h).mono fun vs H1 ⟨ca1, st1, ps, R1, S1, hp, h1⟩ => ?_⟩
  obtain ⟨d, e, h2⟩ := R.of_ok h1
  obtain ⟨e1, rfl⟩ := ifs_some e
  have hl := of_decide_eq_true e1
  exact ⟨by rw [← hp.length, line_eq]; exact hl, fun p np => h2.grown R1 (Grow.upd np) (DV.newTup R1.trN np hp)⟩
theorem se_lst {es : EL} {xs : List Expr} (h : SEs X W C XL es xs) : SE X W C XL (.lst es) (.List xs pos) := by
  refine PE.weak (pe_lst h) fun σ H Q ⟨ca, L, env, st, R0, h⟩ => ?_
  rw [ev] at h
  refine ⟨ca, L, env, st, R0, (Fin.bind (rel := DVs X.K) h).mono fun vs H1 ⟨ca1, st1, ps, R1, S1, hp, h1⟩ => ?_⟩
  obtain ⟨d, e, h2⟩ := R.of_ok h1
  obtain ⟨e1, rfl⟩ := ifs_some e
  have hl := of_decide_eq_true e1
  exact ⟨by rw [← hp.length, line_eq]; exact hl, fun p np => h2.grown R1 (Grow.upd np) (DV.newLst R1.trN np hp)⟩

/-! ### chains -/
theorem boolD_some {d : D} {k : Bool} (h : boolD d = some k) : d = .bool k := by
  unfold boolD at h
  split at h
  · cases h; rfl
  · cases h
theorem chain_rel {o1 o2 : Op} (hc : isCmp o1 = true) {σ : L2.St} {H : Hp} {Q : VK} {ca L : List Addr} {env : Env} {st : Store} (R0 : Rel X.K XL ca L env st σ H)
    (h : Fin X W XL L env σ ca H (DV X.K) Q (ev C (.chain o1 o2 a b c) env st)) : tChain (rOp X.K (op2 o1)) (rOp X.K (op2 o2)) (tE X W C XL a) (tE X W C XL b) (tE X W C XL c) σ H Q := by
  rw [ev] at h
  refine ⟨ca, L, env, st, R0, (Fin.bind (rel := DV X.K) h).mono fun v H1 ⟨ca1, st1, p, R1, S1, hp, h1⟩ => ?_⟩
  refine ⟨ca1, L, env, st1, R1, (Fin.bind (rel := DV X.K) h1).mono fun u H2 ⟨ca2, st2, q, R2, S2, hq, h2⟩ => ?_⟩
  have hp2 := hp.stepE S2
  cases e : op2 o1 p q with
  | none => rw [e] at h2; exact h2.elim
  | some r =>
    obtain ⟨k, rfl⟩ := op2_bool hc e
    rw [e] at h2
    refine ⟨_, p, q, _, R2.trN, hp2, hq, e, fun w H' gr hz => ⟨k, hz.boolV, ?_⟩⟩
    cases k with
    | true =>
      have h3 : Fin X W XL L env σ ca2 H2 (DV X.K) Q ((ev C c env st2).bind fun z st3 => R.of (op2 o2 q z) st3) := h2
      rw [if_pos rfl]
      refine ⟨ca2, L, env, st2, R2.grow gr, (Fin.bind (rel := DV X.K) (Fin.step (Step.grow gr) h3)).mono fun t H4 ⟨ca4, st4, z, R4, S4, hz4, h4⟩ => ?_⟩
      exact R.of_fin R4 ((hq.grow gr).stepE S4) hz4 h4
    | false =>
      have h3 : Fin X W XL L env σ ca2 H2 (DV X.K) Q (.ok (.bool false) st2) := h2
      rw [if_neg Bool.false_ne_true]
      exact h3.grown R2 gr (.bl _)
theorem se_chain {op1 op2' : CmpOp} {o1 o2 : Op} (hc : isCmp o1 = true) (h1 : OpR X (compareOp op1) (rOp X.K (op2 o1))) (h2 : OpR X (compareOp op2') (rOp X.K (op2 o2))) (ha : SE X W C XL a x) (hb : SE X W C XL b y) (hcc : SE X W C XL c z)
    (hm : lastMarks [op1, op2'] [y, z] = false) : SE X W C XL (.chain o1 o2 a b c) (.Compare x [op1, op2'] [y, z] pos) :=
  PE.weak (pe_chain h1 h2 ha hb hcc hm) fun σ H Q ⟨ca, L, env, st, R0, h⟩ => chain_rel hc R0 h
theorem st_chain {op1 op2' : CmpOp} {o1 o2 : Op} (hc : isCmp o1 = true) (hc2 : isCmp o2 = true) (h1 : OpR X (compareOp op1) (rOp X.K (op2 o1))) (h2 : OpR X (compareOp op2') (rOp X.K (op2 o2))) (ha : SE X W C XL a x) (hb : SE X W C XL b y) (hcc : SE X W C XL c z)
    (hm : lastMarks [op1, op2'] [y, z] = false) : ST X W C XL (.chain o1 o2 a b c) (.Compare x [op1, op2'] [y, z] pos) := by
  refine PT.weak (pt_chain h1 h2 ha hb hcc hm) fun σ H Q ⟨ca, L, env, st, R0, h⟩ => chain_rel hc R0 ?_
  have hb : ∀ d st', ev C (.chain o1 o2 a b c) env st = .ok d st' → ∃ k, d = .bool k := by
    intro d st' e
    rw [ev] at e
    cases e1 : ev C a env st with
    | ok p s1 =>
      rw [e1] at e
      have e : ((ev C b env s1).bind fun y st2 => (R.of ((op2 o1 p y).bind boolD) st2).bind fun k st2 => match k with
        | true => (ev C c env st2).bind fun z st3 => R.of (op2 o2 y z) st3
        | false => .ok (.bool false) st2) = .ok d st' := e
      cases e2 : ev C b env s1 with
      | ok q s2 =>
        rw [e2] at e
        have e : ((R.of ((op2 o1 p q).bind boolD) s2).bind fun k st2 => match k with
          | true => (ev C c env st2).bind fun z st3 => R.of (op2 o2 q z) st3
          | false => .ok (.bool false) st2) = .ok d st' := e
        cases e3 : (op2 o1 p q).bind boolD with
        | none => rw [e3] at e; cases e
        | some k =>
          rw [e3] at e
          cases k with
          | false => cases e; exact ⟨_, rfl⟩
          | true =>
            have e : ((ev C c env s2).bind fun z st3 => R.of (op2 o2 q z) st3) = .ok d st' := e
            cases e4 : ev C c env s2 with
            | ok z s3 =>
              rw [e4] at e
              have e : R.of (op2 o2 q z) s3 = .ok d st' := e
              cases e5 : op2 o2 q z with
              | none => rw [e5] at e; cases e
              | some r =>
                rw [e5] at e
                cases e
                exact op2_bool hc2 e5
            | exc _ _ => rw [e4] at e; cases e
            | stuck => rw [e4] at e; cases e
      | exc _ _ => rw [e2] at e; cases e
      | stuck => rw [e2] at e; cases e
    | exc _ _ => rw [e1] at e; cases e
    | stuck => rw [e1] at e; cases e
  cases e : ev C (.chain o1 o2 a b c) env st with
  | ok d st' =>
    obtain ⟨k, rfl⟩ := hb d st' e
    rw [e] at h
    exact fun ca' v H' R' S' hv => ⟨k, hv.boolV, h ca' k H' R' S' rfl⟩
  | exc _ _ => rw [e] at h; exact h
  | stuck => rw [e] at h; exact h

/-! ### items, slices -/
theorem se_idx (hu : X.A.units + 1 < cLine) (ha : SE X W C XL a x) (hb : SE X W C XL b y) (hs : PlainIx y) : SE X W C XL (.idx a b) (.Subscript x y pos) := by
  refine PE.weak (pe_ix (ix_I hu) ha hb hs) fun σ H Q ⟨ca, L, env, st, R0, h⟩ => ?_
  rw [ev] at h
  exact two (fun _ _ _ => rfl) R0 h
def tEo (X : Cx) (W : WX) (C : CallF) (XL : List Addr) (o : EO) : TO := fun σ H Q => ∃ ca L env st, Rel X.K XL ca L env st σ H ∧ Fin X W XL L env σ ca H eqR Q (evo C o env st)
abbrev SO (X : Cx) (W : WX) (C : CallF) (XL : List Addr) (o : EO) (x : Option Expr) : Prop := PO X x (tEo X W C XL o)
theorem so_no : SO X W C XL .no none := by
  refine ⟨fun pins s σ H Q I ⟨ca, L, env, st, R0, h⟩ => po_none.run pins s σ H Q I ?_⟩
  rw [evo] at h
  exact h.ok R0 rfl
theorem so_yes (ha : SE X W C XL a x) : SO X W C XL (.yes a) (some x) := by
  refine ⟨fun pins s σ H Q I ⟨ca, L, env, st, R0, h⟩ => (po_some ha).run pins s σ H Q I ?_⟩
  rw [evo] at h
  refine ⟨ca, L, env, st, R0, (Fin.bind (rel := DV X.K) h).mono fun v H1 ⟨ca1, st1, p, R1, S1, hp, h1⟩ => ?_⟩
  split at h1
  · exact ⟨_, hp.intV, h1.ok R1 rfl⟩
  · exact h1.elim
theorem cut_whole {ds : List D} {lo hi : Option Int} (h : HT.sIx ds.length 0 lo = 0 ∧ HT.sIx ds.length ds.length hi = ds.length) : cutD ds lo hi = ds := by
  unfold cutD
  rw [h.1, h.2]
  simp
theorem good_cut {s : Str} (g : strGood s) (lo hi : Option Int) : strGood (L2.cutS s lo hi) := by
  have hs : ((s.cps.toList.drop (HT.sIx s.length 0 lo)).take (HT.sIx s.length s.length hi - HT.sIx s.length 0 lo)).Sublist s.cps.toList := (List.take_sublist _ _).trans (List.drop_sublist _ _)
  refine ⟨Nat.le_trans ?_ g.1, ?_⟩
  · show (List.toArray _).size ≤ s.cps.size
    rw [List.size_toArray, ← Array.length_toList]
    exact hs.length_le
  · have h1 : s.cps.all (· < 0x110000) = true := g.2
    rw [← Array.all_toList] at h1
    show (List.toArray _).all (· < 0x110000) = true
    rw [← Array.all_toList]
    rw [List.all_eq_true] at h1 ⊢
    exact fun c m => h1 c (hs.subset m)
theorem se_slc {lo hi : EO} {l u : Option Expr} {p2 : Pos} (ha : SE X W C XL a x) (hl : SO X W C XL lo l) (hh : SO X W C XL hi u) : SE X W C XL (.slc a lo hi) (.Subscript x (.Slice l u none p2) pos) := by
  refine PE.weak (pe_slice (SlR.or (SlR.or sl_list sl_tupA) sl_str) ha hl hh) fun σ H Q ⟨ca, L, env, st, R0, h⟩ => ?_
  rw [ev] at h
  refine ⟨ca, L, env, st, R0, (Fin.bind (rel := DV X.K) h).mono fun v H1 ⟨ca1, st1, p, R1, S1, hp, h1⟩ => ?_⟩
  refine ⟨ca1, L, env, st1, R1, (Fin.bind (rel := eqR) h1).mono fun i H2 ⟨ca2, st2, i', R2, S2, hi2, h2⟩ => ?_⟩
  cases hi2
  refine ⟨ca2, L, env, st2, R2, (Fin.bind (rel := eqR) h2).mono fun j H3 ⟨ca3, st3, j', R3, S3, hj, h3⟩ => ?_⟩
  cases hj
  obtain ⟨d, e, h4⟩ := R.of_ok h3
  have hp3 := (hp.stepE S2).stepE S3
  unfold slcD at e
  split at e
  · cases e
    obtain ⟨q, vs, rfl, hq, nq, tq⟩ := hp3.lstS
    exact .inl <| .inl ⟨q, vs, rfl, .inl (.inl hq), fun p np => h4.grown R3 (Grow.upd np) (DV.newLst R3.trN np (tq.cut _ _))⟩
  · cases e
    have hp4 := hp3
    obtain ⟨q, vs, rfl, hq, tq⟩ := hp3.tupS
    refine .inl <| .inr ⟨q, vs, rfl, hq, fun hw => ?_, fun hw p np => h4.grown R3 (Grow.upd np) (DV.newTup R3.trN np (tq.cut _ _))⟩
    rw [cut_whole (by rw [tq.length]; exact hw)] at h4
    exact h4.ok R3 hp4
  · cases e
    cases hp3 with | str _ g =>
    exact .inr ⟨_, rfl, g.1, h4.ok R3 (.str _ (good_cut g _ _))⟩
  · cases e
end
end IP
namespace IP
open PySem PySem.Spec L2
open PyProof.Rows hiding St
/-- a built-in that takes one value -/
def rF1 (K : PySem.W.Frag) (g : D → Option D) : List V → Hp → VK → Prop := fun xs H Q => ∃ N p v z, xs = [v] ∧ Tr N H ∧ DV K N H p v ∧ g p = some z ∧ ∀ w H', Grow H H' → DV K N H' z w → Q w H'
section
variable {X : Cx} {W : WX} {C : CallF} {XL : List Addr} {a b c : E} {x y z : Expr} {pos p1 p2 : Pos} {N : List Addr} {H : Hp} {K : PySem.W.Frag}
theorem starOne {env : PySem.Env} (hs : ∀ xs, starEach (x :: xs) env = (false, eval x env) :: starEach xs env) : starEach [x] env = (false, eval x env) :: starEach [] env := hs []
/-! ### isinstance -/
def kindD : D → String
  | .none => "NoneType" | .bool _ => "bool" | .int _ => "int" | .str _ => "str" | .list _ => "list" | .tuple _ => "tuple" | .dict _ => "dict"
theorem DV.ty {p : D} {v : V} (h : DV K N H p v) : ∃ t : String, TyX K H v (.type t) ∧ t = kindD p := by
  cases h with
  | non => exact ⟨_, .base .non, rfl⟩
  | bl b => exact ⟨_, .base (.bl b), rfl⟩
  | int i => exact ⟨_, .base (.int i), rfl⟩
  | str x g => exact ⟨_, .base (.str x), rfl⟩
  | tup h _ t => exact ⟨_, .base (.tup h), rfl⟩
  | ktup h t =>
    obtain ⟨o, its, n, hk, hc, _⟩ := h
    exact ⟨_, .kTuple hk hc, rfl⟩
  | lst h _ t => exact ⟨_, .base (.lst h), rfl⟩
  | dct h _ t => exact ⟨_, .base (.dK h), rfl⟩
def tyName : Ty → String
  | .int => "int" | .str => "str" | .tuple => "tuple" | .bool => "bool" | .list => "list"
theorem kit_ans (K : PySem.W.Frag) (p : D) (t : Ty) : PySem.W.kitOne K (.type (kindD p)) (.type (tyName t)) = some (isiD p t) := by
  cases p <;> cases t <;> kernel_rfl
theorem se_isi {t : Ty} {nm : Str} (hn : X.mg "isinstance" = none) (hg : Gl X "isinstance") (hg2 : Gl X nm) (hm2 : X.mg nm = none) (hv2 : bootBuiltins nm = some (.type (tyName t))) (hn2 : nm ≠ "__name__") (hd2 : (nm == ("__debug__" : Str)) = false)
    (ha : SE X W C XL a x) (hs : ∀ xs, starEach (x :: xs) X.env = (false, eval x X.env) :: starEach xs X.env) :
    SE X W C XL (.isi a t) (.Call (.Name "isinstance" p1) [x, .Name nm p2] [] pos) := by
  have hb : PE X (.Name nm p2) (tC (.ty (tyName t))) := pe_bltn hg2 hm2 hv2 rfl hn2 hd2
  refine PE.weak (pe_callB call_isi hg hn boot_isinstance (pa_cons ha (pa_cons hb pa_nil rfl) (hs _)) (by decide) (by decide) (hs _) rfl) fun σ H Q ⟨ca, L, env, st, R0, h⟩ => ?_
  rw [ev] at h
  refine ⟨ca, L, env, st, R0, (Fin.bind (rel := DV X.K) h).mono fun v H1 ⟨ca1, st1, p, R1, S1, hp, h1⟩ => ?_⟩
  obtain ⟨tn, hty, rfl⟩ := hp.ty
  exact ⟨v, .ty (tyName t), _, _, _, rfl, .ty _, hty, kit_ans X.K p t, h1.ok R1 (.bl _)⟩
/-! ### built-ins of one value -/
theorem se_f1 {g : D → Option D} {f : F1} {id : String} {nm : Str} (hf : ∀ p, f1D f p = g p) (hc : CallR X (.builtin id) (rF1 X.K g)) (hg : Gl X nm) (hm : X.mg nm = none) (hv : bootBuiltins nm = some (.builtin id)) (hn : nm ≠ "__name__") (hd : (nm == ("__debug__" : Str)) = false)
    (ha : SE X W C XL a x) (hs : ∀ xs, starEach (x :: xs) X.env = (false, eval x X.env) :: starEach xs X.env) : SE X W C XL (.f1 f a) (.Call (.Name nm p1) [x] [] pos) := by
  refine PE.weak (pe_callB hc hg hm hv (pa_cons ha pa_nil (hs _)) hn hd (hs _) rfl) fun σ H Q ⟨ca, L, env, st, R0, h⟩ => ?_
  rw [ev] at h
  refine ⟨ca, L, env, st, R0, (Fin.bind (rel := DV X.K) h).mono fun v H1 ⟨ca1, st1, p, R1, S1, hp, h1⟩ => ?_⟩
  obtain ⟨d, e, h2⟩ := R.of_ok h1
  exact ⟨_, p, v, d, rfl, R1.trN, hp, by rw [← hf]; exact e, fun w H' gr hz => h2.grown R1 gr hz⟩
theorem se_f1T {g : D → Option D} {f : F1} {T : String} {nm : Str} (hf : ∀ p, f1D f p = g p) (hc : CallR X (.type T) (rF1 X.K g)) (hg : Gl X nm) (hm : X.mg nm = none) (hv : bootBuiltins nm = some (.type T)) (hn : nm ≠ "__name__") (hd : (nm == ("__debug__" : Str)) = false)
    (ha : SE X W C XL a x) (hs : ∀ xs, starEach (x :: xs) X.env = (false, eval x X.env) :: starEach xs X.env) : SE X W C XL (.f1 f a) (.Call (.Name nm p1) [x] [] pos) := by
  refine PE.weak (pe_callTy hc hg hm hv (pa_cons ha pa_nil (hs _)) hn hd (hs _) rfl) fun σ H Q ⟨ca, L, env, st, R0, h⟩ => ?_
  rw [ev] at h
  refine ⟨ca, L, env, st, R0, (Fin.bind (rel := DV X.K) h).mono fun v H1 ⟨ca1, st1, p, R1, S1, hp, h1⟩ => ?_⟩
  obtain ⟨d, e, h2⟩ := R.of_ok h1
  exact ⟨_, p, v, d, rfl, R1.trN, hp, by rw [← hf]; exact e, fun w H' gr hz => h2.grown R1 gr hz⟩
theorem c_len : CallR X (.builtin "len") (rF1 X.K (f1D .len)) := by
  intro pins s σ H xs us Q I r ⟨N, p, v, z, ex, t, hp, e, k⟩
  subst ex
  cases p with
  | list ds =>
    cases e
    obtain ⟨q, vs, rfl, hq, nq, tq⟩ := hp.lstS
    exact call_len_seq pins s σ H _ us Q I r ⟨q, vs, rfl, .inl (.inl (.inl hq)), k _ _ (Grow.refl H) (by rw [tq.length]; exact .int _)⟩
  | tuple ds =>
    cases e
    obtain ⟨q, vs, rfl, hq, tq⟩ := hp.tupS
    exact call_len_seq pins s σ H _ us Q I r ⟨q, vs, rfl, .inr hq, k _ _ (Grow.refl H) (by rw [tq.length]; exact .int _)⟩
  | str s0 =>
    cases e
    cases hp with | str _ g =>
    exact call_len_str pins s σ H _ us Q I r ⟨_, rfl, g.1, k _ _ (Grow.refl H) (.int _)⟩
  | dict ks =>
    obtain ⟨_, rfl⟩ := ifs_some (show ifs (keysOk ks) (PyData.int ks.length) = some z from e)
    obtain ⟨q, kvs, rfl, hq, nq, tq⟩ := hp.dctS
    have hl := tq.length
    exact call_lenD pins s σ H _ us Q I r ⟨q, kvs, rfl, hq, k _ _ (Grow.refl H) (by rw [hl]; exact .int _)⟩
  | _ => cases e
theorem c_list : CallR X (.type "list") (rF1 X.K (f1D .list)) := by
  intro pins s σ H xs us Q I r ⟨N, p, v, z, ex, t, hp, e, k⟩
  subst ex
  cases p with
  | list ds =>
    cases e
    obtain ⟨q, vs, rfl, hq, nq, tq⟩ := hp.lstS
    exact call_list_of pins s σ H _ us Q I r ⟨q, vs, rfl, .inl (.inl (.inl hq)), fun l nl => k _ _ (Grow.upd nl) (DV.newLst t nl tq)⟩
  | tuple ds =>
    cases e
    obtain ⟨q, vs, rfl, hq, tq⟩ := hp.tupS
    exact call_list_of pins s σ H _ us Q I r ⟨q, vs, rfl, .inr hq, fun l nl => k _ _ (Grow.upd nl) (DV.newLst t nl tq)⟩
  | _ => cases e
theorem c_tuple : CallR X (.type "tuple") (rF1 X.K (f1D .tuple)) := by
  intro pins s σ H xs us Q I r ⟨N, p, v, z, ex, t, hp, e, k⟩
  subst ex
  cases p with
  | list ds =>
    cases e
    obtain ⟨q, vs, rfl, hq, nq, tq⟩ := hp.lstS
    exact call_tuple_of pins s σ H _ us Q I r ⟨q, vs, rfl, .inl ⟨.inl (.inl hq), fun l nl => k _ _ (Grow.upd nl) (DV.newTup t nl tq)⟩⟩
  | tuple ds =>
    cases e
    have hp' := hp
    obtain ⟨q, vs, rfl, hq, tq⟩ := hp.tupS
    exact call_tuple_of pins s σ H _ us Q I r ⟨q, vs, rfl, .inr ⟨hq, k _ _ (Grow.refl H) hp'⟩⟩
  | _ => cases e
theorem sumD_ints : ∀ {ds : List D} {vs : List V} {n : Int}, DVs K N H ds vs → sumD ds = some n → ∃ ns : List Int, vs = ns.map V.int ∧ ns.sum = n
  | _, _, _, .nil, e => by
    have e : some (0 : Int) = some _ := e
    cases e
    exact ⟨[], rfl, rfl⟩
  | _, _, n, .cons (d := d) (ds := ds) h t, e => by
    cases d with
    | int i =>
      have e : (match sumD ds with
        | some s => some (i + s)
        | none => none) = some n := e
      cases e2 : sumD ds with
      | none => rw [e2] at e; cases e
      | some m =>
        rw [e2] at e
        cases e
        obtain ⟨ns, rfl, rfl⟩ := sumD_ints t e2
        cases h
        exact ⟨i :: ns, rfl, by rw [List.sum_cons]⟩
    | _ => cases e
theorem c_sum (hc : X.calm = true) : CallR X (.builtin "sum") (rF1 X.K (f1D .sum)) := by
  intro pins s σ H xs us Q I r ⟨N, p, v, z, ex, t, hp, e, k⟩
  subst ex
  cases p with
  | list ds =>
    have e : (match sumD ds with
      | some s => some (PyData.int s)
      | none => none) = some z := e
    cases e2 : sumD ds with
    | none => rw [e2] at e; cases e
    | some n =>
      rw [e2] at e
      cases e
      obtain ⟨q, vs, rfl, hq, nq, tq⟩ := hp.lstS
      obtain ⟨ns, rfl, rfl⟩ := sumD_ints tq e2
      exact cr_sum hc pins s σ H _ us Q I r ⟨q, ns, rfl, .inl (.inl hq), k _ _ (Grow.refl H) (.int _)⟩
  | _ => cases e
theorem c_int : CallR X (.type "int") (rF1 X.K (f1D .int)) := by
  intro pins s σ H xs us Q I r ⟨N, p, v, z, ex, t, hp, e, k⟩
  subst ex
  cases p with
  | int i =>
    cases e
    cases hp
    exact call_int1 pins s σ H _ us Q I r (.inl ⟨_, rfl, k _ _ (Grow.refl H) (.int _)⟩)
  | bool b =>
    cases e
    cases hp
    exact call_int1 pins s σ H _ us Q I r (.inr ⟨_, rfl, k _ _ (Grow.refl H) (.int _)⟩)
  | _ => cases e
/-! ### join -/
theorem strsD_map : ∀ {ds : List D} {vs : List V} {ss : List Str}, DVs K N H ds vs → strsD ds = some ss → vs = ss.map V.str ∧ ∀ s ∈ ss, strGood s
  | _, _, _, .nil, e => by
    have e : some ([] : List Str) = some _ := e
    cases e
    exact ⟨rfl, fun _ m => nomatch m⟩
  | _, _, ss, .cons (d := d) (ds := ds) h t, e => by
    cases d with
    | str i =>
      have e : (match strsD ds with
        | some s => some (i :: s)
        | none => none) = some ss := e
      cases e2 : strsD ds with
      | none => rw [e2] at e; cases e
      | some m =>
        rw [e2] at e
        cases e
        obtain ⟨rfl, g⟩ := strsD_map t e2
        cases h with | str _ gi =>
        exact ⟨rfl, fun s m => by
          rcases List.mem_cons.mp m with rfl | m
          · exact gi
          · exact g s m⟩
    | _ => cases e
theorem okapp {a b : Str} (ha : PyData.strOk a = true) (hb : PyData.strOk b = true) : PyData.strOk (a ++ b) = true := by
  have h1 : a.cps.all (· < 0x110000) = true := ha
  have h2 : b.cps.all (· < 0x110000) = true := hb
  show (a.cps ++ b.cps).all (· < 0x110000) = true
  rw [Array.all_append, h1, h2]; rfl
theorem lenapp {a b : Str} : (a ++ b).length = a.length + b.length := by
  show (a.cps ++ b.cps).size = a.cps.size + b.cps.size
  exact Array.size_append
theorem join_ok {g : Str} (hg : PyData.strOk g = true) : ∀ ss : List Str, (∀ s ∈ ss, PyData.strOk s = true) → PyData.strOk (Str.join g ss) = true ∧ (Str.join g ss).length ≤ (ss.map (·.length)).sum + ss.length * g.length
  | [], _ => ⟨by show (#[] : Array Nat).all (· < 0x110000) = true; simp, by show (#[] : Array Nat).size ≤ _; simp⟩
  | [s], h => ⟨h s List.mem_cons_self, by
    show s.length ≤ _
    simp⟩
  | s :: q :: r, h => by
    obtain ⟨i1, i2⟩ := join_ok hg (q :: r) fun z m => h z (List.mem_cons_of_mem _ m)
    have e : Str.join g (s :: q :: r) = s ++ g ++ Str.join g (q :: r) := rfl
    rw [e]
    refine ⟨okapp (okapp (h s List.mem_cons_self) hg) i1, ?_⟩
    rw [lenapp, lenapp]
    simp only [List.map_cons, List.sum_cons, List.length_cons, Nat.add_mul, Nat.one_mul] at i2 ⊢
    omega
theorem se_join {apos : Pos} (ha : SE X W C XL a x) (hb : SE X W C XL b y) (hs : starEach [y] X.env = [(false, eval y X.env)]) (hbase : attributeBase x "join" X.env (eval x X.env) = eval x X.env) (hline : (apos.endLine == pos.line) = true) :
    SE X W C XL (.join a b) (.Call (.Attribute x "join" apos) [y] [] pos) := by
  refine PE.weak (pe_join ha hb hs hbase hline) fun σ H Q ⟨ca, L, env, st, R0, h⟩ => ?_
  rw [ev] at h
  refine ⟨ca, L, env, st, R0, (Fin.bind (rel := DV X.K) h).mono fun v H1 ⟨ca1, st1, p, R1, S1, hp, h1⟩ => ?_⟩
  cases p with
  | str g =>
    cases hp with | str _ gg =>
    refine ⟨⟨_, rfl⟩, ca1, L, env, st1, R1, (Fin.bind (rel := DV X.K) h1).mono fun u H2 ⟨ca2, st2, q, R2, S2, hq, h2⟩ => ?_⟩
    cases q with
    | list ds =>
      have h2 : Fin X W XL L env σ ca2 H2 (DV X.K) Q (match strsD ds with
        | some ss => R.of (ifs (decide ((ss.map (·.length)).sum + ss.length * g.length ≤ LINE)) (.str (Str.join g ss))) st2
        | none => .stuck) := h2
      cases e2 : strsD ds with
      | none => rw [e2] at h2; exact h2.elim
      | some ss =>
        rw [e2] at h2
        obtain ⟨d, e, h3⟩ := R.of_ok h2
        obtain ⟨e1, rfl⟩ := ifs_some e
        have hl := of_decide_eq_true e1
        obtain ⟨q, vs, rfl, hq2, nq, tq⟩ := hq.lstS
        obtain ⟨rfl, gs⟩ := strsD_map tq e2
        obtain ⟨j1, j2⟩ := join_ok gg.2 ss fun s m => (gs s m).2
        refine ⟨g, q, ss, rfl, rfl, .inl (.inl (.inl hq2)), hl, ?_⟩
        rw [TL.join_eq]
        exact h3.ok R2 (.str _ ⟨by rw [line_eq]; omega, j1⟩)
    | _ => exact h2.elim
  | _ => exact h1.elim
end
end IP
namespace IP
open PySem PySem.Spec L2
open PyProof.Rows hiding St
/-! ### zip of a list and a tuple -/
/-- a list at a and a tuple at b, each turn as they stand; a new pair each time -/
def ItzM (K : PySem.W.Frag) (a b : Addr) : L2.It where
  go := fun i H => ∃ (vs ws : List V) (p q : V), SqL K H a vs ∧ SqT K H b ws ∧ vs[i]? = some p ∧ ws[i]? = some q
  yld := fun i H v H' => ∃ T p q, v = .ref T ∧ H T = none ∧ H' = upd H T (.tup [p, q]) ∧ (∀ vs, SqL K H a vs → vs[i]? = some p) ∧ ∀ ws, SqT K H b ws → ws[i]? = some q
  stop := fun i H => ∃ vs ws : List V, SqL K H a vs ∧ SqT K H b ws ∧ i = min vs.length ws.length
abbrev MixSt (z TI TO i1 i2 a b : Addr) (i : Nat) (h : Heap) : Prop := IsZip h z TI TO .none ∧ IsTupOf2 h TI (.ref i1) (.ref i2) ∧ (∃ p q, IsTupOf2 h TO p q) ∧ h.IsListIter i1 a i ∧ h.IsTupleIter i2 b i
theorem turn_zipM {P : Program} {w : World} {K : PySem.W.Frag} {elts : List Expr} {kk : Nat} {tpos : Pos} {a b z TI TO i1 i2 : Addr} (S : ZipSep2 z TI TO i1 i2 [i1, a] [i2, b]) (na : a ≠ i1) (nb : b ≠ i2) (n1 : i1 ≠ z) (n2 : i2 ≠ z) (n3 : i1 ≠ TI) (n4 : i2 ≠ TI) :
    Turn P w K (.Tuple elts kk tpos) (ItzM K a b) [z, TI, TO, i1, i2] z (MixSt z TI TO i1 i2 a b) := by
  have five : ∀ {c : Addr}, c ∈ [z, TI, TO, i1, i2] → c = z ∨ c = TI ∨ c = TO ∨ c = i1 ∨ c = i2 := fun h => by simpa using h
  refine ⟨by simp, fun i h st c hc => ?_, fun i h h' st k => ?_, ?_, ?_, fun A i s Q E st h => wpAny_pyIter_zip st.1 h⟩
  · obtain ⟨s1, s2, ⟨_, _, s3⟩, ⟨o1, e1, _, d1⟩, ⟨o2, e2, _, d2⟩⟩ := st
    rcases five hc with rfl | rfl | rfl | rfl | rfl
    · exact ⟨_, s1, fun _ q => nomatch q⟩
    · exact ⟨_, s2, fun _ q => nomatch q⟩
    · exact ⟨_, s3, fun _ q => nomatch q⟩
    · exact ⟨o1, e1, fun _ q => by rw [d1] at q; cases q⟩
    · exact ⟨o2, e2, fun _ q => by rw [d2] at q; cases q⟩
  · obtain ⟨s1, s2, ⟨p, q, s3⟩, s4, s5⟩ := st
    exact ⟨k z (by simp) _ s1, k TI (by simp) _ s2, ⟨p, q, k TO (by simp) _ s3⟩, s4.at (k i1 (by simp)), s5.at (k i2 (by simp))⟩
  · intro X hP hw hK hc i pins s σ H E I hf ⟨s1, s2, s3, s4, s5⟩ ⟨vs, ws, p, q, hvs, hws, hp, hq⟩
    subst hP hw hK
    obtain ⟨its, rv, pl, _⟩ := I.list hvs
    obtain ⟨its2, rw2, pt, _⟩ := I.tuple hws
    obtain ⟨u, hu, ru⟩ := rv.get hp
    obtain ⟨u2, hu2, ru2⟩ := rw2.get hq
    have hh : X.A.in1.handled = none := I.ok.hd hc
    have W := GoesN.zip2 (elts := elts) (x1 := kk) (pos := tpos) S (Draws.list (prog := X.prog) (w := X.w) hh i1 a na its.toArray) (Draws.tuple (prog := X.prog) (w := X.w) hh i2 b nb its2.toArray)
    have hi : i < min its.toArray.size its2.toArray.size := by
      have e1 := (List.getElem?_eq_some_iff.mp hu).1
      have e2 := (List.getElem?_eq_some_iff.mp hu2).1
      simp only [List.size_toArray]
      omega
    refine W.goes i s (fun v s2 => ∃ x H', Inv X pins σ H' s2 ∧ RelV x v ∧ (ItzM X.K a b).yld i H x H' ∧ MixSt z TI TO i1 i2 a b (i + 1) s2.heap ∧ ∀ b ∈ [z, TI, TO, i1, i2], H' b = none) E hi
      ⟨s1, s2, s3, ⟨s4, pl.isList⟩, s5, pt⟩ fun v h' tk ⟨T, x, y, ev, hn, hx, hy, hT⟩ ⟨t1, t2, t3, ⟨t4, _⟩, t5, _⟩ keep _ => ?_
    subst ev
    have ex : x = u := by
      have := hx.symm.trans (show its.toArray[i]? = some u by simpa using hu)
      exact Option.some.inj this
    have ey : y = u2 := by
      have := hy.symm.trans (show its2.toArray[i]? = some u2 by simpa using hu2)
      exact Option.some.inj this
    subst ex ey
    obtain ⟨o, ho, hcl, hd⟩ := hT
    have new : ObjOk X.prog X.w (upd H T (.tup [p, q])) h' T (.tup [p, q]) := ⟨by show 2 ≤ sizeLine; decide, [x, y], .cons ru (.cons ru2 .nil), ⟨o, ho, hcl, hd⟩⟩
    have fresh : H T = none := I.hok.fresh hn
    refine ⟨.ref T, upd H T (.tup [p, q]), I.turnedNew (t' := tk) (ch := [z, TI, TO, i1, i2]) (fun c o hb e => keep c o (fun m => hb ?_) e) hf hn new, rfl,
      ⟨T, p, q, rfl, fresh, rfl, fun l hl => by rw [I.list_inj hl hvs]; exact hp, fun l hl => by rw [I.tuple_inj hl hws]; exact hq⟩, ⟨t1, t2, t3, t4, t5⟩, fun c hc => ?_⟩
    · simp only [List.mem_cons, List.not_mem_nil, or_false] at m ⊢
      rcases m with rfl | rfl | rfl | rfl <;> simp
    · have lt : c < s.heap.objs.size := by
        obtain ⟨_, _, g3⟩ := s3
        obtain ⟨_, g4, _⟩ := s4
        obtain ⟨_, g5, _⟩ := s5
        rcases five hc with rfl | rfl | rfl | rfl | rfl
        · exact Heap.lt_size s1
        · exact Heap.lt_size s2
        · exact Heap.lt_size g3
        · exact Heap.lt_size g4
        · exact Heap.lt_size g5
      rw [upd_ne (Nat.ne_of_lt (Nat.lt_of_lt_of_le lt hn))]
      exact (hf c hc).1
  · intro X hP hw hK hc i pins s σ H E I hf ⟨s1, s2, s3, s4, s5⟩ ⟨vs, ws, hvs, hws, hi⟩
    subst hP hw hK
    obtain ⟨its, rv, pl, _⟩ := I.list hvs
    obtain ⟨its2, rw2, pt, _⟩ := I.tuple hws
    have hh : X.A.in1.handled = none := I.ok.hd hc
    have W := GoesN.zip2 (elts := elts) (x1 := kk) (pos := tpos) S (Draws.list (prog := X.prog) (w := X.w) hh i1 a na its.toArray) (Draws.tuple (prog := X.prog) (w := X.w) hh i2 b nb its2.toArray)
    have e : i = min its.toArray.size its2.toArray.size := by
      rw [hi, rv.length, rw2.length]
      simp only [List.size_toArray]
    subst e
    exact W.stops s (fun s1 => Inv X pins σ H s1) E ⟨s1, s2, s3, ⟨s4, pl.isList⟩, s5, pt⟩ fun h' tk keep _ => I.turnedL (t' := tk) (ch := [z, TI, TO, i1, i2]) (fun c o hb e => keep c o (fun m => hb (by
      simp only [List.mem_cons, List.not_mem_nil, or_false] at m ⊢
      rcases m with rfl | rfl | rfl | rfl <;> simp)) e) hf
def iZipM (K : PySem.W.Frag) (ta : TA) : TI := fun σ H R => ta σ H fun vs H1 => ∃ a b xs ys, vs = [.ref a, .ref b] ∧ SqL K H1 a xs ∧ SqT K H1 b ys ∧ R (ItzM K a b) H1
theorem pi_zipM {X : Cx} {e e2 : Expr} {ta : TA} {p pos tpos : Pos} {elts : List Expr} {kk : Nat} (hg : Gl X "zip") (hm : X.mg "zip" = none) (ha : PA X [e, e2] ta)
    (hs : starEach [e, e2] X.env = (false, eval e X.env) :: starEach [e2] X.env) (hpl : (backTo pos (starEach [e2] X.env)).any (·.1) = false) : PI X (.Tuple elts kk tpos) (.Call (.Name "zip" p) [e, e2] [] pos) (iZipM X.K ta) := by
  refine ⟨fun pins s σ H R I h => Call_ (ld_blt I hg hm PyProof.Rows.boot_zip (PyProof.Rows.callWith_type1 (thn (ha.run pos pins s σ H _ I h) fun us s1 ⟨vs, H1, I1, r1, a, b, xs, ys, ev, hx, hy, hR⟩ => ?_) hs hpl))⟩
  subst ev
  cases r1 with
  | cons ra rr =>
    cases rr with
    | cons rb rr =>
      cases rr
      cases ra
      cases rb
      obtain ⟨its, rv, pl, _⟩ := I1.list hx
      obtain ⟨its2, rw2, pt, _⟩ := I1.tuple hy
      have la : a < s1.heap.objs.size := pl.lt
      have lb : b < s1.heap.objs.size := by
        obtain ⟨o, ho, _⟩ := id pt
        exact Heap.lt_size ho
      have lt : IsTup s1.heap b its2.toArray := pt
      generalize hN : s1.heap.objs.size = N at la lb
      have S : ZipSep2 (N + 4) (N + 2) (N + 3) N (N + 1) (N :: [a]) ((N + 1) :: [b]) := zip_sep2 (fun c m => by rw [List.mem_singleton.mp m]; exact la) (fun c m => by rw [List.mem_singleton.mp m]; exact lb)
      refine zip_begins2 (begins_list a its.toArray) (begins_tuple b its2.toArray) pl.isList pt fun h' g1 g2 g3 g4 g5 _ keep => ?_
      rw [hN] at g1 g2 g3 g4 g5
      rw [hN]
      refine wpAny_pyIter_zip g1 ⟨N + 4, [N + 4, N + 2, N + 3, N, N + 1], _, ItzM X.K a b, H1, rfl, I1.kept (t' := s1.toks) keep, turn_zipM S (Nat.ne_of_lt la) (Nat.ne_of_lt (Nat.lt_succ_of_lt lb)) (show (N : Nat) ≠ N + 4 by omega) (show (N + 1 : Nat) ≠ N + 4 by omega) (show (N : Nat) ≠ N + 2 by omega) (show (N + 1 : Nat) ≠ N + 2 by omega),
        ⟨g1, g2, ⟨_, _, g3⟩, ⟨_, g4, rfl, rfl⟩, ⟨_, g5, rfl, rfl⟩⟩, fun c hc => ?_, hR⟩
      have le : s1.heap.objs.size ≤ c := by
        rw [hN]
        simp only [List.mem_cons, List.not_mem_nil, or_false] at hc
        rcases hc with rfl | rfl | rfl | rfl | rfl
        · exact Nat.le_add_right _ _
        · exact Nat.le_add_right _ _
        · exact Nat.le_add_right _ _
        · exact Nat.le_refl _
        · exact Nat.le_add_right _ _
      have I2 : Inv X pins σ H1 { s1 with heap := h' } := I1.kept (t' := s1.toks) keep
      exact I1.fpOk le (I1.hok.fresh le)
end IP
namespace IP
open PySem PySem.Spec L2
open PyProof.Rows hiding St
/-- what is not written from one state to another -/
structure Kp (N : List Addr) (H : Hp) (N' : List Addr) (H' : Hp) : Prop where
  stay : ∀ a o, H a = some o → a ∉ N → H' a = some o
  out : ∀ a, (H a).isSome = true → a ∉ N → a ∉ N'
section
variable {K : PySem.W.Frag} {N N' N2 : List Addr} {H H' H2 : Hp}
theorem Kp.refl : Kp N H N H := ⟨fun _ _ h _ => h, fun _ _ h => h⟩
theorem Kp.dv {d : D} {v : V} (k : Kp N H N' H') (h : DV K N H d v) : DV K N' H' d v := h.keep k.stay k.out
theorem Kp.dvs {d : List D} {v : List V} (k : Kp N H N' H') (h : DVs K N H d v) : DVs K N' H' d v := h.keep k.stay k.out
theorem Kp.trans (k : Kp N H N' H') (j : Kp N' H' N2 H2) : Kp N H N2 H2 :=
  ⟨fun a o h n => j.stay a o (k.stay a o h n) (k.out a (by rw [h]; rfl) n), fun a h n => by
    cases e : H a with
    | none => rw [e] at h; cases h
    | some o => exact j.out a (by rw [k.stay a o e n]; rfl) (k.out a h n)⟩
theorem Kp.grow (g : Grow H H') : Kp N H N H' := ⟨fun a o h _ => g a o h, fun _ _ n => n⟩
theorem Step.kp {XL L ca L' ca' : List Addr} (s : Step L ca H L' ca' H') : Kp (own XL L ca) H (own XL L' ca') H' where
  stay := fun a o e n => s.stay a o e fun m => n (List.mem_append_right _ m)
  out := fun a e n m => by
    rcases List.mem_append.mp m with m | m
    · exact n (List.mem_append_left _ m)
    · rcases s.new a m with q | q
      · exact n (List.mem_append_right _ q)
      · rw [q] at e; cases e
/-- an iterator that gives xs, one a turn -/
structure ItR (K : PySem.W.Frag) (N : List Addr) (H : Hp) (xs : List D) (J : L2.It) : Prop where
  go : ∀ N' H' i, Kp N H N' H' → i < xs.length → J.go i H'
  stop : ∀ N' H' i, Kp N H N' H' → xs.length = i → J.stop i H'
  yld : ∀ N' H' i x H2, Kp N H N' H' → Tr N' H' → i < xs.length → J.yld i H' x H2 → ∃ d, xs[i]? = some d ∧ Grow H' H2 ∧ DV K N' H2 d x
theorem DV.lstK {ds : List D} {v : V} (h : DV K N H (.list ds) v) : ∃ a vs, v = .ref a ∧ SqL K H a vs ∧ DVs K N H ds vs ∧ ∀ N' H', Kp N H N' H' → H' a = some (.lst vs) := by
  obtain ⟨a, vs, rfl, ha, na, t⟩ := h.lstS
  exact ⟨a, vs, rfl, .inl (.inl ha), t, fun N' H' k => k.stay a _ ha na⟩
theorem DV.tupK {ds : List D} {v : V} (h : DV K N H (.tuple ds) v) : ∃ a vs, v = .ref a ∧ SqT K H a vs ∧ DVs K N H ds vs ∧ ∀ N' H', Kp N H N' H' → SqT K H' a vs := by
  cases h with
  | tup h n t => exact ⟨_, _, rfl, .inl (.inl h), t, fun N' H' k => .inl (.inl (k.stay _ _ h n))⟩
  | ktup h t => exact ⟨_, _, rfl, .inr h, t, fun N' H' k => .inr h⟩
theorem get_len {α β : Type} {xs : List α} {ys : List β} {i : Nat} {d : α} (e : xs[i]? = some d) (l : xs.length = ys.length) : ∃ w, ys[i]? = some w := by
  have h1 : i < xs.length := by
    rcases Nat.lt_or_ge i xs.length with h | h
    · exact h
    · rw [List.getElem?_eq_none h] at e; cases e
  exact ⟨ys[i]'(by omega), by rw [List.getElem?_eq_getElem (by omega)]⟩
theorem ItR.list {a : Addr} {ds : List D} {vs : List V} (t : DVs K N H ds vs) (s : ∀ N' H', Kp N H N' H' → H' a = some (.lst vs)) : ItR K N H ds (Itl K a) where
  go := fun N' H' i k hi => by
    have hi' : i < vs.length := by rw [← t.length]; exact hi
    exact ⟨vs, vs[i], .inl (.inl (s N' H' k)), by rw [List.getElem?_eq_getElem hi']⟩
  stop := fun N' H' i k hi0 => have hi := Nat.le_of_eq hi0; ⟨vs, .inl (.inl (s N' H' k)), by rw [← t.length]; exact hi⟩
  yld := fun N' H' i x H2 k tr hi ⟨e, q⟩ => by
    subst e
    obtain ⟨d, e, hd⟩ := t.getV (q vs (.inl (.inl (s N' _ k))))
    exact ⟨d, e, Grow.refl _, k.dv hd⟩
theorem ItR.tup {a : Addr} {ds : List D} {vs : List V} (t : DVs K N H ds vs) (s : ∀ N' H', Kp N H N' H' → SqT K H' a vs) : ItR K N H ds (Itt K a) where
  go := fun N' H' i k hi => by
    have hi' : i < vs.length := by rw [← t.length]; exact hi
    exact ⟨vs, vs[i], s N' H' k, by rw [List.getElem?_eq_getElem hi']⟩
  stop := fun N' H' i k hi0 => have hi := Nat.le_of_eq hi0; ⟨vs, s N' H' k, by rw [← t.length]; exact hi⟩
  yld := fun N' H' i x H2 k tr hi ⟨e, q⟩ => by
    subst e
    obtain ⟨d, e, hd⟩ := t.getV (q vs (s N' _ k))
    exact ⟨d, e, Grow.refl _, k.dv hd⟩
theorem rangeD_length (n : Nat) : ∀ lo : Int, (rangeD lo n).length = n := by
  induction n with
  | zero => intro lo; rfl
  | succ n ih => intro lo; show (rangeD (lo + 1) n).length + 1 = n + 1; rw [ih]
theorem rangeD_get (n : Nat) : ∀ (lo : Int) (i : Nat), i < n → (rangeD lo n)[i]? = some (.int (lo + i)) := by
  induction n with
  | zero => intro lo i h; omega
  | succ n ih =>
    intro lo i h
    cases i with
    | zero => simp [rangeD]
    | succ i =>
      show (rangeD (lo + 1) n)[i]? = _
      rw [ih (lo + 1) i (by omega)]
      congr 2
      push_cast
      omega
theorem ItR.range (lo : Int) (n : Nat) : ItR K N H (rangeD lo n) (Itr lo n) where
  go := fun N' H' i k hi => by
    rw [rangeD_length] at hi
    exact hi
  stop := fun N' H' i k hi0 => by
    have hi := Nat.le_of_eq hi0
    rw [rangeD_length] at hi
    exact hi
  yld := fun N' H' i x H2 k tr hi ⟨e, q⟩ => by
    rw [rangeD_length] at hi
    subst e
    subst q
    exact ⟨_, rangeD_get n lo i hi, Grow.refl _, .int _⟩
theorem strItems_get {s : Str} {i : Nat} (h : i < s.cps.size) : (s.cps.toList.map fun c => (PyData.str ⟨#[c]⟩ : D))[i]? = some (.str ⟨#[s.cps[i]]⟩) := by
  rw [List.getElem?_map, List.getElem?_eq_getElem (by simpa using h)]
  simp
theorem ItR.str {s : Str} (g : strGood s) : ItR K N H (s.cps.toList.map fun c => .str ⟨#[c]⟩) (Its s) where
  go := fun N' H' i k hi => by
    have hi' : i < s.cps.size := by simpa using hi
    exact hi'
  stop := fun N' H' i k hi0 => by
    have hi := Nat.le_of_eq hi0
    have hi' : s.cps.size ≤ i := by simpa using hi
    exact hi'
  yld := fun N' H' i x H2 k tr hi ⟨e, c, q, e2⟩ => by
    subst e
    subst e2
    have hi' : i < s.cps.size := by simpa using hi
    rw [Array.getElem?_eq_getElem hi'] at q
    cases q
    exact ⟨_, strItems_get hi', Grow.refl _, .str _ (good_one g (by simp))⟩
theorem enumD_length : ∀ (xs : List D) (n : Nat), (enumD n xs).length = xs.length
  | [], _ => rfl
  | _ :: r, n => congrArg (· + 1) (enumD_length r (n + 1))
theorem enumD_get : ∀ (xs : List D) (n i : Nat) (d : D), xs[i]? = some d → (enumD n xs)[i]? = some (.tuple [.int (n + i : Nat), d])
  | [], _, _, _, h => by simp at h
  | x :: r, n, 0, d, h => by
    simp at h
    subst h
    simp [enumD]
  | x :: r, n, i + 1, d, h => by
    show (enumD (n + 1) r)[i]? = _
    rw [enumD_get r (n + 1) i d (by simpa using h)]
    congr 5
    omega
theorem ItR.enum {a : Addr} {ds : List D} {vs : List V} (t : DVs K N H ds vs) (s : ∀ N' H', Kp N H N' H' → H' a = some (.lst vs)) : ItR K N H (enumD 0 ds) (Ite K a) where
  go := fun N' H' i k hi => by
    rw [enumD_length, t.length] at hi
    exact ⟨vs, vs[i], .inl (.inl (s N' H' k)), by rw [List.getElem?_eq_getElem hi]⟩
  stop := fun N' H' i k hi0 => have hi := Nat.le_of_eq hi0; ⟨vs, .inl (.inl (s N' H' k)), by rw [enumD_length, t.length] at hi; exact hi⟩
  yld := fun N' H' i x H2 k tr hi ⟨T, y, e1, hT, e2, q⟩ => by
    subst e1
    subst e2
    obtain ⟨d, e, hd⟩ := t.getV (q vs (.inl (.inl (s N' H' k))))
    exact ⟨_, enumD_get ds 0 i d e, Grow.upd hT, DV.newTup tr hT (.cons (by rw [Nat.zero_add]; exact .int _) (.cons (k.dv hd) .nil))⟩
theorem zipD_get : ∀ (xs ys : List D) (i : Nat) (d e : D), xs[i]? = some d → ys[i]? = some e → (zipD xs ys)[i]? = some (.tuple [d, e])
  | [], _, _, _, _, h, _ => by simp at h
  | _ :: _, [], _, _, _, _, h => by simp at h
  | x :: xs, y :: ys, 0, d, e, h1, h2 => by
    simp at h1 h2
    subst h1
    subst h2
    simp [zipD]
  | x :: xs, y :: ys, i + 1, d, e, h1, h2 => by
    show (zipD xs ys)[i]? = _
    exact zipD_get xs ys i d e (by simpa using h1) (by simpa using h2)
theorem zipD_length : ∀ xs ys : List D, (zipD xs ys).length = min xs.length ys.length
  | [], ys => by simp [zipD]
  | _ :: _, [] => by simp [zipD]
  | x :: xs, y :: ys => by
    show (zipD xs ys).length + 1 = _
    rw [zipD_length xs ys, List.length_cons, List.length_cons]
    omega
theorem ItR.zipL {a b : Addr} {ds es : List D} {vs ws : List V} (t : DVs K N H ds vs) (u : DVs K N H es ws) (s : ∀ N' H', Kp N H N' H' → H' a = some (.lst vs)) (s2 : ∀ N' H', Kp N H N' H' → H' b = some (.lst ws)) : ItR K N H (zipD ds es) (Itz K a b) where
  go := fun N' H' i k hi => by
    rw [zipD_length, t.length, u.length] at hi
    have h1 : i < vs.length := by omega
    have h2 : i < ws.length := by omega
    exact ⟨vs, ws, vs[i], ws[i], .inl (.inl (s N' H' k)), .inl (.inl (s2 N' H' k)), by rw [List.getElem?_eq_getElem h1], by rw [List.getElem?_eq_getElem h2]⟩
  stop := fun N' H' i k hi0 => have hi := Nat.le_of_eq hi0; ⟨vs, ws, .inl (.inl (s N' H' k)), .inl (.inl (s2 N' H' k)), by rw [zipD_length, t.length, u.length] at hi; omega⟩
  yld := fun N' H' i x H2 k tr hi ⟨T, y, z, e1, hT, e2, q1, q2⟩ => by
    subst e1
    subst e2
    obtain ⟨d, e, hd⟩ := t.getV (q1 vs (.inl (.inl (s N' H' k))))
    obtain ⟨d2, e2, hd2⟩ := u.getV (q2 ws (.inl (.inl (s2 N' H' k))))
    exact ⟨_, zipD_get ds es i d d2 e e2, Grow.upd hT, DV.newTup tr hT (.cons (k.dv hd) (.cons (k.dv hd2) .nil))⟩
theorem ItR.zipT {a b : Addr} {ds es : List D} {vs ws : List V} (t : DVs K N H ds vs) (u : DVs K N H es ws) (s : ∀ N' H', Kp N H N' H' → SqT K H' a vs) (s2 : ∀ N' H', Kp N H N' H' → SqT K H' b ws) : ItR K N H (zipD ds es) (RZ.ItzT K a b) where
  go := fun N' H' i k hi => by
    rw [zipD_length, t.length, u.length] at hi
    have h1 : i < vs.length := by omega
    have h2 : i < ws.length := by omega
    exact ⟨vs, ws, vs[i], ws[i], s N' H' k, s2 N' H' k, by rw [List.getElem?_eq_getElem h1], by rw [List.getElem?_eq_getElem h2]⟩
  stop := fun N' H' i k hi0 => have hi := Nat.le_of_eq hi0; ⟨vs, ws, s N' H' k, s2 N' H' k, by rw [zipD_length, t.length, u.length] at hi; omega⟩
  yld := fun N' H' i x H2 k tr hi ⟨T, y, z, e1, hT, e2, q1, q2⟩ => by
    subst e1
    subst e2
    obtain ⟨d, e, hd⟩ := t.getV (q1 vs (s N' H' k))
    obtain ⟨d2, e2, hd2⟩ := u.getV (q2 ws (s2 N' H' k))
    exact ⟨_, zipD_get ds es i d d2 e e2, Grow.upd hT, DV.newTup tr hT (.cons (k.dv hd) (.cons (k.dv hd2) .nil))⟩
end

/-! ### sources -/
section
variable (X : Cx) (W : WX) (C : CallF) (XL : List Addr)
def tI (it : It) : TI := fun σ H R => ∃ ca L env st, Rel X.K XL ca L env st σ H ∧ Fin X W XL L env σ ca H (ItR X.K) (fun J H1 => R J H1) (evi C it env st)
abbrev SI (it : It) (tg x : Expr) : Prop := PI X tg x (tI X W C XL it)
end
section
variable {X : Cx} {W : WX} {C : CallF} {XL : List Addr} {a b c : E} {x y z tg : Expr} {pos p1 p2 : Pos}
theorem fin_of {α β γ δ : Type} {L : List Addr} {env : Env} {σ : L2.St} {ca : List Addr} {H : Hp} {rel : List Addr → Hp → α → β → Prop} {rel2 : List Addr → Hp → γ → δ → Prop} {Q : β → Hp → Prop} {Q2 : δ → Hp → Prop} {r : R α} {r2 : R γ}
    (h : Fin X W XL L env σ ca H rel Q r) (ok : ∀ p st, r = .ok p st → Fin X W XL L env σ ca H rel2 Q2 r2) (e : ∀ z st, r = .exc z st → r2 = .exc z st) (k : r = .stuck → False) : Fin X W XL L env σ ca H rel2 Q2 r2 := by
  cases hr : r with
  | ok p st => exact ok p st hr
  | exc z st => rw [hr] at h; rw [e z st hr]; exact h
  | stuck => exact (k hr).elim
/-- what is walked is a value: a list, a tuple, a text -/
theorem si_e (ha : SE X W C XL a x) : SI X W C XL (.e a) tg x := by
  refine ⟨fun pins s σ H R I ⟨ca, L, env, st, R0, h⟩ => ?_⟩
  rw [evi] at h
  cases e : ev C a env st with
  | stuck => rw [e] at h; exact h.elim
  | exc z st1 =>
    rw [e] at h
    exact (pi_list (tg := tg) ha).run pins s σ H R I ⟨ca, L, env, st, R0, by rw [e]; exact h⟩
  | ok p st1 =>
    rw [e] at h
    have h : Fin X W XL L env σ ca H (ItR X.K) (fun J H1 => R J H1) (IP.R.of (itemsD p) st1) := h
    cases p with
    | list ds =>
      refine (pi_list (tg := tg) ha).run pins s σ H R I ⟨ca, L, env, st, R0, ?_⟩
      rw [e]
      intro ca' v H' R' S' hv
      obtain ⟨q, vs, rfl, hq, t, k⟩ := hv.lstK
      exact ⟨q, rfl, ⟨vs, hq⟩, h ca' (Itl X.K q) H' R' S' (ItR.list t k)⟩
    | tuple ds =>
      refine (pi_tup (tg := tg) ha).run pins s σ H R I ⟨ca, L, env, st, R0, ?_⟩
      rw [e]
      intro ca' v H' R' S' hv
      obtain ⟨q, vs, rfl, hq, t, k⟩ := hv.tupK
      exact ⟨q, rfl, ⟨vs, hq⟩, h ca' (Itt X.K q) H' R' S' (ItR.tup t k)⟩
    | str s0 =>
      refine (pi_str (tg := tg) ha).run pins s σ H R I ⟨ca, L, env, st, R0, ?_⟩
      rw [e]
      intro ca' v H' R' S' hv
      cases hv with | str _ g =>
      exact ⟨_, rfl, h ca' (Its _) H' R' S' (ItR.str g)⟩
    | _ => exact h.elim
theorem rngOk_ {i : Int} (h : rngOk i = true) : -(2 ^ 62) ≤ i ∧ i < 2 ^ 62 := by
  unfold rngOk at h
  rw [Bool.and_eq_true] at h
  exact ⟨of_decide_eq_true h.1, of_decide_eq_true h.2⟩
theorem si_range1 (hg : Gl X "range") (hm : X.mg "range" = none) (ha : SE X W C XL a x) (hs : ∀ xs, starEach (x :: xs) X.env = (false, eval x X.env) :: starEach xs X.env) : SI X W C XL (.range1 a) tg (.Call (.Name "range" p1) [x] [] pos) := by
  refine ⟨fun pins s σ H R I ⟨ca, L, env, st, R0, h⟩ => (pi_range1 (tg := tg) hg hm (pa_cons ha pa_nil (hs _)) (hs _)).run pins s σ H R I ?_⟩
  rw [evi] at h
  refine ⟨ca, L, env, st, R0, (Fin.bind (rel := DV X.K) h).mono fun v H1 ⟨ca1, st1, p, R1, S1, hp, h1⟩ => ?_⟩
  cases p with
  | int j =>
    obtain ⟨d, e, h2⟩ := IP.R.of_ok h1
    obtain ⟨e1, rfl⟩ := ifs_some e
    obtain ⟨b1, b2⟩ := rngOk_ e1
    cases hp
    exact ⟨j, rfl, b1, b2, h2.ok R1 (ItR.range 0 _)⟩
  | _ => exact h1.elim
theorem si_range2 (hg : Gl X "range") (hm : X.mg "range" = none) (ha : SE X W C XL a x) (hb : SE X W C XL b y) (hs : ∀ xs, starEach (x :: xs) X.env = (false, eval x X.env) :: starEach xs X.env) (hs2 : ∀ xs, starEach (y :: xs) X.env = (false, eval y X.env) :: starEach xs X.env) :
    SI X W C XL (.range2 a b) tg (.Call (.Name "range" p1) [x, y] [] pos) := by
  refine ⟨fun pins s σ H R I ⟨ca, L, env, st, R0, h⟩ => (pi_range2 (tg := tg) hg hm (pa_cons ha (pa_cons hb pa_nil (hs2 _)) (hs _)) (by rw [hs, hs2]; rfl) (by rw [hs2]; rfl)).run pins s σ H R I ?_⟩
  rw [evi] at h
  refine ⟨ca, L, env, st, R0, (Fin.bind (rel := DV X.K) h).mono fun v H1 ⟨ca1, st1, p, R1, S1, hp, h1⟩ => ?_⟩
  refine ⟨ca1, L, env, st1, R1, (Fin.bind (rel := DV X.K) h1).mono fun u H2 ⟨ca2, st2, q, R2, S2, hq, h2⟩ => ?_⟩
  cases p with
  | int i =>
    cases q with
    | int j =>
      obtain ⟨d, e, h3⟩ := IP.R.of_ok h2
      obtain ⟨e1, rfl⟩ := ifs_some e
      rw [Bool.and_eq_true] at e1
      obtain ⟨b1, b2⟩ := rngOk_ e1.1
      obtain ⟨b3, b4⟩ := rngOk_ e1.2
      cases hp
      cases hq
      exact ⟨i, j, rfl, ⟨b1, b2, b3, b4⟩, h3.ok R2 (ItR.range i _)⟩
    | _ => exact h2.elim
  | _ => exact h2.elim
theorem si_enum {elts : List Expr} {kk : Nat} {tpos : Pos} (hg : Gl X "enumerate") (hm : X.mg "enumerate" = none) (ha : SE X W C XL a x) (hs : ∀ xs, starEach (x :: xs) X.env = (false, eval x X.env) :: starEach xs X.env) :
    SI X W C XL (.enum a) (.Tuple elts kk tpos) (.Call (.Name "enumerate" p1) [x] [] pos) := by
  refine ⟨fun pins s σ H R I ⟨ca, L, env, st, R0, h⟩ => (pi_enum hg hm (pa_cons ha pa_nil (hs _)) (hs _)).run pins s σ H R I ?_⟩
  rw [evi] at h
  refine ⟨ca, L, env, st, R0, (Fin.bind (rel := DV X.K) h).mono fun v H1 ⟨ca1, st1, p, R1, S1, hp, h1⟩ => ?_⟩
  cases p with
  | list ds =>
    obtain ⟨q, vs, rfl, hq, t, k⟩ := hp.lstK
    exact ⟨q, vs, rfl, hq, h1.ok R1 (ItR.enum t k)⟩
  | _ => exact h1.elim
theorem ItR.zipM {K : PySem.W.Frag} {N : List Addr} {H : Hp} {a b : Addr} {ds es : List D} {vs ws : List V} (t : DVs K N H ds vs) (u : DVs K N H es ws) (s : ∀ N' H', Kp N H N' H' → SqL K H' a vs) (s2 : ∀ N' H', Kp N H N' H' → SqT K H' b ws) : ItR K N H (zipD ds es) (ItzM K a b) where
  go := fun N' H' i k hi => by
    rw [zipD_length, t.length, u.length] at hi
    have h1 : i < vs.length := by omega
    have h2 : i < ws.length := by omega
    exact ⟨vs, ws, vs[i], ws[i], s N' H' k, s2 N' H' k, List.getElem?_eq_getElem h1, List.getElem?_eq_getElem h2⟩
  stop := fun N' H' i k hi => ⟨vs, ws, s N' H' k, s2 N' H' k, by rw [← hi, zipD_length, t.length, u.length]⟩
  yld := fun N' H' i x H2 k tr hi ⟨T, y, z, e1, hT, e2, q1, q2⟩ => by
    subst e1
    subst e2
    obtain ⟨d, g1, hd⟩ := t.getV (q1 vs (s N' H' k))
    obtain ⟨d2, g2, hd2⟩ := u.getV (q2 ws (s2 N' H' k))
    exact ⟨_, zipD_get ds es i d d2 g1 g2, Grow.upd hT, DV.newTup tr hT (.cons (k.dv hd) (.cons (k.dv hd2) .nil))⟩
theorem si_zipM {elts : List Expr} {kk : Nat} {tpos : Pos} (hg : Gl X "zip") (hm : X.mg "zip" = none) (ha : SE X W C XL a x) (hb : SE X W C XL b y) (hs : ∀ xs, starEach (x :: xs) X.env = (false, eval x X.env) :: starEach xs X.env) (hs2 : ∀ xs, starEach (y :: xs) X.env = (false, eval y X.env) :: starEach xs X.env) :
    SI X W C XL (.zipM a b) (.Tuple elts kk tpos) (.Call (.Name "zip" p1) [x, y] [] pos) := by
  refine ⟨fun pins s σ H R I ⟨ca, L, env, st, R0, h⟩ => (pi_zipM hg hm (pa_cons ha (pa_cons hb pa_nil (hs2 _)) (hs _)) (hs _) (by rw [hs2]; rfl)).run pins s σ H R I ?_⟩
  rw [evi] at h
  refine ⟨ca, L, env, st, R0, (Fin.bind (rel := DV X.K) h).mono fun v H1 ⟨ca1, st1, p, R1, S1, hp, h1⟩ => ?_⟩
  refine ⟨ca1, L, env, st1, R1, (Fin.bind (rel := DV X.K) h1).mono fun u H2 ⟨ca2, st2, q, R2, S2, hu, h2⟩ => ?_⟩
  cases p with
  | list ds =>
    cases q with
    | tuple es =>
      obtain ⟨g, vs, rfl, hq, t, k⟩ := (hp.stepE S2).lstK
      obtain ⟨g2, ws, rfl, hq2, t2, k2⟩ := hu.tupK
      exact ⟨g, g2, vs, ws, rfl, hq, hq2, h2.ok R2 (ItR.zipM t t2 (fun N' H' z => .inl (.inl (k N' H' z))) k2)⟩
    | _ => exact h2.elim
  | _ => exact h2.elim
theorem si_zip {elts : List Expr} {kk : Nat} {tpos : Pos} (hg : Gl X "zip") (hm : X.mg "zip" = none) (ha : SE X W C XL a x) (hb : SE X W C XL b y) (hs : ∀ xs, starEach (x :: xs) X.env = (false, eval x X.env) :: starEach xs X.env) (hs2 : ∀ xs, starEach (y :: xs) X.env = (false, eval y X.env) :: starEach xs X.env) :
    SI X W C XL (.zip a b) (.Tuple elts kk tpos) (.Call (.Name "zip" p1) [x, y] [] pos) := by
  refine ⟨fun pins s σ H R I ⟨ca, L, env, st, R0, h⟩ => (RZ.pi_zipA hg hm (pa_cons ha (pa_cons hb pa_nil (hs2 _)) (hs _)) (hs _) (by rw [hs2]; rfl)).run pins s σ H R I ?_⟩
  rw [evi] at h
  refine ⟨ca, L, env, st, R0, (Fin.bind (rel := DV X.K) h).mono fun v H1 ⟨ca1, st1, p, R1, S1, hp, h1⟩ => ?_⟩
  refine ⟨ca1, L, env, st1, R1, (Fin.bind (rel := DV X.K) h1).mono fun u H2 ⟨ca2, st2, q, R2, S2, hu, h2⟩ => ?_⟩
  cases p with
  | list ds =>
    cases q with
    | list es =>
      obtain ⟨q, vs, rfl, hq, t, k⟩ := (hp.stepE S2).lstK
      obtain ⟨q2, ws, rfl, hq2, t2, k2⟩ := hu.lstK
      exact ⟨q, q2, vs, ws, rfl, .inl ⟨hq, hq2, h2.ok R2 (ItR.zipL t t2 k k2)⟩⟩
    | _ => exact h2.elim
  | tuple ds =>
    cases q with
    | tuple es =>
      obtain ⟨q, vs, rfl, hq, t, k⟩ := (hp.stepE S2).tupK
      obtain ⟨q2, ws, rfl, hq2, t2, k2⟩ := hu.tupK
      exact ⟨q, q2, vs, ws, rfl, .inr ⟨hq, hq2, h2.ok R2 (ItR.zipT t t2 k k2)⟩⟩
    | _ => exact h2.elim
  | _ => exact h2.elim
theorem get_rev {α : Type} (xs : List α) (i : Nat) (h : i < xs.length) : xs.reverse[i]? = xs[xs.length - 1 - i]? := List.getElem?_reverse h
theorem ItR.revL {a : Addr} {ds : List D} {vs : List V} {K : PySem.W.Frag} {N : List Addr} {H : Hp} (t : DVs K N H ds vs) (s : ∀ N' H', Kp N H N' H' → H' a = some (.lst vs)) : ItR K N H ds.reverse (Itv K a vs.length) where
  go := fun N' H' i k hi => by
    have hi' : i < vs.length := by rw [← t.length]; simpa using hi
    exact ⟨hi', vs, vs[vs.length - 1 - i]'(by omega), .inl (.inl (s N' H' k)), by rw [List.getElem?_eq_getElem (by omega)]⟩
  stop := fun N' H' i k hi0 => by
    have hi := Nat.le_of_eq hi0
    have hi' : vs.length ≤ i := by rw [← t.length]; simpa using hi
    exact hi'
  yld := fun N' H' i x H2 k tr hi ⟨e, q⟩ => by
    subst e
    have hi' : i < ds.length := by simpa using hi
    obtain ⟨d, e, hd⟩ := t.getV (q vs (.inl (.inl (s N' _ k))))
    exact ⟨d, by rw [get_rev _ _ hi', t.length]; exact e, Grow.refl _, k.dv hd⟩
theorem ItR.revT {a : Addr} {ds : List D} {vs : List V} {K : PySem.W.Frag} {N : List Addr} {H : Hp} (t : DVs K N H ds vs) (s : ∀ N' H', Kp N H N' H' → SqT K H' a vs) : ItR K N H ds.reverse (RT.ItvT K a vs.length) where
  go := fun N' H' i k hi => by
    have hi' : i < vs.length := by rw [← t.length]; simpa using hi
    exact ⟨hi', vs, vs[vs.length - 1 - i]'(by omega), s N' H' k, by rw [List.getElem?_eq_getElem (by omega)]⟩
  stop := fun N' H' i k hi0 => by
    have hi := Nat.le_of_eq hi0
    have hi' : vs.length ≤ i := by rw [← t.length]; simpa using hi
    exact hi'
  yld := fun N' H' i x H2 k tr hi ⟨e, q⟩ => by
    subst e
    have hi' : i < ds.length := by simpa using hi
    obtain ⟨d, e, hd⟩ := t.getV (q vs (s N' _ k))
    exact ⟨d, by rw [get_rev _ _ hi', t.length]; exact e, Grow.refl _, k.dv hd⟩
theorem si_rev (hg : Gl X "reversed") (hm : X.mg "reversed" = none) (ha : SE X W C XL a x) (hs : ∀ xs, starEach (x :: xs) X.env = (false, eval x X.env) :: starEach xs X.env) : SI X W C XL (.rev a) tg (.Call (.Name "reversed" p1) [x] [] pos) := by
  refine ⟨fun pins s σ H R I ⟨ca, L, env, st, R0, h⟩ => (RT.pi_revA (tg := tg) hg hm ha (hs _)).run pins s σ H R I ?_⟩
  rw [evi] at h
  refine ⟨ca, L, env, st, R0, (Fin.bind (rel := DV X.K) h).mono fun v H1 ⟨ca1, st1, p, R1, S1, hp, h1⟩ => ?_⟩
  cases p with
  | list ds =>
    obtain ⟨q, vs, rfl, hq, t, k⟩ := hp.lstK
    exact ⟨q, vs, rfl, .inl ⟨hq, h1.ok R1 (ItR.revL t k)⟩⟩
  | tuple ds =>
    obtain ⟨q, vs, rfl, hq, t, k⟩ := hp.tupK
    exact ⟨q, vs, rfl, .inr ⟨hq, h1.ok R1 (ItR.revT t k)⟩⟩
  | _ => exact h1.elim
end
end IP
namespace IP
open PySem PySem.Spec L2
open PyProof.Rows hiding St
section
variable {K : PySem.W.Frag} {N N' ca : List Addr} {H H' : Hp}
/-! ### a name is given a value -/
theorem SlR.keep {s : Slot} {o : Option V} {l : List Addr} (k : Kp N H N' H') (hl : ∀ a u, a ∈ l → H a = some u → H' a = some u) (h : SlR K N ca H s o l) : SlR K N' ca H' s o l := by
  cases h with
  | un => exact .un _
  | val h => exact .val (k.dv h)
  | lst h t => exact .lst (hl _ _ (by simp) h) (k.dvs t)
  | dct h t => exact .dct (hl _ _ (by simp) h) (t.keep k.stay k.out)
  | rf h => exact .rf h
  | scr h => exact .scr (h.keep k.stay k.out)
theorem EnvR.keep (k : Kp N H N' H') : ∀ {env : Env} {σ : L2.St} {L : List Addr}, (∀ a u, a ∈ L → H a = some u → H' a = some u) → EnvR K N ca H env σ L → EnvR K N' ca H' env σ L
  | _, _, _, _, .nil => .nil
  | _, _, _, hl, .cons h t => .cons (h.keep k fun a u m => hl a u (List.mem_append_left _ m)) (EnvR.keep k (fun a u m => hl a u (List.mem_append_right _ m)) t)
theorem CellR.keep {c : Cell} {a : Addr} (k : Kp N H N' H') (hl : ∀ u, H a = some u → H' a = some u) (h : CellR K N H c a) : CellR K N' H' c a := by
  cases h with
  | ml h t => exact .ml (hl _ h) (k.dvs t)
theorem CellsR.keep (k : Kp N H N' H') : ∀ {st : Store} {ca : List Addr}, (∀ a u, a ∈ ca → H a = some u → H' a = some u) → CellsR K N H st ca → CellsR K N' H' st ca
  | _, _, _, .nil => .nil
  | _, _, hl, .cons h t => .cons (h.keep k fun u => hl _ u List.mem_cons_self) (CellsR.keep k (fun a u m => hl a u (List.mem_cons_of_mem _ m)) t)
theorem EnvR.len : ∀ {env : Env} {σ : L2.St} {L : List Addr}, EnvR K N ca H env σ L → env.length = σ.length
  | _, _, _, .nil => rfl
  | _, _, _, .cons _ t => congrArg (· + 1) t.len
/-- the i-th name's part of what is written -/
theorem EnvR.split : ∀ {env : Env} {σ : L2.St} {L : List Addr} {i : Nat}, EnvR K N ca H env σ L → i < env.length → ∃ L1 l0 L2, L = L1 ++ (l0 ++ L2) ∧
    (∀ s o l, SlR K N ca H s o l → EnvR K N ca H (env.set i s) (σ.set i o) (L1 ++ (l ++ L2))) ∧ ∃ s o, env.get i = s ∧ σ[i]? = some o ∧ SlR K N ca H s o l0
  | _, _, _, _, .nil, h => by simp at h
  | _, _, _, 0, .cons (l := l) (L := L) h t, _ => ⟨[], l, L, rfl, fun s o l' h' => (by rw [List.nil_append]; exact EnvR.cons h' t), _, _, rfl, rfl, h⟩
  | _, _, _, i + 1, .cons (l := l) h t, hi => by
    obtain ⟨L1, l0, L2, e, k, s, o, e1, e2, h2⟩ := EnvR.split (i := i) t (by simpa using hi)
    refine ⟨l ++ L1, l0, L2, by rw [e, List.append_assoc], fun s o l' h' => ?_, s, o, by simpa [Env.get] using e1, by simpa using e2, h2⟩
    have := EnvR.cons h (k s o l' h')
    simpa [List.append_assoc] using this
theorem EnvR.set_out {env : Env} {σ : L2.St} {L : List Addr} {i : Nat} {s : Slot} {o : Option V} (h : EnvR K N ca H env σ L) (hi : ¬ i < env.length) : env.set i s = env ∧ σ.set i o = σ := by
  have hl := h.len
  exact ⟨List.set_eq_of_length_le (by omega), List.set_eq_of_length_le (by omega)⟩
end
section
variable {K : PySem.W.Frag} {XL ca L : List Addr} {env : Env} {st : Store} {σ : L2.St} {H H' : Hp}
theorem own_sub {L' : List Addr} (h : ∀ a ∈ L', a ∈ L) : ∀ a ∈ own XL L' ca, a ∈ own XL L ca := fun a m => by
  rcases List.mem_append.mp m with m | m
  · exact List.mem_append_left _ m
  · rcases List.mem_append.mp m with m | m
    · exact List.mem_append_right _ (List.mem_append_left _ (h a m))
    · exact List.mem_append_right _ (List.mem_append_right _ m)
theorem Kp.less {N N' : List Addr} (h : ∀ a ∈ N', a ∈ N) : Kp N H N' H := ⟨fun _ _ e _ => e, fun a _ n m => n (h a m)⟩
/-- a value at a name -/
theorem Rel.setVal {i : Nat} {p : D} {v : V} (r : Rel K XL ca L env st σ H) (hv : DV K (own XL L ca) H p v) : ∃ L', Rel K XL ca L' (env.set i (.val p)) st (σ.set i (some v)) H ∧ (∀ a ∈ L', a ∈ L) := by
  by_cases hi : i < env.length
  · obtain ⟨L1, l0, L2, e, k, _⟩ := r.env.split hi
    have h1 := k (.val p) (some v) [] (.val hv)
    have sub : ∀ a ∈ L1 ++ ([] ++ L2), a ∈ L := fun a m => by
      rw [e]
      rcases List.mem_append.mp m with m | m
      · exact List.mem_append_left _ m
      · exact List.mem_append_right _ (List.mem_append_right _ (by simpa using m))
    have kp : Kp (own XL L ca) H (own XL (L1 ++ ([] ++ L2)) ca) H := .less (own_sub sub)
    refine ⟨L1 ++ ([] ++ L2), ⟨h1.keep kp fun _ _ _ q => q, r.cells.keep kp fun _ _ _ q => q, ?_, r.tr⟩, sub⟩
    have nd := r.nd
    refine List.Nodup.sublist ?_ nd
    rw [e]
    refine List.Sublist.append (List.Sublist.refl _) (List.Sublist.append (List.Sublist.append (List.Sublist.refl _) ?_) (List.Sublist.refl _))
    exact List.Sublist.append (List.nil_sublist _) (List.Sublist.refl _)
  · obtain ⟨e1, e2⟩ := r.env.set_out (s := .val p) (o := some v) hi
    rw [e1, e2]
    exact ⟨L, r, fun _ m => m⟩
/-- a name forgotten -/
theorem Rel.setUn {i : Nat} {o : Option V} (r : Rel K XL ca L env st σ H) : ∃ L', Rel K XL ca L' (env.set i .un) st (σ.set i o) H ∧ (∀ a ∈ L', a ∈ L) := by
  by_cases hi : i < env.length
  · obtain ⟨L1, l0, L2, e, k, _⟩ := r.env.split hi
    have h1 := k .un o [] (.un _)
    have sub : ∀ a ∈ L1 ++ ([] ++ L2), a ∈ L := fun a m => by
      rw [e]
      rcases List.mem_append.mp m with m | m
      · exact List.mem_append_left _ m
      · exact List.mem_append_right _ (List.mem_append_right _ (by simpa using m))
    have kp : Kp (own XL L ca) H (own XL (L1 ++ ([] ++ L2)) ca) H := .less (own_sub sub)
    refine ⟨L1 ++ ([] ++ L2), ⟨h1.keep kp fun _ _ _ q => q, r.cells.keep kp fun _ _ _ q => q, ?_, r.tr⟩, sub⟩
    have nd := r.nd
    refine List.Nodup.sublist ?_ nd
    rw [e]
    refine List.Sublist.append (List.Sublist.refl _) (List.Sublist.append (List.Sublist.append (List.Sublist.refl _) ?_) (List.Sublist.refl _))
    exact List.Sublist.append (List.nil_sublist _) (List.Sublist.refl _)
  · obtain ⟨e1, e2⟩ := r.env.set_out (s := .un) (o := o) hi
    rw [e1, e2]
    exact ⟨L, r, fun _ m => m⟩
/-- new things alone are written elsewhere: from a smaller to a greater ground -/
theorem Step.less {L' : List Addr} (h : ∀ a ∈ L', a ∈ L) : Step L ca H L' ca H := ⟨fun _ _ e _ => e, fun a m => .inl (by
  rcases List.mem_append.mp m with m | m
  · exact List.mem_append_left _ (h a m)
  · exact List.mem_append_right _ m), List.prefix_rfl, fun _ h => h⟩
end

/-! ### targets -/
section
variable (X : Cx) (XL : List Addr)
def tG (tg : Tg) : TG := fun v σ H Q => ∃ ca L env st p env', Rel X.K XL ca L env st σ H ∧ DV X.K (own XL L ca) H p v ∧ bindT tg p env = some env' ∧
  ∀ σ' L', Rel X.K XL ca L' env' st σ' H → (∀ a ∈ L', a ∈ L) → (∃ ws : List V, σ' = (match tg with
    | .n i => σ.set i (some v)
    | .t is => (is.zip ws).foldl (fun s q => s.set q.1 (some q.2)) σ)) → Q σ' H
abbrev SG (tg : Tg) (x : Expr) : Prop := PG X x (tG X XL tg)
end
section
variable {X : Cx} {XL : List Addr} {pos : Pos}
theorem sg_n {i : Nat} {nm : Str} (hN : X.N.Nodup) (hi : X.N[i]? = some nm) (hx : Loc X.env.scope nm) (hf : X.fn nm = true ∨ X.env.scope.names.lookup nm = some .local) : SG X XL (.n i) (.Name nm pos) := by
  refine ⟨fun pins s σ H v u Q I r ⟨ca, L, env, st, p, env', R0, hp, e, k⟩ => (pg_name hN hi hx hf).run pins s σ H v u Q I r ?_⟩
  cases e
  obtain ⟨L', R1, sub⟩ := R0.setVal (i := i) hp
  exact k _ L' R1 sub ⟨[], rfl⟩
/-- names in a row -/
def isNames (X : Cx) : List Nat → List Expr → Prop
  | [], [] => True
  | i :: is, .Name nm _ :: xs => X.N[i]? = some nm ∧ Loc X.env.scope nm ∧ (X.fn nm = true ∨ X.env.scope.names.lookup nm = some .local) ∧ isNames X is xs
  | _, _ => False
def gNames : List Nat → TGs
  | [] => gNil
  | i :: is => gCons (gName i) (gNames is)
theorem isNames_len : ∀ {is : List Nat} {xs : List Expr}, isNames X is xs → xs.length = is.length
  | [], [], _ => rfl
  | [], _ :: _, h => h.elim
  | _ :: _, [], h => h.elim
  | i :: is, .Name nm p :: xs, h => congrArg (· + 1) (isNames_len h.2.2.2)
theorem pgs_names (hN : X.N.Nodup) : ∀ {is : List Nat} {xs : List Expr}, isNames X is xs → PGs X xs (gNames is)
  | [], [], _ => pgs_nil
  | i :: is, .Name nm p :: xs, h => pgs_cons (pg_name hN h.1 h.2.1 h.2.2.1) (pgs_names hN h.2.2.2) rfl
theorem assignEach_names : ∀ {is : List Nat} {xs : List Expr}, isNames X is xs → (assignEach xs X.env).length = is.length ∧ (assignEach xs X.env).findIdx? (·.1) = none
  | [], [], _ => ⟨rfl, rfl⟩
  | i :: is, .Name nm p :: xs, h => by
    obtain ⟨h1, h2⟩ := assignEach_names h.2.2.2
    rw [assignEach]
    · refine ⟨by rw [List.length_cons, h1]; rfl, ?_⟩
      rw [List.findIdx?_cons]
      simp [h2]
    · intro t p' e
      cases e
theorem names_go {XL ca : List Addr} {st : Store} {H : Hp} : ∀ {is : List Nat} {ds : List D} {vs : List V} {L : List Addr} {env : Env} {σ : L2.St} {Q : L2.St → Hp → Prop}, Rel X.K XL ca L env st σ H → DVs X.K (own XL L ca) H ds vs → ds.length = is.length →
    (∀ σ' L', Rel X.K XL ca L' ((is.zip ds).foldl (fun e p => e.set p.1 (.val p.2)) env) st σ' H → (∀ a ∈ L', a ∈ L) → σ' = (is.zip vs).foldl (fun s q => s.set q.1 (some q.2)) σ → Q σ' H) → gNames is vs σ H Q
  | [], _, _, _, _, _, _, R0, .nil, _, k => ⟨rfl, k _ _ R0 (fun _ m => m) rfl⟩
  | [], _, _, _, _, _, _, R0, .cons _ _, l, k => by simp at l
  | i :: is, _, _, _, _, _, _, R0, .nil, l, k => by simp at l
  | i :: is, _, _, L, env, σ, Q, R0, .cons (d := d) (v := v) h t, l, k => by
    refine ⟨_, _, rfl, ?_⟩
    obtain ⟨L1, R1, sub⟩ := R0.setVal (i := i) h
    refine names_go R1 ((Kp.less (own_sub sub)).dvs t) (by simpa using l) fun σ' L' R' s' e => k σ' L' R' (fun a m => sub a (s' a m)) e
theorem sg_t {is : List Nat} {xs : List Expr} {kk : Nat} (hc : X.calm = true) (hN : X.N.Nodup) (h : isNames X is xs) : SG X XL (.t is) (.Tuple xs kk pos) := by
  obtain ⟨h1, h2⟩ := assignEach_names h
  refine ⟨fun pins s σ H v u Q I r ⟨ca, L, env, st, p, env', R0, hp, e, k⟩ => (pg_tup (n := is.length) hc (pgs_names hN h) h1 h2).run pins s σ H v u Q I r ?_⟩
  cases p with
  | tuple ds =>
    have e : (match decide (ds.length = is.length) with
      | true => some ((is.zip ds).foldl (fun e p => e.set p.1 (.val p.2)) env)
      | false => none) = some env' := e
    cases e2 : decide (ds.length = is.length) with
    | false => rw [e2] at e; cases e
    | true =>
      rw [e2] at e
      cases e
      have hl := of_decide_eq_true e2
      obtain ⟨a, vs, rfl, ha, t⟩ := hp.tupS
      exact ⟨a, vs, rfl, ha, by rw [← t.length]; exact hl, names_go R0 t hl fun σ' L' R' s' e => k σ' L' R' s' ⟨vs, e⟩⟩
  | _ => cases e
end
end IP
namespace IP
open PySem PySem.Spec L2
open PyProof.Rows hiding St
abbrev W0 : WX := fun _ _ _ _ => False
section
variable {K : PySem.W.Frag} {N ca ca' XL L : List Addr} {H H' : Hp} {env : Env} {st st' : Store} {σ : L2.St}
/-! ### a block's names -/
def nonOwn (env : Env) (i : Nat) : Bool := match Env.get env i with
  | .own _ => false
  | _ => true
theorem EnvR.set0 : ∀ {env : Env} {σ : L2.St} {L : List Addr} {i : Nat} {s : Slot} {o : Option V}, EnvR K N ca H env σ L → nonOwn env i = true → SlR K N ca H s o [] → EnvR K N ca H (env.set i s) (σ.set i o) L
  | _, _, _, _, _, _, .nil, _, _ => .nil
  | _, _, _, 0, s, o, .cons (l := l) (L := L) h t, e, hs => by
    have hl : l = [] := by
      cases h with
      | lst _ _ => cases e
      | dct _ _ => cases e
      | _ => rfl
    subst hl
    exact EnvR.cons hs t
  | _, _, _, i + 1, s, o, .cons h t, e, hs => .cons h (EnvR.set0 t e hs)
theorem nonOwn_set {env : Env} {v i : Nat} {s : Slot} (hs : ∀ o, s ≠ .own o) (h : nonOwn env i = true) : nonOwn (env.set v s) i = true := by
  unfold nonOwn Env.get at h ⊢
  by_cases e : v = i
  · subst e
    by_cases hl : v < env.length
    · rw [List.getD_eq_getElem?_getD, List.getElem?_set_self hl, Option.getD_some]
      cases s <;> first | rfl | exact absurd rfl (hs _)
    · rw [List.set_eq_of_length_le (by omega)]; exact h
  · simp only [List.getD_eq_getElem?_getD, List.getElem?_set_ne e] at h ⊢
    exact h
theorem get_wipe {env : Env} : ∀ {vs : List Nat} {i : Nat}, nonOwn env i = true → nonOwn (wipeE env vs) i = true
  | [], _, h => h
  | v :: vs, i, h => nonOwn_set (fun _ => by intro z; cases z) (get_wipe (vs := vs) h)
theorem ownFree_get {env : Env} : ∀ {vs : List Nat} {i : Nat}, ownFree env vs = true → i ∈ vs → nonOwn env i = true
  | v :: vs, i, f, m => by
    unfold ownFree at f
    rw [Bool.and_eq_true] at f
    rcases List.mem_cons.mp m with rfl | m
    · exact f.1
    · exact ownFree_get f.2 m
theorem EnvR.wipe : ∀ {vs : List Nat}, ownFree env vs = true → EnvR K N ca H env σ L → EnvR K N ca H (wipeE env vs) (L2.wipe σ vs) L
  | [], _, h => h
  | v :: vs, f, h => by
    unfold ownFree at f
    rw [Bool.and_eq_true] at f
    exact (EnvR.wipe f.2 h).set0 (get_wipe f.1) (.un _)
/-- a further thing that is held elsewhere -/
theorem Kp.more {D : Addr} (hD : H D = none) (g : Grow H H') : Kp (own XL L ca) H (own (D :: XL) L ca) H' :=
  ⟨fun a o e _ => g a o e, fun a e n m => by
    rcases List.mem_cons.mp m with rfl | m
    · rw [hD] at e; cases e
    · exact n m⟩
theorem Rel.hold {D : Addr} {o : HO} (r : Rel K XL ca L env st σ H) (hD : H D = none) : Rel K (D :: XL) ca L env st σ (upd H D o) := by
  have kp : Kp (own XL L ca) H (own (D :: XL) L ca) (upd H D o) := .more hD (Grow.upd hD)
  refine ⟨r.env.keep kp fun a u _ e => Grow.upd hD a u e, r.cells.keep kp fun a u _ e => Grow.upd hD a u e, ?_, fun a m e => ?_⟩
  · exact List.nodup_cons.mpr ⟨fun m => r.trN D m hD, r.nd⟩
  · rcases List.mem_cons.mp m with rfl | m
    · rw [upd_same] at e; cases e
    · exact r.tr a m (by
        cases q : H a with
        | none => rfl
        | some u => rw [Grow.upd hD a u q] at e; cases e)
/-- what is held is written -/
theorem Rel.held {D : Addr} {o : HO} (r : Rel K (D :: XL) ca L env st σ H) : Rel K (D :: XL) ca L env st σ (upd H D o) := by
  have nm : D ∉ own XL L ca := (List.nodup_cons.mp r.nd).1
  have ne : ∀ a, a ∉ own (D :: XL) L ca → a ≠ D := fun a n z => n (by rw [z]; exact List.mem_cons_self)
  have kp : Kp (own (D :: XL) L ca) H (own (D :: XL) L ca) (upd H D o) := ⟨fun a u e n => by rw [upd_ne (ne a n)]; exact e, fun _ _ n => n⟩
  refine ⟨r.env.keep kp fun a u m e => ?_, r.cells.keep kp fun a u m e => ?_, r.nd, fun a m e => ?_⟩
  · rw [upd_ne]
    · exact e
    · rintro rfl
      exact nm (List.mem_append_right _ (List.mem_append_left _ m))
  · rw [upd_ne]
    · exact e
    · rintro rfl
      exact nm (List.mem_append_right _ (List.mem_append_right _ m))
  · by_cases z : a = D
    · subst z; rw [upd_same] at e; cases e
    · rw [upd_ne z] at e; exact r.tr a m e
/-- it is let go -/
theorem Rel.let_ {D : Addr} (r : Rel K (D :: XL) ca L env st σ H) : Rel K XL ca L env st σ H := by
  have kp : Kp (own (D :: XL) L ca) H (own XL L ca) H := .less fun a m => List.mem_cons_of_mem _ m
  exact ⟨r.env.keep kp fun _ _ _ e => e, r.cells.keep kp fun _ _ _ e => e, (List.nodup_cons.mp r.nd).2, fun a m => r.tr a (List.mem_cons_of_mem _ m)⟩
/-- names as they stood, cells as they stand -/
theorem SlR.caMono {s : Slot} {o : Option V} {l : List Addr} (p : ca <+: ca') (h : SlR K N ca H s o l) : SlR K N ca' H s o l := by
  cases h with
  | un => exact .un _
  | val h => exact .val h
  | lst h t => exact .lst h t
  | dct h t => exact .dct h t
  | rf h =>
    obtain ⟨m, rfl⟩ := p
    exact .rf (by rw [List.getElem?_append_left]; exact h; exact (List.getElem?_eq_some_iff.mp h).1)
  | scr h => exact .scr h
theorem EnvR.caMono (p : ca <+: ca') : ∀ {env : Env} {σ : L2.St} {L : List Addr}, EnvR K N ca H env σ L → EnvR K N ca' H env σ L
  | _, _, _, .nil => .nil
  | _, _, _, .cons h t => .cons (h.caMono p) (t.caMono p)
theorem Rel.back {env2 : Env} {σ2 : L2.St} (r : Rel K XL ca L env st σ H) (x : Step [] ca H [] ca' H') (r2 : Rel K XL ca' L env2 st' σ2 H') : Rel K XL ca' L env st' σ H' := by
  have kp := (x.toL (L := L)).kp (XL := XL)
  refine ⟨(r.env.keep kp fun a u m e => x.stay a u e fun z => ?_).caMono x.pre, r2.cells, r2.nd, r2.tr⟩
  have nd := r.nd
  have := (List.nodup_append.mp (List.nodup_append.mp nd).2.1).2.2 a m a (by simpa using z)
  exact this rfl
end
section
variable (X : Cx) (C : CallF)
def tgFree (env : Env) : Tg → Prop
  | .n i => nonOwn env i = true
  | .t is => ∀ i ∈ is, nonOwn env i = true
/-- a target of a block's own names -/
def tGx (tg : Tg) : TG := fun v σ H Q => ∃ XL ca L env st p env', Rel X.K XL ca L env st σ H ∧ DV X.K (own XL L ca) H p v ∧ bindT tg p env = some env' ∧ tgFree env tg ∧
  ∀ σ', Rel X.K XL ca L env' st σ' H → (∃ ws : List V, σ' = (match tg with
    | .n i => σ.set i (some v)
    | .t is => (is.zip ws).foldl (fun s q => s.set q.1 (some q.2)) σ)) → Q σ' H
def tEx (e : E) : TE := fun σ H Q => ∃ XL, tE X W0 C XL e σ H Q
def tCx (cond : EL) : TT := fun σ H Q => ∃ XL ca L env st, Rel X.K XL ca L env st σ H ∧ Fin X W0 XL L env σ ca H eqR Q (evc C cond env st)
end
section
variable {X : Cx} {pos : Pos}
theorem sgx_n {i : Nat} {nm : Str} (hN : X.N.Nodup) (hi : X.N[i]? = some nm) (hx : Loc X.env.scope nm) (hf : X.fn nm = true ∨ X.env.scope.names.lookup nm = some .local) : PG X (.Name nm pos) (tGx X (.n i)) := by
  refine ⟨fun pins s σ H v u Q I r ⟨XL, ca, L, env, st, p, env', R0, hp, e, fr, k⟩ => (pg_name hN hi hx hf).run pins s σ H v u Q I r ?_⟩
  cases e
  exact k _ ⟨R0.env.set0 fr (.val hp), R0.cells, R0.nd, R0.tr⟩ ⟨[], rfl⟩
theorem names_go0 {XL ca L : List Addr} {st : Store} {H : Hp} : ∀ {is : List Nat} {ds : List D} {vs : List V} {env : Env} {σ : L2.St} {Q : L2.St → Hp → Prop}, Rel X.K XL ca L env st σ H → DVs X.K (own XL L ca) H ds vs → ds.length = is.length → (∀ i ∈ is, nonOwn env i = true) →
    (∀ σ', Rel X.K XL ca L ((is.zip ds).foldl (fun e p => e.set p.1 (.val p.2)) env) st σ' H → σ' = (is.zip vs).foldl (fun s q => s.set q.1 (some q.2)) σ → Q σ' H) → gNames is vs σ H Q
  | [], _, _, _, _, _, R0, .nil, _, _, k => ⟨rfl, k _ R0 rfl⟩
  | [], _, _, _, _, _, R0, .cons _ _, l, _, k => by simp at l
  | i :: is, _, _, _, _, _, R0, .nil, l, _, k => by simp at l
  | i :: is, _, _, env, σ, Q, R0, .cons (d := d) (v := v) h t, l, f, k => by
    refine ⟨_, _, rfl, ?_⟩
    exact names_go0 ⟨R0.env.set0 (f i List.mem_cons_self) (.val h), R0.cells, R0.nd, R0.tr⟩ t (by simpa using l) (fun j m => nonOwn_set (fun _ => by intro z; cases z) (f j (List.mem_cons_of_mem _ m))) fun σ' R' e => k σ' R' e
theorem sgx_t {is : List Nat} {xs : List Expr} {kk : Nat} (hc : X.calm = true) (hN : X.N.Nodup) (h : isNames X is xs) : PG X (.Tuple xs kk pos) (tGx X (.t is)) := by
  obtain ⟨h1, h2⟩ := assignEach_names h
  refine ⟨fun pins s σ H v u Q I r ⟨XL, ca, L, env, st, p, env', R0, hp, e, fr, k⟩ => (pg_tup (n := is.length) hc (pgs_names hN h) h1 h2).run pins s σ H v u Q I r ?_⟩
  cases p with
  | tuple ds =>
    have e : (match decide (ds.length = is.length) with
      | true => some ((is.zip ds).foldl (fun e p => e.set p.1 (.val p.2)) env)
      | false => none) = some env' := e
    cases e2 : decide (ds.length = is.length) with
    | false => rw [e2] at e; cases e
    | true =>
      rw [e2] at e
      cases e
      have hl := of_decide_eq_true e2
      obtain ⟨a, vs, rfl, ha, t⟩ := hp.tupS
      exact ⟨a, vs, rfl, ha, by rw [← t.length]; exact hl, names_go0 R0 t hl fr fun σ' R' e => k σ' R' ⟨vs, e⟩⟩
  | _ => cases e
end
section
variable {X : Cx} {W : WX} {C : CallF} {XL : List Addr}
/-- a comprehension's tests -/
theorem pts_x {cond : EL} {ifs : List Expr} {s : Shared} {H : Hp} {scope : Scope} {ce : PySem.Env} {fp : List Addr} (h : (cond = .nil ∧ ifs = []) ∨ ∃ a x, cond = .cons a .nil ∧ ifs = [x] ∧ ∀ XL, ST (X.blk s H scope ce fp) W0 C XL a x) :
    PTs (X.blk s H scope ce fp) ifs (tCx X C cond) := by
  rcases h with ⟨rfl, rfl⟩ | ⟨a, x, rfl, rfl, h⟩
  · refine ⟨fun pins s σ H Q I ⟨XL, ca, L, env, st, R0, h⟩ => pts_nil.run pins s σ H Q I ?_⟩
    rw [evc] at h
    exact h.ok R0 rfl
  · refine ⟨fun pins s σ H Q I ⟨XL, ca, L, env, st, R0, h0⟩ => (pts_one (h XL)).run pins s σ H Q I ?_⟩
    rw [evc] at h0
    exact ⟨ca, L, env, st, R0, h0⟩
theorem wipe_set {vs : List Nat} {i : Nat} {σ : L2.St} {o : Option V} (h : i ∈ vs) : L2.wipe ((L2.wipe σ vs).set i o) vs = L2.wipe σ vs := by
  apply List.ext_getElem?
  intro j
  by_cases hj : j ∈ vs
  · have key : ∀ (τ : L2.St) (ws : List Nat), j ∈ ws → (L2.wipe τ ws)[j]? = if j < τ.length then some none else none := by
      intro τ ws
      induction ws with
      | nil => intro m; simp at m
      | cons w ws ih =>
        intro m
        show ((L2.wipe τ ws).set w none)[j]? = _
        by_cases e : w = j
        · subst e
          rw [List.getElem?_set]
          simp [wipe_length]
        · rw [List.getElem?_set_ne e]
          exact ih (by rcases List.mem_cons.mp m with q | q; exact absurd q.symm e; exact q)
    rw [key _ vs hj, key _ vs hj]
    simp [wipe_length]
  · rw [wipe_out hj, wipe_out hj, List.getElem?_set_ne (by rintro rfl; exact hj h), wipe_out hj]
theorem wipe_sets {vs : List Nat} : ∀ {is : List Nat} {ws : List V} {σ τ : L2.St}, (∀ i ∈ is, i ∈ vs) → L2.wipe τ vs = L2.wipe σ vs → L2.wipe ((is.zip ws).foldl (fun s q => s.set q.1 (some q.2)) τ) vs = L2.wipe σ vs
  | [], _, _, _, _, e => e
  | _ :: _, [], _, _, _, e => e
  | i :: is, w :: ws, σ, τ, h, e => by
    refine wipe_sets (is := is) (ws := ws) (σ := σ) (τ := τ.set i (some w)) (fun j m => h j (List.mem_cons_of_mem _ m)) ?_
    rw [← e]
    apply List.ext_getElem?
    intro j
    by_cases hj : j ∈ vs
    · have key : ∀ (τ : L2.St) (ws : List Nat), j ∈ ws → (L2.wipe τ ws)[j]? = if j < τ.length then some none else none := by
        intro τ ws
        induction ws with
        | nil => intro m; simp at m
        | cons w ws ih =>
          intro m
          show ((L2.wipe τ ws).set w none)[j]? = _
          by_cases e : w = j
          · subst e
            rw [List.getElem?_set]
            simp [wipe_length]
          · rw [List.getElem?_set_ne e]
            exact ih (by rcases List.mem_cons.mp m with q | q; exact absurd q.symm e; exact q)
      rw [key _ vs hj, key _ vs hj]
      simp
    · rw [wipe_out hj, wipe_out hj, List.getElem?_set_ne (by rintro rfl; exact hj (h _ List.mem_cons_self))]
theorem wipe_wipe {vs : List Nat} (σ : L2.St) : L2.wipe (L2.wipe σ vs) vs = L2.wipe σ vs := by
  apply List.ext_getElem?
  intro j
  by_cases hj : j ∈ vs
  · have key : ∀ (τ : L2.St) (ws : List Nat), j ∈ ws → (L2.wipe τ ws)[j]? = if j < τ.length then some none else none := by
      intro τ ws
      induction ws with
      | nil => intro m; simp at m
      | cons w ws ih =>
        intro m
        show ((L2.wipe τ ws).set w none)[j]? = _
        by_cases e : w = j
        · subst e
          rw [List.getElem?_set]
          simp [wipe_length]
        · rw [List.getElem?_set_ne e]
          exact ih (by rcases List.mem_cons.mp m with q | q; exact absurd q.symm e; exact q)
    rw [key _ vs hj, key _ vs hj, wipe_length]
  · rw [wipe_out hj]
/-- the names of a target are the block's -/
def tgIn (vs : List Nat) : Tg → Prop
  | .n i => i ∈ vs
  | .t is => ∀ i ∈ is, i ∈ vs
theorem tg_free {env : Env} {vs : List Nat} (f : ownFree env vs = true) : ∀ {tg : Tg}, tgIn vs tg → tgFree (wipeE env vs) tg
  | .n i, h => get_wipe (ownFree_get f h)
  | .t is, h => fun i m => get_wipe (ownFree_get f (h i m))
theorem lc_rel {own : List Nat} {tg : Tg} {it : It} {cond : EL} {elt : E} (ht : tgIn own tg) {σ : L2.St} {H : Hp} {Q : VK} {ca L : List Addr} {env : Env} {st : Store} (R0 : Rel X.K XL ca L env st σ H)
    (h : Fin X W XL L env σ ca H (DV X.K) Q (ev C (.lc own tg it cond elt) env st)) : tLc (tI X W C XL it) (tGx X tg) (tCx X C cond) (tEx X C elt) own σ H Q := by
  rw [ev] at h
  refine ⟨ca, L, env, st, R0, (Fin.bind (rel := ItR X.K) h).mono fun J H1 ⟨ca1, st1, xs, R1, S1, hJ, h1⟩ => ?_⟩
  intro Dl hD
  cases hf : ownFree env own with
  | false => rw [hf] at h1; exact h1.elim
  | true =>
  rw [hf] at h1
  refine ⟨fun i m H => m = xs.length - i ∧ i ≤ xs.length ∧ ∃ ca2 st2 acc vs, Rel X.K (Dl :: XL) ca2 L (wipeE env own) st2 (L2.wipe σ own) H ∧ Step [] ca1 H1 [] ca2 H ∧ H Dl = some (.lst vs) ∧ DVs X.K (IP.own (Dl :: XL) L ca2) H acc vs ∧
    Fin X W XL L env σ ca1 H1 (DV X.K) Q ((loopE (fun e s => evc C cond e s) (fun e s => ev C elt e s) tg (wipeE env own) (xs.drop i) acc st2).bind fun ys st2 => .ok (.list ys) st2), ⟨xs.length, by simp, Nat.zero_le _, ca1, st1, [], [], ?_, Step.grow (Grow.upd hD), upd_same, .nil, h1⟩, ?_⟩
  · have r := R1.hold (o := .lst []) hD
    exact ⟨r.env.wipe hf, r.cells, r.nd, r.tr⟩
  rintro i m H2 ⟨rfl, hi, ca2, st2, acc, vs, R2, S2, hDl, hacc, hl⟩
  have kp : Kp (IP.own XL L ca1) H1 (IP.own (Dl :: XL) L ca2) H2 := by
    have k := (S2.toL (L := L)).kp (XL := XL)
    exact ⟨k.stay, fun a e n q => by
      rcases List.mem_cons.mp q with rfl | q
      · rw [hD] at e; cases e
      · exact k.out a e n q⟩
  by_cases hlt : i < xs.length
  · refine .inr ⟨hJ.go _ H2 i kp hlt, fun H3 => ∃ ca3 st3 acc3 vs3, Rel X.K (Dl :: XL) ca3 L (wipeE env own) st3 (L2.wipe σ own) H3 ∧ Step [] ca1 H1 [] ca3 H3 ∧ H3 Dl = some (.lst vs3) ∧ DVs X.K (IP.own (Dl :: XL) L ca3) H3 acc3 vs3 ∧
      Fin X W XL L env σ ca1 H1 (DV X.K) Q ((loopE (fun e s => evc C cond e s) (fun e s => ev C elt e s) tg (wipeE env own) (xs.drop (i + 1)) acc3 st3).bind fun ys st2 => .ok (.list ys) st2), fun H3 q => ⟨xs.length - (i + 1), by omega, rfl, hlt, q⟩, fun x H3 y => ?_⟩
    obtain ⟨d, ed, gr, hd⟩ := hJ.yld _ H2 i x H3 kp R2.trN hlt y
    have hdr : xs.drop i = d :: xs.drop (i + 1) := by
      rw [List.getElem?_eq_some_iff] at ed
      obtain ⟨q1, q2⟩ := ed
      rw [List.drop_eq_getElem_cons q1, q2]
    rw [hdr, loopE] at hl
    cases eb : bindT tg d (wipeE env own) with
    | none => rw [eb] at hl; exact hl.elim
    | some env' =>
      rw [eb] at hl
      have R3 := R2.grow gr
      have S3 : Step [] ca1 H1 [] ca2 H3 := S2.trans (Step.grow gr)
      have hDl3 := gr _ _ hDl
      refine ⟨Dl :: XL, ca2, L, wipeE env own, st2, d, env', R3, hd, eb, tg_free hf ht, fun σ' R4 ⟨ws, eσ⟩ => ⟨?_, ?_⟩⟩
      · rw [eσ]
        cases tg with
        | n i => exact wipe_set ht
        | t is => exact wipe_sets ht (wipe_wipe σ)
      refine ⟨Dl :: XL, ca2, L, env', st2, R4, ?_⟩
      have hl : Fin X W XL L env σ ca1 H1 (DV X.K) Q (((evc C cond env' st2).quiet.bind fun b st1 => match b with
        | true => (ev C elt env' st1).quiet.bind fun y st2 => match decide (acc.length < LINE) with
          | true => loopE (fun e s => evc C cond e s) (fun e s => ev C elt e s) tg (wipeE env own) (xs.drop (i + 1)) (acc ++ [y]) st2
          | false => .stuck
        | false => loopE (fun e s => evc C cond e s) (fun e s => ev C elt e s) tg (wipeE env own) (xs.drop (i + 1)) acc st1).bind fun ys st2 => .ok (.list ys) st2) := hl
      cases ec : evc C cond env' st2 with
      | exc z s' => rw [ec] at hl; exact hl.elim
      | stuck => rw [ec] at hl; exact hl.elim
      | ok b st3 =>
      rw [ec] at hl
      intro ca4 b' H4 R5 S5 eb'
      cases eb'
      have hDl4 : H4 Dl = some (.lst vs) := S5.stay _ _ hDl3 fun z => by
        have := (List.nodup_cons.mp R4.nd).1
        exact this (List.mem_append_right _ (List.mem_append_right _ (by simpa using z)))
      have S6 : Step [] ca1 H1 [] ca4 H4 := S3.trans S5
      cases b with
      | false =>
        rw [if_neg Bool.false_ne_true]
        exact ⟨ca4, st3, acc, vs, R3.back S5 R5, S6, hDl4, ((hacc.grow gr).stepE S5), hl⟩
      | true =>
        rw [if_pos rfl]
        refine ⟨Dl :: XL, ca4, L, env', st3, R5, ?_⟩
        have hl : Fin X W XL L env σ ca1 H1 (DV X.K) Q (((ev C elt env' st3).quiet.bind fun y st2 => match decide (acc.length < LINE) with
          | true => loopE (fun e s => evc C cond e s) (fun e s => ev C elt e s) tg (wipeE env own) (xs.drop (i + 1)) (acc ++ [y]) st2
          | false => .stuck).bind fun ys st2 => .ok (.list ys) st2) := hl
        cases ee : ev C elt env' st3 with
        | exc z s' => rw [ee] at hl; exact hl.elim
        | stuck => rw [ee] at hl; exact hl.elim
        | ok y st4 =>
        rw [ee] at hl
        intro ca5 w H5 R6 S7 hw
        have hDl5 : H5 Dl = some (.lst vs) := S7.stay _ _ hDl4 fun z => by
          have := (List.nodup_cons.mp R5.nd).1
          exact this (List.mem_append_right _ (List.mem_append_right _ (by simpa using z)))
        have hl : Fin X W XL L env σ ca1 H1 (DV X.K) Q ((match decide (acc.length < LINE) with
          | true => loopE (fun e s => evc C cond e s) (fun e s => ev C elt e s) tg (wipeE env own) (xs.drop (i + 1)) (acc ++ [y]) st4
          | false => .stuck).bind fun ys st2 => .ok (.list ys) st2) := hl
        cases el : decide (acc.length < LINE) with
        | false => rw [el] at hl; exact hl.elim
        | true =>
        rw [el] at hl
        have hlen := of_decide_eq_true el
        have hacc5 := ((hacc.grow gr).stepE S5).stepE S7
        refine ⟨vs, hDl5, by rw [← hacc5.length, line_eq]; exact hlen, ?_⟩
        have S8 := S5.trans S7
        have R7 := (R3.back S8 R6).held (o := .lst (vs ++ [w]))
        have nD : Dl ∉ IP.own XL L ca5 := (List.nodup_cons.mp R6.nd).1
        have kh : Kp (IP.own (Dl :: XL) L ca5) H5 (IP.own (Dl :: XL) L ca5) (upd H5 Dl (.lst (vs ++ [w]))) :=
          ⟨fun a u e n => by rw [upd_ne (fun z => n (by rw [z]; exact List.mem_cons_self))]; exact e, fun _ _ n => n⟩
        refine ⟨ca5, st4, acc ++ [y], vs ++ [w], R7, ?_, upd_same, kh.dvs (hacc5.append (.cons hw .nil)), hl⟩
        have S9 := S6.trans S7
        refine ⟨fun a u e n => ?_, S9.new, S9.pre, fun a e => ?_⟩
        · rw [upd_ne (ne_of_none e hD)]; exact S9.stay a u e n
        · by_cases z : a = Dl
          · subst z; rw [upd_same]; exact fun z => by cases z
          · rw [upd_ne z]; exact S9.there a e
  · have e : i = xs.length := by omega
    subst e
    refine .inl ⟨hJ.stop _ H2 _ kp rfl, ?_⟩
    rw [List.drop_length, loopE] at hl
    have R3 := R2.let_
    refine hl ca2 (.ref Dl) H2 (R1.back S2 R3) S2 (.lst hDl (List.nodup_cons.mp R2.nd).1 ?_)
    exact (Kp.less fun a m => List.mem_cons_of_mem _ m).dvs hacc
end
end IP
namespace IP
open PySem PySem.Spec L2
open PyProof.Rows hiding St
/-! ### sets of keys that can be walked -/
def keyM (e : Int × Value) : L2.Key := match e.2 with
  | .int i _ => .inl i
  | .str x _ => .inr x
  | _ => .inl 0
def GoodM (w : World) (e : Int × Value) : Prop := ∃ k, keyIs k e.2 = true ∧ e.1 = keyH w k
theorem keyM_of {e : Int × Value} {k : L2.Key} (h : keyIs k e.2 = true) : keyM e = k := by
  unfold keyM
  rcases keyIs_shape h with ⟨i, t, rfl, e2⟩ | ⟨x, t, rfl, e2⟩ <;> rw [e2]
theorem keyIs_scan {k : L2.Key} {v : Value} (h : keyIs k v = true) : v.scannable = true := by
  rcases keyIs_shape h with ⟨i, t, rfl, e2⟩ | ⟨x, t, rfl, e2⟩ <;> rw [e2] <;> rfl
theorem GoodM.is {w : World} {e : Int × Value} (g : GoodM w e) (k : L2.Key) : keyIs k e.2 = true ↔ keyM e = k := by
  obtain ⟨k0, h1, _⟩ := g
  rw [keyM_of h1]
  constructor
  · intro h; rw [← keyM_of h1, keyM_of h]
  · rintro rfl; exact h1
theorem goodM_elems {P : Program} {w : World} {l : List (Int × Value)} (g : ∀ e ∈ l, GoodM w e) : ElemsOf (mixKind P w) l := fun e he => by
  obtain ⟨k, h1, h2⟩ := g e he
  exact ⟨⟨k, h1, h2⟩, keyIs_scan h1⟩
/-- the set at a: its members ks, in whatever order they came -/
def SetM (w : World) (h : Heap) (a : Addr) (ks : List L2.Key) : Prop := ∃ (o : Obj) (es : Array (Int × Value)) (ep : Nat) (t : SetTable), h.get? a = some o ∧ o.ExactSet ∧ o.data = .set es ep t ∧ (∀ e ∈ es.toList, GoodM w e) ∧ (es.toList.map keyM).Perm ks ∧ ks.Nodup ∧
  es.size < scanBound ∧ t.fits es.size = true ∧ Ris t.place.toList ∧ (w.params.followText "set-order" = true ∨ t.led = true)
theorem SetM.at {w : World} {h h' : Heap} {a : Addr} {ks : List L2.Key} (R : SetM w h a ks) (k : ∀ o, h.get? a = some o → h'.get? a = some o) : SetM w h' a ks := by
  obtain ⟨o, es, ep, t, ho, r⟩ := R
  exact ⟨o, es, ep, t, k o ho, r⟩
theorem SetM.len {w : World} {h : Heap} {a : Addr} {ks : List L2.Key} {o : Obj} {es : Array (Int × Value)} (p : (es.toList.map keyM).Perm ks) : es.size = ks.length := by
  rw [← p.length_eq, List.length_map, Array.length_toList]
section
variable {P : Program} {w : World} {A : Around} {E : Value → Shared → Prop} {s : Shared} {a : Addr} {ks : List L2.Key}
theorem putM_at {h : Heap} {a : Addr} {o : Obj} {es es' : Array (Int × Value)} {ep : Nat} {t t' : SetTable} (ho : h.get? a = some o) (hd : o.data = .set es ep t) : (h.update a (Obj.putSet es' t')).get? a = some { o with data := .set es' (ep + 1) t' } := by
  have e := putSet_of es' t' hd
  rw [Heap.get?_update_self (Obj.putSet es' t') ho (by rw [e]; rfl), e]
/-- the end of an add that lays an entry: stored, and laid anew where the table is full -/
theorem addM_tail {g : Bool → Sem Unit} (hg : ∀ (b : Bool) (u : Shared) (Q' : Unit → Shared → Prop), Q' () u → wpAny (model P w) A (g b) Q' E u) {o : Obj} {es : Array (Int × Value)} {ep : Nat} {t : SetTable} (ho : s.heap.get? a = some o) (hx : o.ExactSet) (hd : o.data = .set es ep t)
    {es1 : Array (Int × Value)} {t1 : SetTable} (g1 : ∀ e ∈ es1.toList, GoodM w e) (p1 : (es1.toList.map keyM).Perm ks) (nd : ks.Nodup) (b1 : es1.size < scanBound) (f1 : t1.fits es1.size = true) (r1 : Ris t1.place.toList) (l1 : w.params.followText "set-order" = true ∨ t1.led = true) {dm : Bool} {R : Option Bool → Shared → Prop}
    (hR : ∀ h', Heap.SameBut a s.heap h' → SetM w h' a ks → R (some true) { s with heap := h' }) :
    wpAny (model P w) A (do
        storeSet a es1 t1
        if (!dm && t1.tooFull) = true then do
            g (relayAll t1 es1 (SetTable.grown es1.size)).2.2
            storeSet a (relayAll t1 es1 (SetTable.grown es1.size)).1 (relayAll t1 es1 (SetTable.grown es1.size)).2.1
            pure (some true)
          else pure (some true)) R E s := by
  apply wpAny_bind (wpAny_storeSet_of ho hd ?_ (fits_of_scanBound b1))
  have at1 := putM_at (es' := es1) (t' := t1) ho hd
  have same := Heap.SameBut.update s.heap a (Obj.putSet es1 t1)
  by_cases full : (!dm && t1.tooFull) = true
  · rw [if_pos full]
    have pm := relayAll_perm t1 es1 (SetTable.grown es1.size)
    have ft := relayAll_fits t1 es1 (SetTable.grown es1.size)
    have rs := relayAll_ris t1 es1 (SetTable.grown es1.size)
    have ld := relayAll_led t1 es1 (SetTable.grown es1.size)
    generalize relayAll t1 es1 (SetTable.grown es1.size) = Z at pm ft rs ld ⊢
    obtain ⟨es2, t2, gave⟩ := Z
    have sz : es2.size = es1.size := by rw [← Array.length_toList, ← Array.length_toList, pm.length_eq]
    apply wpAny_bind (hg _ _ _ ?_)
    apply wpAny_bind (wpAny_storeSet_of at1 rfl ?_ (fits_of_scanBound (by rw [sz]; exact b1)))
    refine wpAny_pure (hR _ (same.trans (Heap.SameBut.update _ a _)) ⟨_, es2, _, t2, putM_at at1 rfl, hx, rfl, fun e m => g1 e (pm.mem_iff.mp m), (pm.map keyM).trans p1, nd, by rw [sz]; exact b1, ft, rs, ?_⟩)
    exact l1.imp id fun z => ld.trans z
  · rw [if_neg full]
    exact wpAny_pure (hR _ same ⟨_, es1, _, t1, at1, hx, rfl, g1, p1, nd, b1, f1, r1, l1⟩)
def addM (ks : List L2.Key) (k : L2.Key) : List L2.Key := match ks.any fun j => decide (j = k) with
  | true => ks
  | false => ks ++ [k]
theorem addM_in {ks : List L2.Key} {k : L2.Key} (h : k ∈ ks) : addM ks k = ks := by
  have : (ks.any fun j => decide (j = k)) = true := List.any_eq_true.mpr ⟨k, h, decide_eq_true rfl⟩
  unfold addM
  rw [this]
theorem addM_out {ks : List L2.Key} {k : L2.Key} (h : k ∉ ks) : addM ks k = ks ++ [k] := by
  have : (ks.any fun j => decide (j = k)) = false := by
    rw [List.any_eq_false]
    intro j m e
    exact h (of_decide_eq_true e ▸ m)
  unfold addM
  rw [this]
theorem addM_hashed {k : L2.Key} {v : Value} (hv : keyIs k v = true) {Q : Bool → Shared → Prop} (R : SetM w s.heap a ks) (room : ks.length + 1 < scanBound)
    (hQ : ∀ b h', Heap.SameBut a s.heap h' → SetM w h' a (addM ks k) → Q b { s with heap := h' }) : wpAny (model P w) A (setAddHashed a v ((mixKind P w).hash k)) Q E s := by
  obtain ⟨o, es, ep, t, ho, hx, hd, g, pm, nd, b, f, r, l⟩ := R
  have sc := keyIs_scan hv
  have el : ElemsOf (mixKind P w) es.toList := goodM_elems g
  unfold setAddHashed setAddHashedIn
  refine wpAny_holding (wpAny_bind (wpAny_setState_of ho hd f ?_))
  dsimp only
  rw [byScan_of sc b el]
  simp only [↓reduceIte]
  unfold setAddByScan
  apply wpAny_bind
  apply wpAny_bind (wpAny_rule ?_)
  apply wpAny_bind (wpAny_setScan_of (k := k) hv ho hd f el ?_)
  cases hf : List.findIdx? (fun e => (mixKind P w).is k e.2) es.toList with
  | some j =>
    obtain ⟨hj, pj, _⟩ := List.findIdx?_eq_some_iff_getElem.mp hf
    have km : k ∈ ks := pm.mem_iff.mp (List.mem_map.mpr ⟨es.toList[j], List.getElem_mem hj, keyM_of pj⟩)
    refine wpAny_pure (wpAny_pure (hQ _ s.heap (Heap.SameBut.refl a s.heap) ⟨o, es, ep, t, ho, hx, hd, g, ?_, ?_, b, f, r, l⟩))
    · rw [addM_in km]; exact pm
    · rw [addM_in km]; exact nd
  | none =>
    have kn : k ∉ ks := fun m => by
      obtain ⟨e, me, q⟩ := List.mem_map.mp (pm.mem_iff.mpr m)
      have c := List.findIdx?_eq_none_iff.mp hf e me
      have : (mixKind P w).is k e.2 = true := ((g e me).is k).mpr q
      rw [this] at c
      cases c
    have quiet : ∀ (b : Bool) {u : Shared} {Q' : Unit → Shared → Prop}, Q' () u → wpAny (model P w) A (match b with | true => rule "set.scan.the-table-gave-way" | false => pure ()) Q' E u := fun b u Q' q => by
      cases b
      · exact wpAny_pure q
      · exact wpAny_rule q
    have np := layNew_perm t es ((mixKind P w).hash k) v
    have nf := layNew_fits t es ((mixKind P w).hash k) v
    have nr := layNew_ris t es ((mixKind P w).hash k) v r
    have nl := layNew_led t es ((mixKind P w).hash k) v
    dsimp only
    generalize layNew t es ((mixKind P w).hash k) v = Z at np nf nr nl ⊢
    obtain ⟨es1, t1, dm, gave⟩ := Z
    rw [Array.toList_push] at np
    have g1 : ∀ e ∈ es1.toList, GoodM w e := fun e m => by
      rcases List.mem_append.mp (np.mem_iff.mp m) with m | m
      · exact g e m
      · rw [List.mem_singleton.mp m]
        exact ⟨k, hv, rfl⟩
    have p1 : (es1.toList.map keyM).Perm (addM ks k) := by
      rw [addM_out kn]
      refine (np.map keyM).trans ?_
      rw [List.map_append]
      refine List.Perm.append pm ?_
      rw [List.map_singleton, keyM_of (e := ((mixKind P w).hash k, v)) hv]
    have n1 : (addM ks k).Nodup := by
      rw [addM_out kn]
      exact List.nodup_append.mpr ⟨nd, by simp, fun x m y my e => kn (by rw [List.mem_singleton.mp my] at e; rw [← e]; exact m)⟩
    have z1 : es1.size < scanBound := by
      rw [← Array.length_toList, np.length_eq, List.length_append, Array.length_toList, ← Array.length_toList, ← List.length_map (f := keyM), pm.length_eq]
      exact room
    have l1 : w.params.followText "set-order" = true ∨ t1.led = true := l.imp id fun z => nl.trans z
    refine wpAny_bind (quiet _ ?_)
    split
    · refine wpAny_bind ?_
      rw [hashByValue_scannable 8 sc]
      refine wpAny_pure ?_
      refine addM_tail (ks := addM ks k) (fun b u Q' q => ?_) ho hx hd g1 p1 n1 z1 ?_ ?_ ?_ fun h' sb q => wpAny_pure (hQ _ h' sb q)
      · cases b
        · exact wpAny_pure q
        · exact wpAny_rule q
      · first | (split <;> first | exact nf | exact SetTable.fits_plain_off nf) | exact nf
      · first | (split <;> exact nr) | exact nr
      · first | (split <;> exact l1) | exact l1
    · refine wpAny_bind (wpAny_pure ?_)
      simp only [↓reduceIte]
      refine addM_tail (ks := addM ks k) (fun b u Q' q => ?_) ho hx hd g1 p1 n1 z1 nf nr l1 fun h' sb q => wpAny_pure (hQ _ h' sb q)
      cases b
      · exact wpAny_pure q
      · exact wpAny_rule q
end
/-- as an object that is tracked -/
def SetMO (w : World) (a : Addr) (ks : List L2.Key) : HO := .ext fun h => SetM w h a ks
theorem setM_ok {P : Program} {w : World} {H : Hp} {h : Heap} {a : Addr} {ks : List L2.Key} (R : SetM w h a ks) : ObjOk P w H h a (SetMO w a ks) := by
  have ⟨o, _, _, _, ho, _⟩ := R
  exact ⟨R, ⟨o, ho⟩, fun h1 h2 p k => SetM.at p k⟩
theorem setM_get {X : Cx} {pins : List (Addr × Obj)} {σ : L2.St} {H : Hp} {s : Shared} {a : Addr} {ks : List L2.Key} (I : Inv X pins σ H s) (ha : H a = some (SetMO X.w a ks)) : SetM X.w s.heap a ks := (I.hok a _ ha).1
theorem setM_fresh {w : World} {h : Heap} : SetM w (h.push { cls := .type "set", dict := none, data := .set #[] 0 (.fresh 0 0 (!w.params.followText "set-order")) }) h.objs.size [] := by
  refine ⟨_, #[], 0, _, Heap.get?_push_size _ rfl, ⟨rfl, rfl, rfl⟩, rfl, fun _ m => by simp at m, by simp, List.nodup_nil, by decide, by rfl, List.Pairwise.nil, ?_⟩
  show _ ∨ (!w.params.followText "set-order") = true
  cases w.params.followText "set-order"
  · exact .inr rfl
  · exact .inl rfl
theorem SetM.is_set {w : World} {h : Heap} {a : Addr} {ks : List L2.Key} (R : SetM w h a ks) : ∃ o : Obj, h.get? a = some o ∧ o.ExactSet := by
  obtain ⟨o, _, _, _, ho, hx, _⟩ := R
  exact ⟨o, ho, hx⟩
/-- found.add(k) -/
def rSAddM (w : World) : V → List V → Hp → VK → Prop := fun x xs H Q => ∃ (a : Addr) (k : L2.Key) (ks : List L2.Key), x = V.ref a ∧ xs = [kV k] ∧ H a = some (SetMO w a ks) ∧ ks.length + 1 < scanBound ∧ Q .non (upd H a (SetMO w a (addM ks k)))
theorem kV_key {k : L2.Key} {u : Value} (r : RelV (kV k) u) : keyIs k u = true := by
  cases k with
  | inl i =>
    obtain ⟨t, rfl⟩ := r
    exact keyIs_int i t
  | inr x =>
    obtain ⟨t, rfl⟩ := r
    exact keyIs_str x t
theorem mt_saddM {X : Cx} : MtR X "set.add" (rSAddM X.w) := by
  intro pins s σ H x xs v us Q I rx rxs h
  obtain ⟨a, k, ks, rfl, rfl, ha, room, q⟩ := h
  cases rx
  cases rxs with
  | @cons _ u _ _ ry rt =>
    cases rt
    have hk := kV_key ry
    have R := setM_get I ha
    obtain ⟨o, ho, hx⟩ := R.is_set
    have hT : s.heap.SetOf (mixKind X.prog X.w) a (fun k => ks.any fun j => decide (j = k)) ks.length := by
      obtain ⟨o, es, ep, t, ho, hx, hd, g, pm, nd, b, f, _⟩ := R
      refine ⟨o, es, ep, t, ho, hx, hd, goodM_elems g, fun k => ?_, b, f, ?_⟩
      · rw [List.any_eq_true]
        constructor
        · rintro ⟨j, m, e⟩
          obtain ⟨e2, m2, q⟩ := List.mem_map.mp (pm.mem_iff.mpr m)
          refine ⟨e2, m2, ((g e2 m2).is k).mpr ?_⟩
          rw [q]; exact of_decide_eq_true e
        · rintro ⟨e2, m2, q⟩
          exact ⟨k, pm.mem_iff.mp (List.mem_map.mpr ⟨e2, m2, keyM_of q⟩), decide_eq_true rfl⟩
      · rw [← pm.length_eq, List.length_map, Array.length_toList]
    refine wpAny_call_entry F.slot_set_add hT.typeIs F.entry_set_add ?_ (F.args_set_add_2 _ _)
    unfold Builtin.«set.add» Builtin.Frozenset.oneOther
    simp only [List.isEmpty_nil, bind_assoc]
    unfold Builtin.Frozenset.addrOf setAdd
    refine wpAny_bind (wpAny_pure ?_)
    try dsimp only
    refine wpAny_bind (wpAny_pure ?_)
    try dsimp only
    refine wpAny_bind ?_
    refine wpAny_holding ?_
    refine wpAny_bind ((mixKind X.prog X.w).pyHash hk ?_)
    refine addM_hashed (P := X.prog) (s := { s with toks := s.toks + 1 }) hk R room fun b h' sb new => ?_
    show wpAny _ _ (ret Value.none) _ _ _
    have he : ∃ u, h'.get? a = some u := by
      obtain ⟨o, ho, _⟩ := new.is_set
      exact ⟨o, ho⟩
    exact wpAny_pure ⟨_, rfl, .non, upd H a (SetMO X.w a (addM ks k)), I.write (e := a) (t' := s.toks + 1) (by rw [ha]; trivial) (.inl rfl) (fun b u hb hu => (sb.2 b hb).trans hu) he (setM_ok new), rfl, q⟩
end IP
namespace IP
open PySem PySem.Spec L2
open PyProof.Rows hiding St
/-! ### set(xs) of a list or tuple of keys -/
def addKs (acc ks : List L2.Key) : List L2.Key := ks.foldl addM acc
theorem addKs_snoc (acc ks : List L2.Key) (k : L2.Key) : addKs acc (ks ++ [k]) = addM (addKs acc ks) k := by
  simp [addKs, List.foldl_append]
theorem addM_le (acc : List L2.Key) (k : L2.Key) : (addM acc k).length ≤ acc.length + 1 := by
  unfold addM; split <;> simp
theorem addKs_len (acc ks : List L2.Key) : (addKs acc ks).length ≤ acc.length + ks.length := by
  induction ks generalizing acc with
  | nil => simp [addKs]
  | cons k ks ih =>
    have h1 := ih (addM acc k)
    have h2 := addM_le acc k
    show (addKs (addM acc k) ks).length ≤ _
    simp only [List.length_cons]
    omega
section
variable {P : Program} {w : World} {A : Around} {E : Value → Shared → Prop} {s : Shared}
theorem set_update_M {I : Addr} {fp wr : List Addr} {G : Array GenState → Array GenState → Prop} {n : Nat} {Pv : Nat → Value → Prop} {St : Nat → Shared → Prop} {R : Result → Shared → Prop}
    (W : WalksS P w A.in1 I fp wr G n Pv St) (S : Addr) (hSf : S ∉ fp) (ks : List L2.Key) (hn : n = ks.length) (hb : ks.length + 1 < scanBound) (hval : ∀ i v, Pv i v → ∃ k, ks[i]? = some k ∧ keyIs k v = true) :
    ∀ (k i : Nat) (s : Shared), n - i = k → i ≤ n → St i s → SetM w s.heap S (addKs [] (ks.take i)) →
      (∀ s', Moved (S :: wr) G s s' → SetM w s'.heap S (addKs [] ks) → R (.ok (.ret .none)) s') →
      codeAny (model P w) A (.builtin "set.update.loop" ⟨[.ref S, .ref I], []⟩) R s := by
  have hSw : S ∉ wr := fun h => hSf (W.sub _ h)
  have hsub : ∀ b ∈ wr, b ∈ S :: wr := fun b hb => List.mem_cons_of_mem _ hb
  intro k
  induction k with
  | zero =>
    intro i s hk' hi hst hS hR
    have hin : i = n := by omega
    subst hin
    refine codeAny_builtin F.entry_set_update_loop ?_
    rw [Around.under_plainId F.plain_set_update_loop _]
    show wpAny _ A.in1 (pyNext (.ref I) >>= _) _ _ s
    refine wpAny_bind (W.done s _ _ hst fun s' hm => ?_)
    show wpAny _ A.in1 (ret Value.none) _ _ s'
    have e : ks.take i = ks := List.take_of_length_le (by omega)
    rw [e] at hS
    exact wpAny_pure (hR s' (hm.mono hsub) (hS.at fun o e => hm.heap S o hSw e))
  | succ k ih =>
    intro i s hk' hi hst hS hR
    have hlt : i < n := by omega
    refine codeAny_builtin F.entry_set_update_loop ?_
    rw [Around.under_plainId F.plain_set_update_loop _]
    show wpAny _ A.in1 (pyNext (.ref I) >>= _) _ _ s
    refine wpAny_bind (W.item i s _ _ hlt hst fun v s' hP hst' hm => ?_)
    obtain ⟨z, hz, hkv⟩ := hval i v hP
    have hS' : SetM w s'.heap S (addKs [] (ks.take i)) := hS.at fun o e => hm.heap S o hSw e
    show wpAny _ A.in1 (holding [v] (setAdd S v) >>= _) _ _ s'
    refine wpAny_bind (wpAny_holding ?_)
    unfold setAdd
    refine wpAny_holding ?_
    refine wpAny_bind ((mixKind P w).pyHash hkv ?_)
    have hle : (addKs [] (ks.take i)).length ≤ i := by
      have := addKs_len [] (ks.take i)
      rw [List.length_take] at this
      simp at this; omega
    refine addM_hashed (s := { s' with toks := s'.toks + 1 }) hkv hS' (by omega) fun b h' hsb hS2 => ?_
    have hS3 : SetM w h' S (addKs [] (ks.take (i + 1))) := by
      rw [List.take_add_one, hz]
      rw [show (some z).toList = [z] from rfl, addKs_snoc]
      exact hS2
    refine wpAny_pure ⟨plainId_quiet F.plain_set_update_loop _, ih (i + 1) _ (by omega) hlt (W.frame _ s' _ _ hst' (Nat.le_succ _) fun b hb o e => ?_) hS3 fun s'' hm'' hS'' => ?_⟩
    · rw [hsb.2 b (fun h : b = S => hSf (by rw [← h]; exact hb))]; exact e
    · refine hR s'' (Moved.trans W.gtrans ((hm.mono hsub).then_heap (Nat.le_succ _) fun b o hb e => ?_) hm'') hS''
      rw [hsb.2 b (fun h : b = S => hb (by rw [h]; exact List.mem_cons_self))]; exact e

/-- set(xs) of a list whose items are keys -/
theorem call_set_keys {l : Addr} {items : Array Value} {ks : List L2.Key} {Q : Value → Shared → Prop} (hh : A.handled = none) (hl : s.heap.IsList l items) (hsz : items.size = ks.length)
    (hi : ∀ (i : Nat) (v : Value), items[i]? = some v → ∃ k, ks[i]? = some k ∧ keyIs k v = true) (hb : ks.length + 1 < scanBound)
    (h : ∀ (h' : Heap) (tk : Nat), SetM w h' s.heap.objs.size (addKs [] ks) → (∀ b o, s.heap.get? b = some o → h'.get? b = some o) → Q (.ref s.heap.objs.size) { s with heap := h', toks := tk }) :
    wpAny (model P w) A (call (.type "set") [.ref l]) Q E s := by
  obtain ⟨c, tl, hmro⟩ := F.called_set.mro
  have hmade := F.called_set.made
  have hsub := F.called_set.sub
  refine wpAny_call (codeAny_of_tree ?_)
  show wpAny _ _ (callAny (.type "set") _) _ _ _
  refine wpAny_pure ⟨Code.quiet_builtin _ (by decide +kernel), codeAny_builtin F.entry_type_call ?_⟩
  rw [Around.under_plain (weight_type_call_type "set" [.ref l] []) rfl]
  have h1 := F.called_set.notType
  have h2 := F.called_set.canCreate
  have hct := F.typeCall_set_1 (.ref l)
  repeat (any_goals (first | assumption | wp_step))
  generalize eO : ({ cls := .type "set", dict := none, data := .set #[] 0 (.fresh 0 0 (!w.params.followText "set-order")) } : Obj) = o0 at *
  generalize eB : s.heap.push o0 = hp0
  have gS : hp0.get? s.heap.objs.size = some o0 := by rw [← eB]; exact Heap.get?_push_size _ (by rw [← eO]; rfl)
  have gz : hp0.objs.size = s.heap.objs.size + 1 := by rw [← eB]; exact Heap.size_push ..
  refine codeAny_mono (code_set_led1 (.ref l) (E := E) (Q₁ := fun obj s₁ => obj = .ref s.heap.objs.size ∧ s₁ = { s with heap := hp0 }) ⟨rfl, by rw [← eB, ← eO]⟩) fun r s₁ hr => ?_
  cases r with
  | error e => exact hr
  | ok fl =>
    cases fl with
    | ret obj =>
      obtain ⟨rfl, rfl⟩ := hr
      have hT : Shared.TypeIs { s with heap := hp0 } (.ref s.heap.objs.size) "set" := ⟨_, gS, by rw [← eO]⟩
      have hli := F.called_set.init.lookup
      have hbi := F.called_set.init.bind (.ref s.heap.objs.size)
      repeat (any_goals (first | assumption | wp_step))
      refine codeAny_mono (codeAny_call_builtin (R := wants (fun r s₂ => r = .none ∧ ∃ h' tk, s₂ = { s with heap := h', toks := tk } ∧ SetM w h' s.heap.objs.size (addKs [] ks) ∧
          (∀ b o, s.heap.get? b = some o → h'.get? b = some o)) E) F.called_set.init.plain F.entry_set_init (check_set_init_1 hT ?_)) fun r₂ s₂ hr₂ => ?_
      · obtain ⟨ol, hol, hcl, nl, hdl⟩ := hl
        obtain ⟨ocls, odict, odata, oslots⟩ := ol
        simp only at hcl hdl
        subst hcl; subst hdl
        have hol' : hp0.get? l = some { cls := .type "list", dict := odict, data := .seq items nl, slots := oslots } := by rw [← eB]; exact Heap.get?_push_of_some _ hol
        have hsls := F.sub_list_set
        have hslf := F.sub_list_frozenset
        have hne : (Value.type "list" == Value.type "dict") = false := by decide
        have hl1 : hp0.IsList l items := ⟨_, hol', rfl, nl, rfl⟩
        subst eO
        unfold Builtin.«set.__init__» noKeywords Builtin.Frozenset.updateFrom
        generalize hPI : pyIter = PI
        wp_walk
        subst hPI
        refine wpAny_pyIter_list (s := { s with heap := hp0 }) hl1 ?_
        refine wpAny_bind (wpAny_runValue ?_)
        have hlS : l < s.heap.objs.size := Heap.lt_size hol
        have hh3 : A.in1.in1.in1.handled = none := by simp [hh]
        have hneI : l ≠ hp0.objs.size := by rw [gz]; exact Nat.ne_of_lt (Nat.lt_succ_of_lt hlS)
        have hSf : s.heap.objs.size ∉ [hp0.objs.size, l] := by
          rw [gz]; simp only [List.mem_cons, List.not_mem_nil, or_false, not_or]
          exact ⟨Nat.ne_of_lt (Nat.lt_succ_self _), Nat.ne_of_gt hlS⟩
        refine set_update_M ((Walks.list hh3 _ l hneI items).toS) s.heap.objs.size hSf ks hsz hb hi (items.size - 0) 0 _ (by omega) (Nat.zero_le _)
          ⟨⟨_, Heap.get?_push_size _ rfl, rfl, rfl⟩, (hl1.push _)⟩ ?hS0 ?hR
        case hS0 =>
          have q : SetM w (s.heap.push _) s.heap.objs.size [] := setM_fresh
          rw [eB] at q
          exact q.at fun o e => Heap.get?_push_of_some _ e
        case hR =>
          intro s' hm hS'
          obtain ⟨h', g2, d', tk', os'⟩ := s'
          have eg : g2 = s.gens := hm.gens
          have ed : d' = s.drawn := hm.drawn
          have eo : os' = s.os := hm.os
          subst eg; subst ed; subst eo
          show wpAny _ _ _ _ _ _
          refine wpAny_pure ?_
          show wpAny _ _ (ret Value.none) _ _ _
          refine wpAny_pure ⟨rfl, h', tk', rfl, hS', fun b o e => ?_⟩
          have hb0 : b < s.heap.objs.size := Heap.lt_size e
          have hb1 : b ≠ s.heap.objs.size := Nat.ne_of_lt hb0
          have hb2 : b ≠ hp0.objs.size := by rw [gz]; exact Nat.ne_of_lt (Nat.lt_succ_of_lt hb0)
          exact hm.heap b o (by simp only [List.mem_cons, List.not_mem_nil, or_false, not_or]; exact ⟨hb1, hb2⟩) (Heap.get?_push_of_some _ (by rw [← eB]; exact Heap.get?_push_of_some _ e))
      · cases r₂ with
        | error e => exact hr₂
        | ok fl₂ =>
          cases fl₂ with
          | ret r =>
            obtain ⟨rfl, h', tk, rfl, hS', hk'⟩ := hr₂
            repeat (any_goals (first | assumption | wp_step))
            exact h _ _ hS' hk'
          | _ => exact hr₂.elim
    | _ => exact hr.elim
end
end IP
namespace IP
open PySem PySem.Spec L2
open PyProof.Rows hiding St
section
variable {X : Cx} {W : WX} {C : CallF} {XL : List Addr}
/-- a block of one clause, as the forms of comprehensions ask for it -/
structure Blk (X : Cx) (ok : Prop) (elt tg : Expr) (ifs : List Expr) (scope : Scope) (g : TG) (tt : TT) (te : TE) : Prop where
  ok : ok
  tgt : ∀ (s : Shared) (H : Hp) (Cc : Addr) (cl : List (Str × Addr)) (fp : List Addr), PG (X.blk s H scope (compEnvC scope cl Cc X.env) fp) tg g
  tst : ∀ (s : Shared) (H : Hp) (Cc : Addr) (cl : List (Str × Addr)) (fp : List Addr), PTs (X.blk s H scope (compEnvC scope cl Cc X.env) fp) ifs tt
  elt : ∀ (s : Shared) (H : Hp) (Cc : Addr) (cl : List (Str × Addr)) (fp : List Addr), PE (X.blk s H scope (compEnvC scope cl Cc X.env) fp) elt te
abbrev Blk1 (X : Cx) (own : List (Str × Nat)) (elt tg : Expr) (ifs : List Expr) (scope : Scope) (g : TG) (tt : TT) (te : TE) : Prop := Blk X (BlkOk X.N X.env.scope scope own) elt tg ifs scope g tt te

theorem se_lc {own : List (Str × Nat)} {tg : Tg} {it : It} {cond : EL} {elt : E} {xe xt xi : Expr} {ifs : List Expr} {scope : Scope} {pos : Pos} (hc : X.calm = true) (hN : X.N.Nodup) (ht : tgIn (own.map (·.2)) tg)
    (hi : SI X W C XL it xt xi) (b : Blk1 X own xe xt ifs scope (tGx X tg) (tCx X C cond) (tEx X C elt)) (hs : ∀ x, foldedSetIterable xi X.env x = pure x) :
    SE X W C XL (.lc (own.map (·.2)) tg it cond elt) (.ListComp xe [⟨xt, xi, ifs, 0⟩] scope pos) :=
  PE.weak (pe_lc hc hN hi b.ok b.tgt b.tst b.elt hs) fun σ H Q ⟨ca, L, env, st, R0, h⟩ => lc_rel ht R0 h

/-! ### how many different ones -/
/-- the objects of a block's iterator, kept behind a step -/
theorem pins_kept {fp : List Addr} {h : Heap} {Y : Cx} {pins : List (Addr × Obj)} {σ : L2.St} {H : Hp} {s : Shared} (I : Inv Y (pins ++ pinsAt fp h) σ H s) : ∀ b ∈ fp, ∀ o, h.get? b = some o → s.heap.get? b = some o ∧ H b = none := fun b hb o e =>
  have q := I.pin (b, o) (List.mem_append_right _ (List.mem_append_right _ (mem_pinsAt hb e)))
  ⟨q.1, q.2.1⟩
def tKs (w : World) (wi : TI) (g : TG) (tt : TT) (te : TE) (vs : List Nat) : TE := fun σ H Q => wi σ H fun J H1 => ∀ D, H1 D = none → ∃ V : Nat → Nat → Hp → Prop, (∃ m, V 0 m (upd H1 D (SetMO w D []))) ∧
  ∀ i m H, V i m H → (J.stop i H ∧ Q (.ref D) H) ∨ (J.go i H ∧ ∃ Nx : Hp → Prop, (∀ H', Nx H' → ∃ m', m' < m ∧ V (i + 1) m' H') ∧ ∀ x H', J.yld i H x H' → g x (L2.wipe σ vs) H' fun σ2 H2 => L2.wipe σ2 vs = L2.wipe σ vs ∧
    tt σ2 H2 fun b H3 => if b = true then te σ2 H3 fun y H4 => rSAddM w (.ref D) [y] H4 (fun _ => Nx) else Nx H3)
section
variable {pins : List (Addr × Obj)} {s : Shared} {σ : L2.St} {H : Hp} {Q : VK} {elt tg iter : Expr} {ifs : List Expr} {scope : Scope} {own : List (Str × Nat)} {pos pos' : Pos} {wi : TI} {g : TG} {tt : TT} {te : TE} {use : Option (Value → Sem Unit)} {Qf : Value → Shared → Prop}
theorem ks_core (hc : X.calm = true) (hN : X.N.Nodup) (I : Inv X pins σ H s) (hi : PI X tg iter wi) (bl : Blk1 X own elt tg ifs scope g tt te) (hs : ∀ x, foldedSetIterable iter X.env x = pure x) (h : tKs X.w wi g tt te (own.map (·.2)) σ H Q)
    (fin : ∀ D Cc s' m H', Inv X pins σ H' s' → Q (.ref D) H' → s'.heap.Ns Cc m → FpOk X pins H' Cc → compPost (model X.prog X.w) X.A X.xe use Qf (.ref D) Cc (.ok .next) s') :
    wpAny (model X.prog X.w) X.A (comprehension (.SetComp elt [⟨tg, iter, ifs, 0⟩] scope pos) scope X.env pos' (newSet (.type "set")) false (eval iter X.env) use) Qf X.xe s := by
  have seen : ∀ y ∈ scope.names, y.2 = .free → ∃ c, X.env.cells.lookup y.1 = some c := fun y m e => (bl.ok.free y m e).elim (fun k => I.ok.has _ (.inl k)) fun k => I.ok.has _ (.inr k)
  apply wpAny_comprehension_free (use := use) rfl hs (closure_ok seen) bl.ok.kind (fun y m e => by rw [bl.ok.uniq y m, e])
  refine thn (hi.run pins s σ H _ I h) fun _ sa ha => thn ha fun _ sb hb => ?_
  obtain ⟨itr, fp, tn, J, Hb, rfl, Ib, T, stb, fb, turns⟩ := hb
  apply PpSet.newSet_ok
  apply newEnv_comp
  obtain ⟨V, ⟨m0, v0⟩, go⟩ := turns _ (Ib.hok.fresh (Nat.le_refl sb.heap.objs.size))
  -- the set is laid
  have Ic := Ib.laid (t' := sb.toks) (fun b o e => Heap.get?_push_of_some _ e) (Nat.le_refl _) (setM_ok setM_fresh)
  generalize hHc : upd Hb sb.heap.objs.size (SetMO X.w sb.heap.objs.size []) = Hc at Ic v0
  have lt : ∀ b ∈ fp, b < sb.heap.objs.size := fun b m => by
    obtain ⟨o, e, _⟩ := T.obj _ _ stb b m
    exact Heap.lt_size e
  have Hcn : ∀ b ∈ fp, Hc b = none := fun b m => by rw [← hHc, upd_ne (Nat.ne_of_lt (lt b m))]; exact (fb b m).1
  generalize hD : sb.heap.objs.size = D at Ic v0 go hHc lt ⊢
  generalize hsc : ({ sb with heap := sb.heap.push { cls := .type "set", dict := none, data := .set #[] 0 (.fresh 0 0 (!X.w.params.followText "set-order")) } } : Shared) = sc at Ic ⊢
  have pushed : sc.heap = sb.heap.push { cls := .type "set", dict := none, data := .set #[] 0 (.fresh 0 0 (!X.w.params.followText "set-order")) } := by rw [← hsc]
  have fc : ∀ b ∈ fp, FpOk X pins Hc b ∧ b < sc.heap.objs.size := fun b m => ⟨⟨Hcn b m, (fb b m).2⟩, by rw [pushed, Heap.size_push, hD]; exact Nat.lt_succ_of_lt (lt b m)⟩
  have stc : tn 0 sc.heap := T.keep _ _ _ stb fun b _ o e => by rw [pushed]; exact Heap.get?_push_of_some _ e
  -- the block starts
  have Id := block_start Ic bl.ok hN fc
  have rt := bl.tgt sc Hc sc.heap.objs.size (cellsFrom (sc.heap.objs.size + 1) scope.names (cloFrom X.env.cells scope.names [])) fp
  have rs := bl.tst sc Hc sc.heap.objs.size (cellsFrom (sc.heap.objs.size + 1) scope.names (cloFrom X.env.cells scope.names [])) fp
  have re := bl.elt sc Hc sc.heap.objs.size (cellsFrom (sc.heap.objs.size + 1) scope.names (cloFrom X.env.cells scope.names [])) fp
  have hL : (compEnvC scope (cellsFrom (sc.heap.objs.size + 1) scope.names (cloFrom X.env.cells scope.names [])) sc.heap.objs.size X.env).locals = sc.heap.objs.size := rfl
  have std : tn 0 (pushCells (sc.heap.push { cls := .type "dict", data := .dict #[] }) scope.names) := T.keep _ _ _ stc fun b _ o e => pushCells_keeps _ _ _ _ (Heap.get?_push_of_some _ e)
  show codeAny _ _ (.compStart (.SetComp elt [⟨tg, iter, ifs, 0⟩] scope pos) 0 (.ref itr) (.ref D) (compEnvC scope (cellsFrom (sc.heap.objs.size + 1) scope.names (cloFrom X.env.cells scope.names [])) sc.heap.objs.size X.env))
    (compPost (model X.prog X.w) X.A X.xe use Qf (.ref D) sc.heap.objs.size) { sc with heap := pushCells (sc.heap.push { cls := .type "dict", data := .dict #[] }) scope.names }
  generalize compEnvC scope (cellsFrom (sc.heap.objs.size + 1) scope.names (cloFrom X.env.cells scope.names [])) sc.heap.objs.size X.env = ce at Id rt rs re hL ⊢
  have still : ∀ {τ : L2.St} {G : Hp} {t : Shared}, Inv (X.blk sc Hc scope ce fp) [] τ G t → (∀ b ∈ fp, G b = none) → ∀ b ∈ fp, FpOk (X.blk sc Hc scope ce fp) [] G b := fun It n b m =>
    ⟨n b m, (It.ok.exf b m).1, It.ok.exfs b m, .inl m, fun x c e => (It.ok.exf b m).2 x c e, fun p z => absurd (show p ∈ ([] : List (Addr × Obj)) ++ [] from z) (by simp)⟩
  refine PpSet.codeAny_compStart_set ?loop (T.self X.A 0 _ _ _ std ?loop)
  refine PpSet.compLoopS_any (fun n t => ∃ i G, Inv (X.blk sc Hc scope ce fp) [] (L2.wipe σ (own.map (·.2))) G t ∧ tn i t.heap ∧ (∀ b ∈ fp, G b = none) ∧ V i n G) ?_ m0 ⟨0, Hc, Id, std, Hcn, v0⟩
  rintro n t ⟨i, G, It, stt, nt, vt⟩
  rcases go i n G vt with ⟨stop, qf⟩ | ⟨goes, Nx, hNx, turn⟩
  · -- the end
    refine thnF (T.done (X.blk sc Hc scope ce fp) rfl rfl rfl hc i [] t _ G (fun _ _ => False) It (still It nt) stt stop) fun r u ⟨hr, Iu⟩ => ?_
    subst hr
    have free : G sc.heap.objs.size = none := hL ▸ Iu.free
    obtain ⟨m, hm, _⟩ := Iu.loc
    have hm : u.heap.Ns ce.locals m := hm
    rw [hL] at hm
    exact fin D sc.heap.objs.size u m G (Ic.call' (ch := fp) Iu.os Iu.base Iu.hok Iu.bare fun b mb => ⟨(fc b mb).1.2.2.2.1, (fc b mb).1.2.1, (fc b mb).1.2.2.2.2.1, (fc b mb).1.2.2.2.2.2⟩) qf hm (Ic.fpOk (Nat.le_refl _) free)
  · -- a turn
    refine thnF (T.item (X.blk sc Hc scope ce fp) rfl rfl rfl hc i [] t _ G (fun _ _ => False) It (still It nt) stt goes) fun r u ⟨x, hr, hu⟩ => ?_
    subst hr
    refine thnF hu fun _ u1 ⟨d, G1, I1, r1, y1, st1, n1⟩ => ?_
    refine thnF (rt.run _ u1 _ G1 d x _ (I1.pinned (still I1 n1) (T.obj _ _ st1)) r1 (turn d G1 y1)) fun _ u2 ⟨τ, G2, I2, w2, q2⟩ => ?_
    have next : ∀ {u' : Shared} {G' : Hp}, Inv (X.blk sc Hc scope ce fp) ([] ++ pinsAt fp u1.heap) τ G' u' → Nx G' → ∃ m, m < n ∧ ∃ i G, Inv (X.blk sc Hc scope ce fp) [] (L2.wipe σ (own.map (·.2))) G u' ∧ tn i u'.heap ∧ (∀ b ∈ fp, G b = none) ∧ V i m G := fun {u' G'} I' nx => by
      obtain ⟨m, lm, vm⟩ := hNx G' nx
      have kept := pins_kept I'
      refine ⟨m, lm, i + 1, G', (I'.unpinned (pins := [])).weak (by rw [← w2, wipe_length]) (fun j v e => (wipe_some (by rw [w2]; exact e)).1), T.keep _ _ _ st1 fun b mb o e => (kept b mb o e).1, fun b mb => ?_, vm⟩
      obtain ⟨o, e, _⟩ := T.obj _ _ st1 b mb
      exact (kept b mb o e).2
    refine thnF (rs.run _ u2 τ G2 _ I2 q2) fun b u3 ⟨G3, I3, q3⟩ => ?_
    cases b with
    | false =>
      rw [if_neg Bool.false_ne_true] at q3
      rw [if_neg Bool.false_ne_true]
      exact next I3 q3
    | true =>
      rw [if_pos rfl] at q3
      rw [if_pos rfl]
      refine thnF (re.run _ u3 τ G3 _ I3 q3) fun z u4 ⟨y, G4, I4, r4, q4⟩ => ?_
      exact wpAny_mono (mt_saddM (X := X.blk sc Hc scope ce fp) _ u4 τ G4 (.ref D) [y] (.ref D) [z] _ I4 rfl (.cons r4 .nil) q4) (fun _ u5 ⟨_, G5, I5, _, nx⟩ => next I5 nx) fun _ _ z => z.elim
theorem pe_ks (hc : X.calm = true) (hN : X.N.Nodup) (hi : PI X tg iter wi) (bl : Blk1 X own elt tg ifs scope g tt te) (hs : ∀ x, foldedSetIterable iter X.env x = pure x) :
    PE X (.SetComp elt [⟨tg, iter, ifs, 0⟩] scope pos) (tKs X.w wi g tt te (own.map (·.2))) := by
  refine ⟨fun pins s σ H Q I h => ?_⟩
  rw [PpSet.eval_SetComp]
  refine ks_core hc hN I hi bl hs h fun D Cc s' m G I' q hm f => ⟨m, hm, fun h'' sb => ?_⟩
  exact ⟨.ref D, G, I'.turned (t' := s'.toks) (fun b o hb e => (sb.2 b hb).trans e) f.1 f.2.1 f.2.2.2.1 f.2.2.2.2.1 f.2.2.2.2.2, rfl, q⟩
end
end
end IP
namespace IP
open PySem PySem.Spec L2
open PyProof.Rows hiding St
/-! ### keys, each once -/
theorem loopE_pre {t : Env → Store → R Bool} {e : Env → Store → R D} {tg : Tg} {env : Env} : ∀ {xs acc : List D} {st st' : Store} {ys : List D}, loopE t e tg env xs acc st = .ok ys st' → ∃ zs, ys = acc ++ zs
  | [], acc, st, st', ys, h => by
    rw [loopE] at h
    cases h
    exact ⟨[], by simp⟩
  | x :: xs, acc, st, st', ys, h => by
    rw [loopE] at h
    cases e1 : bindT tg x env with
    | none => rw [e1] at h; cases h
    | some env' =>
      rw [e1] at h
      replace h : ((t env' st).quiet.bind fun b st1 => match b with
        | true => (e env' st1).quiet.bind fun y st2 => match decide (acc.length < LINE) with
          | true => loopE t e tg env xs (acc ++ [y]) st2
          | false => .stuck
        | false => loopE t e tg env xs acc st1) = .ok ys st' := h
      cases e2 : t env' st with
      | exc _ _ => rw [e2] at h; cases h
      | stuck => rw [e2] at h; cases h
      | ok b st1 =>
        rw [e2] at h
        cases b with
        | false => exact loopE_pre (xs := xs) h
        | true =>
          replace h : ((e env' st1).quiet.bind fun y st2 => match decide (acc.length < LINE) with
            | true => loopE t e tg env xs (acc ++ [y]) st2
            | false => .stuck) = .ok ys st' := h
          cases e3 : e env' st1 with
          | exc _ _ => rw [e3] at h; cases h
          | stuck => rw [e3] at h; cases h
          | ok y st2 =>
            rw [e3] at h
            replace h : (match decide (acc.length < LINE) with
              | true => loopE t e tg env xs (acc ++ [y]) st2
              | false => .stuck) = .ok ys st' := h
            cases e4 : decide (acc.length < LINE) with
            | false => rw [e4] at h; cases h
            | true =>
              rw [e4] at h
              obtain ⟨zs, rfl⟩ := loopE_pre (xs := xs) h
              exact ⟨y :: zs, by simp⟩
theorem keysD_cons {x : D} {r : List D} {ks : List L2.Key} (h : keysD (x :: r) = some ks) : ∃ k ks', keyD x = some k ∧ keysD r = some ks' ∧ ks = k :: ks' := by
  rw [keysD] at h
  cases e1 : keyD x with
  | none => rw [e1] at h; cases h
  | some k =>
    cases e2 : keysD r with
    | none => rw [e1, e2] at h; cases h
    | some ks' => rw [e1, e2] at h; cases h; exact ⟨k, ks', rfl, rfl, rfl⟩
theorem keysD_app : ∀ {a b : List D} {ks : List L2.Key}, keysD (a ++ b) = some ks → ∃ k1 k2, keysD a = some k1 ∧ keysD b = some k2 ∧ ks = k1 ++ k2
  | [], b, ks, h => ⟨[], ks, rfl, h, rfl⟩
  | x :: a, b, ks, h => by
    obtain ⟨k, ks', e1, e2, rfl⟩ := keysD_cons h
    obtain ⟨k1, k2, e3, e4, rfl⟩ := keysD_app e2
    exact ⟨k :: k1, k2, by rw [keysD, e1, e3], e4, rfl⟩
theorem addKeys_app : ∀ (a b acc : List L2.Key), addKeys (a ++ b) acc = addKeys b (addKeys a acc)
  | [], b, acc => rfl
  | k :: a, b, acc => by
    rw [List.cons_append, addKeys, addKeys]
    cases acc.any fun j => decide (j = k) with
    | true => exact addKeys_app a b acc
    | false => exact addKeys_app a b _
theorem addKeys_len : ∀ (a acc : List L2.Key), (addKeys a acc).length ≤ acc.length + a.length
  | [], acc => by rw [addKeys]; simp
  | k :: a, acc => by
    rw [addKeys]
    cases acc.any fun j => decide (j = k) with
    | true => have := addKeys_len a acc; simp only [List.length_cons]; omega
    | false => have := addKeys_len a (acc ++ [k]); simp only [List.length_append, List.length_cons, List.length_nil] at this ⊢; omega
/-- what a set of the keys knows, and how many it has -/
def hasKey (ks : List L2.Key) (k : L2.Key) : Bool := (addKeys ks []).any fun j => decide (j = k)
theorem addKeys_addM (ks : List L2.Key) (k : L2.Key) : addKeys (ks ++ [k]) [] = addM (addKeys ks []) k := by
  rw [addKeys_app, addKeys]
  unfold addM
  cases (addKeys ks []).any fun j => decide (j = k) <;> rfl
theorem addKeys_snoc (ks : List L2.Key) (k : L2.Key) : addKeys (ks ++ [k]) [] = if hasKey ks k = true then addKeys ks [] else addKeys ks [] ++ [k] := by
  rw [addKeys_app, addKeys]
  unfold hasKey
  cases h : (addKeys ks []).any fun j => decide (j = k) with
  | true => rw [if_pos rfl]; rfl
  | false => rw [if_neg Bool.false_ne_true]; rfl
theorem hasKey_snoc (ks : List L2.Key) (k : L2.Key) : hasKey (ks ++ [k]) = fun j => hasKey ks j || decide (j = k) := by
  funext j
  show ((addKeys (ks ++ [k]) []).any fun i => decide (i = j)) = _
  rw [addKeys_snoc]
  by_cases h : hasKey ks k = true
  · rw [if_pos h]
    show hasKey ks j = _
    by_cases e : j = k
    · subst e; rw [h]; rfl
    · rw [decide_eq_false e, Bool.or_false]
  · rw [if_neg h, List.any_append]
    show (hasKey ks j || _) = _
    congr 1
    simp [eq_comm]
theorem lenKeys_snoc (ks : List L2.Key) (k : L2.Key) : (addKeys (ks ++ [k]) []).length = if hasKey ks k = true then (addKeys ks []).length else (addKeys ks []).length + 1 := by
  rw [addKeys_snoc]
  split
  · rfl
  · simp
theorem keyD_V {K : PySem.W.Frag} {N : List Addr} {H : Hp} {d : D} {v : V} {k : L2.Key} (h : DV K N H d v) (e : keyD d = some k) : v = kV k := by
  cases d with
  | int i => cases e; cases h; rfl
  | str s => cases e; cases h; rfl
  | _ => cases e
section
variable {X : Cx} {W : WX} {C : CallF} {XL : List Addr}
/-- len of a set of keys -/
def rLenK (w : World) : List V → Hp → VK → Prop := fun xs H Q => ∃ a ks, xs = [V.ref a] ∧ H a = some (SetMO w a ks) ∧ Q (.int ks.length) H
theorem c_lenK : CallR X (.builtin "len") (rLenK X.w) := by
  intro pins s σ H xs us Q I r ⟨a, ks, ex, ha, q⟩
  subst ex
  cases r with
  | cons h t =>
    cases t
    obtain rfl : _ = Value.ref a := h
    obtain ⟨o, es, ep, t, ho, hx, hd, _, pm, _, hb, hf, _⟩ := setM_get I ha
    have hb : es.size < 4096 := hb
    have hn : es.size = ks.length := by rw [← pm.length_eq, List.length_map, Array.length_toList]
    refine call_len_set ho hx hd hf (by omega) ?_
    rw [hn]
    exact ⟨.int ks.length, H, I.tok _, ⟨_, rfl⟩, q⟩
end
end IP
namespace IP
open PySem PySem.Spec L2
open PyProof.Rows hiding St
section
variable {X : Cx} {W : WX} {C : CallF} {XL : List Addr}
theorem Rel.heldK {K : PySem.W.Frag} {Dl : Addr} {o : HO} {ca L : List Addr} {env : Env} {st : Store} {σ : L2.St} {H : Hp} (r : Rel K (Dl :: XL) ca L env st σ H) : Rel K (Dl :: XL) ca L env st σ (upd H Dl o) := r.held
theorem ks_relG {G : List L2.Key → Bool} {F : List L2.Key → D} (hG : ∀ ks, G ks = true → ks.length < 4000) {P : VK} {own : List Nat} {tg : Tg} {it : It} {cond : EL} {elt : E} (ht : tgIn own tg) {σ : L2.St} {H : Hp} {Q : VK} {ca L : List Addr} {env : Env} {st : Store} (R0 : Rel X.K XL ca L env st σ H)
    (hP : ∀ (a : Addr) (ks : List L2.Key) (N : List Addr) (H' : Hp), H' a = some (SetMO X.w a (addKeys ks [])) → G ks = true → Tr N H' → (∀ v' H2, Grow H' H2 → DV X.K N H2 (F ks) v' → Q v' H2) → P (.ref a) H')
    (h : Fin X W XL L env σ ca H (DV X.K) Q ((evi C it env st).bind fun xs st1 => match ownFree env own with
      | false => .stuck
      | true => (loopE (fun e s => evc C cond e s) (fun e s => ev C elt e s) tg (wipeE env own) xs [] st1).bind fun ys st2 => R.of ((keysD ys).bind fun ks => ifs (G ks) (F ks)) st2)) :
    tKs X.w (tI X W C XL it) (tGx X tg) (tCx X C cond) (tEx X C elt) own σ H P := by
  refine ⟨ca, L, env, st, R0, (Fin.bind (rel := ItR X.K) h).mono fun J H1 ⟨ca1, st1, xs, R1, S1, hJ, h1⟩ => ?_⟩
  intro Dl hD
  cases hf : ownFree env own with
  | false => rw [hf] at h1; exact h1.elim
  | true =>
  rw [hf] at h1
  replace h1 : Fin X W XL L env σ ca1 H1 (DV X.K) Q ((loopE (fun e s => evc C cond e s) (fun e s => ev C elt e s) tg (wipeE env own) xs [] st1).bind fun ys st2 => R.of ((keysD ys).bind fun ks => ifs (G ks) (F ks)) st2) := h1
  cases hlp : loopE (fun e s => evc C cond e s) (fun e s => ev C elt e s) tg (wipeE env own) xs [] st1 with
  | exc z s' =>
    exfalso
    have : ∀ (xs acc : List D) (st : Store), loopE (fun e s => evc C cond e s) (fun e s => ev C elt e s) tg (wipeE env own) xs acc st ≠ .exc z s' := by
      intro xs
      induction xs with
      | nil => intro acc st q; rw [loopE] at q; cases q
      | cons x xs ih =>
        intro acc st q
        rw [loopE] at q
        cases e1 : bindT tg x (wipeE env own) with
        | none => rw [e1] at q; cases q
        | some env' =>
          rw [e1] at q
          replace q : ((evc C cond env' st).quiet.bind fun b st1 => match b with
            | true => (ev C elt env' st1).quiet.bind fun y st2 => match decide (acc.length < LINE) with
              | true => loopE (fun e s => evc C cond e s) (fun e s => ev C elt e s) tg (wipeE env own) xs (acc ++ [y]) st2
              | false => .stuck
            | false => loopE (fun e s => evc C cond e s) (fun e s => ev C elt e s) tg (wipeE env own) xs acc st1) = .exc z s' := q
          cases e2 : evc C cond env' st with
          | exc _ _ => rw [e2] at q; cases q
          | stuck => rw [e2] at q; cases q
          | ok b s1 =>
            rw [e2] at q
            cases b with
            | false => exact ih _ _ q
            | true =>
              replace q : ((ev C elt env' s1).quiet.bind fun y st2 => match decide (acc.length < LINE) with
                | true => loopE (fun e s => evc C cond e s) (fun e s => ev C elt e s) tg (wipeE env own) xs (acc ++ [y]) st2
                | false => .stuck) = .exc z s' := q
              cases e3 : ev C elt env' s1 with
              | exc _ _ => rw [e3] at q; cases q
              | stuck => rw [e3] at q; cases q
              | ok y s2 =>
                rw [e3] at q
                replace q : (match decide (acc.length < LINE) with
                  | true => loopE (fun e s => evc C cond e s) (fun e s => ev C elt e s) tg (wipeE env own) xs (acc ++ [y]) s2
                  | false => .stuck) = .exc z s' := q
                cases e4 : decide (acc.length < LINE) with
                | false => rw [e4] at q; cases q
                | true => rw [e4] at q; exact ih _ _ q
    exact this _ _ _ hlp
  | stuck => rw [hlp] at h1; exact h1.elim
  | ok ys stE =>
  rw [hlp] at h1
  replace h1 : Fin X W XL L env σ ca1 H1 (DV X.K) Q (R.of ((keysD ys).bind fun ks => ifs (G ks) (F ks)) stE) := h1
  obtain ⟨dz, ez, h1⟩ := R.of_ok h1
  cases ek : keysD ys with
  | none => rw [ek] at ez; cases ez
  | some ks =>
  rw [ek] at ez
  obtain ⟨l0, rfl⟩ := ifs_some (show ifs (G ks) (F ks) = some dz from ez)
  have l1 := hG ks l0
  refine ⟨fun i m H => m = xs.length - i ∧ i ≤ xs.length ∧ ∃ ca2 st2 acc kk, Rel X.K (Dl :: XL) ca2 L (wipeE env own) st2 (L2.wipe σ own) H ∧ Step [] ca1 H1 [] ca2 H ∧ keysD acc = some kk ∧ H Dl = some (SetMO X.w Dl (addKeys kk [])) ∧
    loopE (fun e s => evc C cond e s) (fun e s => ev C elt e s) tg (wipeE env own) (xs.drop i) acc st2 = .ok ys stE, ⟨xs.length, by simp, Nat.zero_le _, ca1, st1, [], [], ?_, Step.grow (Grow.upd hD), rfl, upd_same, hlp⟩, ?_⟩
  · have r := R1.hold (o := SetMO X.w Dl []) hD
    exact ⟨r.env.wipe hf, r.cells, r.nd, r.tr⟩
  rintro i m H2 ⟨rfl, hi, ca2, st2, acc, kk, R2, S2, hkk, hDl, hl⟩
  have kp : Kp (IP.own XL L ca1) H1 (IP.own (Dl :: XL) L ca2) H2 := by
    have k := (S2.toL (L := L)).kp (XL := XL)
    exact ⟨k.stay, fun a e n q => by
      rcases List.mem_cons.mp q with rfl | q
      · rw [hD] at e; cases e
      · exact k.out a e n q⟩
  by_cases hlt : i < xs.length
  · refine .inr ⟨hJ.go _ H2 i kp hlt, fun H3 => ∃ ca3 st3 acc3 kk3, Rel X.K (Dl :: XL) ca3 L (wipeE env own) st3 (L2.wipe σ own) H3 ∧ Step [] ca1 H1 [] ca3 H3 ∧ keysD acc3 = some kk3 ∧ H3 Dl = some (SetMO X.w Dl (addKeys kk3 [])) ∧
      loopE (fun e s => evc C cond e s) (fun e s => ev C elt e s) tg (wipeE env own) (xs.drop (i + 1)) acc3 st3 = .ok ys stE, fun H3 q => ⟨xs.length - (i + 1), by omega, rfl, hlt, q⟩, fun x H3 y => ?_⟩
    obtain ⟨d, ed, gr, hd⟩ := hJ.yld _ H2 i x H3 kp R2.trN hlt y
    have hdr : xs.drop i = d :: xs.drop (i + 1) := by
      rw [List.getElem?_eq_some_iff] at ed
      obtain ⟨q1, q2⟩ := ed
      rw [List.drop_eq_getElem_cons q1, q2]
    rw [hdr, loopE] at hl
    cases eb : bindT tg d (wipeE env own) with
    | none => rw [eb] at hl; cases hl
    | some env' =>
      rw [eb] at hl
      have R3 := R2.grow gr
      have S3 : Step [] ca1 H1 [] ca2 H3 := S2.trans (Step.grow gr)
      have hDl3 := gr _ _ hDl
      refine ⟨Dl :: XL, ca2, L, wipeE env own, st2, d, env', R3, hd, eb, tg_free hf ht, fun σ' R4 ⟨ws, eσ⟩ => ⟨?_, ?_⟩⟩
      · rw [eσ]
        cases tg with
        | n i => exact wipe_set ht
        | t is => exact wipe_sets ht (wipe_wipe σ)
      refine ⟨Dl :: XL, ca2, L, env', st2, R4, ?_⟩
      replace hl : ((evc C cond env' st2).quiet.bind fun b st1 => match b with
        | true => (ev C elt env' st1).quiet.bind fun y st2 => match decide (acc.length < LINE) with
          | true => loopE (fun e s => evc C cond e s) (fun e s => ev C elt e s) tg (wipeE env own) (xs.drop (i + 1)) (acc ++ [y]) st2
          | false => .stuck
        | false => loopE (fun e s => evc C cond e s) (fun e s => ev C elt e s) tg (wipeE env own) (xs.drop (i + 1)) acc st1) = .ok ys stE := hl
      cases ec : evc C cond env' st2 with
      | exc z s' => rw [ec] at hl; cases hl
      | stuck => rw [ec] at hl; cases hl
      | ok b st3 =>
      rw [ec] at hl
      intro ca4 b' H4 R5 S5 eb'
      cases eb'
      have hDl4 := S5.stay _ _ hDl3 fun z => by
        have := (List.nodup_cons.mp R4.nd).1
        exact this (List.mem_append_right _ (List.mem_append_right _ (by simpa using z)))
      have S6 : Step [] ca1 H1 [] ca4 H4 := S3.trans S5
      cases b with
      | false =>
        rw [if_neg Bool.false_ne_true]
        exact ⟨ca4, st3, acc, kk, R3.back S5 R5, S6, hkk, hDl4, hl⟩
      | true =>
        rw [if_pos rfl]
        refine ⟨Dl :: XL, ca4, L, env', st3, R5, ?_⟩
        replace hl : ((ev C elt env' st3).quiet.bind fun y st2 => match decide (acc.length < LINE) with
          | true => loopE (fun e s => evc C cond e s) (fun e s => ev C elt e s) tg (wipeE env own) (xs.drop (i + 1)) (acc ++ [y]) st2
          | false => .stuck) = .ok ys stE := hl
        cases ee : ev C elt env' st3 with
        | exc z s' => rw [ee] at hl; cases hl
        | stuck => rw [ee] at hl; cases hl
        | ok y st4 =>
        rw [ee] at hl
        intro ca5 w H5 R6 S7 hw
        have hDl5 := S7.stay _ _ hDl4 fun z => by
          have := (List.nodup_cons.mp R5.nd).1
          exact this (List.mem_append_right _ (List.mem_append_right _ (by simpa using z)))
        replace hl : (match decide (acc.length < LINE) with
          | true => loopE (fun e s => evc C cond e s) (fun e s => ev C elt e s) tg (wipeE env own) (xs.drop (i + 1)) (acc ++ [y]) st4
          | false => .stuck) = .ok ys stE := hl
        cases el : decide (acc.length < LINE) with
        | false => rw [el] at hl; cases hl
        | true =>
        rw [el] at hl
        replace hl : loopE (fun e s => evc C cond e s) (fun e s => ev C elt e s) tg (wipeE env own) (xs.drop (i + 1)) (acc ++ [y]) st4 = .ok ys stE := hl
        obtain ⟨zs, eys⟩ := loopE_pre hl
        have ek2 := ek
        rw [eys] at ek2
        obtain ⟨k1, k2, e1, e2, e3⟩ := keysD_app ek2
        obtain ⟨k3, k4, e4, e5, e6⟩ := keysD_app e1
        rw [hkk] at e4
        cases e4
        obtain ⟨k, k5, ey, e7, e8⟩ := keysD_cons e5
        cases e7
        subst e8
        have hlen : (addKeys kk []).length + 1 < 4096 := by
          have q := addKeys_len kk []
          have : ks.length = (kk ++ [k]).length + k2.length := by rw [e3, e6, List.length_append]
          simp at this q
          omega
        have ew := keyD_V hw ey
        subst ew
        have S8 := S5.trans S7
        refine ⟨Dl, k, addKeys kk [], rfl, rfl, hDl5, hlen, ?_⟩
        have R7 := (R3.back S8 R6).held (o := SetMO X.w Dl (addM (addKeys kk []) k))
        have S9 := S6.trans S7
        refine ⟨ca5, st4, acc ++ [y], kk ++ [k], R7, ⟨fun a u e n => ?_, S9.new, S9.pre, fun a e => ?_⟩, by rw [e1, e6], ?_, hl⟩
        · rw [upd_ne (ne_of_none e hD)]; exact S9.stay a u e n
        · by_cases z : a = Dl
          · subst z; rw [upd_same]; exact fun z => by cases z
          · rw [upd_ne z]; exact S9.there a e
        · rw [upd_same, addKeys_addM]
  · have e : i = xs.length := by omega
    subst e
    rw [List.drop_length, loopE] at hl
    cases hl
    rw [hkk] at ek
    cases ek
    have R3 := R1.back S2 R2.let_
    refine .inl ⟨hJ.stop _ H2 _ kp rfl, hP Dl _ (IP.own XL L ca2) H2 hDl l0 R3.trN fun v' H3 gr d => ?_⟩
    exact h1 ca2 v' H3 (R3.grow gr) (S2.trans (Step.grow gr)) d
theorem se_lensc {own : List (Str × Nat)} {tg : Tg} {it : It} {cond : EL} {elt : E} {xe xt xi : Expr} {ifs : List Expr} {scope : Scope} {pos p1 p2 : Pos} (hc : X.calm = true) (hN : X.N.Nodup) (ht : tgIn (own.map (·.2)) tg) (hg : Gl X "len") (hm : X.mg "len" = none)
    (hi : SI X W C XL it xt xi) (b : Blk1 X own xe xt ifs scope (tGx X tg) (tCx X C cond) (tEx X C elt)) (hs : ∀ x, foldedSetIterable xi X.env x = pure x) :
    SE X W C XL (.lensc (own.map (·.2)) tg it cond elt) (.Call (.Name "len" p1) [.SetComp xe [⟨xt, xi, ifs, 0⟩] scope p2] [] pos) := by
  refine PE.weak (pe_callB c_lenK hg hm rfl (pa_cons (pe_ks hc hN hi b hs) pa_nil rfl) (by decide) (by decide) rfl rfl) fun σ H Q ⟨ca, L, env, st, R0, h⟩ => ?_
  rw [ev] at h
  exact ks_relG (P := fun v H' => rLenK X.w [v] H' Q) (G := fun ks => decide (ks.length < 4000)) (F := fun ks => .int (addKeys ks []).length) (fun ks h => of_decide_eq_true h) ht R0 (fun a ks N H' ha hg tr k => ⟨a, _, rfl, ha, k _ H' (Grow.refl _) (.int _)⟩) h
end
end IP
namespace IP
open PySem PySem.Spec L2
open PyProof.Rows hiding St
/-! ### len(set(xs)) -/
theorem addKs_keys : ∀ (ks acc : List L2.Key), addKs acc ks = addKeys ks acc
  | [], acc => rfl
  | k :: ks, acc => by
    show addKs (addM acc k) ks = _
    rw [addKs_keys ks, addKeys]
    unfold addM
    cases acc.any fun j => decide (j = k) <;> rfl
theorem keys_vals {K : PySem.W.Frag} {N : List Addr} {H : Hp} : ∀ {ds : List D} {vs : List V} {ks : List L2.Key}, DVs K N H ds vs → keysD ds = some ks → vs = ks.map kV
  | _, _, _, .nil, e => by cases e; rfl
  | _, _, _, .cons h t, e => by
    obtain ⟨k, ks', e1, e2, rfl⟩ := keysD_cons e
    rw [keyD_V h e1, keys_vals t e2]
    rfl
theorem vals_key : ∀ {ks : List L2.Key} {its : List Value}, Vals (ks.map kV) its → ∀ (i : Nat) (v : Value), its[i]? = some v → ∃ k, ks[i]? = some k ∧ keyIs k v = true
  | [], _, r, i, v, e => by cases r; simp at e
  | k :: ks, _, r, i, v, e => by
    cases r with
    | cons h t =>
      cases i with
      | zero => simp at e; subst e; exact ⟨k, rfl, kV_key h⟩
      | succ i => exact vals_key (ks := ks) t i v (by simpa using e)
def rMkSet (K : PySem.W.Frag) (w : World) : List V → Hp → VK → Prop := fun xs H Q => ∃ q ks, xs = [V.ref q] ∧ SqL K H q (ks.map kV) ∧ ks.length < 4000 ∧ ∀ l, H l = none → Q (.ref l) (upd H l (SetMO w l (addKeys ks [])))
section
variable {X : Cx} {W : WX} {C : CallF} {XL : List Addr} {a : E} {x : Expr} {pos p1 p2 p3 : Pos}
theorem c_mkset (hc : X.calm = true) : CallR X (.type "set") (rMkSet X.K X.w) := by
  intro pins s σ H xs us Q I r ⟨q, ks, ex, hq, hz, k⟩
  subst ex
  cases r with
  | cons h t =>
    cases t
    obtain rfl : _ = Value.ref q := h
    obtain ⟨its, rv, hl, _⟩ := I.list hq
    have hlen : its.length = ks.length := by rw [← rv.length, List.length_map]
    refine call_set_keys (ks := ks) (I.ok.hd hc) hl.isList (by rw [List.size_toArray]; exact hlen) (fun i v e => vals_key rv i v (by simpa using e)) (by show _ < 4096; omega) fun h' tk R kp => ?_
    rw [addKs_keys] at R
    exact ⟨.ref s.heap.objs.size, upd H s.heap.objs.size (SetMO X.w s.heap.objs.size (addKeys ks [])), I.laid (t' := tk) (fun b u e => kp b u e) (Nat.le_refl _) (setM_ok R), rfl, k _ (I.hok.fresh (Nat.le_refl _))⟩
theorem se_lenset (hc : X.calm = true) (hg : Gl X "len") (hm : X.mg "len" = none) (hg2 : Gl X "set") (hm2 : X.mg "set" = none) (ha : SE X W C XL a x) (hs : ∀ xs, starEach (x :: xs) X.env = (false, eval x X.env) :: starEach xs X.env) :
    SE X W C XL (.lenset a) (.Call (.Name "len" p1) [.Call (.Name "set" p2) [x] [] p3] [] pos) := by
  refine PE.weak (pe_callB c_lenK hg hm rfl (pa_cons (pe_callTy (c_mkset hc) hg2 hm2 rfl (pa_cons ha pa_nil (hs _)) (by decide) (by decide) (hs _) rfl) pa_nil rfl) (by decide) (by decide) rfl rfl) fun σ H Q ⟨ca, L, env, st, R0, h⟩ => ?_
  rw [ev] at h
  refine ⟨ca, L, env, st, R0, (Fin.bind (rel := DV X.K) h).mono fun v H1 ⟨ca1, st1, p, R1, S1, hp, h1⟩ => ?_⟩
  cases p with
  | list ds =>
    obtain ⟨d, e, h2⟩ := R.of_ok h1
    cases ek : keysD ds with
    | none => rw [ek] at e; cases e
    | some ks =>
      rw [ek] at e
      obtain ⟨l1, rfl⟩ := ifs_some (show ifs (decide (ks.length < 4000)) (PyData.int (addKeys ks []).length) = some d from e)
      obtain ⟨q, vs, rfl, hq, nq, tq⟩ := hp.lstS
      have := keys_vals tq ek
      subst this
      refine ⟨q, ks, rfl, .of hq, of_decide_eq_true l1, fun l nl => ⟨l, _, rfl, upd_same, ?_⟩⟩
      exact h2.grown R1 (Grow.upd nl) (.int _)
  | _ => exact h1.elim
end
end IP
namespace IP
open PySem PySem.Spec L2
open PyProof.Rows hiding St
/-! ### sorted -/
section
variable {K : PySem.W.Frag} {N : List Addr} {H : Hp}
theorem tup1_ok {d : D} (h : tup1 d = true) : ∃ x r, d = .tuple (x :: r) := by
  unfold tup1 at h
  split at h
  · exact ⟨_, _, rfl⟩
  · cases h
theorem flat1_ok {d : D} (h : flat1 d = true) : d ≠ .none ∧ ∀ xs, d ≠ .tuple xs := by
  unfold flat1 at h
  split at h
  · cases h
  · cases h
  · rename_i h1 h2; exact ⟨h1, h2⟩
theorem sortB_ok {xs : List D} (h : sortB xs = true) : PySem.W.AllAlike xs ∧ PySem.W.Sortable xs ∧ noDicts xs = true ∧ PyData.depthAll xs ≤ 100 := by
  unfold sortB at h
  simp only [Bool.and_eq_true, Bool.or_eq_true, List.all_eq_true] at h
  obtain ⟨⟨⟨h1, h2⟩, h3⟩, h4⟩ := h
  refine ⟨fun d m d' m' => h1 d m d' m', ?_, h3, of_decide_eq_true h4⟩
  rcases h2 with h2 | h2
  · exact .inl fun d m => tup1_ok (h2 d m)
  · exact .inr fun d m => flat1_ok (h2 d m)
theorem depth_mem : ∀ {xs : List D} {d : D}, d ∈ xs → d.depth ≤ PyData.depthAll xs
  | x :: xs, d, h => by
    simp only [PyData.depthAll]
    rcases List.mem_cons.mp h with rfl | h
    · omega
    · have := depth_mem h; omega
theorem DVs.zip : ∀ {ds : List D} {vs : List V}, DVs K N H ds vs → (ds.zip vs).map (·.1) = ds ∧ (ds.zip vs).map (·.2) = vs ∧ ∀ b ∈ ds.zip vs, DV K N H b.1 b.2
  | _, _, .nil => ⟨rfl, rfl, fun b m => by simp at m⟩
  | _, _, .cons h t => by
    obtain ⟨a, b, c⟩ := t.zip
    refine ⟨by simp [a], by simp [b], fun q m => ?_⟩
    rw [List.zip_cons_cons] at m
    rcases List.mem_cons.mp m with rfl | m
    · exact h
    · exact c q m
theorem DVs.unzip : ∀ {bs : List (D × V)}, (∀ b ∈ bs, DV K N H b.1 b.2) → DVs K N H (bs.map (·.1)) (bs.map (·.2))
  | [], _ => .nil
  | b :: r, h => .cons (h b List.mem_cons_self) (DVs.unzip fun q m => h q (List.mem_cons_of_mem _ m))
theorem noDicts_mem' : ∀ {xs : List D} {d : D}, noDicts xs = true → d ∈ xs → noDict d = true
  | x :: xs, d, h, m => by
    rw [noDicts, Bool.and_eq_true] at h
    rcases List.mem_cons.mp m with rfl | m
    · exact h.1
    · exact noDicts_mem' h.2 m
end
/-- sorted(xs): xs reads as data that are alike -/
def rSortL (K : PySem.W.Frag) : List V → Hp → VK → Prop := fun vs H Q => ∃ N q ds ws, vs = [V.ref q] ∧ SqL K H q ws ∧ DVs K N H ds ws ∧ Tr N H ∧ sortB ds = true ∧
  ∀ l ws', H l = none → DVs K N (upd H l (.lst ws')) (sortL ds) ws' → Q (.ref l) (upd H l (.lst ws'))
section
variable {X : Cx} {k : Nat}
theorem each_rel {pins : List (Addr × Obj)} {σ : L2.St} {H : Hp} {s : Shared} {N : List Addr} (I : Inv X pins σ H s) : ∀ {ds : List D} {ws : List V} {its : List Value}, DVs X.K N H ds ws → noDicts ds = true → Vals ws its →
    PySem.W.EachIs (fun u (b : D × V) => RelV b.2 u) its (ds.zip ws) ∧ PySem.W.EachIs (fun u (b : D × V) => ∃ as, PySem.Reads s.heap u b.1 as) its (ds.zip ws)
  | _, _, _, .nil, _, r => by cases r; exact ⟨.nil, .nil⟩
  | _, _, _, .cons h t, n, r => by
    cases r with
    | cons h1 t1 =>
      rw [noDicts, Bool.and_eq_true] at n
      obtain ⟨a, b⟩ := each_rel I t n.2 t1
      exact ⟨.cons h1 a, .cons (Dp.reads I _ _ _ (h.dp _ n.1) h1) b⟩
theorem each_vals : ∀ {out : List Value} {bs : List (D × V)}, PySem.W.EachIs (fun u (b : D × V) => RelV b.2 u) out bs → Vals (bs.map (·.2)) out
  | _, _, .nil => .nil
  | _, _, .cons h t => .cons h (each_vals t)
theorem c_sortL (hr : Room k X.A) : CallR X (.builtin "sorted") (rSortL X.K) := by
  intro pins s σ H vs us Q I r ⟨N, q, ds, ws, e, hq, hd, tr, hb, kk⟩
  subst e
  cases r with
  | cons h t =>
    cases t
    obtain rfl : _ = Value.ref q := h
    obtain ⟨its, rv, hl, hz⟩ := I.list hq
    obtain ⟨b1, b2, b3, b4⟩ := sortB_ok hb
    obtain ⟨e1, e2⟩ := each_rel I hd b3 rv
    obtain ⟨z1, z2, z3⟩ := hd.zip
    have hu := hr.un
    have hlen : (ds.zip ws).length ≤ sizeLine := by
      rw [← e1.length, ← rv.length]
      exact hz
    refine PySem.W.sorted_data (enc := fun b : D × V => b.1) (bs := ds.zip ws) hl.isList e1 e2 (by rw [z1]; exact b1) (by rw [z1]; exact b2) hlen (fun b m => ?_) fun out ho eo => ?_
    · have : b.1 ∈ ds := by rw [← z1]; exact List.mem_map.mpr ⟨b, m, rfl⟩
      have := depth_mem this
      omega
    · obtain ⟨ep, he'⟩ := PyProof.Rows.sortedAll_at s.heap its out.toArray
      have ev' := each_vals eo
      generalize hbs : (ds.zip ws).mergeSort (PySem.W.dataLe false fun b : D × V => b.1) = bs at eo ev'
      have hp : bs.Perm (ds.zip ws) := by rw [← hbs]; exact List.mergeSort_perm _ _
      have hds : bs.map (·.1) = sortL ds := by
        rw [← hbs]
        unfold sortL
        rw [List.map_mergeSort (s := PySem.W.dataLe false id)]
        · rw [z1]
        · intro a _ b _
          rfl
      have np := I.hok.fresh (Nat.le_succ s.heap.objs.size)
      have hdv : DVs X.K N (upd H (s.heap.objs.size + 1) (.lst (bs.map (·.2)))) (sortL ds) (bs.map (·.2)) := by
        rw [← hds]
        exact (DVs.unzip fun b m => z3 b (hp.mem_iff.mp m)).grow (Grow.upd np)
      refine ⟨.ref _, upd H (s.heap.objs.size + 1) (.lst (bs.map (·.2))), I.laid (t' := s.toks) (fun _ _ => PyProof.Rows.sortedAll_old) (Nat.le_succ _) ⟨?_, out, ep, ev', he'⟩, rfl, kk _ _ np hdv⟩
      rw [List.length_map, hp.length_eq]
      exact hlen
variable {W : WX} {C : CallF} {XL : List Addr} {a : E} {x : Expr} {pos p1 : Pos}
theorem se_sort (hr : Room k X.A) (hg : Gl X "sorted") (hm : X.mg "sorted" = none) (ha : SE X W C XL a x) (hs : ∀ xs, starEach (x :: xs) X.env = (false, eval x X.env) :: starEach xs X.env) :
    SE X W C XL (.sort a) (.Call (.Name "sorted" p1) [x] [] pos) := by
  refine PE.weak (pe_callB (c_sortL hr) hg hm rfl (pa_cons ha pa_nil (hs _)) (by decide) (by decide) (hs _) rfl) fun σ H Q ⟨ca, L, env, st, R0, h⟩ => ?_
  rw [ev] at h
  refine ⟨ca, L, env, st, R0, (Fin.bind (rel := DV X.K) h).mono fun v H1 ⟨ca1, st1, p, R1, S1, hp, h1⟩ => ?_⟩
  cases p with
  | list ds =>
    obtain ⟨d, e, h2⟩ := R.of_ok h1
    obtain ⟨l1, rfl⟩ := ifs_some e
    obtain ⟨q, vs, rfl, hq, nq, tq⟩ := hp.lstS
    refine ⟨_, q, ds, vs, rfl, .of hq, tq, R1.trN, l1, fun l ws' nl td => ?_⟩
    exact h2.grown R1 (Grow.upd nl) (.lst upd_same (fun m => R1.trN l m nl) td)
  | _ => exact h1.elim
end
end IP
namespace IP
open PySem PySem.Spec L2
open PyProof.Rows hiding St
/-! ### sorted(set(..)), sorted({..}): ints -/
theorem insI_mem (z k : Int) : ∀ l : List Int, k ∈ insI z l ↔ k = z ∨ k ∈ l
  | [] => by simp [insI]
  | a :: r => by
    unfold insI
    split
    · simp
    · split
      · rename_i h; subst h; simp
      · rw [List.mem_cons, insI_mem z k r, List.mem_cons]
        constructor
        · rintro (h | h | h) <;> simp [h]
        · rintro (h | h | h) <;> simp [h]
theorem insI_srt (z : Int) : ∀ l : List Int, l.Pairwise (· < ·) → (insI z l).Pairwise (· < ·)
  | [], _ => by simp [insI]
  | a :: r, h => by
    have h0 := List.pairwise_cons.mp h
    unfold insI
    split
    · rename_i hz
      refine List.pairwise_cons.mpr ⟨fun k m => ?_, h⟩
      rcases List.mem_cons.mp m with rfl | m
      · exact hz
      · exact Int.lt_trans hz (h0.1 k m)
    · split
      · exact h
      · rename_i h1 h2
        refine List.pairwise_cons.mpr ⟨fun k m => ?_, insI_srt z r h0.2⟩
        rcases (insI_mem z k r).mp m with rfl | m
        · omega
        · exact h0.1 k m
theorem sInts_mem (k : Int) : ∀ l : List Int, k ∈ sInts l ↔ k ∈ l
  | [] => by simp [sInts]
  | a :: r => by rw [sInts, insI_mem, sInts_mem k r, List.mem_cons]
theorem sInts_srt : ∀ l : List Int, (sInts l).Pairwise (· < ·)
  | [] => List.Pairwise.nil
  | a :: r => insI_srt a _ (sInts_srt r)
theorem srt_unique : ∀ {a b : List Int}, a.Pairwise (· < ·) → b.Pairwise (· < ·) → (∀ k, k ∈ a ↔ k ∈ b) → a = b
  | [], [], _, _, _ => rfl
  | [], y :: ys, _, _, h => by have := (h y).mpr List.mem_cons_self; simp at this
  | x :: xs, [], _, _, h => by have := (h x).mp List.mem_cons_self; simp at this
  | x :: xs, y :: ys, ha, hb, h => by
    have a0 := List.pairwise_cons.mp ha
    have b0 := List.pairwise_cons.mp hb
    have e : x = y := by
      rcases List.mem_cons.mp ((h x).mp List.mem_cons_self) with e | m
      · exact e
      · rcases List.mem_cons.mp ((h y).mpr List.mem_cons_self) with e | m2
        · exact e.symm
        · have := b0.1 x m
          have := a0.1 y m2
          omega
    subst e
    rw [srt_unique a0.2 b0.2 fun k => ?_]
    constructor
    · intro m
      rcases List.mem_cons.mp ((h k).mp (List.mem_cons_of_mem _ m)) with rfl | m2
      · have := a0.1 k m; omega
      · exact m2
    · intro m
      rcases List.mem_cons.mp ((h k).mpr (List.mem_cons_of_mem _ m)) with rfl | m2
      · have := b0.1 k m; omega
      · exact m2
theorem addKeys_mem (k : L2.Key) : ∀ (ks acc : List L2.Key), k ∈ addKeys ks acc ↔ k ∈ ks ∨ k ∈ acc
  | [], acc => by rw [addKeys]; simp
  | j :: ks, acc => by
    rw [addKeys]
    cases e : acc.any fun i => decide (i = j) with
    | true =>
      show k ∈ addKeys ks acc ↔ _
      rw [addKeys_mem k ks acc, List.mem_cons]
      obtain ⟨i, m, q⟩ := List.any_eq_true.mp e
      have q := of_decide_eq_true q
      subst q
      constructor
      · rintro (h | h)
        · exact .inl (.inr h)
        · exact .inr h
      · rintro ((rfl | h) | h)
        · exact .inr m
        · exact .inl h
        · exact .inr h
    | false =>
      show k ∈ addKeys ks (acc ++ [j]) ↔ _
      rw [addKeys_mem k ks (acc ++ [j]), List.mem_cons, List.mem_append, List.mem_singleton]
      constructor
      · rintro (h | h | h)
        · exact .inl (.inr h)
        · exact .inr h
        · exact .inl (.inl h)
      · rintro ((h | h) | h)
        · exact .inr (.inr h)
        · exact .inl h
        · exact .inr (.inl h)
/-- sorted of a set of ints -/
def rSortM (w : World) : List V → Hp → VK → Prop := fun vs H Q => ∃ (a : Addr) (ks : List L2.Key), vs = [V.ref a] ∧ H a = some (SetMO w a (addKeys ks [])) ∧ sB ks = true ∧
  ∀ p, H p = none → Q (.ref p) (upd H p (.lst ((sInts (ks.map leftK)).map V.int)))
theorem sB_ok {ks : List L2.Key} (h : sB ks = true) : ks.length < 64 ∧ ∀ k ∈ ks, k = .inl (leftK k) := by
  unfold sB at h
  rw [Bool.and_eq_true] at h
  refine ⟨of_decide_eq_true h.1, fun k m => ?_⟩
  have := List.all_eq_true.mp h.2 k m
  cases k with
  | inl i => rfl
  | inr x => cases this
theorem setR_of {w : World} {h : Heap} {a : Addr} {ks : List L2.Key} (hl : ∀ k ∈ ks, k = .inl (leftK k)) (R : SetM w h a (addKeys ks [])) : SetR w h a (fun k => decide (k ∈ ks.map leftK)) (addKeys ks []).length := by
  obtain ⟨o, es, ep, t, ho, hx, hd, hg, pm, nd, hb, hf, hr, hled⟩ := R
  have key : ∀ e ∈ es.toList, keyM e = .inl (keyOf e) ∧ GoodE e := fun e m => by
    obtain ⟨k, h1, h2⟩ := hg e m
    have e1 := keyM_of h1
    have mk : keyM e ∈ addKeys ks [] := pm.mem_iff.mp (List.mem_map.mpr ⟨e, m, rfl⟩)
    rw [addKeys_mem] at mk
    have mk : keyM e ∈ ks := by simpa using mk
    have e2 := hl _ mk
    rw [e1] at e2
    rcases keyIs_shape h1 with ⟨i, t, rfl, e3⟩ | ⟨x, t, rfl, e3⟩
    · refine ⟨?_, i, t, e3, by rw [h2]; rfl⟩
      rw [e1]
      unfold keyOf
      rw [e3]
    · cases e2
  have em : es.toList.map keyM = (es.toList.map keyOf).map Sum.inl := by
    rw [List.map_map]
    exact List.map_congr_left fun e m => (key e m).1
  refine ⟨o, es, ep, t, ho, hx, hd, fun e m => (key e m).2, ?_, fun k => ?_, hb, hf, ?_, hr, hled⟩
  · have : (es.toList.map keyM).Nodup := pm.nodup_iff.mpr nd
    rw [em] at this
    exact List.Pairwise.of_map Sum.inl (fun x y hxy e => hxy (congrArg _ e)) this
  · rw [decide_eq_true_eq]
    have e1 : k ∈ es.toList.map keyOf ↔ (Sum.inl k : L2.Key) ∈ es.toList.map keyM := by
      rw [em]
      constructor
      · intro m; exact List.mem_map.mpr ⟨k, m, rfl⟩
      · intro m
        obtain ⟨j, m, e⟩ := List.mem_map.mp m
        cases e
        exact m
    rw [e1, pm.mem_iff, addKeys_mem]
    constructor
    · intro m
      obtain ⟨j, mj, rfl⟩ := List.mem_map.mp m
      exact .inl (by rw [← hl j mj]; exact mj)
    · rintro (m | m)
      · exact List.mem_map.mpr ⟨_, m, rfl⟩
      · simp at m
  · rw [← pm.length_eq, List.length_map, Array.length_toList]
section
variable {X : Cx} {W : WX} {C : CallF} {XL : List Addr} {a : E} {x : Expr} {pos p1 p2 p3 : Pos}
theorem c_sortM (hc : X.calm = true) : CallR X (.builtin "sorted") (rSortM X.w) := by
  intro pins s σ H vs us Q I r ⟨a, ks, e, ha, hs, q⟩
  subst e
  obtain ⟨h64, hl⟩ := sB_ok hs
  have R := setR_of hl (setM_get I ha)
  rw [Vals.ref1 r]
  have h64' : (addKeys ks []).length < 64 := by
    have := addKeys_len ks []
    simp at this
    omega
  refine sorted_set R (I.ok.hd hc) h64' fun s' p out c ns k g o hp hg hi hs2 hm hl2 => ?_
  have hlen : (ns.map V.int).length ≤ sizeLine := by rw [List.length_map, hl2, sizeLine_eq]; omega
  have hn : H p = none := I.hok.fresh hp
  have en : ns = sInts (ks.map leftK) := srt_unique hs2 (sInts_srt _) fun j => by rw [hm, sInts_mem, decide_eq_true_eq]
  subst en
  have J : Inv X pins σ (upd H p (.lst ((sInts (ks.map leftK)).map V.int))) { s with heap := s'.heap, gens := s'.gens, drawn := s'.drawn, toks := s'.toks } :=
    I.call (ch := []) (Un.laid k hp hn) (I.hok.laid k hp ⟨hlen, out.toList, c, vals_of_ints hi, hg⟩) (by rw [g]; exact I.bare) (fun _ z => nomatch z)
  have e : s' = { s with heap := s'.heap, gens := s'.gens, drawn := s'.drawn, toks := s'.toks } := by
    cases s'
    cases s
    cases o
    rfl
  rw [e]
  exact ⟨.ref p, _, J, rfl, q p hn⟩
theorem ints_dvs {K : PySem.W.Frag} {N : List Addr} {H : Hp} : ∀ zs : List Int, DVs K N H (zs.map PyData.int) (zs.map V.int)
  | [] => .nil
  | z :: r => .cons (.int z) (ints_dvs r)
theorem se_sortset (hc : X.calm = true) (hg : Gl X "sorted") (hm : X.mg "sorted" = none) (hg2 : Gl X "set") (hm2 : X.mg "set" = none) (ha : SE X W C XL a x) (hs : ∀ xs, starEach (x :: xs) X.env = (false, eval x X.env) :: starEach xs X.env) :
    SE X W C XL (.sortset a) (.Call (.Name "sorted" p1) [.Call (.Name "set" p2) [x] [] p3] [] pos) := by
  refine PE.weak (pe_callB (c_sortM hc) hg hm rfl (pa_cons (pe_callTy (c_mkset hc) hg2 hm2 rfl (pa_cons ha pa_nil (hs _)) (by decide) (by decide) (hs _) rfl) pa_nil rfl) (by decide) (by decide) rfl rfl) fun σ H Q ⟨ca, L, env, st, R0, h⟩ => ?_
  rw [ev] at h
  refine ⟨ca, L, env, st, R0, (Fin.bind (rel := DV X.K) h).mono fun v H1 ⟨ca1, st1, p, R1, S1, hp, h1⟩ => ?_⟩
  cases p with
  | list ds =>
    obtain ⟨d, e, h2⟩ := R.of_ok h1
    cases ek : keysD ds with
    | none => rw [ek] at e; cases e
    | some ks =>
      rw [ek] at e
      obtain ⟨l1, rfl⟩ := ifs_some (show ifs (sB ks) (sF ks) = some d from e)
      obtain ⟨q, vs, rfl, hq, nq, tq⟩ := hp.lstS
      have := keys_vals tq ek
      subst this
      refine ⟨q, ks, rfl, .of hq, by have := (sB_ok l1).1; omega, fun l nl => ⟨l, ks, rfl, upd_same, l1, fun p np => ?_⟩⟩
      have n1 : H1 p = none := by
        by_cases z : p = l
        · rw [z]; exact nl
        · rwa [upd_ne z] at np
      exact h2.grown R1 ((Grow.upd nl).trans (Grow.upd np)) (.lst upd_same (fun m => R1.trN p m n1) (ints_dvs _))
  | _ => exact h1.elim
theorem se_sortsc {own : List (Str × Nat)} {tg : Tg} {it : It} {cond : EL} {elt : E} {xe xt xi : Expr} {ifs : List Expr} {scope : Scope} (hc : X.calm = true) (hN : X.N.Nodup) (ht : tgIn (own.map (·.2)) tg) (hg : Gl X "sorted") (hm : X.mg "sorted" = none)
    (hi : SI X W C XL it xt xi) (b : Blk1 X own xe xt ifs scope (tGx X tg) (tCx X C cond) (tEx X C elt)) (hs : ∀ x, foldedSetIterable xi X.env x = pure x) :
    SE X W C XL (.sortsc (own.map (·.2)) tg it cond elt) (.Call (.Name "sorted" p1) [.SetComp xe [⟨xt, xi, ifs, 0⟩] scope p2] [] pos) := by
  refine PE.weak (pe_callB (c_sortM hc) hg hm rfl (pa_cons (pe_ks hc hN hi b hs) pa_nil rfl) (by decide) (by decide) rfl rfl) fun σ H Q ⟨ca, L, env, st, R0, h⟩ => ?_
  rw [ev] at h
  exact ks_relG (P := fun v H' => rSortM X.w [v] H' Q) (G := sB) (F := sF) (fun ks h => by have := (sB_ok h).1; omega) ht R0 (fun a ks N H' ha hg tr k => ⟨a, ks, rfl, ha, hg, fun p np => k _ _ (Grow.upd np) (.lst upd_same (fun m => tr p m np) (ints_dvs _))⟩) h
theorem se_sortsc' {own : List (Str × Nat)} {ns : List Nat} (e : own.map (·.2) = ns) {tg : Tg} {it : It} {cond : EL} {elt : E} {xe xt xi : Expr} {ifs : List Expr} {scope : Scope} (hc : X.calm = true) (hN : X.N.Nodup) (ht : tgIn ns tg) (hg : Gl X "sorted") (hm : X.mg "sorted" = none)
    (hi : SI X W C XL it xt xi) (b : Blk1 X own xe xt ifs scope (tGx X tg) (tCx X C cond) (tEx X C elt)) (hs : ∀ x, foldedSetIterable xi X.env x = pure x) :
    SE X W C XL (.sortsc ns tg it cond elt) (.Call (.Name "sorted" p1) [.SetComp xe [⟨xt, xi, ifs, 0⟩] scope p2] [] pos) := by
  subst e
  exact se_sortsc hc hN ht hg hm hi b hs
end
end IP
namespace IP
open PySem PySem.Spec L2
open PyProof.Rows hiding St
/-! ### arguments -/
section
variable {K : PySem.W.Frag} {N N' ca ca' XL L : List Addr} {H H' : Hp} {env : Env} {st st' : Store} {σ : L2.St}
theorem own_inj {c1 c2 : List Addr} (h : own XL L c1 = own XL L c2) : c1 = c2 := List.append_cancel_left (List.append_cancel_left h)
/-- slots that hold nothing of their own, for values -/
def SlsR (K : PySem.W.Frag) (XL L N : List Addr) (H : Hp) (sl : List Slot) (vs : List V) : Prop := ∀ ca, N = own XL L ca → EnvR K N ca H sl (vs.map some) []
theorem Step.kpE (x : Step [] ca H [] ca' H') : Kp (own XL L ca) H (own XL L ca') H' := (x.toL (L := L)).kp (XL := XL)
theorem EnvR.moved {sl : Env} {τ : L2.St} (x : Step [] ca H [] ca' H') (h : EnvR K (own XL L ca) ca H sl τ []) : EnvR K (own XL L ca') ca' H' sl τ [] := (h.keep x.kpE (fun _ _ m => by simp at m)).caMono x.pre
/-- a new shared list -/
theorem Rel.newCell {p : Addr} {ds : List D} {vs : List V} (r : Rel K XL ca L env st σ H) (hp : H p = none) (t : DVs K (own XL L ca) H ds vs) :
    Rel K XL (ca ++ [p]) L env (st ++ [.ml ds]) σ (upd H p (.lst vs)) ∧ Step [] ca H [] (ca ++ [p]) (upd H p (.lst vs)) := by
  have g : Grow H (upd H p (.lst vs)) := Grow.upd hp
  have s : Step [] ca H [] (ca ++ [p]) (upd H p (.lst vs)) := ⟨fun a o e _ => g a o e, fun a m => by
    rcases List.mem_append.mp (show a ∈ ca ++ [p] by simpa using m) with m | m
    · exact .inl (by simpa using m)
    · simp at m; subst m; exact .inr hp, List.prefix_append _ _, (Step.grow g : Step [] ca H [] ca _).there⟩
  have kp := s.kpE (XL := XL) (L := L)
  refine ⟨⟨(r.env.keep kp fun a u _ e => g a u e).caMono s.pre, ?_, ?_, r.tr.grow g⟩, s⟩
  · have h1 := r.cells.keep kp fun a u _ e => g a u e
    have h2 : CellR K (own XL L (ca ++ [p])) (upd H p (.lst vs)) (.ml ds) p := .ml upd_same (kp.dvs t)
    have : ∀ {st : Store} {as : List Addr} {N : List Addr} {H : Hp}, CellsR K N H st as → CellR K N H (.ml ds) p → CellsR K N H (st ++ [.ml ds]) (as ++ [p]) := by
      intro st as N H h
      induction h with
      | nil => exact fun c => .cons c .nil
      | cons h t ih => exact fun c => .cons h (ih c)
    exact this h1 h2
  · have : own XL L (ca ++ [p]) = own XL L ca ++ [p] := by simp [own, List.append_assoc]
    rw [this]
    refine List.nodup_append.mpr ⟨r.nd, by simp, fun a m b mb => ?_⟩
    simp at mb; subst mb
    exact fun e => r.trN a m (by rw [e]; exact hp)
end
section
variable (X : Cx) (W : WX) (C : CallF) (XL : List Addr)
def tAs (al : AL) : TA := fun σ H Q => ∃ ca L env st, Rel X.K XL ca L env st σ H ∧ Fin X W XL L env σ ca H (SlsR X.K XL L) Q (eva C al env st)
abbrev SAs (al : AL) (xs : List Expr) : Prop := PA X xs (tAs X W C XL al)
end
section
variable {X : Cx} {W : WX} {C : CallF} {XL : List Addr} {x : Expr} {xs : List Expr} {pos : Pos}
theorem sas_nil : SAs X W C XL .nil [] := by
  refine PA.weak pa_nil fun σ H Q ⟨ca, L, env, st, R0, h⟩ => ?_
  rw [eva] at h
  exact h.ok R0 fun _ _ => .nil
theorem sas_e {a : E} {r : AL} (ha : SE X W C XL a x) (hr : SAs X W C XL r xs) (hs : starEach (x :: xs) X.env = (false, eval x X.env) :: starEach xs X.env) : SAs X W C XL (.e a r) (x :: xs) := by
  refine PA.weak (pa_cons ha hr hs) fun σ H Q ⟨ca, L, env, st, R0, h⟩ => ?_
  rw [eva] at h
  refine ⟨ca, L, env, st, R0, (Fin.bind (rel := DV X.K) h).mono fun v H1 ⟨ca1, st1, p, R1, S1, hp, h1⟩ => ?_⟩
  refine ⟨ca1, L, env, st1, R1, (Fin.bind (rel := SlsR X.K XL L) h1).mono fun vs H2 ⟨ca2, st2, ps, R2, S2, hps, h2⟩ => ?_⟩
  refine h2.ok R2 fun c e => ?_
  cases own_inj e
  exact EnvR.cons (l := []) (.val (hp.stepE S2)) (hps _ rfl)
theorem sas_r {i : Nat} {nm : Str} {r : AL} (hN : X.N[i]? = some nm) (hv : Vis X.env.scope nm) (hd : (nm == ("__debug__" : Str)) = false) (hcd : (nm == ("__classdict__" : Str)) = false) (hr : SAs X W C XL r xs)
    (hs : starEach (.Name nm pos :: xs) X.env = (false, eval (.Name nm pos) X.env) :: starEach xs X.env) : SAs X W C XL (.r i r) (.Name nm pos :: xs) := by
  refine PA.weak (pa_cons (pe_var hN hv hd hcd) hr hs) fun σ H Q ⟨ca, L, env, st, R0, h⟩ => ?_
  rw [eva] at h
  split at h
  · rename_i k e
    obtain ⟨o, l, ho, hs, _⟩ := R0.slot e (fun z => by cases z)
    cases hs with
    | rf hk =>
      refine ⟨_, ho, ca, L, env, st, R0, (Fin.bind (rel := SlsR X.K XL L) h).mono fun vs H2 ⟨ca2, st2, ps, R2, S2, hps, h2⟩ => ?_⟩
      refine h2.ok R2 fun c e => ?_
      cases own_inj e
      exact EnvR.cons (l := []) (.caMono S2.pre (.rf hk)) (hps _ rfl)
  · rename_i ns e
    obtain ⟨o, l, ho, hs, _⟩ := R0.slot e (fun z => by cases z)
    cases hs with
    | scr hk =>
      refine ⟨_, ho, ca, L, env, st, R0, (Fin.bind (rel := SlsR X.K XL L) h).mono fun vs H2 ⟨ca2, st2, ps, R2, S2, hps, h2⟩ => ?_⟩
      refine h2.ok R2 fun c e => ?_
      cases own_inj e
      exact EnvR.cons (l := []) (.scr (hk.keep (S2.kpE (XL := XL) (L := L)).stay S2.kpE.out)) (hps _ rfl)
  · exact h.elim
theorem sas_nl {es : EL} {ys : List Expr} {r : AL} (he : SEs X W C XL es ys) (hr : SAs X W C XL r xs) (hs : starEach (.List ys pos :: xs) X.env = (false, eval (.List ys pos) X.env) :: starEach xs X.env) : SAs X W C XL (.nl es r) (.List ys pos :: xs) := by
  refine PA.weak (pa_cons (pe_lst he) hr hs) fun σ H Q ⟨ca, L, env, st, R0, h⟩ => ?_
  rw [eva] at h
  refine ⟨ca, L, env, st, R0, (Fin.bind (rel := DVs X.K) h).mono fun vs H1 ⟨ca1, st1, ps, R1, S1, hp, h1⟩ => ?_⟩
  cases el : decide (ps.length ≤ LINE) with
  | false => rw [el] at h1; exact h1.elim
  | true =>
  rw [el] at h1
  refine ⟨by rw [← hp.length, line_eq]; exact of_decide_eq_true el, fun p np => ?_⟩
  obtain ⟨R2, S2⟩ := R1.newCell np hp
  refine ⟨ca1 ++ [p], L, env, _, R2, (Fin.bind (rel := SlsR X.K XL L) (Fin.step S2 h1)).mono fun us H2 ⟨ca2, st2, qs, R3, S3, hq, h2⟩ => ?_⟩
  refine h2.ok R3 fun c e => ?_
  cases own_inj e
  refine EnvR.cons (l := []) (.caMono S3.pre (.rf ?_)) (hq _ rfl)
  rw [R1.cells.length]
  simp
end
end IP
namespace IP
open PySem PySem.Spec L2
open PyProof.Rows hiding St
/-! ### calls -/
/-- a list that nobody else holds: laid since H (or owned then), reached by nothing that is not it -/
def NewL (K : PySem.W.Frag) (N L ca : List Addr) (H H' : Hp) (st : Store) (ds : List D) (v : V) : Prop := ∃ a vs, v = .ref a ∧ (H a = none ∨ a ∈ L) ∧ H' a = some (.lst vs) ∧ a ∉ N ∧ DVs K (a :: N) H' ds vs ∧ CellsR K (a :: N) H' st ca
/-- what a def gives; fr: a list that it gives is new -/
def RetR (fr : Bool) (K : PySem.W.Frag) (N L ca : List Addr) (H H' : Hp) (st : Store) (p : D) (v : V) : Prop := DV K N H' p v ∧ (fr = true → ∀ ds, p = .list ds → NewL K N L ca H H' st ds v)
/-- the end of a call -/
def FinC (fr : Bool) (K : PySem.W.Frag) (mg : Str → Option Value) (XL ca : List Addr) (H : Hp) (Q : VK) (E : XK) : R D → Prop
  | .ok p st' => ∀ v H', CellsR K (own XL [] ca) H' st' ca → Step [] ca H [] ca H' → RetR fr K (own XL [] ca) [] ca H H' st' p v → Q v H'
  | .exc x st' => ∀ H' cls d, CellsR K (own XL [] ca) H' st' ca → Step [] ca H [] ca H' → ExR mg K (own XL [] ca) H' x cls d → E cls d H'
  | .stuck => False
/-- the promise of the f-th def -/
def spF (fr : Bool) (K : PySem.W.Frag) (mg : Str → Option Value) (C : CallF) (f : Nat) : Sp := fun vs H Q E => ∃ XL ca args st, EnvR K (own XL [] ca) ca H args (vs.map some) [] ∧ CellsR K (own XL [] ca) H st ca ∧
  (own XL [] ca).Nodup ∧ Tr XL H ∧ FinC fr K mg XL ca H Q E (C f args st)
section
variable {K : PySem.W.Frag} {N N' ca ca' XL L : List Addr} {H H' : Hp} {env : Env} {st st' : Store} {σ : L2.St} {mg : Str → Option Value}
theorem own_call : own (XL ++ L) [] ca = own XL L ca := by simp [own, List.append_assoc]
/-- behind a call -/
theorem Rel.called (r : Rel K XL ca L env st σ H) (c : CellsR K (own XL L ca) H' st' ca) (s : Step [] ca H [] ca H') : Rel K XL ca L env st' σ H' := by
  refine ⟨r.env.keep s.kpE fun a u m e => s.stay a u e fun z => ?_, c, r.nd, r.tr.step s⟩
  have nd := (List.nodup_append.mp (List.nodup_append.mp r.nd).2.1).2.2 a m a (by simpa using z)
  exact nd rfl
theorem Rel.calls (r : Rel K XL ca L env st σ H) : (own (XL ++ L) [] ca).Nodup ∧ Tr (XL ++ L) H := by
  refine ⟨by rw [own_call]; exact r.nd, fun a m => ?_⟩
  rcases List.mem_append.mp m with m | m
  · exact r.tr a m
  · exact r.env.tr a m
theorem EnvR.app {ca : List Addr} {H : Hp} : ∀ {e1 e2 : Env} {s1 s2 : L2.St}, EnvR K N ca H e1 s1 [] → EnvR K N ca H e2 s2 [] → EnvR K N ca H (e1 ++ e2) (s1 ++ s2) [] := by
  intro e1 e2 s1 s2 h
  generalize hl : ([] : List Addr) = l0 at h
  induction h with
  | nil => intro h2; exact hl ▸ h2
  | @cons s e o τ l L h t ih =>
    intro h2
    have e0 : l = [] ∧ L = [] := List.append_eq_nil_iff.mp hl.symm
    obtain ⟨rfl, rfl⟩ := e0
    exact EnvR.cons (l := []) (L := []) h (ih rfl h2)
theorem vals_env {ca : List Addr} {H : Hp} : ∀ {ds : List D} {vs : List V}, DVs K N H ds vs → EnvR K N ca H (ds.map Slot.val) (vs.map some) []
  | [], _, .nil => .nil
  | _ :: _, _, .cons h t => EnvR.cons (l := []) (.val h) (vals_env t)
end
section
variable {X : Cx} {W : WX} {C : CallF} {XL : List Addr} {x : Expr} {xs : List Expr} {pos p1 : Pos}
theorem se_call {fr : Bool} {f k : Nat} {fa : Addr} {fd : FuncData} {ps : List Str} {nm : Str} {dps : List D} {dvs : List V} {ds : List Value} {al : AL} (tk : Takes X W) (F : FnOk X.prog X.w X.K X.mg X.base (L2.CX X.prog X.w) k fa fd ps (spF fr X.K X.mg C f))
    (hr : Room k X.A) (hg : Gl X nm) (hm : X.mg nm = some (.ref fa)) (hk : PySem.W.keepIn X.K (.ref fa) = true) (hb : Binds X.K fd ps ds) (hd : Vals dvs ds) (hdd : ∀ N H, DVs X.K N H dps dvs) (ha : SAs X W C XL al (x :: xs))
    (hdb : (nm == ("__debug__" : Str)) = false) (hs : starEach (x :: xs) X.env = (false, eval x X.env) :: starEach xs X.env) (hpl : (backTo pos (starEach xs X.env)).any (·.1) = false) :
    SE X W C XL (.call f al dps) (.Call (.Name nm p1) (x :: xs) [] pos) := by
  refine PE.weak (pe_callSD (E := WE W) F hr hg hm hk hb hd (fun σ => passAt tk σ) ha hdb hs hpl) fun σ H Q ⟨ca, L, env, st, R0, h⟩ => ?_
  rw [ev] at h
  refine ⟨ca, L, env, st, R0, (Fin.bind (rel := SlsR X.K XL L) h).mono fun vs H1 ⟨ca1, st1, sl, R1, S1, hsl, h1⟩ => ?_⟩
  obtain ⟨nd, tr⟩ := R1.calls
  have he : EnvR X.K (own (XL ++ L) [] ca1) ca1 H1 (sl ++ dps.map Slot.val) ((vs ++ dvs).map some) [] := by
    rw [own_call, List.map_append]
    exact (hsl ca1 rfl).app (vals_env (hdd _ _))
  refine ⟨XL ++ L, ca1, _, st1, he, by rw [own_call]; exact R1.cells, nd, tr, ?_⟩
  · cases e : C f (sl ++ dps.map Slot.val) st1 with
    | ok p st2 =>
      rw [e] at h1
      intro v H2 c s ⟨d, _⟩
      rw [own_call] at c d
      exact h1 ca1 v H2 (R1.called c s) s d
    | exc z st2 =>
      rw [e] at h1
      intro H2 cls d c s q
      rw [own_call] at c q
      exact h1 ca1 H2 cls d (R1.called c s) s q
    | stuck => rw [e] at h1; exact h1.elim
end
end IP
namespace IP
open PySem PySem.Spec L2
open PyProof.Rows hiding St
/-! ### a, *b = a tuple -/
section
variable {prog : Program} {w : World} {A : Around} {E : Value → Shared → Prop} {s : Shared}
theorem star_items {t : Addr} {items : Array Value} {x : Value} {xs : List Value} {Q : List Value → Shared → Prop} (hh : A.handled = none) (ht : IsTup s.heap t items) (e : items.toList = x :: xs) (hz : items.size ≤ sizeLine)
    (hQ : ∀ h' tk, (∀ b o, s.heap.get? b = some o → h'.get? b = some o) → wpAny (model prog w) A (newList xs) (fun d s' => Q [x, d] s') E { s with heap := h', toks := tk }) : wpAny (model prog w) A (unpackItems (.ref t) 2 (some 1)) Q E s := by
  have ne : t ≠ s.heap.objs.size := by
    obtain ⟨o, ho, _⟩ := ht
    exact Nat.ne_of_lt (Heap.lt_size ho)
  have sz : items.size = xs.length + 1 := by rw [← Array.length_toList, e]; rfl
  unfold unpackItems
  apply wpAny_bind
  unfold notIterableAtAll
  apply wpAny_bind (wpAny_specialOf ht.typeIs slot_tuple_iter.lookup ?_)
  apply wpAny_pure
  simp only [Bool.false_eq_true, if_false]
  apply wpAny_bind (wpAny_holding (iter_tuple ht ?_))
  apply wpAny_bind (wpAny_holding (draw_tuple ne 1 0 _ _ ⟨_, Heap.get?_push_size _ rfl, rfl, rfl⟩ (ht.push _) (by omega) fun h1 i1 k1 => ?_))
  have t1 : IsTup h1 t items := (ht.push _).extBut k1.extBut ne
  have i2 := i1
  have t2 := t1
  obtain ⟨_, g1, _⟩ := i2
  obtain ⟨_, g2, _⟩ := t2
  rw [List.drop_zero, e]
  rw [if_neg (show ¬ ((List.take 1 (x :: xs)).length < 1) from Nat.lt_irrefl 1)]
  apply wpAny_bind (wpAny_holding (PySem.W.kun_collect (s := { s with heap := h1 }) (T := "tuple_iterator") (.inr (.inr (.inr rfl))) (Walks.tuple (A := A.in1) hh s.heap.objs.size t ne items) (fun j u st => st.1.typeIs) (k := 1) (by omega) ⟨i1, t1⟩ (Heap.lt_size g1) (Heap.lt_size g2) (fun h2 tk k2 => ?_) hz))
  rw [e]
  show wpAny _ _ (if xs.length < 0 then _ else _) _ _ _
  rw [if_neg (Nat.not_lt_zero _)]
  show wpAny _ _ (newList (xs.take xs.length) >>= fun d => pure ([x] ++ [d] ++ xs.drop xs.length)) _ _ _
  rw [List.take_length, List.drop_length]
  apply wpAny_bind
  refine wpAny_mono (hQ h2 tk fun b o g => ?_) (fun d s' q => wpAny_pure q) fun _ _ z => z
  have lt := Heap.lt_size g
  exact k2 b o (Nat.ne_of_lt lt) (k1.extBut b o (Nat.ne_of_lt lt) (Heap.get?_push_of_some _ g))
end
def gStar (K : PySem.W.Frag) (t : TGs) : TG := fun v σ H Q => ∃ a x xs, v = .ref a ∧ SqT K H a (x :: xs) ∧ ∀ p, H p = none → t [x, .ref p] σ (upd H p (.lst xs)) Q
section
variable {X : Cx} {pos : Pos}
theorem pg_star {x y : Str} {p1 p2 p3 : Pos} {k : Nat} {t : TGs} (hc : X.calm = true) (h : PGs X [.Name x p1, .Name y p2] t) : PG X (.Tuple [.Name x p1, .Starred (.Name y p2) p3] k pos) (gStar X.K t) := by
  refine ⟨fun pins s σ H v u Q I r ⟨a, z, zs, e, hq, ht⟩ => ?_⟩
  subst e
  cases r
  obtain ⟨its, rv, tup, hz⟩ := I.tuple hq
  cases rv with
  | @cons _ u1 _ us r1 rs =>
    rw [assign_Tuple]
    refine wpAny_bind (wpAny_standAt ?_)
    show wpAny _ _ (holding [Value.ref a] (unpackItems (.ref a) 2 (some 1)) >>= fun vs => assignInOrder ((assignEach [.Name x p1, .Name y p2] X.env).map (·.2)) vs) _ _ _
    refine wpAny_bind (wpAny_holding (star_items (I.ok.hd hc) tup rfl (by have := rs.length; simp at hz ⊢; omega) fun h' tk kept => ?_))
    have I1 : Inv X pins σ H { s with heap := h', toks := tk } := I.kept kept
    have hzl : zs.length ≤ sizeLine := by simp at hz; omega
    refine wpAny_newObj_type ?_ (by show us.toArray.size ≤ sizeLine; rw [List.size_toArray, ← rs.length]; exact hzl)
    have fr : H h'.objs.size = none := I1.hok.fresh (Nat.le_refl _)
    have I2 : Inv X pins σ (upd H h'.objs.size (.lst zs)) { s with heap := h'.push { cls := .type "list", data := .seq us.toArray }, toks := tk } :=
      I1.laid (t' := tk) (fun b u e => Heap.get?_push_of_some _ e) (Nat.le_refl _) ⟨hzl, us, 0, rs, Heap.get?_push_size _ rfl⟩
    exact h.run pins _ σ _ [z, .ref h'.objs.size] [u1, .ref h'.objs.size] Q I2 (.cons r1 (.cons rfl .nil)) (ht _ fr)
end
end IP
namespace IP
open PySem PySem.Spec L2
open PyProof.Rows hiding St
/-! ### statements -/
section
variable (X : Cx) (W : WX) (fr : Bool) (XL : List Addr)
def FinS (ca L : List Addr) (H : Hp) (D : Ends) : RS → Prop
  | .nx env st => ∀ ca' L' σ' H', Rel X.K XL ca' L' env st σ' H' → Step L ca H L' ca' H' → D.nx σ' H'
  | .ret p st => ∀ ca' L' env' σ' v H', Rel X.K XL ca' L' env' st σ' H' → Step L ca H L' ca' H' → RetR fr X.K (own XL L' ca') L ca' H H' st p v → D.rt v H'
  | .exc x env st => ∀ ca' L' σ' H' cls d, Rel X.K XL ca' L' env st σ' H' → Step L ca H L' ca' H' → ExR X.mg X.K (own XL L' ca') H' x cls d → W cls d σ' H'
  | .stuck => False
variable (C : CallF)
def tSt (s : S) : TS := fun D σ H => ∃ ca L env st, Rel X.K XL ca L env st σ H ∧ FinS X W fr XL ca L H D (ex C s env st)
def tSs (s : SL) : TS := fun D σ H => ∃ ca L env st, Rel X.K XL ca L env st σ H ∧ FinS X W fr XL ca L H D (exs C s env st)
abbrev SS (s : S) (x : Stmt) : Prop := PS X x (tSt X W fr XL C s)
abbrev SSs (s : SL) (xs : List Stmt) : Prop := PSs X xs (tSs X W fr XL C s)
end
theorem PS.weak {X : Cx} {x : Stmt} {t t' : TS} (h : PS X x t) (k : ∀ D σ H, t' D σ H → t D σ H) : PS X x t' := ⟨fun pins s σ H Q I z => h.run pins s σ H Q I (k Q σ H z)⟩
theorem PSs.weak {X : Cx} {x : List Stmt} {t t' : TS} (h : PSs X x t) (k : ∀ D σ H, t' D σ H → t D σ H) : PSs X x t' := ⟨fun pins s σ H Q I z => h.run pins s σ H Q I (k Q σ H z)⟩
section
variable {X : Cx} {W : WX} {fr : Bool} {C : CallF} {XL L L1 ca ca1 : List Addr} {env : Env} {st : Store} {σ : L2.St} {H H1 : Hp} {D : Ends} {pos : Pos}
theorem RetR.back {L' ca' : List Addr} {H' : Hp} {p : PyData} {v : V} {K : PySem.W.Frag} (s : Step L ca H L1 ca1 H1) (S : Step L1 ca1 H1 L' ca' H') (q : RetR fr K (own XL L' ca') L1 ca' H1 H' st p v) : RetR fr K (own XL L' ca') L ca' H H' st p v := ⟨q.1, fun e ds ed => by
  obtain ⟨a, vs, h1, h2, h3, h4, h5⟩ := q.2 e ds ed
  refine ⟨a, vs, h1, ?_, h3, h4, h5⟩
  rcases h2 with h2 | h2
  · refine .inl ?_
    cases h : H a with
    | none => rfl
    | some o => exact absurd h2 (s.there a (by rw [h]; exact fun z => by cases z))
  · rcases s.new a (List.mem_append_left _ h2) with m | m
    · rcases List.mem_append.mp m with m | m
      · exact .inr m
      · exact absurd (List.mem_append_right _ (List.mem_append_right _ (S.pre.subset (s.pre.subset m)))) h4
    · exact .inl m⟩
theorem FinS.step {r : RS} (s : Step L ca H L1 ca1 H1) (h : FinS X W fr XL ca L H D r) : FinS X W fr XL ca1 L1 H1 D r := by
  cases r with
  | nx env st => exact fun ca' L' σ' H' R S => h ca' L' σ' H' R (s.trans S)
  | ret p st => exact fun ca' L' env' σ' v H' R S q => h ca' L' env' σ' v H' R (s.trans S) (q.back s S)
  | exc x env st => exact fun ca' L' σ' H' cls d R S q => h ca' L' σ' H' cls d R (s.trans S) q
  | stuck => exact h
theorem FinS.bind {α β : Type} {m : R α} {f : α → Store → RS} {rel : List Addr → Hp → α → β → Prop} (h : FinS X W fr XL ca L H D (m.toS env f)) :
    Fin X W XL L env σ ca H rel (fun b H1 => ∃ ca1 st1 a, Rel X.K XL ca1 L env st1 σ H1 ∧ Step [] ca H [] ca1 H1 ∧ rel (own XL L ca1) H1 a b ∧ FinS X W fr XL ca1 L H1 D (f a st1)) m := by
  cases m with
  | ok a st => exact fun ca' b H' R S q => ⟨ca', st, a, R, S, q, FinS.step S.toL h⟩
  | exc x st => exact fun ca' H' cls d R S q => h ca' L σ H' cls d R S.toL q
  | stuck => exact h
theorem FinS.nx' {env' : Env} {st' : Store} {σ' : L2.St} (h : FinS X W fr XL ca L H D (.nx env' st')) (R : Rel X.K XL ca1 L1 env' st' σ' H1) (s : Step L ca H L1 ca1 H1) : D.nx σ' H1 := h ca1 L1 σ' H1 R s

/-! blocks -/
theorem sss_nil : SSs X W fr XL C .nil [] := by
  refine PSs.weak pss_nil fun D σ H ⟨ca, L, env, st, R0, h⟩ => ?_
  rw [exs] at h
  exact h.nx' R0 (Step.refl _ _ _)
theorem sss_cons {s : S} {r : SL} {x : Stmt} {xs : List Stmt} (h1 : SS X W fr XL C s x) (h2 : SSs X W fr XL C r xs) : SSs X W fr XL C (.cons s r) (x :: xs) := by
  refine PSs.weak (pss_cons h1 h2) fun D σ H ⟨ca, L, env, st, R0, h⟩ => ⟨ca, L, env, st, R0, ?_⟩
  rw [exs] at h
  cases e : ex C s env st with
  | nx env1 st1 =>
    rw [e] at h
    exact fun ca' L' σ' H' R S => ⟨ca', L', env1, st1, R, FinS.step S h⟩
  | ret p st1 => rw [e] at h; exact h
  | exc x env1 st1 => rw [e] at h; exact h
  | stuck => rw [e] at h; exact h
/-! small ones -/
theorem ss_asg {i : Nat} {e : E} {nm : Str} {x : Expr} {p1 : Pos} (hN : X.N.Nodup) (hi : X.N[i]? = some nm) (hx : Loc X.env.scope nm) (hf : X.fn nm = true ∨ X.env.scope.names.lookup nm = some .local) (he : SE X W C XL e x) (hs : swapsWith x (some (.Name nm p1)) pos.line X.env = pure false) :
    SS X W fr XL C (.asg i e) (.Assign [.Name nm p1] x pos) := by
  refine PS.weak (ps_set hN hi hx he hs hf) fun D σ H ⟨ca, L, env, st, R0, h⟩ => ?_
  rw [ex] at h
  refine ⟨ca, L, env, st, R0, (FinS.bind (rel := DV X.K) h).mono fun v H1 ⟨ca1, st1, p, R1, S1, hp, h1⟩ => ?_⟩
  obtain ⟨L', R2, sub⟩ := R1.setVal (i := i) hp
  exact h1.nx' R2 (Step.less sub)
theorem ss_ret {e : E} {x : Expr} (hf : fr = false) (he : SE X W C XL e x) : SS X W fr XL C (.ret e) (.Return (some x) pos) := by
  refine PS.weak (ps_ret he) fun D σ H ⟨ca, L, env, st, R0, h⟩ => ?_
  rw [ex] at h
  refine ⟨ca, L, env, st, R0, (FinS.bind (rel := DV X.K) h).mono fun v H1 ⟨ca1, st1, p, R1, S1, hp, h1⟩ => ?_⟩
  exact h1 ca1 L env σ v H1 R1 (Step.refl _ _ _) ⟨hp, fun z => by rw [hf] at z; cases z⟩
theorem ss_retN : SS X W fr XL C .retN (.Return none pos) := by
  refine PS.weak ps_retN fun D σ H ⟨ca, L, env, st, R0, h⟩ => ?_
  rw [ex] at h
  exact h ca L env σ _ H R0 (Step.refl _ _ _) ⟨.non, fun _ _ z => by cases z⟩
theorem ss_ife {t : E} {a b : SL} {x : Expr} {xs ys : List Stmt} (ht : ST X W C XL t x) (ha : SSs X W fr XL C a xs) (hb : SSs X W fr XL C b ys) : SS X W fr XL C (.ife t a b) (.If x xs ys pos) := by
  refine PS.weak (ps_if ht ha hb) fun D σ H ⟨ca, L, env, st, R0, h⟩ => ?_
  rw [ex] at h
  refine ⟨ca, L, env, st, R0, ?_⟩
  have h' : FinS X W fr XL ca L H D ((tr1 (ev C t env st)).toS env fun k st1 => match k with
    | true => exs C a env st1
    | false => exs C b env st1) := by
    cases e : ev C t env st with
    | ok p st1 => rw [e] at h; exact h
    | exc z st1 => rw [e] at h; exact h
    | stuck => rw [e] at h; exact h
  refine (FinS.bind (rel := eqR) h').mono fun k H1 ⟨ca1, st1, k', R1, S1, ek, h1⟩ => ?_
  cases ek
  cases k with
  | true => rw [if_pos rfl]; exact ⟨ca1, L, env, st1, R1, h1⟩
  | false => rw [if_neg Bool.false_ne_true]; exact ⟨ca1, L, env, st1, R1, h1⟩
theorem ss_expr {e : E} {x : Expr} (he : SE X W C XL e x) (hs : swapsWith x none pos.line X.env = pure false) : SS X W fr XL C (.expr e) (.Expr x pos) := by
  refine PS.weak (ps_expr he hs) fun D σ H ⟨ca, L, env, st, R0, h⟩ => ?_
  rw [ex] at h
  refine ⟨ca, L, env, st, R0, (FinS.bind (rel := DV X.K) h).mono fun v H1 ⟨ca1, st1, p, R1, S1, hp, h1⟩ => ?_⟩
  exact h1.nx' R1 (Step.refl _ _ _)
theorem ss_unp {is : List Nat} {e : E} {xs : List Expr} {kk : Nat} {x : Expr} {p1 : Pos} (hc : X.calm = true) (hN : X.N.Nodup) (hn : isNames X is xs) (he : SE X W C XL e x) (hs : swapsWithSole [.Tuple xs kk p1] x pos.line X.env = pure false) (hw : swappedStores [.Tuple xs kk p1] x X.env = pure none)
    (h1 : (assignEach [.Tuple xs kk p1] X.env).map (·.2) = [assign (.Tuple xs kk p1) X.env]) : SS X W fr XL C (.unp is e) (.Assign [.Tuple xs kk p1] x pos) := by
  refine PS.weak (ps_asg he (sg_t (XL := XL) hc hN hn) hs hw h1) fun D σ H ⟨ca, L, env, st, R0, h⟩ => ?_
  rw [ex] at h
  refine ⟨ca, L, env, st, R0, (FinS.bind (rel := DV X.K) h).mono fun v H1 ⟨ca1, st1, p, R1, S1, hp, h1⟩ => ?_⟩
  cases eb : bindT (.t is) p env with
  | none => rw [eb] at h1; exact h1.elim
  | some env' =>
    rw [eb] at h1
    exact ⟨ca1, L, env, st1, p, env', R1, hp, eb, fun σ' L' R' sub _ => h1.nx' R' (Step.less sub)⟩
theorem ss_unpS {i j : Nat} {e : E} {kk : Nat} {x : Expr} {n1 n2 : Str} {p1 p2 p3 p4 : Pos} (hc : X.calm = true) (hN : X.N.Nodup) (hn : isNames X [i, j] [.Name n1 p1, .Name n2 p2]) (he : SE X W C XL e x)
    (hs : swapsWithSole [.Tuple [.Name n1 p1, .Starred (.Name n2 p2) p3] kk p4] x pos.line X.env = pure false) (hw : swappedStores [.Tuple [.Name n1 p1, .Starred (.Name n2 p2) p3] kk p4] x X.env = pure none)
    (h1 : (assignEach [.Tuple [.Name n1 p1, .Starred (.Name n2 p2) p3] kk p4] X.env).map (·.2) = [assign (.Tuple [.Name n1 p1, .Starred (.Name n2 p2) p3] kk p4) X.env]) :
    SS X W fr XL C (.unpS i j e) (.Assign [.Tuple [.Name n1 p1, .Starred (.Name n2 p2) p3] kk p4] x pos) := by
  refine PS.weak (ps_asg he (pg_star hc (pgs_names hN hn)) hs hw h1) fun D σ H ⟨ca, L, env, st, R0, h⟩ => ?_
  rw [ex] at h
  refine ⟨ca, L, env, st, R0, (FinS.bind (rel := DV X.K) h).mono fun v H1 ⟨ca1, st1, p, R1, S1, hp, h1⟩ => ?_⟩
  cases p with
  | tuple ds =>
    cases ds with
    | nil => exact h1.elim
    | cons y ys =>
      obtain ⟨a, vs, rfl, ha, t⟩ := hp.tupS
      cases t with
      | @cons _ _ w ws hy hys =>
        refine ⟨a, w, ws, rfl, ha, fun q nq => ?_⟩
        have R2 := R1.grow (H' := upd H1 q (.lst ws)) (Grow.upd nq)
        have hd : DVs X.K (own XL L ca1) (upd H1 q (.lst ws)) [y, .list ys] [w, .ref q] := .cons (hy.grow (Grow.upd nq)) (.cons (DV.newLst R1.trN nq hys) .nil)
        exact names_go R2 hd rfl fun σ' L' R' sub _ => h1.nx' R' ((Step.grow (Grow.upd nq)).trans (Step.less sub))
  | _ => exact h1.elim
/-! loops -/
theorem ss_for {tg : Tg} {it : It} {b : SL} {xt xi : Expr} {xs : List Stmt} (hp : PassesOwn (model X.prog X.w) X.A X.env X.xe) (hc : X.calm = true) (hi : SI X W C XL it xt xi) (hg : SG X XL tg xt) (hb : SSs X W fr XL C b xs) (hs : ∀ x, foldedSetIterable xi X.env x = pure x) :
    SS X W fr XL C (.for_ tg it b) (.For xt xi xs [] pos) := by
  refine PS.weak (ps_for hp hc hi hg hb hs) fun D σ H ⟨ca, L, env, st, R0, h⟩ => ?_
  rw [ex] at h
  refine ⟨ca, L, env, st, R0, (FinS.bind (rel := ItR X.K) h).mono fun J H1 ⟨ca1, st1, ds, R1, S1, hJ, h1⟩ => ?_⟩
  refine ⟨fun i m σ H => m = ds.length - i ∧ i ≤ ds.length ∧ ∃ ca2 L2 env2 st2, Rel X.K XL ca2 L2 env2 st2 σ H ∧ Step L ca1 H1 L2 ca2 H ∧ FinS X W fr XL ca2 L2 H D (loopS (fun e s => exs C b e s) tg (ds.drop i) env2 st2),
    ⟨ds.length, by simp, Nat.zero_le _, ca1, L, env, st1, R1, Step.refl _ _ _, h1⟩, ?_⟩
  rintro i m σ2 H2 ⟨rfl, hi, ca2, L2, env2, st2, R2, S2, hl⟩
  have kp := S2.kp (XL := XL)
  by_cases hlt : i < ds.length
  · refine .inr ⟨hJ.go _ H2 i kp hlt, fun σ3 H3 => ∃ ca3 L3 env3 st3, Rel X.K XL ca3 L3 env3 st3 σ3 H3 ∧ Step L ca1 H1 L3 ca3 H3 ∧ FinS X W fr XL ca3 L3 H3 D (loopS (fun e s => exs C b e s) tg (ds.drop (i + 1)) env3 st3),
      fun σ3 H3 q => ⟨ds.length - (i + 1), by omega, rfl, hlt, q⟩, fun x H3 y => ?_⟩
    obtain ⟨d, ed, gr, hd⟩ := hJ.yld _ H2 i x H3 kp R2.trN hlt y
    have hdr : ds.drop i = d :: ds.drop (i + 1) := by
      rw [List.getElem?_eq_some_iff] at ed
      obtain ⟨q1, q2⟩ := ed
      rw [List.drop_eq_getElem_cons q1, q2]
    rw [hdr, loopS] at hl
    cases eb : bindT tg d env2 with
    | none => rw [eb] at hl; exact hl.elim
    | some env' =>
      rw [eb] at hl
      refine ⟨ca2, L2, env2, st2, d, env', R2.grow gr, hd, eb, fun σ' L' R4 sub _ => ⟨ca2, L', env', st2, R4, ?_⟩⟩
      have S4 : Step L2 ca2 H2 L' ca2 H3 := (Step.grow gr).trans (Step.less sub)
      have hl : FinS X W fr XL ca2 L2 H2 D (match exs C b env' st2 with
        | .nx env2 st2 => loopS (fun e s => exs C b e s) tg (ds.drop (i + 1)) env2 st2
        | .ret p st2 => .ret p st2
        | .exc x e st2 => .exc x e st2
        | .stuck => .stuck) := hl
      cases eq : exs C b env' st2 with
      | nx env3 st3 =>
        rw [eq] at hl
        exact fun ca' L3 σ3 H4 R S => ⟨ca', L3, env3, st3, R, S2.trans (S4.trans S), FinS.step (S4.trans S) hl⟩
      | ret p st3 => rw [eq] at hl; exact FinS.step S4 hl
      | exc z env3 st3 => rw [eq] at hl; exact FinS.step S4 hl
      | stuck => rw [eq] at hl; exact hl.elim
  · have e : i = ds.length := by omega
    subst e
    refine .inl ⟨hJ.stop _ H2 _ kp rfl, ?_⟩
    rw [List.drop_length, loopS] at hl
    exact hl.nx' R2 (Step.refl _ _ _)
end
end IP
namespace IP
open PySem PySem.Spec L2
open PyProof.Rows hiding St
section
variable {K : PySem.W.Frag} {N N' ca ca' XL L : List Addr} {H H' : Hp} {env : Env} {st st' : Store} {σ : L2.St}
/-- the i-th name given anew, while its old thing is written -/
theorem EnvR.split2 : ∀ {env : Env} {σ : L2.St} {L : List Addr} {i : Nat}, EnvR K N ca H env σ L → i < env.length → ∃ L1 l0 L2 o, L = L1 ++ (l0 ++ L2) ∧ σ[i]? = some o ∧ SlR K N ca H (env.get i) o l0 ∧
    ∀ N' H', Kp N H N' H' → (∀ a u, a ∈ L1 ++ L2 → H a = some u → H' a = some u) → ∀ s' o' l', SlR K N' ca H' s' o' l' → EnvR K N' ca H' (env.set i s') (σ.set i o') (L1 ++ (l' ++ L2))
  | _, _, _, _, .nil, h => by simp at h
  | _, _, _, 0, .cons (l := l) (L := L) h t, _ => ⟨[], l, L, _, rfl, rfl, h, fun N' H' k hl s' o' l' h' => by
    rw [List.nil_append]
    exact EnvR.cons h' (t.keep k fun a u m => hl a u (by simpa using m))⟩
  | _, _, _, i + 1, .cons (l := l) h t, hi => by
    obtain ⟨L1, l0, L2, o, e, e2, h2, k⟩ := EnvR.split2 (i := i) t (by simpa using hi)
    refine ⟨l ++ L1, l0, L2, o, by rw [e, List.append_assoc], by simpa using e2, by simpa [Env.get] using h2, fun N' H' kp hl s' o' l' h' => ?_⟩
    have q := EnvR.cons (h.keep kp fun a u m => hl a u (List.mem_append_left _ (List.mem_append_left _ m))) (k N' H' kp (fun a u m => hl a u (by
      rcases List.mem_append.mp m with m | m
      · exact List.mem_append_left _ (List.mem_append_right _ m)
      · exact List.mem_append_right _ m)) s' o' l' h')
    simpa [List.append_assoc] using q
theorem get_lt {env : Env} {i : Nat} {s : Slot} (e : env.get i = s) (n : s ≠ .un) : i < env.length := by
  rcases Nat.lt_or_ge i env.length with h | h
  · exact h
  · unfold Env.get at e
    rw [List.getD_eq_getElem?_getD, List.getElem?_eq_none h] at e
    exact absurd e.symm n
/-- what is a name's own -/
inductive OwnR (K : PySem.W.Frag) (N : List Addr) (H : Hp) : D → Addr → HO → Prop
  | lst {a : Addr} {ds : List D} {vs : List V} : DVs K N H ds vs → OwnR K N H (.list ds) a (.lst vs)
  | dct {a : Addr} {ks : List (D × D)} {kvs : List (Key × V)} : DKs K N H ks kvs → OwnR K N H (.dict ks) a (.dK kvs)
theorem OwnR.slot {d : D} {a : Addr} {o : HO} (h : OwnR K N H d a o) (e : H a = some o) : SlR K N ca H (.own d) (some (.ref a)) [a] := by
  cases h with
  | lst t => exact .lst e t
  | dct t => exact .dct e t
theorem OwnR.keep {d : D} {a : Addr} {o : HO} (k : Kp N H N' H') (h : OwnR K N H d a o) : OwnR K N' H' d a o := by
  cases h with
  | lst t => exact .lst (k.dvs t)
  | dct t => exact .dct (t.keep k.stay k.out)
theorem Rel.ownAt (r : Rel K XL ca L env st σ H) {i : Nat} {d : D} (e : env.get i = .own d) : ∃ a o, σ[i]? = some (some (.ref a)) ∧ H a = some o ∧ OwnR K (own XL L ca) H d a o ∧ a ∈ L ∧
    ∀ d' o', OwnR K (own XL L ca) H d' a o' → Rel K XL ca L (env.set i (.own d')) st σ (upd H a o') := by
  have hi := get_lt e (fun z => by cases z)
  obtain ⟨L1, l0, L2, o, eL, eo, hs, k⟩ := r.env.split2 hi
  rw [e] at hs
  have key : ∀ (a : Addr) (u : HO), l0 = [a] → o = some (.ref a) → H a = some u → OwnR K (own XL L ca) H d a u → ∃ a o, σ[i]? = some (some (.ref a)) ∧ H a = some o ∧ OwnR K (own XL L ca) H d a o ∧ a ∈ L ∧
      ∀ d' o', OwnR K (own XL L ca) H d' a o' → Rel K XL ca L (env.set i (.own d')) st σ (upd H a o') := by
    intro a u el eo' ea ow
    subst el
    subst eo'
    have mL : a ∈ L := by rw [eL]; simp
    refine ⟨a, u, eo, ea, ow, mL, fun d' o' ow' => ?_⟩
    have mN : a ∈ own XL L ca := List.mem_append_right _ (List.mem_append_left _ mL)
    have kp : Kp (own XL L ca) H (own XL L ca) (upd H a o') := ⟨fun b v eb n => by rw [upd_ne (by rintro rfl; exact n mN)]; exact eb, fun _ _ n => n⟩
    have nd1 := (List.nodup_append.mp (List.nodup_append.mp r.nd).2.1)
    have ndL := nd1.1
    rw [eL] at ndL
    have nd2 := List.nodup_append.mp ndL
    have ne12 : ∀ b ∈ L1 ++ L2, b ≠ a := fun b m => by
      rcases List.mem_append.mp m with m | m
      · exact nd2.2.2 b m a (by simp)
      · rintro rfl
        exact (List.nodup_cons.mp nd2.2.1).1 (by simpa using m)
    have q := k _ _ kp (fun b v m eb => by rw [upd_ne (ne12 b m)]; exact eb) (.own d') (some (.ref a)) [a] ((ow'.keep kp).slot upd_same)
    have es : σ.set i (some (.ref a)) = σ := by
      apply List.ext_getElem?
      intro j
      by_cases hj : i = j
      · subst hj
        have hlt : i < σ.length := (List.getElem?_eq_some_iff.mp eo).1
        rw [List.getElem?_set_self hlt, eo]
      · rw [List.getElem?_set_ne hj]
    rw [es, ← eL] at q
    refine ⟨q, r.cells.keep kp fun b v m eb => ?_, r.nd, fun b m eb => ?_⟩
    · rw [upd_ne]
      · exact eb
      · rintro rfl
        exact nd1.2.2 b mL b m rfl
    · by_cases z : b = a
      · subst z; rw [upd_same] at eb; cases eb
      · rw [upd_ne z] at eb; exact r.tr b m eb
  cases hs with
  | lst ha t => exact key _ _ rfl rfl ha (.lst t)
  | dct ha t => exact key _ _ rfl rfl ha (.dct t)
/-- a held thing is given to a name -/
theorem Rel.give {i : Nat} {p : Addr} {d : D} {o : HO} (r : Rel K (p :: XL) ca L env st σ H) (ho : H p = some o) (ow : OwnR K (own (p :: XL) L ca) H d p o) :
    ∃ L', Rel K XL ca L' (env.set i (.own d)) st (σ.set i (some (.ref p))) H ∧ ∀ a ∈ L', a ∈ L ∨ a = p := by
  by_cases hi : i < env.length
  · obtain ⟨L1, l0, L2, o', eL, eo, hs, k⟩ := r.env.split2 hi
    have sub : ∀ a ∈ own XL (L1 ++ ([p] ++ L2)) ca, a ∈ own (p :: XL) L ca := fun a m => by
      rcases List.mem_append.mp m with m | m
      · exact List.mem_append_left _ (List.mem_cons_of_mem _ m)
      · rcases List.mem_append.mp m with m | m
        · rcases List.mem_append.mp m with m | m
          · exact List.mem_append_right _ (List.mem_append_left _ (by rw [eL]; exact List.mem_append_left _ m))
          · rcases List.mem_cons.mp (show a ∈ p :: L2 from m) with rfl | m
            · exact List.mem_append_left _ List.mem_cons_self
            · exact List.mem_append_right _ (List.mem_append_left _ (by rw [eL]; exact List.mem_append_right _ (List.mem_append_right _ m)))
        · exact List.mem_append_right _ (List.mem_append_right _ m)
    have kp : Kp (own (p :: XL) L ca) H (own XL (L1 ++ ([p] ++ L2)) ca) H := .less sub
    refine ⟨L1 ++ ([p] ++ L2), ⟨k _ _ kp (fun _ _ _ e => e) _ _ _ ((ow.keep kp).slot ho), r.cells.keep kp fun _ _ _ e => e, ?_, fun a m => r.tr a (List.mem_cons_of_mem _ m)⟩, fun a m => ?_⟩
    · have nd := r.nd
      have h1 : List.Sublist (p :: (XL ++ ((L1 ++ L2) ++ ca))) (own (p :: XL) L ca) := by
        rw [eL]
        show List.Sublist (p :: (XL ++ ((L1 ++ L2) ++ ca))) (p :: (XL ++ ((L1 ++ (l0 ++ L2)) ++ ca)))
        refine List.Sublist.cons_cons _ (List.Sublist.append (List.Sublist.refl _) (List.Sublist.append (List.Sublist.append (List.Sublist.refl _) ?_) (List.Sublist.refl _)))
        exact List.sublist_append_right _ _
      have h2 := nd.sublist h1
      refine (List.Perm.nodup_iff ?_).mp h2
      show List.Perm (p :: (XL ++ ((L1 ++ L2) ++ ca))) (XL ++ ((L1 ++ (p :: L2)) ++ ca))
      have e1 : XL ++ ((L1 ++ L2) ++ ca) = (XL ++ L1) ++ (L2 ++ ca) := by simp [List.append_assoc]
      have e2 : XL ++ ((L1 ++ (p :: L2)) ++ ca) = (XL ++ L1) ++ (p :: (L2 ++ ca)) := by simp [List.append_assoc]
      rw [e1, e2]
      exact List.perm_middle.symm
    · rcases List.mem_append.mp m with m | m
      · exact .inl (by rw [eL]; exact List.mem_append_left _ m)
      · rcases List.mem_cons.mp (show a ∈ p :: L2 from m) with rfl | m
        · exact .inr rfl
        · exact .inl (by rw [eL]; exact List.mem_append_right _ (List.mem_append_right _ m))
  · obtain ⟨e1, e2⟩ := r.env.set_out (s := .own d) (o := some (.ref p)) hi
    rw [e1, e2]
    exact ⟨L, r.let_, fun _ m => .inl m⟩
/-- a cell is written -/
theorem Rel.setCell {c : Nat} {xs ys : List D} (r : Rel K XL ca L env st σ H) (e : st[c]? = some (.ml xs)) : ∃ a vs, ca[c]? = some a ∧ H a = some (.lst vs) ∧ DVs K (own XL L ca) H xs vs ∧
    ∀ ws, DVs K (own XL L ca) H ys ws → Rel K XL ca L env (st.set c (.ml ys)) σ (upd H a (.lst ws)) ∧ Step [] ca H [] ca (upd H a (.lst ws)) := by
  obtain ⟨a, ea, hc⟩ := r.cells.get e
  cases hc with
  | @ml _ _ vs ha t =>
    refine ⟨a, vs, ea, ha, t, fun ws tw => ?_⟩
    have mc : a ∈ ca := List.mem_of_getElem? ea
    have mN : a ∈ own XL L ca := List.mem_append_right _ (List.mem_append_right _ mc)
    have kp : Kp (own XL L ca) H (own XL L ca) (upd H a (.lst ws)) := ⟨fun b v eb n => by rw [upd_ne (by rintro rfl; exact n mN)]; exact eb, fun _ _ n => n⟩
    have nd1 := List.nodup_append.mp (List.nodup_append.mp r.nd).2.1
    have hm := List.nodup_append.mp r.nd
    have goS : ∀ {st : Store} {as : List Addr} {c : Nat}, CellsR K (own XL L ca) H st as → as.Nodup → as[c]? = some a → CellsR K (own XL L ca) (upd H a (.lst ws)) (st.set c (.ml ys)) as := by
      intro st as c h
      induction h generalizing c with
      | nil => intro _ e; simp at e
      | @cons c0 st a0 as h0 t0 ih =>
        intro nd e
        obtain ⟨n1, n2⟩ := List.nodup_cons.mp nd
        cases c with
        | zero =>
          simp at e
          subst e
          refine .cons (.ml upd_same (kp.dvs tw)) (t0.keep kp fun b v m eb => ?_)
          rw [upd_ne (by rintro rfl; exact n1 m)]; exact eb
        | succ c =>
          have e : as[c]? = some a := by simpa using e
          refine .cons (h0.keep kp fun u eb => ?_) (ih n2 e)
          rw [upd_ne (by rintro rfl; exact n1 (List.mem_of_getElem? e))]; exact eb
    refine ⟨⟨r.env.keep kp fun b v m eb => ?_, goS r.cells nd1.2.1 ea, r.nd, fun b m eb => ?_⟩, ⟨fun b o eb n => ?_, fun _ m => .inl m, List.prefix_rfl, fun b eb => ?_⟩⟩
    · rw [upd_ne]
      · exact eb
      · rintro rfl; exact nd1.2.2 b m b mc rfl
    · by_cases z : b = a
      · subst z; rw [upd_same] at eb; cases eb
      · rw [upd_ne z] at eb; exact r.tr b m eb
    · rw [upd_ne (by rintro rfl; exact n (by simpa using mc))]; exact eb
    · by_cases z : b = a
      · subst z; rw [upd_same]; exact fun z => by cases z
      · rw [upd_ne z]; exact eb
end
end IP
namespace IP
open PySem PySem.Spec L2
open PyProof.Rows hiding St
section
variable (X : Cx) (W : WX) (XL L : List Addr) (env : Env) (σ : L2.St)
/-- the end of a reading that makes a new thing -/
def FinF (ca : List Addr) (H : Hp) (Q : VK) : R D → Prop
  | .ok d st' => ∀ ca' p o H', Rel X.K (p :: XL) ca' L env st' σ H' → Step [] ca H [] ca' H' → H p = none → H' p = some o → OwnR X.K (own (p :: XL) L ca') H' d p o → Q (.ref p) H'
  | .exc x st' => ∀ ca' H' cls d, Rel X.K XL ca' L env st' σ H' → Step [] ca H [] ca' H' → ExR X.mg X.K (own XL L ca') H' x cls d → W cls d σ H'
  | .stuck => False
end
section
variable (X : Cx) (W : WX) (C : CallF) (XL : List Addr)
def tF (e : E) : TE := fun σ H Q => ∃ ca L env st, Rel X.K XL ca L env st σ H ∧ FinF X W XL L env σ ca H Q (ev C e env st)
abbrev SF (e : E) (x : Expr) : Prop := PE X x (tF X W C XL e)
end
section
variable {X : Cx} {W : WX} {fr : Bool} {C : CallF} {XL L L1 ca ca1 : List Addr} {env : Env} {st : Store} {σ : L2.St} {H H1 : Hp} {pos : Pos} {x y : Expr} {α β : Type} {rel : List Addr → Hp → α → β → Prop}
theorem FinF.step {Q : VK} {r : R D} (s : Step [] ca H [] ca1 H1) (h : FinF X W XL L env σ ca H Q r) : FinF X W XL L env σ ca1 H1 Q r := by
  cases r with
  | ok a st => exact fun ca' p o H' R S hp ho ow => h ca' p o H' R (s.trans S) (by
      cases e : H p with
      | none => rfl
      | some u => exact absurd hp (s.there p (by rw [e]; exact fun z => by cases z))) ho ow
  | exc x st => exact fun ca' H' cls d R S q => h ca' H' cls d R (s.trans S) q
  | stuck => exact h
theorem FinF.bind {Q : VK} {m : R α} {f : α → Store → R D} (h : FinF X W XL L env σ ca H Q (m.bind f)) :
    Fin X W XL L env σ ca H rel (fun b H1 => ∃ ca1 st1 a, Rel X.K XL ca1 L env st1 σ H1 ∧ Step [] ca H [] ca1 H1 ∧ rel (own XL L ca1) H1 a b ∧ FinF X W XL L env σ ca1 H1 Q (f a st1)) m := by
  cases m with
  | ok a st => exact fun ca' b H' R S q => ⟨ca', st, a, R, S, q, FinF.step S h⟩
  | exc x st => exact h
  | stuck => exact h
theorem sf_lst {es : EL} {xs : List Expr} (h : SEs X W C XL es xs) : SF X W C XL (.lst es) (.List xs pos) := by
  refine PE.weak (pe_lst h) fun σ H Q ⟨ca, L, env, st, R0, h⟩ => ?_
  rw [ev] at h
  refine ⟨ca, L, env, st, R0, (FinF.bind (rel := DVs X.K) h).mono fun vs H1 ⟨ca1, st1, ps, R1, S1, hp, h1⟩ => ?_⟩
  cases el : decide (ps.length ≤ LINE) with
  | false => rw [el] at h1; exact h1.elim
  | true =>
    rw [el] at h1
    refine ⟨by rw [← hp.length, line_eq]; exact of_decide_eq_true el, fun p np => ?_⟩
    exact h1 ca1 p _ _ (R1.hold np) (Step.grow (Grow.upd np)) np upd_same (.lst ((Kp.more np (Grow.upd np)).dvs hp))
theorem ss_asgN {i : Nat} {e : E} {nm : Str} {x : Expr} {p1 : Pos} (hN : X.N.Nodup) (hi : X.N[i]? = some nm) (hx : Loc X.env.scope nm) (hf : X.fn nm = true ∨ X.env.scope.names.lookup nm = some .local) (he : SF X W C XL e x) (hs : swapsWith x (some (.Name nm p1)) pos.line X.env = pure false) :
    SS X W fr XL C (.asgN i e) (.Assign [.Name nm p1] x pos) := by
  refine PS.weak (ps_set hN hi hx he hs hf) fun D σ H ⟨ca, L, env, st, R0, h⟩ => ?_
  rw [ex] at h
  refine ⟨ca, L, env, st, R0, ?_⟩
  cases e : ev C e env st with
  | ok d st1 =>
    rw [e] at h
    intro ca1 p o H1 R1 S1 np ho ow
    obtain ⟨L', R2, sub⟩ := R1.give (i := i) ho ow
    refine h ca1 L' _ H1 R2 ⟨fun a u ea n => S1.stay a u ea fun m => n (List.mem_append_right _ (by simpa using m)), fun a m => ?_, S1.pre, S1.there⟩
    rcases List.mem_append.mp m with m | m
    · rcases sub a m with m | rfl
      · exact .inl (List.mem_append_left _ m)
      · exact .inr np
    · rcases S1.new a (by simpa using m) with m | m
      · exact .inl (List.mem_append_right _ (by simpa using m))
      · exact .inr m
  | exc z st1 => rw [e] at h; exact fun ca' H' cls d R S q => h ca' L σ H' cls d R S.toL q
  | stuck => rw [e] at h; exact h.elim
/-! ### a name's own list -/
/-- the name of a thing of its own -/
theorem pe_name {i : Nat} {nm : Str} (hN : X.N[i]? = some nm) (hv : Vis X.env.scope nm) (hd : (nm == ("__debug__" : Str)) = false) (hcd : (nm == ("__classdict__" : Str)) = false) : PE X (.Name nm pos) (tVar i) := pe_var hN hv hd hcd
theorem ownStep {a : Addr} {o : HO} {u : HO} (m : a ∈ L) (e : H a = some u) : Step L ca H L ca (upd H a o) :=
  ⟨fun b v eb n => by rw [upd_ne (by rintro rfl; exact n (List.mem_append_left _ m))]; exact eb, fun _ m => .inl m, List.prefix_rfl, fun b eb => by
    by_cases z : b = a
    · subst z; rw [upd_same]; exact fun z => by cases z
    · rw [upd_ne z]; exact eb⟩
theorem bm_list {f : Str} {id : String} {r : V → List V → Hp → VK → Prop} {nm : Str} {i : Nat} {t : TA} {p1 p2 : Pos} (slot : PySem.Slot "list" f id) (hty : typeOf (.builtin id) = pure (.type "method_descriptor")) (hm : MtR X id r)
    (hN : X.N[i]? = some nm) (hv : Vis X.env.scope nm) (hd : (nm == ("__debug__" : Str)) = false) (hcd : (nm == ("__classdict__" : Str)) = false) (ha : PA X [x] t)
    (hbase : attributeBase (.Name nm p1) f X.env (eval (.Name nm p1) X.env) = eval (.Name nm p1) X.env)
    (hfew : ((backTo pos (starEach [x] X.env)).all (fun x => !x.1) && (backToKw pos (keywordEach [] X.env)).all (fun x => x.1.isSome) && decide (([x] : List Expr).length + ([] : List Keyword).length + (if ([] : List Keyword).isEmpty then 0 else 1) < 30)) = true)
    (hline : (p2.endLine == pos.line) = true) (hs : starEach [x] X.env = [(false, eval x X.env)]) : PE X (.Call (.Attribute (.Name nm p1) f p2) [x] [] pos) (tBM X.K "list" r (tVar i) t) :=
  pe_bm PySem.F.plainAttrs_list slot hty hm (pe_name hN hv hd hcd) ha hbase hfew hline hs rfl
theorem ss_app {i : Nat} {e : E} {nm : Str} {x : Expr} {p1 p2 p3 : Pos} (hN : X.N[i]? = some nm) (hv : Vis X.env.scope nm) (hd : (nm == ("__debug__" : Str)) = false) (hcd : (nm == ("__classdict__" : Str)) = false) (he : SE X W C XL e x)
    (hs : ∀ xs, starEach (x :: xs) X.env = (false, eval x X.env) :: starEach xs X.env) (hbase : attributeBase (.Name nm p1) ("append" : Str) X.env (eval (.Name nm p1) X.env) = eval (.Name nm p1) X.env) (hline : (p2.endLine == p3.line) = true)
    (hsw : swapsWith (.Call (.Attribute (.Name nm p1) "append" p2) [x] [] p3) none pos.line X.env = pure false) : SS X W fr XL C (.app i e) (.Expr (.Call (.Attribute (.Name nm p1) "append" p2) [x] [] p3) pos) := by
  have hm : MtR X "list.append" rAppend := mt_append
  have hst : starEach [x] X.env = [(false, eval x X.env)] := hs []
  have q := bm_list (pos := p3) (p1 := p1) (p2 := p2) PySem.F.slot_list_append PySem.F.type_list_append hm hN hv hd hcd (pa_cons he pa_nil (hs [])) hbase (by rw [hst]; rfl) hline hst
  refine PS.weak (ps_expr q hsw) fun D σ H ⟨ca, L, env, st, R0, h⟩ => ?_
  rw [ex] at h
  split at h
  · rename_i xs eg
    obtain ⟨a, o, es, ea, ow, mL, _⟩ := R0.ownAt eg
    refine ⟨_, es, ?_⟩
    cases ow with
    | @lst _ _ vs t =>
      refine ⟨.inl ⟨rfl, vs, .inl (.inl ea)⟩, ca, L, env, st, R0, (FinS.bind (rel := DV X.K) h).mono fun v H1 ⟨ca1, st1, p, R1, S1, hp, h1⟩ => ?_⟩
      obtain ⟨a', o', es', ea', ow', mL', k⟩ := R1.ownAt eg
      rw [es] at es'
      cases es'
      cases ow' with
      | @lst _ _ vs' t' =>
        cases el : decide (xs.length < LINE) with
        | false => rw [el] at h1; exact h1.elim
        | true =>
          rw [el] at h1
          exact ⟨a, vs', v, rfl, rfl, ea', by rw [← t'.length, line_eq]; exact of_decide_eq_true el, h1.nx' (k _ _ (.lst (t'.append (.cons hp .nil)))) (ownStep mL ea')⟩
  · exact h.elim
theorem ss_ext {i : Nat} {e : E} {nm : Str} {x : Expr} {p1 p2 p3 : Pos} (hN : X.N[i]? = some nm) (hv : Vis X.env.scope nm) (hd : (nm == ("__debug__" : Str)) = false) (hcd : (nm == ("__classdict__" : Str)) = false) (he : SE X W C XL e x)
    (hs : ∀ xs, starEach (x :: xs) X.env = (false, eval x X.env) :: starEach xs X.env) (hbase : attributeBase (.Name nm p1) ("extend" : Str) X.env (eval (.Name nm p1) X.env) = eval (.Name nm p1) X.env) (hline : (p2.endLine == p3.line) = true)
    (hsw : swapsWith (.Call (.Attribute (.Name nm p1) "extend" p2) [x] [] p3) none pos.line X.env = pure false) : SS X W fr XL C (.ext i e) (.Expr (.Call (.Attribute (.Name nm p1) "extend" p2) [x] [] p3) pos) := by
  have hm : MtR X "list.extend" rExtend := mt_extend
  have hst : starEach [x] X.env = [(false, eval x X.env)] := hs []
  have q := bm_list (pos := p3) (p1 := p1) (p2 := p2) PySem.F.slot_list_extend PySem.F.type_list_extend hm hN hv hd hcd (pa_cons he pa_nil (hs [])) hbase (by rw [hst]; rfl) hline hst
  refine PS.weak (ps_expr q hsw) fun D σ H ⟨ca, L, env, st, R0, h⟩ => ?_
  rw [ex] at h
  split at h
  · rename_i xs eg
    obtain ⟨a, o, es, ea, ow, mL, _⟩ := R0.ownAt eg
    refine ⟨_, es, ?_⟩
    cases ow with
    | @lst _ _ vs t =>
      refine ⟨.inl ⟨rfl, vs, .inl (.inl ea)⟩, ca, L, env, st, R0, (FinS.bind (rel := DV X.K) h).mono fun v H1 ⟨ca1, st1, p, R1, S1, hp, h1⟩ => ?_⟩
      obtain ⟨a', o', es', ea', ow', mL', k⟩ := R1.ownAt eg
      rw [es] at es'
      cases es'
      cases p with
      | list ys =>
        obtain ⟨b, ws, rfl, hb, nb, tb⟩ := hp.lstS
        cases ow' with
        | @lst _ _ vs' t' =>
          replace h1 : FinS X W fr XL ca1 L H1 D (match decide (xs.length + ys.length ≤ LINE) with
            | true => .nx (env.set i (.own (.list (xs ++ ys)))) st1
            | false => .stuck) := h1
          cases el : decide (xs.length + ys.length ≤ LINE) with
          | false => rw [el] at h1; exact h1.elim
          | true =>
            rw [el] at h1
            exact ⟨a, b, vs', ws, rfl, rfl, ea', hb, by rw [← t'.length, ← tb.length, line_eq]; exact of_decide_eq_true el, h1.nx' (k _ _ (.lst (t'.append tb))) (ownStep mL ea')⟩
      | _ => exact h1.elim
  · exact h.elim
/-! ### a shared list is written -/
theorem DVs.setAt {K : PySem.W.Frag} {N : List Addr} {H : Hp} {ds : List D} {vs : List V} {n : Nat} {d : D} {v : V} (t : DVs K N H ds vs) (h : DV K N H d v) : DVs K N H (ds.set n d) (vs.set n v) := t.set n h
theorem ss_cset {i : Nat} {k e : E} {nm : Str} {x y : Expr} {p1 p2 : Pos} (hN : X.N[i]? = some nm) (hv : Vis X.env.scope nm) (hd : (nm == ("__debug__" : Str)) = false) (hcd : (nm == ("__classdict__" : Str)) = false) (hk : SE X W C XL k y) (he : SE X W C XL e x)
    (ha : ∀ v, assign (.Subscript (.Name nm p1) y p2) X.env v = (do
      let ov ← holding [v] (eval (.Name nm p1) X.env)
      let iv ← holding [v, ov] (eval y X.env)
      standAt p2
      holding [v, ov, iv] (setItem ov iv v)
      release [v, ov, iv] []))
    (hs : swapsWithSole [.Subscript (.Name nm p1) y p2] x pos.line X.env = pure false) (hw : swappedStores [.Subscript (.Name nm p1) y p2] x X.env = pure none) (h1 : (assignEach [.Subscript (.Name nm p1) y p2] X.env).map (·.2) = [assign (.Subscript (.Name nm p1) y p2) X.env]) :
    SS X W fr XL C (.cset i k e) (.Assign [.Subscript (.Name nm p1) y p2] x pos) := by
  refine PS.weak (ps_asg he (pg_sub (pe_name (pos := p1) hN hv hd hcd) hk set_list ha) hs hw h1) fun D σ H ⟨ca, L, env, st, R0, h⟩ => ?_
  rw [ex] at h
  split at h
  · rename_i c eg
    refine ⟨ca, L, env, st, R0, (FinS.bind (rel := DV X.K) h).mono fun v H1 ⟨ca1, st1, p, R1, S1, hp, h1⟩ => ?_⟩
    obtain ⟨o, l, eo, hsl, _⟩ := R1.slot eg (fun z => by cases z)
    cases hsl with
    | @rf _ a hca =>
      refine ⟨_, eo, ca1, L, env, st1, R1, (FinS.bind (rel := DV X.K) h1).mono fun u H2 ⟨ca2, st2, q, R2, S2, hq, h2⟩ => ?_⟩
      cases ec : st2[c]? with
      | none => rw [ec] at h2; cases q <;> exact h2.elim
      | some cell =>
        rw [ec] at h2
        cases cell with
        | ml xs =>
          cases q with
          | int z =>
            replace h2 : FinS X W fr XL ca2 L H2 D (match L2.ixN xs.length z with
              | some n => .nx env (st2.set c (.ml (xs.set n p)))
              | none => .stuck) := h2
            cases en : L2.ixN xs.length z with
            | none => rw [en] at h2; exact h2.elim
            | some n =>
              rw [en] at h2
              obtain ⟨b, vs, eb, hb, tb, k⟩ := R2.setCell (ys := xs.set n p) ec
              have eab : ca2[c]? = some a := by
                obtain ⟨m, rfl⟩ := S2.pre
                rw [List.getElem?_append_left]
                · exact hca
                · exact (List.getElem?_eq_some_iff.mp hca).1
              rw [eab] at eb
              cases eb
              obtain ⟨R3, S3⟩ := k _ (tb.setAt (n := n) (hp.stepE S2))
              cases hq
              exact ⟨a, vs, z, n, rfl, rfl, hb, by rw [← tb.length]; exact en, h2.nx' R3 S3.toL⟩
          | _ => exact h2.elim
        | ins c fs => cases q <;> exact h2.elim
  · exact h.elim
/-! ### frozen; never come to -/
theorem ss_bad {x : Stmt} : SS X W fr XL C .bad x := by
  refine PS.weak ps_never fun D σ H ⟨ca, L, env, st, R0, h⟩ => ?_
  rw [ex] at h
  exact h
theorem Rel.freeze {i : Nat} {d : D} (r : Rel X.K XL ca L env st σ H) (e : env.get i = .own d) : ∃ L', Rel X.K XL ca L' (env.set i (.val d)) st σ H ∧ ∀ a ∈ L', a ∈ L := by
  have hi := get_lt e (fun z => by cases z)
  obtain ⟨L1, l0, L2, o, eL, eo, hs, k⟩ := r.env.split2 hi
  rw [e] at hs
  have key : ∀ (a : Addr), l0 = [a] → o = some (.ref a) → DV X.K (own XL (L1 ++ ([] ++ L2)) ca) H d (.ref a) → ∃ L', Rel X.K XL ca L' (env.set i (.val d)) st σ H ∧ ∀ a ∈ L', a ∈ L := by
    intro a el eo' hv
    subst el
    subst eo'
    have sub : ∀ b ∈ L1 ++ ([] ++ L2), b ∈ L := fun b m => by
      rw [eL]
      rcases List.mem_append.mp m with m | m
      · exact List.mem_append_left _ m
      · exact List.mem_append_right _ (List.mem_append_right _ (by simpa using m))
    have kp : Kp (own XL L ca) H (own XL (L1 ++ ([] ++ L2)) ca) H := .less (own_sub sub)
    have es : σ.set i (some (.ref a)) = σ := by
      apply List.ext_getElem?
      intro j
      by_cases hj : i = j
      · subst hj
        have hlt : i < σ.length := (List.getElem?_eq_some_iff.mp eo).1
        rw [List.getElem?_set_self hlt, eo]
      · rw [List.getElem?_set_ne hj]
    have q := k _ _ kp (fun _ _ _ e => e) (.val d) (some (.ref a)) [] (.val hv)
    rw [es] at q
    refine ⟨_, ⟨q, r.cells.keep kp fun _ _ _ e => e, ?_, r.tr⟩, sub⟩
    refine r.nd.sublist ?_
    rw [eL]
    exact List.Sublist.append (List.Sublist.refl _) (List.Sublist.append (List.Sublist.append (List.Sublist.refl _) (List.Sublist.append (List.nil_sublist _) (List.Sublist.refl _))) (List.Sublist.refl _))
  have out : ∀ a, l0 = [a] → a ∉ own XL (L1 ++ ([] ++ L2)) ca := fun a el m => by
    subst el
    have nd := r.nd
    rw [eL] at nd
    have h0 := List.nodup_append.mp nd
    have h1 := List.nodup_append.mp h0.2.1
    have h2 := List.nodup_append.mp h1.1
    have h3 := List.nodup_append.mp h2.2.1
    rcases List.mem_append.mp m with m | m
    · exact h0.2.2 a m a (by simp) rfl
    · rcases List.mem_append.mp m with m | m
      · rcases List.mem_append.mp m with m | m
        · exact h2.2.2 a m a (by simp) rfl
        · exact h3.2.2 a (by simp) a (by simpa using m) rfl
      · exact h1.2.2 a (by simp) a m rfl
  have sub2 : ∀ b ∈ own XL (L1 ++ ([] ++ L2)) ca, b ∈ own XL L ca := own_sub fun b m => by
    rw [eL]
    rcases List.mem_append.mp m with m | m
    · exact List.mem_append_left _ m
    · exact List.mem_append_right _ (List.mem_append_right _ (by simpa using m))
  cases hs with
  | lst ha t => exact key _ rfl rfl (.lst ha (out _ rfl) ((Kp.less sub2).dvs t))
  | dct ha t => exact key _ rfl rfl (.dct ha (out _ rfl) (t.keep (Kp.less sub2).stay (Kp.less (H := H) sub2).out))
theorem sss_frz {i : Nat} {r : SL} {xs : List Stmt} (h : SSs X W fr XL C r xs) : SSs X W fr XL C (.cons (.frz i) r) xs := by
  refine PSs.weak h fun D σ H ⟨ca, L, env, st, R0, h⟩ => ?_
  rw [exs, ex] at h
  cases e : env.get i with
  | own o =>
    rw [e] at h
    obtain ⟨L', R1, sub⟩ := R0.freeze e
    exact ⟨ca, L', _, st, R1, FinS.step (Step.less sub) h⟩
  | _ => rw [e] at h; exact h.elim
end
end IP
namespace IP
open PySem PySem.Spec L2
open PyProof.Rows hiding St
/-! ### displays of dicts -/
/-- keys of a display, all unlike -/
def keysV : List D → Option (List L2.Key)
  | [] => some []
  | d :: r => match keyD d, keysV r with
    | some k, some ks => match ks.any fun j => decide (j = k) with
      | true => none
      | false => some (k :: ks)
    | _, _ => none
theorem keysV_cons {d : D} {r : List D} {ks : List L2.Key} (h : keysV (d :: r) = some ks) : ∃ k ks', keyD d = some k ∧ keysV r = some ks' ∧ k ∉ ks' ∧ ks = k :: ks' := by
  rw [keysV] at h
  cases e1 : keyD d with
  | none => rw [e1] at h; cases h
  | some k =>
    cases e2 : keysV r with
    | none => rw [e1, e2] at h; cases h
    | some ks' =>
      rw [e1, e2] at h
      replace h : (match ks'.any fun j => decide (j = k) with
        | true => none
        | false => some (k :: ks')) = some ks := h
      cases e3 : ks'.any fun j => decide (j = k) with
      | true => rw [e3] at h; cases h
      | false =>
        rw [e3] at h
        cases h
        refine ⟨k, ks', rfl, rfl, fun m => ?_, rfl⟩
        rw [List.any_eq_false] at e3
        exact e3 k m (by simp)
theorem putK_new {kvs : List (L2.Key × V)} {k : L2.Key} {v : V} (h : k ∉ kvs.map (·.1)) : putK kvs k v = kvs ++ [(k, v)] := by
  unfold putK
  rw [if_neg]
  intro e
  rw [List.any_eq_true] at e
  obtain ⟨p, m, e⟩ := e
  exact h (List.mem_map.mpr ⟨p, m, of_decide_eq_true e⟩)
theorem merge_new : ∀ {more kvs : List (L2.Key × V)}, (more.map (·.1)).Nodup → (∀ k ∈ more.map (·.1), k ∉ kvs.map (·.1)) → mergeK kvs more = kvs ++ more
  | [], kvs, _, _ => by simp [mergeK]
  | p :: r, kvs, nd, h => by
    obtain ⟨n1, n2⟩ := List.nodup_cons.mp nd
    show mergeK (putK kvs p.1 p.2) r = _
    rw [putK_new (h p.1 (by simp)), merge_new n2]
    · simp
    · intro k m
      rw [List.map_append, List.mem_append]
      rintro (q | q)
      · exact h k (by rw [List.map_cons]; exact List.mem_cons_of_mem _ m) q
      · simp at q; subst q; exact n1 m
theorem keysV_nodup : ∀ {ds : List D} {ks : List L2.Key}, keysV ds = some ks → ks.Nodup ∧ ks.length = ds.length
  | [], _, h => by cases h; exact ⟨List.nodup_nil, rfl⟩
  | d :: r, _, h => by
    obtain ⟨k, ks', _, e2, n, rfl⟩ := keysV_cons h
    obtain ⟨a, b⟩ := keysV_nodup e2
    exact ⟨List.nodup_cons.mpr ⟨n, a⟩, by simp [b]⟩
section
variable {X : Cx} {W : WX} {C : CallF} {XL : List Addr} {pos : Pos}
def elLen : EL → Nat
  | .nil => 0
  | .cons _ r => elLen r + 1
/-- readings of the pairs -/
def tEy (X : Cx) (W : WX) (C : CallF) (e : E) : TE := fun σ H Q => ∃ XL, tE X W C XL e σ H Q
theorem pe_y {e : E} {x : Expr} (h : ∀ XL, SE X W C XL e x) : PE X x (tEy X W C e) := ⟨fun pins s σ H Q I ⟨XL, z⟩ => (h XL).run pins s σ H Q I z⟩
def trsOf (X : Cx) (W : WX) (C : CallF) : List L2.Key → EL → List (TE × TE)
  | k :: ks, .cons e es => (tC (kV k), tEy X W C e) :: trsOf X W C ks es
  | _, _ => []
theorem pairs_go : ∀ {ks : List L2.Key} {es : EL} {ca L : List Addr} {env : Env} {st : Store} {σ : L2.St} {H : Hp} {Q : List (V × V) → Hp → Prop}, ks.length = elLen es → Rel X.K XL ca L env st σ H →
    Fin X W XL L env σ ca H (DVs X.K) (fun vs H' => Q ((ks.map kV).zip vs) H') (evs C es env st) → tPairs (trsOf X W C ks es) σ H Q
  | [], .nil, ca, L, env, st, σ, H, Q, _, R0, h => by
    rw [evs] at h
    exact h.ok R0 .nil
  | [], .cons _ _, _, _, _, _, _, _, _, l, _, _ => by simp [elLen] at l
  | _ :: _, .nil, _, _, _, _, _, _, _, l, _, _ => by simp [elLen] at l
  | k :: ks, .cons e es, ca, L, env, st, σ, H, Q, l, R0, h => by
    rw [evs] at h
    refine ⟨XL, ca, L, env, st, R0, (Fin.bind (rel := DV X.K) h).mono fun v H1 ⟨ca1, st1, p, R1, S1, hp, h1⟩ => ?_⟩
    refine pairs_go (ks := ks) (es := es) (by simpa [elLen] using l) R1 ((Fin.bind (rel := DVs X.K) h1).mono fun vs H2 ⟨ca2, st2, ps, R2, S2, hps, h2⟩ => ?_)
    exact h2.ok R2 (.cons (hp.stepE S2) hps)
/-- the pairs as they are written -/
def IsPairs (X : Cx) (W : WX) (C : CallF) : List D → EL → List (Option Expr) → List Expr → Prop
  | [], .nil, [], [] => True
  | d :: ds, .cons e es, some k :: ks, v :: vs => (∃ q, keyD d = some q ∧ PE X k (tC (kV q))) ∧ (∀ XL, SE X W C XL e v) ∧ IsPairs X W C ds es ks vs
  | _, _, _, _ => False
theorem IsPairs.pps : ∀ {ds : List D} {es : EL} {ks : List (Option Expr)} {vs : List Expr} {qs : List L2.Key}, IsPairs X W C ds es ks vs → keysV ds = some qs →
    PPs X pos ks vs (trsOf X W C qs es) ∧ ks.all (·.isSome) = true ∧ ks.length = vs.length ∧ ks.length = ds.length ∧ ds.length = elLen es
  | [], .nil, [], [], _, _, h => by cases h; exact ⟨pps_nil, rfl, rfl, rfl, rfl⟩
  | d :: ds, .cons e es, some k :: ks, v :: vs, qs, h, hq => by
    obtain ⟨q, qs', e1, e2, n, rfl⟩ := keysV_cons hq
    obtain ⟨⟨q', e3, hk⟩, hv, hr⟩ := h
    rw [e1] at e3
    cases e3
    obtain ⟨h1, h2, h3, h4, h5⟩ := IsPairs.pps hr e2
    exact ⟨pps_cons hk (pe_y hv) h1, by simp only [List.all_cons, Option.isSome_some, Bool.true_and]; exact h2, by simp [h3], by simp [h4], by simp [elLen, h5]⟩
  | [], .nil, [], _ :: _, _, h, _ => h.elim
  | [], .nil, _ :: _, _, _, h, _ => h.elim
  | [], .cons _ _, _, _, _, h, _ => h.elim
  | _ :: _, .nil, _, _, _, h, _ => h.elim
  | _ :: _, .cons _ _, [], _, _, h, _ => h.elim
  | _ :: _, .cons _ _, none :: _, _, _, h, _ => h.elim
  | _ :: _, .cons _ _, some _ :: _, [], _, h, _ => h.elim
theorem dks_zip {K : PySem.W.Frag} {N : List Addr} {H : Hp} : ∀ {ds : List D} {qs : List L2.Key} {ps : List D} {vs : List V}, keysV ds = some qs → DVs K N H ps vs → DKs K N H (ds.zip ps) (qs.zip vs)
  | [], _, _, _, h, _ => by cases h; simp; exact .nil
  | d :: ds, _, _, _, h, .nil => by simp; exact .nil
  | d :: ds, _, _, _, h, .cons h1 t => by
    obtain ⟨k, ks', e1, e2, _, rfl⟩ := keysV_cons h
    exact .cons e1 h1 (dks_zip e2 t)
theorem evs_len {env : Env} : ∀ {es : EL} {st st' : Store} {ps : List D}, evs C es env st = .ok ps st' → ps.length = elLen es
  | .nil, st, st', ps, h => by rw [evs] at h; cases h; rfl
  | .cons e es, st, st', ps, h => by
    rw [evs] at h
    cases e1 : ev C e env st with
    | exc _ _ => rw [e1] at h; cases h
    | stuck => rw [e1] at h; cases h
    | ok p s1 =>
      rw [e1] at h
      replace h : ((evs C es env s1).bind fun xs st2 => R.ok (p :: xs) st2) = .ok ps st' := h
      cases e2 : evs C es env s1 with
      | exc _ _ => rw [e2] at h; cases h
      | stuck => rw [e2] at h; cases h
      | ok qs s2 =>
        rw [e2] at h
        cases h
        simp [elLen, evs_len e2]
theorem dic_rel {ds : List D} {es : EL} {qs : List L2.Key} (hq : keysV ds = some qs) (hl : ds.length = elLen es) (h15 : ds.length ≤ 15) {σ : L2.St} {H : Hp} {Q : VK} {ca L : List Addr} {env : Env} {st : Store} (R0 : Rel X.K XL ca L env st σ H)
    (h : FinF X W XL L env σ ca H Q (ev C (.dic ds es) env st)) : ∀ p, H p = none → tPairs (trsOf X W C qs es) σ (upd H p (.dK [])) fun ps H2 => H2 p = some (.dK []) ∧ ∃ kvs : List (L2.Key × V), ps = kvs.map (fun kv => (kV kv.1, kv.2)) ∧ kvs.length ≤ 15 ∧ Q (.ref p) (upd H2 p (.dK (mergeK [] kvs))) := by
  intro p hp
  rw [ev] at h
  obtain ⟨nd, lk⟩ := keysV_nodup hq
  have g : Grow H (upd H p (.dK [])) := Grow.upd hp
  have R1 := R0.hold (o := .dK []) hp
  refine pairs_go (by rw [lk, hl]) R1 ?_
  cases e : evs C es env st with
  | ok ps st2 =>
    rw [e] at h
    intro ca2 vs H2 R2 S2 hps
    have np : p ∉ ([] : List Addr) ++ ca := fun m => R0.trN p (List.mem_append_right _ (List.mem_append_right _ (by simpa using m))) hp
    have ep : H2 p = some (.dK []) := S2.stay _ _ upd_same np
    refine ⟨ep, qs.zip vs, ?_, by rw [List.length_zip]; omega, ?_⟩
    · rw [List.zip_map_left]
      rfl
    · have nz : ((qs.zip vs).map (·.1)).Nodup := by
        refine nd.sublist ?_
        have : ∀ (a : List L2.Key) (b : List V), ((a.zip b).map (·.1)).Sublist a := by
          intro a
          induction a with
          | nil => intro b; simp
          | cons x a ih =>
            intro b
            cases b with
            | nil => simp
            | cons y b => simpa using ih b
        exact this _ _
      rw [merge_new nz (fun _ _ => by simp), List.nil_append]
      have R3 := R2.held (o := .dK (qs.zip vs))
      have kp : Kp (own (p :: XL) L ca2) H2 (own (p :: XL) L ca2) (upd H2 p (.dK (qs.zip vs))) := ⟨fun a u e n => by rw [upd_ne (fun z => n (by rw [z]; exact List.mem_cons_self))]; exact e, fun _ _ n => n⟩
      refine h ca2 p _ _ R3 ?_ hp upd_same (.dct (dks_zip hq (kp.dvs hps)))
      refine ⟨fun a u ea n => ?_, fun a m => ?_, S2.pre, fun a ea => ?_⟩
      · rw [upd_ne (ne_of_none ea hp)]
        exact S2.stay a u (g a u ea) n
      · rcases S2.new a m with q | q
        · exact .inl q
        · refine .inr ?_
          cases z : H a with
          | none => rfl
          | some o => rw [g a o z] at q; cases q
      · by_cases z : a = p
        · subst z; rw [upd_same]; exact fun z => by cases z
        · rw [upd_ne z]
          refine S2.there a ?_
          rw [upd_ne z]; exact ea
  | exc z st2 =>
    rw [e] at h
    intro ca2 H2 cls d R2 S2 q
    refine h ca2 H2 cls d R2.let_ ?_ ?_
    · refine ⟨fun a u ea n => S2.stay a u (g a u ea) n, fun a m => ?_, S2.pre, fun a ea => S2.there a ?_⟩
      · rcases S2.new a m with q | q
        · exact .inl q
        · refine .inr ?_
          cases z : H a with
          | none => rfl
          | some o => rw [g a o z] at q; cases q
      · cases z : H a with
        | none => exact absurd z ea
        | some o => rw [g a o z]; exact fun z => by cases z
    · obtain ⟨a, h1, h2, h3⟩ := q
      refine ⟨a, h1, h2, ?_⟩
      cases ef : z.fld with
      | none => rw [ef] at h3; exact h3
      | some fp =>
        rw [ef] at h3
        obtain ⟨dx, v, q1, q2, q3, q4⟩ := h3
        exact ⟨dx, v, q1, q2, fun m => q3 (List.mem_cons_of_mem _ m), (Kp.less fun a m => List.mem_cons_of_mem _ m).dv q4⟩
  | stuck => rw [e] at h; exact h.elim
theorem sf_dic {ds : List D} {es : EL} {ks : List (Option Expr)} {vs : List Expr} {qs : List L2.Key} (h : IsPairs X W C ds es ks vs) (hq : keysV ds = some qs) (h0 : ks ≠ []) (h15 : ds.length ≤ 15) : SF X W C XL (.dic ds es) (.Dict ks vs pos) := by
  obtain ⟨h1, h2, h3, h4, h5⟩ := h.pps (pos := pos) hq
  exact PE.weak (pe_disp h1 h2 h3 h0 (by omega)) fun σ H Q ⟨ca, L, env, st, R0, hh⟩ => dic_rel hq h5 h15 R0 hh
/-- {} -/
theorem sf_dic0 : SF X W C XL (.dic [] .nil) (.Dict [] [] pos) := by
  refine PE.weak pe_dnewK fun σ H Q ⟨ca, L, env, st, R0, h⟩ => ?_
  rw [ev, evs] at h
  intro p np
  exact h ca p _ _ (R0.hold np) (Step.grow (Grow.upd np)) np upd_same (.dct .nil)
/-- what is made is a value -/
theorem OwnR.dv {K : PySem.W.Frag} {L ca : List Addr} {H : Hp} {d : D} {p : Addr} {o : HO} (nd : p ∉ own XL L ca) (ho : H p = some o) (h : OwnR K (own (p :: XL) L ca) H d p o) : DV K (own XL L ca) H d (.ref p) := by
  have kp : Kp (own (p :: XL) L ca) H (own XL L ca) H := .less fun a m => List.mem_cons_of_mem _ m
  cases h with
  | lst t => exact .lst ho nd (kp.dvs t)
  | dct t => exact .dct ho nd (t.keep kp.stay kp.out)
theorem se_fresh {e : E} {x : Expr} (h : SF X W C XL e x) : SE X W C XL e x := by
  refine PE.weak h fun σ H Q ⟨ca, L, env, st, R0, hh⟩ => ⟨ca, L, env, st, R0, ?_⟩
  cases r : ev C e env st with
  | ok d st1 =>
    rw [r] at hh
    intro ca1 p o H1 R1 S1 np ho ow
    exact hh ca1 _ H1 R1.let_ S1 (ow.dv (List.nodup_cons.mp R1.nd).1 ho)
  | exc z st1 => rw [r] at hh; exact hh
  | stuck => rw [r] at hh; exact hh
end
end IP
namespace IP
open PySem PySem.Spec L2
open PyProof.Rows hiding St
/-! ### new lists: of calls, of sums; given back; an own list's last -/
section
variable {X : Cx} {W : WX} {fr : Bool} {C : CallF} {XL L L1 ca ca1 : List Addr} {env : Env} {st st' : Store} {σ : L2.St} {H H' H1 : Hp} {pos p1 p2 p3 p4 : Pos} {x y : Expr} {xs : List Expr} {a b e : E}
theorem ss_retF (he : SF X W C XL e x) : SS X W fr XL C (.ret e) (.Return (some x) pos) := by
  refine PS.weak (ps_ret he) fun D σ H ⟨ca, L, env, st, R0, h⟩ => ?_
  rw [ex] at h
  refine ⟨ca, L, env, st, R0, ?_⟩
  cases r : ev C e env st with
  | ok d st1 =>
    rw [r] at h
    intro ca1 p o H1 R1 S1 np ho ow
    have nd := (List.nodup_cons.mp R1.nd).1
    refine h ca1 L env σ (.ref p) H1 R1.let_ S1.toL ⟨ow.dv nd ho, fun _ ds ed => ?_⟩
    subst ed
    cases ow with
    | lst t => exact ⟨p, _, rfl, .inl np, ho, nd, t, R1.cells⟩
  | exc z st1 => rw [r] at h; exact fun ca' H' cls d R S q => h ca' L σ H' cls d R S.toL q
  | stuck => rw [r] at h; exact h.elim
/-- an own list goes back -/
theorem Rel.freezeA {i : Nat} {d : D} (r : Rel X.K XL ca L env st σ H) (e : env.get i = .own d) : ∃ a o L', σ[i]? = some (some (.ref a)) ∧ H a = some o ∧ a ∈ L ∧ a ∉ own XL L' ca ∧ (∀ b ∈ a :: own XL L' ca, b ∈ own XL L ca) ∧ OwnR X.K (own XL L ca) H d a o ∧ Rel X.K XL ca L' (env.set i (.val d)) st σ H ∧ ∀ b ∈ L', b ∈ L := by
  have hi := get_lt e (fun z => by cases z)
  obtain ⟨L1, l0, L2, o, eL, eo, hs, k⟩ := r.env.split2 hi
  rw [e] at hs
  have key : ∀ (a : Addr) (u : HO), l0 = [a] → o = some (.ref a) → H a = some u → OwnR X.K (own XL L ca) H d a u → DV X.K (own XL (L1 ++ ([] ++ L2)) ca) H d (.ref a) → ∃ a o L', σ[i]? = some (some (.ref a)) ∧ H a = some o ∧ a ∈ L ∧ a ∉ own XL L' ca ∧ (∀ b ∈ a :: own XL L' ca, b ∈ own XL L ca) ∧ OwnR X.K (own XL L ca) H d a o ∧ Rel X.K XL ca L' (env.set i (.val d)) st σ H ∧ ∀ b ∈ L', b ∈ L := by
    intro a u el eo' ea ow hv
    subst el
    subst eo'
    have mL : a ∈ L := by rw [eL]; simp
    have sub : ∀ b ∈ L1 ++ ([] ++ L2), b ∈ L := fun b m => by
      rw [eL]
      rcases List.mem_append.mp m with m | m
      · exact List.mem_append_left _ m
      · exact List.mem_append_right _ (List.mem_append_right _ (by simpa using m))
    have sub2 := own_sub (XL := XL) (ca := ca) sub
    have kp : Kp (own XL L ca) H (own XL (L1 ++ ([] ++ L2)) ca) H := .less sub2
    have es : σ.set i (some (.ref a)) = σ := by
      apply List.ext_getElem?
      intro j
      by_cases hj : i = j
      · subst hj
        have hlt : i < σ.length := (List.getElem?_eq_some_iff.mp eo).1
        rw [List.getElem?_set_self hlt, eo]
      · rw [List.getElem?_set_ne hj]
    have q := k _ _ kp (fun _ _ _ e => e) (.val d) (some (.ref a)) [] (.val hv)
    rw [es] at q
    have out : a ∉ own XL (L1 ++ ([] ++ L2)) ca := fun m => by
      have nd := r.nd
      rw [eL] at nd
      have h0 := List.nodup_append.mp nd
      have h1 := List.nodup_append.mp h0.2.1
      have h2 := List.nodup_append.mp h1.1
      have h3 := List.nodup_append.mp h2.2.1
      rcases List.mem_append.mp m with m | m
      · exact h0.2.2 a m a (by simp) rfl
      · rcases List.mem_append.mp m with m | m
        · rcases List.mem_append.mp m with m | m
          · exact h2.2.2 a m a (by simp) rfl
          · exact h3.2.2 a (by simp) a (by simpa using m) rfl
        · exact h1.2.2 a (by simp) a m rfl
    refine ⟨a, u, L1 ++ ([] ++ L2), eo, ea, mL, out, fun b m => ?_, ow, ⟨q, r.cells.keep kp fun _ _ _ e => e, ?_, r.tr⟩, sub⟩
    · rcases List.mem_cons.mp m with rfl | m
      · exact List.mem_append_right _ (List.mem_append_left _ mL)
      · exact sub2 b m
    · refine r.nd.sublist ?_
      rw [eL]
      exact List.Sublist.append (List.Sublist.refl _) (List.Sublist.append (List.Sublist.append (List.Sublist.refl _) (List.Sublist.append (List.nil_sublist _) (List.Sublist.refl _))) (List.Sublist.refl _))
  have out : ∀ a, l0 = [a] → a ∉ own XL (L1 ++ ([] ++ L2)) ca := fun a el m => by
    subst el
    have nd := r.nd
    rw [eL] at nd
    have h0 := List.nodup_append.mp nd
    have h1 := List.nodup_append.mp h0.2.1
    have h2 := List.nodup_append.mp h1.1
    have h3 := List.nodup_append.mp h2.2.1
    rcases List.mem_append.mp m with m | m
    · exact h0.2.2 a m a (by simp) rfl
    · rcases List.mem_append.mp m with m | m
      · rcases List.mem_append.mp m with m | m
        · exact h2.2.2 a m a (by simp) rfl
        · exact h3.2.2 a (by simp) a (by simpa using m) rfl
      · exact h1.2.2 a (by simp) a m rfl
  have sub2 : ∀ b ∈ own XL (L1 ++ ([] ++ L2)) ca, b ∈ own XL L ca := own_sub fun b m => by
    rw [eL]
    rcases List.mem_append.mp m with m | m
    · exact List.mem_append_left _ m
    · exact List.mem_append_right _ (List.mem_append_right _ (by simpa using m))
  cases hs with
  | lst ha t => exact key _ _ rfl rfl ha (.lst t) (.lst ha (out _ rfl) ((Kp.less sub2).dvs t))
  | dct ha t => exact key _ _ rfl rfl ha (.dct t) (.dct ha (out _ rfl) (t.keep (Kp.less sub2).stay (Kp.less (H := H) sub2).out))
theorem ss_retO {i : Nat} {nm : Str} (hN : X.N[i]? = some nm) (hv : Vis X.env.scope nm) (hd : (nm == ("__debug__" : Str)) = false) (hcd : (nm == ("__classdict__" : Str)) = false) : SS X W fr XL C (.ret (.loc i)) (.Return (some (.Name nm p1)) pos) := by
  refine PS.weak (ps_ret (pe_name hN hv hd hcd)) fun D σ H ⟨ca, L, env, st, R0, h⟩ => ?_
  rw [ex, ev] at h
  cases e : env.get i with
  | own o =>
    rw [e] at h
    obtain ⟨a, u, L', es, ea, mL, na, sub, ow, R1, sL⟩ := R0.freezeA e
    have kp : Kp (own XL L ca) H (a :: own XL L' ca) H := .less sub
    have kp' : Kp (own XL L ca) H (own XL L' ca) H := .less fun b m => sub b (List.mem_cons_of_mem _ m)
    refine ⟨_, es, h ca L' _ σ _ H R1 (Step.less sL) ⟨?_, fun _ ds ed => ?_⟩⟩
    · cases ow with
      | lst t => exact .lst ea na (kp'.dvs t)
      | dct t => exact .dct ea na (t.keep kp'.stay kp'.out)
    · subst ed
      cases ow with
      | lst t => exact ⟨a, _, rfl, .inr mL, ea, na, kp.dvs t, R0.cells.keep kp fun _ _ _ e => e⟩
  | _ => rw [e] at h; exact h.elim
theorem sf_addl (ha : SE X W C XL a x) (hb : SE X W C XL b y) : SF X W C XL (.addl a b) (.BinOp x .Add y pos) := by
  refine PE.weak (pe_op op_cat ha hb) fun σ H Q ⟨ca, L, env, st, R0, h⟩ => ?_
  rw [ev] at h
  refine ⟨ca, L, env, st, R0, (FinF.bind (rel := DV X.K) h).mono fun v H1 ⟨ca1, st1, p, R1, S1, hp, h1⟩ => ?_⟩
  refine ⟨ca1, L, env, st1, R1, (FinF.bind (rel := DV X.K) h1).mono fun u H2 ⟨ca2, st2, q, R2, S2, hq, h2⟩ => ?_⟩
  have hp2 := hp.stepE S2
  cases p with
  | list ds =>
    cases q with
    | list es =>
      obtain ⟨a, vs, rfl, ha, na, ta⟩ := hp2.lstS
      obtain ⟨b, ws, rfl, hb, nb, tb⟩ := hq.lstS
      replace h2 : FinF X W XL L env σ ca2 H2 Q (R.of (ifs (decide (ds.length + es.length ≤ LINE)) (.list (ds ++ es))) st2) := h2
      cases el : decide (ds.length + es.length ≤ LINE) with
      | false => rw [el] at h2; exact h2.elim
      | true =>
        rw [el] at h2
        refine ⟨a, b, vs, ws, rfl, rfl, ha, hb, by rw [← ta.length, ← tb.length, line_eq]; exact of_decide_eq_true el, fun p np => ?_⟩
        exact h2 ca2 p _ _ (R2.hold np) (Step.grow (Grow.upd np)) np upd_same (.lst ((Kp.more np (Grow.upd np)).dvs (ta.append tb)))
    | _ => exact h2.elim
  | _ => exact h2.elim
/-- behind a call that gave a new list -/
theorem Rel.calledN {K : PySem.W.Frag} {p : Addr} {u : HO} (r : Rel K XL ca L env st σ H) (c : CellsR K (p :: own XL L ca) H' st' ca) (s : Step [] ca H [] ca H') (np : H p = none) (nn : p ∉ own XL L ca) (hp : H' p = some u) : Rel K (p :: XL) ca L env st' σ H' := by
  have kp : Kp (own XL L ca) H (p :: own XL L ca) H' := by
    refine ⟨(s.kpE (XL := XL) (L := L)).stay, fun a e n m => ?_⟩
    rcases List.mem_cons.mp m with rfl | m
    · rw [np] at e; cases e
    · exact n m
  refine ⟨r.env.keep kp fun a u m e => s.stay a u e fun z => ?_, c, List.nodup_cons.mpr ⟨nn, r.nd⟩, fun a m => ?_⟩
  · have nd := (List.nodup_append.mp (List.nodup_append.mp r.nd).2.1).2.2 a m a (by simpa using z)
    exact nd rfl
  · rcases List.mem_cons.mp m with rfl | m
    · rw [hp]; exact fun z => by cases z
    · exact s.there a (r.tr a m)
theorem sf_callN {f k : Nat} {fa : Addr} {fd : FuncData} {ps : List Str} {nm : Str} {dps : List D} {dvs : List V} {ds : List Value} {al : AL} (tk : Takes X W) (F : FnOk X.prog X.w X.K X.mg X.base (L2.CX X.prog X.w) k fa fd ps (spF true X.K X.mg C f))
    (hr : Room k X.A) (hg : Gl X nm) (hm : X.mg nm = some (.ref fa)) (hk : PySem.W.keepIn X.K (.ref fa) = true) (hb : Binds X.K fd ps ds) (hd : Vals dvs ds) (hdd : ∀ N H, DVs X.K N H dps dvs) (ha : SAs X W C XL al (x :: xs))
    (hdb : (nm == ("__debug__" : Str)) = false) (hs : starEach (x :: xs) X.env = (false, eval x X.env) :: starEach xs X.env) (hpl : (backTo pos (starEach xs X.env)).any (·.1) = false) :
    SF X W C XL (.callN f al dps) (.Call (.Name nm p1) (x :: xs) [] pos) := by
  refine PE.weak (pe_callSD (E := WE W) F hr hg hm hk hb hd (fun σ => passAt tk σ) ha hdb hs hpl) fun σ H Q ⟨ca, L, env, st, R0, h⟩ => ?_
  rw [ev] at h
  refine ⟨ca, L, env, st, R0, (FinF.bind (rel := SlsR X.K XL L) h).mono fun vs H1 ⟨ca1, st1, sl, R1, S1, hsl, h1⟩ => ?_⟩
  obtain ⟨nd, tr⟩ := R1.calls
  have he : EnvR X.K (own (XL ++ L) [] ca1) ca1 H1 (sl ++ dps.map Slot.val) ((vs ++ dvs).map some) [] := by
    rw [own_call, List.map_append]
    exact (hsl ca1 rfl).app (vals_env (hdd _ _))
  refine ⟨XL ++ L, ca1, _, st1, he, by rw [own_call]; exact R1.cells, nd, tr, ?_⟩
  · cases e : C f (sl ++ dps.map Slot.val) st1 with
    | ok p st2 =>
      rw [e] at h1
      intro v H2 c s ⟨d, n⟩
      cases p with
      | list qs =>
        obtain ⟨a, ws, rfl, hn, hw, na, t, cc⟩ := n rfl qs rfl
        rw [own_call] at na t cc
        have np : H1 a = none := by
          rcases hn with hn | hn
          · exact hn
          · simp at hn
        exact h1 ca1 a _ H2 (R1.calledN cc s np na hw) s np hw (.lst t)
      | _ => exact h1.elim
    | exc z st2 =>
      rw [e] at h1
      intro H2 cls d c s q
      rw [own_call] at c q
      exact h1 ca1 H2 cls d (R1.called c s) s q
    | stuck => rw [e] at h1; exact h1.elim
/-! ### xs[::-1] -/
theorem DVs.rev {K : PySem.W.Frag} {N : List Addr} : ∀ {ds : List D} {vs : List V}, DVs K N H ds vs → DVs K N H ds.reverse vs.reverse
  | _, _, .nil => .nil
  | _, _, .cons h t => by
    rw [List.reverse_cons, List.reverse_cons]
    exact t.rev.append (.cons h .nil)
theorem se_rev {k : Nat} (ha : SE X W C XL a x) : SE X W C XL (.rev a) (.Subscript x (.Slice none none (some (.UnaryOp .USub (.Constant (.int 1) k p1) p2)) p3) pos) := by
  refine PE.weak (pe_revL ha) fun σ H Q ⟨ca, L, env, st, R0, h⟩ => ?_
  rw [ev] at h
  refine ⟨ca, L, env, st, R0, (Fin.bind (rel := DV X.K) h).mono fun v H1 ⟨ca1, st1, p, R1, S1, hp, h1⟩ => ?_⟩
  cases p with
  | list ds =>
    obtain ⟨a, vs, rfl, ha, na, ta⟩ := hp.lstS
    exact ⟨a, vs, rfl, .inl (.inl ha), fun p np => h1.grown R1 (Grow.upd np) (DV.newLst R1.trN np ta.rev)⟩
  | _ => exact h1.elim
/-! ### x = e if t else own.pop() -/
theorem ss_asgP {i j : Nat} {t e : E} {nm nj : Str} {w : Expr} (hN : X.N.Nodup) (hi : X.N[i]? = some nm) (hx : Loc X.env.scope nm) (hf : X.fn nm = true ∨ X.env.scope.names.lookup nm = some .local)
    (hj : X.N[j]? = some nj) (hv : Vis X.env.scope nj) (hd : (nj == ("__debug__" : Str)) = false) (hcd : (nj == ("__classdict__" : Str)) = false) (ht : ST X W C XL t w) (he : SE X W C XL e x) {p5 : Pos} (hline : (p3.endLine == p4.line) = true)
    (hs : swapsWith (.IfExp w x (.Call (.Attribute (.Name nj p2) "pop" p3) [] [] p4) p5) (some (.Name nm p1)) pos.line X.env = pure false) :
    SS X W fr XL C (.asgP i t e j) (.Assign [.Name nm p1] (.IfExp w x (.Call (.Attribute (.Name nj p2) "pop" p3) [] [] p4) p5) pos) := by
  have hm : MtR X "list.pop" rPop := mt_pop
  have q := pe_bm0 (apos := p3) (cpos := p4) PySem.F.plainAttrs_list PySem.F.slot_list_pop PySem.F.type_list_pop hm (pe_name (pos := p2) hj hv hd hcd) rfl hline
  refine PS.weak (ps_set hN hi hx (pe_ifExp ht he q) hs hf) fun D σ H ⟨ca, L, env, st, R0, h⟩ => ?_
  rw [ex] at h
  refine ⟨ca, L, env, st, R0, ?_⟩
  have h' : FinS X W fr XL ca L H D ((tr1 (ev C t env st)).toS env fun k st1 => match k with
    | true => (ev C e env st1).toS env fun x st2 => .nx (env.set i (.val x)) st2
    | false => match env.get j with
      | .own (.list xs) => match xs[xs.length - 1]? with
        | some x => .nx ((env.set j (.own (.list xs.dropLast))).set i (.val x)) st1
        | none => .stuck
      | _ => .stuck) := by
    cases e : ev C t env st with
    | ok p st1 => rw [e] at h; exact h
    | exc z st1 => rw [e] at h; exact h
    | stuck => rw [e] at h; exact h
  refine (FinS.bind (rel := eqR) h').mono fun k H1 ⟨ca1, st1, k', R1, S1, ek, h1⟩ => ?_
  cases ek
  cases k with
  | true =>
    rw [if_pos rfl]
    refine ⟨ca1, L, env, st1, R1, (FinS.bind (rel := DV X.K) h1).mono fun v H2 ⟨ca2, st2, p, R2, S2, hp, h2⟩ => ?_⟩
    obtain ⟨L', R3, sub⟩ := R2.setVal (i := i) hp
    exact h2.nx' R3 (Step.less sub)
  | false =>
    rw [if_neg Bool.false_ne_true]
    replace h1 : FinS X W fr XL ca1 L H1 D (match env.get j with
      | .own (.list xs) => match xs[xs.length - 1]? with
        | some x => .nx ((env.set j (.own (.list xs.dropLast))).set i (.val x)) st1
        | none => .stuck
      | _ => .stuck) := h1
    split at h1
    · rename_i ds eg
      obtain ⟨a, o, es, ea, ow, mL, k⟩ := R1.ownAt eg
      cases ow with
      | @lst _ _ vs t =>
        split at h1
        · rename_i d ed
          obtain ⟨v, ev', hv'⟩ := t.get ed
          have mN : a ∈ own XL L ca1 := List.mem_append_right _ (List.mem_append_left _ mL)
          have kp : Kp (own XL L ca1) H1 (own XL L ca1) (upd H1 a (.lst vs.dropLast)) := ⟨fun b v eb n => by rw [upd_ne (by rintro rfl; exact n mN)]; exact eb, fun _ _ n => n⟩
          have td : DVs X.K (own XL L ca1) H1 ds.dropLast vs.dropLast := by
            rw [List.dropLast_eq_take, List.dropLast_eq_take, t.length]
            exact t.take _
          have R2 := k (.list ds.dropLast) (.lst vs.dropLast) (.lst td)
          obtain ⟨L', R3, sub⟩ := R2.setVal (i := i) (kp.dv hv')
          refine ⟨_, es, .inl ⟨rfl, vs, .inl (.inl ea)⟩, a, vs, v, rfl, rfl, ea, by rw [← t.length]; exact ev', h1.nx' R3 ((ownStep mL ea).trans (Step.less sub))⟩
        · exact h1.elim
    · exact h1.elim
end
end IP
namespace IP
open PySem PySem.Spec L2
open PyProof.Rows hiding St
/-! ### shared lists, the script: read -/
section
variable {X : Cx} {W : WX} {C : CallF} {XL : List Addr} {b : E} {y : Expr} {pos p1 p2 : Pos}
theorem idx_list {ds : List D} {q r : D} (h : idxD (.list ds) q = some r) : ∃ i, q = .int i ∧ atI ds i = some r := by
  cases q with
  | int i => exact ⟨i, rfl, h⟩
  | _ => cases h
theorem se_cidx {i : Nat} {nm : Str} (hN : X.N[i]? = some nm) (hv : Vis X.env.scope nm) (hd : (nm == ("__debug__" : Str)) = false) (hcd : (nm == ("__classdict__" : Str)) = false) (hb : SE X W C XL b y) (hs : PlainIx y) : SE X W C XL (.cidx i b) (.Subscript (.Name nm p1) y pos) := by
  refine PE.weak (pe_ix ix_list (pe_name hN hv hd hcd) hb hs) fun σ H Q ⟨ca, L, env, st, R0, h⟩ => ?_
  rw [ev] at h
  split at h
  · rename_i k eg
    obtain ⟨o, l, eo, hsl, _⟩ := R0.slot eg (fun z => by cases z)
    cases hsl with
    | @rf _ a hca =>
      refine ⟨_, eo, ca, L, env, st, R0, (Fin.bind (rel := DV X.K) h).mono fun u H1 ⟨ca1, st1, q, R1, S1, hq, h1⟩ => ?_⟩
      cases ec : st1[k]? with
      | none => rw [ec] at h1; exact h1.elim
      | some cell =>
        rw [ec] at h1
        cases cell with
        | ml xs =>
          replace h1 : Fin X W XL L env σ ca1 H1 (DV X.K) Q (R.of (idxD (.list xs) q) st1) := h1
          obtain ⟨z, ez, h2⟩ := R.of_ok h1
          obtain ⟨n, rfl, ea⟩ := idx_list ez
          obtain ⟨a', eb, hcell⟩ := R1.cells.get ec
          have eab : ca1[k]? = some a := by
            obtain ⟨m, rfl⟩ := S1.pre
            rw [List.getElem?_append_left]
            · exact hca
            · exact (List.getElem?_eq_some_iff.mp hca).1
          rw [eab] at eb
          cases eb
          cases hcell with
          | ml ha t =>
            obtain ⟨w, e, hw⟩ := atI_dv t ea
            cases hq
            exact ⟨_, _, _, w, rfl, rfl, .inl (.inl ha), e, h2.ok R1 hw⟩
        | ins c fs => exact h1.elim
  · exact h.elim
theorem se_slen {i : Nat} {nm : Str} (hN : X.N[i]? = some nm) (hv : Vis X.env.scope nm) (hd : (nm == ("__debug__" : Str)) = false) (hcd : (nm == ("__classdict__" : Str)) = false) (hg : Gl X "len") (hm : X.mg "len" = none) :
    SE X W C XL (.slen i) (.Call (.Name "len" p1) [.Name nm p2] [] pos) := by
  refine PE.weak (pe_callB call_len_seq hg hm rfl (pa_cons (pe_name hN hv hd hcd) pa_nil rfl) (by decide) (by decide) rfl rfl) fun σ H Q ⟨ca, L, env, st, R0, h⟩ => ?_
  rw [ev] at h
  split at h
  · rename_i ns eg
    obtain ⟨o, l, eo, hsl, _⟩ := R0.slot eg (fun z => by cases z)
    cases hsl with
    | scr hsc =>
      refine ⟨_, eo, _, _, rfl, .inl hsc.sq, h.ok R0 ?_⟩
      rw [List.length_map]
      exact .int _
  · exact h.elim
theorem atI_map {α β : Type} {f : α → β} {xs : List α} {i : Int} : atI (xs.map f) i = (atI xs i).map f := by
  unfold atI
  rw [List.length_map]
  cases ixN xs.length i with
  | none => rfl
  | some j => simp
theorem se_sidx {i : Nat} {nm : Str} (hN : X.N[i]? = some nm) (hv : Vis X.env.scope nm) (hd : (nm == ("__debug__" : Str)) = false) (hcd : (nm == ("__classdict__" : Str)) = false) (hb : SE X W C XL b y) (hs : PlainIx y) : SE X W C XL (.sidx i b) (.Subscript (.Name nm p1) y pos) := by
  refine PE.weak (pe_ix ix_list (pe_name hN hv hd hcd) hb hs) fun σ H Q ⟨ca, L, env, st, R0, h⟩ => ?_
  rw [ev] at h
  split at h
  · rename_i ns eg
    obtain ⟨o, l, eo, hsl, _⟩ := R0.slot eg (fun z => by cases z)
    cases hsl with
    | scr hsc =>
      refine ⟨_, eo, ca, L, env, st, R0, (Fin.bind (rel := DV X.K) h).mono fun u H1 ⟨ca1, st1, q, R1, S1, hq, h1⟩ => ?_⟩
      cases q with
      | int k =>
        obtain ⟨z, ez, h2⟩ := R.of_ok h1
        obtain ⟨n, en, rfl⟩ := Option.map_eq_some_iff.mp ez
        cases hq
        have kp := S1.kpE (XL := XL) (L := L)
        exact ⟨_, _, _, .int n, rfl, rfl, (hsc.keep kp.stay kp.out).sq, by rw [atI_map, en]; rfl, h2.ok R1 (.int n)⟩
      | _ => exact h1.elim
  · exact h.elim
end
end IP
namespace IP
open PySem PySem.Spec L2
open PyProof.Rows hiding St
/-! ### tables of the module with text keys -/
def OptR (K : PySem.W.Frag) : Option D → Option Value → Prop
  | none, r => r = none
  | some d, r => ∃ u v, r = some u ∧ RelV v u ∧ ∀ N H, DV K N H d v
def TblOk (K : PySem.W.Frag) (w : World) (a : Addr) (kvs : List (Str × D)) : Prop := ∃ es n, KDict K w a es n ∧ ∀ z : Str, ∃ r, PySem.W.nsIn K a z = some r ∧ OptR K (lkS kvs z) r
def gotR (K : PySem.W.Frag) (H : Hp) (w v : V) : Option D → Prop
  | none => v = w
  | some d => ∀ N, DV K N H d v
def tGetc (K : PySem.W.Frag) (kvs : List (Str × D)) (ty tz : TE) : TE := fun σ H Q => ty σ H fun x H1 => ∃ q, x = .str q ∧ tz σ H1 fun w H2 => ∀ v, gotR K H2 w v (lkS kvs q) → Q v H2
section
variable {X : Cx} {W : WX} {C : CallF} {XL : List Addr} {b d : E} {y z : Expr} {pos p1 p2 : Pos} {ty tz : TE}
theorem pe_getc {nm : Str} {kvs : List (Str × D)} {a : Addr} (hg : Gl X nm) (hm : X.mg nm = some (.ref a)) (hdb : (nm == ("__debug__" : Str)) = false) (tb : TblOk X.K X.w a kvs) (hy : PE X y ty) (hz : PE X z tz)
    (st1 : starEach [y, z] X.env = [(false, eval y X.env), (false, eval z X.env)]) (hline : (p2.endLine == pos.line) = true) : PE X (.Call (.Attribute (.Name nm p1) "get" p2) [y, z] [] pos) (tGetc X.K kvs ty tz) := by
  obtain ⟨es, n, kd, hr⟩ := tb
  refine ⟨fun pins s σ H Q I h => ?_⟩
  refine wpAny_Call_method rfl (by rw [st1]; rfl) hline PySem.F.plainAttrs_dict PySem.F.slot_dict_get PySem.F.type_dict_get (thn ((pe_glob (v := .ref a) hg hm rfl hdb).run pins s σ H (fun x H1 => x = .ref a ∧ H1 = H) I ⟨rfl, rfl⟩) fun u s1 ⟨x, H1, I1, rx, ex, eh⟩ => ?_)
  subst ex
  subst eh
  obtain rfl : u = Value.ref a := rx
  refine ⟨kd_type kd I1, fun b e => ?_, ?_⟩
  · cases e
    exact ⟨_, I1.kIn _ _ kd.at_, rfl⟩
  · rw [st1]
    refine Calls.callWith_builtin rfl (Calls.evalArgs_plain (Calls.spliced_cons (thn (hy.run pins s1 σ H1 _ I1 h) fun iv s2 ⟨x, H2, I2, ry, q, ex, q2⟩ =>
      Calls.spliced_cons (thn (hz.run pins s2 σ H2 _ I2 q2) fun fv s3 ⟨w, H3, I3, rz, q3⟩ => Calls.spliced_nil ?_))))
    subst ex
    obtain ⟨t, rfl⟩ := ry
    obtain ⟨r, e, hr⟩ := hr q
    refine call_meetsIn PySem.F.slot_dict_get (kd_type kd I3) PySem.F.entry_dict_get (PySem.F.args_dict_get_3 _ _ _) (meets_dict_get_default (PySem.strKind X.prog X.w) a (PySem.strKind_is X.prog X.w q t) kd.low fv) ⟨_, PySem.W.mapOf_K (prog := X.prog) I3.kIn kd.at_ kd.lit, ?_⟩
    rw [PySem.W.find_K kd.at_ e]
    cases el : lkS kvs q with
    | none =>
      rw [el] at hr q3
      rw [show r = none from hr]
      exact ⟨w, H3, I3.tok _, rz, q3 w rfl⟩
    | some d =>
      rw [el] at hr q3
      obtain ⟨u, v, e1, e2, e3⟩ := hr
      rw [e1]
      exact ⟨v, H3, I3.tok _, e2, q3 v fun N => e3 N H3⟩
theorem se_getc {nm : Str} {kvs : List (Str × D)} {a : Addr} (hg : Gl X nm) (hm : X.mg nm = some (.ref a)) (hdb : (nm == ("__debug__" : Str)) = false) (tb : TblOk X.K X.w a kvs) (hy : SE X W C XL b y) (hz : SE X W C XL d z)
    (st1 : starEach [y, z] X.env = [(false, eval y X.env), (false, eval z X.env)]) (hline : (p2.endLine == pos.line) = true) : SE X W C XL (.getc nm kvs b d) (.Call (.Attribute (.Name nm p1) "get" p2) [y, z] [] pos) := by
  refine PE.weak (pe_getc hg hm hdb tb hy hz st1 hline) fun σ H Q ⟨ca, L, env, st, R0, h⟩ => ?_
  rw [ev] at h
  refine ⟨ca, L, env, st, R0, (Fin.bind (rel := DV X.K) h).mono fun v H1 ⟨ca1, st1, p, R1, S1, hp, h1⟩ => ?_⟩
  cases p with
  | str q =>
    cases hp
    refine ⟨q, rfl, ca1, L, env, st1, R1, (Fin.bind (rel := DV X.K) h1).mono fun u H2 ⟨ca2, st2, p2, R2, S2, hp2, h2⟩ v hv => ?_⟩
    cases el : lkS kvs q with
    | none =>
      rw [el] at hv h2
      rw [show v = u from hv]
      exact h2.ok R2 hp2
    | some g =>
      rw [el] at hv h2
      exact h2.ok R2 (hv _)
  | _ => exact h1.elim
end
end IP
namespace IP
open PySem PySem.Spec L2
open PyProof.Rows hiding St
/-! ### own exceptions: raised, caught, asked -/
/-- a class of the program's own, without __init__ -/
def ExcOk (K : PySem.W.Frag) (mg : Str → Option Value) (x : Str) : Prop := ∃ C : Addr, mg x = some (.ref C) ∧ PySem.W.excIn K C He.veBase "ValueError.__new__" = true ∧ PySem.W.keepIn K (.ref C) = true ∧
  PySem.W.subIn K (.ref C) (.type "BaseException") = some true ∧ PySem.W.typeIn K (.ref C) = some (.type "type") ∧ PySem.W.exmOne K (.ref C) (.ref C) = some true ∧ ExcC K C
/-- isinstance of such an exception -/
def ExiOk (K : PySem.W.Frag) (mg : Str → Option Value) (q : Str × Str × Bool) : Prop := ∃ C T : Addr, mg q.1 = some (.ref C) ∧ mg q.2.1 = some (.ref T) ∧ PySem.W.kitOne K (.ref C) (.ref T) = some q.2.2
section
variable {X : Cx} {W : WX} {fr : Bool} {C : CallF} {XL : List Addr} {pos p1 p2 p3 p4 p5 p6 p7 p8 p9 : Pos}
theorem ss_raise {c m : Str} {j : Nat} (hc : X.calm = true) (tk : Takes X W) (ok : ExcOk X.K X.mg c) (hg : Gl X c) (hdb : (c == ("__debug__" : Str)) = false) : SS X W fr XL C (.raise c m) (.Raise (some (.Call (.Name c p1) [.Constant (.str m) j p2] [] p3)) none pos) := by
  obtain ⟨a, hm, e1, e2, e3, e4, e5, e6⟩ := ok
  refine PS.weak (ps_raise hc tk (pmk_own PySem.F.excBase_ValueError e1 hm e2 (raises_own e3 e4) hg hdb)) fun D σ H ⟨ca, L, env, st, R0, h⟩ => ?_
  rw [ex] at h
  exact h ca L σ H (.ref a) none R0 (Step.refl _ _ _) ⟨a, hm, rfl, rfl⟩
def tIse (a : Addr) (i : Nat) (b : Bool) : TE := fun σ H Q => σ[i]? = some (some (.ref a)) ∧ Q (.bl b) H
theorem pe_ise {a Ca T : Addr} {oe : Obj} {pn : List (Addr × Obj)} {i : Nat} {n t : Str} {b : Bool} (ec : ExcC X.K Ca) (hz : Zc (.ref Ca) none oe) (hf : ∃ vs, oe.data = .fields vs) (hk : PySem.W.kitOne X.K (.ref Ca) (.ref T) = some b) (hmT : X.mg t = some (.ref T)) (gT : Gl X t) (dT : (t == ("__debug__" : Str)) = false)
    (gi : Gl X "isinstance") (mi : X.mg "isinstance" = none) (hN : X.N[i]? = some n) (hv : Vis X.env.scope n) (hd : (n == ("__debug__" : Str)) = false) (hcd : (n == ("__classdict__" : Str)) = false) :
    PE (X.suite a ((a, oe) :: pn)) (.Call (.Name "isinstance" p1) [.Name n p2, .Name t p3] [] p4) (tIse a i b) := by
  have h1 : PE (X.suite a ((a, oe) :: pn)) (.Name n p2) (tVar i) := pe_var hN hv hd hcd
  have h2 : PE (X.suite a ((a, oe) :: pn)) (.Name t p3) (tC (.ref T)) := pe_glob (v := .ref T) gT hmT rfl dT
  refine PE.weak (pe_callB (call_isE ec hz hf) gi mi boot_isinstance (pa_cons h1 (pa_cons h2 pa_nil rfl) rfl) (by decide) (by decide) rfl rfl) fun σ H Q ⟨e, q⟩ => ?_
  exact ⟨_, e, .ref T, .ref T, b, rfl, fun u r => r, hk, q⟩
theorem ss_tryI {b : SL} {c n t1 t2 : Str} {i : Nat} {b1 b2 : Bool} {body : List Stmt} {p10 p11 p12 p13 : Pos} (st0 : X.stack = X.env :: X.outer) (fr0 : X.env.frame = some X.env.locals) (hN : X.N.Nodup) (hi : X.N[i]? = some n) (hln : X.env.kindOf n = some .local) (hv : Vis X.env.scope n)
    (hd : (n == ("__debug__" : Str)) = false) (hcd : (n == ("__classdict__" : Str)) = false) (gc : Gl X c) (dc : (c == ("__debug__" : Str)) = false) (ok : ExcOk X.K X.mg c) (i1 : ExiOk X.K X.mg (c, t1, b1)) (i2 : ExiOk X.K X.mg (c, t2, b2)) (g1 : Gl X t1) (d1 : (t1 == ("__debug__" : Str)) = false)
    (g2 : Gl X t2) (d2 : (t2 == ("__debug__" : Str)) = false) (gi : Gl X "isinstance") (mi : X.mg "isinstance" = none) (tk : Takes X W)
    (hb : ∀ (W' : WX) (pn : List (Addr × Obj)) (xe : Value → Shared → Prop), Takes (X.tr pn xe) W' → PassesOwn (model X.prog X.w) X.A X.env xe → SSs (X.tr pn xe) W' fr XL C b body) :
    SS X W fr XL C (.tryI b c i t1 b1 t2 b2) (.Try body [.ExceptHandler (some (.Name c p1)) (some n) [.Return (some (.BoolOp .And [.Call (.Name "isinstance" p2) [.Name n p3, .Name t1 p4] [] p5, .UnaryOp .Not (.Call (.Name "isinstance" p6) [.Name n p7, .Name t2 p8] [] p9) p10] p11)) p12] p13] [] [] pos) := by
  obtain ⟨Ca, hm, e1, e2, e3, e4, e5, e6⟩ := ok
  obtain ⟨Ca1, T1, hm1, hT1, hk1⟩ := i1
  obtain ⟨Ca2, T2, hm2, hT2, hk2⟩ := i2
  have z1 : Ca1 = Ca := by
    have := hm1.symm.trans hm
    cases this; rfl
  have z2 : Ca2 = Ca := by
    have := hm2.symm.trans hm
    cases this; rfl
  subst z1
  subst z2
  have hil : i < X.N.length := (List.getElem?_eq_some_iff.mp hi).1
  refine PS.weak (ps_try_as (c := .ref Ca2) (tb := fun W' => tSs X W' fr XL C b) (ts := fun a cls d D σ H => cls = .ref Ca2 ∧ d = none ∧ (∃ σ0 : L2.St, σ = σ0.set i (some (.ref a))) ∧ D.rt (.bl (b1 && !b2)) H) st0 fr0 hN hi hln ⟨gc, dc, .inl hm⟩ tk hb ?_) fun D σ H ⟨ca, L, env, st, R0, h⟩ => ⟨ca, L, env, st, R0, ?_⟩
  · intro a oe cls d pn hz hf
    refine ⟨fun pins s σ H D I ⟨h1, h2, ⟨σ0, h3⟩, h4⟩ => ?_⟩
    subst h1
    subst h2
    have hlen : i < σ.length := by
      rw [I.len]
      exact hil
    have hs : σ[i]? = some (some (.ref a)) := by
      rw [h3] at hlen ⊢
      rw [List.getElem?_set_self (by simpa using hlen)]
    have pe1 := pe_ise (p1 := p2) (p2 := p3) (p3 := p4) (p4 := p5) (pn := pn) (a := a) e6 hz hf hk1 hT1 g1 d1 gi mi hi hv hd hcd
    have pe2 := pe_ise (p1 := p6) (p2 := p7) (p3 := p8) (p4 := p9) (pn := pn) (a := a) e6 hz hf hk2 hT2 g2 d2 gi mi hi hv hd hcd
    refine (pss_cons (ps_ret (pe_and pe1 (pe_one (pe_not pe2)))) pss_nil).run pins s σ H D I ⟨hs, b1, rfl, ?_⟩
    cases b1 with
    | true => rw [if_pos rfl]; exact ⟨hs, b2, rfl, h4⟩
    | false => rw [if_neg Bool.false_ne_true]; exact h4
  · rw [ex] at h
    cases er : exs C b env st with
    | nx env1 st1 => rw [er] at h; exact h
    | ret p st1 => rw [er] at h; exact h
    | stuck => rw [er] at h; exact h.elim
    | exc x env1 st1 =>
      rw [er] at h
      intro ca' L' σ' H' cls d R S q
      obtain ⟨a, q1, q2, q3⟩ := q
      replace h : FinS X W fr XL ca L H D (match decide (x.cls = c), x.fld with
        | true, none => .ret (.bool (b1 && !b2)) st1
        | _, _ => .stuck) := h
      cases ec : decide (x.cls = c) with
      | false => rw [ec] at h; exact h.elim
      | true =>
        cases ef : x.fld with
        | some fp => rw [ec, ef] at h; exact h.elim
        | none =>
          rw [ec, ef] at h
          rw [ef] at q3
          have exc : x.cls = c := of_decide_eq_true ec
          rw [exc, hm] at q1
          cases q1
          refine ⟨true, by rw [q2]; exact e5, fun _ a' na => ⟨q2, q3, ⟨_, rfl⟩, ?_⟩, fun z => by cases z⟩
          exact h ca' L' env1 σ' _ H' R S ⟨.bl _, fun _ _ z => by cases z⟩
end
end IP
namespace IP
open PySem PySem.Spec L2
open PyProof.Rows hiding St
/-! ### d[k] = v of a name's own dict; a body never come to -/
section
variable {K : PySem.W.Frag} {N : List Addr} {H : Hp}
theorem DKs.anyK {k : L2.Key} : ∀ {ds : List (D × D)} {vs : List (L2.Key × V)}, DKs K N H ds vs → (ds.any fun p => decide (keyD p.1 = some k)) = vs.any fun kv => decide (kv.1 = k)
  | _, _, .nil => rfl
  | _, _, .cons (k := k') h1 h2 t => by
    rw [List.any_cons, List.any_cons, t.anyK, h1]
    congr 1
    simp
theorem DKs.mapK {k : L2.Key} {x : D} {v : V} (hx : DV K N H x v) : ∀ {ds : List (D × D)} {vs : List (L2.Key × V)}, DKs K N H ds vs → DKs K N H (ds.map fun p => match decide (keyD p.1 = some k) with
    | true => (p.1, x)
    | false => p) (vs.map fun kv => if kv.1 = k then (kv.1, v) else kv)
  | _, _, .nil => .nil
  | _, _, .cons (a := a) (d := d) (k := k') (v := w) h1 h2 t => by
    rw [List.map_cons, List.map_cons]
    by_cases e : k' = k
    · subst e
      rw [if_pos rfl]
      have e1 : decide (keyD (a, d).1 = some k') = true := decide_eq_true h1
      rw [e1]
      exact .cons h1 hx (t.mapK hx)
    · rw [if_neg e]
      have e1 : decide (keyD (a, d).1 = some k) = false := decide_eq_false (fun z => e (Option.some.inj (h1.symm.trans z)))
      rw [e1]
      exact .cons h1 h2 (t.mapK hx)
theorem DKs.append {ds es : List (D × D)} {vs ws : List (L2.Key × V)} (h : DKs K N H ds vs) (h2 : DKs K N H es ws) : DKs K N H (ds ++ es) (vs ++ ws) := by
  induction ds generalizing vs with
  | nil => cases h; exact h2
  | cons p r ih =>
    cases h with
    | cons a b t => exact .cons a b (ih t)
theorem DKs.put {ds : List (D × D)} {vs : List (L2.Key × V)} {k : L2.Key} {j x : D} {v : V} (h : DKs K N H ds vs) (hj : keyD j = some k) (hx : DV K N H x v) : DKs K N H (putD ds k j x) (putK vs k v) := by
  unfold putD putK
  rw [← h.anyK (k := k)]
  cases ds.any fun p => decide (keyD p.1 = some k) with
  | true => rw [if_pos rfl]; exact h.mapK hx
  | false => rw [if_neg Bool.false_ne_true]; exact h.append (.cons hj hx .nil)
end
section
variable {X : Cx} {W : WX} {fr : Bool} {C : CallF} {XL : List Addr} {pos p1 p2 : Pos}
theorem ss_seti {i : Nat} {k e : E} {nm : Str} {x y : Expr} (hu : X.A.units + 1 < cLine) (hN : X.N[i]? = some nm) (hv : Vis X.env.scope nm) (hd : (nm == ("__debug__" : Str)) = false) (hcd : (nm == ("__classdict__" : Str)) = false) (hk : SE X W C XL k y) (he : SE X W C XL e x)
    (ha : ∀ v, assign (.Subscript (.Name nm p1) y p2) X.env v = (do
      let ov ← holding [v] (eval (.Name nm p1) X.env)
      let iv ← holding [v, ov] (eval y X.env)
      standAt p2
      holding [v, ov, iv] (setItem ov iv v)
      release [v, ov, iv] []))
    (hs : swapsWithSole [.Subscript (.Name nm p1) y p2] x pos.line X.env = pure false) (hw : swappedStores [.Subscript (.Name nm p1) y p2] x X.env = pure none) (h1 : (assignEach [.Subscript (.Name nm p1) y p2] X.env).map (·.2) = [assign (.Subscript (.Name nm p1) y p2) X.env]) :
    SS X W fr XL C (.seti i k e) (.Assign [.Subscript (.Name nm p1) y p2] x pos) := by
  refine PS.weak (ps_asg he (pg_sub (pe_name (pos := p1) hN hv hd hcd) hk (set_dict hu) ha) hs hw h1) fun D σ H ⟨ca, L, env, st, R0, h⟩ => ?_
  rw [ex] at h
  split at h
  · rename_i kvs eg
    refine ⟨ca, L, env, st, R0, (FinS.bind (rel := DV X.K) h).mono fun v H1 ⟨ca1, st1, p, R1, S1, hp, h1⟩ => ?_⟩
    obtain ⟨a, o, es, ea, ow, mL, _⟩ := R1.ownAt eg
    refine ⟨_, es, ca1, L, env, st1, R1, (FinS.bind (rel := DV X.K) h1).mono fun u H2 ⟨ca2, st2, q, R2, S2, hq, h2⟩ => ?_⟩
    obtain ⟨a', o', es', ea', ow', mL', kk⟩ := R2.ownAt eg
    rw [es] at es'
    cases es'
    cases ow' with
    | @dct _ _ vs t =>
      replace h2 : FinS X W fr XL ca2 L H2 D (match keyD q, keysOk kvs, decide (kvs.length < LINE) with
        | some g, true, true => .nx (env.set i (.own (.dict (putD kvs g q p)))) st2
        | _, _, _ => .stuck) := h2
      cases eq : keyD q with
      | none => rw [eq] at h2; exact h2.elim
      | some g =>
        cases ek : keysOk kvs with
        | false => rw [eq, ek] at h2; exact h2.elim
        | true =>
          cases el : decide (kvs.length < LINE) with
          | false => rw [eq, ek, el] at h2; exact h2.elim
          | true =>
            rw [eq, ek, el] at h2
            have eu := keyD_V hq eq
            refine ⟨a, _, rfl, ?_, h2.nx' (kk _ _ (.dct (t.put eq (hp.stepE S2)))) (ownStep mL ea')⟩
            rw [eu]
            exact DPut.k ea' (by rw [← t.length, line_eq]; exact of_decide_eq_true el)
  · exact h.elim
theorem pe_callSD0 {CX : CXT} {k : Nat} {f : Addr} {fd : FuncData} {ps : List Str} {sp : Sp} {dvs : List V} {ds : List Value} {E : L2.St → XK} {x : Str} (F : FnOk X.prog X.w X.K X.mg X.base CX k f fd ps sp) (hr : Room k X.A) (hg : Gl X x) (hm : X.mg x = some (.ref f)) (hk : PySem.W.keepIn X.K (.ref f) = true) (hb : Binds X.K fd ps ds) (hd : Vals dvs ds) (hx : ∀ σ, PassesAt CX X σ (E σ))
    (hdb : (x == ("__debug__" : Str)) = false) : PE X (.Call (.Name x p1) [] [] pos) (tCallSD sp dvs E tNil) := by
  refine ⟨fun pins s σ H Q I h => ?_⟩
  refine wpAny_Call_Name_kw (ld_glob I hg hm ?_ hdb)
  exact PySem.W.callWith_K0 I.kIn hk (run_fnSD (us := []) F hr hb hd (hx σ) I .nil h)
theorem se_call0 {fr : Bool} {f k : Nat} {fa : Addr} {fd : FuncData} {ps : List Str} {nm : Str} {dps : List D} {dvs : List V} {ds : List Value} (tk : Takes X W) (F : FnOk X.prog X.w X.K X.mg X.base (L2.CX X.prog X.w) k fa fd ps (spF fr X.K X.mg C f))
    (hr : Room k X.A) (hg : Gl X nm) (hm : X.mg nm = some (.ref fa)) (hk : PySem.W.keepIn X.K (.ref fa) = true) (hb : Binds X.K fd ps ds) (hd : Vals dvs ds) (hdd : ∀ N H, DVs X.K N H dps dvs)
    (hdb : (nm == ("__debug__" : Str)) = false) : SE X W C XL (.call f .nil dps) (.Call (.Name nm p1) [] [] pos) := by
  refine PE.weak (pe_callSD0 (E := WE W) F hr hg hm hk hb hd (fun σ => passAt tk σ) hdb) fun σ H Q ⟨ca, L, env, st, R0, h⟩ => ?_
  rw [ev, eva] at h
  obtain ⟨nd, tr⟩ := R0.calls
  have he : EnvR X.K (own (XL ++ L) [] ca) ca H (([] : List IP.Slot) ++ dps.map Slot.val) ((([] : List V) ++ dvs).map some) [] := by
    rw [own_call]
    exact vals_env (hdd _ _)
  refine ⟨XL ++ L, ca, _, st, he, by rw [own_call]; exact R0.cells, nd, tr, ?_⟩
  replace h : Fin X W XL L env σ ca H (DV X.K) Q (C f (([] : List IP.Slot) ++ dps.map Slot.val) st) := h
  cases e : C f (([] : List IP.Slot) ++ dps.map Slot.val) st with
  | ok p st2 =>
    rw [e] at h
    intro v H2 c s ⟨d, _⟩
    rw [own_call] at c d
    exact h ca v H2 (R0.called c s) s d
  | exc z st2 =>
    rw [e] at h
    intro H2 cls d c s q
    rw [own_call] at c q
    exact h ca H2 cls d (R0.called c s) s q
  | stuck => rw [e] at h; exact h.elim
theorem sss_never {r : SL} {xs : List Stmt} : SSs X W fr XL C (.cons .bad r) xs := by
  refine ⟨fun pins s σ H D I ⟨ca, L, env, st, R0, h⟩ => ?_⟩
  rw [exs, ex] at h
  exact h.elim
end
end IP
namespace IP
open PySem PySem.Spec L2
open PyProof.Rows hiding St
/-! ### f(e, k = v); an own class that is made, and refuses -/
def tCallNS (n m : Nat) (sp : Sp) (gV : List V → List V → List V) (E : L2.St → XK) (t tk : TA) : TE := fun σ H Q => t σ H fun vs H1 => tk σ H1 fun zs H2 => vs.length = n ∧ zs.length = m ∧ sp (gV vs zs) H2 Q (E σ)
def tMakeS (Ca : Addr) (sp : Sp) (E : L2.St → XK) (t : TA) : TE := fun σ H Q => t σ H fun vs H1 => ∀ x dx, H1 x = none → H1 dx = none → dx ≠ x →
  sp (.ref x :: vs) (upd (upd H1 dx (.own x)) x (.ins Ca dx [])) (fun v H2 => v = .non ∧ Q (.ref x) H2) (E σ)
section
variable {X : Cx} {CX : CXT} {k n : Nat} {f Ca : Addr} {fd : FuncData} {ps ks : List Str} {sp : Sp} {E : L2.St → XK} {x : Str} {p pos : Pos} {e : Expr} {es : List Expr} {kws : List Keyword} {t tk : TA} {g : List Value → List Value → List Value} {gV : List V → List V → List V}
theorem run_fnNS {E : XK} {pins : List (Addr × Obj)} {σ : L2.St} {H : Hp} {s : Shared} {Q : VK} {us ws : List Value} {vs zs : List V} (F : FnOk X.prog X.w X.K X.mg X.base CX k f fd ps sp) (hr : Room k X.A) (hb : KBn X.K fd ps n ks g gV) (hx : PassesAt CX X σ E)
    (I : Inv X pins σ H s) (r : Vals vs us) (rz : Vals zs ws) (l1 : vs.length = n) (l2 : zs.length = ks.length) (h : sp (gV vs zs) H Q E) : wpAny (model X.prog X.w) X.A (call (.ref f) us (ks.zip ws)) (EP X pins σ Q) X.xe s := by
  have r2 := hb.rel r rz
  refine wpAny_call (codeAny_mono (F.run X.A X.stack s H ⟨us, ks.zip ws⟩ (g us ws) (gV vs zs) Q E hr I.env0 (hb.to s us ws I.kIn (r.length.symm.trans l1) (rz.length.symm.trans l2)) r2 h) fun r s' hq => ?_)
  cases r with
  | error e => exact hx pins H s e s' I hq
  | ok fl =>
    cases fl with
    | ret u => exact I.after hq
    | next => exact False.elim hq
    | brk => exact False.elim hq
    | cont => exact False.elim hq
theorem pe_callNS (F : FnOk X.prog X.w X.K X.mg X.base CX k f fd ps sp) (hr : Room k X.A) (hg : Gl X x) (hm : X.mg x = some (.ref f)) (hk : PySem.W.keepIn X.K (.ref f) = true) (hb : KBn X.K fd ps n ks g gV) (hx : ∀ σ, PassesAt CX X σ (E σ))
    (ha : PA X (e :: es) t) (hkw : PK X kws tk) (hall : (backToKw pos (keywordEach kws X.env)).all (·.1.isSome) = true) (hks : (backToKw pos (keywordEach kws X.env)).filterMap (·.1) = ks)
    (hdb : (x == ("__debug__" : Str)) = false) (he : starEach (e :: es) X.env = (false, eval e X.env) :: starEach es X.env)
    (hpl : ((backTo pos (starEach (e :: es) X.env)).any (·.1) || (backToKw pos (keywordEach kws X.env)).any (·.1.isNone)) = false) :
    PE X (.Call (.Name x p) (e :: es) kws pos) (tCallNS n ks.length sp gV E t tk) := by
  refine ⟨fun pins s σ H Q I h => ?_⟩
  refine wpAny_Call_Name_kw (ld_glob I hg hm ?_ hdb)
  refine PySem.W.callWith_KW (h₀ := X.base) I.ok.mod.kin hk hall (thn (ha.run pos pins s σ H _ I h) fun us s1 ⟨vs, H1, I1, r, q⟩ => ?_) hpl he
  refine thn (hkw.run pos pins s1 σ H1 _ I1 q) fun ws s2 ⟨zs, H2, I2, rz, l1, l2, q2⟩ => ⟨I2.kIn, ?_⟩
  rw [hks]
  exact run_fnNS F hr hb (hx σ) I2 r rz l1 l2 q2
theorem run_makeS {E : XK} {pins : List (Addr × Obj)} {σ : L2.St} {H : Hp} {s : Shared} {Q : VK} {us : List Value} {vs : List V} (M : Mk X.K Ca f) (F : FnOk X.prog X.w X.K X.mg X.base CX k f fd ps sp) (hr : Room (k + 1) X.A) (hb : Binds X.K fd ps [])
    (hx : PassesAt CX X σ E) (I : Inv X pins σ H s) (r : Vals vs us)
    (h : ∀ x dx, H x = none → H dx = none → dx ≠ x → sp (.ref x :: vs) (upd (upd H dx (.own x)) x (.ins Ca dx [])) (fun v H2 => v = .non ∧ Q (.ref x) H2) E) :
    wpAny (model X.prog X.w) X.A (call (.ref Ca) us) (EP X pins σ Q) X.xe s := by
  have hq := h (s.heap.objs.size + 1) s.heap.objs.size (I.hok.fresh (Nat.le_succ _)) (I.hok.fresh (Nat.le_refl _)) (Nat.ne_of_lt (Nat.lt_succ_self _))
  have I2 := Inv.made (C := Ca) I
  have r2 : Vals (V.ref (s.heap.objs.size + 1) :: vs) (Value.ref (s.heap.objs.size + 1) :: us) := .cons rfl r
  have hl : (Value.ref (s.heap.objs.size + 1) :: us ++ []).length = ps.length := by
    have e := r2.length
    rw [F.len _ _ _ _ hq] at e
    rw [List.append_nil]
    exact e.symm
  have hbt := hb _ (Value.ref (s.heap.objs.size + 1) :: us) I2.kIn hl
  rw [List.append_nil] at hbt
  refine wpAny_call (make_map (f := f) I.kIn M.makes M.init (beq_iff_eq.mp M.fn) (codeAny_mono (F.run _ X.stack _ _ ⟨Value.ref (s.heap.objs.size + 1) :: us, []⟩ (Value.ref (s.heap.objs.size + 1) :: us) _ _ E (hr.make Ca us [])
    (I2.env0.make Ca us []) hbt r2 hq) fun r s' hq' => ?_))
  cases r with
  | error e => exact hx pins _ _ e s' I2 hq'
  | ok fl =>
    cases fl with
    | ret u =>
      obtain ⟨v, H', I3, rv, ev, q3⟩ := I2.after hq'
      subst ev
      exact ⟨rv, ⟨V.ref (s.heap.objs.size + 1), H', I3, rfl, q3⟩⟩
    | next => exact False.elim hq'
    | brk => exact False.elim hq'
    | cont => exact False.elim hq'
theorem pe_makeS (M : Mk X.K Ca f) (F : FnOk X.prog X.w X.K X.mg X.base CX k f fd ps sp) (hr : Room (k + 1) X.A) (hg : Gl X x) (hm : X.mg x = some (.ref Ca)) (hb : Binds X.K fd ps []) (hx : ∀ σ, PassesAt CX X σ (E σ))
    (ha : PA X (e :: es) t) (hdb : (x == ("__debug__" : Str)) = false) (he : starEach (e :: es) X.env = (false, eval e X.env) :: starEach es X.env) (hpl : (backTo pos (starEach es X.env)).any (·.1) = false) :
    PE X (.Call (.Name x p) (e :: es) [] pos) (tMakeS Ca sp E t) := by
  refine ⟨fun pins s σ H Q I h => ?_⟩
  refine wpAny_Call_Name_kw (ld_glob I hg hm ?_ hdb)
  refine PySem.W.callWith_K (h₀ := X.base) I.ok.mod.kin M.kp (thn (ha.run pos pins s σ H _ I h) fun us s1 ⟨vs, H1, I1, r, q⟩ => ⟨I1.kIn, ?_⟩) he hpl
  exact run_makeS M F hr hb (hx σ) I1 r q
end
section
variable {X : Cx} {W : WX} {C : CallF} {XL : List Addr} {a b : E} {x y : Expr} {pos p1 p2 : Pos}
theorem se_callK {f k : Nat} {fa : Addr} {fd : FuncData} {ps : List Str} {nm kw : Str} {g : List Value → List Value → List Value} (tk : Takes X W) (F : FnOk X.prog X.w X.K X.mg X.base (L2.CX X.prog X.w) k fa fd ps (spF false X.K X.mg C f))
    (hr : Room k X.A) (hg : Gl X nm) (hm : X.mg nm = some (.ref fa)) (hk : PySem.W.keepIn X.K (.ref fa) = true) (hb : KBn X.K fd ps 1 [kw] g (fun vs zs => vs ++ zs)) (ha : SE X W C XL a x) (hb2 : SE X W C XL b y)
    (hdb : (nm == ("__debug__" : Str)) = false) (hs : ∀ xs, starEach (x :: xs) X.env = (false, eval x X.env) :: starEach xs X.env) :
    SE X W C XL (.callK f a b kw) (.Call (.Name nm p1) [x] [⟨some kw, y, p2⟩] pos) := by
  refine PE.weak (pe_callNS (E := WE W) F hr hg hm hk hb (fun σ => passAt tk σ) (pa_cons ha pa_nil (hs _)) (pk_cons hb2 pk_nil) rfl rfl hdb (hs _) (by rw [hs]; rfl)) fun σ H Q ⟨ca, L, env, st, R0, h⟩ => ?_
  rw [ev] at h
  refine ⟨ca, L, env, st, R0, (Fin.bind (rel := DV X.K) h).mono fun v H1 ⟨ca1, st1, p, R1, S1, hp, h1⟩ => ?_⟩
  refine ⟨ca1, L, env, st1, R1, (Fin.bind (rel := DV X.K) h1).mono fun u H2 ⟨ca2, st2, q, R2, S2, hq, h2⟩ => ⟨rfl, rfl, ?_⟩⟩
  obtain ⟨nd, tr⟩ := R2.calls
  have he : EnvR X.K (own (XL ++ L) [] ca2) ca2 H2 [.val p, .val q] ([v, u].map some) [] := by
    rw [own_call]
    exact vals_env (ds := [p, q]) (.cons (hp.stepE S2) (.cons hq .nil))
  refine ⟨XL ++ L, ca2, _, st2, he, by rw [own_call]; exact R2.cells, nd, tr, ?_⟩
  cases e : C f [.val p, .val q] st2 with
  | ok d st3 =>
    rw [e] at h2
    intro v H3 c s ⟨d, _⟩
    rw [own_call] at c d
    exact h2 ca2 v H3 (R2.called c s) s d
  | exc z st3 =>
    rw [e] at h2
    intro H3 cls d c s q
    rw [own_call] at c q
    exact h2 ca2 H3 cls d (R2.called c s) s q
  | stuck => rw [e] at h2; exact h2.elim
theorem se_mk {f k : Nat} {Ca fI : Addr} {fd : FuncData} {ps : List Str} {nm : Str} (tk : Takes X W) (M : Mk X.K Ca fI) (F : FnOk X.prog X.w X.K X.mg X.base (L2.CX X.prog X.w) k fI fd ps (spF false X.K X.mg C f))
    (hr : Room (k + 1) X.A) (hg : Gl X nm) (hm : X.mg nm = some (.ref Ca)) (hb : Binds X.K fd ps []) (ha : SE X W C XL a x)
    (hdb : (nm == ("__debug__" : Str)) = false) (hs : ∀ xs, starEach (x :: xs) X.env = (false, eval x X.env) :: starEach xs X.env) :
    SE X W C XL (.mk f a) (.Call (.Name nm p1) [x] [] pos) := by
  refine PE.weak (pe_makeS (E := WE W) M F hr hg hm hb (fun σ => passAt tk σ) (pa_cons ha pa_nil (hs _)) hdb (hs _) rfl) fun σ H Q ⟨ca, L, env, st, R0, h⟩ => ?_
  rw [ev] at h
  refine ⟨ca, L, env, st, R0, (Fin.bind (rel := DV X.K) h).mono fun v H1 ⟨ca1, st1, p, R1, S1, hp, h1⟩ o dx no nd0 ne => ?_⟩
  have gr : Grow H1 (upd (upd H1 dx (.own o)) o (.ins Ca dx [])) := (Grow.upd nd0).trans (Grow.upd (by rw [upd_ne (Ne.symm ne)]; exact no))
  have R2 := R1.grow gr
  obtain ⟨nd, tr⟩ := R2.calls
  have he : EnvR X.K (own (XL ++ L) [] ca1) ca1 (upd (upd H1 dx (.own o)) o (.ins Ca dx [])) [.un, .val p] ([V.ref o, v].map some) [] := by
    rw [own_call]
    exact EnvR.cons (l := []) (.un _) (vals_env (ds := [p]) (.cons (hp.grow gr) .nil))
  refine ⟨XL ++ L, ca1, _, st1, he, by rw [own_call]; exact R2.cells, nd, tr, ?_⟩
  cases e : C f [.un, .val p] st1 with
  | exc z st2 =>
    rw [e] at h1
    intro H3 cls d c s q
    rw [own_call] at c q
    exact h1 ca1 H3 cls d (R2.called c s) ((Step.grow gr).trans s) q
  | ok d st2 => rw [e] at h1; exact h1.elim
  | stuck => rw [e] at h1; exact h1.elim
end
end IP
namespace IP
open PySem PySem.Spec L2
open PyProof.Rows hiding St
/-! ### own exceptions with one field -/
def oexB (K : PySem.W.Frag) (C : Addr) : Bool := PySem.W.excInitIn K C He.veBase "ValueError.__new__" && (match K.lookup C with
  | some ⟨_, _, .cls cd, _⟩ => cd.hasDict
  | _ => false)
section
variable {X : Cx} {ta : TA} {e : Expr} {es : List Expr} {p1 p2 pos : Pos}
/-- P.__init__(self, ..), P an own class whose __init__ is ValueError's -/
theorem pe_teinit {P : Str} {T : Addr} {mc : Value} {pl : Sem Bool} (hg : Gl X P) (hm : X.mg P = some (.ref T)) (hdb : (P == ("__debug__" : Str)) = false) (rd : PySem.W.readsIn X.K T mc = true) (ga : PySem.W.specialIn X.K (.ref T) "__getattribute__" = some (some (.builtin "type.__getattribute__")))
    (vV : PySem.W.findCls X.K (.ref T) mc "__init__" = some (.val (.builtin "ValueError.__init__"))) (ha : PA X (e :: es) ta)
    (hc : eval (.Call (.Attribute (.Name P p1) "__init__" p2) (e :: es) [] pos) X.env = (do
      let ov ← eval (.Name P p1) X.env
      standAt p2.atName
      let (f, first) ← holding [ov] (getMethod ov "__init__" pl)
      callWith pos f first (backTo pos (starEach (e :: es) X.env)) (backToKw pos (keywordEach [] X.env))) := by rfl)
    (he : starEach (e :: es) X.env = (false, eval e X.env) :: starEach es X.env := by rfl) (hpl : (backTo pos (starEach es X.env)).any (·.1) = false := by rfl) :
    PE X (.Call (.Attribute (.Name P p1) "__init__" p2) (e :: es) [] pos) (tVeI X.K ta) := by
  refine ⟨fun pins s σ H Q I h => ?_⟩
  refine PySem.W.methodCall_KW (ld_glob I hg hm ?_ hdb) hc
  refine PySem.W.method_cls I.kIn ga (PySem.W.cls_value I.kIn rd vV (by decide +kernel) ?_)
  show wpAny _ _ (callWith pos (Value.builtin "ValueError.__init__") [] (backTo pos (starEach (e :: es) X.env)) []) _ _ _
  refine PyProof.Rows.callWith_method1 (thn (ha.run pos pins _ σ H _ (I.tok _) h) fun us s1 ⟨vs, H1, I1, r1, a, C, ws, ev, hl, T, ea, q⟩ => ?_) he hpl
  subst ev
  cases r1 with
  | @cons _ u0 _ ur ra rw' =>
    obtain rfl : u0 = Value.ref a := ra
    have hlen : ur.length ≤ sizeLine := by
      rw [← Paired.length rw', sizeLine_eq]
      omega
    exact oinit_ok T I1 ea hlen fun s' J => ⟨.non, H1, J, rfl, q⟩
end
/-- what the __init__ of such a class keeps: self.f = x -/
def spXI (K : PySem.W.Frag) (f : Str) : Sp := fun vs H Q _ => ∃ (a C : Addr) (v : V), vs = [.ref a, v] ∧ OexC K C ∧ PySem.W.findIn K (.ref C) f = some none ∧ H a = some (exo a C none) ∧
  ∀ dx, H dx = none → dx ≠ a → Q .non (upd (upd H dx (exd dx [(f, v)])) a (exo a C (some dx)))
section
variable {X : Cx} {W : WX} {fr : Bool} {C : CallF} {XL : List Addr} {pos p1 p2 p3 p4 p5 p6 p7 p8 p9 p10 p11 p12 p13 p14 p15 p16 p17 : Pos}
theorem ss_raiseF {c f : Str} {a : E} {x : Expr} {fI Ca : Addr} {fd : FuncData} {ps : List Str} (hc : X.calm = true) (tk : Takes X W) (hm : X.mg c = some (.ref Ca)) (T : OexC X.K Ca) (iC : PySem.W.findIn X.K (.ref Ca) "__init__" = some (some (.ref fI)))
    (tI : PySem.W.typeIn X.K (.ref fI) = some (.type "function")) (hno : PySem.W.findIn X.K (.ref Ca) f = some none) (F1 : FnOk X.prog X.w X.K X.mg X.base (L2.CX X.prog X.w) 2 fI fd ps (spXI X.K f)) (hr : Room 3 X.A) (hb : Binds X.K fd ps []) (hg : Gl X c) (hdb : (c == ("__debug__" : Str)) = false)
    (ha : SE X W C XL a x) (hs : ∀ xs, starEach (x :: xs) X.env = (false, eval x X.env) :: starEach xs X.env) : SS X W fr XL C (.raiseF c f a) (.Raise (some (.Call (.Name c p1) [x] [] p3)) none pos) := by
  have hx : Passes (L2.CX X.prog X.w) X (fun _ _ _ => False) := fun pins σ H s e s' I cc => tk e s' (XE.of_call I (fun _ _ _ h => h.elim) cc)
  refine PS.weak (ps_raise hc tk (pmk_oex T iC tI F1 hr hb .nil hx hg hm (pa_cons ha pa_nil (hs _)) hdb (hs _) rfl)) fun D σ H ⟨ca, L, env, st, R0, h⟩ => ?_
  rw [ex] at h
  refine ⟨ca, L, env, st, R0, (FinS.bind (rel := DV X.K) h).mono fun v H1 ⟨ca1, st1, p, R1, S1, hp, h1⟩ => ⟨by simp, fun o no => ?_⟩⟩
  refine ⟨o, Ca, v, rfl, T, hno, upd_same, fun dx nd ne => ⟨rfl, dx, [(f, v)], upd_same, ?_, ?_, ?_⟩⟩
  · rw [upd_ne ne, upd_same]
  · rwa [upd_ne ne] at nd
  · have nd1 : H1 dx = none := by rwa [upd_ne ne] at nd
    have gr : Grow H1 (upd (del (upd (upd (upd H1 o (exo o Ca none)) dx (exd dx [(f, v)])) o (exo o Ca (some dx))) o) dx (.xd [(f, v)])) := fun b u e => by
      have b1 : b ≠ dx := fun z => by rw [z, nd1] at e; cases e
      have b2 : b ≠ o := fun z => by rw [z, no] at e; cases e
      rw [upd_ne b1, del_ne b2, upd_ne b2, upd_ne b1, upd_ne b2]
      exact e
    exact h1 ca1 L σ _ (.ref Ca) (some dx) (R1.grow gr) (Step.grow gr) ⟨Ca, hm, rfl, dx, v, rfl, upd_same, fun m => R1.trN dx m nd1, hp.grow gr⟩
/-- isinstance(e, T), e an exception of an own class with its dict -/
def rIsEd (K : PySem.W.Frag) (Da a dd : Addr) : List V → Hp → VK → Prop := fun xs H Q => ∃ (c : V) (cv : Value) (b : Bool) (fs : List (Str × V)), xs = [.ref a, c] ∧ H dd = some (.xd fs) ∧ (∀ u, RelV c u → u = cv) ∧ PySem.W.kitOne K (.ref Da) cv = some b ∧ Q (.bl b) H
theorem call_isEd {a Da dd : Addr} {oe : Obj} {pn : List (Addr × Obj)} (C : ExcC X.K Da) (hz : Zc (.ref Da) (some dd) oe) (hf : ∃ vs, oe.data = .fields vs) : CallR (X.suite a ((a, oe) :: pn)) (.builtin "isinstance") (rIsEd X.K Da a dd) := by
  intro pins s σ H xs us Q I r h
  obtain ⟨c, cv, b, fs, rfl, hdd, hcv, e, q⟩ := h
  cases r with
  | cons rx rr =>
    cases rr with
    | cons rt rr =>
      cases rr
      cases rx
      have ec := hcv _ rt
      subst ec
      obtain ⟨hget, _⟩ := I.pin (a, oe) (List.mem_append.mpr (.inl List.mem_cons_self))
      obtain ⟨vs, hv⟩ := hf
      have hx : ObjOk X.prog X.w H s.heap dd (.xd fs) := I.hok dd _ hdd
      obtain ⟨mA, hns, hr⟩ := hx
      obtain ⟨od, ho, hl⟩ := lookIn_ns hns
      have J : PySem.W.InstAt s.heap a oe Da (some od) := ⟨hget, hz.1, by unfold PySem.W.notCls; rw [hv] <;> rfl, by rw [hz.2]; exact ho⟩
      have hcl : (PySem.W.clsIn X.K Da).isSome = true := by
        obtain ⟨cd, hc, _⟩ := PySem.W.any_some C.hd
        rw [hc]
        rfl
      exact PySem.W.kia_one (PySem.W.kitx_exc hcl C.hg C.hk C.hs C.ha C.hn C.ht C.hm) I.kIn J e (fun z => nomatch z) fun tk => ⟨.bl b, H, I.kept (t' := tk) fun _ _ z => z, rfl, q⟩
def tIsd (a i : Nat) (dd : Addr) (b : Bool) : TE := fun σ H Q => σ[i]? = some (some (.ref a)) ∧ (∃ fs, H dd = some (.xd fs)) ∧ Q (.bl b) H
theorem pe_isd {a Ca T dd : Addr} {oe : Obj} {pn : List (Addr × Obj)} {i : Nat} {n t : Str} {b : Bool} (ec : ExcC X.K Ca) (hz : Zc (.ref Ca) (some dd) oe) (hf : ∃ vs, oe.data = .fields vs) (hk : PySem.W.kitOne X.K (.ref Ca) (.ref T) = some b) (hmT : X.mg t = some (.ref T)) (gT : Gl X t) (dT : (t == ("__debug__" : Str)) = false)
    (gi : Gl X "isinstance") (mi : X.mg "isinstance" = none) (hN : X.N[i]? = some n) (hv : Vis X.env.scope n) (hd : (n == ("__debug__" : Str)) = false) (hcd : (n == ("__classdict__" : Str)) = false) :
    PE (X.suite a ((a, oe) :: pn)) (.Call (.Name "isinstance" p1) [.Name n p2, .Name t p3] [] p4) (tIsd a i dd b) := by
  have h1 : PE (X.suite a ((a, oe) :: pn)) (.Name n p2) (tVar i) := pe_var hN hv hd hcd
  have h2 : PE (X.suite a ((a, oe) :: pn)) (.Name t p3) (tC (.ref T)) := pe_glob (v := .ref T) gT hmT rfl dT
  refine PE.weak (pe_callB (call_isEd ec hz hf) gi mi boot_isinstance (pa_cons h1 (pa_cons h2 pa_nil rfl) rfl) (by decide) (by decide) rfl rfl) fun σ H Q ⟨e, ⟨fs, hd⟩, q⟩ => ?_
  exact ⟨_, e, .ref T, .ref T, b, fs, rfl, hd, fun u r => r, hk, q⟩
theorem eq_bool {p q r : D} (h : op2 .eq p q = some r) : ∃ b, r = .bool b := by
  obtain ⟨_, rfl⟩ := ifs_some h
  exact ⟨_, rfl⟩
theorem ss_tryF {b : SL} {c n t1 t2 f y : Str} {i j : Nat} {body : List Stmt} {Ca : Addr} (st0 : X.stack = X.env :: X.outer) (fr0 : X.env.frame = some X.env.locals) (hN : X.N.Nodup) (hi : X.N[i]? = some n) (hln : X.env.kindOf n = some .local) (hv : Vis X.env.scope n)
    (hd : (n == ("__debug__" : Str)) = false) (hcd : (n == ("__classdict__" : Str)) = false) (gc : Gl X c) (dc : (c == ("__debug__" : Str)) = false) (hm : X.mg c = some (.ref Ca)) (e5 : PySem.W.exmOne X.K (.ref Ca) (.ref Ca) = some true) (e6 : ExcC X.K Ca) (xf : XfC X.K Ca) (hno : PySem.W.findIn X.K (.ref Ca) f = some none)
    (i1 : ExiOk X.K X.mg (c, t1, true)) (i2 : ExiOk X.K X.mg (c, t2, false)) (g1 : Gl X t1) (d1 : (t1 == ("__debug__" : Str)) = false) (g2 : Gl X t2) (d2 : (t2 == ("__debug__" : Str)) = false) (gi : Gl X "isinstance") (mi : X.mg "isinstance" = none) (tk : Takes X W)
    (hj : X.N[j]? = some y) (hvj : Vis X.env.scope y) (hdj : (y == ("__debug__" : Str)) = false) (hcj : (y == ("__classdict__" : Str)) = false) (hij : i ≠ j) (hu : X.A.units + 151 < cLine)
    (hb : ∀ (W' : WX) (pn : List (Addr × Obj)) (xe : Value → Shared → Prop), Takes (X.tr pn xe) W' → PassesOwn (model X.prog X.w) X.A X.env xe → SSs (X.tr pn xe) W' fr XL C b body) :
    SS X W fr XL C (.tryF b c i t1 t2 f j) (.Try body [.ExceptHandler (some (.Name c p1)) (some n) [.Return (some (.BoolOp .And [.Call (.Name "isinstance" p2) [.Name n p3, .Name t1 p4] [] p5, .UnaryOp .Not (.Call (.Name "isinstance" p6) [.Name n p7, .Name t2 p8] [] p9) p10, .Compare (.Attribute (.Name n p13) f p14) [.Eq] [.Name y p15] p16] p11)) p12] p17] [] [] pos) := by
  obtain ⟨Ca1, T1, hm1, hT1, hk1⟩ := i1
  obtain ⟨Ca2, T2, hm2, hT2, hk2⟩ := i2
  have z1 : Ca1 = Ca := by
    have := hm1.symm.trans hm
    cases this; rfl
  have z2 : Ca2 = Ca := by
    have := hm2.symm.trans hm
    cases this; rfl
  subst z1
  subst z2
  have hil : i < X.N.length := (List.getElem?_eq_some_iff.mp hi).1
  refine PS.weak (ps_try_as (c := .ref Ca2) (tb := fun W' => tSs X W' fr XL C b) (ts := fun a cls d D σ H => cls = .ref Ca2 ∧ (∃ σ0 : L2.St, σ = σ0.set i (some (.ref a))) ∧
      ∃ (dx : Addr) (v u : V) (N : List Addr) (p q r : IP.D), d = some dx ∧ H dx = some (.xd [(f, v)]) ∧ σ[j]? = some (some u) ∧ Tr N H ∧ DV X.K N H p v ∧ DV X.K N H q u ∧ op2 .eq p q = some r ∧ ∀ k H', Grow H H' → r = .bool k → D.rt (.bl k) H') st0 fr0 hN hi hln ⟨gc, dc, .inl hm⟩ tk hb ?_) fun D σ H ⟨ca, L, env, st, R0, h⟩ => ⟨ca, L, env, st, R0, ?_⟩
  · intro a oe cls d pn hz hf
    refine ⟨fun pins s σ H D I ⟨h1, ⟨σ0, h3⟩, dx, v, u, N, p, q, r, h2, h4, h5, h6, h7, h8, h9, h10⟩ => ?_⟩
    subst h1
    have hlen : i < σ.length := by
      rw [I.len]
      exact hil
    have hs : σ[i]? = some (some (.ref a)) := by
      rw [h3] at hlen ⊢
      rw [List.getElem?_set_self (by simpa using hlen)]
    obtain ⟨k, rfl⟩ := eq_bool h9
    subst h2
    have pe1 := pe_isd (p1 := p2) (p2 := p3) (p3 := p4) (p4 := p5) (pn := pn) (a := a) e6 hz hf hk1 hT1 g1 d1 gi mi hi hv hd hcd
    have pe2 := pe_isd (p1 := p6) (p2 := p7) (p3 := p8) (p4 := p9) (pn := pn) (a := a) e6 hz hf hk2 hT2 g2 d2 gi mi hi hv hd hcd
    have pe3 : PE (X.suite a ((a, oe) :: pn)) (.Compare (.Attribute (.Name n p13) f p14) [.Eq] [.Name y p15] p16) _ :=
      pe_cmpR (op_eqI (X := X.suite a ((a, oe) :: pn)) hu) (pe_xf (X := X) xf hno hz hf (pe_var hi hv hd hcd)) (pe_var hj hvj hdj hcj) rfl
    refine (pss_cons (ps_ret (pe_and pe1 (pe_and (pe_not pe2) (pe_one pe3)))) pss_nil).run pins s σ H D I ⟨hs, ⟨_, h4⟩, true, rfl, ?_⟩
    rw [if_pos rfl]
    refine ⟨hs, ⟨_, h4⟩, false, rfl, true, rfl, ?_⟩
    rw [if_pos rfl]
    refine ⟨_, hs, rfl, rfl, dx, _, v, rfl, h4, by simp, u, h5, N, p, q, .bool k, h6, h7, h8, h9, fun v' H' g d' => ?_⟩
    cases d'
    exact h10 k H' g rfl
  · rw [ex] at h
    cases er : exs C b env st with
    | nx env1 st1 => rw [er] at h; exact h
    | ret p st1 => rw [er] at h; exact h
    | stuck => rw [er] at h; exact h.elim
    | exc x env1 st1 =>
      rw [er] at h
      intro ca' L' σ' H' cls d R S q
      obtain ⟨a, q1, q2, q3⟩ := q
      replace h : FinS X W fr XL ca L H D (match decide (x.cls = c), x.fld, env1.get j with
        | true, some (g, p), .val q => match decide (g = f), op2 .eq p q with
          | true, some r => .ret r st1
          | _, _ => .stuck
        | _, _, _ => .stuck) := h
      cases ec : decide (x.cls = c) with
      | false => rw [ec] at h; exact h.elim
      | true =>
        cases ef : x.fld with
        | none => rw [ec, ef] at h; exact h.elim
        | some gp =>
          obtain ⟨g, p⟩ := gp
          rw [ec, ef] at h
          rw [ef] at q3
          obtain ⟨dx, v, q3, q4, q5, q6⟩ := q3
          cases ej : env1.get j with
          | val q =>
            rw [ej] at h
            replace h : FinS X W fr XL ca L H D (match decide (g = f), op2 .eq p q with
              | true, some r => .ret r st1
              | _, _ => .stuck) := h
            cases eg : decide (g = f) with
            | false => rw [eg] at h; exact h.elim
            | true =>
              cases eo : op2 .eq p q with
              | none => rw [eg, eo] at h; exact h.elim
              | some r =>
                rw [eg, eo] at h
                have egf : g = f := of_decide_eq_true eg
                subst egf
                have exc : x.cls = c := of_decide_eq_true ec
                rw [exc, hm] at q1
                cases q1
                obtain ⟨o, l, s1, s2, _⟩ := R.slot ej (fun z => by cases z)
                cases s2 with
                | val hq =>
                  refine ⟨true, by rw [q2]; exact e5, fun _ a' na => ⟨q2, ⟨_, rfl⟩, dx, v, _, _, p, q, r, q3, q4, ?_, R.trN, q6, hq, eo, fun k H2 gr e => ?_⟩, fun z => by cases z⟩
                  · rw [List.getElem?_set_ne hij]
                    exact s1
                  · subst e
                    exact h ca' L' env1 σ' _ H2 (R.grow gr) (S.trans (Step.grow gr)) ⟨.bl _, fun _ _ z => by cases z⟩
          | _ => rw [ej] at h; exact h.elim
end
end IP
namespace IP
open PySem PySem.Spec L2
open PyProof.Rows hiding St
/-! ### looked at: texts, names -/
def lEq : List Nat → List Nat → Bool
  | [], [] => true
  | a :: as, b :: bs => Nat.beq a b && lEq as bs
  | _, _ => false
def sEq (a b : Str) : Bool := lEq a.cps.toList b.cps.toList
theorem lEq_iff : ∀ {a b : List Nat}, lEq a b = true ↔ a = b
  | [], [] => by simp [lEq]
  | [], _ :: _ => by simp [lEq]
  | _ :: _, [] => by simp [lEq]
  | a :: as, b :: bs => by
    rw [lEq, Bool.and_eq_true, lEq_iff, Nat.beq_eq]
    simp
theorem sEq_iff {a b : Str} : sEq a b = true ↔ a = b := by
  unfold sEq
  rw [lEq_iff]
  constructor
  · intro h
    cases a with | mk a =>
    cases b with | mk b =>
    have : a = b := Array.toList_inj.mp h
    rw [this]
  · rintro rfl; rfl
def lk : List (Str × NameKind) → Str → Option NameKind
  | [], _ => none
  | (n, k) :: r, x => match sEq x n with
    | true => some k
    | false => lk r x
theorem lk_eq : ∀ (l : List (Str × NameKind)) (x : Str), lk l x = l.lookup x
  | [], x => rfl
  | (n, k) :: r, x => by
    rw [lk, List.lookup_cons]
    cases e : sEq x n with
    | true =>
      have := sEq_iff.mp e
      subst this
      simp
    | false =>
      have : (x == n) = false := by
        apply beq_eq_false_iff_ne.mpr
        rintro rfl
        rw [sEq_iff.mpr rfl] at e
        cases e
      rw [this]
      exact lk_eq r x
def kEq : NameKind → NameKind → Bool
  | .local, .local => true
  | .cell, .cell => true
  | .free, .free => true
  | .globalExplicit, .globalExplicit => true
  | .globalImplicit, .globalImplicit => true
  | _, _ => false
theorem kEq_iff {a b : NameKind} : kEq a b = true ↔ a = b := by cases a <;> cases b <;> simp [kEq]
def visB (sc : Scope) (x : Str) : Bool := match lk sc.names x with
  | some .local => true | some .cell => true | some .free => true | _ => false
def locB (sc : Scope) (x : Str) : Bool := match lk sc.names x with
  | some .local => true | some .cell => true | _ => false
def localB (sc : Scope) (x : Str) : Bool := match lk sc.names x with
  | some .local => true | _ => false
def glbB (sc : Scope) (x : Str) : Bool := match lk sc.names x with
  | some .globalImplicit => true | _ => false
theorem visB_ok {sc : Scope} {x : Str} (h : visB sc x = true) : Vis sc x := by
  unfold visB at h
  rw [lk_eq] at h
  unfold Vis
  split at h <;> simp_all
theorem locB_ok {sc : Scope} {x : Str} (h : locB sc x = true) : L2.Loc sc x := by
  unfold locB at h
  rw [lk_eq] at h
  unfold L2.Loc
  split at h <;> simp_all
theorem localB_ok {sc : Scope} {x : Str} (h : localB sc x = true) : sc.names.lookup x = some .local := by
  unfold localB at h
  rw [lk_eq] at h
  split at h <;> simp_all
theorem glbB_ok {sc : Scope} {x : Str} (h : glbB sc x = true) : sc.names.lookup x = some .globalImplicit := by
  unfold glbB at h
  rw [lk_eq] at h
  split at h <;> simp_all
def plainB (x : Str) : Bool := !sEq x ("__debug__" : Str) && !sEq x ("__classdict__" : Str) && !sEq x ("__name__" : Str)
theorem plainB_ok {x : Str} (h : plainB x = true) : (x == ("__debug__" : Str)) = false ∧ (x == ("__classdict__" : Str)) = false ∧ x ≠ ("__name__" : Str) := by
  unfold plainB at h
  simp only [Bool.and_eq_true, Bool.not_eq_true'] at h
  have key : ∀ {y : Str}, sEq x y = false → x ≠ y := fun e z => by
    subst z
    rw [sEq_iff.mpr rfl] at e
    cases e
  exact ⟨beq_eq_false_iff_ne.mpr (key h.1.1), beq_eq_false_iff_ne.mpr (key h.1.2), key h.2⟩

/-! ### constants -/
mutual
def sameD : D → D → Bool
  | .none, y => match y with
    | .none => true
    | _ => false
  | .bool a, y => match y with
    | .bool b => a == b
    | _ => false
  | .int i, y => match y with
    | .int j => decide (i = j)
    | _ => false
  | .str s, y => match y with
    | .str t => sEq s t
    | _ => false
  | .tuple xs, y => match y with
    | .tuple ys => sameDs xs ys
    | _ => false
  | .list _, _ => false
  | .dict _, _ => false
def sameDs : List D → List D → Bool
  | [], y => match y with
    | [] => true
    | _ => false
  | x :: xs, y => match y with
    | y :: ys => sameD x y && sameDs xs ys
    | _ => false
end
mutual
theorem sameD_ok : ∀ {x y : D}, sameD x y = true → x = y
  | .none, y, h => by unfold sameD at h; split at h; rfl; cases h
  | .bool a, y, h => by
    unfold sameD at h
    split at h
    · simp at h; rw [h]
    · cases h
  | .int i, y, h => by
    unfold sameD at h
    split at h
    · simp at h; rw [h]
    · cases h
  | .str s, y, h => by
    unfold sameD at h
    split at h
    · rw [sEq_iff.mp h]
    · cases h
  | .tuple xs, y, h => by
    unfold sameD at h
    split at h
    · rw [sameDs_ok h]
    · cases h
  | .list _, _, h => by unfold sameD at h; cases h
  | .dict _, _, h => by unfold sameD at h; cases h
theorem sameDs_ok : ∀ {x y : List D}, sameDs x y = true → x = y
  | [], y, h => by unfold sameDs at h; split at h; rfl; cases h
  | x :: xs, y, h => by
    unfold sameDs at h
    split at h
    · rw [Bool.and_eq_true] at h
      rw [sameD_ok h.1, sameDs_ok h.2]
    · cases h
end
def goodB (s : Str) : Bool := decide (s.cps.toList.length ≤ 16777216) && s.cps.toList.all fun c => decide (c < 1114112)
theorem goodB_ok {s : Str} (h : goodB s = true) : strGood s := by
  unfold goodB at h
  rw [Bool.and_eq_true] at h
  refine ⟨?_, ?_⟩
  · rw [line_eq]
    have := of_decide_eq_true h.1
    rwa [Array.length_toList] at this
  · show s.cps.all (· < 0x110000) = true
    rw [← Array.all_toList]
    exact h.2
def ckC : D → Const → Bool
  | .none, .none => true
  | .bool a, .bool b => a == b
  | .int i, .int j => decide (i = j)
  | .str s, .str t => sEq s t && goodB s
  | _, _ => false
def constV : D → V
  | .bool b => .bl b
  | .int i => .int i
  | .str s => .str s
  | _ => .non
theorem ckC_ok {X : Cx} {p : D} {c : Const} {j : Nat} {pos : Pos} (h : ckC p c = true) : PE X (.Constant c j pos) (tC (constV p)) ∧ ∀ N H, DV X.K N H p (constV p) := by
  unfold ckC at h
  split at h
  · exact ⟨pe_non, fun _ _ => .non⟩
  · simp at h; subst h; exact ⟨pe_bl, fun _ _ => .bl _⟩
  · simp at h; subst h; exact ⟨pe_int, fun _ _ => .int _⟩
  · rw [Bool.and_eq_true] at h
    have := sEq_iff.mp h.1
    subst this
    exact ⟨pe_str, fun _ _ => .str _ (goodB_ok h.2)⟩
  · cases h

/-! ### what is known where the text stands -/
/-- a def as it may be called: which, its name, the values behind the written arguments -/
structure Row where
  f : Nat
  nm : Str
  dps : List D
  fr : Bool := false
/-- a def called with one keyword: which, its name, the keyword -/
structure KRow where
  f : Nat
  nm : Str
  kw : Str
/-- an own class that is made: which def its __init__ is, its name -/
structure MRow where
  f : Nat
  nm : Str
/-- an own exception class with one field: its name, the class whose __init__ its own one calls, the field -/
structure XRow where
  c : Str
  p : Str
  f : Str
/-- further facts -/
structure Xt where
  is : List (Str × Str × Bool) := []
  kw : List KRow := []
  cm : List MRow := []
  xf : List XRow := []
structure Ck where
  N : List Str
  sc : Scope
  blk : Option Scope
  rows : List Row
  gls : List (Str × D)
  free : List Str
  fr : Bool := false
  tbs : List (Str × List (Str × D)) := []
  excs : List Str := []
  exis : Xt := {}
def FnRow (X : Cx) (C : CallF) (k : Nat) (r : Row) : Prop := ∃ fa fd psn dvs ds, FnOk X.prog X.w X.K X.mg X.base (L2.CX X.prog X.w) k fa fd psn (spF r.fr X.K X.mg C r.f) ∧ X.mg r.nm = some (.ref fa) ∧ PySem.W.keepIn X.K (.ref fa) = true ∧
  Binds X.K fd psn ds ∧ Vals dvs ds ∧ ∀ N H, DVs X.K N H r.dps dvs
def FnKRow (X : Cx) (C : CallF) (k : Nat) (r : KRow) : Prop := ∃ fa fd psn g, FnOk X.prog X.w X.K X.mg X.base (L2.CX X.prog X.w) k fa fd psn (spF false X.K X.mg C r.f) ∧ X.mg r.nm = some (.ref fa) ∧ PySem.W.keepIn X.K (.ref fa) = true ∧
  KBn X.K fd psn 1 [r.kw] g (fun vs zs => vs ++ zs)
def FnMRow (X : Cx) (C : CallF) (k : Nat) (r : MRow) : Prop := ∃ Ca fI fd psn, FnOk X.prog X.w X.K X.mg X.base (L2.CX X.prog X.w) k fI fd psn (spF false X.K X.mg C r.f) ∧ X.mg r.nm = some (.ref Ca) ∧ Mk X.K Ca fI ∧ Binds X.K fd psn []
def FnXRow (X : Cx) (r : XRow) : Prop := ∃ (Ca fI : Addr) (fd : FuncData) (ps : List Str), X.mg r.c = some (.ref Ca) ∧ OexC X.K Ca ∧ PySem.W.findIn X.K (.ref Ca) "__init__" = some (some (.ref fI)) ∧ PySem.W.typeIn X.K (.ref fI) = some (.type "function") ∧
  PySem.W.findIn X.K (.ref Ca) r.f = some none ∧ FnOk X.prog X.w X.K X.mg X.base (L2.CX X.prog X.w) 2 fI fd ps (spXI X.K r.f) ∧ Binds X.K fd ps [] ∧ PySem.W.exmOne X.K (.ref Ca) (.ref Ca) = some true ∧ ExcC X.K Ca ∧ XfC X.K Ca
structure Good (c : Ck) (X : Cx) (W : WX) (C : CallF) (k : Nat) : Prop where
  N : X.N = c.N
  nd : c.N.Nodup
  sc : X.env.scope = c.sc
  fn : X.fn = match c.blk with
    | none => fun _ => true
    | some s => fun x => s.names.lookup x == some .cell
  calm : X.calm = true
  takes : Takes X W
  room1 : Room (k + 1) X.A
  rows : ∀ r ∈ c.rows, FnRow X C k r
  gls : ∀ q ∈ c.gls, ∃ v u, X.mg q.1 = some u ∧ RelV v u ∧ ∀ N H, DV X.K N H q.2 v
  free : ∀ x ∈ c.free, X.mg x = none
  tbs : ∀ q ∈ c.tbs, ∃ a, X.mg q.1 = some (.ref a) ∧ TblOk X.K X.w a q.2
  excs : ∀ x ∈ c.excs, ExcOk X.K X.mg x
  exis : ∀ q ∈ c.exis.is, ExiOk X.K X.mg q
  kws : ∀ r ∈ c.exis.kw, FnKRow X C k r
  mks : ∀ r ∈ c.exis.cm, FnMRow X C k r
  xfs : ∀ r ∈ c.exis.xf, FnXRow X r
  k2 : 2 ≤ k
theorem Good.room {c : Ck} {X : Cx} {W : WX} {C : CallF} {k : Nat} (g : Good c X W C k) : Room k X.A := g.room1.mono (Nat.le_succ _)
theorem Good.room3 {c : Ck} {X : Cx} {W : WX} {C : CallF} {k : Nat} (g : Good c X W C k) : Room 3 X.A := g.room1.mono (by have := g.k2; omega)
def sameKV : List (Str × D) → List (Str × D) → Bool
  | [], [] => true
  | (a, x) :: r, (b, y) :: t => sEq a b && sameD x y && sameKV r t
  | _, _ => false
theorem sameKV_ok : ∀ {a b : List (Str × D)}, sameKV a b = true → a = b
  | [], [], _ => rfl
  | (a, x) :: r, (b, y) :: t, h => by
    rw [sameKV, Bool.and_eq_true, Bool.and_eq_true] at h
    rw [sEq_iff.mp h.1.1, sameD_ok h.1.2, sameKV_ok h.2]
  | [], _ :: _, h => by cases h
  | _ :: _, [], h => by cases h
def atB (c : Ck) (i : Nat) (x : Str) : Bool := match c.N[i]? with
  | some n => sEq n x
  | none => false
def chkV (c : Ck) (i : Nat) (x : Str) : Bool := atB c i x && visB c.sc x && plainB x
def storeB (c : Ck) (i : Nat) (x : Str) : Bool := atB c i x && locB c.sc x && match c.blk with
  | none => true
  | some s => localB c.sc x || match lk s.names x with
    | some .cell => true
    | _ => false
def freeB (c : Ck) (x : Str) : Bool := c.free.any (fun y => sEq y x) && glbB c.sc x && plainB x
def namesB (c : Ck) : List Nat → List Expr → Bool
  | [], [] => true
  | i :: is, .Name x _ :: xs => storeB c i x && namesB c is xs
  | _, _ => false
def tgB (c : Ck) : Tg → Expr → Bool
  | .n i, x => match x with
    | .Name y _ => storeB c i y
    | _ => false
  | .t is, x => match x with
    | .Tuple xs _ _ => namesB c is xs
    | _ => false
def tgInB (own : List Nat) : Tg → Bool
  | .n i => own.any (fun j => Nat.beq j i)
  | .t is => is.all fun i => own.any (fun j => Nat.beq j i)
def blkB (c : Ck) (scope : Scope) (own : List Nat) : Bool :=
  (match scope.kind with | .function => true | _ => false) && (own.all fun i => (c.N[i]?).isSome) &&
  (scope.names.all fun y => (match lk scope.names y.1 with | some k => kEq k y.2 | none => false) &&
    (!kEq y.2 .free || (match lk c.sc.names y.1 with | some .cell => true | some .free => true | _ => false)) &&
    (!(kEq y.2 .local || kEq y.2 .cell) || (own.any fun i => atB c i y.1) || !(c.N.any fun n => sEq n y.1)))
def blkC (c : Ck) (scope : Scope) : Ck := { c with sc := relS scope c.sc, blk := some scope }
def ownOf (c : Ck) (own : List Nat) : List (Str × Nat) := own.map fun i => (c.N.getD i default, i)
theorem ownOf_snd (c : Ck) (own : List Nat) : (ownOf c own).map (·.2) = own := by
  unfold ownOf
  rw [List.map_map]
  exact List.map_id _
def isStarB : Expr → Bool
  | .Starred _ _ => true
  | _ => false
def isSetB : Expr → Bool
  | .Set _ _ _ => true
  | _ => false
def isCallB : Expr → Bool
  | .Call _ _ _ _ => true
  | _ => false
def isSliceB : Expr → Bool
  | .Slice _ _ _ _ => true
  | _ => false
def isCompB : Expr → Bool
  | .ListComp _ _ _ _ => true
  | .SetComp _ _ _ _ => true
  | .DictComp _ _ _ _ _ => true
  | _ => false
theorem star_ok {x : Expr} (h : isStarB x = false) (env : PySem.Env) : ∀ xs, starEach (x :: xs) env = (false, eval x env) :: starEach xs env := fun xs => by
  cases x <;> first | rfl | (cases h)
theorem set_ok {x : Expr} (h : isSetB x = false) (env : PySem.Env) : ∀ v, foldedSetIterable x env v = pure v := fun v => by
  cases x <;> first | rfl | (cases h)
theorem base_ok {x : Expr} {f : Str} (h : isCallB x = false) (env : PySem.Env) : attributeBase x f env (eval x env) = eval x env := by
  cases x <;> first | rfl | (cases h)
theorem ix_ok {x : Expr} (h : isSliceB x = false) : PlainIx x := fun o i => by
  cases x <;> first | rfl | (cases h)
theorem swap_ok {x : Expr} (h : isCompB x = false) (t : Option Expr) (n : Nat) (env : PySem.Env) : swapsWith x t n env = pure false := by
  cases x <;> first | rfl | (cases h)
def noStarB : List Expr → Bool
  | [] => true
  | x :: xs => !isStarB x && noStarB xs
theorem noStar_any {env : PySem.Env} {pos : Pos} : ∀ {xs : List Expr}, noStarB xs = true → (backTo pos (starEach xs env)).any (·.1) = false
  | [], _ => rfl
  | x :: xs, h => by
    rw [noStarB, Bool.and_eq_true, Bool.not_eq_true'] at h
    rw [star_ok h.1]
    show (false || (backTo pos (starEach xs env)).any (·.1)) = false
    rw [noStar_any h.2]
    rfl
section
variable {c : Ck} {X : Cx} {W : WX} {C : CallF} {k : Nat}
theorem Good.var (g : Good c X W C k) {i : Nat} {x : Str} (h : chkV c i x = true) : X.N[i]? = some x ∧ Vis X.env.scope x ∧ (x == ("__debug__" : Str)) = false ∧ (x == ("__classdict__" : Str)) = false := by
  unfold chkV atB at h
  rw [Bool.and_eq_true, Bool.and_eq_true] at h
  obtain ⟨⟨h1, h2⟩, h3⟩ := h
  have p := plainB_ok h3
  refine ⟨?_, by rw [g.sc]; exact visB_ok h2, p.1, p.2.1⟩
  rw [g.N]
  split at h1
  · rename_i n e
    rw [e, sEq_iff.mp h1]
  · cases h1
theorem Good.store (g : Good c X W C k) {i : Nat} {x : Str} (h : storeB c i x = true) : X.N[i]? = some x ∧ L2.Loc X.env.scope x ∧ (X.fn x = true ∨ X.env.scope.names.lookup x = some .local) := by
  unfold storeB atB at h
  rw [Bool.and_eq_true, Bool.and_eq_true] at h
  obtain ⟨⟨h1, h2⟩, h3⟩ := h
  refine ⟨?_, by rw [g.sc]; exact locB_ok h2, ?_⟩
  · rw [g.N]
    split at h1
    · rename_i n e
      rw [e, sEq_iff.mp h1]
    · cases h1
  · rw [g.fn]
    cases e : c.blk with
    | none => exact .inl rfl
    | some s =>
      rw [e] at h3
      simp only [Bool.or_eq_true] at h3
      rcases h3 with h3 | h3
      · exact .inr (by rw [g.sc]; exact localB_ok h3)
      · refine .inl ?_
        rw [lk_eq] at h3
        show (s.names.lookup x == some .cell) = true
        split at h3
        · rename_i e2; rw [e2]; rfl
        · cases h3
theorem Good.gl (g : Good c X W C k) {x : Str} (h : glbB c.sc x = true) : Gl X x := by
  show X.env.scope.names.lookup x = some .globalImplicit
  rw [g.sc]
  exact glbB_ok h
theorem Good.fre (g : Good c X W C k) {x : Str} (h : freeB c x = true) : X.mg x = none ∧ Gl X x ∧ (x == ("__debug__" : Str)) = false ∧ x ≠ ("__name__" : Str) := by
  unfold freeB at h
  rw [Bool.and_eq_true, Bool.and_eq_true, List.any_eq_true] at h
  obtain ⟨⟨⟨y, m, e⟩, h2⟩, h3⟩ := h
  have p := plainB_ok h3
  rw [sEq_iff.mp e] at m
  exact ⟨g.free x m, g.gl h2, p.1, p.2.2⟩
theorem Good.names (g : Good c X W C k) : ∀ {is : List Nat} {xs : List Expr}, namesB c is xs = true → isNames X is xs
  | [], [], _ => trivial
  | i :: is, .Name x p :: xs, h => by
    rw [namesB, Bool.and_eq_true] at h
    obtain ⟨a, b, d⟩ := g.store h.1
    exact ⟨a, b, d, g.names h.2⟩
  | [], _ :: _, h => by simp [namesB] at h
  | _ :: _, [], h => by simp [namesB] at h
theorem Good.blkOk (g : Good c X W C k) {scope : Scope} {own : List Nat} (h : blkB c scope own = true) : BlkOk X.N X.env.scope scope (ownOf c own) := by
  unfold blkB at h
  simp only [Bool.and_eq_true, List.all_eq_true] at h
  obtain ⟨⟨h1, h2⟩, h3⟩ := h
  refine ⟨?_, fun y m => ?_, fun p m => ?_, fun y m e => ?_, fun y m e => ?_⟩
  · split at h1
    · rename_i e; exact e
    · cases h1
  · obtain ⟨⟨q, _⟩, _⟩ := h3 y m
    rw [lk_eq] at q
    split at q
    · rename_i k e
      rw [e, kEq_iff.mp q]
    · cases q
  · unfold ownOf at m
    obtain ⟨i, mi, rfl⟩ := List.mem_map.mp m
    rw [g.N]
    have := h2 i mi
    rw [Option.isSome_iff_exists] at this
    obtain ⟨n, e⟩ := this
    show c.N[i]? = some (c.N.getD i default)
    rw [List.getD_eq_getElem?_getD, e]
    rfl
  · obtain ⟨⟨_, q⟩, _⟩ := h3 y m
    rw [e] at q
    rw [lk_eq] at q
    rw [g.sc]
    simp only [kEq, Bool.not_true, Bool.false_or] at q
    split at q
    · rename_i e2; exact .inl e2
    · rename_i e2; exact .inr e2
    · cases q
  · obtain ⟨_, q⟩ := h3 y m
    have hk : (kEq y.2 .local || kEq y.2 .cell) = true := by
      rcases e with e | e <;> rw [e] <;> rfl
    rw [hk] at q
    simp only [Bool.not_true, Bool.false_or, Bool.or_eq_true, List.any_eq_true] at q
    rcases q with ⟨i, mi, q⟩ | q
    · refine .inl ?_
      unfold ownOf
      rw [List.map_map]
      refine List.mem_map.mpr ⟨i, mi, ?_⟩
      unfold atB at q
      show c.N.getD i default = y.1
      rw [List.getD_eq_getElem?_getD]
      split at q
      · rename_i n e2
        rw [e2]
        exact sEq_iff.mp q
      · cases q
    · refine .inr fun mm => ?_
      rw [g.N] at mm
      rw [Bool.not_eq_true', List.any_eq_false] at q
      exact q y.1 mm (sEq_iff.mpr rfl)
theorem Good.blk (g : Good c X W C k) {scope : Scope} (s : Shared) (H : Hp) (Cc : Addr) (cl : List (Str × Addr)) (fp : List Addr) : Good (blkC c scope) (X.blk s H scope (compEnvC scope cl Cc X.env) fp) W0 C k where
  N := g.N
  nd := g.nd
  sc := by
    show relS scope X.env.scope = relS scope c.sc
    rw [g.sc]
  fn := rfl
  calm := g.calm
  takes := fun u s' h => by
    obtain ⟨a, B, sI, pins, σ, H, cls, d, _, _, _, _, _, _, _, _, w⟩ := h
    exact w
  room1 := g.room1
  rows := g.rows
  gls := g.gls
  free := g.free
  tbs := g.tbs
  excs := g.excs
  exis := g.exis
  kws := g.kws
  mks := g.mks
  xfs := g.xfs
  k2 := g.k2
end
end IP
namespace IP
open PySem PySem.Spec L2
open PyProof.Rows hiding St
/-! ### operators -/
def opB : Op → Operator → Bool
  | .add, .Add => true
  | .sub, .Sub => true
  | .mul, .Mult => true
  | .mod, .Mod => true
  | .fdiv, .FloorDiv => true
  | .pow, .Pow => true
  | _, _ => false
def cmpB : Op → CmpOp → Bool
  | .eq, .Eq => true
  | .ne, .NotEq => true
  | .lt, .Lt => true
  | .le, .LtE => true
  | .gt, .Gt => true
  | .ge, .GtE => true
  | .isin, .In => true
  | .notin, .NotIn => true
  | .isn, .Is => true
  | .notn, .IsNot => true
  | _, _ => false
section
variable {X : Cx} {k : Nat}
theorem opB_ok {o : Op} {op : Operator} (h : opB o op = true) : OpR X (binaryOp op) (rOp X.K (op2 o)) := by
  unfold opB at h
  split at h
  · exact op_addI
  · exact op_subI
  · exact op_mulI
  · exact op_modI
  · exact op_fdivI
  · exact op_powI
  · cases h
theorem cmpB_ok (r : Room k X.A) {o : Op} {op : CmpOp} (h : cmpB o op = true) : OpR X (compareOp op) (rOp X.K (op2 o)) ∧ isCmp o = true := by
  have hu := r.un
  unfold cmpB at h
  split at h
  · exact ⟨op_eqI (by omega), rfl⟩
  · exact ⟨op_neI (by omega), rfl⟩
  · exact ⟨op_cmpI op_lt, rfl⟩
  · exact ⟨op_cmpI op_le, rfl⟩
  · exact ⟨op_cmpI op_gt, rfl⟩
  · exact ⟨op_cmpI op_ge, rfl⟩
  · exact ⟨op_inI (by omega), rfl⟩
  · exact ⟨op_notInI (by omega), rfl⟩
  · exact ⟨op_isI, rfl⟩
  · exact ⟨op_isnotI, rfl⟩
  · cases h
end
def tyStr : Ty → Str
  | .int => "int" | .str => "str" | .tuple => "tuple" | .bool => "bool" | .list => "list"
theorem tyStr_boot (t : Ty) : bootBuiltins (tyStr t) = some (.type (tyName t)) := by cases t <;> rfl
def f1B (f : F1) (n : Str) : Bool := match f with
  | .len => sEq n "len" | .list => sEq n "list" | .tuple => sEq n "tuple" | .sum => sEq n "sum" | .int => sEq n "int" | .str => false
def isNilA : AL → Bool
  | .nil => true
  | _ => false
/-! ### the check -/
mutual
def ckE (c : Ck) : E → Expr → Bool
  | .c p, x => match x with
    | .Constant q _ _ => ckC p q
    | _ => false
  | .v i, x => match x with
    | .Name y _ => chkV c i y
    | _ => false
  | .g n p, x => match x with
    | .Name y _ => sEq y n && glbB c.sc n && plainB n && c.gls.any fun q => sEq q.1 n && sameD q.2 p
    | _ => false
  | .bin o a b, x => match x with
    | .BinOp l op r _ => opB o op && ckE c a l && ckE c b r
    | .Compare l ops rs _ => match ops, rs with
      | [op], [r] => cmpB o op && !behindInMarks op r && ckE c a l && ckE c b r
      | _, _ => false
    | _ => false
  | .chain o1 o2 a b d, x => match x with
    | .Compare l ops rs _ => match ops, rs with
      | [p1, p2], [m, r] => cmpB o1 p1 && cmpB o2 p2 && !lastMarks [p1, p2] [m, r] && ckE c a l && ckE c b m && ckE c d r
      | _, _ => false
    | _ => false
  | .neg a, x => match x with
    | .UnaryOp op y _ => match op with
      | .USub => ckE c a y
      | _ => false
    | _ => false
  | .nt a, x => match x with
    | .UnaryOp op y _ => match op with
      | .Not => ckE c a y
      | _ => false
    | _ => false
  | .band es, x => match x with
    | .BoolOp op xs _ => match op with
      | .And => ckB c es xs
      | _ => false
    | _ => false
  | .bor es, x => match x with
    | .BoolOp op xs _ => match op with
      | .Or => ckB c es xs
      | _ => false
    | _ => false
  | .ife t a b, x => match x with
    | .IfExp w y z _ => ckE c t w && ckE c a y && ckE c b z
    | _ => false
  | .tup es, x => match x with
    | .Tuple xs _ _ => ckL c es xs
    | _ => false
  | .lst es, x => match x with
    | .List xs _ => ckL c es xs
    | _ => false
  | .dic ks es, x => match x with
    | .Dict qs vs _ => (keysV ks).isSome && decide (ks.length ≤ 15) && ckD c ks es qs vs
    | _ => false
  | .idx a b, x => match x with
    | .Subscript l r _ => !isSliceB r && ckE c a l && ckE c b r
    | _ => false
  | .slc a lo hi, x => match x with
    | .Subscript l s _ => match s with
      | .Slice lw up st _ => (match st with | none => true | _ => false) && ckE c a l && ckO c lo lw && ckO c hi up
      | _ => false
    | _ => false
  | .isi a t, x => match x with
    | .Call f args kws _ => match f, args, kws with
      | .Name n _, [y, .Name m _], [] => sEq n "isinstance" && freeB c "isinstance" && sEq m (tyStr t) && freeB c (tyStr t) && !isStarB y && ckE c a y
      | _, _, _ => false
    | _ => false
  | .f1 f a, x => match x with
    | .Call g args kws _ => match g, args, kws with
      | .Name n _, [y], [] => f1B f n && freeB c n && !isStarB y && ckE c a y
      | _, _, _ => false
    | _ => false
  | .lenset a, x => match x with
    | .Call g args kws _ => match g, args, kws with
      | .Name n _, [y], [] => match y with
        | .Call g2 args2 kws2 _ => match g2, args2, kws2 with
          | .Name m _, [z], [] => sEq n "len" && freeB c "len" && sEq m "set" && freeB c "set" && !isStarB z && ckE c a z
          | _, _, _ => false
        | _ => false
      | _, _, _ => false
    | _ => false
  | .join a b, x => match x with
    | .Call g args kws pos => match g, args, kws with
      | .Attribute y n ap, [z], [] => sEq n "join" && !isCallB y && !isStarB z && (ap.endLine == pos.line) && ckE c a y && ckE c b z
      | _, _, _ => false
    | _ => false
  | .call f al ds, x => match x with
    | .Call g args kws _ => match g, args, kws with
      | .Name n _, [], [] => (c.rows.any fun r => Nat.beq r.f f && sEq r.nm n && sameDs r.dps ds) && glbB c.sc n && plainB n && isNilA al
      | .Name n _, y :: ys, [] => (c.rows.any fun r => Nat.beq r.f f && sEq r.nm n && sameDs r.dps ds) && glbB c.sc n && plainB n && noStarB (y :: ys) && ckA c al (y :: ys)
      | _, _, _ => false
    | _ => false
  | .sort a, x => match x with
    | .Call g args kws _ => match g, args, kws with
      | .Name n _, [y], [] => sEq n "sorted" && freeB c "sorted" && !isStarB y && ckE c a y
      | _, _, _ => false
    | _ => false
  | .callK f a b k, x => match x with
    | .Call g args kws _ => match g, args, kws with
      | .Name n _, [y], [⟨some q, z, _⟩] => (c.exis.kw.any fun r => Nat.beq r.f f && sEq r.nm n && sEq r.kw k) && sEq q k && glbB c.sc n && plainB n && !isStarB y && ckE c a y && ckE c b z
      | _, _, _ => false
    | _ => false
  | .mk f a, x => match x with
    | .Call g args kws _ => match g, args, kws with
      | .Name n _, [y], [] => (c.exis.cm.any fun r => Nat.beq r.f f && sEq r.nm n) && glbB c.sc n && plainB n && !isStarB y && ckE c a y
      | _, _, _ => false
    | _ => false
  | .sortset a, x => match x with
    | .Call g args kws _ => match g, args, kws with
      | .Name n _, [y], [] => match y with
        | .Call g2 args2 kws2 _ => match g2, args2, kws2 with
          | .Name m _, [z], [] => sEq n "sorted" && freeB c "sorted" && sEq m "set" && freeB c "set" && !isStarB z && ckE c a z
          | _, _, _ => false
        | _ => false
      | _, _, _ => false
    | _ => false
  | .sortsc own tg it cond elt, x => match x with
    | .Call f args kws _ => match f, args, kws with
      | .Name n _, [.SetComp xe gens scope _], [] => match gens with
        | [g] => sEq n "sorted" && freeB c "sorted" && decide (g.is_async = 0) && blkB c scope own && tgInB own tg && !isSetB g.iter && tgB (blkC c scope) tg g.target && ckI c it g.target g.iter && ckT (blkC c scope) cond g.ifs && ckE (blkC c scope) elt xe
        | _ => false
      | _, _, _ => false
    | _ => false
  | .addl a b, x => match x with
    | .BinOp l op r _ => match op with
      | .Add => ckE c a l && ckE c b r
      | _ => false
    | _ => false
  | .rev a, x => match x with
    | .Subscript l s _ => match s with
      | .Slice lw up st _ => match lw, up, st with
        | none, none, some (.UnaryOp u (.Constant q _ _) _) => match u with
          | .USub => (match q with | .int i => decide (i = 1) | _ => false) && ckE c a l
          | _ => false
        | _, _, _ => false
      | _ => false
    | _ => false
  | .callN f al ds, x => match x with
    | .Call g args kws _ => match g, args, kws with
      | .Name n _, y :: ys, [] => (c.rows.any fun r => Nat.beq r.f f && sEq r.nm n && sameDs r.dps ds && r.fr) && glbB c.sc n && plainB n && noStarB (y :: ys) && ckA c al (y :: ys)
      | _, _, _ => false
    | _ => false
  | .getc nm kvs a b, x => match x with
    | .Call g args kws pos => match g, args, kws with
      | .Attribute (.Name n _) f ap, [y, z], [] => sEq f "get" && sEq n nm && glbB c.sc n && plainB n && (c.tbs.any fun q => sEq q.1 n && sameKV q.2 kvs) && !isStarB y && !isStarB z && (ap.endLine == pos.line) && ckE c a y && ckE c b z
      | _, _, _ => false
    | _ => false
  | .lc own tg it cond elt, x => match x with
    | .ListComp xe gens scope _ => match gens with
      | [g] => decide (g.is_async = 0) && blkB c scope own && tgInB own tg && !isSetB g.iter && tgB (blkC c scope) tg g.target && ckI c it g.target g.iter && ckT (blkC c scope) cond g.ifs && ckE (blkC c scope) elt xe
      | _ => false
    | _ => false
  | .lensc own tg it cond elt, x => match x with
    | .Call f args kws _ => match f, args, kws with
      | .Name n _, [.SetComp xe gens scope _], [] => match gens with
        | [g] => sEq n "len" && freeB c "len" && decide (g.is_async = 0) && blkB c scope own && tgInB own tg && !isSetB g.iter && tgB (blkC c scope) tg g.target && ckI c it g.target g.iter && ckT (blkC c scope) cond g.ifs && ckE (blkC c scope) elt xe
        | _ => false
      | _, _, _ => false
    | _ => false
  | .cidx i b, x => match x with
    | .Subscript l r _ => match l with
      | .Name n _ => !isSliceB r && chkV c i n && ckE c b r
      | _ => false
    | _ => false
  | .loc _, _ => false
  | .slen i, x => match x with
    | .Call f args kws _ => match f, args, kws with
      | .Name n _, [.Name m _], [] => sEq n "len" && freeB c "len" && chkV c i m
      | _, _, _ => false
    | _ => false
  | .sidx i b, x => match x with
    | .Subscript l r _ => match l with
      | .Name n _ => !isSliceB r && chkV c i n && ckE c b r
      | _ => false
    | _ => false
def ckL (c : Ck) : EL → List Expr → Bool
  | .nil, xs => match xs with
    | [] => true
    | _ => false
  | .cons e es, xs => match xs with
    | x :: xs => !isStarB x && ckE c e x && ckL c es xs
    | _ => false
/-- the parts of an and, an or: at least one -/
def ckB (c : Ck) : EL → List Expr → Bool
  | .nil, _ => false
  | .cons e es, xs => match xs with
    | [] => false
    | x :: xs => ckE c e x && match es, xs with
      | .nil, [] => true
      | .nil, _ :: _ => false
      | .cons _ _, [] => false
      | .cons _ _, _ :: _ => ckB c es xs
/-- the tests of a comprehension: none, one -/
def ckT (c : Ck) : EL → List Expr → Bool
  | .nil, xs => match xs with
    | [] => true
    | _ => false
  | .cons e es, xs => match es, xs with
    | .nil, [x] => ckE c e x
    | _, _ => false
def ckD (c : Ck) : List D → EL → List (Option Expr) → List Expr → Bool
  | ks, .nil, qs, vs => match ks, qs, vs with
    | [], [], [] => true
    | _, _, _ => false
  | ks, .cons e es, qs, vs => match ks, qs, vs with
    | k :: ks, some (.Constant q _ _) :: qs, v :: vs => ckC k q && ckE c e v && ckD c ks es qs vs
    | _, _, _ => false
def ckO (c : Ck) : EO → Option Expr → Bool
  | .no, x => match x with
    | none => true
    | _ => false
  | .yes e, x => match x with
    | some x => ckE c e x
    | _ => false
def ckA (c : Ck) : AL → List Expr → Bool
  | .nil, xs => match xs with
    | [] => true
    | _ => false
  | .e e r, xs => match xs with
    | x :: xs => ckE c e x && ckA c r xs
    | _ => false
  | .r i r, xs => match xs with
    | .Name n _ :: xs => chkV c i n && ckA c r xs
    | _ => false
  | .nl es r, xs => match xs with
    | .List ys _ :: xs => ckL c es ys && ckA c r xs
    | _ => false
def ckI (c : Ck) : It → Expr → Expr → Bool
  | .e a, _, x => ckE c a x
  | .range1 a, _, x => match x with
    | .Call f args kws _ => match f, args, kws with
      | .Name n _, [y], [] => sEq n "range" && freeB c "range" && !isStarB y && ckE c a y
      | _, _, _ => false
    | _ => false
  | .range2 a b, _, x => match x with
    | .Call f args kws _ => match f, args, kws with
      | .Name n _, [y, z], [] => sEq n "range" && freeB c "range" && !isStarB y && !isStarB z && ckE c a y && ckE c b z
      | _, _, _ => false
    | _ => false
  | .enum a, tg, x => match tg, x with
    | .Tuple _ _ _, .Call f args kws _ => match f, args, kws with
      | .Name n _, [y], [] => sEq n "enumerate" && freeB c "enumerate" && !isStarB y && ckE c a y
      | _, _, _ => false
    | _, _ => false
  | .rev a, _, x => match x with
    | .Call f args kws _ => match f, args, kws with
      | .Name n _, [y], [] => sEq n "reversed" && freeB c "reversed" && !isStarB y && ckE c a y
      | _, _, _ => false
    | _ => false
  | .zip a b, tg, x => match tg, x with
    | .Tuple _ _ _, .Call f args kws _ => match f, args, kws with
      | .Name n _, [y, z], [] => sEq n "zip" && freeB c "zip" && !isStarB y && !isStarB z && ckE c a y && ckE c b z
      | _, _, _ => false
    | _, _ => false
  | .zipM a b, tg, x => match tg, x with
    | .Tuple _ _ _, .Call f args kws _ => match f, args, kws with
      | .Name n _, [y, z], [] => sEq n "zip" && freeB c "zip" && !isStarB y && !isStarB z && ckE c a y && ckE c b z
      | _, _, _ => false
    | _, _ => false
end
end IP
namespace IP
open PySem PySem.Spec L2
open PyProof.Rows hiding St
theorem and2 {a b : Bool} (h : (a && b) = true) : a = true ∧ b = true := by rwa [Bool.and_eq_true] at h
theorem not1 {a : Bool} (h : (!a) = true) : a = false := by rwa [Bool.not_eq_true'] at h
theorem tgIn_ok {own : List Nat} : ∀ {tg : Tg}, tgInB own tg = true → tgIn own tg
  | .n i, h => by
    unfold tgInB at h
    obtain ⟨j, m, e⟩ := List.any_eq_true.mp h
    rw [Nat.beq_eq] at e
    subst e
    exact m
  | .t is, h => fun i mi => by
    unfold tgInB at h
    obtain ⟨j, m, e⟩ := List.any_eq_true.mp (List.all_eq_true.mp h i mi)
    rw [Nat.beq_eq] at e
    subst e
    exact m
section
variable {C : CallF} {k : Nat}
theorem tgx_ok {c : Ck} {X : Cx} {W : WX} (g : Good c X W C k) {tg : Tg} {x : Expr} (h : tgB c tg x = true) : PG X x (tGx X tg) := by
  cases tg with
  | n i =>
    cases x with
    | Name y p =>
      obtain ⟨a, b, d⟩ := g.store (show storeB c i y = true from h)
      exact sgx_n (by rw [g.N]; exact g.nd) a b d
    | _ => exact absurd (show false = true from h) Bool.false_ne_true
  | t is =>
    cases x with
    | Tuple xs kk p => exact sgx_t g.calm (by rw [g.N]; exact g.nd) (g.names (show namesB c is xs = true from h))
    | _ => exact absurd (show false = true from h) Bool.false_ne_true
theorem tg_ok {c : Ck} {X : Cx} {W : WX} (g : Good c X W C k) {XL : List Addr} {tg : Tg} {x : Expr} (h : tgB c tg x = true) : SG X XL tg x := by
  cases tg with
  | n i =>
    cases x with
    | Name y p =>
      obtain ⟨a, b, d⟩ := g.store (show storeB c i y = true from h)
      exact sg_n (by rw [g.N]; exact g.nd) a b d
    | _ => exact absurd (show false = true from h) Bool.false_ne_true
  | t is =>
    cases x with
    | Tuple xs kk p => exact sg_t g.calm (by rw [g.N]; exact g.nd) (g.names (show namesB c is xs = true from h))
    | _ => exact absurd (show false = true from h) Bool.false_ne_true
/-- an expression, and its test -/
abbrev Both (X : Cx) (W : WX) (C : CallF) (XL : List Addr) (e : E) (x : Expr) : Prop := SE X W C XL e x ∧ ST X W C XL e x
theorem Both.of {X : Cx} {W : WX} {XL : List Addr} {e : E} {x : Expr} (h : SE X W C XL e x) (he : ∀ whole, isTrue x X.env whole = (do let v ← whole; standAt x.pos; holding [v] (truthy v))) : Both X W C XL e x := ⟨h, st_val h he⟩
theorem f1_ok {X : Cx} {W : WX} {XL : List Addr} {f : F1} {n : Str} {a : E} {y : Expr} {p1 pos : Pos} {c : Ck} (g : Good c X W C k) (h1 : f1B f n = true) (h2 : freeB c n = true) (hs : isStarB y = false) (ha : SE X W C XL a y) : SE X W C XL (.f1 f a) (.Call (.Name n p1) [y] [] pos) := by
  obtain ⟨m, gl, d, nn⟩ := g.fre h2
  have st := star_ok hs X.env
  cases f with
  | len => have := sEq_iff.mp h1; subst this; exact se_f1 (f := .len) (fun _ => rfl) c_len gl m rfl nn d ha st
  | list => have := sEq_iff.mp h1; subst this; exact se_f1T (f := .list) (fun _ => rfl) c_list gl m rfl nn d ha st
  | tuple => have := sEq_iff.mp h1; subst this; exact se_f1T (f := .tuple) (fun _ => rfl) c_tuple gl m rfl nn d ha st
  | sum => have := sEq_iff.mp h1; subst this; exact se_f1 (f := .sum) (fun _ => rfl) (c_sum g.calm) gl m rfl nn d ha st
  | int => have := sEq_iff.mp h1; subst this; exact se_f1T (f := .int) (fun _ => rfl) c_int gl m rfl nn d ha st
  | str => cases h1
theorem se_lc' {X : Cx} {W : WX} {XL : List Addr} {os : List (Str × Nat)} {own : List Nat} (e : os.map (·.2) = own) {tg : Tg} {it : It} {cond : EL} {elt : E} {xe xt xi : Expr} {ifs : List Expr} {scope : Scope} {pos : Pos} (hc : X.calm = true) (hN : X.N.Nodup) (ht : tgIn own tg)
    (hi : SI X W C XL it xt xi) (b : Blk1 X os xe xt ifs scope (tGx X tg) (tCx X C cond) (tEx X C elt)) (hs : ∀ x, foldedSetIterable xi X.env x = pure x) :
    SE X W C XL (.lc own tg it cond elt) (.ListComp xe [⟨xt, xi, ifs, 0⟩] scope pos) := by
  subst e
  exact se_lc hc hN ht hi b hs
theorem se_lensc' {X : Cx} {W : WX} {XL : List Addr} {os : List (Str × Nat)} {own : List Nat} (e : os.map (·.2) = own) {tg : Tg} {it : It} {cond : EL} {elt : E} {xe xt xi : Expr} {ifs : List Expr} {scope : Scope} {pos p1 p2 : Pos} (hc : X.calm = true) (hN : X.N.Nodup) (ht : tgIn own tg)
    (hg : Gl X "len") (hm : X.mg "len" = none) (hi : SI X W C XL it xt xi) (b : Blk1 X os xe xt ifs scope (tGx X tg) (tCx X C cond) (tEx X C elt)) (hs : ∀ x, foldedSetIterable xi X.env x = pure x) :
    SE X W C XL (.lensc own tg it cond elt) (.Call (.Name "len" p1) [.SetComp xe [⟨xt, xi, ifs, 0⟩] scope p2] [] pos) := by
  subst e
  exact se_lensc hc hN ht hg hm hi b hs
theorem keyD_const {d : D} {q : L2.Key} (h : keyD d = some q) : constV d = kV q := by
  cases d <;> cases h <;> rfl
theorem dic_ok {ks : List D} {es : EL} {X : Cx} {W : WX} {XL : List Addr} {qs : List (Option Expr)} {vs : List Expr} {pos : Pos} (hk : (keysV ks).isSome = true) (hl : ks.length ≤ 15) (h : IsPairs X W C ks es qs vs) : SF X W C XL (.dic ks es) (.Dict qs vs pos) := by
  obtain ⟨l, el⟩ := Option.isSome_iff_exists.mp hk
  cases ks with
  | nil =>
    cases es with
    | nil =>
      cases qs with
      | nil =>
        cases vs with
        | nil => exact sf_dic0
        | cons _ _ => exact h.elim
      | cons _ _ => exact h.elim
    | cons _ _ => exact h.elim
  | cons k ks =>
    refine sf_dic h el ?_ hl
    rintro rfl
    cases es <;> exact h.elim
mutual
theorem ckE_ok : ∀ (e : E) {c : Ck} {X : Cx} {W : WX} {XL : List Addr} {x : Expr}, Good c X W C k → ckE c e x = true → Both X W C XL e x
  | .c p, c, X, W, XL, x, g, h => by
    unfold ckE at h
    split at h
    · obtain ⟨a, b⟩ := ckC_ok (X := X) h
      exact .of (se_c a b) fun _ => rfl
    · cases h
  | .v i, c, X, W, XL, x, g, h => by
    unfold ckE at h
    split at h
    · obtain ⟨a, b, d, e⟩ := g.var h
      exact .of (se_v a b d e) fun _ => rfl
    · cases h
  | .g n p, c, X, W, XL, x, g, h => by
    unfold ckE at h
    split at h
    · obtain ⟨h, h4⟩ := and2 h
      obtain ⟨h, h3⟩ := and2 h
      obtain ⟨h1, h2⟩ := and2 h
      have := sEq_iff.mp h1
      subst this
      obtain ⟨q, m, e⟩ := List.any_eq_true.mp h4
      obtain ⟨e1, e2⟩ := and2 e
      have e1 := sEq_iff.mp e1
      have e2 := sameD_ok e2
      obtain ⟨v, u, a1, a2, a3⟩ := g.gls q m
      rw [e1] at a1
      rw [e2] at a3
      exact .of (se_g (g.gl h2) a1 a2 a3 (plainB_ok h3).1) fun _ => rfl
    · cases h
  | .bin o a b, c, X, W, XL, x, g, h => by
    unfold ckE at h
    split at h
    · obtain ⟨h, h3⟩ := and2 h
      obtain ⟨h1, h2⟩ := and2 h
      exact .of (se_bin (opB_ok h1) (ckE_ok a g h2).1 (ckE_ok b g h3).1) fun _ => rfl
    · split at h
      · obtain ⟨h, h4⟩ := and2 h
        obtain ⟨h, h3⟩ := and2 h
        obtain ⟨h1, h2⟩ := and2 h
        obtain ⟨o1, o2⟩ := cmpB_ok g.room h1
        exact ⟨se_cmp o1 (ckE_ok a g h3).1 (ckE_ok b g h4).1 (not1 h2), st_cmp o2 o1 (ckE_ok a g h3).1 (ckE_ok b g h4).1 (not1 h2)⟩
      · cases h
    · cases h
  | .chain o1 o2 a b d, c, X, W, XL, x, g, h => by
    unfold ckE at h
    split at h
    · split at h
      · obtain ⟨h, h6⟩ := and2 h
        obtain ⟨h, h5⟩ := and2 h
        obtain ⟨h, h4⟩ := and2 h
        obtain ⟨h, h3⟩ := and2 h
        obtain ⟨h1, h2⟩ := and2 h
        obtain ⟨q1, q2⟩ := cmpB_ok g.room h1
        obtain ⟨r1, r2⟩ := cmpB_ok g.room h2
        exact ⟨se_chain q2 q1 r1 (ckE_ok a g h4).1 (ckE_ok b g h5).1 (ckE_ok d g h6).1 (not1 h3), st_chain q2 r2 q1 r1 (ckE_ok a g h4).1 (ckE_ok b g h5).1 (ckE_ok d g h6).1 (not1 h3)⟩
      · cases h
    · cases h
  | .neg a, c, X, W, XL, x, g, h => by
    unfold ckE at h
    split at h
    · split at h
      · exact .of (se_neg (ckE_ok a g h).1) fun _ => rfl
      · cases h
    · cases h
  | .nt a, c, X, W, XL, x, g, h => by
    unfold ckE at h
    split at h
    · split at h
      · exact ⟨se_nt (ckE_ok a g h).1, st_nt (ckE_ok a g h).2⟩
      · cases h
    · cases h
  | .band es, c, X, W, XL, x, g, h => by
    unfold ckE at h
    split at h
    · split at h
      · obtain ⟨a, b⟩ := ckB_and es g h
        exact ⟨a, b.pt⟩
      · cases h
    · cases h
  | .bor es, c, X, W, XL, x, g, h => by
    unfold ckE at h
    split at h
    · split at h
      · obtain ⟨a, b⟩ := ckB_or es g h
        exact ⟨a, b.pt⟩
      · cases h
    · cases h
  | .ife t a b, c, X, W, XL, x, g, h => by
    unfold ckE at h
    split at h
    · obtain ⟨h, h3⟩ := and2 h
      obtain ⟨h1, h2⟩ := and2 h
      have p := se_ife (pos := by assumption) (ckE_ok t g h1).2 (ckE_ok (XL := XL) a g h2).1 (ckE_ok b g h3).1
      exact ⟨p, st_ife p (ckE_ok t g h1).2 (ckE_ok a g h2).2 (ckE_ok b g h3).2⟩
    · cases h
  | .tup es, c, X, W, XL, x, g, h => by
    unfold ckE at h
    split at h
    · exact .of (se_tup (ckL_ok es g h)) fun _ => rfl
    · cases h
  | .lst es, c, X, W, XL, x, g, h => by
    unfold ckE at h
    split at h
    · exact .of (se_lst (ckL_ok es g h)) fun _ => rfl
    · cases h
  | .dic ks es, c, X, W, XL, x, g, h => by
    unfold ckE at h
    split at h
    · obtain ⟨h, h3⟩ := and2 h
      obtain ⟨h1, h2⟩ := and2 h
      exact .of (se_fresh (dic_ok h1 (of_decide_eq_true h2) (ckD_ok es g h1 h3))) fun _ => rfl
    · cases h
  | .idx a b, c, X, W, XL, x, g, h => by
    unfold ckE at h
    split at h
    · obtain ⟨h, h3⟩ := and2 h
      obtain ⟨h1, h2⟩ := and2 h
      exact .of (se_idx (by have := g.room.un; omega) (ckE_ok a g h2).1 (ckE_ok b g h3).1 (ix_ok (not1 h1))) fun _ => rfl
    · cases h
  | .slc a lo hi, c, X, W, XL, x, g, h => by
    unfold ckE at h
    split at h
    · split at h
      · obtain ⟨h, h4⟩ := and2 h
        obtain ⟨h, h3⟩ := and2 h
        obtain ⟨h1, h2⟩ := and2 h
        split at h1
        · exact .of (se_slc (ckE_ok a g h2).1 (ckO_ok lo g h3) (ckO_ok hi g h4)) fun _ => rfl
        · cases h1
      · cases h
    · cases h
  | .isi a t, c, X, W, XL, x, g, h => by
    unfold ckE at h
    split at h
    · split at h
      · obtain ⟨h, h6⟩ := and2 h
        obtain ⟨h, h5⟩ := and2 h
        obtain ⟨h, h4⟩ := and2 h
        obtain ⟨h, h3⟩ := and2 h
        obtain ⟨h1, h2⟩ := and2 h
        have e1 := sEq_iff.mp h1
        have e2 := sEq_iff.mp h3
        subst e1
        subst e2
        obtain ⟨m1, g1, _, _⟩ := g.fre h2
        obtain ⟨m2, g2, d2, n2⟩ := g.fre h4
        exact .of (se_isi m1 g1 g2 m2 (tyStr_boot t) n2 d2 (ckE_ok a g h6).1 (star_ok (not1 h5) X.env)) fun _ => rfl
      · cases h
    · cases h
  | .f1 f a, c, X, W, XL, x, g, h => by
    unfold ckE at h
    split at h
    · split at h
      · obtain ⟨h, h4⟩ := and2 h
        obtain ⟨h, h3⟩ := and2 h
        obtain ⟨h1, h2⟩ := and2 h
        exact .of (f1_ok g h1 h2 (not1 h3) (ckE_ok a g h4).1) fun _ => rfl
      · cases h
    · cases h
  | .lenset a, c, X, W, XL, x, g, h => by
    unfold ckE at h
    split at h
    · split at h
      · split at h
        · split at h
          · obtain ⟨h, h6⟩ := and2 h
            obtain ⟨h, h5⟩ := and2 h
            obtain ⟨h, h4⟩ := and2 h
            obtain ⟨h, h3⟩ := and2 h
            obtain ⟨h1, h2⟩ := and2 h
            have e1 := sEq_iff.mp h1
            have e2 := sEq_iff.mp h3
            subst e1
            subst e2
            obtain ⟨m1, g1, _, _⟩ := g.fre h2
            obtain ⟨m2, g2, _, _⟩ := g.fre h4
            exact .of (se_lenset g.calm g1 m1 g2 m2 (ckE_ok a g h6).1 (star_ok (not1 h5) X.env)) fun _ => rfl
          · cases h
        · cases h
      · cases h
    · cases h
  | .join a b, c, X, W, XL, x, g, h => by
    unfold ckE at h
    split at h
    · split at h
      · obtain ⟨h, h6⟩ := and2 h
        obtain ⟨h, h5⟩ := and2 h
        obtain ⟨h, h4⟩ := and2 h
        obtain ⟨h, h3⟩ := and2 h
        obtain ⟨h1, h2⟩ := and2 h
        have e1 := sEq_iff.mp h1
        subst e1
        exact .of (se_join (ckE_ok a g h5).1 (ckE_ok b g h6).1 (star_ok (not1 h3) X.env []) (base_ok (not1 h2) X.env) h4) fun _ => rfl
      · cases h
    · cases h
  | .call f al ds, c, X, W, XL, x, g, h => by
    unfold ckE at h
    split at h
    · split at h
      · obtain ⟨h, h4⟩ := and2 h
        obtain ⟨h, h3⟩ := and2 h
        obtain ⟨h1, h2⟩ := and2 h
        obtain ⟨r, m, e⟩ := List.any_eq_true.mp h1
        obtain ⟨e, e3⟩ := and2 e
        obtain ⟨e1, e2⟩ := and2 e
        rw [Nat.beq_eq] at e1
        have e2 := sEq_iff.mp e2
        have e3 := sameDs_ok e3
        subst e1 e2 e3
        obtain ⟨fa, fd, psn, dvs, dsv, F, a1, a2, a3, a4, a5⟩ := g.rows r m
        unfold isNilA at h4
        split at h4
        · exact .of (se_call0 g.takes F g.room (g.gl h2) a1 a2 a3 a4 a5 (plainB_ok h3).1) fun _ => rfl
        · cases h4
      · obtain ⟨h, h5⟩ := and2 h
        obtain ⟨h, h4⟩ := and2 h
        obtain ⟨h, h3⟩ := and2 h
        obtain ⟨h1, h2⟩ := and2 h
        obtain ⟨r, m, e⟩ := List.any_eq_true.mp h1
        obtain ⟨e, e3⟩ := and2 e
        obtain ⟨e1, e2⟩ := and2 e
        rw [Nat.beq_eq] at e1
        have e2 := sEq_iff.mp e2
        have e3 := sameDs_ok e3
        subst e1 e2 e3
        obtain ⟨fa, fd, psn, dvs, dsv, F, a1, a2, a3, a4, a5⟩ := g.rows r m
        obtain ⟨s1, s2⟩ := and2 (show (!isStarB _ && noStarB _) = true from h4)
        exact .of (se_call g.takes F g.room (g.gl h2) a1 a2 a3 a4 a5 (ckA_ok al g h4 h5) (plainB_ok h3).1 (star_ok (not1 s1) X.env _) (noStar_any s2)) fun _ => rfl
      · cases h
    · cases h
  | .sort a, c, X, W, XL, x, g, h => by
    unfold ckE at h
    split at h
    · split at h
      · obtain ⟨h, h4⟩ := and2 h
        obtain ⟨h, h3⟩ := and2 h
        obtain ⟨h1, h2⟩ := and2 h
        have e1 := sEq_iff.mp h1
        subst e1
        obtain ⟨m1, g1, _, _⟩ := g.fre h2
        exact .of (se_sort g.room g1 m1 (ckE_ok a g h4).1 (star_ok (not1 h3) X.env)) fun _ => rfl
      · cases h
    · cases h
  | .callK f a b k, c, X, W, XL, x, g, h => by
    unfold ckE at h
    split at h
    · split at h
      · obtain ⟨h, h7⟩ := and2 h
        obtain ⟨h, h6⟩ := and2 h
        obtain ⟨h, h5⟩ := and2 h
        obtain ⟨h, h4⟩ := and2 h
        obtain ⟨h, h3⟩ := and2 h
        obtain ⟨h1, h2⟩ := and2 h
        obtain ⟨r, m, e⟩ := List.any_eq_true.mp h1
        obtain ⟨e, e3⟩ := and2 e
        obtain ⟨e1, e2⟩ := and2 e
        rw [Nat.beq_eq] at e1
        have e2 := sEq_iff.mp e2
        have e3 := sEq_iff.mp e3
        have e4 := sEq_iff.mp h2
        subst e1 e2 e3 e4
        obtain ⟨fa, fd, psn, gg, F, a1, a2, a3⟩ := g.kws r m
        exact .of (se_callK g.takes F g.room (g.gl h3) a1 a2 a3 (ckE_ok a g h6).1 (ckE_ok b g h7).1 (plainB_ok h4).1 (star_ok (not1 h5) X.env)) fun _ => rfl
      · cases h
    · cases h
  | .mk f a, c, X, W, XL, x, g, h => by
    unfold ckE at h
    split at h
    · split at h
      · obtain ⟨h, h5⟩ := and2 h
        obtain ⟨h, h4⟩ := and2 h
        obtain ⟨h, h3⟩ := and2 h
        obtain ⟨h1, h2⟩ := and2 h
        obtain ⟨r, m, e⟩ := List.any_eq_true.mp h1
        obtain ⟨e1, e2⟩ := and2 e
        rw [Nat.beq_eq] at e1
        have e2 := sEq_iff.mp e2
        subst e1 e2
        obtain ⟨Ca, fI, fd, psn, F, a1, a2, a3⟩ := g.mks r m
        exact .of (se_mk g.takes a2 F g.room1 (g.gl h2) a1 a3 (ckE_ok a g h5).1 (plainB_ok h3).1 (star_ok (not1 h4) X.env)) fun _ => rfl
      · cases h
    · cases h
  | .sortset a, c, X, W, XL, x, g, h => by
    unfold ckE at h
    split at h
    · split at h
      · split at h
        · split at h
          · obtain ⟨h, h6⟩ := and2 h
            obtain ⟨h, h5⟩ := and2 h
            obtain ⟨h, h4⟩ := and2 h
            obtain ⟨h, h3⟩ := and2 h
            obtain ⟨h1, h2⟩ := and2 h
            have e1 := sEq_iff.mp h1
            have e2 := sEq_iff.mp h3
            subst e1
            subst e2
            obtain ⟨m1, g1, _, _⟩ := g.fre h2
            obtain ⟨m2, g2, _, _⟩ := g.fre h4
            exact .of (se_sortset g.calm g1 m1 g2 m2 (ckE_ok a g h6).1 (star_ok (not1 h5) X.env)) fun _ => rfl
          · cases h
        · cases h
      · cases h
    · cases h
  | .sortsc own tg it cond elt, c, X, W, XL, x, g, h => by
    unfold ckE at h
    split at h
    · split at h
      · split at h
        · rename_i gg
          obtain ⟨xt, xi, ifs, n⟩ := gg
          obtain ⟨h, h8⟩ := and2 h
          obtain ⟨h, h7⟩ := and2 h
          obtain ⟨h, h6⟩ := and2 h
          obtain ⟨h, h5⟩ := and2 h
          obtain ⟨h, h4⟩ := and2 h
          obtain ⟨h, h3⟩ := and2 h
          obtain ⟨h, h2⟩ := and2 h
          obtain ⟨h, h1⟩ := and2 h
          obtain ⟨h9, h10⟩ := and2 h
          have e1 : n = 0 := of_decide_eq_true h1
          subst e1
          have e2 := sEq_iff.mp h9
          subst e2
          obtain ⟨m1, g1, _, _⟩ := g.fre h10
          exact .of (se_sortsc' (ownOf_snd c own) g.calm (by rw [g.N]; exact g.nd) (tgIn_ok h3) g1 m1 (ckI_ok it g h6)
            ⟨g.blkOk h2, fun s H Cc cl fp => tgx_ok (g.blk s H Cc cl fp) h5, fun s H Cc cl fp => ckT_ok cond (fun s H Cc cl fp => g.blk s H Cc cl fp) h7 s H Cc cl fp, fun s H Cc cl fp => ⟨fun pins s' σ H' Q I ⟨XL', z⟩ => (ckE_ok elt (g.blk s H Cc cl fp) h8).1.run pins s' σ H' Q I z⟩⟩ (set_ok (not1 h4) X.env)) fun _ => rfl
        · cases h
      · cases h
    · cases h
  | .addl a b, c, X, W, XL, x, g, h => by
    unfold ckE at h
    split at h
    · split at h
      · obtain ⟨h1, h2⟩ := and2 h
        exact .of (se_fresh (sf_addl (ckE_ok a g h1).1 (ckE_ok b g h2).1)) fun _ => rfl
      · cases h
    · cases h
  | .rev a, c, X, W, XL, x, g, h => by
    unfold ckE at h
    split at h
    · split at h
      · split at h
        · split at h
          · obtain ⟨h1, h2⟩ := and2 h
            split at h1
            · have e1 := of_decide_eq_true h1
              subst e1
              exact .of (se_rev (ckE_ok a g h2).1) fun _ => rfl
            · cases h1
          · cases h
        · cases h
      · cases h
    · cases h
  | .callN f al ds, c, X, W, XL, x, g, h => by
    unfold ckE at h
    split at h
    · split at h
      · obtain ⟨h, h5⟩ := and2 h
        obtain ⟨h, h4⟩ := and2 h
        obtain ⟨h, h3⟩ := and2 h
        obtain ⟨h1, h2⟩ := and2 h
        obtain ⟨r, m, e⟩ := List.any_eq_true.mp h1
        obtain ⟨e, e4⟩ := and2 e
        obtain ⟨e, e3⟩ := and2 e
        obtain ⟨e1, e2⟩ := and2 e
        rw [Nat.beq_eq] at e1
        have e2 := sEq_iff.mp e2
        have e3 := sameDs_ok e3
        subst e1 e2 e3
        obtain ⟨fa, fd, psn, dvs, dsv, F, a1, a2, a3, a4, a5⟩ := g.rows r m
        rw [e4] at F
        obtain ⟨s1, s2⟩ := and2 (show (!isStarB _ && noStarB _) = true from h4)
        exact .of (se_fresh (sf_callN g.takes F g.room (g.gl h2) a1 a2 a3 a4 a5 (ckA_ok al g h4 h5) (plainB_ok h3).1 (star_ok (not1 s1) X.env _) (noStar_any s2))) fun _ => rfl
      · cases h
    · cases h
  | .getc nm kvs a b, c, X, W, XL, x, g, h => by
    unfold ckE at h
    split at h
    · split at h
      · obtain ⟨h, h10⟩ := and2 h
        obtain ⟨h, h9⟩ := and2 h
        obtain ⟨h, h8⟩ := and2 h
        obtain ⟨h, h7⟩ := and2 h
        obtain ⟨h, h6⟩ := and2 h
        obtain ⟨h, h5⟩ := and2 h
        obtain ⟨h, h4⟩ := and2 h
        obtain ⟨h, h3⟩ := and2 h
        obtain ⟨h1, h2⟩ := and2 h
        have e1 := sEq_iff.mp h1
        have e2 := sEq_iff.mp h2
        subst e1 e2
        obtain ⟨q, m, e⟩ := List.any_eq_true.mp h5
        obtain ⟨e3, e4⟩ := and2 e
        have e3 := sEq_iff.mp e3
        have e4 := sameKV_ok e4
        obtain ⟨ad, hm, tb⟩ := g.tbs q m
        rw [e3] at hm
        rw [e4] at tb
        exact .of (se_getc (g.gl h3) hm (plainB_ok h4).1 tb (ckE_ok a g h9).1 (ckE_ok b g h10).1 (by rw [star_ok (not1 h6), star_ok (not1 h7)]; rfl) h8) fun _ => rfl
      · cases h
    · cases h
  | .lc own tg it cond elt, c, X, W, XL, x, g, h => by
    unfold ckE at h
    split at h
    · split at h
      · rename_i gg
        obtain ⟨xt, xi, ifs, n⟩ := gg
        obtain ⟨h, h8⟩ := and2 h
        obtain ⟨h, h7⟩ := and2 h
        obtain ⟨h, h6⟩ := and2 h
        obtain ⟨h, h5⟩ := and2 h
        obtain ⟨h, h4⟩ := and2 h
        obtain ⟨h, h3⟩ := and2 h
        obtain ⟨h1, h2⟩ := and2 h
        have e1 : n = 0 := of_decide_eq_true h1
        subst e1
        exact .of (se_lc' (ownOf_snd c own) g.calm (by rw [g.N]; exact g.nd) (tgIn_ok h3) (ckI_ok it g h6)
          ⟨g.blkOk h2, fun s H Cc cl fp => tgx_ok (g.blk s H Cc cl fp) h5, fun s H Cc cl fp => ckT_ok cond (fun s H Cc cl fp => g.blk s H Cc cl fp) h7 s H Cc cl fp, fun s H Cc cl fp => ⟨fun pins s' σ H' Q I ⟨XL', z⟩ => (ckE_ok elt (g.blk s H Cc cl fp) h8).1.run pins s' σ H' Q I z⟩⟩ (set_ok (not1 h4) X.env)) fun _ => rfl
      · cases h
    · cases h
  | .lensc own tg it cond elt, c, X, W, XL, x, g, h => by
    unfold ckE at h
    split at h
    · split at h
      · split at h
        · rename_i gg
          obtain ⟨xt, xi, ifs, n⟩ := gg
          obtain ⟨h, h8⟩ := and2 h
          obtain ⟨h, h7⟩ := and2 h
          obtain ⟨h, h6⟩ := and2 h
          obtain ⟨h, h5⟩ := and2 h
          obtain ⟨h, h4⟩ := and2 h
          obtain ⟨h, h3⟩ := and2 h
          obtain ⟨h, h2⟩ := and2 h
          obtain ⟨h, h1⟩ := and2 h
          obtain ⟨h9, h10⟩ := and2 h
          have e1 : n = 0 := of_decide_eq_true h1
          subst e1
          have e2 := sEq_iff.mp h9
          subst e2
          obtain ⟨m1, g1, _, _⟩ := g.fre h10
          exact .of (se_lensc' (ownOf_snd c own) g.calm (by rw [g.N]; exact g.nd) (tgIn_ok h3) g1 m1 (ckI_ok it g h6)
            ⟨g.blkOk h2, fun s H Cc cl fp => tgx_ok (g.blk s H Cc cl fp) h5, fun s H Cc cl fp => ckT_ok cond (fun s H Cc cl fp => g.blk s H Cc cl fp) h7 s H Cc cl fp, fun s H Cc cl fp => ⟨fun pins s' σ H' Q I ⟨XL', z⟩ => (ckE_ok elt (g.blk s H Cc cl fp) h8).1.run pins s' σ H' Q I z⟩⟩ (set_ok (not1 h4) X.env)) fun _ => rfl
        · cases h
      · cases h
    · cases h
  | .cidx i b, c, X, W, XL, x, g, h => by
    unfold ckE at h
    split at h
    · split at h
      · obtain ⟨h, h3⟩ := and2 h
        obtain ⟨h1, h2⟩ := and2 h
        obtain ⟨a, b', d, e⟩ := g.var h2
        exact .of (se_cidx a b' d e (ckE_ok b g h3).1 (ix_ok (not1 h1))) fun _ => rfl
      · cases h
    · cases h
  | .loc _, _, _, _, _, _, _, h => by unfold ckE at h; cases h
  | .slen i, c, X, W, XL, x, g, h => by
    unfold ckE at h
    split at h
    · split at h
      · obtain ⟨h, h3⟩ := and2 h
        obtain ⟨h1, h2⟩ := and2 h
        have e1 := sEq_iff.mp h1
        subst e1
        obtain ⟨m1, g1, _, _⟩ := g.fre h2
        obtain ⟨a, b', d, e⟩ := g.var h3
        exact .of (se_slen a b' d e g1 m1) fun _ => rfl
      · cases h
    · cases h
  | .sidx i b, c, X, W, XL, x, g, h => by
    unfold ckE at h
    split at h
    · split at h
      · obtain ⟨h, h3⟩ := and2 h
        obtain ⟨h1, h2⟩ := and2 h
        obtain ⟨a, b', d, e⟩ := g.var h2
        exact .of (se_sidx a b' d e (ckE_ok b g h3).1 (ix_ok (not1 h1))) fun _ => rfl
      · cases h
    · cases h
theorem ckL_ok : ∀ (es : EL) {c : Ck} {X : Cx} {W : WX} {XL : List Addr} {xs : List Expr}, Good c X W C k → ckL c es xs = true → SEs X W C XL es xs
  | .nil, c, X, W, XL, xs, g, h => by
    unfold ckL at h
    split at h
    · exact ses_nil
    · cases h
  | .cons e es, c, X, W, XL, xs, g, h => by
    unfold ckL at h
    split at h
    · obtain ⟨h, h3⟩ := and2 h
      obtain ⟨h1, h2⟩ := and2 h
      exact ses_cons (ckE_ok e g h2).1 (ckL_ok es g h3) (star_ok (not1 h1) X.env _)
    · cases h
theorem ckB_and : ∀ (es : EL) {c : Ck} {X : Cx} {W : WX} {XL : List Addr} {xs : List Expr} {pos : Pos}, Good c X W C k → ckB c es xs = true → SE X W C XL (.band es) (.BoolOp .And xs pos) ∧ PW X (.BoolOp .And xs pos) (tT X W C XL (.band es))
  | .nil, c, X, W, XL, xs, pos, g, h => by unfold ckB at h; cases h
  | .cons e es, c, X, W, XL, xs, pos, g, h => by
    unfold ckB at h
    split at h
    · cases h
    · obtain ⟨h1, h2⟩ := and2 h
      obtain ⟨q1, q2⟩ := ckE_ok (XL := XL) e g h1
      split at h2
      · exact ⟨se_and1 q1, sw_and1 q2⟩
      · cases h2
      · cases h2
      · obtain ⟨r1, r2⟩ := ckB_and _ (XL := XL) (pos := pos) g h2
        exact ⟨se_and rfl q1 r1, sw_and rfl q2 r2⟩
theorem ckB_or : ∀ (es : EL) {c : Ck} {X : Cx} {W : WX} {XL : List Addr} {xs : List Expr} {pos : Pos}, Good c X W C k → ckB c es xs = true → SE X W C XL (.bor es) (.BoolOp .Or xs pos) ∧ PW X (.BoolOp .Or xs pos) (tT X W C XL (.bor es))
  | .nil, c, X, W, XL, xs, pos, g, h => by unfold ckB at h; cases h
  | .cons e es, c, X, W, XL, xs, pos, g, h => by
    unfold ckB at h
    split at h
    · cases h
    · obtain ⟨h1, h2⟩ := and2 h
      obtain ⟨q1, q2⟩ := ckE_ok (XL := XL) e g h1
      split at h2
      · exact ⟨se_or1 q1, sw_or1 q2⟩
      · cases h2
      · cases h2
      · obtain ⟨r1, r2⟩ := ckB_or _ (XL := XL) (pos := pos) g h2
        exact ⟨se_or rfl q1 r1, sw_or rfl q2 r2⟩
theorem ckT_ok : ∀ (es : EL) {c : Ck} {X : Cx} {xs : List Expr} {scope : Scope}, (∀ (s : Shared) (H : Hp) (Cc : Addr) (cl : List (Str × Addr)) (fp : List Addr), Good (blkC c scope) (X.blk s H scope (compEnvC scope cl Cc X.env) fp) W0 C k) → ckT (blkC c scope) es xs = true →
    ∀ (s : Shared) (H : Hp) (Cc : Addr) (cl : List (Str × Addr)) (fp : List Addr), PTs (X.blk s H scope (compEnvC scope cl Cc X.env) fp) xs (tCx X C es)
  | .nil, c, X, xs, scope, g, h => by
    unfold ckT at h
    split at h
    · exact fun s H Cc cl fp => pts_x (.inl ⟨rfl, rfl⟩)
    · cases h
  | .cons e es, c, X, xs, scope, g, h => by
    unfold ckT at h
    split at h
    · exact fun s H Cc cl fp => pts_x (.inr ⟨e, _, rfl, rfl, fun XL => (ckE_ok e (g s H Cc cl fp) h).2⟩)
    · cases h
theorem ckD_ok : ∀ (es : EL) {ks : List D} {c : Ck} {X : Cx} {W : WX} {qs : List (Option Expr)} {vs : List Expr}, Good c X W C k → (keysV ks).isSome = true → ckD c ks es qs vs = true → IsPairs X W C ks es qs vs
  | .nil, ks, c, X, W, qs, vs, g, hk, h => by
    unfold ckD at h
    split at h
    · trivial
    · cases h
  | .cons e es, ks, c, X, W, qs, vs, g, hk, h => by
    unfold ckD at h
    split at h
    · obtain ⟨h, h3⟩ := and2 h
      obtain ⟨h1, h2⟩ := and2 h
      obtain ⟨l, el⟩ := Option.isSome_iff_exists.mp hk
      obtain ⟨q, qs', e1, e2, _, rfl⟩ := keysV_cons el
      obtain ⟨a, _⟩ := ckC_ok (X := X) h1
      exact ⟨⟨q, e1, by rw [← keyD_const e1]; exact a⟩, fun XL => (ckE_ok e g h2).1, ckD_ok es g (by rw [e2]; rfl) h3⟩
    · cases h
theorem ckO_ok : ∀ (o : EO) {c : Ck} {X : Cx} {W : WX} {XL : List Addr} {x : Option Expr}, Good c X W C k → ckO c o x = true → SO X W C XL o x
  | .no, c, X, W, XL, x, g, h => by
    unfold ckO at h
    split at h
    · exact so_no
    · cases h
  | .yes e, c, X, W, XL, x, g, h => by
    unfold ckO at h
    split at h
    · exact so_yes (ckE_ok e g h).1
    · cases h
theorem ckA_ok : ∀ (al : AL) {c : Ck} {X : Cx} {W : WX} {XL : List Addr} {xs : List Expr}, Good c X W C k → noStarB xs = true → ckA c al xs = true → SAs X W C XL al xs
  | .nil, c, X, W, XL, xs, g, n, h => by
    unfold ckA at h
    split at h
    · exact sas_nil
    · cases h
  | .e e r, c, X, W, XL, xs, g, n, h => by
    unfold ckA at h
    split at h
    · obtain ⟨h1, h2⟩ := and2 h
      obtain ⟨n1, n2⟩ := and2 (show (!isStarB _ && noStarB _) = true from n)
      exact sas_e (ckE_ok e g h1).1 (ckA_ok r g n2 h2) (star_ok (not1 n1) X.env _)
    · cases h
  | .r i r, c, X, W, XL, xs, g, n, h => by
    unfold ckA at h
    split at h
    · obtain ⟨h1, h2⟩ := and2 h
      obtain ⟨n1, n2⟩ := and2 (show (!isStarB _ && noStarB _) = true from n)
      obtain ⟨a, b', d, e⟩ := g.var h1
      exact sas_r a b' d e (ckA_ok r g n2 h2) (star_ok (not1 n1) X.env _)
    · cases h
  | .nl es r, c, X, W, XL, xs, g, n, h => by
    unfold ckA at h
    split at h
    · obtain ⟨h1, h2⟩ := and2 h
      obtain ⟨n1, n2⟩ := and2 (show (!isStarB _ && noStarB _) = true from n)
      exact sas_nl (ckL_ok es g h1) (ckA_ok r g n2 h2) (star_ok (not1 n1) X.env _)
    · cases h
theorem ckI_ok : ∀ (it : It) {c : Ck} {X : Cx} {W : WX} {XL : List Addr} {tg x : Expr}, Good c X W C k → ckI c it tg x = true → SI X W C XL it tg x
  | .e a, c, X, W, XL, tg, x, g, h => by
    unfold ckI at h
    exact si_e (ckE_ok a g h).1
  | .range1 a, c, X, W, XL, tg, x, g, h => by
    unfold ckI at h
    split at h
    · split at h
      · obtain ⟨h, h4⟩ := and2 h
        obtain ⟨h, h3⟩ := and2 h
        obtain ⟨h1, h2⟩ := and2 h
        have e1 := sEq_iff.mp h1
        subst e1
        obtain ⟨m1, g1, _, _⟩ := g.fre h2
        exact si_range1 g1 m1 (ckE_ok a g h4).1 (star_ok (not1 h3) X.env)
      · cases h
    · cases h
  | .range2 a b, c, X, W, XL, tg, x, g, h => by
    unfold ckI at h
    split at h
    · split at h
      · obtain ⟨h, h6⟩ := and2 h
        obtain ⟨h, h5⟩ := and2 h
        obtain ⟨h, h4⟩ := and2 h
        obtain ⟨h, h3⟩ := and2 h
        obtain ⟨h1, h2⟩ := and2 h
        have e1 := sEq_iff.mp h1
        subst e1
        obtain ⟨m1, g1, _, _⟩ := g.fre h2
        exact si_range2 g1 m1 (ckE_ok a g h5).1 (ckE_ok b g h6).1 (star_ok (not1 h3) X.env) (star_ok (not1 h4) X.env)
      · cases h
    · cases h
  | .enum a, c, X, W, XL, tg, x, g, h => by
    unfold ckI at h
    split at h
    · split at h
      · obtain ⟨h, h4⟩ := and2 h
        obtain ⟨h, h3⟩ := and2 h
        obtain ⟨h1, h2⟩ := and2 h
        have e1 := sEq_iff.mp h1
        subst e1
        obtain ⟨m1, g1, _, _⟩ := g.fre h2
        exact si_enum g1 m1 (ckE_ok a g h4).1 (star_ok (not1 h3) X.env)
      · cases h
    · cases h
  | .rev a, c, X, W, XL, tg, x, g, h => by
    unfold ckI at h
    split at h
    · split at h
      · obtain ⟨h, h4⟩ := and2 h
        obtain ⟨h, h3⟩ := and2 h
        obtain ⟨h1, h2⟩ := and2 h
        have e1 := sEq_iff.mp h1
        subst e1
        obtain ⟨m1, g1, _, _⟩ := g.fre h2
        exact si_rev g1 m1 (ckE_ok a g h4).1 (star_ok (not1 h3) X.env)
      · cases h
    · cases h
  | .zip a b, c, X, W, XL, tg, x, g, h => by
    unfold ckI at h
    split at h
    · split at h
      · obtain ⟨h, h6⟩ := and2 h
        obtain ⟨h, h5⟩ := and2 h
        obtain ⟨h, h4⟩ := and2 h
        obtain ⟨h, h3⟩ := and2 h
        obtain ⟨h1, h2⟩ := and2 h
        have e1 := sEq_iff.mp h1
        subst e1
        obtain ⟨m1, g1, _, _⟩ := g.fre h2
        exact si_zip g1 m1 (ckE_ok a g h5).1 (ckE_ok b g h6).1 (star_ok (not1 h3) X.env) (star_ok (not1 h4) X.env)
      · cases h
    · cases h
  | .zipM a b, c, X, W, XL, tg, x, g, h => by
    unfold ckI at h
    split at h
    · split at h
      · obtain ⟨h, h6⟩ := and2 h
        obtain ⟨h, h5⟩ := and2 h
        obtain ⟨h, h4⟩ := and2 h
        obtain ⟨h, h3⟩ := and2 h
        obtain ⟨h1, h2⟩ := and2 h
        have e1 := sEq_iff.mp h1
        subst e1
        obtain ⟨m1, g1, _, _⟩ := g.fre h2
        exact si_zipM g1 m1 (ckE_ok a g h5).1 (ckE_ok b g h6).1 (star_ok (not1 h3) X.env) (star_ok (not1 h4) X.env)
      · cases h
    · cases h
end
end
end IP
namespace IP
open PySem PySem.Spec L2
open PyProof.Rows hiding St
/-! ### statements: looked at -/
theorem beq_sEq (a b : Str) : (a == b) = sEq a b := by
  cases h : sEq a b with
  | true => rw [sEq_iff.mp h]; simp
  | false =>
    refine beq_eq_false_iff_ne.mpr fun e => ?_
    rw [sEq_iff.mpr e] at h
    cases h
theorem beq_kEq (a b : NameKind) : (a == b) = kEq a b := by cases a <;> cases b <;> rfl
def swB (c : Ck) (scope : Scope) (t : Str) (l1 l2 : Nat) : Bool := localB c.sc t && l1 == l2 && !(scope.names.any fun p => sEq p.1 t && (kEq p.2 .local || kEq p.2 .cell))
theorem swaps_lc {c : Ck} {env : PySem.Env} (hsc : env.scope = c.sc) (hk : c.sc.kind = .function) {elt : Expr} {gens : List Comprehension} {scope : Scope} {vp tp : Pos} {t : Str} {line : Nat} :
    swapsWith (.ListComp elt gens scope vp) (some (.Name t tp)) line env = pure (swB c scope t tp.line vp.line) := by
  show (pure (env.blockKind == .function && env.kindOf t == some .local && tp.line == vp.line && !(scope.names.any fun (n, k) => n == t && (k == .local || k == .cell))) : Sem Bool) = _
  congr 1
  have e1 : (env.blockKind == .function) = true := by
    unfold Env.blockKind
    rw [hsc, hk]
    rfl
  have e2 : (env.kindOf t == some .local) = localB c.sc t := by
    unfold Env.kindOf localB
    rw [hsc, lk_eq]
    cases h : c.sc.names.lookup t with
    | none => rfl
    | some k => cases k <;> rfl
  have e3 : (fun (p : Str × NameKind) => match p with | (n, k) => n == t && (k == .local || k == .cell)) = fun p => sEq p.1 t && (kEq p.2 .local || kEq p.2 .cell) := by
    funext p
    obtain ⟨n, k⟩ := p
    show (n == t && (k == .local || k == .cell)) = (sEq n t && (kEq k .local || kEq k .cell))
    rw [beq_sEq, beq_kEq, beq_kEq]
  rw [e1, e2, Bool.true_and, e3]
  rfl
def isLcB : E → Bool
  | .lc _ _ _ _ _ => true
  | _ => false
def isTupleB : Expr → Bool
  | .Tuple _ _ _ => true
  | _ => false
/-- a new thing -/
def freshB : E → Bool
  | .lst _ => true
  | .dic _ _ => true
  | .addl _ _ => true
  | .callN _ _ _ => true
  | _ => false
def retB (c : Ck) : E → Expr → Bool
  | .loc i, .Name n _ => chkV c i n
  | _, _ => false
def kindFB (sc : Scope) : Bool := match sc.kind with
  | .function => true
  | _ => false
mutual
def ckS (c : Ck) : S → Stmt → Bool
  | .asg i e, x => match x with
    | .Assign ts v _ => match ts with
      | [.Name y yp] => storeB c i y && ckE c e v && match v with
        | .ListComp _ _ scope vp => isLcB e && kindFB c.sc && (if swB c scope y yp.line vp.line = true then localB c.sc y else true)
        | w => !isCompB w
      | _ => false
    | _ => false
  | .asgN i e, x => match x with
    | .Assign ts v _ => match ts with
      | [.Name y _] => freshB e && !isCompB v && storeB c i y && ckE c e v
      | _ => false
    | _ => false
  | .asgP i t e j, x => match x with
    | .Assign ts v _ => match ts with
      | [.Name y _] => match v with
        | .IfExp w z u _ => match u with
          | .Call f args kws p4 => match f, args, kws with
            | .Attribute (.Name n _) a p3, [], [] => sEq a "pop" && storeB c i y && chkV c j n && (p3.endLine == p4.line) && ckE c t w && ckE c e z
            | _, _, _ => false
          | _ => false
        | _ => false
      | _ => false
    | _ => false
  | .unp is e, x => match x with
    | .Assign ts v _ => match ts with
      | [.Tuple xs _ _] => !isTupleB v && namesB c is xs && ckE c e v
      | _ => false
    | _ => false
  | .unpS i j e, x => match x with
    | .Assign ts v _ => match ts with
      | [.Tuple [.Name y yp, .Starred (.Name z zp) _] _ _] => !isTupleB v && namesB c [i, j] [.Name y yp, .Name z zp] && ckE c e v
      | _ => false
    | _ => false
  | .app i e, x => match x with
    | .Expr y _ => match y with
      | .Call f args kws p3 => match f, args, kws with
        | .Attribute (.Name n _) a p2, [z], [] => sEq a "append" && chkV c i n && !isStarB z && (p2.endLine == p3.line) && ckE c e z
        | _, _, _ => false
      | _ => false
    | _ => false
  | .ext i e, x => match x with
    | .Expr y _ => match y with
      | .Call f args kws p3 => match f, args, kws with
        | .Attribute (.Name n _) a p2, [z], [] => sEq a "extend" && chkV c i n && !isStarB z && (p2.endLine == p3.line) && ckE c e z
        | _, _, _ => false
      | _ => false
    | _ => false
  | .seti i k e, x => match x with
    | .Assign ts v _ => match ts with
      | [.Subscript (.Name n _) y _] => chkV c i n && !isSliceB y && ckE c k y && ckE c e v
      | _ => false
    | _ => false
  | .cset i k e, x => match x with
    | .Assign ts v _ => match ts with
      | [.Subscript (.Name n _) y _] => chkV c i n && !isSliceB y && ckE c k y && ckE c e v
      | _ => false
    | _ => false
  | .ret e, x => match x with
    | .Return y _ => match y with
      | some y => if c.fr = true then (freshB e && ckE c e y) || retB c e y else ckE c e y
      | none => false
    | _ => false
  | .retN, x => match x with
    | .Return y _ => match y with
      | some _ => false
      | none => true
    | _ => false
  | .ife t a b, x => match x with
    | .If w xs ys _ => ckE c t w && ckSs c a xs && ckSs c b ys
    | _ => false
  | .for_ tg it b, x => match x with
    | .For xt xi xs ys _ => match ys with
      | [] => !isSetB xi && tgB c tg xt && ckI c it xt xi && ckSs c b xs
      | _ => false
    | _ => false
  | .expr e, x => match x with
    | .Expr y _ => !isCompB y && ckE c e y
    | _ => false
  | .frz _, _ => false
  | .raise cl m, x => match x with
    | .Raise v w _ => match v, w with
      | some (.Call (.Name y _) [.Constant (.str t) _ _] [] _), none => sEq y cl && sEq t m && (c.excs.any fun q => sEq q cl) && glbB c.sc cl && plainB cl
      | _, _ => false
    | _ => false
  | .raiseF cl f a, x => match x with
    | .Raise v w _ => match v, w with
      | some (.Call (.Name y _) [z] [] _), none => sEq y cl && (c.exis.xf.any fun q => sEq q.c cl && sEq q.f f) && glbB c.sc cl && plainB cl && !isStarB z && ckE c a z
      | _, _ => false
    | _ => false
  | .tryF b cl i t1 t2 f j, x => match x with
    | .Try body hs els fin _ => match hs, els, fin with
      | [.ExceptHandler (some (.Name y _)) (some n) [.Return (some (.BoolOp op [.Call (.Name f1 _) [.Name n1 _, .Name u1 _] [] _, .UnaryOp uo (.Call (.Name f2 _) [.Name n2 _, .Name u2 _] [] _) _, .Compare (.Attribute (.Name n3 _) fg _) [co] [.Name z _] _] _)) _] _], [], [] => match op, uo, co with
        | .And, .Not, .Eq => sEq y cl && sEq f1 "isinstance" && sEq f2 "isinstance" && sEq n1 n && sEq n2 n && sEq u1 t1 && sEq u2 t2 && chkV c i n && localB c.sc n && kindFB c.sc && (c.exis.xf.any fun q => sEq q.c cl && sEq q.f f) && glbB c.sc cl && plainB cl &&
          (c.exis.is.any fun q => sEq q.1 cl && sEq q.2.1 t1 && (q.2.2 == true)) && (c.exis.is.any fun q => sEq q.1 cl && sEq q.2.1 t2 && (q.2.2 == false)) && glbB c.sc t1 && plainB t1 && glbB c.sc t2 && plainB t2 && freeB c "isinstance" && sEq n3 n && sEq fg f && chkV c j z && !Nat.beq i j && ckSs c b body
        | _, _, _ => false
      | _, _, _ => false
    | _ => false
  | .tryI b cl i t1 b1 t2 b2, x => match x with
    | .Try body hs els fin _ => match hs, els, fin with
      | [.ExceptHandler (some (.Name y _)) (some n) [.Return (some (.BoolOp op [.Call (.Name f1 _) [.Name n1 _, .Name u1 _] [] _, .UnaryOp uo (.Call (.Name f2 _) [.Name n2 _, .Name u2 _] [] _) _] _)) _] _], [], [] => match op, uo with
        | .And, .Not => sEq y cl && sEq f1 "isinstance" && sEq f2 "isinstance" && sEq n1 n && sEq n2 n && sEq u1 t1 && sEq u2 t2 && chkV c i n && localB c.sc n && kindFB c.sc && (c.excs.any fun q => sEq q cl) && glbB c.sc cl && plainB cl &&
          (c.exis.is.any fun q => sEq q.1 cl && sEq q.2.1 t1 && (q.2.2 == b1)) && (c.exis.is.any fun q => sEq q.1 cl && sEq q.2.1 t2 && (q.2.2 == b2)) && glbB c.sc t1 && plainB t1 && glbB c.sc t2 && plainB t2 && freeB c "isinstance" && ckSs c b body
        | _, _ => false
      | _, _, _ => false
    | _ => false
  | .bad, _ => true
def ckSs (c : Ck) : SL → List Stmt → Bool
  | .nil, xs => match xs with
    | [] => true
    | _ => false
  | .cons s r, xs => match s with
    | .frz _ => ckSs c r xs
    | .bad => true
    | s => match xs with
      | x :: xs => ckS c s x && ckSs c r xs
      | _ => false
end
section
variable {C : CallF} {k : Nat} {c : Ck} {X : Cx} {W : WX}
theorem swap_tup {x : Expr} {t : Expr} {n : Nat} {env : PySem.Env} (h : ∀ y p, t ≠ .Name y p) : swapsWithSole [t] x n env = pure false := by
  show swapsWith x (some t) n env = pure false
  cases x <;> first | rfl | (cases t <;> first | rfl | exact absurd rfl (h _ _))
theorem stores_no {x : Expr} {t : Expr} {env : PySem.Env} (h : isTupleB x = false) : swappedStores [t] x env = pure none := by
  cases x <;> first | (cases t <;> rfl) | (cases h)
theorem stores_sub {o i : Expr} {p : Pos} {x : Expr} {env : PySem.Env} : swappedStores [.Subscript o i p] x env = pure none := by
  cases x <;> rfl
theorem assign_sub {o y : Expr} {p : Pos} {env : PySem.Env} (h : isSliceB y = false) : ∀ v, assign (.Subscript o y p) env v = (do
      let ov ← holding [v] (eval o env)
      let iv ← holding [v, ov] (eval y env)
      standAt p
      holding [v, ov, iv] (setItem ov iv v)
      release [v, ov, iv] []) := fun v => by
  cases y <;> first | rfl | (cases h)
theorem fresh_ok (g : Good c X W C k) {XL : List Addr} {e : E} {x : Expr} (h : freshB e = true) (hk : ckE c e x = true) : SF X W C XL e x := by
  cases e with
  | lst es =>
    unfold ckE at hk
    split at hk
    · exact sf_lst (ckL_ok es g hk)
    · cases hk
  | dic ks es =>
    unfold ckE at hk
    split at hk
    · obtain ⟨h, h3⟩ := and2 hk
      obtain ⟨h1, h2⟩ := and2 h
      exact dic_ok h1 (of_decide_eq_true h2) (ckD_ok es g h1 h3)
    · cases hk
  | addl a b =>
    unfold ckE at hk
    split at hk
    · split at hk
      · obtain ⟨h1, h2⟩ := and2 hk
        exact sf_addl (ckE_ok a g h1).1 (ckE_ok b g h2).1
      · cases hk
    · cases hk
  | callN f al ds =>
    unfold ckE at hk
    split at hk
    · split at hk
      · obtain ⟨h, h5⟩ := and2 hk
        obtain ⟨h, h4⟩ := and2 h
        obtain ⟨h, h3⟩ := and2 h
        obtain ⟨h1, h2⟩ := and2 h
        obtain ⟨r, m, e⟩ := List.any_eq_true.mp h1
        obtain ⟨e, e4⟩ := and2 e
        obtain ⟨e, e3⟩ := and2 e
        obtain ⟨e1, e2⟩ := and2 e
        rw [Nat.beq_eq] at e1
        have e2 := sEq_iff.mp e2
        have e3 := sameDs_ok e3
        subst e1 e2 e3
        obtain ⟨fa, fd, psn, dvs, dsv, F, a1, a2, a3, a4, a5⟩ := g.rows r m
        rw [e4] at F
        obtain ⟨s1, s2⟩ := and2 (show (!isStarB _ && noStarB _) = true from h4)
        exact sf_callN g.takes F g.room (g.gl h2) a1 a2 a3 a4 a5 (ckA_ok al g h4 h5) (plainB_ok h3).1 (star_ok (not1 s1) X.env _) (noStar_any s2)
      · cases hk
    · cases hk
  | _ => cases h
/-- name = [..], on one line -/
theorem ss_asgLc (g : Good c X W C k) {XL : List Addr} {i : Nat} {e : E} {y : Str} {yp vp pos : Pos} {xe : Expr} {gens : List Comprehension} {scope : Scope} (hy : X.N[i]? = some y) (hl : localB c.sc y = true) (hsw : swapsWith (.ListComp xe gens scope vp) (some (.Name y yp)) pos.line X.env = pure true)
    (he : isLcB e = true) (h : ckE c e (.ListComp xe gens scope vp) = true) : SS X W c.fr XL C (.asg i e) (.Assign [.Name y yp] (.ListComp xe gens scope vp) pos) := by
  cases e with
  | lc own tg it cond elt =>
    simp only [ckE] at h
    split at h
    · rename_i gg
      · obtain ⟨xt, xi, ifs, n⟩ := gg
        obtain ⟨h, h8⟩ := and2 h
        obtain ⟨h, h7⟩ := and2 h
        obtain ⟨h, h6⟩ := and2 h
        obtain ⟨h, h5⟩ := and2 h
        obtain ⟨h, h4⟩ := and2 h
        obtain ⟨h, h3⟩ := and2 h
        obtain ⟨h1, h2⟩ := and2 h
        have e1 : n = 0 := of_decide_eq_true h1
        subst e1
        have b : Blk1 X (ownOf c own) xe xt ifs scope (tGx X tg) (tCx X C cond) (tEx X C elt) :=
          ⟨g.blkOk h2, fun s H Cc cl fp => tgx_ok (g.blk s H Cc cl fp) h5, fun s H Cc cl fp => ckT_ok cond (fun s H Cc cl fp => g.blk s H Cc cl fp) h7 s H Cc cl fp, fun s H Cc cl fp => ⟨fun pins s' σ H' Q I ⟨XL', z⟩ => (ckE_ok elt (g.blk s H Cc cl fp) h8).1.run pins s' σ H' Q I z⟩⟩
        have hN : X.N.Nodup := by rw [g.N]; exact g.nd
        refine PS.weak (ps_setLc g.calm hN hy (by rw [g.sc]; exact localB_ok hl) hsw (ckI_ok (XL := XL) (W := W) it g h6) b.ok b.tgt b.tst b.elt (set_ok (not1 h4) X.env)) fun D σ H ⟨ca, L, env, st, R0, hh⟩ => ?_
        rw [ownOf_snd]
        rw [ex] at hh
        refine lc_rel (L := L) (W := W) (tgIn_ok h3) R0 ((FinS.bind (rel := DV X.K) hh).mono fun v H1 ⟨ca1, st1, p, R1, S1, hp, h1⟩ => ?_)
        obtain ⟨L', R2, sub⟩ := R1.setVal (i := i) hp
        exact h1.nx' R2 (Step.less sub)
    · cases h
  | _ => cases he
/-- a def's own frame -/
structure TopOk (X : Cx) : Prop where
  own : PassesOwn (model X.prog X.w) X.A X.env X.xe
  stk : X.stack = X.env :: X.outer
  frm : X.env.frame = some X.env.locals
mutual
theorem ckS_ok : ∀ (s : S) {c : Ck} {X : Cx} {W : WX} {XL : List Addr} {x : Stmt}, Good c X W C k → TopOk X → ckS c s x = true → SS X W c.fr XL C s x
  | .asg i e, c, X, W, XL, x, g, hp, h => by
    unfold ckS at h
    split at h
    · split at h
      · obtain ⟨h, h3⟩ := and2 h
        obtain ⟨h1, h2⟩ := and2 h
        obtain ⟨a, b, d⟩ := g.store h1
        have hN : X.N.Nodup := by rw [g.N]; exact g.nd
        split at h3
        · rename_i xe gens scope vp _
          obtain ⟨h3, h6⟩ := and2 h3
          obtain ⟨h4, h5⟩ := and2 h3
          have kf : c.sc.kind = .function := by
            unfold kindFB at h5
            split at h5
            · assumption
            · cases h5
          cases hs : swB c scope _ _ _ with
          | true =>
            rw [if_pos hs] at h6
            exact ss_asgLc g a h6 (by rw [swaps_lc g.sc kf, hs]) h4 h2
          | false => exact ss_asg hN a b d (ckE_ok e g h2).1 (by rw [swaps_lc g.sc kf, hs])
        · exact ss_asg hN a b d (ckE_ok e g h2).1 (swap_ok (not1 h3) _ _ _)
      · cases h
    · cases h
  | .asgN i e, c, X, W, XL, x, g, hp, h => by
    unfold ckS at h
    split at h
    · split at h
      · obtain ⟨h, h4⟩ := and2 h
        obtain ⟨h, h3⟩ := and2 h
        obtain ⟨h1, h2⟩ := and2 h
        obtain ⟨a, b, d⟩ := g.store h3
        exact ss_asgN (by rw [g.N]; exact g.nd) a b d (fresh_ok g h1 h4) (swap_ok (not1 h2) _ _ _)
      · cases h
    · cases h
  | .asgP i t e j, c, X, W, XL, x, g, hp, h => by
    unfold ckS at h
    split at h
    · split at h
      · split at h
        · split at h
          · split at h
            · obtain ⟨h, h6⟩ := and2 h
              obtain ⟨h, h5⟩ := and2 h
              obtain ⟨h, h4⟩ := and2 h
              obtain ⟨h, h3⟩ := and2 h
              obtain ⟨h1, h2⟩ := and2 h
              have e1 := sEq_iff.mp h1
              subst e1
              obtain ⟨a, b, d⟩ := g.store h2
              obtain ⟨a', b', d', e'⟩ := g.var h3
              exact ss_asgP (by rw [g.N]; exact g.nd) a b d a' b' d' e' (ckE_ok t g h5).2 (ckE_ok e g h6).1 h4 rfl
            · cases h
          · cases h
        · cases h
      · cases h
    · cases h
  | .unp is e, c, X, W, XL, x, g, hp, h => by
    unfold ckS at h
    split at h
    · split at h
      · obtain ⟨h, h3⟩ := and2 h
        obtain ⟨h1, h2⟩ := and2 h
        exact ss_unp g.calm (by rw [g.N]; exact g.nd) (g.names h2) (ckE_ok e g h3).1 (swap_tup fun _ _ z => by cases z) (stores_no (not1 h1)) rfl
      · cases h
    · cases h
  | .unpS i j e, c, X, W, XL, x, g, hp, h => by
    unfold ckS at h
    split at h
    · split at h
      · obtain ⟨h, h3⟩ := and2 h
        obtain ⟨h1, h2⟩ := and2 h
        exact ss_unpS g.calm (by rw [g.N]; exact g.nd) (g.names h2) (ckE_ok e g h3).1 (swap_tup fun _ _ z => by cases z) (stores_no (not1 h1)) rfl
      · cases h
    · cases h
  | .app i e, c, X, W, XL, x, g, hp, h => by
    unfold ckS at h
    split at h
    · split at h
      · split at h
        · obtain ⟨h, h5⟩ := and2 h
          obtain ⟨h, h4⟩ := and2 h
          obtain ⟨h, h3⟩ := and2 h
          obtain ⟨h1, h2⟩ := and2 h
          have e1 := sEq_iff.mp h1
          subst e1
          obtain ⟨a, b', d, e'⟩ := g.var h2
          exact ss_app a b' d e' (ckE_ok e g h5).1 (star_ok (not1 h3) X.env) (base_ok rfl X.env) h4 (swap_ok rfl _ _ _)
        · cases h
      · cases h
    · cases h
  | .ext i e, c, X, W, XL, x, g, hp, h => by
    unfold ckS at h
    split at h
    · split at h
      · split at h
        · obtain ⟨h, h5⟩ := and2 h
          obtain ⟨h, h4⟩ := and2 h
          obtain ⟨h, h3⟩ := and2 h
          obtain ⟨h1, h2⟩ := and2 h
          have e1 := sEq_iff.mp h1
          subst e1
          obtain ⟨a, b', d, e'⟩ := g.var h2
          exact ss_ext a b' d e' (ckE_ok e g h5).1 (star_ok (not1 h3) X.env) (base_ok rfl X.env) h4 (swap_ok rfl _ _ _)
        · cases h
      · cases h
    · cases h
  | .seti i q e, c, X, W, XL, x, g, hp, h => by
    unfold ckS at h
    split at h
    · split at h
      · obtain ⟨h, h4⟩ := and2 h
        obtain ⟨h, h3⟩ := and2 h
        obtain ⟨h1, h2⟩ := and2 h
        obtain ⟨a, b', d, e'⟩ := g.var h1
        exact ss_seti (by have := g.room.un; omega) a b' d e' (ckE_ok q g h3).1 (ckE_ok e g h4).1 (assign_sub (not1 h2)) (swap_tup fun _ _ z => by cases z) stores_sub rfl
      · cases h
    · cases h
  | .cset i q e, c, X, W, XL, x, g, hp, h => by
    unfold ckS at h
    split at h
    · split at h
      · obtain ⟨h, h4⟩ := and2 h
        obtain ⟨h, h3⟩ := and2 h
        obtain ⟨h1, h2⟩ := and2 h
        obtain ⟨a, b', d, e'⟩ := g.var h1
        exact ss_cset a b' d e' (ckE_ok q g h3).1 (ckE_ok e g h4).1 (assign_sub (not1 h2)) (swap_tup fun _ _ z => by cases z) stores_sub rfl
      · cases h
    · cases h
  | .ret e, c, X, W, XL, x, g, hp, h => by
    unfold ckS at h
    split at h
    · split at h
      · cases hf : c.fr with
        | false =>
          rw [hf] at h
          exact ss_ret rfl (ckE_ok e g h).1
        | true =>
          rw [if_pos hf, Bool.or_eq_true] at h
          rcases h with h | h
          · obtain ⟨h1, h2⟩ := and2 h
            exact ss_retF (fresh_ok g h1 h2)
          · unfold retB at h
            split at h
            · obtain ⟨a', b', d', e'⟩ := g.var h
              exact ss_retO a' b' d' e'
            · cases h
      · cases h
    · cases h
  | .retN, c, X, W, XL, x, g, hp, h => by
    unfold ckS at h
    split at h
    · split at h
      · cases h
      · exact ss_retN
    · cases h
  | .ife t a b, c, X, W, XL, x, g, hp, h => by
    unfold ckS at h
    split at h
    · obtain ⟨h, h3⟩ := and2 h
      obtain ⟨h1, h2⟩ := and2 h
      exact ss_ife (ckE_ok t g h1).2 (ckSs_ok a g hp h2) (ckSs_ok b g hp h3)
    · cases h
  | .for_ tg it b, c, X, W, XL, x, g, hp, h => by
    unfold ckS at h
    split at h
    · split at h
      · obtain ⟨h, h4⟩ := and2 h
        obtain ⟨h, h3⟩ := and2 h
        obtain ⟨h1, h2⟩ := and2 h
        exact ss_for hp.own g.calm (ckI_ok it g h3) (tg_ok g h2) (ckSs_ok b g hp h4) (set_ok (not1 h1) X.env)
      · cases h
    · cases h
  | .expr e, c, X, W, XL, x, g, hp, h => by
    unfold ckS at h
    split at h
    · obtain ⟨h1, h2⟩ := and2 h
      exact ss_expr (ckE_ok e g h2).1 (swap_ok (not1 h1) _ _ _)
    · cases h
  | .frz _, _, _, _, _, _, _, _, h => by unfold ckS at h; cases h
  | .raise cl m, c, X, W, XL, x, g, hp, h => by
    unfold ckS at h
    split at h
    · split at h
      · obtain ⟨h, h5⟩ := and2 h
        obtain ⟨h, h4⟩ := and2 h
        obtain ⟨h, h3⟩ := and2 h
        obtain ⟨h1, h2⟩ := and2 h
        have e1 := sEq_iff.mp h1
        have e2 := sEq_iff.mp h2
        subst e1 e2
        obtain ⟨q, m, e⟩ := List.any_eq_true.mp h3
        have e := sEq_iff.mp e
        subst e
        exact ss_raise g.calm g.takes (g.excs q m) (g.gl h4) (plainB_ok h5).1
      · cases h
    · cases h
  | .raiseF cl f a, c, X, W, XL, x, g, hp, h => by
    unfold ckS at h
    split at h
    · split at h
      · obtain ⟨h, h6⟩ := and2 h
        obtain ⟨h, h5⟩ := and2 h
        obtain ⟨h, h4⟩ := and2 h
        obtain ⟨h, h3⟩ := and2 h
        obtain ⟨h1, h2⟩ := and2 h
        have e1 := sEq_iff.mp h1
        subst e1
        obtain ⟨q, m, e⟩ := List.any_eq_true.mp h2
        obtain ⟨q1, q2⟩ := and2 e
        have q1 := sEq_iff.mp q1
        have q2 := sEq_iff.mp q2
        subst q1 q2
        obtain ⟨Ca, fI, fd, ps, a1, a2, a3, a4, a5, a6, a7, a8, a9, a10⟩ := g.xfs q m
        exact ss_raiseF g.calm g.takes a1 a2 a3 a4 a5 a6 g.room3 a7 (g.gl h3) (plainB_ok h4).1 (ckE_ok a g h6).1 (star_ok (not1 h5) X.env)
      · cases h
    · cases h
  | .tryF b cl i t1 t2 f j, c, X, W, XL, x, g, hp, h => by
    unfold ckS at h
    split at h
    · split at h
      · split at h
        · obtain ⟨h, k25⟩ := and2 h
          obtain ⟨h, k24⟩ := and2 h
          obtain ⟨h, k23⟩ := and2 h
          obtain ⟨h, k22⟩ := and2 h
          obtain ⟨h, k21⟩ := and2 h
          obtain ⟨h, k20⟩ := and2 h
          obtain ⟨h, k19⟩ := and2 h
          obtain ⟨h, k18⟩ := and2 h
          obtain ⟨h, k17⟩ := and2 h
          obtain ⟨h, k16⟩ := and2 h
          obtain ⟨h, k15⟩ := and2 h
          obtain ⟨h, k14⟩ := and2 h
          obtain ⟨h, k13⟩ := and2 h
          obtain ⟨h, k12⟩ := and2 h
          obtain ⟨h, k11⟩ := and2 h
          obtain ⟨h, k10⟩ := and2 h
          obtain ⟨h, k9⟩ := and2 h
          obtain ⟨h, k8⟩ := and2 h
          obtain ⟨h, k7⟩ := and2 h
          obtain ⟨h, k6⟩ := and2 h
          obtain ⟨h, k5⟩ := and2 h
          obtain ⟨h, k4⟩ := and2 h
          obtain ⟨h, k3⟩ := and2 h
          obtain ⟨k1, k2⟩ := and2 h
          have e1 := sEq_iff.mp k1
          have e2 := sEq_iff.mp k2
          have e3 := sEq_iff.mp k3
          have e4 := sEq_iff.mp k4
          have e5 := sEq_iff.mp k5
          have e6 := sEq_iff.mp k6
          have e7 := sEq_iff.mp k7
          have e8 := sEq_iff.mp k21
          have e9 := sEq_iff.mp k22
          subst e1 e2 e3 e4 e5 e6 e7 e8 e9
          obtain ⟨q, m, e⟩ := List.any_eq_true.mp k11
          obtain ⟨qe1, qe2⟩ := and2 e
          have qe1 := sEq_iff.mp qe1
          have qe2 := sEq_iff.mp qe2
          obtain ⟨q1, m1, z⟩ := List.any_eq_true.mp k14
          obtain ⟨z, z3⟩ := and2 z
          obtain ⟨z1, z2⟩ := and2 z
          obtain ⟨q2, m2, y⟩ := List.any_eq_true.mp k15
          obtain ⟨y, y3⟩ := and2 y
          obtain ⟨y1, y2⟩ := and2 y
          have i1 := g.exis q1 m1
          have i2 := g.exis q2 m2
          obtain ⟨x1, x2, x3⟩ := q1
          obtain ⟨w1, w2, w3⟩ := q2
          have z1 := sEq_iff.mp z1
          have z2 := sEq_iff.mp z2
          have z3 := eq_of_beq z3
          have y1 := sEq_iff.mp y1
          have y2 := sEq_iff.mp y2
          have y3 := eq_of_beq y3
          dsimp only at z1 z2 z3 y1 y2 y3
          rw [z1, z2, z3] at i1
          rw [y1, y2, y3] at i2
          obtain ⟨Ca, fI, fd, ps, a1, a2, a3, a4, a5, a6, a7, a8, a9, a10⟩ := g.xfs q m
          rw [qe1] at a1
          rw [qe2] at a5
          obtain ⟨va, vb, vd, ve⟩ := g.var k8
          obtain ⟨ja, jb, jd, je⟩ := g.var k23
          obtain ⟨mi, gi, _, _⟩ := g.fre k20
          have hij : i ≠ j := fun z => by
            have : Nat.beq i j = false := not1 k24
            rw [z, Nat.beq_refl] at this
            cases this
          exact ss_tryF hp.stk hp.frm (by rw [g.N]; exact g.nd) va (by
            unfold Env.kindOf
            rw [g.sc]
            exact localB_ok k9) vb vd ve (g.gl k12) (plainB_ok k13).1 a1 a8 a9 a10 a5 i1 i2 (g.gl k16) (plainB_ok k17).1 (g.gl k18) (plainB_ok k19).1 gi mi g.takes ja jb jd je hij (by have := g.room.un; omega)
            fun W' pn xe tk ps => ckSs_ok b ⟨g.N, g.nd, g.sc, g.fn, g.calm, tk, g.room1, g.rows, g.gls, g.free, g.tbs, g.excs, g.exis, g.kws, g.mks, g.xfs, g.k2⟩ ⟨ps, hp.stk, hp.frm⟩ k25
        · cases h
      · cases h
    · cases h
  | .tryI b cl i t1 b1 t2 b2, c, X, W, XL, x, g, hp, h => by
    unfold ckS at h
    split at h
    · split at h
      · split at h
        · obtain ⟨h, k21⟩ := and2 h
          obtain ⟨h, k20⟩ := and2 h
          obtain ⟨h, k19⟩ := and2 h
          obtain ⟨h, k18⟩ := and2 h
          obtain ⟨h, k17⟩ := and2 h
          obtain ⟨h, k16⟩ := and2 h
          obtain ⟨h, k15⟩ := and2 h
          obtain ⟨h, k14⟩ := and2 h
          obtain ⟨h, k13⟩ := and2 h
          obtain ⟨h, k12⟩ := and2 h
          obtain ⟨h, k11⟩ := and2 h
          obtain ⟨h, k10⟩ := and2 h
          obtain ⟨h, k9⟩ := and2 h
          obtain ⟨h, k8⟩ := and2 h
          obtain ⟨h, k7⟩ := and2 h
          obtain ⟨h, k6⟩ := and2 h
          obtain ⟨h, k5⟩ := and2 h
          obtain ⟨h, k4⟩ := and2 h
          obtain ⟨h, k3⟩ := and2 h
          obtain ⟨k1, k2⟩ := and2 h
          have e1 := sEq_iff.mp k1
          have e2 := sEq_iff.mp k2
          have e3 := sEq_iff.mp k3
          have e4 := sEq_iff.mp k4
          have e5 := sEq_iff.mp k5
          have e6 := sEq_iff.mp k6
          have e7 := sEq_iff.mp k7
          subst e1 e2 e3 e4 e5 e6 e7
          obtain ⟨q, m, e⟩ := List.any_eq_true.mp k11
          have e := sEq_iff.mp e
          subst e
          obtain ⟨q1, m1, z⟩ := List.any_eq_true.mp k14
          obtain ⟨z, z3⟩ := and2 z
          obtain ⟨z1, z2⟩ := and2 z
          obtain ⟨q2, m2, y⟩ := List.any_eq_true.mp k15
          obtain ⟨y, y3⟩ := and2 y
          obtain ⟨y1, y2⟩ := and2 y
          have i1 := g.exis q1 m1
          have i2 := g.exis q2 m2
          obtain ⟨x1, x2, x3⟩ := q1
          obtain ⟨w1, w2, w3⟩ := q2
          have z1 := sEq_iff.mp z1
          have z2 := sEq_iff.mp z2
          have z3 := eq_of_beq z3
          have y1 := sEq_iff.mp y1
          have y2 := sEq_iff.mp y2
          have y3 := eq_of_beq y3
          dsimp only at z1 z2 z3 y1 y2 y3
          subst z1 z2 z3 y2 y3
          rw [y1] at i2
          obtain ⟨a, b', d, e'⟩ := g.var k8
          obtain ⟨mi, gi, _, _⟩ := g.fre k20
          exact ss_tryI hp.stk hp.frm (by rw [g.N]; exact g.nd) a (by
            unfold Env.kindOf
            rw [g.sc]
            exact localB_ok k9) b' d e' (g.gl k12) (plainB_ok k13).1 (g.excs _ m) i1 i2 (g.gl k16) (plainB_ok k17).1 (g.gl k18) (plainB_ok k19).1 gi mi g.takes
            fun W' pn xe tk ps => ckSs_ok b ⟨g.N, g.nd, g.sc, g.fn, g.calm, tk, g.room1, g.rows, g.gls, g.free, g.tbs, g.excs, g.exis, g.kws, g.mks, g.xfs, g.k2⟩ ⟨ps, hp.stk, hp.frm⟩ k21
        · cases h
      · cases h
    · cases h
  | .bad, _, _, _, _, _, _, _, _ => ss_bad
theorem ckSs_ok : ∀ (s : SL) {c : Ck} {X : Cx} {W : WX} {XL : List Addr} {xs : List Stmt}, Good c X W C k → TopOk X → ckSs c s xs = true → SSs X W c.fr XL C s xs
  | .nil, c, X, W, XL, xs, g, hp, h => by
    unfold ckSs at h
    split at h
    · exact sss_nil
    · cases h
  | .cons s r, c, X, W, XL, xs, g, hp, h => by
    unfold ckSs at h
    split at h
    · exact sss_frz (ckSs_ok r g hp h)
    · exact sss_never
    · split at h
      · obtain ⟨h1, h2⟩ := and2 h
        exact sss_cons (ckS_ok _ g hp h1) (ckSs_ok r g hp h2)
      · cases h
end
end
end IP
namespace IP
open PySem PySem.Spec L2
open PyProof.Rows hiding St
/-! ### defs -/
structure Fn where
  nm : Str
  qual : Str
  params : Arguments
  body : List Stmt
  scope : Scope
  N : List Str
  ps : List Str
theorem run_succ {P : List Def} {n f : Nat} {d : Def} {args : List Slot} {st : Store} (hd : P[f]? = some d) : run P (n + 1) f args st = match decide (args.length = d.pars) with
    | true => endS st.length (exs (run P n) d.body (args ++ List.replicate (d.names - d.pars) Slot.un) st)
    | false => .stuck := by
  show (match P[f]? with
    | some d => match decide (args.length = d.pars) with
      | true => endS st.length (exs (run P n) d.body (args ++ List.replicate (d.names - d.pars) Slot.un) st)
      | false => .stuck
    | none => R.stuck) = _
  rw [hd]
section
variable {P : List Def} {T : List Fn} {rows : List Row} {gls : List (Str × D)} {free : List Str} {tbs : List (Str × List (Str × D))} {excs : List Str} {exis : Xt} {prog : Program} {w : World} {K : PySem.W.Frag} {mg : Str → Option Value} {base : Heap}
theorem CellsR.take {N : List Addr} {H : Hp} : ∀ {st : Store} {as : List Addr} (n : Nat), CellsR K N H st as → CellsR K N H (st.take n) (as.take n)
  | _, _, 0, _ => by simp; exact .nil
  | _, _, n + 1, .nil => by simp; exact .nil
  | _, _, n + 1, .cons h t => by simp only [List.take_succ_cons]; exact .cons h (t.take n)
theorem uns_env {N ca : List Addr} {H : Hp} : ∀ n : Nat, EnvR K N ca H (List.replicate n Slot.un) (List.replicate n none) []
  | 0 => .nil
  | n + 1 => by
    rw [List.replicate_succ, List.replicate_succ]
    exact EnvR.cons (l := []) (.un _) (uns_env n)
/-- what the table of defs says -/
structure Tab (P : List Def) (T : List Fn) (rows : List Row) (gls : List (Str × D)) (free : List Str) (tbs : List (Str × List (Str × D))) (excs : List Str) (exis : Xt) : Prop where
  fn : ∀ (f : Nat) (fn : Fn), T[f]? = some fn → ∃ d : Def, P[f]? = some d ∧ FnScope fn.N fn.ps fn.scope ∧ d.names = fn.N.length ∧ d.pars = fn.ps.length ∧ ckSs ⟨fn.N, fn.scope, none, rows, gls, free, d.fr, tbs, excs, exis⟩ d.body fn.body = true
  rows : ∀ r ∈ rows, ∃ d : Def, P[r.f]? = some d ∧ d.fr = r.fr
  kws : ∀ r ∈ exis.kw, ∃ d : Def, P[r.f]? = some d ∧ d.fr = false
  mks : ∀ r ∈ exis.cm, ∃ d : Def, P[r.f]? = some d ∧ d.fr = false
structure Env1 (T : List Fn) (rows : List Row) (gls : List (Str × D)) (free : List Str) (tbs : List (Str × List (Str × D))) (excs : List Str) (exis : Xt) (w : World) (K : PySem.W.Frag) (mg : Str → Option Value) : Prop where
  row : ∀ r ∈ rows, ∃ (fn : Fn) (fa : Addr) (fd : FuncData) (kvs : List V) (kws : List (Str × V)), T[r.f]? = some fn ∧ r.nm = fn.nm ∧ FunD K fn.nm fn.qual fn.params fn.body fn.scope kvs kws fa fd ∧ mg fn.nm = some (.ref fa) ∧ ∃ (ds : List Value) (dvs : List V), Binds K fd fn.ps ds ∧ Vals dvs ds ∧ ∀ N H, DVs K N H r.dps dvs
  gls : ∀ q ∈ gls, ∃ v u, mg q.1 = some u ∧ RelV v u ∧ ∀ N H, DV K N H q.2 v
  free : ∀ x ∈ free, mg x = none
  tbs : ∀ q ∈ tbs, ∃ a, mg q.1 = some (.ref a) ∧ TblOk K w a q.2
  excs : ∀ x ∈ excs, ExcOk K mg x
  kws : ∀ r ∈ exis.kw, ∃ (fn : Fn) (fa : Addr) (fd : FuncData) (kvs : List V) (kws : List (Str × V)) (g : List Value → List Value → List Value), T[r.f]? = some fn ∧ r.nm = fn.nm ∧ FunD K fn.nm fn.qual fn.params fn.body fn.scope kvs kws fa fd ∧ mg fn.nm = some (.ref fa) ∧ KBn K fd fn.ps 1 [r.kw] g (fun vs zs => vs ++ zs)
  mks : ∀ r ∈ exis.cm, ∃ (fn : Fn) (Ca fI : Addr) (fd : FuncData) (kvs : List V) (kws : List (Str × V)), T[r.f]? = some fn ∧ FunD K fn.nm fn.qual fn.params fn.body fn.scope kvs kws fI fd ∧ mg r.nm = some (.ref Ca) ∧ Mk K Ca fI ∧ Binds K fd fn.ps []
  xfs : ∀ r ∈ exis.xf, ∃ (Ca fI : Addr) (fd : FuncData) (ps : List Str), mg r.c = some (.ref Ca) ∧ OexC K Ca ∧ PySem.W.findIn K (.ref Ca) "__init__" = some (some (.ref fI)) ∧ PySem.W.typeIn K (.ref fI) = some (.type "function") ∧
    PySem.W.findIn K (.ref Ca) r.f = some none ∧ (∀ prog base, FnOk prog w K mg base (L2.CX prog w) 2 fI fd ps (spXI K r.f)) ∧ Binds K fd ps [] ∧ PySem.W.exmOne K (.ref Ca) (.ref Ca) = some true ∧ ExcC K Ca ∧ XfC K Ca
  exis : ∀ q ∈ exis.is, ExiOk K mg q
theorem fns_ok (t : Tab P T rows gls free tbs excs exis) (e1 : Env1 T rows gls free tbs excs exis w K mg) : ∀ (n f : Nat) (fn : Fn) (d : Def) (fa : Addr) (fd : FuncData) (kvs : List V) (kws : List (Str × V)), T[f]? = some fn → P[f]? = some d → FunD K fn.nm fn.qual fn.params fn.body fn.scope kvs kws fa fd →
    FnOk prog w K mg base (L2.CX prog w) (2 * n + 2) fa fd fn.ps (spF d.fr K mg (run P n) f)
  | 0, f, fn, d, fa, fd, kvs, kws, hf, hd, F => ⟨fun vs H Q E ⟨XL, ca, args, st, he, hc, nd, tr, h⟩ => h.elim, fun A outer s H args us vs Q E hr e0 hb hv ⟨XL, ca, args', st, he, hc, nd, tr, h⟩ => h.elim⟩
  | n + 1, f, fn, d, fa, fd, kvs, kws, hf, hd, F => by
    obtain ⟨d', hd', sc, e2, e3, ck⟩ := t.fn f fn hf
    rw [hd] at hd'
    cases hd'
    show FnOk prog w K mg base (L2.CX prog w) (2 * n + 2 + 1 + 1) fa fd fn.ps (spF d.fr K mg (run P (n + 1)) f)
    refine F.ok sc (fun vs H Q E ⟨XL, ca, args, st, he, hc, nd, tr, h⟩ => ?_) fun cdv A outer s H vs Q E hr ⟨XL, ca, args, st, he, hc, nd, tr, h⟩ => ?_
    · rw [run_succ hd] at h
      replace h : FinC d.fr K mg XL ca H Q E (match decide (args.length = d.pars) with
        | true => endS st.length (exs (run P n) d.body (args ++ List.replicate (d.names - d.pars) Slot.un) st)
        | false => .stuck) := h
      cases el : decide (args.length = d.pars) with
      | false => rw [el] at h; exact h.elim
      | true =>
        have := he.len
        rw [List.length_map] at this
        rw [← this, of_decide_eq_true el, e3]
    · rw [run_succ hd] at h
      replace h : FinC d.fr K mg XL ca H Q E (match decide (args.length = d.pars) with
        | true => endS st.length (exs (run P n) d.body (args ++ List.replicate (d.names - d.pars) Slot.un) st)
        | false => .stuck) := h
      cases el : decide (args.length = d.pars) with
      | false => rw [el] at h; exact h.elim
      | true =>
      rw [el] at h
      replace h : FinC d.fr K mg XL ca H Q E (endS st.length (exs (run P n) d.body (args ++ List.replicate (d.names - d.pars) Slot.un) st)) := h
      have la : args.length = vs.length := by rw [he.len, List.length_map]
      have lp : args.length = d.pars := of_decide_eq_true el
      let X : Cx := cxOf (L2.CX prog w) prog w K mg base fn.N fn.qual fn.scope fa cdv A outer s H E
      have g : Good ⟨fn.N, fn.scope, none, rows, gls, free, d.fr, tbs, excs, exis⟩ X (fun cls d _ H => E cls d H) (run P n) (2 * n + 2) :=
        ⟨rfl, sc.nd, rfl, rfl, rfl, takes_of rfl rfl rfl rfl, hr, fun r m => by
          obtain ⟨fn', fa', fd', kvs', kws', a1, a2, a3, a4, ds, dvs, a5, a6, a7⟩ := e1.row r m
          obtain ⟨d2, b1, b2⟩ := t.rows r m
          exact ⟨fa', fd', fn'.ps, dvs, ds, b2 ▸ fns_ok t e1 n r.f fn' d2 fa' fd' kvs' kws' a1 b1 a3, by rw [a2]; exact a4, a3.kp, a5, a6, a7⟩, e1.gls, e1.free, e1.tbs, e1.excs, e1.exis, fun r m => by
          obtain ⟨fn', fa', fd', kvs', kws', g', a1, a2, a3, a4, a5⟩ := e1.kws r m
          obtain ⟨d2, b1, b2⟩ := t.kws r m
          exact ⟨fa', fd', fn'.ps, g', b2 ▸ fns_ok t e1 n r.f fn' d2 fa' fd' kvs' kws' a1 b1 a3, by rw [a2]; exact a4, a3.kp, a5⟩, fun r m => by
          obtain ⟨fn', Ca', fI', fd', kvs', kws', a1, a3, a4, a5, a6⟩ := e1.mks r m
          obtain ⟨d2, b1, b2⟩ := t.mks r m
          exact ⟨Ca', fI', fd', fn'.ps, b2 ▸ fns_ok t e1 n r.f fn' d2 fI' fd' kvs' kws' a1 b1 a3, a4, a5, a6⟩, fun r m => by
          obtain ⟨Ca', fI', fd', ps', a1, a2, a3, a4, a5, a6, a7⟩ := e1.xfs r m
          exact ⟨Ca', fI', fd', ps', a1, a2, a3, a4, a5, a6 _ _, a7⟩, by omega⟩
      have hp : TopOk X := ⟨passes_of rfl, rfl, rfl⟩
      have q : SSs X (fun cls d _ H => E cls d H) d.fr XL (run P n) d.body fn.body := ckSs_ok d.body g hp ck
      refine ⟨_, q, ca, [], args ++ List.replicate (d.names - d.pars) Slot.un, st, ?_, ?_⟩
      · have e0 : EnvR K (own XL [] ca) ca H (args ++ List.replicate (d.names - d.pars) Slot.un) (L2.start fn.N vs) [] := by
          unfold L2.start
          rw [← e2, ← la, lp]
          exact he.app (uns_env _)
        exact ⟨e0, hc, nd, tr⟩
      · have back : ∀ {ca' L' : List Addr} {env' : Env} {st' : Store} {σ' : L2.St} {H' : Hp}, Rel K XL ca' L' env' st' σ' H' → Step [] ca H L' ca' H' → CellsR K (own XL [] ca) H' (st'.take st.length) ca ∧ Step [] ca H [] ca H' ∧ Kp (own XL L' ca') H' (own XL [] ca) H' := fun {ca' L' env' st' σ' H'} R S => by
          have sub : ∀ a ∈ own XL [] ca, a ∈ own XL L' ca' := fun a m => by
            rcases List.mem_append.mp m with m | m
            · exact List.mem_append_left _ m
            · exact List.mem_append_right _ (List.mem_append_right _ (S.pre.subset (by simpa using m)))
          have kp : Kp (own XL L' ca') H' (own XL [] ca) H' := .less sub
          refine ⟨?_, ⟨S.stay, fun a m => .inl m, List.prefix_rfl, S.there⟩, kp⟩
          have c1 := (R.cells.keep kp fun _ _ _ e => e).take st.length
          have c2 : ca'.take st.length = ca := by
            rw [hc.length]
            exact (List.prefix_iff_eq_take.mp S.pre).symm
          rwa [c2] at c1
        cases er : exs (run P n) d.body (args ++ List.replicate (d.names - d.pars) Slot.un) st with
        | nx env' st' =>
          rw [er] at h
          intro ca' L' σ' H' R S
          obtain ⟨b1, b2, b3⟩ := back R S
          exact h _ H' b1 b2 ⟨.non, fun _ _ z => by cases z⟩
        | ret p st' =>
          rw [er] at h
          intro ca' L' env' σ' v H' R S hv
          obtain ⟨b1, b2, b3⟩ := back R S
          refine h v H' b1 b2 ⟨b3.dv hv.1, fun e ds ed => ?_⟩
          obtain ⟨a, vs, h1, h2, h3, h4, h5, h6⟩ := hv.2 e ds ed
          have sub : ∀ b ∈ own XL [] ca, b ∈ own XL L' ca' := fun b m => by
            rcases List.mem_append.mp m with m | m
            · exact List.mem_append_left _ m
            · exact List.mem_append_right _ (List.mem_append_right _ (S.pre.subset (by simpa using m)))
          have kp : Kp (a :: own XL L' ca') H' (a :: own XL [] ca) H' := .less fun b m => by
            rcases List.mem_cons.mp m with rfl | m
            · exact List.mem_cons_self
            · exact List.mem_cons_of_mem _ (sub b m)
          refine ⟨a, vs, h1, h2, h3, fun m => h4 (sub a m), kp.dvs h5, ?_⟩
          have c1 := (h6.keep kp fun _ _ _ e => e).take st.length
          have c2 : ca'.take st.length = ca := by
            rw [hc.length]
            exact (List.prefix_iff_eq_take.mp S.pre).symm
          rwa [c2] at c1
        | exc z env' st' =>
          rw [er] at h
          intro ca' L' σ' H' cls dd R S q
          obtain ⟨b1, b2, b3⟩ := back R S
          refine h H' cls dd b1 b2 ?_
          obtain ⟨a, h1, h2, h3⟩ := q
          refine ⟨a, h1, h2, ?_⟩
          cases ef : z.fld with
          | none => rw [ef] at h3; exact h3
          | some fp =>
            rw [ef] at h3
            obtain ⟨dx, v, q1, q2, q3, q4⟩ := h3
            exact ⟨dx, v, q1, q2, b3.out dx (by rw [q2]; rfl) q3, b3.dv q4⟩
        | stuck => rw [er] at h; exact h.elim
end
end IP
namespace IP
open PySem PySem.Spec L2
open PyProof.Rows hiding St
/-! ### the law's end -/
theorem scr_of {K : PySem.W.Frag} {H : Hp} {a : Addr} {ns : List Int} (hO : Only H) (hS : SqL K H a (ns.map V.int)) (hl : ns.length ≤ 63) : ScrAt K [] H a ns := by
  refine ⟨Nat.le_trans hl (by rw [sizeLine_eq]; decide), ?_⟩
  rcases hS with (h | ⟨o, h⟩) | h
  · rcases hO a with e | ⟨o, xs, e⟩
    · rw [e] at h; cases h
    · rw [e] at h; cases h
  · exact .inl ⟨by simp, o, h⟩
  · exact .inr fun _ => .inr h
theorem sp_law {K : PySem.W.Frag} {mg : Str → Option Value} {P : List Def} {k f : Nat} {H : Hp} {a : Addr} {ns : List Int} (hO : Only H) (hS : SqL K H a (ns.map V.int)) (hl : ns.length ≤ 63) (hr : ∃ st, run P k f [.scr ns] [] = .ok (.bool true) st) :
    spF false K mg (run P k) f [.ref a] H (fun v _ => v = .bl true) fun _ _ _ => False := by
  obtain ⟨st, e⟩ := hr
  refine ⟨[], [], [.scr ns], [], EnvR.cons (l := []) (.scr (scr_of hO hS hl)) .nil, .nil, List.nodup_nil, fun _ m => by simp at m, ?_⟩
  rw [e]
  exact fun v H' _ _ hv => hv.1.boolV
theorem cx_false {P : Program} {w : World} (H : Hp) (s : Shared) (e : Value) (s' : Shared) (h : L2.CX P w [] H s (fun _ _ _ => False) e s') : False := by
  obtain ⟨_, _, _, _, _, _, _, _, _, _, _, _, z⟩ := h
  exact z

/-! ### the module's constants -/
mutual
def cvB (K : PySem.W.Frag) : D → Value → Bool
  | .none, u => match u with
    | .none => true
    | _ => false
  | .bool a, u => match u with
    | .bool b => a == b
    | _ => false
  | .int i, u => match u with
    | .int j _ => decide (i = j)
    | _ => false
  | .str s, u => match u with
    | .str t _ => sEq s t && goodB s
    | _ => false
  | .tuple ds, u => match u with
    | .ref a => match K.lookup a with
      | some ⟨.type c, _, .seq its _, _⟩ => decide (c = "tuple") && (decide (its.size ≤ sizeLine) && cvsB K ds its.toList)
      | _ => false
    | _ => false
  | .list _, _ => false
  | .dict _, _ => false
def cvsB (K : PySem.W.Frag) : List D → List Value → Bool
  | [], us => match us with
    | [] => true
    | _ => false
  | d :: ds, us => match us with
    | u :: us => cvB K d u && cvsB K ds us
    | _ => false
end
theorem and2' {a b : Bool} (h : (a && b) = true) : a = true ∧ b = true := by rwa [Bool.and_eq_true] at h
mutual
theorem cvB_ok {K : PySem.W.Frag} : ∀ {p : D} {u : Value}, cvB K p u = true → ∃ v, RelV v u ∧ ∀ N H, DV K N H p v
  | .none, u, h => by
    unfold cvB at h
    split at h
    · exact ⟨.non, rfl, fun _ _ => .non⟩
    · cases h
  | .bool a, u, h => by
    unfold cvB at h
    split at h
    · simp at h; subst h; exact ⟨.bl _, rfl, fun _ _ => .bl _⟩
    · cases h
  | .int i, u, h => by
    unfold cvB at h
    split at h
    · simp at h; subst h; exact ⟨.int _, ⟨_, rfl⟩, fun _ _ => .int _⟩
    · cases h
  | .str s, u, h => by
    unfold cvB at h
    split at h
    · obtain ⟨h1, h2⟩ := and2' h
      have := sEq_iff.mp h1
      subst this
      exact ⟨.str _, ⟨_, rfl⟩, fun _ _ => .str _ (goodB_ok h2)⟩
    · cases h
  | .tuple ds, u, h => by
    unfold cvB at h
    split at h
    · rename_i a
      split at h
      · rename_i c dd its n sl e
        obtain ⟨h1, h2⟩ := and2' h
        obtain ⟨h2, h3⟩ := and2' h2
        obtain ⟨vs, r, d⟩ := cvsB_ok h3
        have hc : c = "tuple" := of_decide_eq_true h1
        exact ⟨.ref a, rfl, fun N H => .ktup ⟨_, its, n, e, by rw [hc], rfl, of_decide_eq_true h2, r⟩ (d N H)⟩
      · cases h
    · cases h
  | .list _, _, h => by unfold cvB at h; cases h
  | .dict _, _, h => by unfold cvB at h; cases h
theorem cvsB_ok {K : PySem.W.Frag} : ∀ {p : List D} {u : List Value}, cvsB K p u = true → ∃ vs, Vals vs u ∧ ∀ N H, DVs K N H p vs
  | [], us, h => by
    unfold cvsB at h
    split at h
    · exact ⟨[], .nil, fun _ _ => .nil⟩
    · cases h
  | d :: ds, us, h => by
    unfold cvsB at h
    split at h
    · obtain ⟨h1, h2⟩ := and2' h
      obtain ⟨v, r, e⟩ := cvB_ok h1
      obtain ⟨vs, rs, es⟩ := cvsB_ok h2
      exact ⟨v :: vs, .cons r rs, fun N H => .cons (e N H) (es N H)⟩
    · cases h
end
def glsB (K : PySem.W.Frag) (gl : List (Str × D)) : Bool := gl.all fun q => match PySem.W.nsIn K mainGlobals q.1 with
  | some (some u) => cvB K q.2 u
  | _ => false
/-! ### the Hook: what the module's names reach, walked ring by ring -/
def refsQ (o : Obj) : List Addr := match o.data with
  | .seq its _ => its.toList.flatMap He.refV
  | .dict es _ => es.toList.flatMap fun e => He.refV e.val
  | .func fd => He.refV fd.code ++ (He.refV fd.defaults ++ He.refV fd.kwdefaults)
  | .cls cd => cd.ns :: cd.mro.flatMap He.refV
  | _ => []
def nextQ (g : Addr → Option Obj) (as : List Addr) : List Addr := as.flatMap fun a => match g a with
  | some o => refsQ o
  | none => []
def asQ (g : Addr → Option Obj) : List Addr :=
  let f1 := nextQ g [mainGlobals]
  let f2 := nextQ g f1
  let f3 := nextQ g f2
  let f4 := nextQ g f3
  mainGlobals :: cStatics :: (f1 ++ (f2 ++ (f3 ++ f4)))
/-! tables with text keys -/
def entsB (K : PySem.W.Frag) : List DictEntry → List (Str × D) → Bool
  | [], kvs => match kvs with
    | [] => true
    | _ => false
  | e :: r, kvs => match kvs with
    | [] => false
    | (k, d) :: t => (match e.key with
      | .str s _ => sEq s k
      | _ => false) && (cvB K d e.val && entsB K r t)
def tbvB (K : PySem.W.Frag) (tb : List (Str × List (Str × D))) : Bool := tb.all fun q => match PySem.W.nsIn K mainGlobals q.1 with
  | some (some u) => match u with
    | .ref a => match K.lookup a with
      | some ⟨_, _, .dict es _, _⟩ => entsB K es.toList q.2
      | _ => false
    | _ => false
  | _ => false
theorem entsB_ok {K : PySem.W.Frag} (z : Str) : ∀ {es : List DictEntry} {kvs : List (Str × D)}, entsB K es kvs = true → ∃ r, (match es.find? (·.key.isStr z) with
      | some e => some (some e.val)
      | none => if es.any (·.refKey) then none else some none) = some r ∧ OptR K (lkS kvs z) r
  | [], kvs, h => by
    unfold entsB at h
    split at h
    · exact ⟨none, rfl, rfl⟩
    · cases h
  | e :: r, kvs, h => by
    unfold entsB at h
    split at h
    · cases h
    · rename_i k d t
      obtain ⟨h1, h2⟩ := and2' h
      obtain ⟨h2, h3⟩ := and2' h2
      split at h1
      · rename_i s q ek
        have es := sEq_iff.mp h1
        subst es
        have e1 : e.key.isStr z = (s == z) := by rw [ek]; rfl
        have e2 : e.refKey = false := by unfold DictEntry.refKey; rw [ek]
        unfold lkS
        rw [List.find?_cons, e1, List.any_cons, e2, Bool.false_or]
        by_cases hz : s = z
        · subst hz
          obtain ⟨v, rv, hv⟩ := cvB_ok h2
          rw [show (s == s) = true from beq_self_eq_true s, show decide (s = s) = true from decide_eq_true rfl]
          exact ⟨_, rfl, _, v, rfl, rv, hv⟩
        · rw [show (s == z) = false from beq_eq_false_iff_ne.mpr hz, show decide (s = z) = false from decide_eq_false hz]
          exact entsB_ok z h3
      · cases h1
/-! own exceptions -/
def exccB (K : PySem.W.Frag) (C : Addr) : Bool := He.eqO (PySem.W.findIn K (.ref C) "__getattribute__") (some (some (.builtin "BaseException.__getattribute__"))) && (He.eqO (PySem.W.findIn K (.ref C) "__getattr__") (some none) && (decide (PySem.W.subIn K (.ref C) (.type "BaseException") = some true) &&
  (PySem.W.hasDictIn K C && (He.eqO (PySem.W.findIn K (.ref C) "__class__") (some (some (.builtin "object.__class__"))) && (He.eqO (PySem.W.specialIn K (.builtin "object.__class__") "__get__") (some (some (.builtin "getset_descriptor.__get__"))) &&
  (decide (PySem.W.takesIn K (.builtin "object.__class__") = some true) && decide (PySem.W.mroIn K C (.type "object") = some true)))))))
theorem exccB_ok {K : PySem.W.Frag} {C : Addr} (h : exccB K C = true) : ExcC K C := by
  unfold exccB at h
  obtain ⟨h1, h⟩ := and2' h
  obtain ⟨h2, h⟩ := and2' h
  obtain ⟨h3, h⟩ := and2' h
  obtain ⟨h4, h⟩ := and2' h
  obtain ⟨h5, h⟩ := and2' h
  obtain ⟨h6, h⟩ := and2' h
  obtain ⟨h7, h8⟩ := and2' h
  exact ⟨He.eqO_ok h1, He.eqO_ok h2, of_decide_eq_true h3, h4, He.eqO_ok h5, He.eqO_ok h6, of_decide_eq_true h7, of_decide_eq_true h8⟩
def nameB (K : PySem.W.Frag) (x : Str) : Bool := He.eqO (PySem.W.nsIn K mainGlobals x) (some (some (.ref (He.ga K x))))
def excB (K : PySem.W.Frag) (x : Str) : Bool := nameB K x && (PySem.W.excIn K (He.ga K x) He.veBase "ValueError.__new__" && (PySem.W.keepIn K (.ref (He.ga K x)) && (decide (PySem.W.subIn K (.ref (He.ga K x)) (.type "BaseException") = some true) &&
  (decide (PySem.W.typeIn K (.ref (He.ga K x)) = some (.type "type")) && (decide (PySem.W.exmOne K (.ref (He.ga K x)) (.ref (He.ga K x)) = some true) && exccB K (He.ga K x))))))
def exiB (K : PySem.W.Frag) (q : Str × Str × Bool) : Bool := nameB K q.1 && (nameB K q.2.1 && decide (PySem.W.kitOne K (.ref (He.ga K q.1)) (.ref (He.ga K q.2.1)) = some q.2.2))
theorem excs_ok {ex : List Str} {K : PySem.W.Frag} {h : Heap} {mg : Str → Option Value} (X : K.In h) (G : h.Ns mainGlobals mg) (c : ex.all (excB K) = true) : ∀ x ∈ ex, ExcOk K mg x := fun x m => by
  have c := List.all_eq_true.mp c x m
  unfold excB at c
  obtain ⟨h1, c⟩ := and2' c
  obtain ⟨h2, c⟩ := and2' c
  obtain ⟨h3, c⟩ := and2' c
  obtain ⟨h4, c⟩ := and2' c
  obtain ⟨h5, c⟩ := and2' c
  obtain ⟨h6, h7⟩ := and2' c
  exact ⟨_, PySem.W.mg_of X G (He.eqO_ok h1), h2, h3, of_decide_eq_true h4, of_decide_eq_true h5, of_decide_eq_true h6, exccB_ok h7⟩
theorem exis_ok {xi : Xt} {K : PySem.W.Frag} {h : Heap} {mg : Str → Option Value} (X : K.In h) (G : h.Ns mainGlobals mg) (c : xi.is.all (exiB K) = true) : ∀ q ∈ xi.is, ExiOk K mg q := fun q m => by
  have c := List.all_eq_true.mp c q m
  unfold exiB at c
  obtain ⟨h1, c⟩ := and2' c
  obtain ⟨h2, h3⟩ := and2' c
  exact ⟨_, _, PySem.W.mg_of X G (He.eqO_ok h1), PySem.W.mg_of X G (He.eqO_ok h2), of_decide_eq_true h3⟩
/-- an own exception class with one field -/
def oexcB (K : PySem.W.Frag) (C : Addr) : Bool := match K.lookup C with
  | some ⟨.type "type", _, .cls cd, sl⟩ => (match cd.mro, sl.toList with
    | .ref C' :: bm, [_, _, _, _, some (.builtin n), _] => C' == C && n == "ValueError.__new__" && !cd.hasDel && cd.hasDict && PySem.HandSPX.refsVE bm
    | _, _ => false)
  | _ => false
theorem oexcB_ok {K : PySem.W.Frag} {C : Addr} (q : oexcB K C = true) : ∃ nm q N bs bm sn sub ab col dd k0 k1 k2 k3 k5, K.lookup C = some (excClassObj nm q C N bs bm true sn sub ab col dd k0 k1 k2 k3 k5 "ValueError.__new__") ∧ PySem.HandSPX.refsVE bm = true := by
  unfold oexcB at q
  split at q
  · rename_i dd cd sl ho
    split at q
    · rename_i C' bm k0 k1 k2 k3 n k5 hm hs
      simp only [Bool.and_eq_true, beq_iff_eq, Bool.not_eq_true'] at q
      obtain ⟨⟨⟨⟨rfl, rfl⟩, hdel⟩, hdict⟩, ht⟩ := q
      obtain ⟨nm, bs, mro, ns, qn, hd, sn, sub, ab, col, del⟩ := cd
      dsimp only at hm hdel hdict
      subst hm hdel hdict
      have hsl : sl = #[k0, k1, k2, k3, some (.builtin "ValueError.__new__"), k5] := by
        obtain ⟨l⟩ := sl
        simp only at hs
        rw [hs]
      subst hsl
      exact ⟨nm, qn, ns, bs, bm, sn, sub, ab, col, dd, k0, k1, k2, k3, k5, ho, ht⟩
    · cases q
  · cases q
def fcB (K : PySem.W.Frag) (T : Addr) : Bool := match PySem.W.findCls K (.ref T) (.type "type") "__init__" with
  | some (.val v) => decide (v = .builtin "ValueError.__init__")
  | _ => false
theorem fcB_ok {K : PySem.W.Frag} {T : Addr} (h : fcB K T = true) : PySem.W.findCls K (.ref T) (.type "type") "__init__" = some (.val (.builtin "ValueError.__init__")) := by
  unfold fcB at h
  split at h
  · rename_i v e
    rw [e, of_decide_eq_true h]
  · cases h
/-- r's class, the class that its __init__ names -/
def xfB (K : PySem.W.Frag) (r : XRow) : Bool := nameB K r.c && (nameB K r.p && (oexcB K (He.ga K r.c) && (decide (PySem.W.findIn K (.ref (He.ga K r.c)) "__setattr__" = some (some (.builtin "object.__setattr__"))) &&
  (decide (PySem.W.subIn K (.ref (He.ga K r.c)) (.type "BaseException") = some true) && (decide (PySem.W.typeIn K (.ref (He.ga K r.c)) = some (.type "type")) && (PySem.W.keepIn K (.ref (He.ga K r.c)) &&
  (decide (PySem.W.findIn K (.ref (He.ga K r.c)) "__init__" = some (some (.ref (He.ma K (He.ga K r.c) "__init__")))) && (decide (PySem.W.typeIn K (.ref (He.ma K (He.ga K r.c) "__init__")) = some (.type "function")) &&
  (decide (PySem.W.findIn K (.ref (He.ga K r.c)) r.f = some none) && (decide (PySem.W.exmOne K (.ref (He.ga K r.c)) (.ref (He.ga K r.c)) = some true) && (exccB K (He.ga K r.c) && (L2.xfB K (He.ga K r.c) &&
  (PySem.W.readsIn K (He.ga K r.p) (.type "type") && (decide (PySem.W.specialIn K (.ref (He.ga K r.p)) "__getattribute__" = some (some (.builtin "type.__getattribute__"))) &&
  fcB K (He.ga K r.p)))))))))))))))
structure XfOk (K : PySem.W.Frag) (mg : Str → Option Value) (r : XRow) : Prop where
  mc : mg r.c = some (.ref (He.ga K r.c))
  mp : mg r.p = some (.ref (He.ga K r.p))
  ox : OexC K (He.ga K r.c)
  ini : PySem.W.findIn K (.ref (He.ga K r.c)) "__init__" = some (some (.ref (He.ma K (He.ga K r.c) "__init__")))
  tyI : PySem.W.typeIn K (.ref (He.ma K (He.ga K r.c) "__init__")) = some (.type "function")
  no : PySem.W.findIn K (.ref (He.ga K r.c)) r.f = some none
  exm : PySem.W.exmOne K (.ref (He.ga K r.c)) (.ref (He.ga K r.c)) = some true
  ec : ExcC K (He.ga K r.c)
  xf : XfC K (He.ga K r.c)
  rd : PySem.W.readsIn K (He.ga K r.p) (.type "type") = true
  sg : PySem.W.specialIn K (.ref (He.ga K r.p)) "__getattribute__" = some (some (.builtin "type.__getattribute__"))
  fc : PySem.W.findCls K (.ref (He.ga K r.p)) (.type "type") "__init__" = some (.val (.builtin "ValueError.__init__"))
theorem xfs_ok {xi : Xt} {K : PySem.W.Frag} {h : Heap} {mg : Str → Option Value} (X : K.In h) (G : h.Ns mainGlobals mg) (c : xi.xf.all (xfB K) = true) : ∀ r ∈ xi.xf, XfOk K mg r := fun r m => by
  have c := List.all_eq_true.mp c r m
  unfold xfB at c
  obtain ⟨h1, c⟩ := and2' c
  obtain ⟨h2, c⟩ := and2' c
  obtain ⟨h3, c⟩ := and2' c
  obtain ⟨h4, c⟩ := and2' c
  obtain ⟨h5, c⟩ := and2' c
  obtain ⟨h6, c⟩ := and2' c
  obtain ⟨h7, c⟩ := and2' c
  obtain ⟨h8, c⟩ := and2' c
  obtain ⟨h9, c⟩ := and2' c
  obtain ⟨h10, c⟩ := and2' c
  obtain ⟨h11, c⟩ := and2' c
  obtain ⟨h12, c⟩ := and2' c
  obtain ⟨h13, c⟩ := and2' c
  obtain ⟨h14, c⟩ := and2' c
  obtain ⟨h15, h16⟩ := and2' c
  exact ⟨PySem.W.mg_of X G (He.eqO_ok h1), PySem.W.mg_of X G (He.eqO_ok h2), ⟨oexcB_ok h3, of_decide_eq_true h4, of_decide_eq_true h5, of_decide_eq_true h6, h7⟩, of_decide_eq_true h8, of_decide_eq_true h9, of_decide_eq_true h10, of_decide_eq_true h11, exccB_ok h12, L2.xfB_ok h13,
    h14, of_decide_eq_true h15, fcB_ok h16⟩
def obsC (gl : List (Str × D)) (tb : List (Str × List (Str × D))) (ex : List Str) (xi : Xt) (fa : List He.Fa) (fn : List He.DefD) (K : PySem.W.Frag) : He.AlT :=
  ((glsB K gl && (tbvB K tb && (ex.all (excB K) && ((xi.is.all (exiB K) && xi.xf.all (xfB K)) && (He.obsD fa fn K).1))), (He.obsD fa fn K).2), tb.map fun q => He.dicW K (He.ga K q.1))
def valC (fn : List He.DefD) (tb : List (Str × List (Str × D))) (w : World) : He.AlT := (He.valD fn, tb.map fun q => some (He.keysIn w.params (q.2.map (·.1))))
def obsQ (gl : List (Str × D)) (tb : List (Str × List (Str × D))) (ex : List Str) (xi : Xt) (fa : List He.Fa) (fn : List He.DefD) (g : Addr → Option Obj) : He.AlT := obsC gl tb ex xi fa fn (He.frG g (asQ g))
def SaysC (gl : List (Str × D)) (tb : List (Str × List (Str × D))) (ex : List Str) (xi : Xt) (fa : List He.Fa) (fn : List He.DefD) (w : World) (K : PySem.W.Frag) : Prop := obsC gl tb ex xi fa fn K = valC fn tb w
theorem SaysC.d {gl : List (Str × D)} {tb : List (Str × List (Str × D))} {ex : List Str} {xi : Xt} {fa : List He.Fa} {fn : List He.DefD} {w : World} {K : PySem.W.Frag} (h : SaysC gl tb ex xi fa fn w K) :
    He.SaysD fa fn K ∧ glsB K gl = true ∧ tbvB K tb = true ∧ (ex.all (excB K) = true ∧ xi.is.all (exiB K) = true ∧ xi.xf.all (xfB K) = true) ∧ ∀ q ∈ tb, He.dicW K (He.ga K q.1) = some (He.keysIn w.params (q.2.map (·.1))) := by
  have e : obsC gl tb ex xi fa fn K = valC fn tb w := h
  have h1 : (obsC gl tb ex xi fa fn K).1.1 = true := by rw [e]; rfl
  have h2 : (obsC gl tb ex xi fa fn K).1.2 = (He.valD fn).2 := by rw [e]; rfl
  have h3 : (obsC gl tb ex xi fa fn K).2 = tb.map fun q => some (He.keysIn w.params (q.2.map (·.1))) := by rw [e]; rfl
  obtain ⟨a, b⟩ := and2' h1
  obtain ⟨b, c⟩ := and2' b
  obtain ⟨c1, c⟩ := and2' c
  obtain ⟨c2, c⟩ := and2' c
  refine ⟨Prod.ext c h2, a, b, ⟨c1, and2' c2⟩, fun q m => ?_⟩
  have h4 : (tb.map fun q => He.dicW K (He.ga K q.1)) = tb.map fun q => some (He.keysIn w.params (q.2.map (·.1))) := h3
  obtain ⟨i, hi⟩ := List.getElem?_of_mem m
  have h5 := congrArg (fun l => l[i]?) h4
  simp only [List.getElem?_map, hi, Option.map_some] at h5
  exact Option.some.inj h5
def hookC (gl : List (Str × D)) (tb : List (Str × List (Str × D))) (ex : List Str) (xi : Xt) (fa : List He.Fa) (fn : List He.DefD) : PySem.W.Hook where
  α := He.AlT
  obs := fun s => obsQ gl tb ex xi fa fn s.heap.get?
  val := fun w => valC fn tb w
  says := fun w h => ∃ K : PySem.W.Frag, K.In h ∧ SaysC gl tb ex xi fa fn w K
  of := fun _ _ e => ⟨_, He.frG_in, e⟩
  keeps := fun _ _ _ ⟨K, hK, c⟩ k => ⟨K, PySem.W.Frag.In.keeps hK k, c⟩
theorem obsQ_eq {gl : List (Str × D)} {tb : List (Str × List (Str × D))} {ex : List Str} {xi : Xt} {fa : List He.Fa} {fn : List He.DefD} {g : Addr → Option Obj} {s : Shared} (h : ∀ a, g a = s.heap.get? a) : obsQ gl tb ex xi fa fn g = (hookC gl tb ex xi fa fn).obs s := by
  have e : g = s.heap.get? := funext h
  rw [e] <;> rfl
theorem tbs_ok {tb : List (Str × List (Str × D))} {K : PySem.W.Frag} {w : World} {h : Heap} {mg : Str → Option Value} (X : K.In h) (G : h.Ns mainGlobals mg) (c : tbvB K tb = true) (e : ∀ q ∈ tb, He.dicW K (He.ga K q.1) = some (He.keysIn w.params (q.2.map (·.1)))) :
    ∀ q ∈ tb, ∃ a, mg q.1 = some (.ref a) ∧ TblOk K w a q.2 := fun q m => by
  have c := List.all_eq_true.mp c q m
  have e := e q m
  split at c
  · rename_i u eu
    split at c
    · rename_i a
      split at c
      · rename_i oc od es n sl el
        have ga : He.ga K q.1 = a := by unfold He.ga; rw [eu]
        rw [ga] at e
        obtain ⟨es', n', kd⟩ := He.dicW_ok e
        refine ⟨a, PySem.W.mg_of X G eu, es', n', kd, fun z => ?_⟩
        obtain ⟨r, h1, h2⟩ := entsB_ok z c
        refine ⟨r, ?_, h2⟩
        unfold PySem.W.nsIn
        rw [el]
        exact h1
      · cases c
    · cases c
  · cases c
theorem gls_ok {gl : List (Str × D)} {K : PySem.W.Frag} {h : Heap} {mg : Str → Option Value} (X : K.In h) (G : h.Ns mainGlobals mg) (c : glsB K gl = true) : ∀ q ∈ gl, ∃ v u, mg q.1 = some u ∧ RelV v u ∧ ∀ N H, DV K N H q.2 v := fun q m => by
  have e := List.all_eq_true.mp c q m
  split at e
  · rename_i u eu
    obtain ⟨v, r, d⟩ := cvB_ok e
    exact ⟨v, u, PySem.W.mg_of X G eu, r, d⟩
  · cases e
end IP
namespace IP
open PySem PySem.Spec L2
open PyProof.Rows hiding St
/-- a law by its def's promise; what leaves a call is told world by world -/
theorem walk_byWorld {l : PySem.W.OpenLaw} {n k : Nat} {q : Program} {loose : List Str} {XP : (Str → Option Value) → Heap → Prop} {YP : World → Heap → Prop} {d : DefRec} {CX : World → CXT} {x : Str} (most : l.most = some n) (le : n ≤ sizeLine) (nd : d.params.defaults = []) (room : Room k callerA)
    (tell : ∀ (w : World) (mg : Str → Option Value) (fa : Addr) (h : Heap), YP w h → h.Ns mainGlobals mg → mg d.name = some (.ref fa) → ∃ (K : PySem.W.Frag) (fd : FuncData) (sp : Sp), K.In h ∧ (∀ (s : Shared) (u : Value), BindsTo s fd ⟨[u], []⟩ [(x, u)]) ∧
      (∀ (H : Hp) (a : Addr) (ns : List Int), ns.length ≤ n → Only H → SqL K H a (ns.map V.int) → sp [.ref a] H (fun v _ => v = .bl true) fun _ _ _ => False) ∧ ∀ base : Heap, K.In base → base.Ns mainGlobals mg → FnOk l.prog w K mg base (CX w) k fa fd [x] sp)
    (no : ∀ (w : World) (H : Hp) (s : Shared) (e : Value) (s' : Shared), CX w [] H s (fun _ _ _ => False) e s' → False) : PySem.W.WalkO q loose XP YP l.row.toRowW d [] (fun f vs => PySem.call f vs) := by
  refine Att.attach_call most nd fun w s0 s1 mg mb fa o pm cd doc a vs ns G Y ho hd hcd hmg hobj hints hlen hg => ?_
  obtain ⟨K, fd, sp, KX, hb, hsp, hF⟩ := tell w mg fa _ Y G.T.g hmg
  exact law_call KX G.T.g G.T.b G.T.builtins G.T.nolimit hg hobj hints (Nat.le_trans hlen le) room hF hb (fun H hO hS => hsp H a ns hlen hO hS) fun H e s' => no w H s1 e s'
/-! ### the table of defs, looked at -/
def inB (x : Str) : List Str → Bool
  | [] => false
  | y :: r => sEq x y || inB x r
theorem inB_iff {x : Str} : ∀ {l : List Str}, inB x l = true ↔ x ∈ l
  | [] => by simp [inB]
  | y :: r => by rw [inB, Bool.or_eq_true, sEq_iff, inB_iff, List.mem_cons]
def nodupB : List Str → Bool
  | [] => true
  | x :: r => !inB x r && nodupB r
theorem nodupB_ok : ∀ {l : List Str}, nodupB l = true → l.Nodup
  | [], _ => List.nodup_nil
  | x :: r, h => by
    rw [nodupB, Bool.and_eq_true, Bool.not_eq_true'] at h
    refine List.nodup_cons.mpr ⟨fun m => ?_, nodupB_ok h.2⟩
    rw [inB_iff.mpr m] at h
    cases h.1
def sameSs : List Str → List Str → Bool
  | [], [] => true
  | a :: as, b :: bs => sEq a b && sameSs as bs
  | _, _ => false
theorem sameSs_ok : ∀ {a b : List Str}, sameSs a b = true → a = b
  | [], [], _ => rfl
  | [], _ :: _, h => by cases h
  | _ :: _, [], h => by cases h
  | a :: as, b :: bs, h => by
    rw [sameSs, Bool.and_eq_true] at h
    rw [sEq_iff.mp h.1, sameSs_ok h.2]
def scopeB (N P : List Str) (sc : Scope) : Bool := kindFB sc && (!sc.isCoroutine && (!sc.isGenerator && (nodupB N && (sameSs (N.take P.length) P && ((P.all fun x => locB sc x) && sc.names.all fun y => !kEq y.2 .free)))))
theorem scopeB_ok {N P : List Str} {sc : Scope} (h : scopeB N P sc = true) : FnScope N P sc := by
  unfold scopeB at h
  obtain ⟨h1, h⟩ := and2 h
  obtain ⟨h2, h⟩ := and2 h
  obtain ⟨h3, h⟩ := and2 h
  obtain ⟨h4, h⟩ := and2 h
  obtain ⟨h5, h⟩ := and2 h
  obtain ⟨h6, h7⟩ := and2 h
  refine ⟨?_, not1 h2, not1 h3, nodupB_ok h4, sameSs_ok h5, fun x m => ?_, fun y m e => ?_⟩
  · unfold kindFB at h1
    split at h1
    · assumption
    · cases h1
  · have := locB_ok (List.all_eq_true.mp h6 x m)
    exact this
  · have := List.all_eq_true.mp h7 y m
    rw [e] at this
    cases this
def tabG (rows : List Row) (gls : List (Str × D)) (free : List Str) (tbs : List (Str × List (Str × D))) (excs : List Str) (exis : Xt) : List Def → List Fn → Bool
  | _, [] => true
  | [], _ :: _ => false
  | d :: ds, f :: fs => scopeB f.N f.ps f.scope && (Nat.beq d.names f.N.length && (Nat.beq d.pars f.ps.length && (ckSs ⟨f.N, f.scope, none, rows, gls, free, d.fr, tbs, excs, exis⟩ d.body f.body && tabG rows gls free tbs excs exis ds fs)))
theorem tabG_ok {rows : List Row} {gls : List (Str × D)} {free : List Str} {tbs : List (Str × List (Str × D))} {excs : List Str} {exis : Xt} : ∀ {P : List Def} {T : List Fn}, tabG rows gls free tbs excs exis P T = true → ∀ (f : Nat) (fn : Fn), T[f]? = some fn → ∃ d : Def, P[f]? = some d ∧ FnScope fn.N fn.ps fn.scope ∧ d.names = fn.N.length ∧ d.pars = fn.ps.length ∧ ckSs ⟨fn.N, fn.scope, none, rows, gls, free, d.fr, tbs, excs, exis⟩ d.body fn.body = true
  | _, [], _ => fun f fn h => by simp at h
  | [], _ :: _, h => by cases h
  | d :: ds, g :: gs, h => by
    unfold tabG at h
    obtain ⟨h1, h⟩ := and2 h
    obtain ⟨h2, h⟩ := and2 h
    obtain ⟨h3, h⟩ := and2 h
    obtain ⟨h4, h5⟩ := and2 h
    rw [Nat.beq_eq] at h2 h3
    intro f fn hf
    cases f with
    | zero =>
      have : g = fn := by simpa using hf
      subst this
      exact ⟨d, rfl, scopeB_ok h1, h2, h3, h4⟩
    | succ f => exact tabG_ok h5 f fn (by simpa using hf)
def rowsB (P : List Def) : List Row → Bool
  | [] => true
  | r :: rs => (match P[r.f]? with
    | some d => d.fr == r.fr
    | none => false) && rowsB P rs
theorem rowsB_ok {P : List Def} : ∀ {rows : List Row}, rowsB P rows = true → ∀ r ∈ rows, ∃ d : Def, P[r.f]? = some d ∧ d.fr = r.fr
  | [], _, _, m => by simp at m
  | q :: rs, h, r, m => by
    obtain ⟨h1, h2⟩ := and2 h
    rcases List.mem_cons.mp m with rfl | m
    · split at h1
      · rename_i d e
        exact ⟨d, e, by simpa using h1⟩
      · cases h1
    · exact rowsB_ok h2 r m
def freshF (P : List Def) (f : Nat) : Bool := match P[f]? with
  | some d => !d.fr
  | none => false
theorem freshF_ok {P : List Def} {f : Nat} (h : freshF P f = true) : ∃ d : Def, P[f]? = some d ∧ d.fr = false := by
  unfold freshF at h
  split at h
  · rename_i d e
    exact ⟨d, e, by simpa using h⟩
  · cases h
def tabB (rows : List Row) (gls : List (Str × D)) (free : List Str) (tbs : List (Str × List (Str × D))) (excs : List Str) (exis : Xt) (P : List Def) (T : List Fn) : Bool := rowsB P rows && (tabG rows gls free tbs excs exis P T && ((exis.kw.all fun r => freshF P r.f) && exis.cm.all fun r => freshF P r.f))
theorem tabB_ok {rows : List Row} {gls : List (Str × D)} {free : List Str} {tbs : List (Str × List (Str × D))} {excs : List Str} {exis : Xt} {P : List Def} {T : List Fn} (h : tabB rows gls free tbs excs exis P T = true) : Tab P T rows gls free tbs excs exis := ⟨tabG_ok (and2 (and2 h).2).1, rowsB_ok (and2 h).1, fun r m => freshF_ok (List.all_eq_true.mp (and2 (and2 (and2 h).2).2).1 r m), fun r m => freshF_ok (List.all_eq_true.mp (and2 (and2 (and2 h).2).2).2 r m)⟩
def fnOf (d : He.DefD) (q : List Str × List Str) : Fn := ⟨d.name, d.qual, d.params, d.body, d.scope, q.1, q.2⟩
def tabOf (fn : List He.DefD) (q : List (List Str × List Str)) : List Fn := (fn.zip q).map fun p => fnOf p.1 p.2
/-- one row, as the facts tell it -/
def RowOk (T : List Fn) (K : PySem.W.Frag) (mg : Str → Option Value) (r : Row) : Prop := ∃ (fn : Fn) (fa : Addr) (fd : FuncData) (kvs : List V) (kws : List (Str × V)), T[r.f]? = some fn ∧ r.nm = fn.nm ∧ FunD K fn.nm fn.qual fn.params fn.body fn.scope kvs kws fa fd ∧ mg fn.nm = some (.ref fa) ∧
  ∃ (ds : List Value) (dvs : List V), Binds K fd fn.ps ds ∧ Vals dvs ds ∧ ∀ N H, DVs K N H r.dps dvs
def KwOk (T : List Fn) (K : PySem.W.Frag) (mg : Str → Option Value) (r : KRow) : Prop := ∃ (fn : Fn) (fa : Addr) (fd : FuncData) (kvs : List V) (kws : List (Str × V)) (g : List Value → List Value → List Value), T[r.f]? = some fn ∧ r.nm = fn.nm ∧ FunD K fn.nm fn.qual fn.params fn.body fn.scope kvs kws fa fd ∧ mg fn.nm = some (.ref fa) ∧ KBn K fd fn.ps 1 [r.kw] g (fun vs zs => vs ++ zs)
def CmOk (T : List Fn) (K : PySem.W.Frag) (mg : Str → Option Value) (r : MRow) : Prop := ∃ (fn : Fn) (Ca fI : Addr) (fd : FuncData) (kvs : List V) (kws : List (Str × V)), T[r.f]? = some fn ∧ FunD K fn.nm fn.qual fn.params fn.body fn.scope kvs kws fI fd ∧ mg r.nm = some (.ref Ca) ∧ Mk K Ca fI ∧ Binds K fd fn.ps []
/-- f(x, k = y): no defaults -/
theorem kbn {K : PySem.W.Frag} {x qual : Str} {params : Arguments} {body : List Stmt} {scope : Scope} {kws : List (Str × V)} {f : Addr} {fd : FuncData} {ps : List Str} {k : Str} (F : FunD K x qual params body scope [] kws f fd)
    (h : ∀ (kV doc pm : Value) (an : Option Addr) (cdv ct u w : Value), bindArgs (PySem.W.fnOf x qual params body scope .none kV doc pm an cdv ct) ⟨[u], [(k, w)]⟩ = pure (ps.zip [u, w])) : KBn K fd ps 1 [k] (fun us ws => us ++ ws) (fun vs zs => vs ++ zs) := by
  obtain ⟨oc, od, dV, kV, doc, pm, an, cdv, ct, osl, rfl, lk, hcd, hD, hK⟩ := F.ex
  rcases hD with ⟨_, rfl⟩ | ⟨e, _⟩
  · refine ⟨fun s us ws X l1 l2 => ?_, fun r1 r2 => r1.append r2⟩
    match us, ws, l1, l2 with
    | [u], [w], _, _ => exact .of_eq (h kV doc pm an cdv ct u w)
  · exact absurd rfl e
theorem init_call (env : PySem.Env) {yp gp s1p mp cp : Pos} {jj : Nat} {mm s2 y : Str} (hline : (gp.endLine == cp.line) = true) : eval (.Call (.Attribute (.Name y yp) "__init__" gp) [.Name s2 s1p, .Constant (.str mm) jj mp] [] cp) env = (do
      let ov ← eval (.Name y yp) env
      standAt gp.atName
      let (f, first) ← holding [ov] (getMethod ov "__init__" (do return (← importBound (.Name y yp) env).getD true))
      callWith cp f first (backTo cp (starEach [.Name s2 s1p, .Constant (.str mm) jj mp] env)) (backToKw cp (keywordEach [] env))) := by
  have h : eval (.Call (.Attribute (.Name y yp) "__init__" gp) [.Name s2 s1p, .Constant (.str mm) jj mp] [] cp) env = (do
      let ov ← eval (.Name y yp) env
      standAt gp.atName
      methodCall (.Name y yp) "__init__" gp cp env ov 2 (backTo cp (starEach [.Name s2 s1p, .Constant (.str mm) jj mp] env)) (backToKw cp (keywordEach [] env))) := rfl
  have h2 : ∀ ov, methodCall (.Name y yp) "__init__" gp cp env ov 2 (backTo cp (starEach [.Name s2 s1p, .Constant (.str mm) jj mp] env)) (backToKw cp (keywordEach [] env)) = (do
      let (f, first) ← holding [ov] (getMethod ov "__init__" (do return (← importBound (.Name y yp) env).getD true))
      callWith cp f first (backTo cp (starEach [.Name s2 s1p, .Constant (.str mm) jj mp] env)) (backToKw cp (keywordEach [] env))) := fun ov => by
    have h3 : methodCallPos true (.Name y yp) env gp cp = pure cp := by
      unfold methodCallPos
      rw [hline]
      rfl
    show (do
      let (f, first) ← holding [ov] (calleeOf true (.Name y yp) env ov "__init__")
      let callPos ← methodCallPos true (.Name y yp) env gp cp
      callWith callPos f first (backTo cp (starEach [.Name s2 s1p, .Constant (.str mm) jj mp] env)) (backToKw cp (keywordEach [] env))) = _
    rw [h3]
    rfl
  rw [h]
  simp only [h2]
/-- the text of an __init__ that keeps one field -/
def xinB (N : List Str) (scope : Scope) (Pn f : Str) (body : List Stmt) : Bool := match N, body with
  | [n1, n2], [.Expr (.Call (.Attribute (.Name y _) g gp) [.Name s1 _, .Constant (.str _) _ _] kws cp) _, .Assign ts (.Name x _) _] => match kws, ts with
    | [], [.Attribute (.Name s2 _) h _] => gp.endLine == cp.line && sEq g "__init__" && sEq y Pn && sEq h f && glbB scope Pn && plainB Pn && sEq s1 n1 && sEq s2 n1 && sEq x n2 && visB scope n1 && plainB n1 && visB scope n2 && plainB n2
    | _, _ => false
  | _, _ => false
theorem xinit_ok {prog : Program} {w : World} {K : PySem.W.Frag} {mg : Str → Option Value} {base : Heap} {nm qual : Str} {params : Arguments} {body : List Stmt} {scope : Scope} {fI T : Addr} {fd : FuncData} {n1 n2 Pn f : Str} (F : FunD K nm qual params body scope [] [] fI fd)
    (hs : scopeB [n1, n2] [n1, n2] scope = true) (hx : xinB [n1, n2] scope Pn f body = true) (hm : mg Pn = some (.ref T)) (rd : PySem.W.readsIn K T (.type "type") = true) (sg : PySem.W.specialIn K (.ref T) "__getattribute__" = some (some (.builtin "type.__getattribute__")))
    (fc : PySem.W.findCls K (.ref T) (.type "type") "__init__" = some (.val (.builtin "ValueError.__init__"))) : FnOk prog w K mg base (L2.CX prog w) 2 fI fd [n1, n2] (spXI K f) := by
  unfold xinB at hx
  split at hx
  · rename_i N0 body0 m1 m2 y yp g gp s1 s1p mm jj mp kws cp ep ts x xp ap eN
    split at hx
    · rename_i k0 ts0 s2 s2p h hp
      cases eN
      obtain ⟨hx, k12⟩ := and2 hx
      obtain ⟨hx, k11⟩ := and2 hx
      obtain ⟨hx, k10⟩ := and2 hx
      obtain ⟨hx, k9⟩ := and2 hx
      obtain ⟨hx, k8⟩ := and2 hx
      obtain ⟨hx, k7⟩ := and2 hx
      obtain ⟨hx, k6⟩ := and2 hx
      obtain ⟨hx, k5⟩ := and2 hx
      obtain ⟨hx, k4⟩ := and2 hx
      obtain ⟨hx, k3⟩ := and2 hx
      obtain ⟨hx, k2⟩ := and2 hx
      obtain ⟨k0', k1⟩ := and2 hx
      have e1 := sEq_iff.mp k1
      have e2 := sEq_iff.mp k2
      have e3 := sEq_iff.mp k3
      have e6 := sEq_iff.mp k6
      have e7 := sEq_iff.mp k7
      have e8 := sEq_iff.mp k8
      subst e1 e2 e3 e6 e7 e8
      refine F.ok (scopeB_ok hs) (fun vs H Q E ⟨a, C, v, e, _⟩ => by rw [e]; rfl) fun cdv A outer s H vs Q E hr ⟨a, C, v, e, ox, hno, ha, k⟩ => ?_
      subst e
      have p1 := plainB_ok k10
      have p2 := plainB_ok k12
      refine ⟨_, pss_cons (ps_expr (pe_teinit (glbB_ok k4) hm (plainB_ok k5).1 rd sg fc (pa_cons (pe_var (i := 0) rfl (visB_ok k9) p1.1 p1.2.1) (pa_cons pe_str pa_nil rfl) rfl) (init_call _ k0'))) (pss_cons (ps_ost (pe_var (i := 0) rfl (visB_ok k9) p1.1 p1.2.1) (pe_var (i := 1) rfl (visB_ok k11) p2.1 p2.2.1)) pss_nil), ?_⟩
      exact ⟨_, rfl, a, C, _, rfl, by simp, ox, ha, v, rfl, _, rfl, a, C, rfl, ox, hno, .inl ⟨ha, fun dx nd ne => k dx nd ne⟩⟩
    · cases hx
  · cases hx
/-- what the facts must tell of an own exception class with one field -/
def XfE (w : World) (K : PySem.W.Frag) (mg : Str → Option Value) (r : XRow) : Prop := ∃ (Ca fI : Addr) (fd : FuncData) (ps : List Str), mg r.c = some (.ref Ca) ∧ OexC K Ca ∧ PySem.W.findIn K (.ref Ca) "__init__" = some (some (.ref fI)) ∧ PySem.W.typeIn K (.ref fI) = some (.type "function") ∧
    PySem.W.findIn K (.ref Ca) r.f = some none ∧ (∀ prog base, FnOk prog w K mg base (L2.CX prog w) 2 fI fd ps (spXI K r.f)) ∧ Binds K fd ps [] ∧ PySem.W.exmOne K (.ref Ca) (.ref Ca) = some true ∧ ExcC K Ca ∧ XfC K Ca
theorem rows_nil {α : Type} {p : α → Prop} : ∀ r ∈ ([] : List α), p r := fun _ m => by simp at m
theorem rows_cons {α : Type} {p : α → Prop} {a : α} {l : List α} (h : p a) (t : ∀ r ∈ l, p r) : ∀ r ∈ a :: l, p r := fun r m => by
  rcases List.mem_cons.mp m with rfl | m
  · exact h
  · exact t r m
theorem frees_ok {fa : List He.Fa} {K : PySem.W.Frag} {h : Heap} {mg : Str → Option Value} (X : K.In h) (G : h.Ns mainGlobals mg) {free : List Str} (c : ∀ x ∈ free, (He.Fa.free x).ok K = true) : ∀ x ∈ free, mg x = none := fun x m => He.free_ok X G (c x m)
end IP
namespace IP
open PySem
/-! ### steps of the reader, for plain laws -/
section
variable {α β γ : Type} {C : CallF} {env : Env} {st st1 : Store} {s : S} {r : SL} {a b : SL} {e t : E}
theorem bind_ok (a : α) (st : Store) (f : α → Store → R β) : (R.ok a st).bind f = f a st := rfl
theorem of_some (a : α) (st : Store) : R.of (some a) st = .ok a st := rfl
theorem toS_ok (a : α) (st : Store) (env : Env) (f : α → Store → RS) : (R.ok a st).toS env f = f a st := rfl
theorem quiet_ok (a : α) (st : Store) : (R.ok a st).quiet = .ok a st := rfl
theorem endS_ret (p : D) (st : Store) (n : Nat) : endS n (.ret p st) = .ok p (st.take n) := rfl
theorem endS_nx (env : Env) (st : Store) (n : Nat) : endS n (.nx env st) = .ok .none (st.take n) := rfl
theorem get_0 (s : Slot) (l : List Slot) : Env.get (s :: l) 0 = s := rfl
theorem get_s (s : Slot) (l : List Slot) (n : Nat) : Env.get (s :: l) (n + 1) = Env.get l n := rfl
def RS.seq (x : RS) (f : Env → Store → RS) : RS := match x with
  | .nx env st => f env st
  | .ret p st => .ret p st
  | .exc x e st => .exc x e st
  | .stuck => .stuck
theorem exs_cons : exs C (.cons s r) env st = (ex C s env st).seq (exs C r) := by
  rw [exs]
  unfold RS.seq
  rfl
theorem seq_nx (env : Env) (st : Store) (f : Env → Store → RS) : (RS.nx env st).seq f = f env st := rfl
theorem seq_ret (p : D) (st : Store) (f : Env → Store → RS) : (RS.ret p st).seq f = .ret p st := rfl
theorem exs_nil : exs C .nil env st = .nx env st := by rw [exs]
def ift (b : Bool) (x y : γ) : γ := match b with
  | true => x
  | false => y
theorem ift_t (x y : γ) : ift true x y = x := rfl
theorem ift_f (x y : γ) : ift false x y = y := rfl
theorem ift_or (b x : Bool) (st : Store) : ift b (R.ok (PyData.bool b) st) (R.ok (PyData.bool x) st) = .ok (.bool (b || x)) st := by cases b <;> rfl
theorem ift_and (b x : Bool) (st : Store) : ift b (R.ok (PyData.bool x) st) (R.ok (PyData.bool b) st) = .ok (.bool (b && x)) st := by cases b <;> rfl
theorem ifs_t (x : γ) : ifs true x = some x := rfl
theorem ex_ife : ex C (.ife t a b) env st = (ev C t env st).toS env fun k st1 => ift (truthD k) (exs C a env st1) (exs C b env st1) := by
  rw [ex]
  congr 1
theorem ex_app {i : Nat} {xs : List D} (h : env.get i = .own (.list xs)) : ex C (.app i e) env st = (ev C e env st).toS env fun x st1 => ift (decide (xs.length < LINE)) (.nx (env.set i (.own (.list (xs ++ [x])))) st1) .stuck := by
  rw [ex, h]
  congr 1
theorem ex_for {tg : Tg} {it : It} : ex C (.for_ tg it a) env st = (evi C it env st).toS env fun xs st1 => loopS (fun e s => exs C a e s) tg xs env st1 := by rw [ex]
theorem ev_ife {x y : E} : ev C (.ife t x y) env st = (ev C t env st).bind fun k st1 => ift (truthD k) (ev C x env st1) (ev C y env st1) := by
  rw [ev]
  congr 1
theorem and_1 {x : E} : evAnd C (.cons x .nil) env st = ev C x env st := by rw [evAnd]
theorem and_2 {x y : E} {r : EL} : evAnd C (.cons x (.cons y r)) env st = (ev C x env st).bind fun v st1 => ift (truthD v) (evAnd C (.cons y r) env st1) (.ok v st1) := by
  rw [evAnd]
  · congr 1
  · exact fun z => by cases z
theorem or_1 {x : E} : evOr C (.cons x .nil) env st = ev C x env st := by rw [evOr]
theorem or_2 {x y : E} {r : EL} : evOr C (.cons x (.cons y r)) env st = (ev C x env st).bind fun v st1 => ift (truthD v) (.ok v st1) (evOr C (.cons y r) env st1) := by
  rw [evOr]
  · congr 1
  · exact fun z => by cases z
theorem evc_0 : evc C .nil env st = .ok true st := by rw [evc]
theorem evc_1 {x : E} : evc C (.cons x .nil) env st = (ev C x env st).bind fun v st1 => .ok (truthD v) st1 := by rw [evc]
theorem ev_lc {own : List Nat} {tg : Tg} {it : It} {cond : EL} {x : E} (h : ownFree env own = true) : ev C (.lc own tg it cond x) env st =
    (evi C it env st).bind fun xs st1 => (loopE (fun e s => evc C cond e s) (fun e s => ev C x e s) tg (wipeE env own) xs [] st1).bind fun ys st2 => .ok (.list ys) st2 := by
  rw [ev]
  congr 1
  funext xs st1
  rw [h]
theorem ev_cidx {i k : Nat} {xs : List D} (h : env.get i = .rf k) : ev C (.cidx i e) env st = (ev C e env st).bind fun y st1 => match st1[k]? with
    | some (.ml xs) => R.of (idxD (.list xs) y) st1
    | _ => .stuck := by
  rw [ev, h] <;> rfl
theorem at_nat {α : Type} {xs : List α} {i : Nat} (h : i < xs.length) : L2.atI xs (i : Int) = xs[i]? := by
  unfold L2.atI
  have : L2.ixN xs.length (i : Int) = some i := by
    unfold L2.ixN
    simp
    omega
  rw [this]
  rfl
theorem idx_list' (xs : List D) (i : Int) : idxD (.list xs) (.int i) = L2.atI xs i := rfl
theorem idx_tup' (xs : List D) (i : Int) : idxD (.tuple xs) (.int i) = L2.atI xs i := rfl
theorem at_0 {α : Type} (a : α) (l : List α) : L2.atI (a :: l) 0 = some a := by
  have := at_nat (xs := a :: l) (i := 0) (by simp)
  exact this
theorem at_1 {α : Type} (a b : α) (l : List α) : L2.atI (a :: b :: l) 1 = some b := by
  have := at_nat (xs := a :: b :: l) (i := 1) (by simp)
  exact this
theorem at_2 {α : Type} (a b c : α) (l : List α) : L2.atI (a :: b :: c :: l) 2 = some c := by
  have := at_nat (xs := a :: b :: c :: l) (i := 2) (by simp)
  exact this
theorem at_3 {α : Type} (a b c d : α) (l : List α) : L2.atI (a :: b :: c :: d :: l) 3 = some d := by
  have := at_nat (xs := a :: b :: c :: d :: l) (i := 3) (by simp)
  exact this
theorem ix_2_1 : L2.ixN 2 1 = some 1 := rfl
theorem ix_2_0 : L2.ixN 2 0 = some 0 := rfl
theorem tr_bool (b : Bool) : truthD (PyData.bool b) = b := rfl
theorem eq_str (a b : Str) : op2 .eq (.str a) (.str b) = some (.bool (sEq a b)) := by
  have e : PyData.eqv (.str a) (.str b) = sEq a b := by
    rw [PyData.eqv]
    exact beq_sEq a b
  show ifs (eqOk (.str a) (.str b)) (PyData.bool (PyData.eqv (.str a) (.str b))) = _
  rw [e]
  rfl
theorem eq_int (a b : Int) : op2 .eq (.int a) (.int b) = some (.bool (decide (a = b))) := by
  have e : PyData.eqv (.int a) (.int b) = decide (a = b) := by
    rw [PyData.eqv]
    by_cases h : a = b <;> simp [h]
  show ifs (eqOk (.int a) (.int b)) (PyData.bool (PyData.eqv (.int a) (.int b))) = _
  rw [e]
  rfl
theorem lt_int' (a b : Int) : op2 .lt (.int a) (.int b) = some (.bool (decide (a < b))) := rfl
theorem le_int' (a b : Int) : op2 .le (.int a) (.int b) = some (.bool (decide (a ≤ b))) := rfl
theorem gt_int' (a b : Int) : op2 .gt (.int a) (.int b) = some (.bool (decide (b < a))) := rfl
theorem add_int' (a b : Int) : op2 .add (.int a) (.int b) = some (.int (a + b)) := rfl
theorem sub_int' (a b : Int) : op2 .sub (.int a) (.int b) = some (.int (a - b)) := rfl
theorem mod_int' {a b : Int} (h : 0 < b) : op2 .mod (.int a) (.int b) = some (.int (a % b)) := by
  show ifs (decide (0 < b)) (PyData.int (a % b)) = _
  rw [decide_eq_true h]
  rfl
theorem fdiv_int' {a b : Int} (h : 0 < b ∧ b < 1073741824) : op2 .fdiv (.int a) (.int b) = some (.int (a / b)) := by
  show ifs (decide (0 < b ∧ b < 1073741824)) (PyData.int (a / b)) = _
  rw [decide_eq_true h]
  rfl
theorem mul_int' {a b : Int} (h : -(2 ^ 64) < b ∧ b < 2 ^ 64) : op2 .mul (.int a) (.int b) = some (.int (a * b)) := by
  show ifs (decide ((-(2 ^ 64) < a ∧ a < 2 ^ 64) ∨ (-(2 ^ 64) < b ∧ b < 2 ^ 64))) (PyData.int (a * b)) = _
  rw [decide_eq_true (.inr h)]
  rfl
theorem mul_intl {a b : Int} (h : -(2 ^ 64) < a ∧ a < 2 ^ 64) : op2 .mul (.int a) (.int b) = some (.int (a * b)) := by
  show ifs (decide ((-(2 ^ 64) < a ∧ a < 2 ^ 64) ∨ (-(2 ^ 64) < b ∧ b < 2 ^ 64))) (PyData.int (a * b)) = _
  rw [decide_eq_true (.inl h)]
  rfl
theorem add_list (a b : List D) : op2 .add (.list a) (.list b) = ifs (decide (a.length + b.length ≤ LINE)) (.list (a ++ b)) := rfl
end
/-- a loop that goes through -/
theorem loop_inv {body : Env → Store → RS} {tg : Tg} (I : List D → Env → Store → Prop) (hs : ∀ x xs env st, I (x :: xs) env st → ∃ env1 env2 st2, bindT tg x env = some env1 ∧ body env1 st = .nx env2 st2 ∧ I xs env2 st2) :
    ∀ (xs : List D) (env : Env) (st : Store), I xs env st → ∃ env' st', loopS body tg xs env st = .nx env' st' ∧ I [] env' st'
  | [], env, st, h => ⟨env, st, by rw [loopS], h⟩
  | x :: xs, env, st, h => by
    obtain ⟨env1, env2, st2, e1, e2, h2⟩ := hs x xs env st h
    obtain ⟨env', st', e3, h3⟩ := loop_inv I hs xs env2 st2 h2
    refine ⟨env', st', ?_, h3⟩
    rw [loopS, e1]
    show (match body env1 st with
      | .nx env2 st2 => loopS body tg xs env2 st2
      | .ret p st2 => .ret p st2
      | .exc x e st2 => .exc x e st2
      | .stuck => .stuck) = _
    rw [e2]
    exact e3
end IP

namespace IP
open PySem
/-! ### readings of lists -/
theorem loopE_filter {t : IP.Env → Store → R Bool} {e : IP.Env → Store → R D} {tg : Tg} {env : IP.Env} {st : Store} {p : D → Bool} {f : D → D} : ∀ (xs acc : List D), (∀ x ∈ xs, ∃ env', bindT tg x env = some env' ∧ t env' st = .ok (p x) st ∧ (p x = true → e env' st = .ok (f x) st)) → acc.length + xs.length ≤ LINE →
    loopE t e tg env xs acc st = .ok (acc ++ (xs.filter p).map f) st
  | [], acc, _, _ => by rw [loopE]; simp
  | x :: xs, acc, h, hl => by
    obtain ⟨env', e1, e2, e3⟩ := h x List.mem_cons_self
    have hr : ∀ y ∈ xs, ∃ env', bindT tg y env = some env' ∧ t env' st = .ok (p y) st ∧ (p y = true → e env' st = .ok (f y) st) := fun y m => h y (List.mem_cons_of_mem _ m)
    rw [loopE, e1]
    show ((t env' st).quiet.bind fun b st1 => match b with
      | true => (e env' st1).quiet.bind fun y st2 => match decide (acc.length < LINE) with
        | true => loopE t e tg env xs (acc ++ [y]) st2
        | false => .stuck
      | false => loopE t e tg env xs acc st1) = _
    rw [e2]
    simp only [List.length_cons] at hl
    cases hp : p x with
    | false =>
      show loopE t e tg env xs acc st = _
      rw [loopE_filter xs acc hr (by omega)]
      simp [hp]
    | true =>
      show ((e env' st).quiet.bind fun y st2 => match decide (acc.length < LINE) with
        | true => loopE t e tg env xs (acc ++ [y]) st2
        | false => .stuck) = _
      rw [e3 hp]
      show (match decide (acc.length < LINE) with
        | true => loopE t e tg env xs (acc ++ [f x]) st
        | false => .stuck) = _
      rw [decide_eq_true (show acc.length < LINE by omega)]
      show loopE t e tg env xs (acc ++ [f x]) st = _
      rw [loopE_filter xs (acc ++ [f x]) hr (by simp; omega)]
      simp [hp]
theorem sIx_nat {n k d : Nat} (h : k ≤ n) : HT.sIx n d (some (k : Int)) = k := by
  rw [HT.sIx_nat]
  omega
theorem row_at {l : List Int} {k : Nat} (h : k < l.length) : L2.atI (l.map PyData.int) (k : Int) = some (.int (l.getD k 0)) := by
  rw [at_nat (by simpa using h), List.getElem?_map, List.getElem?_eq_getElem h, List.getD_eq_getElem?_getD, List.getElem?_eq_getElem h]
  rfl
def rowD (p : Str × Str) : D := .tuple [.str p.1, .str p.2]
def base6 : List (Str × Str) := [("ann", "name"), ("man", "noun"), ("friend", "of"), ("sleeps", "does"), ("owns", "to"), ("tall", "such")]
def more6 : List (Str × Str) := [("bob", "name"), ("ass", "noun"), ("king", "noun"), ("runs", "does"), ("beats", "to"), ("wise", "such")]
/-- a drawn book: the six, some of the six more, turned round -/
structure Book (B : List (Str × Str)) : Prop where
  ex : ∃ sub, sub.Sublist more6 ∧ B.Perm (base6 ++ sub)
theorem cut_from {xs : List D} {k : Nat} (h : k ≤ xs.length) : cutD xs (some (k : Int)) none = xs.drop k := by
  unfold cutD
  rw [sIx_nat h]
  show (xs.drop k).take (xs.length - k) = _
  rw [List.take_of_length_le]
  simp
theorem cut_to {xs : List D} {k : Nat} (h : k ≤ xs.length) : cutD xs none (some (k : Int)) = xs.take k := by
  unfold cutD
  rw [sIx_nat h]
  show (xs.drop 0).take (k - 0) = _
  simp
end IP

namespace IP
open PySem
theorem loopE_n {t : IP.Env → Store → R Bool} {e : IP.Env → Store → R D} {i : Nat} {env : IP.Env} {x : D} {xs acc : List D} {st : Store} : loopE t e (.n i) env (x :: xs) acc st = (t (env.set i (.val x)) st).quiet.bind fun b st1 =>
    ift b ((e (env.set i (.val x)) st1).quiet.bind fun y st2 => ift (decide (acc.length < LINE)) (loopE t e (.n i) env xs (acc ++ [y]) st2) .stuck) (loopE t e (.n i) env xs acc st1) := by
  rw [loopE]
  rfl
theorem loopE_nil {t : IP.Env → Store → R Bool} {e : IP.Env → Store → R D} {tg : Tg} {env : IP.Env} {acc : List D} {st : Store} : loopE t e tg env [] acc st = .ok acc st := by rw [loopE]
theorem sumD_ints' : ∀ zs : List Int, sumD (zs.map PyData.int) = some zs.sum
  | [] => rfl
  | z :: zs => by
    rw [List.map_cons, sumD, sumD_ints' zs, List.sum_cons]
/-- parts, those that are tuples with a number each -/
inductive Parts (f : D → Option Int) : List D → List Int → Prop
  | nil : Parts f [] []
  | skip {w : Str} {ps : List D} {zs : List Int} : Parts f ps zs → Parts f (.str w :: ps) zs
  | take {ds : List D} {z : Int} {ps : List D} {zs : List Int} : f (.tuple ds) = some z → Parts f ps zs → Parts f (.tuple ds :: ps) (z :: zs)
theorem isi_tup (ds : List D) : isiD (.tuple ds) .tuple = true := rfl
theorem isi_str_tup (s : Str) : isiD (.str s) .tuple = false := rfl
theorem isi_str (s : Str) : isiD (.str s) .str = true := rfl
theorem parts_loop {C : CallF} {i : Nat} {st : Store} {f : D → Option Int} (hf : ∀ d z, f d = some z → C i [.val d] st = .ok (.int z) st) {s : IP.Slot} : ∀ {ps : List D} {zs : List Int} (acc : List D), Parts f ps zs → acc.length + ps.length ≤ LINE →
    loopE (fun e s => evc C (.cons (.isi (.v 1) .tuple) .nil) e s) (fun e s => ev C (.call i (.e (.v 1) .nil) []) e s) (.n 1) [s, .un] ps acc st = .ok (acc ++ zs.map PyData.int) st
  | _, _, acc, .nil, _ => by rw [loopE_nil]; simp
  | _, _, acc, .skip (w := w) (ps := ps) (zs := zs) h, hl => by
    simp only [List.length_cons] at hl
    have t1 : evc C (.cons (.isi (.v 1) .tuple) .nil) ([s, .un].set 1 (.val (.str w))) st = .ok false st := by
      simp only [exs_cons, exs_nil, ex_ife, seq_nx, seq_ret, endS_ret, endS_nx, ift_t, ift_f, ift_or, ift_and, ifs_t, ev_ife, and_1, and_2, or_1, or_2, evc_0, evc_1, idx_list', idx_tup', at_0, at_1, at_2, at_3, ix_2_0, ix_2_1, tr_bool, eq_str, eq_int, lt_int', le_int', gt_int', add_int', sub_int', ex, ev, evs, eva, bind_ok, of_some, toS_ok, quiet_ok, get_0, get_s, List.set_cons_zero, List.set_cons_succ, LINE, List.length_cons, List.length_nil, Nat.reduceAdd, Nat.reduceLeDiff, decide_true, List.append_nil, List.map_nil, List.cons_append, List.nil_append, isi_str_tup]
    rw [loopE_n]
    rw [t1]
    exact parts_loop hf acc h (by omega)
  | _, _, acc, .take (ds := ds) (z := z) (ps := ps) (zs := zs) e h, hl => by
    simp only [List.length_cons] at hl
    have ha : decide (acc.length < 16777216) = true := decide_eq_true (by have : acc.length < LINE := by omega
                                                                          exact this)
    have t1 : evc C (.cons (.isi (.v 1) .tuple) .nil) ([s, .un].set 1 (.val (.tuple ds))) st = .ok true st := by
      simp only [exs_cons, exs_nil, ex_ife, seq_nx, seq_ret, endS_ret, endS_nx, ift_t, ift_f, ift_or, ift_and, ifs_t, ev_ife, and_1, and_2, or_1, or_2, evc_0, evc_1, idx_list', idx_tup', at_0, at_1, at_2, at_3, ix_2_0, ix_2_1, tr_bool, eq_str, eq_int, lt_int', le_int', gt_int', add_int', sub_int', ex, ev, evs, eva, bind_ok, of_some, toS_ok, quiet_ok, get_0, get_s, List.set_cons_zero, List.set_cons_succ, LINE, List.length_cons, List.length_nil, Nat.reduceAdd, Nat.reduceLeDiff, decide_true, List.append_nil, List.map_nil, List.cons_append, List.nil_append, isi_tup]
    have t2 : ev C (.call i (.e (.v 1) .nil) []) ([s, .un].set 1 (.val (.tuple ds))) st = .ok (.int z) st := by
      simp only [exs_cons, exs_nil, ex_ife, seq_nx, seq_ret, endS_ret, endS_nx, ift_t, ift_f, ift_or, ift_and, ifs_t, ev_ife, and_1, and_2, or_1, or_2, evc_0, evc_1, idx_list', idx_tup', at_0, at_1, at_2, at_3, ix_2_0, ix_2_1, tr_bool, eq_str, eq_int, lt_int', le_int', gt_int', add_int', sub_int', ex, ev, evs, eva, bind_ok, of_some, toS_ok, quiet_ok, get_0, get_s, List.set_cons_zero, List.set_cons_succ, LINE, List.length_cons, List.length_nil, Nat.reduceAdd, Nat.reduceLeDiff, decide_true, List.append_nil, List.map_nil, List.cons_append, List.nil_append, hf _ _ e]
    rw [loopE_n]
    rw [t1]
    show ((ev C (.call i (.e (.v 1) .nil) []) ([s, .un].set 1 (.val (.tuple ds))) st).quiet.bind fun y st2 => ift (decide (acc.length < LINE)) (loopE _ _ _ _ ps (acc ++ [y]) st2) .stuck) = _
    rw [t2]
    show ift (decide (acc.length < 16777216)) (loopE _ _ _ _ ps (acc ++ [.int z]) st) .stuck = _
    rw [ha, ift_t, parts_loop (s := s) hf (acc ++ [PyData.int z]) h (by simp; omega)]
    simp
end IP


namespace L08
open PySem PySem.W PySem.Spec PyProof.Rows L2
-- BAD thing_text call str
-- BAD written call str
-- BAD pushed_of name DENIED
abbrev i_is_within : Nat := 0
abbrev i_is_word : Nat := 1
abbrev i_is_book : Nat := 2
abbrev i_look : Nat := 3
abbrev i_places_of : Nat := 4
abbrev i_is_thing : Nat := 5
abbrev i_is_fact : Nat := 6
abbrev i_is_formed : Nat := 7
abbrev i_thing_text : Nat := 8
abbrev i_written : Nat := 9
abbrev i_brought : Nat := 10
abbrev i_is_formula_of : Nat := 11
abbrev i_is_formula : Nat := 12
abbrev i_look_formula : Nat := 13
abbrev i_things_of : Nat := 14
abbrev i_loose_of : Nat := 15
abbrev i_its_of : Nat := 16
abbrev i_loose : Nat := 17
abbrev i_is_plain : Nat := 18
abbrev i_look_plain : Nat := 19
abbrev i_pushed_of : Nat := 20
abbrev i_pushed : Nat := 21
abbrev i_shown : Nat := 22
abbrev i_opened : Nat := 23
abbrev i_around : Nat := 24
abbrev i_flat_of : Nat := 25
abbrev i_flat : Nat := 26
abbrev i__law_cell : Nat := 27
abbrev i__law_whole : Nat := 28
abbrev i__law_row : Nat := 29
abbrev i__law_book : Nat := 30
abbrev i__law_next : Nat := 31
abbrev i__law_brought : Nat := 32
abbrev i__law_loose : Nat := 33
abbrev i__law_places : Nat := 34
abbrev i__law_is_thing : Nat := 35
abbrev i__law_is_formed : Nat := 36
abbrev i__law_is_formula : Nat := 37
abbrev i__law_formula : Nat := 38
abbrev i__law_spoilt_formula : Nat := 39
abbrev i__law_formula_refused : Nat := 40
abbrev i_law : Nat := 41
def t_PLACES : List (Str × IP.D) := [("noun", (.int 1)), ("of", (.int 2)), ("does", (.int 1)), ("to", (.int 2)), ("such", (.int 1))]
def g_KINDS : IP.D := (.tuple [(.str "name"), (.str "noun"), (.str "of"), (.str "does"), (.str "to"), (.str "such")])
def g_OWN : IP.D := (.tuple [(.str "every"), (.str "some"), (.str "no"), (.str "that"), (.str "of"), (.str "not"), (.str "and"), (.str "or"), (.str "if"), (.str "then"), (.str "it"), (.str "is")])
def g_SMALL : IP.D := (.str "abcdefghijklmnopqrstuvwxyz")
def g_MOST_WORDS : IP.D := (.int 20)
def g_MOST_LETTERS : IP.D := (.int 10)
def g_OF_TWO : IP.D := (.tuple [(.str "and"), (.str "or"), (.str "if")])
def g_OF_ANY : IP.D := (.tuple [(.str "all"), (.str "some")])
def g_MOST_THING : IP.D := (.int 99)
def g_MOST_DEEP : IP.D := (.int 300)
def s_is_within_0 : IP.S := (.ret (.band (.cons (.isi (.v 0) .int) (.cons (.nt (.isi (.v 0) .bool)) (.cons (.chain .le .le (.v 1) (.v 0) (.v 2)) .nil)))))
def b_is_within : IP.SL := (.cons s_is_within_0 .nil)
def s_is_word_0 : IP.S := (.ife (.bor (.cons (.nt (.isi (.v 0) .str)) (.cons (.nt (.chain .le .le (.c (.int 1)) (.f1 .len (.v 0)) (.g "MOST_LETTERS" g_MOST_LETTERS))) (.cons (.bin .isin (.v 0) (.g "OWN" g_OWN)) .nil)))) (.cons (.ret (.c (.bool false))) .nil) .nil)
def s_is_word_1 : IP.S := (.ret (.nt (.lc [1] (.n 1) (.e (.v 0)) (.cons (.bin .notin (.v 1) (.g "SMALL" g_SMALL)) .nil) (.v 1))))
def b_is_word : IP.SL := (.cons s_is_word_0 (.cons s_is_word_1 .nil))
def b_is_book_0 : IP.SL := (.cons (.ife (.bor (.cons (.nt (.isi (.v 1) .tuple)) (.cons (.bin .ne (.f1 .len (.v 1)) (.c (.int 2))) (.cons (.nt (.call i_is_word (.e (.idx (.v 1) (.c (.int 0))) .nil) [])) .nil)))) (.cons (.ret (.c (.bool false))) .nil) .nil) (.cons (.ife (.bor (.cons (.nt (.isi (.idx (.v 1) (.c (.int 1))) .str)) (.cons (.bin .notin (.idx (.v 1) (.c (.int 1))) (.g "KINDS" g_KINDS)) .nil))) (.cons (.ret (.c (.bool false))) .nil) .nil) .nil))
def s_is_book_0 : IP.S := (.ife (.bor (.cons (.nt (.isi (.v 0) .tuple)) (.cons (.bin .gt (.f1 .len (.v 0)) (.g "MOST_WORDS" g_MOST_WORDS)) .nil))) (.cons (.ret (.c (.bool false))) .nil) .nil)
def s_is_book_1 : IP.S := (.for_ (.n 1) (.e (.v 0)) b_is_book_0)
def s_is_book_2 : IP.S := (.ret (.bin .eq (.lensc [1] (.n 1) (.e (.v 0)) .nil (.idx (.v 1) (.c (.int 0)))) (.f1 .len (.v 0))))
def b_is_book : IP.SL := (.cons s_is_book_0 (.cons s_is_book_1 (.cons s_is_book_2 .nil)))
def s_look_0 : IP.S := (.ife (.nt (.call i_is_book (.e (.v 0) .nil) [])) (.cons .bad .nil) .nil)
def b_look : IP.SL := (.cons s_look_0 .nil)
def s_places_of_0 : IP.S := (.asg 2 (.lc [3, 4] (.t [3, 4]) (.e (.v 0)) (.cons (.bin .eq (.v 3) (.v 1)) .nil) (.getc "PLACES" t_PLACES (.v 4) (.c (.int 0)))))
def s_places_of_1 : IP.S := (.ret (.ife (.v 2) (.idx (.v 2) (.c (.int 0))) (.c .none)))
def b_places_of : IP.SL := (.cons s_places_of_0 (.cons s_places_of_1 .nil))
def s_is_thing_0 : IP.S := (.ife (.isi (.v 1) .str) (.cons (.ret (.bin .isin (.tup (.cons (.v 1) (.cons (.c (.str "name")) .nil))) (.v 0))) .nil) .nil)
def s_is_thing_1 : IP.S := (.ife (.isi (.v 1) .tuple) (.cons (.ret (.band (.cons (.bin .eq (.f1 .len (.v 1)) (.c (.int 2))) (.cons (.bin .eq (.slc (.v 1) .no (.yes (.c (.int 1)))) (.tup (.cons (.c (.str "it")) .nil))) (.cons (.call i_is_within (.e (.idx (.v 1) (.c (.int 1))) (.e (.c (.int 0)) (.e (.g "MOST_THING" g_MOST_THING) .nil))) []) .nil))))) .nil) .nil)
def s_is_thing_2 : IP.S := (.ret (.call i_is_within (.e (.v 1) (.e (.c (.int 0)) (.e (.g "MOST_THING" g_MOST_THING) .nil))) []))
def b_is_thing : IP.SL := (.cons s_is_thing_0 (.cons s_is_thing_1 (.cons s_is_thing_2 .nil)))
def s_is_fact_0 : IP.S := (.ife (.bor (.cons (.bin .ne (.f1 .len (.v 1)) (.c (.int 3))) (.cons (.nt (.isi (.idx (.v 1) (.c (.int 1))) .str)) (.cons (.nt (.isi (.idx (.v 1) (.c (.int 2))) .tuple)) .nil)))) (.cons (.ret (.c (.bool false))) .nil) .nil)
def s_is_fact_1 : IP.S := (.ife (.bor (.cons (.nt (.idx (.v 1) (.c (.int 2)))) (.cons (.bin .ne (.call i_places_of (.e (.v 0) (.e (.idx (.v 1) (.c (.int 1))) .nil)) []) (.f1 .len (.idx (.v 1) (.c (.int 2))))) .nil))) (.cons (.ret (.c (.bool false))) .nil) .nil)
def s_is_fact_2 : IP.S := (.ret (.nt (.lc [2] (.n 2) (.e (.idx (.v 1) (.c (.int 2)))) (.cons (.nt (.call i_is_thing (.e (.v 0) (.e (.v 2) .nil)) [])) .nil) (.v 2))))
def b_is_fact : IP.SL := (.cons s_is_fact_0 (.cons s_is_fact_1 (.cons s_is_fact_2 .nil)))
def s_is_formed_0 : IP.S := (.ife (.bor (.cons (.bin .eq (.v 2) (.c (.int 0))) (.cons (.nt (.isi (.v 1) .tuple)) (.cons (.nt (.v 1)) (.cons (.nt (.isi (.idx (.v 1) (.c (.int 0))) .str)) .nil))))) (.cons (.ret (.c (.bool false))) .nil) .nil)
def s_is_formed_1 : IP.S := (.ife (.bin .eq (.idx (.v 1) (.c (.int 0))) (.c (.str "fact"))) (.cons (.ret (.call i_is_fact (.e (.v 0) (.e (.v 1) .nil)) [])) .nil) .nil)
def s_is_formed_2 : IP.S := (.ife (.bin .eq (.idx (.v 1) (.c (.int 0))) (.c (.str "not"))) (.cons (.ret (.band (.cons (.bin .eq (.f1 .len (.v 1)) (.c (.int 2))) (.cons (.call i_is_formed (.e (.v 0) (.e (.idx (.v 1) (.c (.int 1))) (.e (.bin .sub (.v 2) (.c (.int 1))) .nil))) []) .nil)))) .nil) .nil)
def s_is_formed_3 : IP.S := (.ife (.bin .isin (.idx (.v 1) (.c (.int 0))) (.g "OF_TWO" g_OF_TWO)) (.cons (.ret (.band (.cons (.bin .eq (.f1 .len (.v 1)) (.c (.int 3))) (.cons (.call i_is_formed (.e (.v 0) (.e (.idx (.v 1) (.c (.int 1))) (.e (.bin .sub (.v 2) (.c (.int 1))) .nil))) []) (.cons (.call i_is_formed (.e (.v 0) (.e (.idx (.v 1) (.c (.int 2))) (.e (.bin .sub (.v 2) (.c (.int 1))) .nil))) []) .nil))))) .nil) .nil)
def s_is_formed_4 : IP.S := (.ife (.bor (.cons (.bin .notin (.idx (.v 1) (.c (.int 0))) (.g "OF_ANY" g_OF_ANY)) (.cons (.bin .ne (.f1 .len (.v 1)) (.c (.int 3))) (.cons (.nt (.call i_is_within (.e (.idx (.v 1) (.c (.int 1))) (.e (.c (.int 0)) (.e (.g "MOST_THING" g_MOST_THING) .nil))) [])) .nil)))) (.cons (.ret (.c (.bool false))) .nil) .nil)
def s_is_formed_5 : IP.S := (.ret (.call i_is_formed (.e (.v 0) (.e (.idx (.v 1) (.c (.int 2))) (.e (.bin .sub (.v 2) (.c (.int 1))) .nil))) []))
def b_is_formed : IP.SL := (.cons s_is_formed_0 (.cons s_is_formed_1 (.cons s_is_formed_2 (.cons s_is_formed_3 (.cons s_is_formed_4 (.cons s_is_formed_5 .nil))))))
def b_thing_text : IP.SL := (.cons .bad .nil)
def b_written : IP.SL := (.cons .bad .nil)
def s_brought_0 : IP.S := (.ife (.bin .eq (.idx (.v 0) (.c (.int 0))) (.c (.str "fact"))) (.cons (.ret (.lst .nil)) .nil) .nil)
def s_brought_1 : IP.S := (.ife (.bin .eq (.idx (.v 0) (.c (.int 0))) (.c (.str "not"))) (.cons (.ret (.call i_brought (.e (.idx (.v 0) (.c (.int 1))) .nil) [])) .nil) .nil)
def s_brought_2 : IP.S := (.ife (.bin .isin (.idx (.v 0) (.c (.int 0))) (.g "OF_ANY" g_OF_ANY)) (.cons (.ret (.bin .add (.lst (.cons (.idx (.v 0) (.c (.int 1))) .nil)) (.call i_brought (.e (.idx (.v 0) (.c (.int 2))) .nil) []))) .nil) .nil)
def s_brought_3 : IP.S := (.ret (.bin .add (.call i_brought (.e (.idx (.v 0) (.c (.int 1))) .nil) []) (.call i_brought (.e (.idx (.v 0) (.c (.int 2))) .nil) [])))
def b_brought : IP.SL := (.cons s_brought_0 (.cons s_brought_1 (.cons s_brought_2 (.cons s_brought_3 .nil))))
def s_is_formula_of_0 : IP.S := (.ife (.nt (.call i_is_formed (.e (.v 0) (.e (.v 1) (.e (.g "MOST_DEEP" g_MOST_DEEP) .nil))) [])) (.cons (.ret (.c (.bool false))) .nil) .nil)
def s_is_formula_of_1 : IP.S := (.asg 2 (.call i_brought (.e (.v 1) .nil) []))
def s_is_formula_of_2 : IP.S := (.ret (.bin .eq (.lenset (.v 2)) (.f1 .len (.v 2))))
def b_is_formula_of : IP.SL := (.cons s_is_formula_of_0 (.cons s_is_formula_of_1 (.cons s_is_formula_of_2 .nil)))
def s_is_formula_0 : IP.S := (.expr (.call i_look (.e (.v 0) .nil) []))
def s_is_formula_1 : IP.S := (.ret (.call i_is_formula_of (.e (.v 0) (.e (.v 1) .nil)) []))
def b_is_formula : IP.SL := (.cons s_is_formula_0 (.cons s_is_formula_1 .nil))
def s_look_formula_0 : IP.S := (.expr (.call i_look (.e (.v 0) .nil) []))
def s_look_formula_1 : IP.S := (.ife (.nt (.call i_is_formula_of (.e (.v 0) (.e (.v 1) .nil)) [])) (.cons (.raiseF "BadFormula" "formula" (.v 1)) .nil) .nil)
def b_look_formula : IP.SL := (.cons s_look_formula_0 (.cons s_look_formula_1 .nil))
def s_things_of_0 : IP.S := (.ife (.bin .eq (.idx (.v 0) (.c (.int 0))) (.c (.str "fact"))) (.cons (.ret (.f1 .list (.idx (.v 0) (.c (.int 2))))) .nil) .nil)
def s_things_of_1 : IP.S := (.ife (.bin .eq (.idx (.v 0) (.c (.int 0))) (.c (.str "not"))) (.cons (.ret (.call i_things_of (.e (.idx (.v 0) (.c (.int 1))) .nil) [])) .nil) .nil)
def s_things_of_2 : IP.S := (.ife (.bin .isin (.idx (.v 0) (.c (.int 0))) (.g "OF_ANY" g_OF_ANY)) (.cons (.ret (.call i_things_of (.e (.idx (.v 0) (.c (.int 2))) .nil) [])) .nil) .nil)
def s_things_of_3 : IP.S := (.ret (.bin .add (.call i_things_of (.e (.idx (.v 0) (.c (.int 1))) .nil) []) (.call i_things_of (.e (.idx (.v 0) (.c (.int 2))) .nil) [])))
def b_things_of : IP.SL := (.cons s_things_of_0 (.cons s_things_of_1 (.cons s_things_of_2 (.cons s_things_of_3 .nil))))
def s_loose_of_0 : IP.S := (.ife (.bin .isin (.idx (.v 0) (.c (.int 0))) (.g "OF_ANY" g_OF_ANY)) (.cons (.ret (.lc [1] (.n 1) (.e (.call i_loose_of (.e (.idx (.v 0) (.c (.int 2))) .nil) [])) (.cons (.bin .ne (.v 1) (.idx (.v 0) (.c (.int 1)))) .nil) (.v 1))) .nil) .nil)
def s_loose_of_1 : IP.S := (.ife (.bin .eq (.idx (.v 0) (.c (.int 0))) (.c (.str "fact"))) (.cons (.ret (.sortsc [1] (.n 1) (.e (.idx (.v 0) (.c (.int 2)))) (.cons (.isi (.v 1) .int) .nil) (.v 1))) .nil) .nil)
def s_loose_of_2 : IP.S := (.ife (.bin .eq (.idx (.v 0) (.c (.int 0))) (.c (.str "not"))) (.cons (.ret (.call i_loose_of (.e (.idx (.v 0) (.c (.int 1))) .nil) [])) .nil) .nil)
def s_loose_of_3 : IP.S := (.ret (.sortset (.bin .add (.call i_loose_of (.e (.idx (.v 0) (.c (.int 1))) .nil) []) (.call i_loose_of (.e (.idx (.v 0) (.c (.int 2))) .nil) []))))
def b_loose_of : IP.SL := (.cons s_loose_of_0 (.cons s_loose_of_1 (.cons s_loose_of_2 (.cons s_loose_of_3 .nil))))
def s_its_of_0 : IP.S := (.ret (.sortsc [1] (.n 1) (.e (.call i_things_of (.e (.v 0) .nil) [])) (.cons (.isi (.v 1) .tuple) .nil) (.idx (.v 1) (.c (.int 1)))))
def b_its_of : IP.SL := (.cons s_its_of_0 .nil)
def s_loose_0 : IP.S := (.expr (.call i_look_formula (.e (.v 0) (.e (.v 1) .nil)) []))
def s_loose_1 : IP.S := (.ret (.call i_loose_of (.e (.v 1) .nil) []))
def b_loose : IP.SL := (.cons s_loose_0 (.cons s_loose_1 .nil))
def s_is_plain_0 : IP.S := (.ret (.band (.cons (.nt (.call i_its_of (.e (.v 0) .nil) [])) (.cons (.nt (.call i_loose_of (.e (.v 0) .nil) [])) .nil))))
def b_is_plain : IP.SL := (.cons s_is_plain_0 .nil)
def s_look_plain_0 : IP.S := (.expr (.call i_look_formula (.e (.v 0) (.e (.v 1) .nil)) []))
def s_look_plain_1 : IP.S := (.ife (.nt (.call i_is_plain (.e (.v 1) .nil) [])) (.cons (.raiseF "BadFormula" "formula" (.v 1)) .nil) .nil)
def b_look_plain : IP.SL := (.cons s_look_plain_0 (.cons s_look_plain_1 .nil))
def b_pushed_of : IP.SL := (.cons .bad .nil)
def s_pushed_0 : IP.S := (.expr (.call i_look_plain (.e (.v 0) (.e (.v 1) .nil)) []))
def s_pushed_1 : IP.S := (.ret (.call i_pushed_of (.e (.v 1) (.e (.c (.bool true)) .nil)) []))
def b_pushed : IP.SL := (.cons s_pushed_0 (.cons s_pushed_1 .nil))
def s_shown_0 : IP.S := (.expr (.call i_look_formula (.e (.v 0) (.e (.v 1) .nil)) []))
def s_shown_1 : IP.S := (.ret (.call i_written (.e (.v 1) .nil) []))
def b_shown : IP.SL := (.cons s_shown_0 (.cons s_shown_1 .nil))
def s_opened_0 : IP.S := (.ife (.bin .eq (.idx (.v 0) (.c (.int 0))) (.c (.str "some"))) (.cons (.ret (.bin .add (.lst (.cons (.idx (.v 0) (.c (.int 1))) .nil)) (.call i_opened (.e (.idx (.v 0) (.c (.int 2))) .nil) []))) .nil) .nil)
def s_opened_1 : IP.S := (.ife (.bin .eq (.idx (.v 0) (.c (.int 0))) (.c (.str "and"))) (.cons (.ret (.bin .add (.call i_opened (.e (.idx (.v 0) (.c (.int 1))) .nil) []) (.call i_opened (.e (.idx (.v 0) (.c (.int 2))) .nil) []))) .nil) .nil)
def s_opened_2 : IP.S := (.ret (.lst (.cons (.call i_flat_of (.e (.v 0) .nil) []) .nil)))
def b_opened : IP.SL := (.cons s_opened_0 (.cons s_opened_1 (.cons s_opened_2 .nil)))
def b_around_0 : IP.SL := (.cons (.ife (.isi (.v 4) .int) (.cons (.asg 3 (.tup (.cons (.v 1) (.cons (.v 4) (.cons (.v 3) .nil))))) .nil) (.cons (.asg 3 (.ife (.bin .isn (.v 3) (.c .none)) (.v 4) (.tup (.cons (.v 2) (.cons (.v 4) (.cons (.v 3) .nil)))))) .nil)) .nil)
def s_around_0 : IP.S := (.for_ (.n 4) (.rev (.v 0)) b_around_0)
def s_around_1 : IP.S := (.ret (.v 3))
def b_around : IP.SL := (.cons s_around_0 (.cons s_around_1 .nil))
def s_flat_of_0 : IP.S := (.ife (.bin .eq (.idx (.v 0) (.c (.int 0))) (.c (.str "fact"))) (.cons (.ret (.v 0)) .nil) .nil)
def s_flat_of_1 : IP.S := (.ife (.bin .eq (.idx (.v 0) (.c (.int 0))) (.c (.str "not"))) (.cons (.ret (.tup (.cons (.c (.str "not")) (.cons (.call i_flat_of (.e (.idx (.v 0) (.c (.int 1))) .nil) []) .nil)))) .nil) .nil)
def s_flat_of_2 : IP.S := (.ife (.bin .eq (.idx (.v 0) (.c (.int 0))) (.c (.str "all"))) (.cons (.ret (.tup (.cons (.c (.str "all")) (.cons (.idx (.v 0) (.c (.int 1))) (.cons (.call i_flat_of (.e (.idx (.v 0) (.c (.int 2))) .nil) []) .nil))))) .nil) .nil)
def s_flat_of_3 : IP.S := (.ife (.bin .eq (.idx (.v 0) (.c (.int 0))) (.c (.str "or"))) (.cons (.ret (.tup (.cons (.c (.str "or")) (.cons (.call i_flat_of (.e (.idx (.v 0) (.c (.int 1))) .nil) []) (.cons (.call i_flat_of (.e (.idx (.v 0) (.c (.int 2))) .nil) []) .nil))))) .nil) .nil)
def s_flat_of_4 : IP.S := (.ife (.bin .eq (.idx (.v 0) (.c (.int 0))) (.c (.str "if"))) (.cons (.ret (.call i_around (.e (.call i_opened (.e (.idx (.v 0) (.c (.int 1))) .nil) []) (.e (.c (.str "all")) (.e (.c (.str "if")) (.e (.call i_flat_of (.e (.idx (.v 0) (.c (.int 2))) .nil) []) .nil)))) [])) .nil) .nil)
def s_flat_of_5 : IP.S := (.ret (.call i_around (.e (.call i_opened (.e (.v 0) .nil) []) (.e (.c (.str "some")) (.e (.c (.str "and")) (.e (.c .none) .nil)))) []))
def b_flat_of : IP.SL := (.cons s_flat_of_0 (.cons s_flat_of_1 (.cons s_flat_of_2 (.cons s_flat_of_3 (.cons s_flat_of_4 (.cons s_flat_of_5 .nil))))))
def s_flat_0 : IP.S := (.expr (.call i_look_formula (.e (.v 0) (.e (.v 1) .nil)) []))
def s_flat_1 : IP.S := (.ret (.call i_flat_of (.e (.v 1) .nil) []))
def b_flat : IP.SL := (.cons s_flat_0 (.cons s_flat_1 .nil))
def s__law_cell_0 : IP.S := (.ife (.bin .lt (.v 1) (.slen 0)) (.cons (.ret (.sidx 0 (.v 1))) .nil) .nil)
def s__law_cell_1 : IP.S := (.ret (.c (.int 0)))
def b__law_cell : IP.SL := (.cons s__law_cell_0 (.cons s__law_cell_1 .nil))
def s__law_whole_0 : IP.S := (.ret (.band (.cons (.isi (.v 0) .int) (.cons (.nt (.isi (.v 0) .bool)) .nil))))
def b__law_whole : IP.SL := (.cons s__law_whole_0 .nil)
def b__law_row_0 : IP.SL := (.cons (.ife (.bin .lt (.call i__law_cell (.r 0 (.e (.v 1) .nil)) []) (.bin .pow (.c (.int 10)) (.c (.int 18)))) (.cons (.asg 2 (.bin .mod (.bin .add (.bin .add (.bin .add (.bin .mul (.v 2) (.c (.int 48271))) (.bin .mul (.c (.int 131)) (.v 4))) (.c (.int 7))) (.call i__law_cell (.r 0 (.e (.bin .mod (.bin .add (.bin .add (.v 1) (.c (.int 1))) (.v 4)) (.c (.int 20))) .nil)) [])) (.c (.int 2147483647)))) (.cons (.app 3 (.bin .mod (.bin .fdiv (.v 2) (.c (.int 11))) (.c (.int 1000)))) .nil)) (.cons (.app 3 (.bin .mod (.v 2) (.c (.int 1000)))) (.cons (.asg 2 (.bin .fdiv (.v 2) (.c (.int 1000)))) .nil))) .nil)
def s__law_row_0 : IP.S := (.asg 2 (.call i__law_cell (.r 0 (.e (.v 1) .nil)) []))
def s__law_row_1 : IP.S := (.asgN 3 (.lst .nil))
def s__law_row_2 : IP.S := (.for_ (.n 4) (.range1 (.c (.int 60))) b__law_row_0)
def s__law_row_3 : IP.S := (.frz 3)
def s__law_row_4 : IP.S := (.ret (.v 3))
def b__law_row : IP.SL := (.cons s__law_row_0 (.cons s__law_row_1 (.cons s__law_row_2 (.cons s__law_row_3 (.cons s__law_row_4 .nil)))))
def s__law_book_0 : IP.S := (.asg 1 (.lst (.cons (.tup (.cons (.c (.str "ann")) (.cons (.c (.str "name")) .nil))) (.cons (.tup (.cons (.c (.str "man")) (.cons (.c (.str "noun")) .nil))) (.cons (.tup (.cons (.c (.str "friend")) (.cons (.c (.str "of")) .nil))) (.cons (.tup (.cons (.c (.str "sleeps")) (.cons (.c (.str "does")) .nil))) (.cons (.tup (.cons (.c (.str "owns")) (.cons (.c (.str "to")) .nil))) (.cons (.tup (.cons (.c (.str "tall")) (.cons (.c (.str "such")) .nil))) .nil))))))))
def s__law_book_1 : IP.S := (.asg 2 (.lst (.cons (.tup (.cons (.c (.str "bob")) (.cons (.c (.str "name")) .nil))) (.cons (.tup (.cons (.c (.str "ass")) (.cons (.c (.str "noun")) .nil))) (.cons (.tup (.cons (.c (.str "king")) (.cons (.c (.str "noun")) .nil))) (.cons (.tup (.cons (.c (.str "runs")) (.cons (.c (.str "does")) .nil))) (.cons (.tup (.cons (.c (.str "beats")) (.cons (.c (.str "to")) .nil))) (.cons (.tup (.cons (.c (.str "wise")) (.cons (.c (.str "such")) .nil))) .nil))))))))
def s__law_book_2 : IP.S := (.asg 3 (.bin .add (.v 1) (.lc [5, 6] (.t [5, 6]) (.enum (.v 2)) (.cons (.bin .eq (.bin .mod (.idx (.v 0) (.v 5)) (.c (.int 2))) (.c (.int 0))) .nil) (.v 6))))
def s__law_book_3 : IP.S := (.asg 4 (.bin .mod (.idx (.v 0) (.c (.int 7))) (.f1 .len (.v 3))))
def s__law_book_4 : IP.S := (.ret (.f1 .tuple (.bin .add (.slc (.v 3) (.yes (.v 4)) .no) (.slc (.v 3) .no (.yes (.v 4))))))
def b__law_book : IP.SL := (.cons s__law_book_0 (.cons s__law_book_1 (.cons s__law_book_2 (.cons s__law_book_3 (.cons s__law_book_4 .nil)))))
def s__law_next_0 : IP.S := (.cset 1 (.c (.int 0)) (.bin .mod (.bin .add (.cidx 1 (.c (.int 0))) (.c (.int 1))) (.c (.int 60))))
def s__law_next_1 : IP.S := (.ret (.idx (.v 0) (.cidx 1 (.c (.int 0)))))
def b__law_next : IP.SL := (.cons s__law_next_0 (.cons s__law_next_1 .nil))
def b__law_brought_0 : IP.SL := (.cons (.ife (.band (.cons (.isi (.v 2) .tuple) (.cons (.bin .ne (.idx (.v 0) (.c (.int 0))) (.c (.str "fact"))) .nil))) (.cons (.asg 1 (.bin .add (.v 1) (.call i__law_brought (.e (.v 2) .nil) []))) .nil) .nil) .nil)
def s__law_brought_0 : IP.S := (.asg 1 (.ife (.bin .isin (.idx (.v 0) (.c (.int 0))) (.tup (.cons (.c (.str "all")) (.cons (.c (.str "some")) .nil)))) (.lst (.cons (.idx (.v 0) (.c (.int 1))) .nil)) (.lst .nil)))
def s__law_brought_1 : IP.S := (.for_ (.n 2) (.e (.slc (.v 0) (.yes (.c (.int 1))) .no)) b__law_brought_0)
def s__law_brought_2 : IP.S := (.ret (.v 1))
def b__law_brought : IP.SL := (.cons s__law_brought_0 (.cons s__law_brought_1 (.cons s__law_brought_2 .nil)))
def b__law_loose_0 : IP.SL := (.cons (.asg 2 (.bin .add (.v 2) (.call i__law_loose (.e (.v 3) (.e (.v 1) .nil)) []))) .nil)
def s__law_loose_0 : IP.S := (.ife (.bin .eq (.idx (.v 0) (.c (.int 0))) (.c (.str "fact"))) (.cons (.ret (.sortset (.lc [4] (.n 4) (.e (.idx (.v 0) (.c (.int 2)))) (.cons (.band (.cons (.call i__law_whole (.e (.v 4) .nil) []) (.cons (.bin .notin (.v 4) (.v 1)) .nil))) .nil) (.v 4)))) .nil) .nil)
def s__law_loose_1 : IP.S := (.ife (.bin .isin (.idx (.v 0) (.c (.int 0))) (.tup (.cons (.c (.str "all")) (.cons (.c (.str "some")) .nil)))) (.cons (.ret (.call i__law_loose (.e (.idx (.v 0) (.c (.int 2))) (.e (.bin .add (.v 1) (.lst (.cons (.idx (.v 0) (.c (.int 1))) .nil))) .nil)) [])) .nil) .nil)
def s__law_loose_2 : IP.S := (.asg 2 (.lst .nil))
def s__law_loose_3 : IP.S := (.for_ (.n 3) (.e (.slc (.v 0) (.yes (.c (.int 1))) .no)) b__law_loose_0)
def s__law_loose_4 : IP.S := (.ret (.sortset (.v 2)))
def b__law_loose : IP.SL := (.cons s__law_loose_0 (.cons s__law_loose_1 (.cons s__law_loose_2 (.cons s__law_loose_3 (.cons s__law_loose_4 .nil)))))
def s__law_places_0 : IP.S := (.asg 2 (.dic [(.str "noun"), (.str "of"), (.str "does"), (.str "to"), (.str "such")] (.cons (.c (.int 1)) (.cons (.c (.int 2)) (.cons (.c (.int 1)) (.cons (.c (.int 2)) (.cons (.c (.int 1)) .nil)))))))
def s__law_places_1 : IP.S := (.asg 3 (.lc [4, 5] (.t [4, 5]) (.e (.v 0)) (.cons (.band (.cons (.bin .eq (.v 4) (.v 1)) (.cons (.bin .isin (.v 5) (.v 2)) .nil))) .nil) (.idx (.v 2) (.v 5))))
def s__law_places_2 : IP.S := (.ret (.idx (.bin .add (.v 3) (.lst (.cons (.c (.int 0)) .nil))) (.c (.int 0))))
def b__law_places : IP.SL := (.cons s__law_places_0 (.cons s__law_places_1 (.cons s__law_places_2 .nil)))
def s__law_is_thing_0 : IP.S := (.ife (.isi (.v 1) .str) (.cons (.ret (.bin .isin (.tup (.cons (.v 1) (.cons (.c (.str "name")) .nil))) (.v 0))) .nil) .nil)
def s__law_is_thing_1 : IP.S := (.ife (.isi (.v 1) .tuple) (.cons (.ret (.band (.cons (.bin .eq (.f1 .len (.v 1)) (.c (.int 2))) (.cons (.bin .eq (.idx (.v 1) (.c (.int 0))) (.c (.str "it"))) (.cons (.call i__law_whole (.e (.idx (.v 1) (.c (.int 1))) .nil) []) (.cons (.chain .le .le (.c (.int 0)) (.idx (.v 1) (.c (.int 1))) (.c (.int 99))) .nil)))))) .nil) .nil)
def s__law_is_thing_2 : IP.S := (.ret (.band (.cons (.call i__law_whole (.e (.v 1) .nil) []) (.cons (.chain .le .le (.c (.int 0)) (.v 1) (.c (.int 99))) .nil))))
def b__law_is_thing : IP.SL := (.cons s__law_is_thing_0 (.cons s__law_is_thing_1 (.cons s__law_is_thing_2 .nil)))
def s__law_is_formed_0 : IP.S := (.ife (.bor (.cons (.nt (.isi (.v 1) .tuple)) (.cons (.bin .eq (.v 1) (.tup .nil)) (.cons (.nt (.isi (.idx (.v 1) (.c (.int 0))) .str)) .nil)))) (.cons (.ret (.c (.bool false))) .nil) .nil)
def s__law_is_formed_1 : IP.S := (.ife (.bin .eq (.idx (.v 1) (.c (.int 0))) (.c (.str "fact"))) (.cons (.ife (.bor (.cons (.bin .ne (.f1 .len (.v 1)) (.c (.int 3))) (.cons (.nt (.isi (.idx (.v 1) (.c (.int 1))) .str)) (.cons (.nt (.isi (.idx (.v 1) (.c (.int 2))) .tuple)) (.cons (.bin .eq (.idx (.v 1) (.c (.int 2))) (.tup .nil)) .nil))))) (.cons (.ret (.c (.bool false))) .nil) .nil) (.cons (.ife (.bin .ne (.call i__law_places (.e (.v 0) (.e (.idx (.v 1) (.c (.int 1))) .nil)) []) (.f1 .len (.idx (.v 1) (.c (.int 2))))) (.cons (.ret (.c (.bool false))) .nil) .nil) (.cons (.ret (.bin .eq (.lc [2] (.n 2) (.e (.idx (.v 1) (.c (.int 2)))) (.cons (.nt (.call i__law_is_thing (.e (.v 0) (.e (.v 2) .nil)) [])) .nil) (.v 2)) (.lst .nil))) .nil))) .nil)
def s__law_is_formed_2 : IP.S := (.ife (.bin .eq (.idx (.v 1) (.c (.int 0))) (.c (.str "not"))) (.cons (.ret (.band (.cons (.bin .eq (.f1 .len (.v 1)) (.c (.int 2))) (.cons (.call i__law_is_formed (.e (.v 0) (.e (.idx (.v 1) (.c (.int 1))) .nil)) []) .nil)))) .nil) .nil)
def s__law_is_formed_3 : IP.S := (.ife (.bin .ne (.f1 .len (.v 1)) (.c (.int 3))) (.cons (.ret (.c (.bool false))) .nil) .nil)
def s__law_is_formed_4 : IP.S := (.ife (.bin .isin (.idx (.v 1) (.c (.int 0))) (.tup (.cons (.c (.str "all")) (.cons (.c (.str "some")) .nil)))) (.cons (.ret (.band (.cons (.call i__law_whole (.e (.idx (.v 1) (.c (.int 1))) .nil) []) (.cons (.chain .le .le (.c (.int 0)) (.idx (.v 1) (.c (.int 1))) (.c (.int 99))) (.cons (.call i__law_is_formed (.e (.v 0) (.e (.idx (.v 1) (.c (.int 2))) .nil)) []) .nil))))) .nil) .nil)
def s__law_is_formed_5 : IP.S := (.ret (.band (.cons (.bin .isin (.idx (.v 1) (.c (.int 0))) (.tup (.cons (.c (.str "and")) (.cons (.c (.str "or")) (.cons (.c (.str "if")) .nil))))) (.cons (.call i__law_is_formed (.e (.v 0) (.e (.idx (.v 1) (.c (.int 1))) .nil)) []) (.cons (.call i__law_is_formed (.e (.v 0) (.e (.idx (.v 1) (.c (.int 2))) .nil)) []) .nil)))))
def b__law_is_formed : IP.SL := (.cons s__law_is_formed_0 (.cons s__law_is_formed_1 (.cons s__law_is_formed_2 (.cons s__law_is_formed_3 (.cons s__law_is_formed_4 (.cons s__law_is_formed_5 .nil))))))
def s__law_is_formula_0 : IP.S := (.ife (.nt (.call i__law_is_formed (.e (.v 0) (.e (.v 1) .nil)) [])) (.cons (.ret (.c (.bool false))) .nil) .nil)
def s__law_is_formula_1 : IP.S := (.asg 2 (.call i__law_brought (.e (.v 1) .nil) []))
def s__law_is_formula_2 : IP.S := (.ret (.bin .eq (.lenset (.v 2)) (.f1 .len (.v 2))))
def b__law_is_formula : IP.SL := (.cons s__law_is_formula_0 (.cons s__law_is_formula_1 (.cons s__law_is_formula_2 .nil)))
def b__law_formula_0 : IP.SL := (.cons (.asg 14 (.call i__law_next (.e (.v 0) (.r 1 .nil)) [])) (.cons (.ife (.bor (.cons (.bin .eq (.v 4) (.lst .nil)) (.cons (.bin .eq (.bin .mod (.v 14) (.c (.int 4))) (.c (.int 0))) .nil))) (.cons (.app 11 (.idx (.v 10) (.bin .mod (.bin .fdiv (.v 14) (.c (.int 4))) (.f1 .len (.v 10))))) .nil) (.cons (.app 11 (.idx (.v 4) (.bin .mod (.v 14) (.f1 .len (.v 4))))) .nil)) .nil))
def s__law_formula_0 : IP.S := (.asg 5 (.ife (.bin .gt (.v 3) (.c (.int 0))) (.bin .mod (.call i__law_next (.e (.v 0) (.r 1 .nil)) []) (.c (.int 9))) (.c (.int 0))))
def s__law_formula_1 : IP.S := (.ife (.bin .lt (.v 5) (.c (.int 2))) (.cons (.asg 8 (.lc [9, 15] (.t [9, 15]) (.e (.v 2)) (.cons (.bin .ne (.v 15) (.c (.str "name"))) .nil) (.v 9))) (.cons (.asg 9 (.idx (.v 8) (.bin .mod (.call i__law_next (.e (.v 0) (.r 1 .nil)) []) (.f1 .len (.v 8))))) (.cons (.asg 10 (.lc [16, 15] (.t [16, 15]) (.e (.v 2)) (.cons (.bin .eq (.v 15) (.c (.str "name"))) .nil) (.v 16))) (.cons (.asgN 11 (.lst .nil)) (.cons (.for_ (.n 12) (.range1 (.call i__law_places (.e (.v 2) (.e (.v 9) .nil)) [])) b__law_formula_0) (.cons (.frz 11) (.cons (.ret (.tup (.cons (.c (.str "fact")) (.cons (.v 9) (.cons (.f1 .tuple (.v 11)) .nil))))) .nil))))))) .nil)
def s__law_formula_2 : IP.S := (.ife (.bin .eq (.v 5) (.c (.int 2))) (.cons (.ret (.tup (.cons (.c (.str "not")) (.cons (.call i__law_formula (.e (.v 0) (.r 1 (.e (.v 2) (.e (.bin .sub (.v 3) (.c (.int 1))) (.e (.v 4) .nil))))) []) .nil)))) .nil) .nil)
def s__law_formula_3 : IP.S := (.ife (.bin .isin (.v 5) (.tup (.cons (.c (.int 3)) (.cons (.c (.int 4)) (.cons (.c (.int 5)) .nil))))) (.cons (.asg 13 (.cidx 1 (.c (.int 1)))) (.cons (.cset 1 (.c (.int 1)) (.bin .add (.v 13) (.c (.int 1)))) (.cons (.asg 9 (.ife (.bin .eq (.bin .mod (.call i__law_next (.e (.v 0) (.r 1 .nil)) []) (.c (.int 2))) (.c (.int 0))) (.c (.str "all")) (.c (.str "some")))) (.cons (.ret (.tup (.cons (.v 9) (.cons (.v 13) (.cons (.call i__law_formula (.e (.v 0) (.r 1 (.e (.v 2) (.e (.bin .sub (.v 3) (.c (.int 1))) (.e (.bin .add (.v 4) (.lst (.cons (.v 13) .nil))) .nil))))) []) .nil))))) .nil)))) .nil)
def s__law_formula_4 : IP.S := (.asg 6 (.call i__law_formula (.e (.v 0) (.r 1 (.e (.v 2) (.e (.bin .sub (.v 3) (.c (.int 1))) (.e (.v 4) .nil))))) []))
def s__law_formula_5 : IP.S := (.asg 7 (.call i__law_formula (.e (.v 0) (.r 1 (.e (.v 2) (.e (.bin .sub (.v 3) (.c (.int 1))) (.e (.v 4) .nil))))) []))
def s__law_formula_6 : IP.S := (.ret (.tup (.cons (.idx (.lst (.cons (.c (.str "and")) (.cons (.c (.str "or")) (.cons (.c (.str "if")) .nil)))) (.bin .sub (.v 5) (.c (.int 6)))) (.cons (.v 6) (.cons (.v 7) .nil)))))
def b__law_formula : IP.SL := (.cons s__law_formula_0 (.cons s__law_formula_1 (.cons s__law_formula_2 (.cons s__law_formula_3 (.cons s__law_formula_4 (.cons s__law_formula_5 (.cons s__law_formula_6 .nil)))))))
def s__law_spoilt_formula_0 : IP.S := (.ife (.band (.cons (.bin .lt (.bin .mod (.idx (.v 1) (.v 2)) (.c (.int 3))) (.c (.int 2))) (.cons (.bin .ne (.idx (.v 0) (.c (.int 0))) (.c (.str "fact"))) .nil))) (.cons (.asg 4 (.lc [5] (.n 5) (.range2 (.c (.int 1)) (.f1 .len (.v 0))) (.cons (.isi (.idx (.v 0) (.v 5)) .tuple) .nil) (.v 5))) (.cons (.asg 5 (.idx (.v 4) (.bin .mod (.idx (.v 1) (.bin .add (.v 2) (.c (.int 1)))) (.f1 .len (.v 4))))) (.cons (.asg 6 (.call i__law_spoilt_formula (.e (.idx (.v 0) (.v 5)) (.e (.v 1) (.e (.bin .mod (.bin .add (.v 2) (.c (.int 2))) (.c (.int 50))) .nil))) [])) (.cons (.ret (.bin .add (.bin .add (.slc (.v 0) .no (.yes (.v 5))) (.tup (.cons (.v 6) .nil))) (.slc (.v 0) (.yes (.bin .add (.v 5) (.c (.int 1)))) .no))) .nil)))) .nil)
def s__law_spoilt_formula_1 : IP.S := (.asg 3 (.lst (.cons (.c .none) (.cons (.tup .nil) (.cons (.slc (.v 0) .no (.yes (.neg (.c (.int 1))))) (.cons (.bin .add (.v 0) (.tup (.cons (.c (.int 1)) .nil))) (.cons (.f1 .list (.v 0)) (.cons (.tup (.cons (.c (.str "not")) .nil)) (.cons (.tup (.cons (.c (.str "fact")) (.cons (.c (.str "man")) (.cons (.tup .nil) .nil)))) .nil)))))))))
def s__law_spoilt_formula_2 : IP.S := (.asg 3 (.bin .add (.v 3) (.lst (.cons (.tup (.cons (.c (.str "fact")) (.cons (.c (.str "man")) (.cons (.tup (.cons (.c (.int 0)) (.cons (.c (.int 1)) .nil))) .nil)))) (.cons (.tup (.cons (.c (.str "fact")) (.cons (.c (.str "ann")) (.cons (.tup (.cons (.c (.str "ann")) .nil)) .nil)))) (.cons (.tup (.cons (.c (.str "fact")) (.cons (.c (.str "man")) (.cons (.tup (.cons (.c (.int 100)) .nil)) .nil)))) .nil))))))
def s__law_spoilt_formula_3 : IP.S := (.asg 3 (.bin .add (.v 3) (.lst (.cons (.tup (.cons (.c (.str "fact")) (.cons (.c (.str "man")) (.cons (.tup (.cons (.tup (.cons (.c (.str "it")) (.cons (.c (.int 3)) .nil))) .nil)) .nil)))) (.cons (.tup (.cons (.c (.str "fact")) (.cons (.c (.str "man")) (.cons (.tup (.cons (.c (.int 7)) .nil)) .nil)))) (.cons (.tup (.cons (.c (.str "xor")) (.cons (.v 0) (.cons (.v 0) .nil)))) .nil))))))
def s__law_spoilt_formula_4 : IP.S := (.asg 3 (.bin .add (.v 3) (.lst (.cons (.tup (.cons (.c (.str "all")) (.cons (.c (.int 0)) (.cons (.tup (.cons (.c (.str "all")) (.cons (.c (.int 0)) (.cons (.tup (.cons (.c (.str "fact")) (.cons (.c (.str "man")) (.cons (.tup (.cons (.c (.int 0)) .nil)) .nil)))) .nil)))) .nil)))) (.cons (.tup (.cons (.c (.str "some")) (.cons (.c (.int 100)) (.cons (.tup (.cons (.c (.str "fact")) (.cons (.c (.str "man")) (.cons (.tup (.cons (.c (.int 0)) .nil)) .nil)))) .nil)))) .nil)))))
def s__law_spoilt_formula_5 : IP.S := (.asg 3 (.bin .add (.v 3) (.lst (.cons (.tup (.cons (.c (.str "fact")) (.cons (.c (.str "man")) (.cons (.tup (.cons (.tup (.cons (.c (.str "it")) (.cons (.c (.int 100)) .nil))) .nil)) .nil)))) (.cons (.tup (.cons (.c (.str "fact")) (.cons (.c (.str "man")) (.cons (.tup (.cons (.c (.str "man")) .nil)) .nil)))) (.cons (.tup (.cons (.c (.str "fact")) (.cons (.c (.str "man")) (.cons (.tup (.cons (.c (.bool true)) .nil)) .nil)))) .nil))))))
def s__law_spoilt_formula_6 : IP.S := (.asg 3 (.bin .add (.v 3) (.lst (.cons (.tup (.cons (.c (.str "not")) (.cons (.v 0) .nil))) (.cons (.c (.int 7)) (.cons (.tup (.cons (.c (.str "fact")) (.cons (.c (.str "owns")) (.cons (.tup (.cons (.c (.str "ann")) .nil)) .nil)))) .nil))))))
def s__law_spoilt_formula_7 : IP.S := (.ret (.idx (.v 3) (.bin .mod (.idx (.v 1) (.bin .add (.v 2) (.c (.int 1)))) (.c (.int 21)))))
def b__law_spoilt_formula : IP.SL := (.cons s__law_spoilt_formula_0 (.cons s__law_spoilt_formula_1 (.cons s__law_spoilt_formula_2 (.cons s__law_spoilt_formula_3 (.cons s__law_spoilt_formula_4 (.cons s__law_spoilt_formula_5 (.cons s__law_spoilt_formula_6 (.cons s__law_spoilt_formula_7 .nil))))))))
def b__law_formula_refused_0 : IP.SL := (.cons (.ife (.bin .eq (.v 0) (.c (.int 0))) (.cons (.expr (.call i_loose (.e (.v 1) (.e (.v 2) .nil)) [])) .nil) (.cons (.ife (.bin .eq (.v 0) (.c (.int 1))) (.cons (.expr (.call i_flat (.e (.v 1) (.e (.v 2) .nil)) [])) .nil) (.cons (.ife (.bin .eq (.v 0) (.c (.int 2))) (.cons (.expr (.call i_shown (.e (.v 1) (.e (.v 2) .nil)) [])) .nil) (.cons (.expr (.call i_pushed (.e (.v 1) (.e (.v 2) .nil)) [])) .nil)) .nil)) .nil)) .nil)
def s__law_formula_refused_0 : IP.S := (.tryF b__law_formula_refused_0 "BadFormula" 3 "TalkError" "BadTree" "formula" 2)
def s__law_formula_refused_1 : IP.S := (.ret (.c (.bool false)))
def b__law_formula_refused : IP.SL := (.cons s__law_formula_refused_0 (.cons s__law_formula_refused_1 .nil))
def s_law_0 : IP.S := (.asg 1 (.call i__law_row (.r 0 (.e (.c (.int 4)) .nil)) []))
def s_law_1 : IP.S := (.asg 2 (.call i__law_book (.e (.v 1) .nil) []))
def s_law_2 : IP.S := (.asg 3 (.call i__law_row (.r 0 (.e (.c (.int 2)) .nil)) []))
def s_law_3 : IP.S := (.asg 4 (.ife (.bin .eq (.bin .mod (.idx (.v 1) (.c (.int 10))) (.c (.int 3))) (.c (.int 0))) (.lst (.cons (.c (.int 50)) (.cons (.c (.int 51)) .nil))) (.lst .nil)))
def s_law_4 : IP.S := (.asg 5 (.call i__law_formula (.e (.v 3) (.nl (.cons (.c (.int 0)) (.cons (.bin .mod (.idx (.v 3) (.c (.int 0))) (.c (.int 40))) .nil)) (.e (.v 2) (.e (.c (.int 3)) (.e (.v 4) .nil))))) []))
def s_law_5 : IP.S := (.ife (.bin .gt (.bin .mod (.idx (.v 1) (.c (.int 11))) (.c (.int 3))) (.c (.int 0))) (.cons (.asg 5 (.call i__law_spoilt_formula (.e (.v 5) (.e (.v 1) (.e (.c (.int 20)) .nil))) [])) .nil) .nil)
def s_law_6 : IP.S := (.asg 6 (.call i__law_is_formula (.e (.v 2) (.e (.v 5) .nil)) []))
def s_law_7 : IP.S := (.ife (.bin .ne (.call i_is_formula (.e (.v 2) (.e (.v 5) .nil)) []) (.v 6)) (.cons (.ret (.c (.bool false))) .nil) .nil)
def s_law_8 : IP.S := (.ife (.v 6) (.cons (.ret (.bin .eq (.call i_loose (.e (.v 2) (.e (.v 5) .nil)) []) (.call i__law_loose (.e (.v 5) (.e (.lst .nil) .nil)) []))) .nil) .nil)
def s_law_9 : IP.S := (.ret (.call i__law_formula_refused (.e (.bin .mod (.idx (.v 1) (.c (.int 12))) (.c (.int 4))) (.e (.v 2) (.e (.v 5) .nil))) []))
def b_law : IP.SL := (.cons s_law_0 (.cons s_law_1 (.cons s_law_2 (.cons s_law_3 (.cons s_law_4 (.cons s_law_5 (.cons s_law_6 (.cons s_law_7 (.cons s_law_8 (.cons s_law_9 .nil))))))))))
def P : List IP.Def := [⟨3, 3, b_is_within, false⟩, ⟨2, 1, b_is_word, false⟩, ⟨2, 1, b_is_book, false⟩, ⟨1, 1, b_look, false⟩, ⟨5, 2, b_places_of, false⟩, ⟨2, 2, b_is_thing, false⟩, ⟨3, 2, b_is_fact, false⟩, ⟨3, 3, b_is_formed, false⟩, ⟨1, 1, b_thing_text, false⟩, ⟨2, 1, b_written, false⟩, ⟨1, 1, b_brought, false⟩, ⟨3, 2, b_is_formula_of, false⟩, ⟨2, 2, b_is_formula, false⟩, ⟨2, 2, b_look_formula, false⟩, ⟨1, 1, b_things_of, false⟩, ⟨2, 1, b_loose_of, false⟩, ⟨2, 1, b_its_of, false⟩, ⟨2, 2, b_loose, false⟩, ⟨1, 1, b_is_plain, false⟩, ⟨2, 2, b_look_plain, false⟩, ⟨4, 2, b_pushed_of, false⟩, ⟨2, 2, b_pushed, false⟩, ⟨2, 2, b_shown, false⟩, ⟨1, 1, b_opened, false⟩, ⟨5, 4, b_around, false⟩, ⟨1, 1, b_flat_of, false⟩, ⟨2, 2, b_flat, false⟩, ⟨2, 2, b__law_cell, false⟩, ⟨1, 1, b__law_whole, false⟩, ⟨5, 2, b__law_row, false⟩, ⟨7, 1, b__law_book, false⟩, ⟨2, 2, b__law_next, false⟩, ⟨3, 1, b__law_brought, false⟩, ⟨5, 2, b__law_loose, false⟩, ⟨6, 2, b__law_places, false⟩, ⟨2, 2, b__law_is_thing, false⟩, ⟨3, 2, b__law_is_formed, false⟩, ⟨3, 2, b__law_is_formula, false⟩, ⟨17, 5, b__law_formula, false⟩, ⟨7, 3, b__law_spoilt_formula, false⟩, ⟨4, 3, b__law_formula_refused, false⟩, ⟨7, 1, b_law, false⟩]
def NP : List (List Str × List Str) := [((["thing", "low", "high"] : List Str), (["thing", "low", "high"] : List Str)),
  ((["thing", "sign"] : List Str), (["thing"] : List Str)),
  ((["thing", "row"] : List Str), (["thing"] : List Str)),
  ((["book"] : List Str), (["book"] : List Str)),
  ((["book", "word", "found", "one", "kind"] : List Str), (["book", "word"] : List Str)),
  ((["book", "thing"] : List Str), (["book", "thing"] : List Str)),
  ((["book", "thing", "one"] : List Str), (["book", "thing"] : List Str)),
  ((["book", "thing", "deep"] : List Str), (["book", "thing", "deep"] : List Str)),
  ((["thing"] : List Str), (["thing"] : List Str)),
  ((["formula", "one"] : List Str), (["formula"] : List Str)),
  ((["formula"] : List Str), (["formula"] : List Str)),
  ((["book", "thing", "some"] : List Str), (["book", "thing"] : List Str)),
  ((["book", "thing"] : List Str), (["book", "thing"] : List Str)),
  ((["book", "formula"] : List Str), (["book", "formula"] : List Str)),
  ((["formula"] : List Str), (["formula"] : List Str)),
  ((["formula", "one"] : List Str), (["formula"] : List Str)),
  ((["formula", "one"] : List Str), (["formula"] : List Str)),
  ((["book", "formula"] : List Str), (["book", "formula"] : List Str)),
  ((["formula"] : List Str), (["formula"] : List Str)),
  ((["book", "formula"] : List Str), (["book", "formula"] : List Str)),
  ((["formula", "good", "word", "told"] : List Str), (["formula", "good"] : List Str)),
  ((["book", "formula"] : List Str), (["book", "formula"] : List Str)),
  ((["book", "formula"] : List Str), (["book", "formula"] : List Str)),
  ((["formula"] : List Str), (["formula"] : List Str)),
  ((["row", "word", "join", "found", "one"] : List Str), (["row", "word", "join", "found"] : List Str)),
  ((["formula"] : List Str), (["formula"] : List Str)),
  ((["book", "formula"] : List Str), (["book", "formula"] : List Str)),
  ((["_law_script", "_law_k"] : List Str), (["_law_script", "_law_k"] : List Str)),
  ((["_law_found"] : List Str), (["_law_found"] : List Str)),
  ((["_law_script", "_law_at", "_law_cell_here", "_law_found", "_law_time"] : List Str), (["_law_script", "_law_at"] : List Str)),
  ((["_law_row_here", "_law_some", "_law_more_of", "_law_found", "_law_turn", "_law_spot", "_law_one"] : List Str), (["_law_row_here"] : List Str)),
  ((["_law_row_here", "_law_state"] : List Str), (["_law_row_here", "_law_state"] : List Str)),
  ((["_law_formula_here", "_law_found", "_law_part"] : List Str), (["_law_formula_here"] : List Str)),
  ((["_law_formula_here", "_law_known", "_law_found", "_law_part", "_law_one"] : List Str), (["_law_formula_here", "_law_known"] : List Str)),
  ((["_law_book_here", "_law_word", "_law_kinds_here", "_law_found", "_law_one", "_law_kind"] : List Str), (["_law_book_here", "_law_word"] : List Str)),
  ((["_law_book_here", "_law_thing"] : List Str), (["_law_book_here", "_law_thing"] : List Str)),
  ((["_law_book_here", "_law_thing", "_law_one"] : List Str), (["_law_book_here", "_law_thing"] : List Str)),
  ((["_law_book_here", "_law_thing", "_law_some"] : List Str), (["_law_book_here", "_law_thing"] : List Str)),
  ((["_law_row_here", "_law_state", "_law_book_here", "_law_deep", "_law_known", "_law_way", "_law_first", "_law_then", "_law_some", "_law_word", "_law_names_here", "_law_many_things", "_law_place", "_law_number", "_law_pick_at", "_law_kind", "_law_one"] : List Str), (["_law_row_here", "_law_state", "_law_book_here", "_law_deep", "_law_known"] : List Str)),
  ((["_law_formula_here", "_law_row_here", "_law_at", "_law_some", "_law_spots", "_law_spot", "_law_inner"] : List Str), (["_law_formula_here", "_law_row_here", "_law_at"] : List Str)),
  ((["_law_way", "_law_book_here", "_law_formula_here", "e"] : List Str), (["_law_way", "_law_book_here", "_law_formula_here"] : List Str)),
  ((["_law_script", "_law_row_here", "_law_book_here", "_law_here", "_law_known", "_law_formula_here", "_law_due"] : List Str), (["_law_script"] : List Str))]
def rows : List IP.Row := [⟨0, "is_within", [], false⟩, ⟨1, "is_word", [], false⟩, ⟨2, "is_book", [], false⟩, ⟨3, "look", [], false⟩, ⟨4, "places_of", [], false⟩, ⟨5, "is_thing", [], false⟩, ⟨6, "is_fact", [], false⟩, ⟨7, "is_formed", [], false⟩, ⟨8, "thing_text", [], false⟩, ⟨9, "written", [], false⟩, ⟨10, "brought", [], false⟩, ⟨11, "is_formula_of", [], false⟩, ⟨12, "is_formula", [], false⟩, ⟨13, "look_formula", [], false⟩, ⟨14, "things_of", [], false⟩, ⟨15, "loose_of", [], false⟩, ⟨16, "its_of", [], false⟩, ⟨17, "loose", [], false⟩, ⟨18, "is_plain", [], false⟩, ⟨19, "look_plain", [], false⟩, ⟨20, "pushed_of", [], false⟩, ⟨21, "pushed", [], false⟩, ⟨22, "shown", [], false⟩, ⟨23, "opened", [], false⟩, ⟨24, "around", [], false⟩, ⟨25, "flat_of", [], false⟩, ⟨26, "flat", [], false⟩, ⟨27, "_law_cell", [], false⟩, ⟨28, "_law_whole", [], false⟩, ⟨29, "_law_row", [], false⟩, ⟨30, "_law_book", [], false⟩, ⟨31, "_law_next", [], false⟩, ⟨32, "_law_brought", [], false⟩, ⟨33, "_law_loose", [], false⟩, ⟨34, "_law_places", [], false⟩, ⟨35, "_law_is_thing", [], false⟩, ⟨36, "_law_is_formed", [], false⟩, ⟨37, "_law_is_formula", [], false⟩, ⟨38, "_law_formula", [], false⟩, ⟨39, "_law_spoilt_formula", [], false⟩, ⟨40, "_law_formula_refused", [], false⟩, ⟨41, "law", [], false⟩]
def gl : List (Str × IP.D) := [("KINDS", g_KINDS), ("OWN", g_OWN), ("SMALL", g_SMALL), ("MOST_WORDS", g_MOST_WORDS), ("MOST_LETTERS", g_MOST_LETTERS), ("OF_TWO", g_OF_TWO), ("OF_ANY", g_OF_ANY), ("MOST_THING", g_MOST_THING), ("MOST_DEEP", g_MOST_DEEP)]
def tb : List (Str × List (Str × IP.D)) := [("PLACES", t_PLACES)]
def excs : List Str := []
def exis : IP.Xt := { is := [("BadFormula", "BadTree", false), ("BadFormula", "TalkError", true)], kw := [], cm := [], xf := [⟨"BadFormula", "TalkError", "formula"⟩] }
-- METH 
-- XF BadFormula:self,formula
def free : List Str := ["bool", "enumerate", "int", "isinstance", "len", "list", "range", "reversed", "set", "sorted", "str", "tuple"]

/-! ### the text -/
def top (i : Nat) : Stmt := PySem.Challenge.pw_scopeshelf_k08_formulas.main.body.getD i (.Pass ⟨0, 0, 0, 0⟩)
def mkd (c : Str) (s : Stmt) : He.DefD := ⟨(c, none), c, c, defArgs s, defBody s, defScope s, [], []⟩
def inC (s : Stmt) (j : Nat) : Stmt := match s with
  | .ClassDef _ _ _ b _ _ _ _ _ _ _ => b.getD j s
  | _ => s
def mkm (c m q : Str) (s : Stmt) : He.DefD := ⟨(c, some m), m, q, defArgs s, defBody s, defScope s, [], []⟩
def fn : List He.DefD := [mkd "is_within" (top 12),
  mkd "is_word" (top 13),
  mkd "is_book" (top 14),
  mkd "look" (top 15),
  mkd "places_of" (top 16),
  mkd "is_thing" (top 22),
  mkd "is_fact" (top 23),
  mkd "is_formed" (top 24),
  mkd "thing_text" (top 25),
  mkd "written" (top 26),
  mkd "brought" (top 27),
  mkd "is_formula_of" (top 28),
  mkd "is_formula" (top 29),
  mkd "look_formula" (top 30),
  mkd "things_of" (top 31),
  mkd "loose_of" (top 32),
  mkd "its_of" (top 33),
  mkd "loose" (top 34),
  mkd "is_plain" (top 35),
  mkd "look_plain" (top 36),
  mkd "pushed_of" (top 39),
  mkd "pushed" (top 40),
  mkd "shown" (top 42),
  mkd "opened" (top 44),
  mkd "around" (top 45),
  mkd "flat_of" (top 46),
  mkd "flat" (top 47),
  mkd "_law_cell" (top 49),
  mkd "_law_whole" (top 50),
  mkd "_law_row" (top 51),
  mkd "_law_book" (top 52),
  mkd "_law_next" (top 53),
  mkd "_law_brought" (top 54),
  mkd "_law_loose" (top 55),
  mkd "_law_places" (top 56),
  mkd "_law_is_thing" (top 57),
  mkd "_law_is_formed" (top 58),
  mkd "_law_is_formula" (top 59),
  mkd "_law_formula" (top 60),
  mkd "_law_spoilt_formula" (top 61),
  mkd "_law_formula_refused" (top 62),
  mkd "law" (top 63),
  mkm "BadFormula" "__init__" "BadFormula.__init__" (inC (top 4) 0)]
def fa : List He.Fa := [.glo "is_within", .glo "is_word", .glo "is_book", .glo "look", .glo "places_of", .glo "is_thing", .glo "is_fact", .glo "is_formed", .glo "thing_text", .glo "written", .glo "brought", .glo "is_formula_of", .glo "is_formula", .glo "look_formula", .glo "things_of", .glo "loose_of", .glo "its_of", .glo "loose", .glo "is_plain", .glo "look_plain", .glo "pushed_of", .glo "pushed", .glo "shown", .glo "opened", .glo "around", .glo "flat_of", .glo "flat", .glo "_law_cell", .glo "_law_whole", .glo "_law_row", .glo "_law_book", .glo "_law_next", .glo "_law_brought", .glo "_law_loose", .glo "_law_places", .glo "_law_is_thing", .glo "_law_is_formed", .glo "_law_is_formula", .glo "_law_formula", .glo "_law_spoilt_formula", .glo "_law_formula_refused", .glo "law", .free "bool", .free "enumerate", .free "int", .free "isinstance", .free "len", .free "list", .free "range", .free "reversed", .free "set", .free "sorted", .free "str", .free "tuple"]
def T : List IP.Fn := IP.tabOf fn NP
theorem tab : IP.Tab P T rows gl free tb excs exis := IP.tabB_ok (by kernel_rfl)
section
variable {K : PySem.W.Frag} {h : Heap} {mg : Str → Option Value} {w : World}
theorem row0 (X : K.In h) (G : h.Ns mainGlobals mg) (c : He.SaysD fa fn K) : IP.RowOk T K mg ⟨0, "is_within", [], false⟩ := by
  obtain ⟨fd, F⟩ := c.def_ 0
  exact ⟨_, _, fd, _, _, rfl, rfl, F, He.glo_ok X G (c.fact 0 (f := .glo "is_within")), [], [], F.bindsN fun _ _ _ _ _ _ us hl => match us, hl with | [_, _, _], _ => rfl, .nil, fun _ _ => .nil⟩
theorem row1 (X : K.In h) (G : h.Ns mainGlobals mg) (c : He.SaysD fa fn K) : IP.RowOk T K mg ⟨1, "is_word", [], false⟩ := by
  obtain ⟨fd, F⟩ := c.def_ 1
  exact ⟨_, _, fd, _, _, rfl, rfl, F, He.glo_ok X G (c.fact 1 (f := .glo "is_word")), [], [], F.bindsN fun _ _ _ _ _ _ us hl => match us, hl with | [_], _ => rfl, .nil, fun _ _ => .nil⟩
theorem row2 (X : K.In h) (G : h.Ns mainGlobals mg) (c : He.SaysD fa fn K) : IP.RowOk T K mg ⟨2, "is_book", [], false⟩ := by
  obtain ⟨fd, F⟩ := c.def_ 2
  exact ⟨_, _, fd, _, _, rfl, rfl, F, He.glo_ok X G (c.fact 2 (f := .glo "is_book")), [], [], F.bindsN fun _ _ _ _ _ _ us hl => match us, hl with | [_], _ => rfl, .nil, fun _ _ => .nil⟩
theorem row3 (X : K.In h) (G : h.Ns mainGlobals mg) (c : He.SaysD fa fn K) : IP.RowOk T K mg ⟨3, "look", [], false⟩ := by
  obtain ⟨fd, F⟩ := c.def_ 3
  exact ⟨_, _, fd, _, _, rfl, rfl, F, He.glo_ok X G (c.fact 3 (f := .glo "look")), [], [], F.bindsN fun _ _ _ _ _ _ us hl => match us, hl with | [_], _ => rfl, .nil, fun _ _ => .nil⟩
theorem row4 (X : K.In h) (G : h.Ns mainGlobals mg) (c : He.SaysD fa fn K) : IP.RowOk T K mg ⟨4, "places_of", [], false⟩ := by
  obtain ⟨fd, F⟩ := c.def_ 4
  exact ⟨_, _, fd, _, _, rfl, rfl, F, He.glo_ok X G (c.fact 4 (f := .glo "places_of")), [], [], F.bindsN fun _ _ _ _ _ _ us hl => match us, hl with | [_, _], _ => rfl, .nil, fun _ _ => .nil⟩
theorem row5 (X : K.In h) (G : h.Ns mainGlobals mg) (c : He.SaysD fa fn K) : IP.RowOk T K mg ⟨5, "is_thing", [], false⟩ := by
  obtain ⟨fd, F⟩ := c.def_ 5
  exact ⟨_, _, fd, _, _, rfl, rfl, F, He.glo_ok X G (c.fact 5 (f := .glo "is_thing")), [], [], F.bindsN fun _ _ _ _ _ _ us hl => match us, hl with | [_, _], _ => rfl, .nil, fun _ _ => .nil⟩
theorem row6 (X : K.In h) (G : h.Ns mainGlobals mg) (c : He.SaysD fa fn K) : IP.RowOk T K mg ⟨6, "is_fact", [], false⟩ := by
  obtain ⟨fd, F⟩ := c.def_ 6
  exact ⟨_, _, fd, _, _, rfl, rfl, F, He.glo_ok X G (c.fact 6 (f := .glo "is_fact")), [], [], F.bindsN fun _ _ _ _ _ _ us hl => match us, hl with | [_, _], _ => rfl, .nil, fun _ _ => .nil⟩
theorem row7 (X : K.In h) (G : h.Ns mainGlobals mg) (c : He.SaysD fa fn K) : IP.RowOk T K mg ⟨7, "is_formed", [], false⟩ := by
  obtain ⟨fd, F⟩ := c.def_ 7
  exact ⟨_, _, fd, _, _, rfl, rfl, F, He.glo_ok X G (c.fact 7 (f := .glo "is_formed")), [], [], F.bindsN fun _ _ _ _ _ _ us hl => match us, hl with | [_, _, _], _ => rfl, .nil, fun _ _ => .nil⟩
theorem row8 (X : K.In h) (G : h.Ns mainGlobals mg) (c : He.SaysD fa fn K) : IP.RowOk T K mg ⟨8, "thing_text", [], false⟩ := by
  obtain ⟨fd, F⟩ := c.def_ 8
  exact ⟨_, _, fd, _, _, rfl, rfl, F, He.glo_ok X G (c.fact 8 (f := .glo "thing_text")), [], [], F.bindsN fun _ _ _ _ _ _ us hl => match us, hl with | [_], _ => rfl, .nil, fun _ _ => .nil⟩
theorem row9 (X : K.In h) (G : h.Ns mainGlobals mg) (c : He.SaysD fa fn K) : IP.RowOk T K mg ⟨9, "written", [], false⟩ := by
  obtain ⟨fd, F⟩ := c.def_ 9
  exact ⟨_, _, fd, _, _, rfl, rfl, F, He.glo_ok X G (c.fact 9 (f := .glo "written")), [], [], F.bindsN fun _ _ _ _ _ _ us hl => match us, hl with | [_], _ => rfl, .nil, fun _ _ => .nil⟩
theorem row10 (X : K.In h) (G : h.Ns mainGlobals mg) (c : He.SaysD fa fn K) : IP.RowOk T K mg ⟨10, "brought", [], false⟩ := by
  obtain ⟨fd, F⟩ := c.def_ 10
  exact ⟨_, _, fd, _, _, rfl, rfl, F, He.glo_ok X G (c.fact 10 (f := .glo "brought")), [], [], F.bindsN fun _ _ _ _ _ _ us hl => match us, hl with | [_], _ => rfl, .nil, fun _ _ => .nil⟩
theorem row11 (X : K.In h) (G : h.Ns mainGlobals mg) (c : He.SaysD fa fn K) : IP.RowOk T K mg ⟨11, "is_formula_of", [], false⟩ := by
  obtain ⟨fd, F⟩ := c.def_ 11
  exact ⟨_, _, fd, _, _, rfl, rfl, F, He.glo_ok X G (c.fact 11 (f := .glo "is_formula_of")), [], [], F.bindsN fun _ _ _ _ _ _ us hl => match us, hl with | [_, _], _ => rfl, .nil, fun _ _ => .nil⟩
theorem row12 (X : K.In h) (G : h.Ns mainGlobals mg) (c : He.SaysD fa fn K) : IP.RowOk T K mg ⟨12, "is_formula", [], false⟩ := by
  obtain ⟨fd, F⟩ := c.def_ 12
  exact ⟨_, _, fd, _, _, rfl, rfl, F, He.glo_ok X G (c.fact 12 (f := .glo "is_formula")), [], [], F.bindsN fun _ _ _ _ _ _ us hl => match us, hl with | [_, _], _ => rfl, .nil, fun _ _ => .nil⟩
theorem row13 (X : K.In h) (G : h.Ns mainGlobals mg) (c : He.SaysD fa fn K) : IP.RowOk T K mg ⟨13, "look_formula", [], false⟩ := by
  obtain ⟨fd, F⟩ := c.def_ 13
  exact ⟨_, _, fd, _, _, rfl, rfl, F, He.glo_ok X G (c.fact 13 (f := .glo "look_formula")), [], [], F.bindsN fun _ _ _ _ _ _ us hl => match us, hl with | [_, _], _ => rfl, .nil, fun _ _ => .nil⟩
theorem row14 (X : K.In h) (G : h.Ns mainGlobals mg) (c : He.SaysD fa fn K) : IP.RowOk T K mg ⟨14, "things_of", [], false⟩ := by
  obtain ⟨fd, F⟩ := c.def_ 14
  exact ⟨_, _, fd, _, _, rfl, rfl, F, He.glo_ok X G (c.fact 14 (f := .glo "things_of")), [], [], F.bindsN fun _ _ _ _ _ _ us hl => match us, hl with | [_], _ => rfl, .nil, fun _ _ => .nil⟩
theorem row15 (X : K.In h) (G : h.Ns mainGlobals mg) (c : He.SaysD fa fn K) : IP.RowOk T K mg ⟨15, "loose_of", [], false⟩ := by
  obtain ⟨fd, F⟩ := c.def_ 15
  exact ⟨_, _, fd, _, _, rfl, rfl, F, He.glo_ok X G (c.fact 15 (f := .glo "loose_of")), [], [], F.bindsN fun _ _ _ _ _ _ us hl => match us, hl with | [_], _ => rfl, .nil, fun _ _ => .nil⟩
theorem row16 (X : K.In h) (G : h.Ns mainGlobals mg) (c : He.SaysD fa fn K) : IP.RowOk T K mg ⟨16, "its_of", [], false⟩ := by
  obtain ⟨fd, F⟩ := c.def_ 16
  exact ⟨_, _, fd, _, _, rfl, rfl, F, He.glo_ok X G (c.fact 16 (f := .glo "its_of")), [], [], F.bindsN fun _ _ _ _ _ _ us hl => match us, hl with | [_], _ => rfl, .nil, fun _ _ => .nil⟩
theorem row17 (X : K.In h) (G : h.Ns mainGlobals mg) (c : He.SaysD fa fn K) : IP.RowOk T K mg ⟨17, "loose", [], false⟩ := by
  obtain ⟨fd, F⟩ := c.def_ 17
  exact ⟨_, _, fd, _, _, rfl, rfl, F, He.glo_ok X G (c.fact 17 (f := .glo "loose")), [], [], F.bindsN fun _ _ _ _ _ _ us hl => match us, hl with | [_, _], _ => rfl, .nil, fun _ _ => .nil⟩
theorem row18 (X : K.In h) (G : h.Ns mainGlobals mg) (c : He.SaysD fa fn K) : IP.RowOk T K mg ⟨18, "is_plain", [], false⟩ := by
  obtain ⟨fd, F⟩ := c.def_ 18
  exact ⟨_, _, fd, _, _, rfl, rfl, F, He.glo_ok X G (c.fact 18 (f := .glo "is_plain")), [], [], F.bindsN fun _ _ _ _ _ _ us hl => match us, hl with | [_], _ => rfl, .nil, fun _ _ => .nil⟩
theorem row19 (X : K.In h) (G : h.Ns mainGlobals mg) (c : He.SaysD fa fn K) : IP.RowOk T K mg ⟨19, "look_plain", [], false⟩ := by
  obtain ⟨fd, F⟩ := c.def_ 19
  exact ⟨_, _, fd, _, _, rfl, rfl, F, He.glo_ok X G (c.fact 19 (f := .glo "look_plain")), [], [], F.bindsN fun _ _ _ _ _ _ us hl => match us, hl with | [_, _], _ => rfl, .nil, fun _ _ => .nil⟩
theorem row20 (X : K.In h) (G : h.Ns mainGlobals mg) (c : He.SaysD fa fn K) : IP.RowOk T K mg ⟨20, "pushed_of", [], false⟩ := by
  obtain ⟨fd, F⟩ := c.def_ 20
  exact ⟨_, _, fd, _, _, rfl, rfl, F, He.glo_ok X G (c.fact 20 (f := .glo "pushed_of")), [], [], F.bindsN fun _ _ _ _ _ _ us hl => match us, hl with | [_, _], _ => rfl, .nil, fun _ _ => .nil⟩
theorem row21 (X : K.In h) (G : h.Ns mainGlobals mg) (c : He.SaysD fa fn K) : IP.RowOk T K mg ⟨21, "pushed", [], false⟩ := by
  obtain ⟨fd, F⟩ := c.def_ 21
  exact ⟨_, _, fd, _, _, rfl, rfl, F, He.glo_ok X G (c.fact 21 (f := .glo "pushed")), [], [], F.bindsN fun _ _ _ _ _ _ us hl => match us, hl with | [_, _], _ => rfl, .nil, fun _ _ => .nil⟩
theorem row22 (X : K.In h) (G : h.Ns mainGlobals mg) (c : He.SaysD fa fn K) : IP.RowOk T K mg ⟨22, "shown", [], false⟩ := by
  obtain ⟨fd, F⟩ := c.def_ 22
  exact ⟨_, _, fd, _, _, rfl, rfl, F, He.glo_ok X G (c.fact 22 (f := .glo "shown")), [], [], F.bindsN fun _ _ _ _ _ _ us hl => match us, hl with | [_, _], _ => rfl, .nil, fun _ _ => .nil⟩
theorem row23 (X : K.In h) (G : h.Ns mainGlobals mg) (c : He.SaysD fa fn K) : IP.RowOk T K mg ⟨23, "opened", [], false⟩ := by
  obtain ⟨fd, F⟩ := c.def_ 23
  exact ⟨_, _, fd, _, _, rfl, rfl, F, He.glo_ok X G (c.fact 23 (f := .glo "opened")), [], [], F.bindsN fun _ _ _ _ _ _ us hl => match us, hl with | [_], _ => rfl, .nil, fun _ _ => .nil⟩
theorem row24 (X : K.In h) (G : h.Ns mainGlobals mg) (c : He.SaysD fa fn K) : IP.RowOk T K mg ⟨24, "around", [], false⟩ := by
  obtain ⟨fd, F⟩ := c.def_ 24
  exact ⟨_, _, fd, _, _, rfl, rfl, F, He.glo_ok X G (c.fact 24 (f := .glo "around")), [], [], F.bindsN fun _ _ _ _ _ _ us hl => match us, hl with | [_, _, _, _], _ => rfl, .nil, fun _ _ => .nil⟩
theorem row25 (X : K.In h) (G : h.Ns mainGlobals mg) (c : He.SaysD fa fn K) : IP.RowOk T K mg ⟨25, "flat_of", [], false⟩ := by
  obtain ⟨fd, F⟩ := c.def_ 25
  exact ⟨_, _, fd, _, _, rfl, rfl, F, He.glo_ok X G (c.fact 25 (f := .glo "flat_of")), [], [], F.bindsN fun _ _ _ _ _ _ us hl => match us, hl with | [_], _ => rfl, .nil, fun _ _ => .nil⟩
theorem row26 (X : K.In h) (G : h.Ns mainGlobals mg) (c : He.SaysD fa fn K) : IP.RowOk T K mg ⟨26, "flat", [], false⟩ := by
  obtain ⟨fd, F⟩ := c.def_ 26
  exact ⟨_, _, fd, _, _, rfl, rfl, F, He.glo_ok X G (c.fact 26 (f := .glo "flat")), [], [], F.bindsN fun _ _ _ _ _ _ us hl => match us, hl with | [_, _], _ => rfl, .nil, fun _ _ => .nil⟩
theorem row27 (X : K.In h) (G : h.Ns mainGlobals mg) (c : He.SaysD fa fn K) : IP.RowOk T K mg ⟨27, "_law_cell", [], false⟩ := by
  obtain ⟨fd, F⟩ := c.def_ 27
  exact ⟨_, _, fd, _, _, rfl, rfl, F, He.glo_ok X G (c.fact 27 (f := .glo "_law_cell")), [], [], F.bindsN fun _ _ _ _ _ _ us hl => match us, hl with | [_, _], _ => rfl, .nil, fun _ _ => .nil⟩
theorem row28 (X : K.In h) (G : h.Ns mainGlobals mg) (c : He.SaysD fa fn K) : IP.RowOk T K mg ⟨28, "_law_whole", [], false⟩ := by
  obtain ⟨fd, F⟩ := c.def_ 28
  exact ⟨_, _, fd, _, _, rfl, rfl, F, He.glo_ok X G (c.fact 28 (f := .glo "_law_whole")), [], [], F.bindsN fun _ _ _ _ _ _ us hl => match us, hl with | [_], _ => rfl, .nil, fun _ _ => .nil⟩
theorem row29 (X : K.In h) (G : h.Ns mainGlobals mg) (c : He.SaysD fa fn K) : IP.RowOk T K mg ⟨29, "_law_row", [], false⟩ := by
  obtain ⟨fd, F⟩ := c.def_ 29
  exact ⟨_, _, fd, _, _, rfl, rfl, F, He.glo_ok X G (c.fact 29 (f := .glo "_law_row")), [], [], F.bindsN fun _ _ _ _ _ _ us hl => match us, hl with | [_, _], _ => rfl, .nil, fun _ _ => .nil⟩
theorem row30 (X : K.In h) (G : h.Ns mainGlobals mg) (c : He.SaysD fa fn K) : IP.RowOk T K mg ⟨30, "_law_book", [], false⟩ := by
  obtain ⟨fd, F⟩ := c.def_ 30
  exact ⟨_, _, fd, _, _, rfl, rfl, F, He.glo_ok X G (c.fact 30 (f := .glo "_law_book")), [], [], F.bindsN fun _ _ _ _ _ _ us hl => match us, hl with | [_], _ => rfl, .nil, fun _ _ => .nil⟩
theorem row31 (X : K.In h) (G : h.Ns mainGlobals mg) (c : He.SaysD fa fn K) : IP.RowOk T K mg ⟨31, "_law_next", [], false⟩ := by
  obtain ⟨fd, F⟩ := c.def_ 31
  exact ⟨_, _, fd, _, _, rfl, rfl, F, He.glo_ok X G (c.fact 31 (f := .glo "_law_next")), [], [], F.bindsN fun _ _ _ _ _ _ us hl => match us, hl with | [_, _], _ => rfl, .nil, fun _ _ => .nil⟩
theorem row32 (X : K.In h) (G : h.Ns mainGlobals mg) (c : He.SaysD fa fn K) : IP.RowOk T K mg ⟨32, "_law_brought", [], false⟩ := by
  obtain ⟨fd, F⟩ := c.def_ 32
  exact ⟨_, _, fd, _, _, rfl, rfl, F, He.glo_ok X G (c.fact 32 (f := .glo "_law_brought")), [], [], F.bindsN fun _ _ _ _ _ _ us hl => match us, hl with | [_], _ => rfl, .nil, fun _ _ => .nil⟩
theorem row33 (X : K.In h) (G : h.Ns mainGlobals mg) (c : He.SaysD fa fn K) : IP.RowOk T K mg ⟨33, "_law_loose", [], false⟩ := by
  obtain ⟨fd, F⟩ := c.def_ 33
  exact ⟨_, _, fd, _, _, rfl, rfl, F, He.glo_ok X G (c.fact 33 (f := .glo "_law_loose")), [], [], F.bindsN fun _ _ _ _ _ _ us hl => match us, hl with | [_, _], _ => rfl, .nil, fun _ _ => .nil⟩
theorem row34 (X : K.In h) (G : h.Ns mainGlobals mg) (c : He.SaysD fa fn K) : IP.RowOk T K mg ⟨34, "_law_places", [], false⟩ := by
  obtain ⟨fd, F⟩ := c.def_ 34
  exact ⟨_, _, fd, _, _, rfl, rfl, F, He.glo_ok X G (c.fact 34 (f := .glo "_law_places")), [], [], F.bindsN fun _ _ _ _ _ _ us hl => match us, hl with | [_, _], _ => rfl, .nil, fun _ _ => .nil⟩
theorem row35 (X : K.In h) (G : h.Ns mainGlobals mg) (c : He.SaysD fa fn K) : IP.RowOk T K mg ⟨35, "_law_is_thing", [], false⟩ := by
  obtain ⟨fd, F⟩ := c.def_ 35
  exact ⟨_, _, fd, _, _, rfl, rfl, F, He.glo_ok X G (c.fact 35 (f := .glo "_law_is_thing")), [], [], F.bindsN fun _ _ _ _ _ _ us hl => match us, hl with | [_, _], _ => rfl, .nil, fun _ _ => .nil⟩
theorem row36 (X : K.In h) (G : h.Ns mainGlobals mg) (c : He.SaysD fa fn K) : IP.RowOk T K mg ⟨36, "_law_is_formed", [], false⟩ := by
  obtain ⟨fd, F⟩ := c.def_ 36
  exact ⟨_, _, fd, _, _, rfl, rfl, F, He.glo_ok X G (c.fact 36 (f := .glo "_law_is_formed")), [], [], F.bindsN fun _ _ _ _ _ _ us hl => match us, hl with | [_, _], _ => rfl, .nil, fun _ _ => .nil⟩
theorem row37 (X : K.In h) (G : h.Ns mainGlobals mg) (c : He.SaysD fa fn K) : IP.RowOk T K mg ⟨37, "_law_is_formula", [], false⟩ := by
  obtain ⟨fd, F⟩ := c.def_ 37
  exact ⟨_, _, fd, _, _, rfl, rfl, F, He.glo_ok X G (c.fact 37 (f := .glo "_law_is_formula")), [], [], F.bindsN fun _ _ _ _ _ _ us hl => match us, hl with | [_, _], _ => rfl, .nil, fun _ _ => .nil⟩
theorem row38 (X : K.In h) (G : h.Ns mainGlobals mg) (c : He.SaysD fa fn K) : IP.RowOk T K mg ⟨38, "_law_formula", [], false⟩ := by
  obtain ⟨fd, F⟩ := c.def_ 38
  exact ⟨_, _, fd, _, _, rfl, rfl, F, He.glo_ok X G (c.fact 38 (f := .glo "_law_formula")), [], [], F.bindsN fun _ _ _ _ _ _ us hl => match us, hl with | [_, _, _, _, _], _ => rfl, .nil, fun _ _ => .nil⟩
theorem row39 (X : K.In h) (G : h.Ns mainGlobals mg) (c : He.SaysD fa fn K) : IP.RowOk T K mg ⟨39, "_law_spoilt_formula", [], false⟩ := by
  obtain ⟨fd, F⟩ := c.def_ 39
  exact ⟨_, _, fd, _, _, rfl, rfl, F, He.glo_ok X G (c.fact 39 (f := .glo "_law_spoilt_formula")), [], [], F.bindsN fun _ _ _ _ _ _ us hl => match us, hl with | [_, _, _], _ => rfl, .nil, fun _ _ => .nil⟩
theorem row40 (X : K.In h) (G : h.Ns mainGlobals mg) (c : He.SaysD fa fn K) : IP.RowOk T K mg ⟨40, "_law_formula_refused", [], false⟩ := by
  obtain ⟨fd, F⟩ := c.def_ 40
  exact ⟨_, _, fd, _, _, rfl, rfl, F, He.glo_ok X G (c.fact 40 (f := .glo "_law_formula_refused")), [], [], F.bindsN fun _ _ _ _ _ _ us hl => match us, hl with | [_, _, _], _ => rfl, .nil, fun _ _ => .nil⟩
theorem row41 (X : K.In h) (G : h.Ns mainGlobals mg) (c : He.SaysD fa fn K) : IP.RowOk T K mg ⟨41, "law", [], false⟩ := by
  obtain ⟨fd, F⟩ := c.def_ 41
  exact ⟨_, _, fd, _, _, rfl, rfl, F, He.glo_ok X G (c.fact 41 (f := .glo "law")), [], [], F.bindsN fun _ _ _ _ _ _ us hl => match us, hl with | [_], _ => rfl, .nil, fun _ _ => .nil⟩
theorem xf_BadFormula {K : PySem.W.Frag} {h : Heap} {mg : Str → Option Value} {w : World} (X : K.In h) (G : h.Ns mainGlobals mg) (c : IP.SaysC gl tb excs exis fa fn w K) : IP.XfE w K mg ⟨"BadFormula", "TalkError", "formula"⟩ := by
  obtain ⟨fd, F⟩ := c.d.1.def_ 42
  have o := IP.xfs_ok X G c.d.2.2.2.1.2.2 ⟨"BadFormula", "TalkError", "formula"⟩ (by simp [exis])
  exact ⟨_, _, fd, ["self", "formula"], o.mc, o.ox, o.ini, o.tyI, o.no, fun prog base => IP.xinit_ok F (by kernel_rfl) (by kernel_rfl) o.mp o.rd o.sg o.fc, F.bindsN fun _ _ _ _ _ _ us hl => match us, hl with | [_, _], _ => rfl, o.exm, o.ec, o.xf⟩
theorem xfs_ok (X : K.In h) (G : h.Ns mainGlobals mg) (c : IP.SaysC gl tb excs exis fa fn w K) : ∀ r ∈ exis.xf, IP.XfE w K mg r := IP.rows_cons (xf_BadFormula X G c) (IP.rows_nil)
theorem kws_ok (X : K.In h) (G : h.Ns mainGlobals mg) (c : IP.SaysC gl tb excs exis fa fn w K) : ∀ r ∈ exis.kw, IP.KwOk T K mg r := IP.rows_nil
theorem cms_ok (X : K.In h) (G : h.Ns mainGlobals mg) (c : IP.SaysC gl tb excs exis fa fn w K) : ∀ r ∈ exis.cm, IP.CmOk T K mg r := IP.rows_nil
theorem rows_ok (X : K.In h) (G : h.Ns mainGlobals mg) (c : IP.SaysC gl tb excs exis fa fn w K) : ∀ r ∈ rows, IP.RowOk T K mg r :=
  IP.rows_cons (row0 X G c.d.1) (IP.rows_cons (row1 X G c.d.1) (IP.rows_cons (row2 X G c.d.1) (IP.rows_cons (row3 X G c.d.1) (IP.rows_cons (row4 X G c.d.1) (IP.rows_cons (row5 X G c.d.1) (IP.rows_cons (row6 X G c.d.1) (IP.rows_cons (row7 X G c.d.1) (IP.rows_cons (row8 X G c.d.1) (IP.rows_cons (row9 X G c.d.1) (IP.rows_cons (row10 X G c.d.1) (IP.rows_cons (row11 X G c.d.1) (IP.rows_cons (row12 X G c.d.1) (IP.rows_cons (row13 X G c.d.1) (IP.rows_cons (row14 X G c.d.1) (IP.rows_cons (row15 X G c.d.1) (IP.rows_cons (row16 X G c.d.1) (IP.rows_cons (row17 X G c.d.1) (IP.rows_cons (row18 X G c.d.1) (IP.rows_cons (row19 X G c.d.1) (IP.rows_cons (row20 X G c.d.1) (IP.rows_cons (row21 X G c.d.1) (IP.rows_cons (row22 X G c.d.1) (IP.rows_cons (row23 X G c.d.1) (IP.rows_cons (row24 X G c.d.1) (IP.rows_cons (row25 X G c.d.1) (IP.rows_cons (row26 X G c.d.1) (IP.rows_cons (row27 X G c.d.1) (IP.rows_cons (row28 X G c.d.1) (IP.rows_cons (row29 X G c.d.1) (IP.rows_cons (row30 X G c.d.1) (IP.rows_cons (row31 X G c.d.1) (IP.rows_cons (row32 X G c.d.1) (IP.rows_cons (row33 X G c.d.1) (IP.rows_cons (row34 X G c.d.1) (IP.rows_cons (row35 X G c.d.1) (IP.rows_cons (row36 X G c.d.1) (IP.rows_cons (row37 X G c.d.1) (IP.rows_cons (row38 X G c.d.1) (IP.rows_cons (row39 X G c.d.1) (IP.rows_cons (row40 X G c.d.1) (IP.rows_cons (row41 X G c.d.1) (IP.rows_nil))))))))))))))))))))))))))))))))))))))))))
theorem free_ok (X : K.In h) (G : h.Ns mainGlobals mg) (c : IP.SaysC gl tb excs exis fa fn w K) : ∀ x ∈ free, mg x = none := by
  intro x m
  simp only [free, List.mem_cons, List.not_mem_nil, or_false] at m
  rcases m with rfl | rfl | rfl | rfl | rfl | rfl | rfl | rfl | rfl | rfl | rfl | rfl
  · exact He.free_ok X G (c.d.1.fact 42 (f := .free "bool"))
  · exact He.free_ok X G (c.d.1.fact 43 (f := .free "enumerate"))
  · exact He.free_ok X G (c.d.1.fact 44 (f := .free "int"))
  · exact He.free_ok X G (c.d.1.fact 45 (f := .free "isinstance"))
  · exact He.free_ok X G (c.d.1.fact 46 (f := .free "len"))
  · exact He.free_ok X G (c.d.1.fact 47 (f := .free "list"))
  · exact He.free_ok X G (c.d.1.fact 48 (f := .free "range"))
  · exact He.free_ok X G (c.d.1.fact 49 (f := .free "reversed"))
  · exact He.free_ok X G (c.d.1.fact 50 (f := .free "set"))
  · exact He.free_ok X G (c.d.1.fact 51 (f := .free "sorted"))
  · exact He.free_ok X G (c.d.1.fact 52 (f := .free "str"))
  · exact He.free_ok X G (c.d.1.fact 53 (f := .free "tuple"))
theorem env1 (X : K.In h) (G : h.Ns mainGlobals mg) (c : IP.SaysC gl tb excs exis fa fn w K) : IP.Env1 T rows gl free tb excs exis w K mg := ⟨rows_ok X G c, IP.gls_ok X G c.d.2.1, free_ok X G c, IP.tbs_ok X G c.d.2.2.1 c.d.2.2.2.2, IP.excs_ok X G c.d.2.2.2.1.1, kws_ok X G c, cms_ok X G c, xfs_ok X G c, IP.exis_ok X G c.d.2.2.2.1.2.1⟩
end
/-! ### the head -/
abbrev R : PySem.W.OpenRow := PySem.W.OpenLaw.row PySem.Challenge.rw_scopeshelf_k08_formulas
abbrev hk : PySem.W.Hook := IP.hookC gl tb excs exis fa fn
def ob (s : PySem.W.SharedT) : He.AlT := IP.obsQ gl tb excs exis fa fn (HandSHeadRun.getT s)
theorem ob_eq (s : PySem.W.SharedT) : ob s = hk.obs s.abs := IP.obsQ_eq (HandSHeadRun.getT_eq s)
def loose0 : List PySem.Str := [PySem.Str.ofString "TalkError", PySem.Str.ofString "BadBook", PySem.Str.ofString "BadTree", PySem.Str.ofString "BadFormula", PySem.Str.ofString "KINDS", PySem.Str.ofString "PLACES", PySem.Str.ofString "OWN", PySem.Str.ofString "SMALL", PySem.Str.ofString "MOST_WORDS", PySem.Str.ofString "MOST_LETTERS", PySem.Str.ofString "is_within", PySem.Str.ofString "is_word", PySem.Str.ofString "is_book", PySem.Str.ofString "look", PySem.Str.ofString "places_of", PySem.Str.ofString "OF_TWO", PySem.Str.ofString "OF_ANY", PySem.Str.ofString "MOST_THING", PySem.Str.ofString "MOST_DEEP", PySem.Str.ofString "is_thing"]
def loose1 : List PySem.Str := [PySem.Str.ofString "is_fact", PySem.Str.ofString "is_formed", PySem.Str.ofString "thing_text", PySem.Str.ofString "written", PySem.Str.ofString "brought", PySem.Str.ofString "is_formula_of", PySem.Str.ofString "is_formula", PySem.Str.ofString "look_formula", PySem.Str.ofString "things_of", PySem.Str.ofString "loose_of", PySem.Str.ofString "its_of", PySem.Str.ofString "loose", PySem.Str.ofString "is_plain", PySem.Str.ofString "look_plain", PySem.Str.ofString "DENIED", PySem.Str.ofString "pushed_of", PySem.Str.ofString "pushed", PySem.Str.ofString "shown", PySem.Str.ofString "opened", PySem.Str.ofString "around"]
def loose2 : List PySem.Str := [PySem.Str.ofString "flat_of", PySem.Str.ofString "flat", PySem.Str.ofString "_law_cell", PySem.Str.ofString "_law_whole", PySem.Str.ofString "_law_row", PySem.Str.ofString "_law_book", PySem.Str.ofString "_law_next", PySem.Str.ofString "_law_brought", PySem.Str.ofString "_law_loose", PySem.Str.ofString "_law_places", PySem.Str.ofString "_law_is_thing", PySem.Str.ofString "_law_is_formed", PySem.Str.ofString "_law_is_formula", PySem.Str.ofString "_law_formula", PySem.Str.ofString "_law_spoilt_formula", PySem.Str.ofString "_law_formula_refused"]
def loose : List PySem.Str := loose0 ++ loose1 ++ loose2
theorem runF (w : World) : HandSHeadRun.RunEq R (PySem.W.view R.prog [63]) hk ob 20000 loose (w.withFollow "special-get-raises" false) := by
  intro os
  kernel_rfl
theorem runT (w : World) : HandSHeadRun.RunEq R (PySem.W.view R.prog [63]) hk ob 20000 loose (w.withFollow "special-get-raises" true) := by
  intro os
  kernel_rfl
theorem run (w : World) : HandSHeadRun.RunEq R (PySem.W.view R.prog [63]) hk ob 20000 loose w :=
  PySem.W.byRow2 "special-get-raises" (P := fun w => HandSHeadRun.RunEq R (PySem.W.view R.prog [63]) hk ob 20000 loose w) runF runT w
/-! ### the end -/
theorem facts {Q : Program} {w : World} {K : PySem.W.Frag} {h : Heap} {mg : Str → Option Value} {f : Addr} (X : K.In h) (G : h.Ns mainGlobals mg) (hfa : mg ("law" : Str) = some (.ref f)) (c : IP.SaysC gl tb excs exis fa fn w K) :
    ∃ fd : FuncData, (∀ (s : Shared) (v : Value), BindsTo s fd ⟨[v], []⟩ [("_law_script", v)]) ∧ ∀ base : Heap, K.In base → base.Ns mainGlobals mg → FnOk Q w K mg base (L2.CX Q w) 202 f fd ["_law_script"] (IP.spF false K mg (IP.run P 100) 41) := by
  obtain ⟨fd, F⟩ := c.d.1.def_ 41
  have e := hfa.symm.trans (He.glo_ok X G (c.d.1.fact 41 (f := .glo "law")))
  cases e
  have b := FunD.bindsA (ps := ["_law_script"]) F fun _ _ _ _ _ _ us hl => match us, hl with | [_], _ => rfl
  exact ⟨fd, fun s v => b s [v] rfl, fun base KB GB => IP.fns_ok tab (env1 KB GB c) 100 41 _ _ _ fd _ _ rfl rfl F⟩
end L08

namespace L08
open PySem IP

/-! ### the script, the row -/
theorem w_cell (n : Nat) (st : Store) (ns : List Int) (k : Nat) : IP.run P (n + 1) i__law_cell [.scr ns, .val (.int k)] st = .ok (.int (ns.getD k 0)) st := by
  rw [IP.run_succ (d := ⟨2, 2, b__law_cell, false⟩) rfl]
  show endS st.length (exs (IP.run P n) b__law_cell [.scr ns, .val (.int k)] st) = _
  simp only [b__law_cell, s__law_cell_0, s__law_cell_1, exs_cons, exs_nil, ex_ife, seq_nx, seq_ret, endS_ret, endS_nx, ift_t, ift_f, ift_or, ift_and, ifs_t, ev_ife, and_1, and_2, or_1, or_2, evc_0, evc_1, idx_list', idx_tup', at_0, at_1, at_2, at_3, ix_2_0, ix_2_1, tr_bool, eq_str, eq_int, lt_int', le_int', gt_int', add_int', sub_int', ex, ev, evs, eva, bind_ok, of_some, toS_ok, quiet_ok, get_0, get_s, List.set_cons_zero, List.set_cons_succ, LINE, List.length_cons, List.length_nil, Nat.reduceAdd, Nat.reduceLeDiff, decide_true, List.append_nil, List.map_nil, List.cons_append, List.nil_append]
  by_cases h : k < ns.length
  · have e : decide ((k : Int) < ns.length) = true := by simpa using h
    rw [e]
    simp only [exs_cons, exs_nil, ex_ife, seq_nx, seq_ret, endS_ret, endS_nx, ift_t, ift_f, ift_or, ift_and, ifs_t, ev_ife, and_1, and_2, or_1, or_2, evc_0, evc_1, idx_list', idx_tup', at_0, at_1, at_2, at_3, ix_2_0, ix_2_1, tr_bool, eq_str, eq_int, lt_int', le_int', gt_int', add_int', sub_int', ex, ev, evs, eva, bind_ok, of_some, toS_ok, quiet_ok, get_0, get_s, List.set_cons_zero, List.set_cons_succ, LINE, List.length_cons, List.length_nil, Nat.reduceAdd, Nat.reduceLeDiff, decide_true, List.append_nil, List.map_nil, List.cons_append, List.nil_append, at_nat h, List.getD_eq_getElem?_getD]
    rw [List.getElem?_eq_getElem h]
    simp [R.of, endS, R.toS, RS.seq]
  · have e : decide ((k : Int) < ns.length) = false := by simpa using h
    rw [e]
    simp only [exs_cons, exs_nil, ex_ife, seq_nx, seq_ret, endS_ret, endS_nx, ift_t, ift_f, ift_or, ift_and, ifs_t, ev_ife, and_1, and_2, or_1, or_2, evc_0, evc_1, idx_list', idx_tup', at_0, at_1, at_2, at_3, ix_2_0, ix_2_1, tr_bool, eq_str, eq_int, lt_int', le_int', gt_int', add_int', sub_int', ex, ev, evs, eva, bind_ok, of_some, toS_ok, quiet_ok, get_0, get_s, List.set_cons_zero, List.set_cons_succ, LINE, List.length_cons, List.length_nil, Nat.reduceAdd, Nat.reduceLeDiff, decide_true, List.append_nil, List.map_nil, List.cons_append, List.nil_append]
    rw [List.getD_eq_getElem?_getD, List.getElem?_eq_none (by omega)]
    simp

theorem p18 : op2 .pow (.int 10) (.int 18) = some (.int 1000000000000000000) := by kernel_rfl
theorem range_60 (C : CallF) (env : IP.Env) (st : Store) : evi C (.range1 (.c (.int 60))) env st = .ok (rangeD 0 60) st := by
  rw [evi]
  simp only [exs_cons, exs_nil, ex_ife, seq_nx, seq_ret, endS_ret, endS_nx, ift_t, ift_f, ift_or, ift_and, ifs_t, ev_ife, and_1, and_2, or_1, or_2, evc_0, evc_1, idx_list', idx_tup', at_0, at_1, at_2, at_3, ix_2_0, ix_2_1, tr_bool, eq_str, eq_int, lt_int', le_int', gt_int', add_int', sub_int', ex, ev, evs, eva, bind_ok, of_some, toS_ok, quiet_ok, get_0, get_s, List.set_cons_zero, List.set_cons_succ, LINE, List.length_cons, List.length_nil, Nat.reduceAdd, Nat.reduceLeDiff, decide_true, List.append_nil, List.map_nil, List.cons_append, List.nil_append]
  rfl
theorem w_row (n : Nat) (st : Store) (ns : List Int) (a : Nat) : ∃ l : List Int, l.length = 60 ∧ (∀ x ∈ l, 0 ≤ x) ∧ IP.run P (n + 2) i__law_row [.scr ns, .val (.int a)] st = .ok (.list (l.map PyData.int)) st := by
  rw [IP.run_succ (d := ⟨5, 2, b__law_row, false⟩) rfl]
  have hl := loop_inv (body := fun e s => exs (IP.run P (n + 1)) b__law_row_0 e s) (tg := .n 4)
    (fun xs env s => s = st ∧ ∃ (lo : Nat) (c : Int) (l : List Int) (t : IP.Slot), xs = rangeD lo (60 - lo) ∧ lo ≤ 60 ∧ l.length = lo ∧ (∀ x ∈ l, 0 ≤ x) ∧ env = [.scr ns, .val (.int a), .val (.int c), .own (.list (l.map PyData.int)), t]) ?_ (rangeD 0 60)
    [.scr ns, .val (.int a), .val (.int (ns.getD a 0)), .own (.list []), .un] st ⟨rfl, 0, _, [], _, rfl, by omega, rfl, by simp, rfl⟩
  · obtain ⟨env', st', e, rfl, lo, c, l, t, e1, h1, h2, h3, rfl⟩ := hl
    have h60 : lo = 60 := by
      by_cases h : lo = 60
      · exact h
      · have : 60 - lo = (60 - lo - 1) + 1 := by omega
        rw [this, rangeD] at e1
        cases e1
    refine ⟨l, by omega, h3, ?_⟩
    show endS st'.length (exs (IP.run P (n + 1)) b__law_row [.scr ns, .val (.int a), .un, .un, .un] st') = _
    simp only [b__law_row, s__law_row_0, s__law_row_1, s__law_row_2, s__law_row_3, s__law_row_4, exs_cons, exs_nil, ex_ife, seq_nx, seq_ret, endS_ret, endS_nx, ift_t, ift_f, ift_or, ift_and, ifs_t, ev_ife, and_1, and_2, or_1, or_2, evc_0, evc_1, idx_list', idx_tup', at_0, at_1, at_2, at_3, ix_2_0, ix_2_1, tr_bool, eq_str, eq_int, lt_int', le_int', gt_int', add_int', sub_int', ex, ev, evs, eva, bind_ok, of_some, toS_ok, quiet_ok, get_0, get_s, List.set_cons_zero, List.set_cons_succ, LINE, List.length_cons, List.length_nil, Nat.reduceAdd, Nat.reduceLeDiff, decide_true, List.append_nil, List.map_nil, List.cons_append, List.nil_append, w_cell, ex_for, range_60, e]
    simp
  · rintro x xs env s ⟨rfl, lo, c, l, t, e, h1, h2, h3, rfl⟩
    have hlo : lo < 60 := by
      by_cases h : lo < 60
      · exact h
      · have : 60 - lo = 0 := by omega
        rw [this, rangeD] at e
        cases e
    have e2 : 60 - lo = (60 - (lo + 1)) + 1 := by omega
    rw [e2, rangeD] at e
    injection e with e3 e4
    subst e3
    have hl : decide ((l.map PyData.int).length < LINE) = true := by simp [LINE]; omega
    refine ⟨[.scr ns, .val (.int a), .val (.int c), .own (.list (l.map PyData.int)), .val (.int lo)], ?_⟩
    have em : ((a : Int) + 1 + (lo : Int)) % 20 = (((a + 1 + lo) % 20 : Nat) : Int) := by omega
    have hx : xs = rangeD ((lo + 1 : Nat) : Int) (60 - (lo + 1)) := by rw [e4]; rfl
    by_cases hc : ns.getD a 0 < 1000000000000000000
    · generalize hc' : (c * 48271 + 131 * (lo : Int) + 7 + ns.getD ((a + 1 + lo) % 20) 0) % 2147483647 = c'
      refine ⟨[.scr ns, .val (.int a), .val (.int c'), .own (.list (l.map PyData.int ++ [.int (c' / 11 % 1000)])), .val (.int lo)], s, rfl, ?_, rfl, lo + 1, c', l ++ [c' / 11 % 1000], .val (.int lo), hx, by omega, by simp [h2], ?_, by simp⟩
      · simp only [b__law_row_0, exs_cons, exs_nil, ex_ife, seq_nx, seq_ret, endS_ret, endS_nx, ift_t, ift_f, ift_or, ift_and, ifs_t, ev_ife, and_1, and_2, or_1, or_2, evc_0, evc_1, idx_list', idx_tup', at_0, at_1, at_2, at_3, ix_2_0, ix_2_1, tr_bool, eq_str, eq_int, lt_int', le_int', gt_int', add_int', sub_int', ex, ev, evs, eva, bind_ok, of_some, toS_ok, quiet_ok, get_0, get_s, List.set_cons_zero, List.set_cons_succ, LINE, List.length_cons, List.length_nil, Nat.reduceAdd, Nat.reduceLeDiff, decide_true, List.append_nil, List.map_nil, List.cons_append, List.nil_append, w_cell, p18, decide_eq_true hc, hl, mul_int' (a := c) (b := 48271) (by decide), mod_int' (b := 20) (by decide), em, mul_intl (a := 131) (by decide), mod_int' (b := 2147483647) (by decide), hc']
        simp only [exs_cons, exs_nil, ex_ife, seq_nx, seq_ret, endS_ret, endS_nx, ift_t, ift_f, ift_or, ift_and, ifs_t, ev_ife, and_1, and_2, or_1, or_2, evc_0, evc_1, idx_list', idx_tup', at_0, at_1, at_2, at_3, ix_2_0, ix_2_1, tr_bool, eq_str, eq_int, lt_int', le_int', gt_int', add_int', sub_int', ex, ev, evs, eva, bind_ok, of_some, toS_ok, quiet_ok, get_0, get_s, List.set_cons_zero, List.set_cons_succ, LINE, List.length_cons, List.length_nil, Nat.reduceAdd, Nat.reduceLeDiff, decide_true, List.append_nil, List.map_nil, List.cons_append, List.nil_append, hl, fdiv_int' (b := 11) (by decide), mod_int' (b := 1000) (by decide)]
      · intro x m
        rcases List.mem_append.mp m with m | m
        · exact h3 x m
        · simp at m; omega
    · refine ⟨[.scr ns, .val (.int a), .val (.int (c / 1000)), .own (.list (l.map PyData.int ++ [.int (c % 1000)])), .val (.int lo)], s, rfl, ?_, rfl, lo + 1, c / 1000, l ++ [c % 1000], .val (.int lo), hx, by omega, by simp [h2], ?_, by simp⟩
      · simp only [b__law_row_0, exs_cons, exs_nil, ex_ife, seq_nx, seq_ret, endS_ret, endS_nx, ift_t, ift_f, ift_or, ift_and, ifs_t, ev_ife, and_1, and_2, or_1, or_2, evc_0, evc_1, idx_list', idx_tup', at_0, at_1, at_2, at_3, ix_2_0, ix_2_1, tr_bool, eq_str, eq_int, lt_int', le_int', gt_int', add_int', sub_int', ex, ev, evs, eva, bind_ok, of_some, toS_ok, quiet_ok, get_0, get_s, List.set_cons_zero, List.set_cons_succ, LINE, List.length_cons, List.length_nil, Nat.reduceAdd, Nat.reduceLeDiff, decide_true, List.append_nil, List.map_nil, List.cons_append, List.nil_append, w_cell, p18, decide_eq_false hc, hl, fdiv_int' (b := 1000) (by decide), mod_int' (b := 1000) (by decide)]
      · intro x m
        rcases List.mem_append.mp m with m | m
        · exact h3 x m
        · simp at m; omega

/-! ### the book -/
def enumP : Nat → List (Str × Str) → List D
  | _, [] => []
  | n, p :: r => .tuple [.int n, rowD p] :: enumP (n + 1) r
theorem enum_rows : ∀ (ps : List (Str × Str)) (n : Nat), enumD n (ps.map rowD) = enumP n ps
  | [], n => rfl
  | p :: r, n => by rw [List.map_cons, enumD, enumP, enum_rows r]
def pick (l : List Int) : Nat → List (Str × Str) → List (Str × Str)
  | _, [] => []
  | n, p :: r => if l.getD n 0 % 2 = 0 then p :: pick l (n + 1) r else pick l (n + 1) r
theorem pick_sub (l : List Int) : ∀ (ps : List (Str × Str)) (n : Nat), (pick l n ps).Sublist ps
  | [], n => .slnil
  | p :: r, n => by
    rw [pick]
    split
    · exact (pick_sub l r _).cons_cons _
    · exact (pick_sub l r _).cons _
def okP (l : List Int) : D → Bool
  | .tuple [.int n, _] => decide (l.getD n.toNat 0 % 2 = 0)
  | _ => false
def sndD : D → D
  | .tuple [_, y] => y
  | _ => .none
theorem pick_map (l : List Int) : ∀ (ps : List (Str × Str)) (n : Nat), ((enumP n ps).filter (okP l)).map sndD = (pick l n ps).map rowD
  | [], n => rfl
  | p :: r, n => by
    rw [enumP, pick, List.filter_cons]
    have e : okP l (.tuple [.int n, rowD p]) = decide (l.getD n 0 % 2 = 0) := rfl
    rw [e]
    by_cases h : l.getD n 0 % 2 = 0
    · rw [decide_eq_true h, if_pos rfl, if_pos h, List.map_cons, pick_map l r, List.map_cons]
      rfl
    · rw [decide_eq_false h, if_neg Bool.false_ne_true, if_neg h, pick_map l r]
theorem enumP_mem {x : D} : ∀ {ps : List (Str × Str)} {n : Nat}, x ∈ enumP n ps → ∃ k p, x = .tuple [.int (k : Nat), rowD p] ∧ k < n + ps.length
  | [], n, h => by simp [enumP] at h
  | p :: r, n, h => by
    rw [enumP] at h
    rcases List.mem_cons.mp h with rfl | h
    · exact ⟨n, p, rfl, by simp⟩
    · obtain ⟨k, q, e, hk⟩ := enumP_mem h
      exact ⟨k, q, e, by simp; omega⟩
theorem enumP_len : ∀ {ps : List (Str × Str)} {n : Nat}, (enumP n ps).length = ps.length
  | [], n => rfl
  | p :: r, n => by rw [enumP, List.length_cons, enumP_len, List.length_cons]
theorem w_book (n : Nat) (st : Store) (l : List Int) (hl : l.length = 60) (h0 : ∀ x ∈ l, 0 ≤ x) : ∃ B, Book B ∧ IP.run P (n + 1) i__law_book [.val (.list (l.map PyData.int))] st = .ok (.tuple (B.map rowD)) st := by
  rw [IP.run_succ (d := ⟨7, 1, b__law_book, false⟩) rfl]
  have hk : (base6 ++ pick l 0 more6).length ≤ 12 := by
    have := (pick_sub l more6 0).length_le
    simp [base6, more6] at this ⊢
    omega
  have hk0 : 0 < (base6 ++ pick l 0 more6).length := by simp [base6]
  generalize hB : base6 ++ pick l 0 more6 = B0 at hk hk0
  generalize ht : (l.getD 7 0).toNat % B0.length = tn
  have h7 : 0 ≤ l.getD 7 0 := by
    rw [List.getD_eq_getElem?_getD, List.getElem?_eq_getElem (by omega)]
    exact h0 _ (List.getElem_mem _)
  have htn : tn < B0.length := by rw [← ht]; exact Nat.mod_lt _ hk0
  have et : l.getD 7 0 % (B0.length : Int) = (tn : Int) := by
    obtain ⟨z, hz⟩ : ∃ z : Nat, l.getD 7 0 = z := ⟨_, (Int.toNat_of_nonneg h7).symm⟩
    rw [hz] at ht ⊢
    rw [← ht]
    simp
  refine ⟨B0.drop tn ++ B0.take tn, ⟨pick l 0 more6, pick_sub l more6 0, ?_⟩, ?_⟩
  · rw [hB]
    exact (List.perm_append_comm).trans (by rw [List.take_append_drop])
  · have a0 : ∀ C st, ex C s__law_book_0 [.val (.list (l.map PyData.int)), .un, .un, .un, .un, .un, .un] st = .nx [.val (.list (l.map PyData.int)), .val (.list (base6.map rowD)), .un, .un, .un, .un, .un] st := fun C st => by
      simp only [s__law_book_0, exs_cons, exs_nil, ex_ife, seq_nx, seq_ret, endS_ret, endS_nx, ift_t, ift_f, ift_or, ift_and, ifs_t, ev_ife, and_1, and_2, or_1, or_2, evc_0, evc_1, idx_list', idx_tup', at_0, at_1, at_2, at_3, ix_2_0, ix_2_1, tr_bool, eq_str, eq_int, lt_int', le_int', gt_int', add_int', sub_int', ex, ev, evs, eva, bind_ok, of_some, toS_ok, quiet_ok, get_0, get_s, List.set_cons_zero, List.set_cons_succ, LINE, List.length_cons, List.length_nil, Nat.reduceAdd, Nat.reduceLeDiff, decide_true, List.append_nil, List.map_nil, List.cons_append, List.nil_append]
      rfl
    have a1 : ∀ C st, ex C s__law_book_1 [.val (.list (l.map PyData.int)), .val (.list (base6.map rowD)), .un, .un, .un, .un, .un] st = .nx [.val (.list (l.map PyData.int)), .val (.list (base6.map rowD)), .val (.list (more6.map rowD)), .un, .un, .un, .un] st := fun C st => by
      simp only [s__law_book_1, exs_cons, exs_nil, ex_ife, seq_nx, seq_ret, endS_ret, endS_nx, ift_t, ift_f, ift_or, ift_and, ifs_t, ev_ife, and_1, and_2, or_1, or_2, evc_0, evc_1, idx_list', idx_tup', at_0, at_1, at_2, at_3, ix_2_0, ix_2_1, tr_bool, eq_str, eq_int, lt_int', le_int', gt_int', add_int', sub_int', ex, ev, evs, eva, bind_ok, of_some, toS_ok, quiet_ok, get_0, get_s, List.set_cons_zero, List.set_cons_succ, LINE, List.length_cons, List.length_nil, Nat.reduceAdd, Nat.reduceLeDiff, decide_true, List.append_nil, List.map_nil, List.cons_append, List.nil_append]
      rfl
    have hc : ∀ C st, ev C (.lc [5, 6] (.t [5, 6]) (.enum (.v 2)) (.cons (.bin .eq (.bin .mod (.idx (.v 0) (.v 5)) (.c (.int 2))) (.c (.int 0))) .nil) (.v 6)) [.val (.list (l.map PyData.int)), .val (.list (base6.map rowD)), .val (.list (more6.map rowD)), .un, .un, .un, .un] st = .ok (.list ((pick l 0 more6).map rowD)) st := fun C st => by
      rw [ev_lc rfl]
      have ei : evi C (.enum (.v 2)) [.val (.list (l.map PyData.int)), .val (.list (base6.map rowD)), .val (.list (more6.map rowD)), .un, .un, .un, .un] st = .ok (enumP 0 more6) st := by
        rw [evi]
        simp only [exs_cons, exs_nil, ex_ife, seq_nx, seq_ret, endS_ret, endS_nx, ift_t, ift_f, ift_or, ift_and, ifs_t, ev_ife, and_1, and_2, or_1, or_2, evc_0, evc_1, idx_list', idx_tup', at_0, at_1, at_2, at_3, ix_2_0, ix_2_1, tr_bool, eq_str, eq_int, lt_int', le_int', gt_int', add_int', sub_int', ex, ev, evs, eva, bind_ok, of_some, toS_ok, quiet_ok, get_0, get_s, List.set_cons_zero, List.set_cons_succ, LINE, List.length_cons, List.length_nil, Nat.reduceAdd, Nat.reduceLeDiff, decide_true, List.append_nil, List.map_nil, List.cons_append, List.nil_append, enum_rows]
      rw [ei, bind_ok, loopE_filter (p := okP l) (f := sndD), pick_map]
      · rfl
      · intro x m
        obtain ⟨k, p, rfl, hk⟩ := enumP_mem m
        have hk : k < l.length := by simp [more6] at hk; omega
        refine ⟨[.val (.list (l.map PyData.int)), .val (.list (base6.map rowD)), .val (.list (more6.map rowD)), .un, .un, .val (.int (k : Nat)), .val (rowD p)], rfl, ?_, fun _ => ?_⟩
        · simp only [exs_cons, exs_nil, ex_ife, seq_nx, seq_ret, endS_ret, endS_nx, ift_t, ift_f, ift_or, ift_and, ifs_t, ev_ife, and_1, and_2, or_1, or_2, evc_0, evc_1, idx_list', idx_tup', at_0, at_1, at_2, at_3, ix_2_0, ix_2_1, tr_bool, eq_str, eq_int, lt_int', le_int', gt_int', add_int', sub_int', ex, ev, evs, eva, bind_ok, of_some, toS_ok, quiet_ok, get_0, get_s, List.set_cons_zero, List.set_cons_succ, LINE, List.length_cons, List.length_nil, Nat.reduceAdd, Nat.reduceLeDiff, decide_true, List.append_nil, List.map_nil, List.cons_append, List.nil_append, row_at hk, mod_int' (b := 2) (by decide)]
          rfl
        · simp only [exs_cons, exs_nil, ex_ife, seq_nx, seq_ret, endS_ret, endS_nx, ift_t, ift_f, ift_or, ift_and, ifs_t, ev_ife, and_1, and_2, or_1, or_2, evc_0, evc_1, idx_list', idx_tup', at_0, at_1, at_2, at_3, ix_2_0, ix_2_1, tr_bool, eq_str, eq_int, lt_int', le_int', gt_int', add_int', sub_int', ex, ev, evs, eva, bind_ok, of_some, toS_ok, quiet_ok, get_0, get_s, List.set_cons_zero, List.set_cons_succ, LINE, List.length_cons, List.length_nil, Nat.reduceAdd, Nat.reduceLeDiff, decide_true, List.append_nil, List.map_nil, List.cons_append, List.nil_append]
          rfl
      · rw [enumP_len]
        decide
    have a2 : ∀ C st, ex C s__law_book_2 [.val (.list (l.map PyData.int)), .val (.list (base6.map rowD)), .val (.list (more6.map rowD)), .un, .un, .un, .un] st = .nx [.val (.list (l.map PyData.int)), .val (.list (base6.map rowD)), .val (.list (more6.map rowD)), .val (.list (B0.map rowD)), .un, .un, .un] st := fun C st => by
      have hlen : decide ((base6.map rowD).length + ((pick l 0 more6).map rowD).length ≤ LINE) = true := by
        have := (pick_sub l more6 0).length_le
        simp [base6, more6, LINE] at this ⊢
        omega
      have hv : ev C (.v 1) [.val (.list (l.map PyData.int)), .val (.list (base6.map rowD)), .val (.list (more6.map rowD)), .un, .un, .un, .un] st = .ok (.list (base6.map rowD)) st := by simp only [exs_cons, exs_nil, ex_ife, seq_nx, seq_ret, endS_ret, endS_nx, ift_t, ift_f, ift_or, ift_and, ifs_t, ev_ife, and_1, and_2, or_1, or_2, evc_0, evc_1, idx_list', idx_tup', at_0, at_1, at_2, at_3, ix_2_0, ix_2_1, tr_bool, eq_str, eq_int, lt_int', le_int', gt_int', add_int', sub_int', ex, ev, evs, eva, bind_ok, of_some, toS_ok, quiet_ok, get_0, get_s, List.set_cons_zero, List.set_cons_succ, LINE, List.length_cons, List.length_nil, Nat.reduceAdd, Nat.reduceLeDiff, decide_true, List.append_nil, List.map_nil, List.cons_append, List.nil_append]
      rw [s__law_book_2, ex, ev, hv, bind_ok, hc, bind_ok, add_list, hlen, ← List.map_append, hB]
      rfl
    have h7' : L2.atI (l.map PyData.int) 7 = some (.int (l.getD 7 0)) := row_at (k := 7) (by omega)
    have a3 : ∀ C st, ex C s__law_book_3 [.val (.list (l.map PyData.int)), .val (.list (base6.map rowD)), .val (.list (more6.map rowD)), .val (.list (B0.map rowD)), .un, .un, .un] st = .nx [.val (.list (l.map PyData.int)), .val (.list (base6.map rowD)), .val (.list (more6.map rowD)), .val (.list (B0.map rowD)), .val (.int tn), .un, .un] st := fun C st => by
      have hp : (0 : Int) < (B0.length : Int) := by omega
      simp only [s__law_book_3, exs_cons, exs_nil, ex_ife, seq_nx, seq_ret, endS_ret, endS_nx, ift_t, ift_f, ift_or, ift_and, ifs_t, ev_ife, and_1, and_2, or_1, or_2, evc_0, evc_1, idx_list', idx_tup', at_0, at_1, at_2, at_3, ix_2_0, ix_2_1, tr_bool, eq_str, eq_int, lt_int', le_int', gt_int', add_int', sub_int', ex, ev, evs, eva, bind_ok, of_some, toS_ok, quiet_ok, get_0, get_s, List.set_cons_zero, List.set_cons_succ, LINE, List.length_cons, List.length_nil, Nat.reduceAdd, Nat.reduceLeDiff, decide_true, List.append_nil, List.map_nil, List.cons_append, List.nil_append, h7', f1D, List.length_map, mod_int' hp, et]
    have a4 : ∀ C st, ex C s__law_book_4 [.val (.list (l.map PyData.int)), .val (.list (base6.map rowD)), .val (.list (more6.map rowD)), .val (.list (B0.map rowD)), .val (.int tn), .un, .un] st = .ret (.tuple ((B0.drop tn ++ B0.take tn).map rowD)) st := fun C st => by
      have hcut : decide (((B0.map rowD).drop tn).length + ((B0.map rowD).take tn).length ≤ LINE) = true := by
        simp [LINE]
        omega
      have hle : tn ≤ (B0.map rowD).length := by simp; omega
      simp only [s__law_book_4, exs_cons, exs_nil, ex_ife, seq_nx, seq_ret, endS_ret, endS_nx, ift_t, ift_f, ift_or, ift_and, ifs_t, ev_ife, and_1, and_2, or_1, or_2, evc_0, evc_1, idx_list', idx_tup', at_0, at_1, at_2, at_3, ix_2_0, ix_2_1, tr_bool, eq_str, eq_int, lt_int', le_int', gt_int', add_int', sub_int', ex, ev, evs, eva, bind_ok, of_some, toS_ok, quiet_ok, get_0, get_s, List.set_cons_zero, List.set_cons_succ, LINE, List.length_cons, List.length_nil, Nat.reduceAdd, Nat.reduceLeDiff, decide_true, List.append_nil, List.map_nil, List.cons_append, List.nil_append, evo, slcD, cut_from hle, cut_to hle, add_list]
      rw [show decide (((B0.map rowD).drop tn).length + ((B0.map rowD).take tn).length ≤ 16777216) = true from hcut]
      simp only [exs_cons, exs_nil, ex_ife, seq_nx, seq_ret, endS_ret, endS_nx, ift_t, ift_f, ift_or, ift_and, ifs_t, ev_ife, and_1, and_2, or_1, or_2, evc_0, evc_1, idx_list', idx_tup', at_0, at_1, at_2, at_3, ix_2_0, ix_2_1, tr_bool, eq_str, eq_int, lt_int', le_int', gt_int', add_int', sub_int', ex, ev, evs, eva, bind_ok, of_some, toS_ok, quiet_ok, get_0, get_s, List.set_cons_zero, List.set_cons_succ, LINE, List.length_cons, List.length_nil, Nat.reduceAdd, Nat.reduceLeDiff, decide_true, List.append_nil, List.map_nil, List.cons_append, List.nil_append, f1D]
      rw [List.map_append, List.map_drop, List.map_take]
    show endS st.length (exs (IP.run P n) b__law_book [.val (.list (l.map PyData.int)), .un, .un, .un, .un, .un, .un] st) = _
    rw [b__law_book]
    simp only [exs_cons, a0, a1, a2, a3, a4, seq_nx, seq_ret, endS_ret]
    simp

/-! ### the next number, a word -/
abbrev CS (j : Nat) (m : Int) : Cell := .ml [.int j, .int m]
theorem take_set (st : Store) (c : Nat) (x : Cell) : (st.set c x).take st.length = st.set c x := List.take_of_length_le (by simp)
theorem get_set (st : Store) (c : Nat) (x y : Cell) (h : st[c]? = some y) : (st.set c x)[c]? = some x := by
  have := (List.getElem?_eq_some_iff.mp h).1
  rw [List.getElem?_set_self this]
theorem w_next (n : Nat) (st : Store) (l : List Int) (hl : l.length = 60) (c j : Nat) (m : Int) (h : st[c]? = some (CS j m)) :
    IP.run P (n + 1) i__law_next [.val (.list (l.map PyData.int)), .rf c] st = .ok (.int (l.getD ((j + 1) % 60) 0)) (st.set c (CS ((j + 1) % 60) m)) := by
  rw [IP.run_succ (d := ⟨2, 2, b__law_next, false⟩) rfl]
  have em : ((j : Int) + 1) % 60 = (((j + 1) % 60 : Nat) : Int) := by omega
  have a0 : ∀ C, ex C s__law_next_0 [.val (.list (l.map PyData.int)), .rf c] st = .nx [.val (.list (l.map PyData.int)), .rf c] (st.set c (CS ((j + 1) % 60) m)) := fun C => by
    simp only [s__law_next_0, exs_cons, exs_nil, ex_ife, seq_nx, seq_ret, endS_ret, endS_nx, ift_t, ift_f, ift_or, ift_and, ifs_t, ev_ife, and_1, and_2, or_1, or_2, evc_0, evc_1, idx_list', idx_tup', at_0, at_1, at_2, at_3, ix_2_0, ix_2_1, tr_bool, eq_str, eq_int, lt_int', le_int', gt_int', add_int', sub_int', ex, ev, evs, eva, bind_ok, of_some, toS_ok, quiet_ok, get_0, get_s, List.set_cons_zero, List.set_cons_succ, LINE, List.length_cons, List.length_nil, Nat.reduceAdd, Nat.reduceLeDiff, decide_true, List.append_nil, List.map_nil, List.cons_append, List.nil_append, h, mod_int' (b := 60) (by decide), em]
  have h2 := get_set st c (CS ((j + 1) % 60) m) _ h
  have hr := row_at (l := l) (k := (j + 1) % 60) (by omega)
  have a1 : ∀ C, ex C s__law_next_1 [.val (.list (l.map PyData.int)), .rf c] (st.set c (CS ((j + 1) % 60) m)) = .ret (.int (l.getD ((j + 1) % 60) 0)) (st.set c (CS ((j + 1) % 60) m)) := fun C => by
    simp only [s__law_next_1, exs_cons, exs_nil, ex_ife, seq_nx, seq_ret, endS_ret, endS_nx, ift_t, ift_f, ift_or, ift_and, ifs_t, ev_ife, and_1, and_2, or_1, or_2, evc_0, evc_1, idx_list', idx_tup', at_0, at_1, at_2, at_3, ix_2_0, ix_2_1, tr_bool, eq_str, eq_int, lt_int', le_int', gt_int', add_int', sub_int', ex, ev, evs, eva, bind_ok, of_some, toS_ok, quiet_ok, get_0, get_s, List.set_cons_zero, List.set_cons_succ, LINE, List.length_cons, List.length_nil, Nat.reduceAdd, Nat.reduceLeDiff, decide_true, List.append_nil, List.map_nil, List.cons_append, List.nil_append, h2, hr]
  show endS st.length (exs (IP.run P n) b__law_next [.val (.list (l.map PyData.int)), .rf c] st) = _
  rw [b__law_next]
  simp only [exs_cons, a0, a1, seq_nx, seq_ret, endS_ret, take_set]

abbrev D1 (p : Str × Str) : D := .str p.1
theorem _root_.IP.Book.mem {B : List (Str × Str)} (hB : Book B) {p : Str × Str} (h : p ∈ base6) : p ∈ B := by
  obtain ⟨sub, _, pm⟩ := hB.ex
  exact pm.mem_iff.mpr (List.mem_append_left _ h)
theorem _root_.IP.Book.len {B : List (Str × Str)} (hB : Book B) : B.length ≤ 12 := by
  obtain ⟨sub, sl, pm⟩ := hB.ex
  have := sl.length_le
  rw [pm.length_eq]
  simp [base6, more6] at this ⊢
  omega
theorem _root_.IP.Book.all {B : List (Str × Str)} (hB : Book B) {p : Str × Str} (h : p ∈ B) : p ∈ base6 ++ more6 := by
  obtain ⟨sub, sl, pm⟩ := hB.ex
  rcases List.mem_append.mp (pm.mem_iff.mp h) with h | h
  · exact List.mem_append_left _ h
  · exact List.mem_append_right _ (sl.subset h)
def six : List Str := ["name", "noun", "of", "does", "to", "such"]
theorem six_has {k : Str} (h : k ∈ six) : ∃ w, (w, k) ∈ base6 := by
  simp only [six, List.mem_cons, List.not_mem_nil, or_false] at h
  rcases h with rfl | rfl | rfl | rfl | rfl | rfl
  · exact ⟨"ann", by simp [base6]⟩
  · exact ⟨"man", by simp [base6]⟩
  · exact ⟨"friend", by simp [base6]⟩
  · exact ⟨"sleeps", by simp [base6]⟩
  · exact ⟨"owns", by simp [base6]⟩
  · exact ⟨"tall", by simp [base6]⟩
def kindIs (k : Str) : D → Bool
  | .tuple [_, .str x] => sEq x k
  | _ => false
def fstD : D → D
  | .tuple [x, _] => x
  | _ => .none
theorem kind_filter (k : Str) : ∀ B : List (Str × Str), ((B.map rowD).filter (kindIs k)).map fstD = ((B.filter fun p => sEq p.2 k).map fun p => D1 p)
  | [] => rfl
  | p :: r => by
    rw [List.map_cons, List.filter_cons, List.filter_cons]
    have e : kindIs k (rowD p) = sEq p.2 k := rfl
    rw [e]
    cases sEq p.2 k with
    | true => simp only [if_true, List.map_cons, kind_filter k r]; rfl
    | false => simp only [Bool.false_eq_true, if_false, kind_filter k r]
theorem next_nat {l : List Int} (hl : l.length = 60) (h0 : ∀ x ∈ l, 0 ≤ x) (j : Nat) : ∃ z : Nat, l.getD ((j + 1) % 60) 0 = z := by
  have hz : 0 ≤ l.getD ((j + 1) % 60) 0 := by
    rw [List.getD_eq_getElem?_getD, List.getElem?_eq_getElem (by omega)]
    exact h0 _ (List.getElem_mem _)
  exact ⟨_, (Int.toNat_of_nonneg hz).symm⟩
theorem noDicts_rows : ∀ B : List (Str × Str), noDicts (B.map rowD) = true
  | [] => rfl
  | p :: r => by
    rw [List.map_cons, noDicts, noDicts_rows r]
    rfl
theorem row_depth (w k : Str) : (PyData.tuple [.str w, .str k]).depth ≤ 150 := by
  simp [PyData.depth, PyData.depthAll]
theorem eqv_row (p : Str × Str) : PyData.eqv (rowD p) (rowD p) = true := by
  unfold rowD
  simp [PyData.eqv, PyData.eqvAll]
theorem in_rows {B : List (Str × Str)} {w k : Str} (h : (w, k) ∈ B) : op2 .isin (.tuple [.str w, .str k]) (.tuple (B.map rowD)) = some (.bool true) := by
  have h1 : inOk (.tuple [.str w, .str k]) (B.map rowD) = true := by
    unfold inOk
    rw [noDicts_rows]
    have := row_depth w k
    have e : decide (min (PyData.depthAll (B.map rowD)) (PyData.tuple [.str w, .str k]).depth ≤ 150) = true := by
      simp only [decide_eq_true_eq]
      omega
    rw [e]
    rfl
  have h2 : ((B.map rowD).any fun y => PyData.eqv y (.tuple [.str w, .str k])) = true := by
    rw [List.any_eq_true]
    exact ⟨rowD (w, k), List.mem_map.mpr ⟨_, h, rfl⟩, eqv_row (w, k)⟩
  show ifs (inOk (.tuple [.str w, .str k]) (B.map rowD)) (PyData.bool (xor false ((B.map rowD).any fun y => PyData.eqv y (.tuple [.str w, .str k])))) = _
  rw [h1, h2]
  rfl
/-! ### a drawn book is one -/
def all12 : List (Str × Str) := base6 ++ more6
theorem word_ok (n : Nat) (st : Store) {p : Str × Str} (h : p ∈ all12) : IP.run P (n + 1) i_is_word [.val (.str p.1)] st = .ok (.bool true) st := by
  have key : ∀ w : Str, IP.run P (n + 1) i_is_word [.val (.str w)] st = .ok (.bool true) (st.take st.length) → IP.run P (n + 1) i_is_word [.val (.str w)] st = .ok (.bool true) st := fun w e => by rw [e, List.take_length]
  simp only [all12, base6, more6, List.cons_append, List.nil_append, List.mem_cons, List.not_mem_nil, or_false] at h
  rcases h with rfl | rfl | rfl | rfl | rfl | rfl | rfl | rfl | rfl | rfl | rfl | rfl
  · exact key _ (by kernel_rfl)
  · exact key _ (by kernel_rfl)
  · exact key _ (by kernel_rfl)
  · exact key _ (by kernel_rfl)
  · exact key _ (by kernel_rfl)
  · exact key _ (by kernel_rfl)
  · exact key _ (by kernel_rfl)
  · exact key _ (by kernel_rfl)
  · exact key _ (by kernel_rfl)
  · exact key _ (by kernel_rfl)
  · exact key _ (by kernel_rfl)
  · exact key _ (by kernel_rfl)
theorem kind_ok {p : Str × Str} (h : p ∈ all12) : op2 .notin (.str p.2) g_KINDS = some (.bool false) := by
  simp only [all12, base6, more6, List.cons_append, List.nil_append, List.mem_cons, List.not_mem_nil, or_false] at h
  rcases h with rfl | rfl | rfl | rfl | rfl | rfl | rfl | rfl | rfl | rfl | rfl | rfl <;> kernel_rfl
def nodupS : List Str → Bool
  | [] => true
  | a :: r => (r.all fun b => !sEq a b) && nodupS r
theorem nodupS_ok : ∀ {l : List Str}, nodupS l = true → l.Nodup
  | [], _ => List.nodup_nil
  | a :: r, h => by
    rw [nodupS, Bool.and_eq_true, List.all_eq_true] at h
    refine List.nodup_cons.mpr ⟨fun m => ?_, nodupS_ok h.2⟩
    have := h.1 a m
    rw [sEq_iff.mpr rfl] at this
    cases this
theorem all12_nodup : (all12.map (·.1)).Nodup := nodupS_ok (by kernel_rfl)
theorem _root_.IP.Book.nodup {B : List (Str × Str)} (hB : Book B) : (B.map (·.1)).Nodup := by
  obtain ⟨sub, sl, pm⟩ := hB.ex
  rw [(pm.map _).nodup_iff]
  refine all12_nodup.sublist ?_
  exact ((List.Sublist.refl base6).append sl).map _
theorem keysD_strs : ∀ B : List (Str × Str), keysD (B.map D1) = some (B.map fun p => (.inr p.1 : L2.Key))
  | [] => rfl
  | p :: r => by
    rw [List.map_cons, keysD, keysD_strs r]
    rfl
theorem addKeys_nd : ∀ (ks acc : List L2.Key), (acc ++ ks).Nodup → addKeys ks acc = acc ++ ks
  | [], acc, _ => by rw [addKeys]; simp
  | k :: ks, acc, h => by
    have hk : (acc.any fun j => decide (j = k)) = false := by
      rw [List.any_eq_false]
      intro j m e
      have := (List.nodup_append.mp h).2.2 j m k List.mem_cons_self
      exact this (of_decide_eq_true e)
    rw [addKeys, hk]
    show addKeys ks (acc ++ [k]) = _
    rw [addKeys_nd ks (acc ++ [k]) (by simpa [List.append_assoc] using h)]
    simp
theorem w_is_book (n : Nat) (st : Store) {B : List (Str × Str)} (hB : Book B) : IP.run P (n + 2) i_is_book [.val (.tuple (B.map rowD))] st = .ok (.bool true) st := by
  rw [IP.run_succ (d := ⟨2, 1, b_is_book, false⟩) rfl]
  have hlen := hB.len
  have a0 : ex (IP.run P (n + 1)) s_is_book_0 [.val (.tuple (B.map rowD)), .un] st = .nx [.val (.tuple (B.map rowD)), .un] st := by
    have e : decide ((20 : Int) < (B.length : Int)) = false := by simp; omega
    simp only [s_is_book_0, exs_cons, exs_nil, ex_ife, seq_nx, seq_ret, endS_ret, endS_nx, ift_t, ift_f, ift_or, ift_and, ifs_t, ev_ife, and_1, and_2, or_1, or_2, evc_0, evc_1, idx_list', idx_tup', at_0, at_1, at_2, at_3, ix_2_0, ix_2_1, tr_bool, eq_str, eq_int, lt_int', le_int', gt_int', add_int', sub_int', ex, ev, evs, eva, bind_ok, of_some, toS_ok, quiet_ok, get_0, get_s, List.set_cons_zero, List.set_cons_succ, LINE, List.length_cons, List.length_nil, Nat.reduceAdd, Nat.reduceLeDiff, decide_true, List.append_nil, List.map_nil, List.cons_append, List.nil_append, isi_tup, f1D, List.length_map, g_MOST_WORDS, gt_int', e]
    rfl
  have hl : ∀ (ps : List (Str × Str)) (sl : IP.Slot), nonOwn [.val (.tuple (B.map rowD)), sl] 1 = true → (∀ p ∈ ps, p ∈ all12) → ∃ sl', nonOwn [.val (.tuple (B.map rowD)), sl'] 1 = true ∧ loopS (fun e s => exs (IP.run P (n + 1)) b_is_book_0 e s) (.n 1) (ps.map rowD) [.val (.tuple (B.map rowD)), sl] st = .nx [.val (.tuple (B.map rowD)), sl'] st := by
    intro ps
    induction ps with
    | nil => intro sl h0 _; exact ⟨sl, h0, by rw [List.map_nil, loopS]⟩
    | cons p r ih =>
      intro sl h0 h
      have hp := h p List.mem_cons_self
      obtain ⟨sl', h1, e⟩ := ih (.val (rowD p)) rfl fun q m => h q (List.mem_cons_of_mem _ m)
      refine ⟨sl', h1, ?_⟩
      have hb : exs (IP.run P (n + 1)) b_is_book_0 [.val (.tuple (B.map rowD)), .val (.tuple [.str p.1, .str p.2])] st = .nx [.val (.tuple (B.map rowD)), .val (.tuple [.str p.1, .str p.2])] st := by
        have hne : op2 .ne (.int (2 : Nat)) (.int 2) = some (.bool false) := by kernel_rfl
        simp only [b_is_book_0, exs_cons, exs_nil, ex_ife, seq_nx, seq_ret, endS_ret, endS_nx, ift_t, ift_f, ift_or, ift_and, ifs_t, ev_ife, and_1, and_2, or_1, or_2, evc_0, evc_1, idx_list', idx_tup', at_0, at_1, at_2, at_3, ix_2_0, ix_2_1, tr_bool, eq_str, eq_int, lt_int', le_int', gt_int', add_int', sub_int', ex, ev, evs, eva, bind_ok, of_some, toS_ok, quiet_ok, get_0, get_s, List.set_cons_zero, List.set_cons_succ, LINE, List.length_cons, List.length_nil, Nat.reduceAdd, Nat.reduceLeDiff, decide_true, List.append_nil, List.map_nil, List.cons_append, List.nil_append, isi_tup, isi_str, f1D, hne, word_ok n st hp, kind_ok hp, Bool.not_true, Bool.or_false]
      rw [List.map_cons, loopS]
      show (match exs (IP.run P (n + 1)) b_is_book_0 [.val (.tuple (B.map rowD)), .val (.tuple [.str p.1, .str p.2])] st with
        | .nx env2 st2 => loopS _ _ (r.map rowD) env2 st2
        | .ret p st2 => RS.ret p st2
        | .exc x e st2 => .exc x e st2
        | .stuck => .stuck) = _
      rw [hb]
      exact e
  obtain ⟨sl', hsl, e⟩ := hl B .un rfl fun p m => hB.all m
  have a1 : ex (IP.run P (n + 1)) s_is_book_1 [.val (.tuple (B.map rowD)), .un] st = .nx [.val (.tuple (B.map rowD)), sl'] st := by
    rw [s_is_book_1, ex_for]
    have ei : evi (IP.run P (n + 1)) (.e (.v 0)) [.val (.tuple (B.map rowD)), .un] st = .ok (B.map rowD) st := by
      rw [evi]
      simp only [exs_cons, exs_nil, ex_ife, seq_nx, seq_ret, endS_ret, endS_nx, ift_t, ift_f, ift_or, ift_and, ifs_t, ev_ife, and_1, and_2, or_1, or_2, evc_0, evc_1, idx_list', idx_tup', at_0, at_1, at_2, at_3, ix_2_0, ix_2_1, tr_bool, eq_str, eq_int, lt_int', le_int', gt_int', add_int', sub_int', ex, ev, evs, eva, bind_ok, of_some, toS_ok, quiet_ok, get_0, get_s, List.set_cons_zero, List.set_cons_succ, LINE, List.length_cons, List.length_nil, Nat.reduceAdd, Nat.reduceLeDiff, decide_true, List.append_nil, List.map_nil, List.cons_append, List.nil_append, itemsD]
    rw [ei, toS_ok, e]
  have a2 : ex (IP.run P (n + 1)) s_is_book_2 [.val (.tuple (B.map rowD)), sl'] st = .ret (.bool true) st := by
    have hs : nonOwn [.val (.tuple (B.map rowD)), sl'] 1 = true := hsl
    have e1 : ev (IP.run P (n + 1)) (.lensc [1] (.n 1) (.e (.v 0)) .nil (.idx (.v 1) (.c (.int 0)))) [.val (.tuple (B.map rowD)), sl'] st = .ok (.int (B.length : Nat)) st := by
      rw [ev]
      have ei : evi (IP.run P (n + 1)) (.e (.v 0)) [.val (.tuple (B.map rowD)), sl'] st = .ok (B.map rowD) st := by
        rw [evi]
        simp only [exs_cons, exs_nil, ex_ife, seq_nx, seq_ret, endS_ret, endS_nx, ift_t, ift_f, ift_or, ift_and, ifs_t, ev_ife, and_1, and_2, or_1, or_2, evc_0, evc_1, idx_list', idx_tup', at_0, at_1, at_2, at_3, ix_2_0, ix_2_1, tr_bool, eq_str, eq_int, lt_int', le_int', gt_int', add_int', sub_int', ex, ev, evs, eva, bind_ok, of_some, toS_ok, quiet_ok, get_0, get_s, List.set_cons_zero, List.set_cons_succ, LINE, List.length_cons, List.length_nil, Nat.reduceAdd, Nat.reduceLeDiff, decide_true, List.append_nil, List.map_nil, List.cons_append, List.nil_append, itemsD]
      have ho : ownFree [.val (.tuple (B.map rowD)), sl'] [1] = true := by
        unfold ownFree
        rw [show ownFree [.val (.tuple (B.map rowD)), sl'] [] = true from rfl, Bool.and_true]
        exact hs
      rw [ei, bind_ok, ho]
      show ((loopE _ _ (.n 1) [.val (.tuple (B.map rowD)), .un] (B.map rowD) [] st).bind _) = _
      rw [loopE_filter (p := fun _ => true) (f := fstD)]
      · have em : ((B.map rowD).filter fun _ => true).map fstD = B.map D1 := by
          rw [List.filter_eq_self.mpr (fun _ _ => rfl), List.map_map]
          rfl
        rw [em, List.nil_append, bind_ok, keysD_strs]
        have hn : (addKeys (B.map fun p => (.inr p.1 : L2.Key)) []).length = B.length := by
          rw [addKeys_nd]
          · simp
          · rw [List.nil_append]
            have := hB.nodup
            have e2 : (B.map fun p => (.inr p.1 : L2.Key)) = (B.map (·.1)).map Sum.inr := by rw [List.map_map]; rfl
            rw [e2]
            exact List.Pairwise.map _ (fun a b hab e => hab (Sum.inr.inj e)) this
        show R.of (ifs (decide ((B.map fun p => (.inr p.1 : L2.Key)).length < 4000)) (PyData.int (addKeys (B.map fun p => (.inr p.1 : L2.Key)) []).length)) st = _
        rw [hn, decide_eq_true (by simp; omega)]
        rfl
      · intro x m
        obtain ⟨p, _, rfl⟩ := List.mem_map.mp m
        refine ⟨[.val (.tuple (B.map rowD)), .val (.tuple [.str p.1, .str p.2])], rfl, ?_, fun _ => ?_⟩
        · simp only [exs_cons, exs_nil, ex_ife, seq_nx, seq_ret, endS_ret, endS_nx, ift_t, ift_f, ift_or, ift_and, ifs_t, ev_ife, and_1, and_2, or_1, or_2, evc_0, evc_1, idx_list', idx_tup', at_0, at_1, at_2, at_3, ix_2_0, ix_2_1, tr_bool, eq_str, eq_int, lt_int', le_int', gt_int', add_int', sub_int', ex, ev, evs, eva, bind_ok, of_some, toS_ok, quiet_ok, get_0, get_s, List.set_cons_zero, List.set_cons_succ, LINE, List.length_cons, List.length_nil, Nat.reduceAdd, Nat.reduceLeDiff, decide_true, List.append_nil, List.map_nil, List.cons_append, List.nil_append]
        · simp only [exs_cons, exs_nil, ex_ife, seq_nx, seq_ret, endS_ret, endS_nx, ift_t, ift_f, ift_or, ift_and, ifs_t, ev_ife, and_1, and_2, or_1, or_2, evc_0, evc_1, idx_list', idx_tup', at_0, at_1, at_2, at_3, ix_2_0, ix_2_1, tr_bool, eq_str, eq_int, lt_int', le_int', gt_int', add_int', sub_int', ex, ev, evs, eva, bind_ok, of_some, toS_ok, quiet_ok, get_0, get_s, List.set_cons_zero, List.set_cons_succ, LINE, List.length_cons, List.length_nil, Nat.reduceAdd, Nat.reduceLeDiff, decide_true, List.append_nil, List.map_nil, List.cons_append, List.nil_append]
          rfl
      · simp only [List.length_map, List.length_nil]
        show 0 + _ ≤ 16777216
        omega
    have e2 : ev (IP.run P (n + 1)) (.f1 .len (.v 0)) [.val (.tuple (B.map rowD)), sl'] st = .ok (.int (B.length : Nat)) st := by
      simp only [exs_cons, exs_nil, ex_ife, seq_nx, seq_ret, endS_ret, endS_nx, ift_t, ift_f, ift_or, ift_and, ifs_t, ev_ife, and_1, and_2, or_1, or_2, evc_0, evc_1, idx_list', idx_tup', at_0, at_1, at_2, at_3, ix_2_0, ix_2_1, tr_bool, eq_str, eq_int, lt_int', le_int', gt_int', add_int', sub_int', ex, ev, evs, eva, bind_ok, of_some, toS_ok, quiet_ok, get_0, get_s, List.set_cons_zero, List.set_cons_succ, LINE, List.length_cons, List.length_nil, Nat.reduceAdd, Nat.reduceLeDiff, decide_true, List.append_nil, List.map_nil, List.cons_append, List.nil_append, f1D, List.length_map]
    have e3 : op2 .eq (.int (B.length : Nat)) (.int (B.length : Nat)) = some (.bool true) := by
      rw [eq_int]
      simp
    rw [s_is_book_2, ex, ev, e1, bind_ok, e2, bind_ok, e3, of_some, toS_ok]
  show endS st.length (exs (IP.run P (n + 1)) b_is_book [.val (.tuple (B.map rowD)), .un] st) = _
  rw [b_is_book]
  simp only [exs_cons, a0, a1, a2, seq_nx, seq_ret, endS_ret]
  simp

theorem w_look (n : Nat) (st : Store) {B : List (Str × Str)} (hB : Book B) : IP.run P (n + 3) i_look [.val (.tuple (B.map rowD))] st = .ok .none st := by
  rw [IP.run_succ (d := ⟨1, 1, b_look, false⟩) rfl]
  show endS st.length (exs (IP.run P (n + 2)) b_look [.val (.tuple (B.map rowD))] st) = _
  simp only [b_look, s_look_0, exs_cons, exs_nil, ex_ife, seq_nx, seq_ret, endS_ret, endS_nx, ift_t, ift_f, ift_or, ift_and, ifs_t, ev_ife, and_1, and_2, or_1, or_2, evc_0, evc_1, idx_list', idx_tup', at_0, at_1, at_2, at_3, ix_2_0, ix_2_1, tr_bool, eq_str, eq_int, lt_int', le_int', gt_int', add_int', sub_int', ex, ev, evs, eva, bind_ok, of_some, toS_ok, quiet_ok, get_0, get_s, List.set_cons_zero, List.set_cons_succ, LINE, List.length_cons, List.length_nil, Nat.reduceAdd, Nat.reduceLeDiff, decide_true, List.append_nil, List.map_nil, List.cons_append, List.nil_append, w_is_book n st hB, Bool.not_true]
  simp

/-! ### formulas, places -/
inductive Fm where
  | fact (w : Str) (ts : List D)
  | nt (a : Fm)
  | cj (a b : Fm)
  | dj (a b : Fm)
  | im (a b : Fm)
  | al (n : Nat) (a : Fm)
  | sm (n : Nat) (a : Fm)
def fmD : Fm → D
  | .fact w ts => .tuple [.str "fact", .str w, .tuple ts]
  | .nt a => .tuple [.str "not", fmD a]
  | .cj a b => .tuple [.str "and", fmD a, fmD b]
  | .dj a b => .tuple [.str "or", fmD a, fmD b]
  | .im a b => .tuple [.str "if", fmD a, fmD b]
  | .al n a => .tuple [.str "all", .int n, fmD a]
  | .sm n a => .tuple [.str "some", .int n, fmD a]
def five : List Str := ["noun", "of", "does", "to", "such"]
def plc (k : Str) : Nat := if sEq k "of" || sEq k "to" then 2 else 1
theorem kinds_five {p : Str × Str} (h : p ∈ all12) (n : p.2 ≠ "name") : p.2 ∈ five := by
  simp only [all12, base6, more6, List.cons_append, List.nil_append, List.mem_cons, List.not_mem_nil, or_false] at h
  rcases h with rfl | rfl | rfl | rfl | rfl | rfl | rfl | rfl | rfl | rfl | rfl | rfl <;> first | (exact absurd rfl n) | (simp [five])
theorem filter_one {B : List (Str × Str)} (nd : (B.map (·.1)).Nodup) {w k : Str} (h : (w, k) ∈ B) : B.filter (fun p => sEq p.1 w) = [(w, k)] := by
  induction B with
  | nil => cases h
  | cons p r ih =>
    rw [List.map_cons, List.nodup_cons] at nd
    rw [List.filter_cons]
    rcases List.mem_cons.mp h with e | h
    · subst e
      rw [show sEq w w = true from sEq_iff.mpr rfl, if_pos rfl]
      have : r.filter (fun p => sEq p.1 w) = [] := by
        rw [List.filter_eq_nil_iff]
        intro q m e
        exact nd.1 (List.mem_map.mpr ⟨q, m, sEq_iff.mp e⟩)
      rw [this]
    · have hp : sEq p.1 w = false := by
        cases e : sEq p.1 w with
        | false => rfl
        | true => exact absurd (List.mem_map.mpr ⟨(w, k), h, (sEq_iff.mp e).symm⟩) nd.1
      rw [hp, if_neg Bool.false_ne_true, ih nd.2 h]
def fstIs (w : Str) : D → Bool
  | .tuple [.str x, _] => sEq x w
  | _ => false
theorem fst_filter (w : Str) (f : D → D) : ∀ B : List (Str × Str), ((B.map rowD).filter (fstIs w)).map f = (B.filter fun p => sEq p.1 w).map fun p => f (rowD p)
  | [] => rfl
  | p :: r => by
    rw [List.map_cons, List.filter_cons, List.filter_cons]
    have e : fstIs w (rowD p) = sEq p.1 w := rfl
    rw [e]
    cases sEq p.1 w with
    | true => simp only [if_true, List.map_cons, fst_filter w f r]
    | false => simp only [Bool.false_eq_true, if_false, fst_filter w f r]
theorem same_row {B : List (Str × Str)} (nd : (B.map (·.1)).Nodup) {w k : Str} (h : (w, k) ∈ B) {q : Str × Str} (m : q ∈ B) (e : sEq q.1 w = true) : q = (w, k) := by
  have h1 : q ∈ B.filter (fun p => sEq p.1 w) := List.mem_filter.mpr ⟨m, e⟩
  rw [filter_one nd h] at h1
  exact List.mem_singleton.mp h1
def plD : D := .dict [(.str "noun", .int 1), (.str "of", .int 2), (.str "does", .int 1), (.str "to", .int 2), (.str "such", .int 1)]
theorem pl_in {k : Str} (h : k ∈ five) : op2 .isin (.str k) plD = some (.bool true) := by
  simp only [five, List.mem_cons, List.not_mem_nil, or_false] at h
  rcases h with rfl | rfl | rfl | rfl | rfl <;> kernel_rfl
theorem pl_at {k : Str} (h : k ∈ five) : idxD plD (.str k) = some (.int (plc k)) := by
  simp only [five, List.mem_cons, List.not_mem_nil, or_false] at h
  rcases h with rfl | rfl | rfl | rfl | rfl <;> kernel_rfl
theorem pl_lk {k : Str} (h : k ∈ five) : lkS t_PLACES k = some (.int (plc k)) := by
  simp only [five, List.mem_cons, List.not_mem_nil, or_false] at h
  rcases h with rfl | rfl | rfl | rfl | rfl <;> rfl
theorem plc_2 (k : Str) : 1 ≤ plc k ∧ plc k ≤ 2 := by unfold plc; split <;> simp
theorem w_lplaces (n : Nat) (st : Store) {B : List (Str × Str)} (hB : Book B) {w k : Str} (h : (w, k) ∈ B) (hk : k ∈ five) : IP.run P (n + 1) i__law_places [.val (.tuple (B.map rowD)), .val (.str w)] st = .ok (.int (plc k)) st := by
  rw [IP.run_succ (d := ⟨6, 2, b__law_places, false⟩) rfl]
  have a0 : ex (IP.run P n) s__law_places_0 [.val (.tuple (B.map rowD)), .val (.str w), .un, .un, .un, .un] st = .nx [.val (.tuple (B.map rowD)), .val (.str w), .val plD, .un, .un, .un] st := by
    simp only [s__law_places_0, exs_cons, exs_nil, ex_ife, seq_nx, seq_ret, endS_ret, endS_nx, ift_t, ift_f, ift_or, ift_and, ifs_t, ev_ife, and_1, and_2, or_1, or_2, evc_0, evc_1, idx_list', idx_tup', at_0, at_1, at_2, at_3, ix_2_0, ix_2_1, tr_bool, eq_str, eq_int, lt_int', le_int', gt_int', add_int', sub_int', ex, ev, evs, eva, bind_ok, of_some, toS_ok, quiet_ok, get_0, get_s, List.set_cons_zero, List.set_cons_succ, LINE, List.length_cons, List.length_nil, Nat.reduceAdd, Nat.reduceLeDiff, decide_true, List.append_nil, List.map_nil, List.cons_append, List.nil_append]
    rfl
  have hc : ev (IP.run P n) (.lc [4, 5] (.t [4, 5]) (.e (.v 0)) (.cons (.band (.cons (.bin .eq (.v 4) (.v 1)) (.cons (.bin .isin (.v 5) (.v 2)) .nil))) .nil) (.idx (.v 2) (.v 5))) [.val (.tuple (B.map rowD)), .val (.str w), .val plD, .un, .un, .un] st = .ok (.list [.int (plc k)]) st := by
    rw [ev_lc rfl]
    have ei : evi (IP.run P n) (.e (.v 0)) [.val (.tuple (B.map rowD)), .val (.str w), .val plD, .un, .un, .un] st = .ok (B.map rowD) st := by
      rw [evi]
      simp only [exs_cons, exs_nil, ex_ife, seq_nx, seq_ret, endS_ret, endS_nx, ift_t, ift_f, ift_or, ift_and, ifs_t, ev_ife, and_1, and_2, or_1, or_2, evc_0, evc_1, idx_list', idx_tup', at_0, at_1, at_2, at_3, ix_2_0, ix_2_1, tr_bool, eq_str, eq_int, lt_int', le_int', gt_int', add_int', sub_int', ex, ev, evs, eva, bind_ok, of_some, toS_ok, quiet_ok, get_0, get_s, List.set_cons_zero, List.set_cons_succ, LINE, List.length_cons, List.length_nil, Nat.reduceAdd, Nat.reduceLeDiff, decide_true, List.append_nil, List.map_nil, List.cons_append, List.nil_append, itemsD]
    rw [ei, bind_ok, loopE_filter (p := fstIs w) (f := fun _ => .int (plc k)), fst_filter, filter_one hB.nodup h]
    · rfl
    · intro x m
      obtain ⟨p, mp, rfl⟩ := List.mem_map.mp m
      refine ⟨[.val (.tuple (B.map rowD)), .val (.str w), .val plD, .un, .val (.str p.1), .val (.str p.2)], rfl, ?_, fun hp => ?_⟩
      · show _ = R.ok (sEq p.1 w) st
        cases e : sEq p.1 w with
        | false => simp only [exs_cons, exs_nil, ex_ife, seq_nx, seq_ret, endS_ret, endS_nx, ift_t, ift_f, ift_or, ift_and, ifs_t, ev_ife, and_1, and_2, or_1, or_2, evc_0, evc_1, idx_list', idx_tup', at_0, at_1, at_2, at_3, ix_2_0, ix_2_1, tr_bool, eq_str, eq_int, lt_int', le_int', gt_int', add_int', sub_int', ex, ev, evs, eva, bind_ok, of_some, toS_ok, quiet_ok, get_0, get_s, List.set_cons_zero, List.set_cons_succ, LINE, List.length_cons, List.length_nil, Nat.reduceAdd, Nat.reduceLeDiff, decide_true, List.append_nil, List.map_nil, List.cons_append, List.nil_append, e]
        | true =>
          have e2 := same_row hB.nodup h mp e
          subst e2
          simp only [exs_cons, exs_nil, ex_ife, seq_nx, seq_ret, endS_ret, endS_nx, ift_t, ift_f, ift_or, ift_and, ifs_t, ev_ife, and_1, and_2, or_1, or_2, evc_0, evc_1, idx_list', idx_tup', at_0, at_1, at_2, at_3, ix_2_0, ix_2_1, tr_bool, eq_str, eq_int, lt_int', le_int', gt_int', add_int', sub_int', ex, ev, evs, eva, bind_ok, of_some, toS_ok, quiet_ok, get_0, get_s, List.set_cons_zero, List.set_cons_succ, LINE, List.length_cons, List.length_nil, Nat.reduceAdd, Nat.reduceLeDiff, decide_true, List.append_nil, List.map_nil, List.cons_append, List.nil_append, e, pl_in hk]
      · have e2 := same_row hB.nodup h mp hp
        subst e2
        simp only [exs_cons, exs_nil, ex_ife, seq_nx, seq_ret, endS_ret, endS_nx, ift_t, ift_f, ift_or, ift_and, ifs_t, ev_ife, and_1, and_2, or_1, or_2, evc_0, evc_1, idx_list', idx_tup', at_0, at_1, at_2, at_3, ix_2_0, ix_2_1, tr_bool, eq_str, eq_int, lt_int', le_int', gt_int', add_int', sub_int', ex, ev, evs, eva, bind_ok, of_some, toS_ok, quiet_ok, get_0, get_s, List.set_cons_zero, List.set_cons_succ, LINE, List.length_cons, List.length_nil, Nat.reduceAdd, Nat.reduceLeDiff, decide_true, List.append_nil, List.map_nil, List.cons_append, List.nil_append, pl_at hk]
    · have := hB.len
      simp [LINE]
      omega
  have a1 : ex (IP.run P n) s__law_places_1 [.val (.tuple (B.map rowD)), .val (.str w), .val plD, .un, .un, .un] st = .nx [.val (.tuple (B.map rowD)), .val (.str w), .val plD, .val (.list [.int (plc k)]), .un, .un] st := by
    rw [s__law_places_1, ex, hc]
    rfl
  have a2 : ex (IP.run P n) s__law_places_2 [.val (.tuple (B.map rowD)), .val (.str w), .val plD, .val (.list [.int (plc k)]), .un, .un] st = .ret (.int (plc k)) st := by
    simp only [s__law_places_2, exs_cons, exs_nil, ex_ife, seq_nx, seq_ret, endS_ret, endS_nx, ift_t, ift_f, ift_or, ift_and, ifs_t, ev_ife, and_1, and_2, or_1, or_2, evc_0, evc_1, idx_list', idx_tup', at_0, at_1, at_2, at_3, ix_2_0, ix_2_1, tr_bool, eq_str, eq_int, lt_int', le_int', gt_int', add_int', sub_int', ex, ev, evs, eva, bind_ok, of_some, toS_ok, quiet_ok, get_0, get_s, List.set_cons_zero, List.set_cons_succ, LINE, List.length_cons, List.length_nil, Nat.reduceAdd, Nat.reduceLeDiff, decide_true, List.append_nil, List.map_nil, List.cons_append, List.nil_append, add_list]
  show endS st.length (exs (IP.run P n) b__law_places [.val (.tuple (B.map rowD)), .val (.str w), .un, .un, .un, .un] st) = _
  rw [b__law_places]
  simp only [exs_cons, a0, a1, a2, seq_nx, seq_ret, endS_ret]
  simp
theorem w_places (n : Nat) (st : Store) {B : List (Str × Str)} (hB : Book B) {w k : Str} (h : (w, k) ∈ B) (hk : k ∈ five) : IP.run P (n + 1) i_places_of [.val (.tuple (B.map rowD)), .val (.str w)] st = .ok (.int (plc k)) st := by
  rw [IP.run_succ (d := ⟨5, 2, b_places_of, false⟩) rfl]
  have hc : ev (IP.run P n) (.lc [3, 4] (.t [3, 4]) (.e (.v 0)) (.cons (.bin .eq (.v 3) (.v 1)) .nil) (.getc "PLACES" t_PLACES (.v 4) (.c (.int 0)))) [.val (.tuple (B.map rowD)), .val (.str w), .un, .un, .un] st = .ok (.list [.int (plc k)]) st := by
    rw [ev_lc rfl]
    have ei : evi (IP.run P n) (.e (.v 0)) [.val (.tuple (B.map rowD)), .val (.str w), .un, .un, .un] st = .ok (B.map rowD) st := by
      rw [evi]
      simp only [exs_cons, exs_nil, ex_ife, seq_nx, seq_ret, endS_ret, endS_nx, ift_t, ift_f, ift_or, ift_and, ifs_t, ev_ife, and_1, and_2, or_1, or_2, evc_0, evc_1, idx_list', idx_tup', at_0, at_1, at_2, at_3, ix_2_0, ix_2_1, tr_bool, eq_str, eq_int, lt_int', le_int', gt_int', add_int', sub_int', ex, ev, evs, eva, bind_ok, of_some, toS_ok, quiet_ok, get_0, get_s, List.set_cons_zero, List.set_cons_succ, LINE, List.length_cons, List.length_nil, Nat.reduceAdd, Nat.reduceLeDiff, decide_true, List.append_nil, List.map_nil, List.cons_append, List.nil_append, itemsD]
    rw [ei, bind_ok, loopE_filter (p := fstIs w) (f := fun _ => .int (plc k)), fst_filter, filter_one hB.nodup h]
    · rfl
    · intro x m
      obtain ⟨p, mp, rfl⟩ := List.mem_map.mp m
      refine ⟨[.val (.tuple (B.map rowD)), .val (.str w), .un, .val (.str p.1), .val (.str p.2)], rfl, ?_, fun hp => ?_⟩
      · show _ = R.ok (sEq p.1 w) st
        simp only [exs_cons, exs_nil, ex_ife, seq_nx, seq_ret, endS_ret, endS_nx, ift_t, ift_f, ift_or, ift_and, ifs_t, ev_ife, and_1, and_2, or_1, or_2, evc_0, evc_1, idx_list', idx_tup', at_0, at_1, at_2, at_3, ix_2_0, ix_2_1, tr_bool, eq_str, eq_int, lt_int', le_int', gt_int', add_int', sub_int', ex, ev, evs, eva, bind_ok, of_some, toS_ok, quiet_ok, get_0, get_s, List.set_cons_zero, List.set_cons_succ, LINE, List.length_cons, List.length_nil, Nat.reduceAdd, Nat.reduceLeDiff, decide_true, List.append_nil, List.map_nil, List.cons_append, List.nil_append]
      · have e2 := same_row hB.nodup h mp hp
        subst e2
        simp only [exs_cons, exs_nil, ex_ife, seq_nx, seq_ret, endS_ret, endS_nx, ift_t, ift_f, ift_or, ift_and, ifs_t, ev_ife, and_1, and_2, or_1, or_2, evc_0, evc_1, idx_list', idx_tup', at_0, at_1, at_2, at_3, ix_2_0, ix_2_1, tr_bool, eq_str, eq_int, lt_int', le_int', gt_int', add_int', sub_int', ex, ev, evs, eva, bind_ok, of_some, toS_ok, quiet_ok, get_0, get_s, List.set_cons_zero, List.set_cons_succ, LINE, List.length_cons, List.length_nil, Nat.reduceAdd, Nat.reduceLeDiff, decide_true, List.append_nil, List.map_nil, List.cons_append, List.nil_append, pl_lk hk, Option.getD_some]
    · have := hB.len
      simp [LINE]
      omega
  have a0 : ex (IP.run P n) s_places_of_0 [.val (.tuple (B.map rowD)), .val (.str w), .un, .un, .un] st = .nx [.val (.tuple (B.map rowD)), .val (.str w), .val (.list [.int (plc k)]), .un, .un] st := by
    rw [s_places_of_0, ex, hc]
    rfl
  have a1 : ex (IP.run P n) s_places_of_1 [.val (.tuple (B.map rowD)), .val (.str w), .val (.list [.int (plc k)]), .un, .un] st = .ret (.int (plc k)) st := by
    have ht : truthD (.list [.int (plc k)]) = true := rfl
    simp only [s_places_of_1, exs_cons, exs_nil, ex_ife, seq_nx, seq_ret, endS_ret, endS_nx, ift_t, ift_f, ift_or, ift_and, ifs_t, ev_ife, and_1, and_2, or_1, or_2, evc_0, evc_1, idx_list', idx_tup', at_0, at_1, at_2, at_3, ix_2_0, ix_2_1, tr_bool, eq_str, eq_int, lt_int', le_int', gt_int', add_int', sub_int', ex, ev, evs, eva, bind_ok, of_some, toS_ok, quiet_ok, get_0, get_s, List.set_cons_zero, List.set_cons_succ, LINE, List.length_cons, List.length_nil, Nat.reduceAdd, Nat.reduceLeDiff, decide_true, List.append_nil, List.map_nil, List.cons_append, List.nil_append, ht]
  show endS st.length (exs (IP.run P n) b_places_of [.val (.tuple (B.map rowD)), .val (.str w), .un, .un, .un] st) = _
  rw [b_places_of]
  simp only [exs_cons, a0, a1, seq_nx, seq_ret, endS_ret]
  simp

/-! ### drawn formulas -/
def TH (B : List (Str × Str)) (t : D) : Prop := (∃ s, t = .str s ∧ (s, ("name" : Str)) ∈ B) ∨ (∃ n : Nat, n ≤ 99 ∧ t = .int n) ∨ ∃ n : Nat, n ≤ 99 ∧ t = .tuple [.str "it", .int n]
inductive FD (B : List (Str × Str)) : Fm → Nat → Nat → Nat → Prop
  | fact {w k : Str} {ts : List D} {h m : Nat} : (w, k) ∈ B → k ∈ five → ts.length = plc k → (∀ t ∈ ts, TH B t) → FD B (.fact w ts) (h + 1) m m
  | nt {a : Fm} {h m m' : Nat} : FD B a h m m' → FD B (.nt a) (h + 1) m m'
  | cj {a b : Fm} {h m m1 m' : Nat} : FD B a h m m1 → FD B b h m1 m' → FD B (.cj a b) (h + 1) m m'
  | dj {a b : Fm} {h m m1 m' : Nat} : FD B a h m m1 → FD B b h m1 m' → FD B (.dj a b) (h + 1) m m'
  | im {a b : Fm} {h m m1 m' : Nat} : FD B a h m m1 → FD B b h m1 m' → FD B (.im a b) (h + 1) m m'
  | al {a : Fm} {h m m' : Nat} : m ≤ 99 → FD B a h (m + 1) m' → FD B (.al m a) (h + 1) m m'
  | sm {a : Fm} {h m m' : Nat} : m ≤ 99 → FD B a h (m + 1) m' → FD B (.sm m a) (h + 1) m m'
theorem FD.mono {B : List (Str × Str)} {f : Fm} {h m m' : Nat} (x : FD B f h m m') : m ≤ m' ∧ m' + 1 ≤ m + 2 ^ h := by
  induction x with
  | fact => exact ⟨Nat.le_refl _, by have := Nat.pow_pos (n := h) (show 0 < 2 by decide); rename_i h _ _ _ _ _; have := Nat.pow_pos (n := h + 1) (show 0 < 2 by decide); omega⟩
  | nt _ ih => rename_i h _ _ _; have e : 2 ^ (h + 1) = 2 ^ h * 2 := Nat.pow_succ 2 h; omega
  | cj _ _ i1 i2 | dj _ _ i1 i2 | im _ _ i1 i2 => rename_i h _ _ _ _ _; have e : 2 ^ (h + 1) = 2 ^ h * 2 := Nat.pow_succ 2 h; omega
  | al _ _ ih | sm _ _ ih => rename_i h _ _ _ _; have e : 2 ^ (h + 1) = 2 ^ h * 2 := Nat.pow_succ 2 h; have := Nat.pow_pos (n := h) (show 0 < 2 by decide); omega
theorem noDicts_mem : ∀ {ts : List D}, (∀ t ∈ ts, noDict t = true) → noDicts ts = true
  | [], _ => rfl
  | t :: r, h => by
    rw [noDicts, h t List.mem_cons_self, noDicts_mem fun q m => h q (List.mem_cons_of_mem _ m)]
    rfl
theorem TH.nd {B : List (Str × Str)} {t : D} (h : TH B t) : noDict t = true := by
  rcases h with ⟨s, rfl, _⟩ | ⟨n, _, rfl⟩ | ⟨n, _, rfl⟩ <;> rfl
theorem eq_nil {ts : List D} (h : noDicts ts = true) : op2 .eq (.list ts) (.list []) = some (.bool (decide (ts = []))) := by
  have e1 : eqOk (.list ts) (.list []) = true := by
    unfold eqOk
    have : noDict (.list ts) = true := by rw [noDict]; exact h
    rw [this]
    have e : (PyData.list ([] : List D)).depth ≤ 150 := by simp [PyData.depth, PyData.depthAll]
    have : decide (min (PyData.list ts).depth (PyData.list ([] : List D)).depth ≤ 150) = true := by
      rw [decide_eq_true_eq]
      omega
    rw [this]
    rfl
  have e2 : PyData.eqv (.list ts) (.list []) = decide (ts = []) := by
    cases ts <;> simp [PyData.eqv, PyData.eqvAll]
  show ifs (eqOk (.list ts) (.list [])) (PyData.bool (PyData.eqv (.list ts) (.list []))) = _
  rw [e1, e2]
  rfl
/-- words of no name, of names -/
def noName : D → Bool
  | .tuple [_, .str x] => !sEq x "name"
  | _ => false
theorem no_filter : ∀ B : List (Str × Str), ((B.map rowD).filter noName).map fstD = ((B.filter fun p => !sEq p.2 "name").map fun p => D1 p)
  | [] => rfl
  | p :: r => by
    rw [List.map_cons, List.filter_cons, List.filter_cons]
    have e : noName (rowD p) = !sEq p.2 "name" := rfl
    rw [e]
    cases sEq p.2 "name" with
    | false => simp only [Bool.not_false, if_true, List.map_cons, no_filter r]; rfl
    | true => simp only [Bool.not_true, Bool.false_eq_true, if_false, no_filter r]
theorem ne_str (a b : Str) : op2 .ne (.str a) (.str b) = some (.bool (!sEq a b)) := by
  have e : PyData.eqv (.str a) (.str b) = sEq a b := by
    rw [PyData.eqv]
    exact beq_sEq a b
  show ifs (eqOk (.str a) (.str b)) (PyData.bool (!PyData.eqv (.str a) (.str b))) = _
  rw [e]
  rfl
theorem range_p (C : CallF) (env : IP.Env) (st st' : Store) (e : E) (p : Nat) (hp : p ≤ 2) (he : ev C e env st = .ok (.int p) st') : evi C (.range1 e) env st = .ok (rangeD 0 p) st' := by
  rw [evi, he, bind_ok]
  have : rngOk (p : Int) = true := by
    unfold rngOk
    rw [Bool.and_eq_true, decide_eq_true_eq, decide_eq_true_eq]
    omega
  show R.of (ifs (rngOk (p : Int)) (rangeD 0 ((p : Int).toNat))) st' = _
  rw [this]
  rfl

abbrev EV (l : List Int) (c : Nat) (B : List (Str × Str)) (deep : Nat) (kn : List D) (r : List IP.Slot) : IP.Env := .val (.list (l.map PyData.int)) :: .rf c :: .val (.tuple (B.map rowD)) :: .val (.int deep) :: .val (.list kn) :: r
abbrev wdD (B : List (Str × Str)) : List D := (B.filter fun p => !sEq p.2 "name").map fun p => D1 p
abbrev nmD (B : List (Str × Str)) : List D := (B.filter fun p => sEq p.2 "name").map fun p => D1 p
theorem pick_at {F : List (Str × Str)} {z : Nat} (h : 0 < F.length) : ∃ p ∈ F, L2.atI (F.map fun p => D1 p) ((z : Int) % (F.length : Int)) = some (.str p.1) := by
  have hi : z % F.length < F.length := Nat.mod_lt _ h
  have em : (z : Int) % (F.length : Int) = ((z % F.length : Nat) : Int) := by simp
  refine ⟨F[z % F.length], List.getElem_mem hi, ?_⟩
  rw [em, at_nat (by simpa using hi), List.getElem?_map, List.getElem?_eq_getElem hi]
  rfl
theorem pick_k {kn : List D} {z : Nat} (h : 0 < kn.length) : ∃ t ∈ kn, L2.atI kn ((z : Int) % (kn.length : Int)) = some t := by
  have hi : z % kn.length < kn.length := Nat.mod_lt _ h
  have em : (z : Int) % (kn.length : Int) = ((z % kn.length : Nat) : Int) := by simp
  exact ⟨kn[z % kn.length], List.getElem_mem hi, by rw [em, at_nat hi, List.getElem?_eq_getElem hi]⟩
section
variable {l : List Int} {B : List (Str × Str)} (hl : l.length = 60) (h0 : ∀ x ∈ l, 0 ≤ x) (hB : Book B)
include hl h0 hB
theorem w_fact (n : Nat) (st : Store) (c j m deep z h : Nat) (kn : List D) (hc : st[c]? = some (CS j m)) (hk : ∀ t ∈ kn, TH B t) (hz : z < 2) : ∃ f j', FD B f (h + 1) m m ∧
    ex (IP.run P (n + 2)) s__law_formula_1 (EV l c B deep kn [.val (.int (z : Nat)), .un, .un, .un, .un, .un, .un, .un, .un, .un, .un, .un]) st = .ret (fmD f) (st.set c (CS j' m)) := by
  have y1 : decide ((z : Int) < 2) = true := by simp; omega
  have f8 : ∀ C st, ex C (.asg 8 (.lc [9, 15] (.t [9, 15]) (.e (.v 2)) (.cons (.bin .ne (.v 15) (.c (.str "name"))) .nil) (.v 9))) (EV l c B deep kn [.val (.int (z : Nat)), .un, .un, .un, .un, .un, .un, .un, .un, .un, .un, .un]) st =
      .nx (EV l c B deep kn [.val (.int (z : Nat)), .un, .un, .val (.list (wdD B)), .un, .un, .un, .un, .un, .un, .un, .un]) st := fun C st => by
    have hcc : ev C (.lc [9, 15] (.t [9, 15]) (.e (.v 2)) (.cons (.bin .ne (.v 15) (.c (.str "name"))) .nil) (.v 9)) (EV l c B deep kn [.val (.int (z : Nat)), .un, .un, .un, .un, .un, .un, .un, .un, .un, .un, .un]) st = .ok (.list (wdD B)) st := by
      rw [ev_lc rfl]
      have ei : evi C (.e (.v 2)) (EV l c B deep kn [.val (.int (z : Nat)), .un, .un, .un, .un, .un, .un, .un, .un, .un, .un, .un]) st = .ok (B.map rowD) st := by
        rw [evi]
        simp only [exs_cons, exs_nil, ex_ife, seq_nx, seq_ret, endS_ret, endS_nx, ift_t, ift_f, ift_or, ift_and, ifs_t, ev_ife, and_1, and_2, or_1, or_2, evc_0, evc_1, idx_list', idx_tup', at_0, at_1, at_2, at_3, ix_2_0, ix_2_1, tr_bool, eq_str, eq_int, lt_int', le_int', gt_int', add_int', sub_int', ex, ev, evs, eva, bind_ok, of_some, toS_ok, quiet_ok, get_0, get_s, List.set_cons_zero, List.set_cons_succ, LINE, List.length_cons, List.length_nil, Nat.reduceAdd, Nat.reduceLeDiff, decide_true, List.append_nil, List.map_nil, List.cons_append, List.nil_append, itemsD]
      rw [ei, bind_ok, loopE_filter (p := noName) (f := fstD), no_filter]
      · rfl
      · intro x mx
        obtain ⟨p, _, rfl⟩ := List.mem_map.mp mx
        refine ⟨EV l c B deep kn [.val (.int (z : Nat)), .un, .un, .un, .val (.str p.1), .un, .un, .un, .un, .un, .val (.str p.2), .un], rfl, ?_, fun _ => ?_⟩
        · simp only [exs_cons, exs_nil, ex_ife, seq_nx, seq_ret, endS_ret, endS_nx, ift_t, ift_f, ift_or, ift_and, ifs_t, ev_ife, and_1, and_2, or_1, or_2, evc_0, evc_1, idx_list', idx_tup', at_0, at_1, at_2, at_3, ix_2_0, ix_2_1, tr_bool, eq_str, eq_int, lt_int', le_int', gt_int', add_int', sub_int', ex, ev, evs, eva, bind_ok, of_some, toS_ok, quiet_ok, get_0, get_s, List.set_cons_zero, List.set_cons_succ, LINE, List.length_cons, List.length_nil, Nat.reduceAdd, Nat.reduceLeDiff, decide_true, List.append_nil, List.map_nil, List.cons_append, List.nil_append, ne_str]
          rfl
        · simp only [exs_cons, exs_nil, ex_ife, seq_nx, seq_ret, endS_ret, endS_nx, ift_t, ift_f, ift_or, ift_and, ifs_t, ev_ife, and_1, and_2, or_1, or_2, evc_0, evc_1, idx_list', idx_tup', at_0, at_1, at_2, at_3, ix_2_0, ix_2_1, tr_bool, eq_str, eq_int, lt_int', le_int', gt_int', add_int', sub_int', ex, ev, evs, eva, bind_ok, of_some, toS_ok, quiet_ok, get_0, get_s, List.set_cons_zero, List.set_cons_succ, LINE, List.length_cons, List.length_nil, Nat.reduceAdd, Nat.reduceLeDiff, decide_true, List.append_nil, List.map_nil, List.cons_append, List.nil_append]
          rfl
      · have := hB.len
        simp [LINE]
        omega
    rw [ex, hcc]
    rfl
  have hW : 0 < (B.filter fun p => !sEq p.2 "name").length := by
    have : (("man", "noun") : Str × Str) ∈ B.filter fun p => !sEq p.2 "name" := List.mem_filter.mpr ⟨hB.mem (by simp [base6]), by kernel_rfl⟩
    exact List.length_pos_of_mem this
  have hNm : 0 < (B.filter fun p => sEq p.2 "name").length := by
    have : (("ann", "name") : Str × Str) ∈ B.filter fun p => sEq p.2 "name" := List.mem_filter.mpr ⟨hB.mem (by simp [base6]), by kernel_rfl⟩
    exact List.length_pos_of_mem this
  obtain ⟨u, hu⟩ := next_nat hl h0 j
  obtain ⟨q, hq, hqa⟩ := pick_at (z := u) hW
  obtain ⟨hqB, hqn⟩ := List.mem_filter.mp hq
  have q5 : q.2 ∈ five := kinds_five (hB.all hqB) fun e => by
    rw [e] at hqn
    exact absurd hqn (by decide +kernel)
  have qB : (q.1, q.2) ∈ B := hqB
  have pW : (0 : Int) < ((B.filter fun p => !sEq p.2 "name").length : Int) := by omega
  have f9 : ex (IP.run P (n + 2)) (.asg 9 (.idx (.v 8) (.bin .mod (.call i__law_next (.e (.v 0) (.r 1 .nil)) []) (.f1 .len (.v 8))))) (EV l c B deep kn [.val (.int (z : Nat)), .un, .un, .val (.list (wdD B)), .un, .un, .un, .un, .un, .un, .un, .un]) st =
      .nx (EV l c B deep kn [.val (.int (z : Nat)), .un, .un, .val (.list (wdD B)), .val (.str q.1), .un, .un, .un, .un, .un, .un, .un]) (st.set c (CS ((j + 1) % 60) m)) := by
    simp only [exs_cons, exs_nil, ex_ife, seq_nx, seq_ret, endS_ret, endS_nx, ift_t, ift_f, ift_or, ift_and, ifs_t, ev_ife, and_1, and_2, or_1, or_2, evc_0, evc_1, idx_list', idx_tup', at_0, at_1, at_2, at_3, ix_2_0, ix_2_1, tr_bool, eq_str, eq_int, lt_int', le_int', gt_int', add_int', sub_int', ex, ev, evs, eva, bind_ok, of_some, toS_ok, quiet_ok, get_0, get_s, List.set_cons_zero, List.set_cons_succ, LINE, List.length_cons, List.length_nil, Nat.reduceAdd, Nat.reduceLeDiff, decide_true, List.append_nil, List.map_nil, List.cons_append, List.nil_append, w_next (n + 1) st l hl c j m hc, hu, f1D, List.length_map, mod_int' pW, hqa]
  have hc1 := get_set st c (CS ((j + 1) % 60) m) _ hc
  generalize hst1 : st.set c (CS ((j + 1) % 60) m) = st1 at f9 hc1
  have f10 : ∀ C, ex C (.asg 10 (.lc [16, 15] (.t [16, 15]) (.e (.v 2)) (.cons (.bin .eq (.v 15) (.c (.str "name"))) .nil) (.v 16))) (EV l c B deep kn [.val (.int (z : Nat)), .un, .un, .val (.list (wdD B)), .val (.str q.1), .un, .un, .un, .un, .un, .un, .un]) st1 =
      .nx (EV l c B deep kn [.val (.int (z : Nat)), .un, .un, .val (.list (wdD B)), .val (.str q.1), .val (.list (nmD B)), .un, .un, .un, .un, .un, .un]) st1 := fun C => by
    have hcc : ev C (.lc [16, 15] (.t [16, 15]) (.e (.v 2)) (.cons (.bin .eq (.v 15) (.c (.str "name"))) .nil) (.v 16)) (EV l c B deep kn [.val (.int (z : Nat)), .un, .un, .val (.list (wdD B)), .val (.str q.1), .un, .un, .un, .un, .un, .un, .un]) st1 = .ok (.list (nmD B)) st1 := by
      rw [ev_lc rfl]
      have ei : evi C (.e (.v 2)) (EV l c B deep kn [.val (.int (z : Nat)), .un, .un, .val (.list (wdD B)), .val (.str q.1), .un, .un, .un, .un, .un, .un, .un]) st1 = .ok (B.map rowD) st1 := by
        rw [evi]
        simp only [exs_cons, exs_nil, ex_ife, seq_nx, seq_ret, endS_ret, endS_nx, ift_t, ift_f, ift_or, ift_and, ifs_t, ev_ife, and_1, and_2, or_1, or_2, evc_0, evc_1, idx_list', idx_tup', at_0, at_1, at_2, at_3, ix_2_0, ix_2_1, tr_bool, eq_str, eq_int, lt_int', le_int', gt_int', add_int', sub_int', ex, ev, evs, eva, bind_ok, of_some, toS_ok, quiet_ok, get_0, get_s, List.set_cons_zero, List.set_cons_succ, LINE, List.length_cons, List.length_nil, Nat.reduceAdd, Nat.reduceLeDiff, decide_true, List.append_nil, List.map_nil, List.cons_append, List.nil_append, itemsD]
      rw [ei, bind_ok, loopE_filter (p := kindIs "name") (f := fstD), kind_filter]
      · rfl
      · intro x mx
        obtain ⟨p, _, rfl⟩ := List.mem_map.mp mx
        refine ⟨EV l c B deep kn [.val (.int (z : Nat)), .un, .un, .val (.list (wdD B)), .val (.str q.1), .un, .un, .un, .un, .un, .val (.str p.2), .val (.str p.1)], rfl, ?_, fun _ => ?_⟩
        · simp only [exs_cons, exs_nil, ex_ife, seq_nx, seq_ret, endS_ret, endS_nx, ift_t, ift_f, ift_or, ift_and, ifs_t, ev_ife, and_1, and_2, or_1, or_2, evc_0, evc_1, idx_list', idx_tup', at_0, at_1, at_2, at_3, ix_2_0, ix_2_1, tr_bool, eq_str, eq_int, lt_int', le_int', gt_int', add_int', sub_int', ex, ev, evs, eva, bind_ok, of_some, toS_ok, quiet_ok, get_0, get_s, List.set_cons_zero, List.set_cons_succ, LINE, List.length_cons, List.length_nil, Nat.reduceAdd, Nat.reduceLeDiff, decide_true, List.append_nil, List.map_nil, List.cons_append, List.nil_append]
          rfl
        · simp only [exs_cons, exs_nil, ex_ife, seq_nx, seq_ret, endS_ret, endS_nx, ift_t, ift_f, ift_or, ift_and, ifs_t, ev_ife, and_1, and_2, or_1, or_2, evc_0, evc_1, idx_list', idx_tup', at_0, at_1, at_2, at_3, ix_2_0, ix_2_1, tr_bool, eq_str, eq_int, lt_int', le_int', gt_int', add_int', sub_int', ex, ev, evs, eva, bind_ok, of_some, toS_ok, quiet_ok, get_0, get_s, List.set_cons_zero, List.set_cons_succ, LINE, List.length_cons, List.length_nil, Nat.reduceAdd, Nat.reduceLeDiff, decide_true, List.append_nil, List.map_nil, List.cons_append, List.nil_append]
          rfl
      · have := hB.len
        simp [LINE]
        omega
    rw [ex, hcc]
    rfl
  have f11 : ∀ C, ex C (.asgN 11 (.lst .nil)) (EV l c B deep kn [.val (.int (z : Nat)), .un, .un, .val (.list (wdD B)), .val (.str q.1), .val (.list (nmD B)), .un, .un, .un, .un, .un, .un]) st1 =
      .nx (EV l c B deep kn [.val (.int (z : Nat)), .un, .un, .val (.list (wdD B)), .val (.str q.1), .val (.list (nmD B)), .own (.list []), .un, .un, .un, .un, .un]) st1 := fun C => by
    simp only [exs_cons, exs_nil, ex_ife, seq_nx, seq_ret, endS_ret, endS_nx, ift_t, ift_f, ift_or, ift_and, ifs_t, ev_ife, and_1, and_2, or_1, or_2, evc_0, evc_1, idx_list', idx_tup', at_0, at_1, at_2, at_3, ix_2_0, ix_2_1, tr_bool, eq_str, eq_int, lt_int', le_int', gt_int', add_int', sub_int', ex, ev, evs, eva, bind_ok, of_some, toS_ok, quiet_ok, get_0, get_s, List.set_cons_zero, List.set_cons_succ, LINE, List.length_cons, List.length_nil, Nat.reduceAdd, Nat.reduceLeDiff, decide_true, List.append_nil, List.map_nil, List.cons_append, List.nil_append]
  obtain ⟨p1, p2⟩ := plc_2 q.2
  have pN : (0 : Int) < ((B.filter fun p => sEq p.2 "name").length : Int) := by omega
  have hloop := loop_inv (body := fun e s => exs (IP.run P (n + 2)) b__law_formula_0 e s) (tg := .n 12)
    (fun xs env s => ∃ (lo j' : Nat) (ts : List D) (s12 s14 : IP.Slot), xs = rangeD lo (plc q.2 - lo) ∧ lo ≤ plc q.2 ∧ ts.length = lo ∧ (∀ t ∈ ts, TH B t) ∧ s = st1.set c (CS j' m) ∧
      env = EV l c B deep kn [.val (.int (z : Nat)), .un, .un, .val (.list (wdD B)), .val (.str q.1), .val (.list (nmD B)), .own (.list ts), s12, .un, s14, .un, .un]) ?_ (rangeD 0 (plc q.2))
    (EV l c B deep kn [.val (.int (z : Nat)), .un, .un, .val (.list (wdD B)), .val (.str q.1), .val (.list (nmD B)), .own (.list []), .un, .un, .un, .un, .un]) st1
    ⟨0, (j + 1) % 60, [], .un, .un, rfl, Nat.zero_le _, rfl, by simp, by rw [← hst1, List.set_set], rfl⟩
  · obtain ⟨env', st', e, lo, j', ts, s12, s14, e1, h1, h2, h3, rfl, rfl⟩ := hloop
    have hlo : lo = plc q.2 := by
      by_cases hh : lo = plc q.2
      · exact hh
      · have : plc q.2 - lo = (plc q.2 - lo - 1) + 1 := by omega
        rw [this, rangeD] at e1
        cases e1
    refine ⟨.fact q.1 ts, j', .fact qB q5 (by omega) h3, ?_⟩
    have f12 : ex (IP.run P (n + 2)) (.for_ (.n 12) (.range1 (.call i__law_places (.e (.v 2) (.e (.v 9) .nil)) [])) b__law_formula_0) (EV l c B deep kn [.val (.int (z : Nat)), .un, .un, .val (.list (wdD B)), .val (.str q.1), .val (.list (nmD B)), .own (.list []), .un, .un, .un, .un, .un]) st1 =
        .nx (EV l c B deep kn [.val (.int (z : Nat)), .un, .un, .val (.list (wdD B)), .val (.str q.1), .val (.list (nmD B)), .own (.list ts), s12, .un, s14, .un, .un]) (st1.set c (CS j' m)) := by
      rw [ex_for, range_p _ _ st1 st1 _ (plc q.2) p2, toS_ok, e]
      simp only [exs_cons, exs_nil, ex_ife, seq_nx, seq_ret, endS_ret, endS_nx, ift_t, ift_f, ift_or, ift_and, ifs_t, ev_ife, and_1, and_2, or_1, or_2, evc_0, evc_1, idx_list', idx_tup', at_0, at_1, at_2, at_3, ix_2_0, ix_2_1, tr_bool, eq_str, eq_int, lt_int', le_int', gt_int', add_int', sub_int', ex, ev, evs, eva, bind_ok, of_some, toS_ok, quiet_ok, get_0, get_s, List.set_cons_zero, List.set_cons_succ, LINE, List.length_cons, List.length_nil, Nat.reduceAdd, Nat.reduceLeDiff, decide_true, List.append_nil, List.map_nil, List.cons_append, List.nil_append, w_lplaces (n + 1) st1 hB qB q5]
    have f13 : ∀ C, ex C (.frz 11) (EV l c B deep kn [.val (.int (z : Nat)), .un, .un, .val (.list (wdD B)), .val (.str q.1), .val (.list (nmD B)), .own (.list ts), s12, .un, s14, .un, .un]) (st1.set c (CS j' m)) =
        .nx (EV l c B deep kn [.val (.int (z : Nat)), .un, .un, .val (.list (wdD B)), .val (.str q.1), .val (.list (nmD B)), .val (.list ts), s12, .un, s14, .un, .un]) (st1.set c (CS j' m)) := fun C => by
      simp only [exs_cons, exs_nil, ex_ife, seq_nx, seq_ret, endS_ret, endS_nx, ift_t, ift_f, ift_or, ift_and, ifs_t, ev_ife, and_1, and_2, or_1, or_2, evc_0, evc_1, idx_list', idx_tup', at_0, at_1, at_2, at_3, ix_2_0, ix_2_1, tr_bool, eq_str, eq_int, lt_int', le_int', gt_int', add_int', sub_int', ex, ev, evs, eva, bind_ok, of_some, toS_ok, quiet_ok, get_0, get_s, List.set_cons_zero, List.set_cons_succ, LINE, List.length_cons, List.length_nil, Nat.reduceAdd, Nat.reduceLeDiff, decide_true, List.append_nil, List.map_nil, List.cons_append, List.nil_append]
    have f14 : ∀ C, ex C (.ret (.tup (.cons (.c (.str "fact")) (.cons (.v 9) (.cons (.f1 .tuple (.v 11)) .nil))))) (EV l c B deep kn [.val (.int (z : Nat)), .un, .un, .val (.list (wdD B)), .val (.str q.1), .val (.list (nmD B)), .val (.list ts), s12, .un, s14, .un, .un]) (st1.set c (CS j' m)) =
        .ret (fmD (.fact q.1 ts)) (st1.set c (CS j' m)) := fun C => by
      simp only [exs_cons, exs_nil, ex_ife, seq_nx, seq_ret, endS_ret, endS_nx, ift_t, ift_f, ift_or, ift_and, ifs_t, ev_ife, and_1, and_2, or_1, or_2, evc_0, evc_1, idx_list', idx_tup', at_0, at_1, at_2, at_3, ix_2_0, ix_2_1, tr_bool, eq_str, eq_int, lt_int', le_int', gt_int', add_int', sub_int', ex, ev, evs, eva, bind_ok, of_some, toS_ok, quiet_ok, get_0, get_s, List.set_cons_zero, List.set_cons_succ, LINE, List.length_cons, List.length_nil, Nat.reduceAdd, Nat.reduceLeDiff, decide_true, List.append_nil, List.map_nil, List.cons_append, List.nil_append, f1D]
      rfl
    rw [s__law_formula_1, ex_ife]
    have et : ev (IP.run P (n + 2)) (.bin .lt (.v 5) (.c (.int 2))) (EV l c B deep kn [.val (.int (z : Nat)), .un, .un, .un, .un, .un, .un, .un, .un, .un, .un, .un]) st = .ok (.bool true) st := by
      simp only [exs_cons, exs_nil, ex_ife, seq_nx, seq_ret, endS_ret, endS_nx, ift_t, ift_f, ift_or, ift_and, ifs_t, ev_ife, and_1, and_2, or_1, or_2, evc_0, evc_1, idx_list', idx_tup', at_0, at_1, at_2, at_3, ix_2_0, ix_2_1, tr_bool, eq_str, eq_int, lt_int', le_int', gt_int', add_int', sub_int', ex, ev, evs, eva, bind_ok, of_some, toS_ok, quiet_ok, get_0, get_s, List.set_cons_zero, List.set_cons_succ, LINE, List.length_cons, List.length_nil, Nat.reduceAdd, Nat.reduceLeDiff, decide_true, List.append_nil, List.map_nil, List.cons_append, List.nil_append, y1]
    rw [et, toS_ok, tr_bool, ift_t]
    simp only [exs_cons, f8, f9, f10, f11, f12, f13, f14, seq_nx, seq_ret]
    rw [← hst1, List.set_set]
  · rintro x xs env s ⟨lo, j', ts, s12, s14, e, h1, h2, h3, rfl, rfl⟩
    have hlo : lo < plc q.2 := by
      by_cases hh : lo < plc q.2
      · exact hh
      · have : plc q.2 - lo = 0 := by omega
        rw [this, rangeD] at e
        cases e
    have e2 : plc q.2 - lo = (plc q.2 - (lo + 1)) + 1 := by omega
    rw [e2, rangeD] at e
    injection e with e3 e4
    subst e3
    have hx : xs = rangeD ((lo + 1 : Nat) : Int) (plc q.2 - (lo + 1)) := by rw [e4]; rfl
    have hcc := get_set st1 c (CS j' m) _ hc1
    obtain ⟨v, hv⟩ := next_nat hl h0 j'
    have hll : decide (ts.length < 16777216) = true := by simp; omega
    refine ⟨EV l c B deep kn [.val (.int (z : Nat)), .un, .un, .val (.list (wdD B)), .val (.str q.1), .val (.list (nmD B)), .own (.list ts), .val (.int lo), .un, s14, .un, .un], ?_⟩
    have b1 : ex (IP.run P (n + 2)) (.asg 14 (.call i__law_next (.e (.v 0) (.r 1 .nil)) [])) (EV l c B deep kn [.val (.int (z : Nat)), .un, .un, .val (.list (wdD B)), .val (.str q.1), .val (.list (nmD B)), .own (.list ts), .val (.int lo), .un, s14, .un, .un]) (st1.set c (CS j' m)) =
        .nx (EV l c B deep kn [.val (.int (z : Nat)), .un, .un, .val (.list (wdD B)), .val (.str q.1), .val (.list (nmD B)), .own (.list ts), .val (.int lo), .un, .val (.int v), .un, .un]) (st1.set c (CS ((j' + 1) % 60) m)) := by
      simp only [exs_cons, exs_nil, ex_ife, seq_nx, seq_ret, endS_ret, endS_nx, ift_t, ift_f, ift_or, ift_and, ifs_t, ev_ife, and_1, and_2, or_1, or_2, evc_0, evc_1, idx_list', idx_tup', at_0, at_1, at_2, at_3, ix_2_0, ix_2_1, tr_bool, eq_str, eq_int, lt_int', le_int', gt_int', add_int', sub_int', ex, ev, evs, eva, bind_ok, of_some, toS_ok, quiet_ok, get_0, get_s, List.set_cons_zero, List.set_cons_succ, LINE, List.length_cons, List.length_nil, Nat.reduceAdd, Nat.reduceLeDiff, decide_true, List.append_nil, List.map_nil, List.cons_append, List.nil_append, w_next (n + 1) _ l hl c j' m hcc, hv, List.set_set]
    by_cases hcond : kn = [] ∨ (v : Int) % 4 = 0
    · obtain ⟨r, hr, hra⟩ := pick_at (z := v / 4) hNm
      obtain ⟨hrB, hrn⟩ := List.mem_filter.mp hr
      have erB : (r.1, ("name" : Str)) ∈ B := by
        have := sEq_iff.mp hrn
        rw [← this]
        exact hrB
      have e4 : (v : Int) / 4 = ((v / 4 : Nat) : Int) := by omega
      have hcb : (decide (kn = []) || decide ((v : Int) % 4 = 0)) = true := by simpa using hcond
      refine ⟨EV l c B deep kn [.val (.int (z : Nat)), .un, .un, .val (.list (wdD B)), .val (.str q.1), .val (.list (nmD B)), .own (.list (ts ++ [.str r.1])), .val (.int lo), .un, .val (.int v), .un, .un], st1.set c (CS ((j' + 1) % 60) m), rfl, ?_,
        lo + 1, (j' + 1) % 60, ts ++ [.str r.1], .val (.int lo), .val (.int v), hx, by omega, by simp [h2], ?_, rfl, rfl⟩
      · show exs (IP.run P (n + 2)) b__law_formula_0 _ _ = _
        rw [b__law_formula_0, exs_cons, b1, seq_nx]
        simp only [exs_cons, exs_nil, ex_ife, seq_nx, seq_ret, endS_ret, endS_nx, ift_t, ift_f, ift_or, ift_and, ifs_t, ev_ife, and_1, and_2, or_1, or_2, evc_0, evc_1, idx_list', idx_tup', at_0, at_1, at_2, at_3, ix_2_0, ix_2_1, tr_bool, eq_str, eq_int, lt_int', le_int', gt_int', add_int', sub_int', ex, ev, evs, eva, bind_ok, of_some, toS_ok, quiet_ok, get_0, get_s, List.set_cons_zero, List.set_cons_succ, LINE, List.length_cons, List.length_nil, Nat.reduceAdd, Nat.reduceLeDiff, decide_true, List.append_nil, List.map_nil, List.cons_append, List.nil_append, eq_nil (noDicts_mem fun t mt => (hk t mt).nd), mod_int' (b := 4) (by decide), hcb, hll, f1D, List.length_map, fdiv_int' (b := 4) (by decide), e4, mod_int' pN, hra]
      · intro t mt
        rcases List.mem_append.mp mt with mt | mt
        · exact h3 t mt
        · rw [List.mem_singleton.mp mt]; exact .inl ⟨r.1, rfl, erB⟩
    · have hkn : 0 < kn.length := List.length_pos_iff.mpr fun z => hcond (.inl z)
      obtain ⟨t, ht, hta⟩ := pick_k (z := v) hkn
      have hcb : (decide (kn = []) || decide ((v : Int) % 4 = 0)) = false := by
        simp only [Bool.or_eq_false_iff, decide_eq_false_iff_not]
        exact not_or.mp hcond
      have pK : (0 : Int) < (kn.length : Int) := by omega
      refine ⟨EV l c B deep kn [.val (.int (z : Nat)), .un, .un, .val (.list (wdD B)), .val (.str q.1), .val (.list (nmD B)), .own (.list (ts ++ [t])), .val (.int lo), .un, .val (.int v), .un, .un], st1.set c (CS ((j' + 1) % 60) m), rfl, ?_,
        lo + 1, (j' + 1) % 60, ts ++ [t], .val (.int lo), .val (.int v), hx, by omega, by simp [h2], ?_, rfl, rfl⟩
      · show exs (IP.run P (n + 2)) b__law_formula_0 _ _ = _
        rw [b__law_formula_0, exs_cons, b1, seq_nx]
        simp only [exs_cons, exs_nil, ex_ife, seq_nx, seq_ret, endS_ret, endS_nx, ift_t, ift_f, ift_or, ift_and, ifs_t, ev_ife, and_1, and_2, or_1, or_2, evc_0, evc_1, idx_list', idx_tup', at_0, at_1, at_2, at_3, ix_2_0, ix_2_1, tr_bool, eq_str, eq_int, lt_int', le_int', gt_int', add_int', sub_int', ex, ev, evs, eva, bind_ok, of_some, toS_ok, quiet_ok, get_0, get_s, List.set_cons_zero, List.set_cons_succ, LINE, List.length_cons, List.length_nil, Nat.reduceAdd, Nat.reduceLeDiff, decide_true, List.append_nil, List.map_nil, List.cons_append, List.nil_append, eq_nil (noDicts_mem fun t mt => (hk t mt).nd), mod_int' (b := 4) (by decide), hcb, hll, f1D, mod_int' pK, hta]
      · intro t' mt
        rcases List.mem_append.mp mt with mt | mt
        · exact h3 t' mt
        · rw [List.mem_singleton.mp mt]; exact hk t ht
end

theorem in345 {z : Nat} (h : z < 9) : op2 .isin (.int z) (.tuple [.int 3, .int 4, .int 5]) = some (.bool (decide (z = 3 ∨ z = 4 ∨ z = 5))) := by
  match z, h with
  | 0, _ => kernel_rfl
  | 1, _ => kernel_rfl
  | 2, _ => kernel_rfl
  | 3, _ => kernel_rfl
  | 4, _ => kernel_rfl
  | 5, _ => kernel_rfl
  | 6, _ => kernel_rfl
  | 7, _ => kernel_rfl
  | 8, _ => kernel_rfl
abbrev U11 : List IP.Slot := [.un, .un, .un, .un, .un, .un, .un, .un, .un, .un, .un]
def GenF (l : List Int) (B : List (Str × Str)) (deep : Nat) : Prop := ∀ (n : Nat) (st : Store) (c j m : Nat) (kn : List D), deep + 3 ≤ n → st[c]? = some (CS j m) → (∀ t ∈ kn, TH B t) → m + 2 ^ (deep + 1) ≤ 100 → kn.length + deep ≤ 1000 → ∃ (f : Fm) (j' m' : Nat), FD B f (deep + 1) m m' ∧
  IP.run P n i__law_formula [.val (.list (l.map PyData.int)), .rf c, .val (.tuple (B.map rowD)), .val (.int deep), .val (.list kn)] st = .ok (fmD f) (st.set c (CS j' m'))
section
variable {l : List Int} {B : List (Str × Str)} (hl : l.length = 60) (h0 : ∀ x ∈ l, 0 ≤ x) (hB : Book B)
include hl h0 hB
theorem gen_f (deep : Nat) (ih : ∀ e, e + 1 = deep → GenF l B e) : GenF l B deep := by
  intro n st c j m kn hn hc hk hm hkl
  obtain ⟨n, rfl⟩ : ∃ k, n = k + 3 := ⟨n - 3, by omega⟩
  rw [IP.run_succ (d := ⟨17, 5, b__law_formula, false⟩) rfl]
  have a0 : ∃ (z j1 : Nat) (st1 : Store), ex (IP.run P (n + 2)) s__law_formula_0 (EV l c B deep kn (.un :: U11)) st = .nx (EV l c B deep kn (.val (.int (z : Nat)) :: U11)) st1 ∧ st1[c]? = some (CS j1 m) ∧ (∀ x, st1.set c x = st.set c x) ∧ (deep = 0 → z = 0) ∧ z < 9 := by
    by_cases hd : deep = 0
    · subst hd
      refine ⟨0, j, st, ?_, hc, fun _ => rfl, fun _ => rfl, by omega⟩
      simp only [s__law_formula_0, exs_cons, exs_nil, ex_ife, seq_nx, seq_ret, endS_ret, endS_nx, ift_t, ift_f, ift_or, ift_and, ifs_t, ev_ife, and_1, and_2, or_1, or_2, evc_0, evc_1, idx_list', idx_tup', at_0, at_1, at_2, at_3, ix_2_0, ix_2_1, tr_bool, eq_str, eq_int, lt_int', le_int', gt_int', add_int', sub_int', ex, ev, evs, eva, bind_ok, of_some, toS_ok, quiet_ok, get_0, get_s, List.set_cons_zero, List.set_cons_succ, LINE, List.length_cons, List.length_nil, Nat.reduceAdd, Nat.reduceLeDiff, decide_true, List.append_nil, List.map_nil, List.cons_append, List.nil_append]
      rfl
    · obtain ⟨z, hz⟩ := next_nat hl h0 j
      have em : (z : Int) % 9 = ((z % 9 : Nat) : Int) := by simp
      have hp : decide ((0 : Int) < (deep : Int)) = true := by simp; omega
      refine ⟨z % 9, (j + 1) % 60, st.set c (CS ((j + 1) % 60) m), ?_, get_set st c _ _ hc, fun x => by rw [List.set_set], fun h => absurd h hd, by omega⟩
      simp only [s__law_formula_0, exs_cons, exs_nil, ex_ife, seq_nx, seq_ret, endS_ret, endS_nx, ift_t, ift_f, ift_or, ift_and, ifs_t, ev_ife, and_1, and_2, or_1, or_2, evc_0, evc_1, idx_list', idx_tup', at_0, at_1, at_2, at_3, ix_2_0, ix_2_1, tr_bool, eq_str, eq_int, lt_int', le_int', gt_int', add_int', sub_int', ex, ev, evs, eva, bind_ok, of_some, toS_ok, quiet_ok, get_0, get_s, List.set_cons_zero, List.set_cons_succ, LINE, List.length_cons, List.length_nil, Nat.reduceAdd, Nat.reduceLeDiff, decide_true, List.append_nil, List.map_nil, List.cons_append, List.nil_append, hp, w_next (n + 1) st l hl c j m hc, hz, mod_int' (b := 9) (by decide), em]
  obtain ⟨z, j1, st1, a0, hc1, hset, hz0, hz9⟩ := a0
  have fin : ∀ d x, exs (IP.run P (n + 2)) (.cons s__law_formula_1 (.cons s__law_formula_2 (.cons s__law_formula_3 (.cons s__law_formula_4 (.cons s__law_formula_5 (.cons s__law_formula_6 .nil)))))) (EV l c B deep kn (.val (.int (z : Nat)) :: U11)) st1 = .ret d (st1.set c x) →
      endS st.length (exs (IP.run P (n + 2)) b__law_formula (EV l c B deep kn (.un :: U11)) st) = .ok d (st.set c x) := fun d x e => by
    rw [b__law_formula, exs_cons, a0, seq_nx, e, endS_ret, hset, take_set]
  by_cases h2 : z < 2
  · obtain ⟨f, j', x, e⟩ := w_fact hl h0 hB n st1 c j1 m deep z deep kn hc1 hk h2
    exact ⟨f, j', m, x, fin _ _ (by rw [exs_cons, e, seq_ret])⟩
  obtain ⟨e, rfl⟩ : ∃ e, deep = e + 1 := ⟨deep - 1, by omega⟩
  have ee : ((e + 1 : Nat) : Int) - 1 = (e : Int) := by omega
  have n1 : decide ((z : Int) < 2) = false := by simp; omega
  have ih := ih e rfl
  have pw : 2 ^ (e + 1 + 1) = 2 ^ (e + 1) * 2 := Nat.pow_succ 2 (e + 1)
  have pw1 : 1 ≤ 2 ^ (e + 1) := Nat.pow_pos (by decide)
  have f1 : ex (IP.run P (n + 2)) s__law_formula_1 (EV l c B (e + 1) kn (.val (.int (z : Nat)) :: U11)) st1 = .nx (EV l c B (e + 1) kn (.val (.int (z : Nat)) :: U11)) st1 := by
    rw [s__law_formula_1, ex_ife]
    have et : ev (IP.run P (n + 2)) (.bin .lt (.v 5) (.c (.int 2))) (EV l c B (e + 1) kn (.val (.int (z : Nat)) :: U11)) st1 = .ok (.bool false) st1 := by
      simp only [exs_cons, exs_nil, ex_ife, seq_nx, seq_ret, endS_ret, endS_nx, ift_t, ift_f, ift_or, ift_and, ifs_t, ev_ife, and_1, and_2, or_1, or_2, evc_0, evc_1, idx_list', idx_tup', at_0, at_1, at_2, at_3, ix_2_0, ix_2_1, tr_bool, eq_str, eq_int, lt_int', le_int', gt_int', add_int', sub_int', ex, ev, evs, eva, bind_ok, of_some, toS_ok, quiet_ok, get_0, get_s, List.set_cons_zero, List.set_cons_succ, LINE, List.length_cons, List.length_nil, Nat.reduceAdd, Nat.reduceLeDiff, decide_true, List.append_nil, List.map_nil, List.cons_append, List.nil_append, n1]
    rw [et, toS_ok, tr_bool, ift_f, exs_nil]
  by_cases h3 : z = 2
  · obtain ⟨f, j', m', x, r⟩ := ih (n + 2) st1 c j1 m kn (by omega) hc1 hk (by omega) (by omega)
    have y : decide ((z : Int) = 2) = true := by simp; omega
    refine ⟨.nt f, j', m', .nt x, fin _ _ ?_⟩
    rw [exs_cons, f1, seq_nx]
    simp only [s__law_formula_2, exs_cons, exs_nil, ex_ife, seq_nx, seq_ret, endS_ret, endS_nx, ift_t, ift_f, ift_or, ift_and, ifs_t, ev_ife, and_1, and_2, or_1, or_2, evc_0, evc_1, idx_list', idx_tup', at_0, at_1, at_2, at_3, ix_2_0, ix_2_1, tr_bool, eq_str, eq_int, lt_int', le_int', gt_int', add_int', sub_int', ex, ev, evs, eva, bind_ok, of_some, toS_ok, quiet_ok, get_0, get_s, List.set_cons_zero, List.set_cons_succ, LINE, List.length_cons, List.length_nil, Nat.reduceAdd, Nat.reduceLeDiff, decide_true, List.append_nil, List.map_nil, List.cons_append, List.nil_append, y, ee, r]
    rfl
  have n2 : decide ((z : Int) = 2) = false := by simp; omega
  have f2 : ex (IP.run P (n + 2)) s__law_formula_2 (EV l c B (e + 1) kn (.val (.int (z : Nat)) :: U11)) st1 = .nx (EV l c B (e + 1) kn (.val (.int (z : Nat)) :: U11)) st1 := by
    simp only [s__law_formula_2, exs_cons, exs_nil, ex_ife, seq_nx, seq_ret, endS_ret, endS_nx, ift_t, ift_f, ift_or, ift_and, ifs_t, ev_ife, and_1, and_2, or_1, or_2, evc_0, evc_1, idx_list', idx_tup', at_0, at_1, at_2, at_3, ix_2_0, ix_2_1, tr_bool, eq_str, eq_int, lt_int', le_int', gt_int', add_int', sub_int', ex, ev, evs, eva, bind_ok, of_some, toS_ok, quiet_ok, get_0, get_s, List.set_cons_zero, List.set_cons_succ, LINE, List.length_cons, List.length_nil, Nat.reduceAdd, Nat.reduceLeDiff, decide_true, List.append_nil, List.map_nil, List.cons_append, List.nil_append, n2]
  by_cases h345 : z = 3 ∨ z = 4 ∨ z = 5
  · have y : decide (z = 3 ∨ z = 4 ∨ z = 5) = true := decide_eq_true h345
    have em1 : (m : Int) + 1 = ((m + 1 : Nat) : Int) := by omega
    have hc2 := get_set st1 c (CS j1 (m + 1 : Nat)) _ hc1
    obtain ⟨v, hv⟩ := next_nat hl h0 j1
    have hc3 := get_set st1 c (CS ((j1 + 1) % 60) (m + 1 : Nat)) _ hc1
    have hk' : ∀ t ∈ kn ++ [.int m], TH B t := fun t mt => by
      rcases List.mem_append.mp mt with mt | mt
      · exact hk t mt
      · rw [List.mem_singleton.mp mt]; exact .inr (.inl ⟨m, by omega, rfl⟩)
    obtain ⟨f, j', m', x, r⟩ := ih (n + 2) (st1.set c (CS ((j1 + 1) % 60) (m + 1 : Nat))) c _ (m + 1) (kn ++ [.int m]) (by omega) hc3 hk' (by omega) (by simp; omega)
    rw [List.set_set] at r
    have hlen : decide (kn.length ≤ 16777215) = true := by simp; omega
    have hq : ∃ (q : Str) (g : Fm), FD B g (e + 1 + 1) m m' ∧ fmD g = .tuple [.str q, .int m, fmD f] ∧ ift (decide ((v : Int) % 2 = 0)) (PyData.str "all") (.str "some") = .str q := by
      cases decide ((v : Int) % 2 = 0) with
      | true => exact ⟨"all", .al m f, .al (by omega) x, rfl, rfl⟩
      | false => exact ⟨"some", .sm m f, .sm (by omega) x, rfl, rfl⟩
    obtain ⟨q, g, xg, eg, eq⟩ := hq
    refine ⟨g, j', m', xg, fin _ _ ?_⟩
    rw [exs_cons, f1, seq_nx, exs_cons, f2, seq_nx, exs_cons]
    have b1 : ∀ C, ex C (.asg 13 (.cidx 1 (.c (.int 1)))) (EV l c B (e + 1) kn (.val (.int (z : Nat)) :: U11)) st1 = .nx (EV l c B (e + 1) kn [.val (.int (z : Nat)), .un, .un, .un, .un, .un, .un, .un, .val (.int m), .un, .un, .un]) st1 := fun C => by
      simp only [exs_cons, exs_nil, ex_ife, seq_nx, seq_ret, endS_ret, endS_nx, ift_t, ift_f, ift_or, ift_and, ifs_t, ev_ife, and_1, and_2, or_1, or_2, evc_0, evc_1, idx_list', idx_tup', at_0, at_1, at_2, at_3, ix_2_0, ix_2_1, tr_bool, eq_str, eq_int, lt_int', le_int', gt_int', add_int', sub_int', ex, ev, evs, eva, bind_ok, of_some, toS_ok, quiet_ok, get_0, get_s, List.set_cons_zero, List.set_cons_succ, LINE, List.length_cons, List.length_nil, Nat.reduceAdd, Nat.reduceLeDiff, decide_true, List.append_nil, List.map_nil, List.cons_append, List.nil_append, hc1]
    have b2 : ∀ C, ex C (.cset 1 (.c (.int 1)) (.bin .add (.v 13) (.c (.int 1)))) (EV l c B (e + 1) kn [.val (.int (z : Nat)), .un, .un, .un, .un, .un, .un, .un, .val (.int m), .un, .un, .un]) st1 =
        .nx (EV l c B (e + 1) kn [.val (.int (z : Nat)), .un, .un, .un, .un, .un, .un, .un, .val (.int m), .un, .un, .un]) (st1.set c (CS j1 (m + 1 : Nat))) := fun C => by
      simp only [exs_cons, exs_nil, ex_ife, seq_nx, seq_ret, endS_ret, endS_nx, ift_t, ift_f, ift_or, ift_and, ifs_t, ev_ife, and_1, and_2, or_1, or_2, evc_0, evc_1, idx_list', idx_tup', at_0, at_1, at_2, at_3, ix_2_0, ix_2_1, tr_bool, eq_str, eq_int, lt_int', le_int', gt_int', add_int', sub_int', ex, ev, evs, eva, bind_ok, of_some, toS_ok, quiet_ok, get_0, get_s, List.set_cons_zero, List.set_cons_succ, LINE, List.length_cons, List.length_nil, Nat.reduceAdd, Nat.reduceLeDiff, decide_true, List.append_nil, List.map_nil, List.cons_append, List.nil_append, hc1, em1]
    have b3 : ex (IP.run P (n + 2)) (.asg 9 (.ife (.bin .eq (.bin .mod (.call i__law_next (.e (.v 0) (.r 1 .nil)) []) (.c (.int 2))) (.c (.int 0))) (.c (.str "all")) (.c (.str "some")))) (EV l c B (e + 1) kn [.val (.int (z : Nat)), .un, .un, .un, .un, .un, .un, .un, .val (.int m), .un, .un, .un]) (st1.set c (CS j1 (m + 1 : Nat))) =
        .nx (EV l c B (e + 1) kn [.val (.int (z : Nat)), .un, .un, .un, .val (.str q), .un, .un, .un, .val (.int m), .un, .un, .un]) (st1.set c (CS ((j1 + 1) % 60) (m + 1 : Nat))) := by
      cases hb : decide ((v : Int) % 2 = 0) with
      | true =>
        rw [hb] at eq
        have eq : PyData.str "all" = .str q := eq
        simp only [exs_cons, exs_nil, ex_ife, seq_nx, seq_ret, endS_ret, endS_nx, ift_t, ift_f, ift_or, ift_and, ifs_t, ev_ife, and_1, and_2, or_1, or_2, evc_0, evc_1, idx_list', idx_tup', at_0, at_1, at_2, at_3, ix_2_0, ix_2_1, tr_bool, eq_str, eq_int, lt_int', le_int', gt_int', add_int', sub_int', ex, ev, evs, eva, bind_ok, of_some, toS_ok, quiet_ok, get_0, get_s, List.set_cons_zero, List.set_cons_succ, LINE, List.length_cons, List.length_nil, Nat.reduceAdd, Nat.reduceLeDiff, decide_true, List.append_nil, List.map_nil, List.cons_append, List.nil_append, w_next (n + 1) _ l hl c j1 ((m + 1 : Nat) : Int) hc2, hv, mod_int' (b := 2) (by decide), List.set_set, hb, eq]
      | false =>
        rw [hb] at eq
        have eq : PyData.str "some" = .str q := eq
        simp only [exs_cons, exs_nil, ex_ife, seq_nx, seq_ret, endS_ret, endS_nx, ift_t, ift_f, ift_or, ift_and, ifs_t, ev_ife, and_1, and_2, or_1, or_2, evc_0, evc_1, idx_list', idx_tup', at_0, at_1, at_2, at_3, ix_2_0, ix_2_1, tr_bool, eq_str, eq_int, lt_int', le_int', gt_int', add_int', sub_int', ex, ev, evs, eva, bind_ok, of_some, toS_ok, quiet_ok, get_0, get_s, List.set_cons_zero, List.set_cons_succ, LINE, List.length_cons, List.length_nil, Nat.reduceAdd, Nat.reduceLeDiff, decide_true, List.append_nil, List.map_nil, List.cons_append, List.nil_append, w_next (n + 1) _ l hl c j1 ((m + 1 : Nat) : Int) hc2, hv, mod_int' (b := 2) (by decide), List.set_set, hb, eq]
    have b4 : ex (IP.run P (n + 2)) (.ret (.tup (.cons (.v 9) (.cons (.v 13) (.cons (.call i__law_formula (.e (.v 0) (.r 1 (.e (.v 2) (.e (.bin .sub (.v 3) (.c (.int 1))) (.e (.bin .add (.v 4) (.lst (.cons (.v 13) .nil))) .nil))))) []) .nil))))) (EV l c B (e + 1) kn [.val (.int (z : Nat)), .un, .un, .un, .val (.str q), .un, .un, .un, .val (.int m), .un, .un, .un]) (st1.set c (CS ((j1 + 1) % 60) (m + 1 : Nat))) =
        .ret (.tuple [.str q, .int m, fmD f]) (st1.set c (CS j' m')) := by
      simp only [exs_cons, exs_nil, ex_ife, seq_nx, seq_ret, endS_ret, endS_nx, ift_t, ift_f, ift_or, ift_and, ifs_t, ev_ife, and_1, and_2, or_1, or_2, evc_0, evc_1, idx_list', idx_tup', at_0, at_1, at_2, at_3, ix_2_0, ix_2_1, tr_bool, eq_str, eq_int, lt_int', le_int', gt_int', add_int', sub_int', ex, ev, evs, eva, bind_ok, of_some, toS_ok, quiet_ok, get_0, get_s, List.set_cons_zero, List.set_cons_succ, LINE, List.length_cons, List.length_nil, Nat.reduceAdd, Nat.reduceLeDiff, decide_true, List.append_nil, List.map_nil, List.cons_append, List.nil_append, ee, add_list, hlen, r]
    have f3 : ex (IP.run P (n + 2)) s__law_formula_3 (EV l c B (e + 1) kn (.val (.int (z : Nat)) :: U11)) st1 = .ret (fmD g) (st1.set c (CS j' m')) := by
      rw [s__law_formula_3, ex_ife]
      have et : ev (IP.run P (n + 2)) (.bin .isin (.v 5) (.tup (.cons (.c (.int 3)) (.cons (.c (.int 4)) (.cons (.c (.int 5)) .nil))))) (EV l c B (e + 1) kn (.val (.int (z : Nat)) :: U11)) st1 = .ok (.bool true) st1 := by
        simp only [exs_cons, exs_nil, ex_ife, seq_nx, seq_ret, endS_ret, endS_nx, ift_t, ift_f, ift_or, ift_and, ifs_t, ev_ife, and_1, and_2, or_1, or_2, evc_0, evc_1, idx_list', idx_tup', at_0, at_1, at_2, at_3, ix_2_0, ix_2_1, tr_bool, eq_str, eq_int, lt_int', le_int', gt_int', add_int', sub_int', ex, ev, evs, eva, bind_ok, of_some, toS_ok, quiet_ok, get_0, get_s, List.set_cons_zero, List.set_cons_succ, LINE, List.length_cons, List.length_nil, Nat.reduceAdd, Nat.reduceLeDiff, decide_true, List.append_nil, List.map_nil, List.cons_append, List.nil_append, in345 hz9, y]
      rw [et, toS_ok, tr_bool, ift_t]
      simp only [exs_cons, b1, b2, b3, b4, seq_nx, seq_ret, eg]
    rw [f3, seq_ret]
  have n345 : decide (z = 3 ∨ z = 4 ∨ z = 5) = false := decide_eq_false h345
  have f3 : ex (IP.run P (n + 2)) s__law_formula_3 (EV l c B (e + 1) kn (.val (.int (z : Nat)) :: U11)) st1 = .nx (EV l c B (e + 1) kn (.val (.int (z : Nat)) :: U11)) st1 := by
    rw [s__law_formula_3, ex_ife]
    have et : ev (IP.run P (n + 2)) (.bin .isin (.v 5) (.tup (.cons (.c (.int 3)) (.cons (.c (.int 4)) (.cons (.c (.int 5)) .nil))))) (EV l c B (e + 1) kn (.val (.int (z : Nat)) :: U11)) st1 = .ok (.bool false) st1 := by
      simp only [exs_cons, exs_nil, ex_ife, seq_nx, seq_ret, endS_ret, endS_nx, ift_t, ift_f, ift_or, ift_and, ifs_t, ev_ife, and_1, and_2, or_1, or_2, evc_0, evc_1, idx_list', idx_tup', at_0, at_1, at_2, at_3, ix_2_0, ix_2_1, tr_bool, eq_str, eq_int, lt_int', le_int', gt_int', add_int', sub_int', ex, ev, evs, eva, bind_ok, of_some, toS_ok, quiet_ok, get_0, get_s, List.set_cons_zero, List.set_cons_succ, LINE, List.length_cons, List.length_nil, Nat.reduceAdd, Nat.reduceLeDiff, decide_true, List.append_nil, List.map_nil, List.cons_append, List.nil_append, in345 hz9, n345]
    rw [et, toS_ok, tr_bool, ift_f, exs_nil]
  obtain ⟨f, j2, m2, x, r⟩ := ih (n + 2) st1 c j1 m kn (by omega) hc1 hk (by omega) (by omega)
  have hc2 := get_set st1 c (CS j2 m2) _ hc1
  have xm := x.mono
  obtain ⟨g, j3, m3, y, s⟩ := ih (n + 2) _ c j2 m2 kn (by omega) hc2 hk (by omega) (by omega)
  rw [List.set_set] at s
  have hq : ∃ (q : Str) (w : Fm), FD B w (e + 1 + 1) m m3 ∧ fmD w = .tuple [.str q, fmD f, fmD g] ∧ L2.atI [PyData.str "and", .str "or", .str "if"] ((z : Int) - 6) = some (.str q) := by
    have ez : (z : Int) - 6 = ((z - 6 : Nat) : Int) := by omega
    rw [ez, at_nat (by simp; omega)]
    have l3 : z - 6 < 3 := by omega
    generalize z - 6 = i at l3
    match i, l3 with
    | 0, _ => exact ⟨"and", .cj f g, .cj x y, rfl, rfl⟩
    | 1, _ => exact ⟨"or", .dj f g, .dj x y, rfl, rfl⟩
    | 2, _ => exact ⟨"if", .im f g, .im x y, rfl, rfl⟩
  obtain ⟨q, w, xw, ew, eq⟩ := hq
  refine ⟨w, j3, m3, xw, fin _ _ ?_⟩
  have f4 : ex (IP.run P (n + 2)) s__law_formula_4 (EV l c B (e + 1) kn (.val (.int (z : Nat)) :: U11)) st1 = .nx (EV l c B (e + 1) kn [.val (.int (z : Nat)), .val (fmD f), .un, .un, .un, .un, .un, .un, .un, .un, .un, .un]) (st1.set c (CS j2 m2)) := by
    simp only [s__law_formula_4, exs_cons, exs_nil, ex_ife, seq_nx, seq_ret, endS_ret, endS_nx, ift_t, ift_f, ift_or, ift_and, ifs_t, ev_ife, and_1, and_2, or_1, or_2, evc_0, evc_1, idx_list', idx_tup', at_0, at_1, at_2, at_3, ix_2_0, ix_2_1, tr_bool, eq_str, eq_int, lt_int', le_int', gt_int', add_int', sub_int', ex, ev, evs, eva, bind_ok, of_some, toS_ok, quiet_ok, get_0, get_s, List.set_cons_zero, List.set_cons_succ, LINE, List.length_cons, List.length_nil, Nat.reduceAdd, Nat.reduceLeDiff, decide_true, List.append_nil, List.map_nil, List.cons_append, List.nil_append, ee, r]
  have f5 : ex (IP.run P (n + 2)) s__law_formula_5 (EV l c B (e + 1) kn [.val (.int (z : Nat)), .val (fmD f), .un, .un, .un, .un, .un, .un, .un, .un, .un, .un]) (st1.set c (CS j2 m2)) = .nx (EV l c B (e + 1) kn [.val (.int (z : Nat)), .val (fmD f), .val (fmD g), .un, .un, .un, .un, .un, .un, .un, .un, .un]) (st1.set c (CS j3 m3)) := by
    simp only [s__law_formula_5, exs_cons, exs_nil, ex_ife, seq_nx, seq_ret, endS_ret, endS_nx, ift_t, ift_f, ift_or, ift_and, ifs_t, ev_ife, and_1, and_2, or_1, or_2, evc_0, evc_1, idx_list', idx_tup', at_0, at_1, at_2, at_3, ix_2_0, ix_2_1, tr_bool, eq_str, eq_int, lt_int', le_int', gt_int', add_int', sub_int', ex, ev, evs, eva, bind_ok, of_some, toS_ok, quiet_ok, get_0, get_s, List.set_cons_zero, List.set_cons_succ, LINE, List.length_cons, List.length_nil, Nat.reduceAdd, Nat.reduceLeDiff, decide_true, List.append_nil, List.map_nil, List.cons_append, List.nil_append, ee, s]
  have f6 : ∀ C, ex C s__law_formula_6 (EV l c B (e + 1) kn [.val (.int (z : Nat)), .val (fmD f), .val (fmD g), .un, .un, .un, .un, .un, .un, .un, .un, .un]) (st1.set c (CS j3 m3)) = .ret (fmD w) (st1.set c (CS j3 m3)) := fun C => by
    simp only [s__law_formula_6, exs_cons, exs_nil, ex_ife, seq_nx, seq_ret, endS_ret, endS_nx, ift_t, ift_f, ift_or, ift_and, ifs_t, ev_ife, and_1, and_2, or_1, or_2, evc_0, evc_1, idx_list', idx_tup', at_0, at_1, at_2, at_3, ix_2_0, ix_2_1, tr_bool, eq_str, eq_int, lt_int', le_int', gt_int', add_int', sub_int', ex, ev, evs, eva, bind_ok, of_some, toS_ok, quiet_ok, get_0, get_s, List.set_cons_zero, List.set_cons_succ, LINE, List.length_cons, List.length_nil, Nat.reduceAdd, Nat.reduceLeDiff, decide_true, List.append_nil, List.map_nil, List.cons_append, List.nil_append, eq, ew]
  simp only [exs_cons, f1, f2, f3, f4, f5, f6, seq_nx, seq_ret]
theorem gen_fall : ∀ deep : Nat, GenF l B deep
  | 0 => gen_f hl h0 hB 0 fun e h => absurd h (by omega)
  | e + 1 => gen_f hl h0 hB (e + 1) fun x h => by
    obtain rfl : x = e := by omega
    exact gen_fall x
end

/-! ### looked at -/
theorem ev_chain {C : CallF} {o1 o2 : Op} {a b c : E} {env : IP.Env} {st : Store} : ev C (.chain o1 o2 a b c) env st = (ev C a env st).bind fun x st1 => (ev C b env st1).bind fun y st2 => (R.of ((op2 o1 x y).bind boolD) st2).bind fun k st2 => ift k ((ev C c env st2).bind fun z st3 => R.of (op2 o2 y z) st3) (.ok (.bool false) st2) := by
  rw [ev]
  congr 1
theorem ne_int (a b : Int) : op2 .ne (.int a) (.int b) = some (.bool (!decide (a = b))) := by
  have e : PyData.eqv (.int a) (.int b) = decide (a = b) := by
    rw [PyData.eqv]
    by_cases h : a = b <;> simp [h]
  show ifs (eqOk (.int a) (.int b)) (PyData.bool (!PyData.eqv (.int a) (.int b))) = _
  rw [e]
  rfl
theorem isi_int_int (i : Int) : isiD (.int i) .int = true := rfl
theorem isi_int_bool (i : Int) : isiD (.int i) .bool = false := rfl
theorem isi_int_str (i : Int) : isiD (.int i) .str = false := rfl
theorem isi_int_tup (i : Int) : isiD (.int i) .tuple = false := rfl
theorem isi_tup_str (ds : List D) : isiD (.tuple ds) .str = false := rfl
theorem isi_tup_int (ds : List D) : isiD (.tuple ds) .int = false := rfl
theorem w_within (n : Nat) (st : Store) (k : Nat) (h : k ≤ 99) : IP.run P (n + 1) i_is_within [.val (.int k), .val (.int 0), .val (.int 99)] st = .ok (.bool true) st := by
  rw [IP.run_succ (d := ⟨3, 3, b_is_within, false⟩) rfl]
  have e1 : decide ((0 : Int) ≤ (k : Int)) = true := by simp
  have e2 : decide ((k : Int) ≤ 99) = true := by simp; omega
  have hc : ev (IP.run P n) (.chain .le .le (.v 1) (.v 0) (.v 2)) [.val (.int k), .val (.int 0), .val (.int 99)] st = .ok (.bool true) st := by
    rw [ev_chain]
    simp only [exs_cons, exs_nil, ex_ife, seq_nx, seq_ret, endS_ret, endS_nx, ift_t, ift_f, ift_or, ift_and, ifs_t, ev_ife, and_1, and_2, or_1, or_2, evc_0, evc_1, idx_list', idx_tup', at_0, at_1, at_2, at_3, ix_2_0, ix_2_1, tr_bool, eq_str, eq_int, lt_int', le_int', gt_int', add_int', sub_int', ex, ev, evs, eva, bind_ok, of_some, toS_ok, quiet_ok, get_0, get_s, List.set_cons_zero, List.set_cons_succ, LINE, List.length_cons, List.length_nil, Nat.reduceAdd, Nat.reduceLeDiff, decide_true, List.append_nil, List.map_nil, List.cons_append, List.nil_append, e1, e2, Option.bind_some, boolD]
  show endS st.length (exs (IP.run P n) b_is_within [.val (.int k), .val (.int 0), .val (.int 99)] st) = _
  have i1 : ev (IP.run P n) (.isi (.v 0) .int) [.val (.int k), .val (.int 0), .val (.int 99)] st = .ok (.bool true) st := by simp only [exs_cons, exs_nil, ex_ife, seq_nx, seq_ret, endS_ret, endS_nx, ift_t, ift_f, ift_or, ift_and, ifs_t, ev_ife, and_1, and_2, or_1, or_2, evc_0, evc_1, idx_list', idx_tup', at_0, at_1, at_2, at_3, ix_2_0, ix_2_1, tr_bool, eq_str, eq_int, lt_int', le_int', gt_int', add_int', sub_int', ex, ev, evs, eva, bind_ok, of_some, toS_ok, quiet_ok, get_0, get_s, List.set_cons_zero, List.set_cons_succ, LINE, List.length_cons, List.length_nil, Nat.reduceAdd, Nat.reduceLeDiff, decide_true, List.append_nil, List.map_nil, List.cons_append, List.nil_append, isi_int_int]
  have i2 : ev (IP.run P n) (.nt (.isi (.v 0) .bool)) [.val (.int k), .val (.int 0), .val (.int 99)] st = .ok (.bool true) st := by simp only [exs_cons, exs_nil, ex_ife, seq_nx, seq_ret, endS_ret, endS_nx, ift_t, ift_f, ift_or, ift_and, ifs_t, ev_ife, and_1, and_2, or_1, or_2, evc_0, evc_1, idx_list', idx_tup', at_0, at_1, at_2, at_3, ix_2_0, ix_2_1, tr_bool, eq_str, eq_int, lt_int', le_int', gt_int', add_int', sub_int', ex, ev, evs, eva, bind_ok, of_some, toS_ok, quiet_ok, get_0, get_s, List.set_cons_zero, List.set_cons_succ, LINE, List.length_cons, List.length_nil, Nat.reduceAdd, Nat.reduceLeDiff, decide_true, List.append_nil, List.map_nil, List.cons_append, List.nil_append, isi_int_bool, Bool.not_false]
  rw [b_is_within, exs_cons, s_is_within_0, ex, ev, and_2, i1, bind_ok, tr_bool, ift_t, and_2, i2, bind_ok, tr_bool, ift_t, and_1, hc, toS_ok, seq_ret, endS_ret]
  simp
theorem it_eq : op2 .eq (.tuple [.str "it"]) (.tuple [.str "it"]) = some (.bool true) := by kernel_rfl
theorem cut_it (x y : D) : slcD (.tuple [x, y]) none (some 1) = some (.tuple [x]) := by
  show some (PyData.tuple (cutD [x, y] none (some ((1 : Nat) : Int)))) = _
  rw [cut_to (by simp)]
  rfl
theorem w_thing (n : Nat) (st : Store) {B : List (Str × Str)} {t : D} (h : TH B t) : IP.run P (n + 2) i_is_thing [.val (.tuple (B.map rowD)), .val t] st = .ok (.bool true) st := by
  rw [IP.run_succ (d := ⟨2, 2, b_is_thing, false⟩) rfl]
  show endS st.length (exs (IP.run P (n + 1)) b_is_thing [.val (.tuple (B.map rowD)), .val t] st) = _
  rcases h with ⟨s, rfl, hs⟩ | ⟨k, hk, rfl⟩ | ⟨k, hk, rfl⟩
  · rw [b_is_thing, exs_cons]
    simp only [s_is_thing_0, exs_cons, exs_nil, ex_ife, seq_nx, seq_ret, endS_ret, endS_nx, ift_t, ift_f, ift_or, ift_and, ifs_t, ev_ife, and_1, and_2, or_1, or_2, evc_0, evc_1, idx_list', idx_tup', at_0, at_1, at_2, at_3, ix_2_0, ix_2_1, tr_bool, eq_str, eq_int, lt_int', le_int', gt_int', add_int', sub_int', ex, ev, evs, eva, bind_ok, of_some, toS_ok, quiet_ok, get_0, get_s, List.set_cons_zero, List.set_cons_succ, LINE, List.length_cons, List.length_nil, Nat.reduceAdd, Nat.reduceLeDiff, decide_true, List.append_nil, List.map_nil, List.cons_append, List.nil_append, isi_str, in_rows hs]
    simp
  · rw [b_is_thing]
    simp only [s_is_thing_0, s_is_thing_1, s_is_thing_2, exs_cons, exs_nil, ex_ife, seq_nx, seq_ret, endS_ret, endS_nx, ift_t, ift_f, ift_or, ift_and, ifs_t, ev_ife, and_1, and_2, or_1, or_2, evc_0, evc_1, idx_list', idx_tup', at_0, at_1, at_2, at_3, ix_2_0, ix_2_1, tr_bool, eq_str, eq_int, lt_int', le_int', gt_int', add_int', sub_int', ex, ev, evs, eva, bind_ok, of_some, toS_ok, quiet_ok, get_0, get_s, List.set_cons_zero, List.set_cons_succ, LINE, List.length_cons, List.length_nil, Nat.reduceAdd, Nat.reduceLeDiff, decide_true, List.append_nil, List.map_nil, List.cons_append, List.nil_append, isi_int_str, isi_int_tup, g_MOST_THING, w_within n st k hk]
    simp
  · have hd : decide ((((2 : Nat) : Int)) = 2) = true := by decide
    rw [b_is_thing]
    simp only [s_is_thing_0, s_is_thing_1, exs_cons, exs_nil, ex_ife, seq_nx, seq_ret, endS_ret, endS_nx, ift_t, ift_f, ift_or, ift_and, ifs_t, ev_ife, and_1, and_2, or_1, or_2, evc_0, evc_1, idx_list', idx_tup', at_0, at_1, at_2, at_3, ix_2_0, ix_2_1, tr_bool, eq_str, eq_int, lt_int', le_int', gt_int', add_int', sub_int', ex, ev, evs, eva, bind_ok, of_some, toS_ok, quiet_ok, get_0, get_s, List.set_cons_zero, List.set_cons_succ, LINE, List.length_cons, List.length_nil, Nat.reduceAdd, Nat.reduceLeDiff, decide_true, List.append_nil, List.map_nil, List.cons_append, List.nil_append, isi_tup_str, isi_tup, g_MOST_THING, f1D, hd, evo, cut_it, it_eq, w_within n st k hk]
    simp
theorem w_is_fact (n : Nat) (st : Store) {B : List (Str × Str)} (hB : Book B) {w k : Str} {ts : List D} (h : (w, k) ∈ B) (hk : k ∈ five) (hl : ts.length = plc k) (ht : ∀ t ∈ ts, TH B t) : IP.run P (n + 3) i_is_fact [.val (.tuple (B.map rowD)), .val (fmD (.fact w ts))] st = .ok (.bool true) st := by
  rw [IP.run_succ (d := ⟨3, 2, b_is_fact, false⟩) rfl]
  have p := plc_2 k
  have tt : truthD (.tuple ts) = true := by
    unfold truthD
    cases ts with
    | nil => simp at hl; omega
    | cons _ _ => rfl
  have a0 : ∀ C, ex C s_is_fact_0 [.val (.tuple (B.map rowD)), .val (fmD (.fact w ts)), .un] st = .nx [.val (.tuple (B.map rowD)), .val (fmD (.fact w ts)), .un] st := fun C => by
    have hd : (!decide (((3 : Nat) : Int) = 3)) = false := by decide
    simp only [s_is_fact_0, fmD, exs_cons, exs_nil, ex_ife, seq_nx, seq_ret, endS_ret, endS_nx, ift_t, ift_f, ift_or, ift_and, ifs_t, ev_ife, and_1, and_2, or_1, or_2, evc_0, evc_1, idx_list', idx_tup', at_0, at_1, at_2, at_3, ix_2_0, ix_2_1, tr_bool, eq_str, eq_int, lt_int', le_int', gt_int', add_int', sub_int', ex, ev, evs, eva, bind_ok, of_some, toS_ok, quiet_ok, get_0, get_s, List.set_cons_zero, List.set_cons_succ, LINE, List.length_cons, List.length_nil, Nat.reduceAdd, Nat.reduceLeDiff, decide_true, List.append_nil, List.map_nil, List.cons_append, List.nil_append, f1D, ne_int, hd, isi_str, isi_tup, Bool.not_true]
  have a1 : ex (IP.run P (n + 2)) s_is_fact_1 [.val (.tuple (B.map rowD)), .val (fmD (.fact w ts)), .un] st = .nx [.val (.tuple (B.map rowD)), .val (fmD (.fact w ts)), .un] st := by
    have hd : (!decide (((plc k : Nat) : Int) = (ts.length : Int))) = false := by rw [hl]; simp
    simp only [s_is_fact_1, fmD, exs_cons, exs_nil, ex_ife, seq_nx, seq_ret, endS_ret, endS_nx, ift_t, ift_f, ift_or, ift_and, ifs_t, ev_ife, and_1, and_2, or_1, or_2, evc_0, evc_1, idx_list', idx_tup', at_0, at_1, at_2, at_3, ix_2_0, ix_2_1, tr_bool, eq_str, eq_int, lt_int', le_int', gt_int', add_int', sub_int', ex, ev, evs, eva, bind_ok, of_some, toS_ok, quiet_ok, get_0, get_s, List.set_cons_zero, List.set_cons_succ, LINE, List.length_cons, List.length_nil, Nat.reduceAdd, Nat.reduceLeDiff, decide_true, List.append_nil, List.map_nil, List.cons_append, List.nil_append, f1D, ne_int, hd, tt, Bool.not_true, w_places (n + 1) st hB h hk]
  have a2 : ex (IP.run P (n + 2)) s_is_fact_2 [.val (.tuple (B.map rowD)), .val (fmD (.fact w ts)), .un] st = .ret (.bool true) st := by
    have hc : ev (IP.run P (n + 2)) (.lc [2] (.n 2) (.e (.idx (.v 1) (.c (.int 2)))) (.cons (.nt (.call i_is_thing (.e (.v 0) (.e (.v 2) .nil)) [])) .nil) (.v 2)) [.val (.tuple (B.map rowD)), .val (fmD (.fact w ts)), .un] st = .ok (.list []) st := by
      rw [ev_lc rfl]
      have ei : evi (IP.run P (n + 2)) (.e (.idx (.v 1) (.c (.int 2)))) [.val (.tuple (B.map rowD)), .val (fmD (.fact w ts)), .un] st = .ok ts st := by
        rw [evi]
        simp only [fmD, exs_cons, exs_nil, ex_ife, seq_nx, seq_ret, endS_ret, endS_nx, ift_t, ift_f, ift_or, ift_and, ifs_t, ev_ife, and_1, and_2, or_1, or_2, evc_0, evc_1, idx_list', idx_tup', at_0, at_1, at_2, at_3, ix_2_0, ix_2_1, tr_bool, eq_str, eq_int, lt_int', le_int', gt_int', add_int', sub_int', ex, ev, evs, eva, bind_ok, of_some, toS_ok, quiet_ok, get_0, get_s, List.set_cons_zero, List.set_cons_succ, LINE, List.length_cons, List.length_nil, Nat.reduceAdd, Nat.reduceLeDiff, decide_true, List.append_nil, List.map_nil, List.cons_append, List.nil_append, itemsD]
      rw [ei, bind_ok, loopE_filter (p := fun _ => false) (f := id)]
      · rw [List.filter_eq_nil_iff.mpr (fun _ _ => Bool.false_ne_true)]
        rfl
      · intro x m
        refine ⟨[.val (.tuple (B.map rowD)), .val (fmD (.fact w ts)), .val x], rfl, ?_, fun z => by cases z⟩
        simp only [exs_cons, exs_nil, ex_ife, seq_nx, seq_ret, endS_ret, endS_nx, ift_t, ift_f, ift_or, ift_and, ifs_t, ev_ife, and_1, and_2, or_1, or_2, evc_0, evc_1, idx_list', idx_tup', at_0, at_1, at_2, at_3, ix_2_0, ix_2_1, tr_bool, eq_str, eq_int, lt_int', le_int', gt_int', add_int', sub_int', ex, ev, evs, eva, bind_ok, of_some, toS_ok, quiet_ok, get_0, get_s, List.set_cons_zero, List.set_cons_succ, LINE, List.length_cons, List.length_nil, Nat.reduceAdd, Nat.reduceLeDiff, decide_true, List.append_nil, List.map_nil, List.cons_append, List.nil_append, w_thing n st (ht x m), Bool.not_true]
      · simp only [List.length_nil]
        show 0 + _ ≤ 16777216
        omega
    rw [s_is_fact_2, ex, ev, hc]
    rfl
  show endS st.length (exs (IP.run P (n + 2)) b_is_fact [.val (.tuple (B.map rowD)), .val (fmD (.fact w ts)), .un] st) = _
  rw [b_is_fact]
  simp only [exs_cons, a0, a1, a2, seq_nx, seq_ret, endS_ret]
  simp
theorem q_fact_fact : sEq "fact" "fact" = true := by kernel_rfl
theorem q_not_fact : sEq "not" "fact" = false := by kernel_rfl
theorem q_not_not : sEq "not" "not" = true := by kernel_rfl
theorem q_and_fact : sEq "and" "fact" = false := by kernel_rfl
theorem q_and_not : sEq "and" "not" = false := by kernel_rfl
theorem q_or_fact : sEq "or" "fact" = false := by kernel_rfl
theorem q_or_not : sEq "or" "not" = false := by kernel_rfl
theorem q_if_fact : sEq "if" "fact" = false := by kernel_rfl
theorem q_if_not : sEq "if" "not" = false := by kernel_rfl
theorem q_all_fact : sEq "all" "fact" = false := by kernel_rfl
theorem q_all_not : sEq "all" "not" = false := by kernel_rfl
theorem q_some_fact : sEq "some" "fact" = false := by kernel_rfl
theorem q_some_not : sEq "some" "not" = false := by kernel_rfl
theorem t_and : op2 .isin (.str "and") g_OF_TWO = some (.bool true) := by kernel_rfl
theorem t_or : op2 .isin (.str "or") g_OF_TWO = some (.bool true) := by kernel_rfl
theorem t_if : op2 .isin (.str "if") g_OF_TWO = some (.bool true) := by kernel_rfl
theorem t_all : op2 .isin (.str "all") g_OF_TWO = some (.bool false) := by kernel_rfl
theorem t_some : op2 .isin (.str "some") g_OF_TWO = some (.bool false) := by kernel_rfl
theorem u_all : op2 .notin (.str "all") g_OF_ANY = some (.bool false) := by kernel_rfl
theorem u_some : op2 .notin (.str "some") g_OF_ANY = some (.bool false) := by kernel_rfl
theorem v_all : op2 .isin (.str "all") g_OF_ANY = some (.bool true) := by kernel_rfl
theorem v_some : op2 .isin (.str "some") g_OF_ANY = some (.bool true) := by kernel_rfl
theorem v_and : op2 .isin (.str "and") g_OF_ANY = some (.bool false) := by kernel_rfl
theorem v_or : op2 .isin (.str "or") g_OF_ANY = some (.bool false) := by kernel_rfl
theorem v_if : op2 .isin (.str "if") g_OF_ANY = some (.bool false) := by kernel_rfl
theorem tr_tup (x : D) (xs : List D) : truthD (.tuple (x :: xs)) = true := rfl
theorem fm_head (f : Fm) : ∃ q xs, fmD f = .tuple (.str q :: xs) := by cases f <;> exact ⟨_, _, rfl⟩

theorem formed {B : List (Str × Str)} (hB : Book B) {f : Fm} {h m m' : Nat} (x : FD B f h m m') : ∀ (n deep : Nat) (st : Store), h + 3 ≤ n → h ≤ deep → IP.run P n i_is_formed [.val (.tuple (B.map rowD)), .val (fmD f), .val (.int deep)] st = .ok (.bool true) st := by
  induction x with
  | @fact w k ts h m a b c d =>
    intro n deep st hn hd
    obtain ⟨n, rfl⟩ : ∃ g, n = g + 4 := ⟨n - 4, by omega⟩
    rw [IP.run_succ (d := ⟨3, 3, b_is_formed, false⟩) rfl]
    have y : decide ((deep : Int) = 0) = false := by simp; omega
    have hf := w_is_fact n st hB a b c d
    rw [fmD] at hf
    show endS st.length (exs (IP.run P (n + 3)) b_is_formed [.val (.tuple (B.map rowD)), .val (fmD (.fact w ts)), .val (.int deep)] st) = _
    simp only [b_is_formed, s_is_formed_0, s_is_formed_1, fmD, exs_cons, exs_nil, ex_ife, seq_nx, seq_ret, endS_ret, endS_nx, ift_t, ift_f, ift_or, ift_and, ifs_t, ev_ife, and_1, and_2, or_1, or_2, evc_0, evc_1, idx_list', idx_tup', at_0, at_1, at_2, at_3, ix_2_0, ix_2_1, tr_bool, eq_str, eq_int, lt_int', le_int', gt_int', add_int', sub_int', ex, ev, evs, eva, bind_ok, of_some, toS_ok, quiet_ok, get_0, get_s, List.set_cons_zero, List.set_cons_succ, LINE, List.length_cons, List.length_nil, Nat.reduceAdd, Nat.reduceLeDiff, decide_true, List.append_nil, List.map_nil, List.cons_append, List.nil_append, y, isi_tup, isi_str, tr_tup, Bool.not_true, q_fact_fact, hf]
    simp
  | @nt a h m m' _ ih =>
    intro n deep st hn hd
    obtain ⟨n, rfl⟩ : ∃ g, n = g + 1 := ⟨n - 1, by omega⟩
    obtain ⟨e, rfl⟩ : ∃ e, deep = e + 1 := ⟨deep - 1, by omega⟩
    rw [IP.run_succ (d := ⟨3, 3, b_is_formed, false⟩) rfl]
    have y : decide (((e + 1 : Nat) : Int) = 0) = false := by simp; omega
    have ee : ((e + 1 : Nat) : Int) - 1 = (e : Int) := by omega
    have hd2 : decide (((2 : Nat) : Int) = 2) = true := by decide
    have i1 := ih n e st (by omega) (by omega)
    show endS st.length (exs (IP.run P n) b_is_formed [.val (.tuple (B.map rowD)), .val (fmD (.nt a)), .val (.int (e + 1 : Nat))] st) = _
    simp only [b_is_formed, s_is_formed_0, s_is_formed_1, s_is_formed_2, fmD, exs_cons, exs_nil, ex_ife, seq_nx, seq_ret, endS_ret, endS_nx, ift_t, ift_f, ift_or, ift_and, ifs_t, ev_ife, and_1, and_2, or_1, or_2, evc_0, evc_1, idx_list', idx_tup', at_0, at_1, at_2, at_3, ix_2_0, ix_2_1, tr_bool, eq_str, eq_int, lt_int', le_int', gt_int', add_int', sub_int', ex, ev, evs, eva, bind_ok, of_some, toS_ok, quiet_ok, get_0, get_s, List.set_cons_zero, List.set_cons_succ, LINE, List.length_cons, List.length_nil, Nat.reduceAdd, Nat.reduceLeDiff, decide_true, List.append_nil, List.map_nil, List.cons_append, List.nil_append, y, isi_tup, isi_str, tr_tup, Bool.not_true, q_not_fact, q_not_not, f1D, hd2, ee, i1]
    simp
  | @cj a b h m m1 m' _ _ i1 i2 =>
    intro n deep st hn hd
    obtain ⟨n, rfl⟩ : ∃ g, n = g + 1 := ⟨n - 1, by omega⟩
    obtain ⟨e, rfl⟩ : ∃ e, deep = e + 1 := ⟨deep - 1, by omega⟩
    rw [IP.run_succ (d := ⟨3, 3, b_is_formed, false⟩) rfl]
    have y : decide (((e + 1 : Nat) : Int) = 0) = false := by simp; omega
    have ee : ((e + 1 : Nat) : Int) - 1 = (e : Int) := by omega
    have hd2 : decide (((3 : Nat) : Int) = 3) = true := by decide
    have i1 := i1 n e st (by omega) (by omega)
    have i2 := i2 n e st (by omega) (by omega)
    show endS st.length (exs (IP.run P n) b_is_formed [.val (.tuple (B.map rowD)), .val (fmD (.cj a b)), .val (.int (e + 1 : Nat))] st) = _
    simp only [b_is_formed, s_is_formed_0, s_is_formed_1, s_is_formed_2, s_is_formed_3, fmD, exs_cons, exs_nil, ex_ife, seq_nx, seq_ret, endS_ret, endS_nx, ift_t, ift_f, ift_or, ift_and, ifs_t, ev_ife, and_1, and_2, or_1, or_2, evc_0, evc_1, idx_list', idx_tup', at_0, at_1, at_2, at_3, ix_2_0, ix_2_1, tr_bool, eq_str, eq_int, lt_int', le_int', gt_int', add_int', sub_int', ex, ev, evs, eva, bind_ok, of_some, toS_ok, quiet_ok, get_0, get_s, List.set_cons_zero, List.set_cons_succ, LINE, List.length_cons, List.length_nil, Nat.reduceAdd, Nat.reduceLeDiff, decide_true, List.append_nil, List.map_nil, List.cons_append, List.nil_append, y, isi_tup, isi_str, tr_tup, Bool.not_true, q_and_fact, q_and_not, t_and, f1D, hd2, ee, i1, i2]
    simp
  | @dj a b h m m1 m' _ _ i1 i2 =>
    intro n deep st hn hd
    obtain ⟨n, rfl⟩ : ∃ g, n = g + 1 := ⟨n - 1, by omega⟩
    obtain ⟨e, rfl⟩ : ∃ e, deep = e + 1 := ⟨deep - 1, by omega⟩
    rw [IP.run_succ (d := ⟨3, 3, b_is_formed, false⟩) rfl]
    have y : decide (((e + 1 : Nat) : Int) = 0) = false := by simp; omega
    have ee : ((e + 1 : Nat) : Int) - 1 = (e : Int) := by omega
    have hd2 : decide (((3 : Nat) : Int) = 3) = true := by decide
    have i1 := i1 n e st (by omega) (by omega)
    have i2 := i2 n e st (by omega) (by omega)
    show endS st.length (exs (IP.run P n) b_is_formed [.val (.tuple (B.map rowD)), .val (fmD (.dj a b)), .val (.int (e + 1 : Nat))] st) = _
    simp only [b_is_formed, s_is_formed_0, s_is_formed_1, s_is_formed_2, s_is_formed_3, fmD, exs_cons, exs_nil, ex_ife, seq_nx, seq_ret, endS_ret, endS_nx, ift_t, ift_f, ift_or, ift_and, ifs_t, ev_ife, and_1, and_2, or_1, or_2, evc_0, evc_1, idx_list', idx_tup', at_0, at_1, at_2, at_3, ix_2_0, ix_2_1, tr_bool, eq_str, eq_int, lt_int', le_int', gt_int', add_int', sub_int', ex, ev, evs, eva, bind_ok, of_some, toS_ok, quiet_ok, get_0, get_s, List.set_cons_zero, List.set_cons_succ, LINE, List.length_cons, List.length_nil, Nat.reduceAdd, Nat.reduceLeDiff, decide_true, List.append_nil, List.map_nil, List.cons_append, List.nil_append, y, isi_tup, isi_str, tr_tup, Bool.not_true, q_or_fact, q_or_not, t_or, f1D, hd2, ee, i1, i2]
    simp
  | @im a b h m m1 m' _ _ i1 i2 =>
    intro n deep st hn hd
    obtain ⟨n, rfl⟩ : ∃ g, n = g + 1 := ⟨n - 1, by omega⟩
    obtain ⟨e, rfl⟩ : ∃ e, deep = e + 1 := ⟨deep - 1, by omega⟩
    rw [IP.run_succ (d := ⟨3, 3, b_is_formed, false⟩) rfl]
    have y : decide (((e + 1 : Nat) : Int) = 0) = false := by simp; omega
    have ee : ((e + 1 : Nat) : Int) - 1 = (e : Int) := by omega
    have hd2 : decide (((3 : Nat) : Int) = 3) = true := by decide
    have i1 := i1 n e st (by omega) (by omega)
    have i2 := i2 n e st (by omega) (by omega)
    show endS st.length (exs (IP.run P n) b_is_formed [.val (.tuple (B.map rowD)), .val (fmD (.im a b)), .val (.int (e + 1 : Nat))] st) = _
    simp only [b_is_formed, s_is_formed_0, s_is_formed_1, s_is_formed_2, s_is_formed_3, fmD, exs_cons, exs_nil, ex_ife, seq_nx, seq_ret, endS_ret, endS_nx, ift_t, ift_f, ift_or, ift_and, ifs_t, ev_ife, and_1, and_2, or_1, or_2, evc_0, evc_1, idx_list', idx_tup', at_0, at_1, at_2, at_3, ix_2_0, ix_2_1, tr_bool, eq_str, eq_int, lt_int', le_int', gt_int', add_int', sub_int', ex, ev, evs, eva, bind_ok, of_some, toS_ok, quiet_ok, get_0, get_s, List.set_cons_zero, List.set_cons_succ, LINE, List.length_cons, List.length_nil, Nat.reduceAdd, Nat.reduceLeDiff, decide_true, List.append_nil, List.map_nil, List.cons_append, List.nil_append, y, isi_tup, isi_str, tr_tup, Bool.not_true, q_if_fact, q_if_not, t_if, f1D, hd2, ee, i1, i2]
    simp
  | @al a h m m' h9 x ih =>
    intro n deep st hn hd
    obtain ⟨n, rfl⟩ : ∃ g, n = g + 2 := ⟨n - 2, by omega⟩
    obtain ⟨e, rfl⟩ : ∃ e, deep = e + 1 := ⟨deep - 1, by omega⟩
    rw [IP.run_succ (d := ⟨3, 3, b_is_formed, false⟩) rfl]
    have y : decide (((e + 1 : Nat) : Int) = 0) = false := by simp; omega
    have ee : ((e + 1 : Nat) : Int) - 1 = (e : Int) := by omega
    have hd2 : (!decide (((3 : Nat) : Int) = 3)) = false := by decide
    have i1 := ih (n + 1) e st (by omega) (by omega)
    show endS st.length (exs (IP.run P (n + 1)) b_is_formed [.val (.tuple (B.map rowD)), .val (fmD (.al m a)), .val (.int (e + 1 : Nat))] st) = _
    simp only [b_is_formed, s_is_formed_0, s_is_formed_1, s_is_formed_2, s_is_formed_3, s_is_formed_4, s_is_formed_5, fmD, exs_cons, exs_nil, ex_ife, seq_nx, seq_ret, endS_ret, endS_nx, ift_t, ift_f, ift_or, ift_and, ifs_t, ev_ife, and_1, and_2, or_1, or_2, evc_0, evc_1, idx_list', idx_tup', at_0, at_1, at_2, at_3, ix_2_0, ix_2_1, tr_bool, eq_str, eq_int, lt_int', le_int', gt_int', add_int', sub_int', ex, ev, evs, eva, bind_ok, of_some, toS_ok, quiet_ok, get_0, get_s, List.set_cons_zero, List.set_cons_succ, LINE, List.length_cons, List.length_nil, Nat.reduceAdd, Nat.reduceLeDiff, decide_true, List.append_nil, List.map_nil, List.cons_append, List.nil_append, y, isi_tup, isi_str, tr_tup, Bool.not_true, q_all_fact, q_all_not, t_all, u_all, f1D, ne_int, hd2, g_MOST_THING, w_within n st m h9, ee, i1]
    simp
  | @sm a h m m' h9 x ih =>
    intro n deep st hn hd
    obtain ⟨n, rfl⟩ : ∃ g, n = g + 2 := ⟨n - 2, by omega⟩
    obtain ⟨e, rfl⟩ : ∃ e, deep = e + 1 := ⟨deep - 1, by omega⟩
    rw [IP.run_succ (d := ⟨3, 3, b_is_formed, false⟩) rfl]
    have y : decide (((e + 1 : Nat) : Int) = 0) = false := by simp; omega
    have ee : ((e + 1 : Nat) : Int) - 1 = (e : Int) := by omega
    have hd2 : (!decide (((3 : Nat) : Int) = 3)) = false := by decide
    have i1 := ih (n + 1) e st (by omega) (by omega)
    show endS st.length (exs (IP.run P (n + 1)) b_is_formed [.val (.tuple (B.map rowD)), .val (fmD (.sm m a)), .val (.int (e + 1 : Nat))] st) = _
    simp only [b_is_formed, s_is_formed_0, s_is_formed_1, s_is_formed_2, s_is_formed_3, s_is_formed_4, s_is_formed_5, fmD, exs_cons, exs_nil, ex_ife, seq_nx, seq_ret, endS_ret, endS_nx, ift_t, ift_f, ift_or, ift_and, ifs_t, ev_ife, and_1, and_2, or_1, or_2, evc_0, evc_1, idx_list', idx_tup', at_0, at_1, at_2, at_3, ix_2_0, ix_2_1, tr_bool, eq_str, eq_int, lt_int', le_int', gt_int', add_int', sub_int', ex, ev, evs, eva, bind_ok, of_some, toS_ok, quiet_ok, get_0, get_s, List.set_cons_zero, List.set_cons_succ, LINE, List.length_cons, List.length_nil, Nat.reduceAdd, Nat.reduceLeDiff, decide_true, List.append_nil, List.map_nil, List.cons_append, List.nil_append, y, isi_tup, isi_str, tr_tup, Bool.not_true, q_some_fact, q_some_not, t_some, u_some, f1D, ne_int, hd2, g_MOST_THING, w_within n st m h9, ee, i1]
    simp
def numD (m m' : Nat) : List D := (List.range' m (m' - m)).map fun (i : Nat) => .int i
theorem numD_cons {m m' : Nat} (h : m + 1 ≤ m') : .int m :: numD (m + 1) m' = numD m m' := by
  unfold numD
  have : m' - m = (m' - (m + 1)) + 1 := by omega
  rw [this, List.range'_succ]
  rfl
theorem numD_app {m m1 m' : Nat} (h : m ≤ m1) (h2 : m1 ≤ m') : numD m m1 ++ numD m1 m' = numD m m' := by
  unfold numD
  rw [← List.map_append]
  have e := List.range'_append_1 (s := m) (m := m1 - m) (n := m' - m1)
  have e1 : m + (m1 - m) = m1 := by omega
  have e2 : m1 - m + (m' - m1) = m' - m := by omega
  rw [e1, e2] at e
  rw [e]
theorem numD_len (m m' : Nat) : (numD m m').length = m' - m := by simp [numD]
theorem brought {B : List (Str × Str)} {f : Fm} {h m m' : Nat} (x : FD B f h m m') : ∀ (n : Nat) (st : Store), h + 1 ≤ n → m' ≤ 1000 → IP.run P n i_brought [.val (fmD f)] st = .ok (.list (numD m m')) st := by
  induction x with
  | @fact w k ts h m a b c d =>
    intro n st hn hm
    obtain ⟨n, rfl⟩ : ∃ g, n = g + 1 := ⟨n - 1, by omega⟩
    rw [IP.run_succ (d := ⟨1, 1, b_brought, false⟩) rfl]
    have e : numD m m = [] := by simp [numD]
    show endS st.length (exs (IP.run P n) b_brought [.val (fmD (.fact w ts))] st) = _
    simp only [b_brought, s_brought_0, fmD, exs_cons, exs_nil, ex_ife, seq_nx, seq_ret, endS_ret, endS_nx, ift_t, ift_f, ift_or, ift_and, ifs_t, ev_ife, and_1, and_2, or_1, or_2, evc_0, evc_1, idx_list', idx_tup', at_0, at_1, at_2, at_3, ix_2_0, ix_2_1, tr_bool, eq_str, eq_int, lt_int', le_int', gt_int', add_int', sub_int', ex, ev, evs, eva, bind_ok, of_some, toS_ok, quiet_ok, get_0, get_s, List.set_cons_zero, List.set_cons_succ, LINE, List.length_cons, List.length_nil, Nat.reduceAdd, Nat.reduceLeDiff, decide_true, List.append_nil, List.map_nil, List.cons_append, List.nil_append, q_fact_fact, e]
    simp
  | @nt a h m m' x ih =>
    intro n st hn hm
    obtain ⟨n, rfl⟩ : ∃ g, n = g + 1 := ⟨n - 1, by omega⟩
    rw [IP.run_succ (d := ⟨1, 1, b_brought, false⟩) rfl]
    show endS st.length (exs (IP.run P n) b_brought [.val (fmD (.nt a))] st) = _
    simp only [b_brought, s_brought_0, s_brought_1, fmD, exs_cons, exs_nil, ex_ife, seq_nx, seq_ret, endS_ret, endS_nx, ift_t, ift_f, ift_or, ift_and, ifs_t, ev_ife, and_1, and_2, or_1, or_2, evc_0, evc_1, idx_list', idx_tup', at_0, at_1, at_2, at_3, ix_2_0, ix_2_1, tr_bool, eq_str, eq_int, lt_int', le_int', gt_int', add_int', sub_int', ex, ev, evs, eva, bind_ok, of_some, toS_ok, quiet_ok, get_0, get_s, List.set_cons_zero, List.set_cons_succ, LINE, List.length_cons, List.length_nil, Nat.reduceAdd, Nat.reduceLeDiff, decide_true, List.append_nil, List.map_nil, List.cons_append, List.nil_append, q_not_fact, q_not_not, ih n st (by omega) hm]
    simp
  | @cj a b h m m1 m' x y i1 i2 | @dj a b h m m1 m' x y i1 i2 | @im a b h m m1 m' x y i1 i2 =>
    intro n st hn hm
    obtain ⟨n, rfl⟩ : ∃ g, n = g + 1 := ⟨n - 1, by omega⟩
    rw [IP.run_succ (d := ⟨1, 1, b_brought, false⟩) rfl]
    have hx := x.mono
    have hy := y.mono
    have hl : decide ((numD m m1).length + (numD m1 m').length ≤ 16777216) = true := by
      rw [numD_len, numD_len]
      simp
      omega
    have e := numD_app (m := m) (m1 := m1) (m' := m') (by omega) (by omega)
    show endS st.length (exs (IP.run P n) b_brought [.val (fmD _)] st) = _
    simp only [b_brought, s_brought_0, s_brought_1, s_brought_2, s_brought_3, fmD, exs_cons, exs_nil, ex_ife, seq_nx, seq_ret, endS_ret, endS_nx, ift_t, ift_f, ift_or, ift_and, ifs_t, ev_ife, and_1, and_2, or_1, or_2, evc_0, evc_1, idx_list', idx_tup', at_0, at_1, at_2, at_3, ix_2_0, ix_2_1, tr_bool, eq_str, eq_int, lt_int', le_int', gt_int', add_int', sub_int', ex, ev, evs, eva, bind_ok, of_some, toS_ok, quiet_ok, get_0, get_s, List.set_cons_zero, List.set_cons_succ, LINE, List.length_cons, List.length_nil, Nat.reduceAdd, Nat.reduceLeDiff, decide_true, List.append_nil, List.map_nil, List.cons_append, List.nil_append, q_and_fact, q_and_not, v_and, q_or_fact, q_or_not, v_or, q_if_fact, q_if_not, v_if, i1 n st (by omega) (by omega), i2 n st (by omega) (by omega), add_list, hl, e]
    simp
  | @al a h m m' h9 x ih | @sm a h m m' h9 x ih =>
    intro n st hn hm
    obtain ⟨n, rfl⟩ : ∃ g, n = g + 1 := ⟨n - 1, by omega⟩
    rw [IP.run_succ (d := ⟨1, 1, b_brought, false⟩) rfl]
    have hx := x.mono
    have hl : decide ((1 : Nat) + (numD (m + 1) m').length ≤ 16777216) = true := by
      rw [numD_len]
      simp
      omega
    have e := numD_cons (m := m) (m' := m') (by omega)
    show endS st.length (exs (IP.run P n) b_brought [.val (fmD _)] st) = _
    simp only [b_brought, s_brought_0, s_brought_1, s_brought_2, fmD, exs_cons, exs_nil, ex_ife, seq_nx, seq_ret, endS_ret, endS_nx, ift_t, ift_f, ift_or, ift_and, ifs_t, ev_ife, and_1, and_2, or_1, or_2, evc_0, evc_1, idx_list', idx_tup', at_0, at_1, at_2, at_3, ix_2_0, ix_2_1, tr_bool, eq_str, eq_int, lt_int', le_int', gt_int', add_int', sub_int', ex, ev, evs, eva, bind_ok, of_some, toS_ok, quiet_ok, get_0, get_s, List.set_cons_zero, List.set_cons_succ, LINE, List.length_cons, List.length_nil, Nat.reduceAdd, Nat.reduceLeDiff, decide_true, List.append_nil, List.map_nil, List.cons_append, List.nil_append, q_all_fact, q_all_not, v_all, q_some_fact, q_some_not, v_some, ih n st (by omega) hm, add_list, hl, e]
    simp
theorem keysD_nums : ∀ (k m : Nat), keysD ((List.range' m k).map fun (i : Nat) => PyData.int i) = some ((List.range' m k).map fun (i : Nat) => (.inl (i : Int) : L2.Key))
  | 0, m => rfl
  | k + 1, m => by
    rw [List.range'_succ, List.map_cons, keysD, keysD_nums k]
    rfl
theorem w_formula (n : Nat) (st : Store) {B : List (Str × Str)} (hB : Book B) {f : Fm} {h m m' : Nat} (x : FD B f h m m') (hn : h + 3 ≤ n) (hh : h ≤ 300) (hm : m' ≤ 1000) : IP.run P (n + 1) i_is_formula_of [.val (.tuple (B.map rowD)), .val (fmD f)] st = .ok (.bool true) st := by
  rw [IP.run_succ (d := ⟨3, 2, b_is_formula_of, false⟩) rfl]
  have hf := formed hB x n 300 st hn hh
  have hf : IP.run P n i_is_formed [.val (.tuple (B.map rowD)), .val (fmD f), .val (.int 300)] st = .ok (.bool true) st := hf
  have hb := brought x n st (by omega) hm
  have e1 : ev (IP.run P n) (.lenset (.v 2)) [.val (.tuple (B.map rowD)), .val (fmD f), .val (.list (numD m m'))] st = .ok (.int ((m' - m : Nat) : Int)) st := by
    rw [ev]
    have ev2 : ev (IP.run P n) (.v 2) [.val (.tuple (B.map rowD)), .val (fmD f), .val (.list (numD m m'))] st = .ok (.list (numD m m')) st := by simp only [exs_cons, exs_nil, ex_ife, seq_nx, seq_ret, endS_ret, endS_nx, ift_t, ift_f, ift_or, ift_and, ifs_t, ev_ife, and_1, and_2, or_1, or_2, evc_0, evc_1, idx_list', idx_tup', at_0, at_1, at_2, at_3, ix_2_0, ix_2_1, tr_bool, eq_str, eq_int, lt_int', le_int', gt_int', add_int', sub_int', ex, ev, evs, eva, bind_ok, of_some, toS_ok, quiet_ok, get_0, get_s, List.set_cons_zero, List.set_cons_succ, LINE, List.length_cons, List.length_nil, Nat.reduceAdd, Nat.reduceLeDiff, decide_true, List.append_nil, List.map_nil, List.cons_append, List.nil_append]
    rw [ev2, bind_ok]
    show R.of ((keysD (numD m m')).bind fun ks => ifs (decide (ks.length < 4000)) (PyData.int (addKeys ks []).length)) st = _
    unfold numD
    rw [keysD_nums]
    have hn : (addKeys ((List.range' m (m' - m)).map fun (i : Nat) => (.inl (i : Int) : L2.Key)) []).length = m' - m := by
      rw [addKeys_nd]
      · simp
      · rw [List.nil_append]
        exact List.Pairwise.map _ (fun a b hab e => hab (by have := Sum.inl.inj e; omega)) (List.nodup_range' (step := 1) (by omega))
    show R.of (ifs (decide (((List.range' m (m' - m)).map fun (i : Nat) => (.inl (i : Int) : L2.Key)).length < 4000)) (PyData.int (addKeys ((List.range' m (m' - m)).map fun (i : Nat) => (.inl (i : Int) : L2.Key)) []).length)) st = _
    rw [hn, decide_eq_true (by simp; omega)]
    rfl
  have e2 : ev (IP.run P n) (.f1 .len (.v 2)) [.val (.tuple (B.map rowD)), .val (fmD f), .val (.list (numD m m'))] st = .ok (.int ((m' - m : Nat) : Int)) st := by
    simp only [exs_cons, exs_nil, ex_ife, seq_nx, seq_ret, endS_ret, endS_nx, ift_t, ift_f, ift_or, ift_and, ifs_t, ev_ife, and_1, and_2, or_1, or_2, evc_0, evc_1, idx_list', idx_tup', at_0, at_1, at_2, at_3, ix_2_0, ix_2_1, tr_bool, eq_str, eq_int, lt_int', le_int', gt_int', add_int', sub_int', ex, ev, evs, eva, bind_ok, of_some, toS_ok, quiet_ok, get_0, get_s, List.set_cons_zero, List.set_cons_succ, LINE, List.length_cons, List.length_nil, Nat.reduceAdd, Nat.reduceLeDiff, decide_true, List.append_nil, List.map_nil, List.cons_append, List.nil_append, f1D, numD_len]
  have e3 : op2 .eq (.int ((m' - m : Nat) : Int)) (.int ((m' - m : Nat) : Int)) = some (.bool true) := by
    rw [eq_int]
    simp
  have a0 : ex (IP.run P n) s_is_formula_of_0 [.val (.tuple (B.map rowD)), .val (fmD f), .un] st = .nx [.val (.tuple (B.map rowD)), .val (fmD f), .un] st := by
    simp only [s_is_formula_of_0, exs_cons, exs_nil, ex_ife, seq_nx, seq_ret, endS_ret, endS_nx, ift_t, ift_f, ift_or, ift_and, ifs_t, ev_ife, and_1, and_2, or_1, or_2, evc_0, evc_1, idx_list', idx_tup', at_0, at_1, at_2, at_3, ix_2_0, ix_2_1, tr_bool, eq_str, eq_int, lt_int', le_int', gt_int', add_int', sub_int', ex, ev, evs, eva, bind_ok, of_some, toS_ok, quiet_ok, get_0, get_s, List.set_cons_zero, List.set_cons_succ, LINE, List.length_cons, List.length_nil, Nat.reduceAdd, Nat.reduceLeDiff, decide_true, List.append_nil, List.map_nil, List.cons_append, List.nil_append, g_MOST_DEEP, hf, Bool.not_true]
  have a1 : ex (IP.run P n) s_is_formula_of_1 [.val (.tuple (B.map rowD)), .val (fmD f), .un] st = .nx [.val (.tuple (B.map rowD)), .val (fmD f), .val (.list (numD m m'))] st := by
    simp only [s_is_formula_of_1, exs_cons, exs_nil, ex_ife, seq_nx, seq_ret, endS_ret, endS_nx, ift_t, ift_f, ift_or, ift_and, ifs_t, ev_ife, and_1, and_2, or_1, or_2, evc_0, evc_1, idx_list', idx_tup', at_0, at_1, at_2, at_3, ix_2_0, ix_2_1, tr_bool, eq_str, eq_int, lt_int', le_int', gt_int', add_int', sub_int', ex, ev, evs, eva, bind_ok, of_some, toS_ok, quiet_ok, get_0, get_s, List.set_cons_zero, List.set_cons_succ, LINE, List.length_cons, List.length_nil, Nat.reduceAdd, Nat.reduceLeDiff, decide_true, List.append_nil, List.map_nil, List.cons_append, List.nil_append, hb]
  have a2 : ex (IP.run P n) s_is_formula_of_2 [.val (.tuple (B.map rowD)), .val (fmD f), .val (.list (numD m m'))] st = .ret (.bool true) st := by
    rw [s_is_formula_of_2, ex, ev, e1, bind_ok, e2, bind_ok, e3, of_some, toS_ok]
  show endS st.length (exs (IP.run P n) b_is_formula_of [.val (.tuple (B.map rowD)), .val (fmD f), .un] st) = _
  rw [b_is_formula_of]
  simp only [exs_cons, a0, a1, a2, seq_nx, seq_ret, endS_ret]
  simp
theorem w_look_formula (n : Nat) (st : Store) {B : List (Str × Str)} (hB : Book B) {f : Fm} {h m m' : Nat} (x : FD B f h m m') (hn : h + 4 ≤ n) (hh : h ≤ 300) (hm : m' ≤ 1000) : IP.run P (n + 1) i_look_formula [.val (.tuple (B.map rowD)), .val (fmD f)] st = .ok .none st := by
  obtain ⟨n, rfl⟩ : ∃ g, n = g + 3 := ⟨n - 3, by omega⟩
  rw [IP.run_succ (d := ⟨2, 2, b_look_formula, false⟩) rfl]
  show endS st.length (exs (IP.run P (n + 3)) b_look_formula [.val (.tuple (B.map rowD)), .val (fmD f)] st) = _
  simp only [b_look_formula, s_look_formula_0, s_look_formula_1, exs_cons, exs_nil, ex_ife, seq_nx, seq_ret, endS_ret, endS_nx, ift_t, ift_f, ift_or, ift_and, ifs_t, ev_ife, and_1, and_2, or_1, or_2, evc_0, evc_1, idx_list', idx_tup', at_0, at_1, at_2, at_3, ix_2_0, ix_2_1, tr_bool, eq_str, eq_int, lt_int', le_int', gt_int', add_int', sub_int', ex, ev, evs, eva, bind_ok, of_some, toS_ok, quiet_ok, get_0, get_s, List.set_cons_zero, List.set_cons_succ, LINE, List.length_cons, List.length_nil, Nat.reduceAdd, Nat.reduceLeDiff, decide_true, List.append_nil, List.map_nil, List.cons_append, List.nil_append, w_look n st hB, w_formula (n + 2) st hB x (by omega) hh hm, Bool.not_true]
  simp

/-! ### things, places: of anything -/
def inB' (B : List (Str × Str)) (s k : Str) : Bool := B.any fun q => sEq q.1 s && sEq q.2 k
theorem eqv_rows (a b c d : Str) : PyData.eqv (.tuple [.str a, .str b]) (.tuple [.str c, .str d]) = (sEq a c && sEq b d) := by
  simp [PyData.eqv, PyData.eqvAll, beq_sEq]
theorem in_rowsG (B : List (Str × Str)) (w k : Str) : op2 .isin (.tuple [.str w, .str k]) (.tuple (B.map rowD)) = some (.bool (inB' B w k)) := by
  have h1 : inOk (.tuple [.str w, .str k]) (B.map rowD) = true := by
    unfold inOk
    rw [noDicts_rows]
    have := row_depth w k
    have e : decide (min (PyData.depthAll (B.map rowD)) (PyData.tuple [.str w, .str k]).depth ≤ 150) = true := by
      simp only [decide_eq_true_eq]
      omega
    rw [e]
    rfl
  have h2 : ((B.map rowD).any fun y => PyData.eqv y (.tuple [.str w, .str k])) = inB' B w k := by
    unfold inB'
    rw [List.any_map]
    congr 1
    funext p
    exact eqv_rows p.1 p.2 w k
  show ifs (inOk (.tuple [.str w, .str k]) (B.map rowD)) (PyData.bool (xor false ((B.map rowD).any fun y => PyData.eqv y (.tuple [.str w, .str k])))) = _
  rw [h1, h2, Bool.false_xor]
  rfl
def i99 (i : Int) : Bool := decide (0 ≤ i) && decide (i ≤ 99)
theorem w_withinI (n : Nat) (st : Store) (i : Int) : IP.run P (n + 1) i_is_within [.val (.int i), .val (.int 0), .val (.int 99)] st = .ok (.bool (i99 i)) st := by
  rw [IP.run_succ (d := ⟨3, 3, b_is_within, false⟩) rfl]
  have hc : ev (IP.run P n) (.chain .le .le (.v 1) (.v 0) (.v 2)) [.val (.int i), .val (.int 0), .val (.int 99)] st = .ok (.bool (i99 i)) st := by
    rw [ev_chain]
    unfold i99
    cases e1 : decide ((0 : Int) ≤ i) with
    | true => simp only [exs_cons, exs_nil, ex_ife, seq_nx, seq_ret, endS_ret, endS_nx, ift_t, ift_f, ift_or, ift_and, ifs_t, ev_ife, and_1, and_2, or_1, or_2, evc_0, evc_1, idx_list', idx_tup', at_0, at_1, at_2, at_3, ix_2_0, ix_2_1, tr_bool, eq_str, eq_int, lt_int', le_int', gt_int', add_int', sub_int', ex, ev, evs, eva, bind_ok, of_some, toS_ok, quiet_ok, get_0, get_s, List.set_cons_zero, List.set_cons_succ, LINE, List.length_cons, List.length_nil, Nat.reduceAdd, Nat.reduceLeDiff, decide_true, List.append_nil, List.map_nil, List.cons_append, List.nil_append, e1, Option.bind_some, boolD, Bool.true_and]
    | false => simp only [exs_cons, exs_nil, ex_ife, seq_nx, seq_ret, endS_ret, endS_nx, ift_t, ift_f, ift_or, ift_and, ifs_t, ev_ife, and_1, and_2, or_1, or_2, evc_0, evc_1, idx_list', idx_tup', at_0, at_1, at_2, at_3, ix_2_0, ix_2_1, tr_bool, eq_str, eq_int, lt_int', le_int', gt_int', add_int', sub_int', ex, ev, evs, eva, bind_ok, of_some, toS_ok, quiet_ok, get_0, get_s, List.set_cons_zero, List.set_cons_succ, LINE, List.length_cons, List.length_nil, Nat.reduceAdd, Nat.reduceLeDiff, decide_true, List.append_nil, List.map_nil, List.cons_append, List.nil_append, e1, Option.bind_some, boolD, Bool.false_and]
  show endS st.length (exs (IP.run P n) b_is_within [.val (.int i), .val (.int 0), .val (.int 99)] st) = _
  have i1 : ev (IP.run P n) (.isi (.v 0) .int) [.val (.int i), .val (.int 0), .val (.int 99)] st = .ok (.bool true) st := by simp only [exs_cons, exs_nil, ex_ife, seq_nx, seq_ret, endS_ret, endS_nx, ift_t, ift_f, ift_or, ift_and, ifs_t, ev_ife, and_1, and_2, or_1, or_2, evc_0, evc_1, idx_list', idx_tup', at_0, at_1, at_2, at_3, ix_2_0, ix_2_1, tr_bool, eq_str, eq_int, lt_int', le_int', gt_int', add_int', sub_int', ex, ev, evs, eva, bind_ok, of_some, toS_ok, quiet_ok, get_0, get_s, List.set_cons_zero, List.set_cons_succ, LINE, List.length_cons, List.length_nil, Nat.reduceAdd, Nat.reduceLeDiff, decide_true, List.append_nil, List.map_nil, List.cons_append, List.nil_append, isi_int_int]
  have i2 : ev (IP.run P n) (.nt (.isi (.v 0) .bool)) [.val (.int i), .val (.int 0), .val (.int 99)] st = .ok (.bool true) st := by simp only [exs_cons, exs_nil, ex_ife, seq_nx, seq_ret, endS_ret, endS_nx, ift_t, ift_f, ift_or, ift_and, ifs_t, ev_ife, and_1, and_2, or_1, or_2, evc_0, evc_1, idx_list', idx_tup', at_0, at_1, at_2, at_3, ix_2_0, ix_2_1, tr_bool, eq_str, eq_int, lt_int', le_int', gt_int', add_int', sub_int', ex, ev, evs, eva, bind_ok, of_some, toS_ok, quiet_ok, get_0, get_s, List.set_cons_zero, List.set_cons_succ, LINE, List.length_cons, List.length_nil, Nat.reduceAdd, Nat.reduceLeDiff, decide_true, List.append_nil, List.map_nil, List.cons_append, List.nil_append, isi_int_bool, Bool.not_false]
  rw [b_is_within, exs_cons, s_is_within_0, ex, ev, and_2, i1, bind_ok, tr_bool, ift_t, and_2, i2, bind_ok, tr_bool, ift_t, and_1, hc, toS_ok, seq_ret, endS_ret]
  simp
/-- is it a whole number from 0 to 99 -/
def in99 : D → Bool
  | .int i => i99 i
  | _ => false
theorem w_withinG (n : Nat) (st : Store) (x : D) : IP.run P (n + 1) i_is_within [.val x, .val (.int 0), .val (.int 99)] st = .ok (.bool (in99 x)) st := by
  cases x with
  | int i => exact w_withinI n st i
  | bool b =>
    rw [IP.run_succ (d := ⟨3, 3, b_is_within, false⟩) rfl]
    show endS st.length (exs (IP.run P n) b_is_within [.val (.bool b), .val (.int 0), .val (.int 99)] st) = _
    simp only [b_is_within, s_is_within_0, exs_cons, exs_nil, ex_ife, seq_nx, seq_ret, endS_ret, endS_nx, ift_t, ift_f, ift_or, ift_and, ifs_t, ev_ife, and_1, and_2, or_1, or_2, evc_0, evc_1, idx_list', idx_tup', at_0, at_1, at_2, at_3, ix_2_0, ix_2_1, tr_bool, eq_str, eq_int, lt_int', le_int', gt_int', add_int', sub_int', ex, ev, evs, eva, bind_ok, of_some, toS_ok, quiet_ok, get_0, get_s, List.set_cons_zero, List.set_cons_succ, LINE, List.length_cons, List.length_nil, Nat.reduceAdd, Nat.reduceLeDiff, decide_true, List.append_nil, List.map_nil, List.cons_append, List.nil_append, isiD, Bool.not_true]
    simp [in99]
  | none | str | tuple | list | dict =>
    rw [IP.run_succ (d := ⟨3, 3, b_is_within, false⟩) rfl]
    show endS st.length (exs (IP.run P n) b_is_within [.val _, .val (.int 0), .val (.int 99)] st) = _
    simp only [b_is_within, s_is_within_0, exs_cons, exs_nil, ex_ife, seq_nx, seq_ret, endS_ret, endS_nx, ift_t, ift_f, ift_or, ift_and, ifs_t, ev_ife, and_1, and_2, or_1, or_2, evc_0, evc_1, idx_list', idx_tup', at_0, at_1, at_2, at_3, ix_2_0, ix_2_1, tr_bool, eq_str, eq_int, lt_int', le_int', gt_int', add_int', sub_int', ex, ev, evs, eva, bind_ok, of_some, toS_ok, quiet_ok, get_0, get_s, List.set_cons_zero, List.set_cons_succ, LINE, List.length_cons, List.length_nil, Nat.reduceAdd, Nat.reduceLeDiff, decide_true, List.append_nil, List.map_nil, List.cons_append, List.nil_append, isiD]
    simp [in99]
/-- the law's word for the same -/
def e99 (i : Nat) : E := .chain .le .le (.c (.int 0)) (.v i) (.c (.int 99))
def wholeD : D → Bool
  | .int _ => true
  | _ => false
theorem w_whole (n : Nat) (st : Store) (x : D) : IP.run P (n + 1) i__law_whole [.val x] st = .ok (.bool (wholeD x)) st := by
  rw [IP.run_succ (d := ⟨1, 1, b__law_whole, false⟩) rfl]
  show endS st.length (exs (IP.run P n) b__law_whole [.val x] st) = _
  cases x with
  | int i =>
    simp only [b__law_whole, s__law_whole_0, exs_cons, exs_nil, ex_ife, seq_nx, seq_ret, endS_ret, endS_nx, ift_t, ift_f, ift_or, ift_and, ifs_t, ev_ife, and_1, and_2, or_1, or_2, evc_0, evc_1, idx_list', idx_tup', at_0, at_1, at_2, at_3, ix_2_0, ix_2_1, tr_bool, eq_str, eq_int, lt_int', le_int', gt_int', add_int', sub_int', ex, ev, evs, eva, bind_ok, of_some, toS_ok, quiet_ok, get_0, get_s, List.set_cons_zero, List.set_cons_succ, LINE, List.length_cons, List.length_nil, Nat.reduceAdd, Nat.reduceLeDiff, decide_true, List.append_nil, List.map_nil, List.cons_append, List.nil_append, isiD, Bool.not_false]
    simp [wholeD]
  | bool b =>
    simp only [b__law_whole, s__law_whole_0, exs_cons, exs_nil, ex_ife, seq_nx, seq_ret, endS_ret, endS_nx, ift_t, ift_f, ift_or, ift_and, ifs_t, ev_ife, and_1, and_2, or_1, or_2, evc_0, evc_1, idx_list', idx_tup', at_0, at_1, at_2, at_3, ix_2_0, ix_2_1, tr_bool, eq_str, eq_int, lt_int', le_int', gt_int', add_int', sub_int', ex, ev, evs, eva, bind_ok, of_some, toS_ok, quiet_ok, get_0, get_s, List.set_cons_zero, List.set_cons_succ, LINE, List.length_cons, List.length_nil, Nat.reduceAdd, Nat.reduceLeDiff, decide_true, List.append_nil, List.map_nil, List.cons_append, List.nil_append, isiD, Bool.not_true]
    simp [wholeD]
  | none | str | tuple | list | dict =>
    simp only [b__law_whole, s__law_whole_0, exs_cons, exs_nil, ex_ife, seq_nx, seq_ret, endS_ret, endS_nx, ift_t, ift_f, ift_or, ift_and, ifs_t, ev_ife, and_1, and_2, or_1, or_2, evc_0, evc_1, idx_list', idx_tup', at_0, at_1, at_2, at_3, ix_2_0, ix_2_1, tr_bool, eq_str, eq_int, lt_int', le_int', gt_int', add_int', sub_int', ex, ev, evs, eva, bind_ok, of_some, toS_ok, quiet_ok, get_0, get_s, List.set_cons_zero, List.set_cons_succ, LINE, List.length_cons, List.length_nil, Nat.reduceAdd, Nat.reduceLeDiff, decide_true, List.append_nil, List.map_nil, List.cons_append, List.nil_append, isiD]
    simp [wholeD]
theorem chain_99 {C : CallF} {e : E} {env : IP.Env} {st : Store} {i : Int} (h : ev C e env st = .ok (.int i) st) : ev C (.chain .le .le (.c (.int 0)) e (.c (.int 99))) env st = .ok (.bool (i99 i)) st := by
  rw [ev_chain]
  unfold i99
  have h0 : ev C (.c (.int 0)) env st = .ok (.int 0) st := by rw [ev]
  have h9 : ev C (.c (.int 99)) env st = .ok (.int 99) st := by rw [ev]
  rw [h0, bind_ok, h, bind_ok, le_int', Option.bind_some]
  cases e1 : decide ((0 : Int) ≤ i) with
  | true =>
    show (R.ok true st).bind _ = _
    rw [bind_ok, ift_t, h9, bind_ok, le_int', of_some, Bool.true_and]
  | false =>
    show (R.ok false st).bind _ = _
    rw [bind_ok, ift_f, Bool.false_and]

/-- the things that stand in facts, good and bad -/
def GT (t : D) : Prop := (∃ s, t = .str s) ∨ (∃ i, t = .int i) ∨ (∃ b, t = .bool b) ∨ ∃ i, t = .tuple [.str "it", .int i]
def thB (B : List (Str × Str)) : D → Bool
  | .str s => inB' B s "name"
  | .int i => i99 i
  | .tuple [_, .int i] => i99 i
  | _ => false
theorem w_thingG (n : Nat) (st : Store) {B : List (Str × Str)} {t : D} (h : GT t) : IP.run P (n + 2) i_is_thing [.val (.tuple (B.map rowD)), .val t] st = .ok (.bool (thB B t)) st := by
  rw [IP.run_succ (d := ⟨2, 2, b_is_thing, false⟩) rfl]
  show endS st.length (exs (IP.run P (n + 1)) b_is_thing [.val (.tuple (B.map rowD)), .val t] st) = _
  rcases h with ⟨s, rfl⟩ | ⟨i, rfl⟩ | ⟨b, rfl⟩ | ⟨i, rfl⟩
  · rw [b_is_thing, exs_cons]
    simp only [s_is_thing_0, exs_cons, exs_nil, ex_ife, seq_nx, seq_ret, endS_ret, endS_nx, ift_t, ift_f, ift_or, ift_and, ifs_t, ev_ife, and_1, and_2, or_1, or_2, evc_0, evc_1, idx_list', idx_tup', at_0, at_1, at_2, at_3, ix_2_0, ix_2_1, tr_bool, eq_str, eq_int, lt_int', le_int', gt_int', add_int', sub_int', ex, ev, evs, eva, bind_ok, of_some, toS_ok, quiet_ok, get_0, get_s, List.set_cons_zero, List.set_cons_succ, LINE, List.length_cons, List.length_nil, Nat.reduceAdd, Nat.reduceLeDiff, decide_true, List.append_nil, List.map_nil, List.cons_append, List.nil_append, isi_str, in_rowsG]
    simp [thB]
  · rw [b_is_thing]
    simp only [s_is_thing_0, s_is_thing_1, s_is_thing_2, exs_cons, exs_nil, ex_ife, seq_nx, seq_ret, endS_ret, endS_nx, ift_t, ift_f, ift_or, ift_and, ifs_t, ev_ife, and_1, and_2, or_1, or_2, evc_0, evc_1, idx_list', idx_tup', at_0, at_1, at_2, at_3, ix_2_0, ix_2_1, tr_bool, eq_str, eq_int, lt_int', le_int', gt_int', add_int', sub_int', ex, ev, evs, eva, bind_ok, of_some, toS_ok, quiet_ok, get_0, get_s, List.set_cons_zero, List.set_cons_succ, LINE, List.length_cons, List.length_nil, Nat.reduceAdd, Nat.reduceLeDiff, decide_true, List.append_nil, List.map_nil, List.cons_append, List.nil_append, isi_int_str, isi_int_tup, g_MOST_THING, w_withinG n st]
    simp [thB, in99]
  · have e1 : isiD (.bool b) .str = false := rfl
    have e2 : isiD (.bool b) .tuple = false := rfl
    rw [b_is_thing]
    simp only [s_is_thing_0, s_is_thing_1, s_is_thing_2, exs_cons, exs_nil, ex_ife, seq_nx, seq_ret, endS_ret, endS_nx, ift_t, ift_f, ift_or, ift_and, ifs_t, ev_ife, and_1, and_2, or_1, or_2, evc_0, evc_1, idx_list', idx_tup', at_0, at_1, at_2, at_3, ix_2_0, ix_2_1, tr_bool, eq_str, eq_int, lt_int', le_int', gt_int', add_int', sub_int', ex, ev, evs, eva, bind_ok, of_some, toS_ok, quiet_ok, get_0, get_s, List.set_cons_zero, List.set_cons_succ, LINE, List.length_cons, List.length_nil, Nat.reduceAdd, Nat.reduceLeDiff, decide_true, List.append_nil, List.map_nil, List.cons_append, List.nil_append, e1, e2, g_MOST_THING, w_withinG n st]
    simp [thB, in99]
  · have hd : decide ((((2 : Nat) : Int)) = 2) = true := by decide
    rw [b_is_thing]
    simp only [s_is_thing_0, s_is_thing_1, exs_cons, exs_nil, ex_ife, seq_nx, seq_ret, endS_ret, endS_nx, ift_t, ift_f, ift_or, ift_and, ifs_t, ev_ife, and_1, and_2, or_1, or_2, evc_0, evc_1, idx_list', idx_tup', at_0, at_1, at_2, at_3, ix_2_0, ix_2_1, tr_bool, eq_str, eq_int, lt_int', le_int', gt_int', add_int', sub_int', ex, ev, evs, eva, bind_ok, of_some, toS_ok, quiet_ok, get_0, get_s, List.set_cons_zero, List.set_cons_succ, LINE, List.length_cons, List.length_nil, Nat.reduceAdd, Nat.reduceLeDiff, decide_true, List.append_nil, List.map_nil, List.cons_append, List.nil_append, isi_tup_str, isi_tup, g_MOST_THING, f1D, hd, evo, cut_it, it_eq, w_withinG n st]
    simp [thB, in99]
theorem w_lthingG (n : Nat) (st : Store) {B : List (Str × Str)} {t : D} (h : GT t) : IP.run P (n + 2) i__law_is_thing [.val (.tuple (B.map rowD)), .val t] st = .ok (.bool (thB B t)) st := by
  rw [IP.run_succ (d := ⟨2, 2, b__law_is_thing, false⟩) rfl]
  show endS st.length (exs (IP.run P (n + 1)) b__law_is_thing [.val (.tuple (B.map rowD)), .val t] st) = _
  rcases h with ⟨s, rfl⟩ | ⟨i, rfl⟩ | ⟨b, rfl⟩ | ⟨i, rfl⟩
  · rw [b__law_is_thing, exs_cons]
    simp only [s__law_is_thing_0, exs_cons, exs_nil, ex_ife, seq_nx, seq_ret, endS_ret, endS_nx, ift_t, ift_f, ift_or, ift_and, ifs_t, ev_ife, and_1, and_2, or_1, or_2, evc_0, evc_1, idx_list', idx_tup', at_0, at_1, at_2, at_3, ix_2_0, ix_2_1, tr_bool, eq_str, eq_int, lt_int', le_int', gt_int', add_int', sub_int', ex, ev, evs, eva, bind_ok, of_some, toS_ok, quiet_ok, get_0, get_s, List.set_cons_zero, List.set_cons_succ, LINE, List.length_cons, List.length_nil, Nat.reduceAdd, Nat.reduceLeDiff, decide_true, List.append_nil, List.map_nil, List.cons_append, List.nil_append, isi_str, in_rowsG]
    simp [thB]
  · have hv : ev (IP.run P (n + 1)) (.v 1) [.val (.tuple (B.map rowD)), .val (.int i)] st = .ok (.int i) st := by simp only [exs_cons, exs_nil, ex_ife, seq_nx, seq_ret, endS_ret, endS_nx, ift_t, ift_f, ift_or, ift_and, ifs_t, ev_ife, and_1, and_2, or_1, or_2, evc_0, evc_1, idx_list', idx_tup', at_0, at_1, at_2, at_3, ix_2_0, ix_2_1, tr_bool, eq_str, eq_int, lt_int', le_int', gt_int', add_int', sub_int', ex, ev, evs, eva, bind_ok, of_some, toS_ok, quiet_ok, get_0, get_s, List.set_cons_zero, List.set_cons_succ, LINE, List.length_cons, List.length_nil, Nat.reduceAdd, Nat.reduceLeDiff, decide_true, List.append_nil, List.map_nil, List.cons_append, List.nil_append]
    have hc := chain_99 hv
    rw [b__law_is_thing]
    have e : ex (IP.run P (n + 1)) s__law_is_thing_2 [.val (.tuple (B.map rowD)), .val (.int i)] st = .ret (.bool (i99 i)) st := by
      rw [s__law_is_thing_2, ex, ev, and_2]
      have e1 : ev (IP.run P (n + 1)) (.call i__law_whole (.e (.v 1) .nil) []) [.val (.tuple (B.map rowD)), .val (.int i)] st = .ok (.bool true) st := by
        simp only [exs_cons, exs_nil, ex_ife, seq_nx, seq_ret, endS_ret, endS_nx, ift_t, ift_f, ift_or, ift_and, ifs_t, ev_ife, and_1, and_2, or_1, or_2, evc_0, evc_1, idx_list', idx_tup', at_0, at_1, at_2, at_3, ix_2_0, ix_2_1, tr_bool, eq_str, eq_int, lt_int', le_int', gt_int', add_int', sub_int', ex, ev, evs, eva, bind_ok, of_some, toS_ok, quiet_ok, get_0, get_s, List.set_cons_zero, List.set_cons_succ, LINE, List.length_cons, List.length_nil, Nat.reduceAdd, Nat.reduceLeDiff, decide_true, List.append_nil, List.map_nil, List.cons_append, List.nil_append, w_whole n st]
        rfl
      rw [e1, bind_ok, tr_bool, ift_t, and_1, hc, toS_ok]
    simp only [exs_cons, s__law_is_thing_0, s__law_is_thing_1, exs_cons, exs_nil, ex_ife, seq_nx, seq_ret, endS_ret, endS_nx, ift_t, ift_f, ift_or, ift_and, ifs_t, ev_ife, and_1, and_2, or_1, or_2, evc_0, evc_1, idx_list', idx_tup', at_0, at_1, at_2, at_3, ix_2_0, ix_2_1, tr_bool, eq_str, eq_int, lt_int', le_int', gt_int', add_int', sub_int', ex, ev, evs, eva, bind_ok, of_some, toS_ok, quiet_ok, get_0, get_s, List.set_cons_zero, List.set_cons_succ, LINE, List.length_cons, List.length_nil, Nat.reduceAdd, Nat.reduceLeDiff, decide_true, List.append_nil, List.map_nil, List.cons_append, List.nil_append, isi_int_str, isi_int_tup, e]
    simp [thB]
  · have e1 : isiD (.bool b) .str = false := rfl
    have e2 : isiD (.bool b) .tuple = false := rfl
    have e3 : wholeD (.bool b) = false := rfl
    rw [b__law_is_thing]
    simp only [s__law_is_thing_0, s__law_is_thing_1, s__law_is_thing_2, exs_cons, exs_nil, ex_ife, seq_nx, seq_ret, endS_ret, endS_nx, ift_t, ift_f, ift_or, ift_and, ifs_t, ev_ife, and_1, and_2, or_1, or_2, evc_0, evc_1, idx_list', idx_tup', at_0, at_1, at_2, at_3, ix_2_0, ix_2_1, tr_bool, eq_str, eq_int, lt_int', le_int', gt_int', add_int', sub_int', ex, ev, evs, eva, bind_ok, of_some, toS_ok, quiet_ok, get_0, get_s, List.set_cons_zero, List.set_cons_succ, LINE, List.length_cons, List.length_nil, Nat.reduceAdd, Nat.reduceLeDiff, decide_true, List.append_nil, List.map_nil, List.cons_append, List.nil_append, e1, e2, w_whole n st, e3]
    simp [thB]
  · have hv : ev (IP.run P (n + 1)) (.idx (.v 1) (.c (.int 1))) [.val (.tuple (B.map rowD)), .val (.tuple [.str "it", .int i])] st = .ok (.int i) st := by simp only [exs_cons, exs_nil, ex_ife, seq_nx, seq_ret, endS_ret, endS_nx, ift_t, ift_f, ift_or, ift_and, ifs_t, ev_ife, and_1, and_2, or_1, or_2, evc_0, evc_1, idx_list', idx_tup', at_0, at_1, at_2, at_3, ix_2_0, ix_2_1, tr_bool, eq_str, eq_int, lt_int', le_int', gt_int', add_int', sub_int', ex, ev, evs, eva, bind_ok, of_some, toS_ok, quiet_ok, get_0, get_s, List.set_cons_zero, List.set_cons_succ, LINE, List.length_cons, List.length_nil, Nat.reduceAdd, Nat.reduceLeDiff, decide_true, List.append_nil, List.map_nil, List.cons_append, List.nil_append]
    have hc := chain_99 hv
    have e1 : ev (IP.run P (n + 1)) (.call i__law_whole (.e (.idx (.v 1) (.c (.int 1))) .nil) []) [.val (.tuple (B.map rowD)), .val (.tuple [.str "it", .int i])] st = .ok (.bool true) st := by
      simp only [exs_cons, exs_nil, ex_ife, seq_nx, seq_ret, endS_ret, endS_nx, ift_t, ift_f, ift_or, ift_and, ifs_t, ev_ife, and_1, and_2, or_1, or_2, evc_0, evc_1, idx_list', idx_tup', at_0, at_1, at_2, at_3, ix_2_0, ix_2_1, tr_bool, eq_str, eq_int, lt_int', le_int', gt_int', add_int', sub_int', ex, ev, evs, eva, bind_ok, of_some, toS_ok, quiet_ok, get_0, get_s, List.set_cons_zero, List.set_cons_succ, LINE, List.length_cons, List.length_nil, Nat.reduceAdd, Nat.reduceLeDiff, decide_true, List.append_nil, List.map_nil, List.cons_append, List.nil_append, w_whole n st]
      rfl
    have hd : decide ((((2 : Nat) : Int)) = 2) = true := by decide
    have hq : sEq "it" "it" = true := by kernel_rfl
    have e2 : ev (IP.run P (n + 1)) (.bin .eq (.f1 .len (.v 1)) (.c (.int 2))) [.val (.tuple (B.map rowD)), .val (.tuple [.str "it", .int i])] st = .ok (.bool true) st := by
      simp only [exs_cons, exs_nil, ex_ife, seq_nx, seq_ret, endS_ret, endS_nx, ift_t, ift_f, ift_or, ift_and, ifs_t, ev_ife, and_1, and_2, or_1, or_2, evc_0, evc_1, idx_list', idx_tup', at_0, at_1, at_2, at_3, ix_2_0, ix_2_1, tr_bool, eq_str, eq_int, lt_int', le_int', gt_int', add_int', sub_int', ex, ev, evs, eva, bind_ok, of_some, toS_ok, quiet_ok, get_0, get_s, List.set_cons_zero, List.set_cons_succ, LINE, List.length_cons, List.length_nil, Nat.reduceAdd, Nat.reduceLeDiff, decide_true, List.append_nil, List.map_nil, List.cons_append, List.nil_append, f1D, hd]
    have e3 : ev (IP.run P (n + 1)) (.bin .eq (.idx (.v 1) (.c (.int 0))) (.c (.str "it"))) [.val (.tuple (B.map rowD)), .val (.tuple [.str "it", .int i])] st = .ok (.bool true) st := by
      simp only [exs_cons, exs_nil, ex_ife, seq_nx, seq_ret, endS_ret, endS_nx, ift_t, ift_f, ift_or, ift_and, ifs_t, ev_ife, and_1, and_2, or_1, or_2, evc_0, evc_1, idx_list', idx_tup', at_0, at_1, at_2, at_3, ix_2_0, ix_2_1, tr_bool, eq_str, eq_int, lt_int', le_int', gt_int', add_int', sub_int', ex, ev, evs, eva, bind_ok, of_some, toS_ok, quiet_ok, get_0, get_s, List.set_cons_zero, List.set_cons_succ, LINE, List.length_cons, List.length_nil, Nat.reduceAdd, Nat.reduceLeDiff, decide_true, List.append_nil, List.map_nil, List.cons_append, List.nil_append, hq]
    have e4 : ex (IP.run P (n + 1)) s__law_is_thing_1 [.val (.tuple (B.map rowD)), .val (.tuple [.str "it", .int i])] st = .ret (.bool (i99 i)) st := by
      rw [s__law_is_thing_1, ex_ife]
      have e5 : ev (IP.run P (n + 1)) (.isi (.v 1) .tuple) [.val (.tuple (B.map rowD)), .val (.tuple [.str "it", .int i])] st = .ok (.bool true) st := by simp only [exs_cons, exs_nil, ex_ife, seq_nx, seq_ret, endS_ret, endS_nx, ift_t, ift_f, ift_or, ift_and, ifs_t, ev_ife, and_1, and_2, or_1, or_2, evc_0, evc_1, idx_list', idx_tup', at_0, at_1, at_2, at_3, ix_2_0, ix_2_1, tr_bool, eq_str, eq_int, lt_int', le_int', gt_int', add_int', sub_int', ex, ev, evs, eva, bind_ok, of_some, toS_ok, quiet_ok, get_0, get_s, List.set_cons_zero, List.set_cons_succ, LINE, List.length_cons, List.length_nil, Nat.reduceAdd, Nat.reduceLeDiff, decide_true, List.append_nil, List.map_nil, List.cons_append, List.nil_append, isi_tup]
      rw [e5, toS_ok, tr_bool, ift_t, exs_cons, ex, ev, and_2, e2, bind_ok, tr_bool, ift_t, and_2, e3, bind_ok, tr_bool, ift_t, and_2, e1, bind_ok, tr_bool, ift_t, and_1, hc, toS_ok, seq_ret]
    rw [b__law_is_thing]
    simp only [exs_cons, s__law_is_thing_0, exs_cons, exs_nil, ex_ife, seq_nx, seq_ret, endS_ret, endS_nx, ift_t, ift_f, ift_or, ift_and, ifs_t, ev_ife, and_1, and_2, or_1, or_2, evc_0, evc_1, idx_list', idx_tup', at_0, at_1, at_2, at_3, ix_2_0, ix_2_1, tr_bool, eq_str, eq_int, lt_int', le_int', gt_int', add_int', sub_int', ex, ev, evs, eva, bind_ok, of_some, toS_ok, quiet_ok, get_0, get_s, List.set_cons_zero, List.set_cons_succ, LINE, List.length_cons, List.length_nil, Nat.reduceAdd, Nat.reduceLeDiff, decide_true, List.append_nil, List.map_nil, List.cons_append, List.nil_append, isi_tup_str, e4]
    simp [thB]
/-! places of any word -/
theorem filter_any {B : List (Str × Str)} (nd : (B.map (·.1)).Nodup) (w : Str) : B.filter (fun p => sEq p.1 w) = [] ∨ ∃ k, (w, k) ∈ B ∧ B.filter (fun p => sEq p.1 w) = [(w, k)] := by
  by_cases h : ∃ k, (w, k) ∈ B
  · obtain ⟨k, m⟩ := h
    exact .inr ⟨k, m, filter_one nd m⟩
  · refine .inl (List.filter_eq_nil_iff.mpr fun p m e => h ⟨p.2, ?_⟩)
    have := sEq_iff.mp e
    rw [← this]
    exact m
theorem pl_name_lk : lkS t_PLACES "name" = none ∧ op2 .isin (.str "name") plD = some (.bool false) := ⟨by kernel_rfl, by kernel_rfl⟩
/-- how many things a word has; none: no word of the book -/
def plN (B : List (Str × Str)) (w : Str) : Option Nat := match B.filter (fun p => sEq p.1 w) with
  | [] => none
  | p :: _ => some (if sEq p.2 "name" then 0 else plc p.2)

theorem kind_two {B : List (Str × Str)} (hB : Book B) {w k : Str} (m : (w, k) ∈ B) : k = "name" ∨ k ∈ five := by
  by_cases h : k = "name"
  · exact .inl h
  · exact .inr (kinds_five (p := (w, k)) (hB.all m) h)
theorem five_name {k : Str} (h : k ∈ five) : sEq k "name" = false := by
  simp only [five, List.mem_cons, List.not_mem_nil, or_false] at h
  rcases h with rfl | rfl | rfl | rfl | rfl <;> kernel_rfl
theorem w_placesG (n : Nat) (st : Store) {B : List (Str × Str)} (hB : Book B) (w : Str) : IP.run P (n + 1) i_places_of [.val (.tuple (B.map rowD)), .val (.str w)] st = .ok (match plN B w with
    | none => .none
    | some j => .int (j : Nat)) st := by
  rcases filter_any hB.nodup w with e | ⟨k, m, e⟩
  · have ep : plN B w = none := by unfold plN; rw [e]
    rw [ep, IP.run_succ (d := ⟨5, 2, b_places_of, false⟩) rfl]
    have hc : ev (IP.run P n) (.lc [3, 4] (.t [3, 4]) (.e (.v 0)) (.cons (.bin .eq (.v 3) (.v 1)) .nil) (.getc "PLACES" t_PLACES (.v 4) (.c (.int 0)))) [.val (.tuple (B.map rowD)), .val (.str w), .un, .un, .un] st = .ok (.list []) st := by
      rw [ev_lc rfl]
      have ei : evi (IP.run P n) (.e (.v 0)) [.val (.tuple (B.map rowD)), .val (.str w), .un, .un, .un] st = .ok (B.map rowD) st := by
        rw [evi]
        simp only [exs_cons, exs_nil, ex_ife, seq_nx, seq_ret, endS_ret, endS_nx, ift_t, ift_f, ift_or, ift_and, ifs_t, ev_ife, and_1, and_2, or_1, or_2, evc_0, evc_1, idx_list', idx_tup', at_0, at_1, at_2, at_3, ix_2_0, ix_2_1, tr_bool, eq_str, eq_int, lt_int', le_int', gt_int', add_int', sub_int', ex, ev, evs, eva, bind_ok, of_some, toS_ok, quiet_ok, get_0, get_s, List.set_cons_zero, List.set_cons_succ, LINE, List.length_cons, List.length_nil, Nat.reduceAdd, Nat.reduceLeDiff, decide_true, List.append_nil, List.map_nil, List.cons_append, List.nil_append, itemsD]
      rw [ei, bind_ok, loopE_filter (p := fun _ => false) (f := id)]
      · rw [List.filter_eq_nil_iff.mpr (fun _ _ => Bool.false_ne_true)]
        rfl
      · intro x mx
        obtain ⟨p, mp, rfl⟩ := List.mem_map.mp mx
        refine ⟨[.val (.tuple (B.map rowD)), .val (.str w), .un, .val (.str p.1), .val (.str p.2)], rfl, ?_, fun hp => by cases hp⟩
        have e1 : sEq p.1 w = false := by
          have := List.filter_eq_nil_iff.mp e p mp
          simpa using this
        simp only [exs_cons, exs_nil, ex_ife, seq_nx, seq_ret, endS_ret, endS_nx, ift_t, ift_f, ift_or, ift_and, ifs_t, ev_ife, and_1, and_2, or_1, or_2, evc_0, evc_1, idx_list', idx_tup', at_0, at_1, at_2, at_3, ix_2_0, ix_2_1, tr_bool, eq_str, eq_int, lt_int', le_int', gt_int', add_int', sub_int', ex, ev, evs, eva, bind_ok, of_some, toS_ok, quiet_ok, get_0, get_s, List.set_cons_zero, List.set_cons_succ, LINE, List.length_cons, List.length_nil, Nat.reduceAdd, Nat.reduceLeDiff, decide_true, List.append_nil, List.map_nil, List.cons_append, List.nil_append, e1]
      · have := hB.len
        simp [LINE]
        omega
    have a0 : ex (IP.run P n) s_places_of_0 [.val (.tuple (B.map rowD)), .val (.str w), .un, .un, .un] st = .nx [.val (.tuple (B.map rowD)), .val (.str w), .val (.list []), .un, .un] st := by
      rw [s_places_of_0, ex, hc]
      rfl
    have a1 : ex (IP.run P n) s_places_of_1 [.val (.tuple (B.map rowD)), .val (.str w), .val (.list []), .un, .un] st = .ret .none st := by
      have ht : truthD (.list []) = false := rfl
      simp only [s_places_of_1, exs_cons, exs_nil, ex_ife, seq_nx, seq_ret, endS_ret, endS_nx, ift_t, ift_f, ift_or, ift_and, ifs_t, ev_ife, and_1, and_2, or_1, or_2, evc_0, evc_1, idx_list', idx_tup', at_0, at_1, at_2, at_3, ix_2_0, ix_2_1, tr_bool, eq_str, eq_int, lt_int', le_int', gt_int', add_int', sub_int', ex, ev, evs, eva, bind_ok, of_some, toS_ok, quiet_ok, get_0, get_s, List.set_cons_zero, List.set_cons_succ, LINE, List.length_cons, List.length_nil, Nat.reduceAdd, Nat.reduceLeDiff, decide_true, List.append_nil, List.map_nil, List.cons_append, List.nil_append, ht]
    show endS st.length (exs (IP.run P n) b_places_of [.val (.tuple (B.map rowD)), .val (.str w), .un, .un, .un] st) = _
    rw [b_places_of]
    simp only [exs_cons, a0, a1, seq_nx, seq_ret, endS_ret]
    simp
  · rcases kind_two hB m with rfl | hk
    · have ep : plN B w = some 0 := by
        unfold plN
        rw [e]
        show some (if sEq "name" "name" then 0 else plc "name") = some 0
        rw [show sEq "name" "name" = true by kernel_rfl]
        rfl
      rw [ep, IP.run_succ (d := ⟨5, 2, b_places_of, false⟩) rfl]
      have hc : ev (IP.run P n) (.lc [3, 4] (.t [3, 4]) (.e (.v 0)) (.cons (.bin .eq (.v 3) (.v 1)) .nil) (.getc "PLACES" t_PLACES (.v 4) (.c (.int 0)))) [.val (.tuple (B.map rowD)), .val (.str w), .un, .un, .un] st = .ok (.list [.int 0]) st := by
        rw [ev_lc rfl]
        have ei : evi (IP.run P n) (.e (.v 0)) [.val (.tuple (B.map rowD)), .val (.str w), .un, .un, .un] st = .ok (B.map rowD) st := by
          rw [evi]
          simp only [exs_cons, exs_nil, ex_ife, seq_nx, seq_ret, endS_ret, endS_nx, ift_t, ift_f, ift_or, ift_and, ifs_t, ev_ife, and_1, and_2, or_1, or_2, evc_0, evc_1, idx_list', idx_tup', at_0, at_1, at_2, at_3, ix_2_0, ix_2_1, tr_bool, eq_str, eq_int, lt_int', le_int', gt_int', add_int', sub_int', ex, ev, evs, eva, bind_ok, of_some, toS_ok, quiet_ok, get_0, get_s, List.set_cons_zero, List.set_cons_succ, LINE, List.length_cons, List.length_nil, Nat.reduceAdd, Nat.reduceLeDiff, decide_true, List.append_nil, List.map_nil, List.cons_append, List.nil_append, itemsD]
        rw [ei, bind_ok, loopE_filter (p := fstIs w) (f := fun _ => .int 0), fst_filter, e]
        · rfl
        · intro x mx
          obtain ⟨p, mp, rfl⟩ := List.mem_map.mp mx
          refine ⟨[.val (.tuple (B.map rowD)), .val (.str w), .un, .val (.str p.1), .val (.str p.2)], rfl, ?_, fun hp => ?_⟩
          · show _ = R.ok (sEq p.1 w) st
            simp only [exs_cons, exs_nil, ex_ife, seq_nx, seq_ret, endS_ret, endS_nx, ift_t, ift_f, ift_or, ift_and, ifs_t, ev_ife, and_1, and_2, or_1, or_2, evc_0, evc_1, idx_list', idx_tup', at_0, at_1, at_2, at_3, ix_2_0, ix_2_1, tr_bool, eq_str, eq_int, lt_int', le_int', gt_int', add_int', sub_int', ex, ev, evs, eva, bind_ok, of_some, toS_ok, quiet_ok, get_0, get_s, List.set_cons_zero, List.set_cons_succ, LINE, List.length_cons, List.length_nil, Nat.reduceAdd, Nat.reduceLeDiff, decide_true, List.append_nil, List.map_nil, List.cons_append, List.nil_append]
          · have e2 := same_row hB.nodup m mp hp
            subst e2
            simp only [exs_cons, exs_nil, ex_ife, seq_nx, seq_ret, endS_ret, endS_nx, ift_t, ift_f, ift_or, ift_and, ifs_t, ev_ife, and_1, and_2, or_1, or_2, evc_0, evc_1, idx_list', idx_tup', at_0, at_1, at_2, at_3, ix_2_0, ix_2_1, tr_bool, eq_str, eq_int, lt_int', le_int', gt_int', add_int', sub_int', ex, ev, evs, eva, bind_ok, of_some, toS_ok, quiet_ok, get_0, get_s, List.set_cons_zero, List.set_cons_succ, LINE, List.length_cons, List.length_nil, Nat.reduceAdd, Nat.reduceLeDiff, decide_true, List.append_nil, List.map_nil, List.cons_append, List.nil_append, pl_name_lk.1, Option.getD_none]
        · have := hB.len
          simp [LINE]
          omega
      have a0 : ex (IP.run P n) s_places_of_0 [.val (.tuple (B.map rowD)), .val (.str w), .un, .un, .un] st = .nx [.val (.tuple (B.map rowD)), .val (.str w), .val (.list [.int 0]), .un, .un] st := by
        rw [s_places_of_0, ex, hc]
        rfl
      have a1 : ex (IP.run P n) s_places_of_1 [.val (.tuple (B.map rowD)), .val (.str w), .val (.list [.int 0]), .un, .un] st = .ret (.int (0 : Nat)) st := by
        have ht : truthD (.list [.int 0]) = true := rfl
        simp only [s_places_of_1, exs_cons, exs_nil, ex_ife, seq_nx, seq_ret, endS_ret, endS_nx, ift_t, ift_f, ift_or, ift_and, ifs_t, ev_ife, and_1, and_2, or_1, or_2, evc_0, evc_1, idx_list', idx_tup', at_0, at_1, at_2, at_3, ix_2_0, ix_2_1, tr_bool, eq_str, eq_int, lt_int', le_int', gt_int', add_int', sub_int', ex, ev, evs, eva, bind_ok, of_some, toS_ok, quiet_ok, get_0, get_s, List.set_cons_zero, List.set_cons_succ, LINE, List.length_cons, List.length_nil, Nat.reduceAdd, Nat.reduceLeDiff, decide_true, List.append_nil, List.map_nil, List.cons_append, List.nil_append, ht]
        rfl
      show endS st.length (exs (IP.run P n) b_places_of [.val (.tuple (B.map rowD)), .val (.str w), .un, .un, .un] st) = _
      rw [b_places_of]
      simp only [exs_cons, a0, a1, seq_nx, seq_ret, endS_ret]
      simp
    · have ep : plN B w = some (plc k) := by
        unfold plN
        rw [e]
        show some (if sEq k "name" then 0 else plc k) = some (plc k)
        rw [five_name hk]
        rfl
      rw [ep]
      exact w_places n st hB m hk
theorem w_lplacesG (n : Nat) (st : Store) {B : List (Str × Str)} (hB : Book B) (w : Str) : IP.run P (n + 1) i__law_places [.val (.tuple (B.map rowD)), .val (.str w)] st = .ok (.int (((plN B w).getD 0 : Nat) : Int)) st := by
  by_cases hfive : ∃ k, (w, k) ∈ B ∧ k ∈ five
  · obtain ⟨k, m, hk⟩ := hfive
    have ep : plN B w = some (plc k) := by
      unfold plN
      rw [filter_one hB.nodup m]
      show some (if sEq k "name" then 0 else plc k) = some (plc k)
      rw [five_name hk]
      rfl
    rw [ep]
    exact w_lplaces n st hB m hk
  · have ep : (plN B w).getD 0 = 0 := by
      rcases filter_any hB.nodup w with e | ⟨k, m, e⟩
      · unfold plN
        rw [e]
        rfl
      · rcases kind_two hB m with rfl | hk
        · unfold plN
          rw [e]
          show (if sEq "name" "name" then 0 else plc "name") = 0
          rw [show sEq "name" "name" = true by kernel_rfl]
          rfl
        · exact absurd ⟨k, m, hk⟩ hfive
    rw [ep, IP.run_succ (d := ⟨6, 2, b__law_places, false⟩) rfl]
    have a0 : ex (IP.run P n) s__law_places_0 [.val (.tuple (B.map rowD)), .val (.str w), .un, .un, .un, .un] st = .nx [.val (.tuple (B.map rowD)), .val (.str w), .val plD, .un, .un, .un] st := by
      simp only [s__law_places_0, exs_cons, exs_nil, ex_ife, seq_nx, seq_ret, endS_ret, endS_nx, ift_t, ift_f, ift_or, ift_and, ifs_t, ev_ife, and_1, and_2, or_1, or_2, evc_0, evc_1, idx_list', idx_tup', at_0, at_1, at_2, at_3, ix_2_0, ix_2_1, tr_bool, eq_str, eq_int, lt_int', le_int', gt_int', add_int', sub_int', ex, ev, evs, eva, bind_ok, of_some, toS_ok, quiet_ok, get_0, get_s, List.set_cons_zero, List.set_cons_succ, LINE, List.length_cons, List.length_nil, Nat.reduceAdd, Nat.reduceLeDiff, decide_true, List.append_nil, List.map_nil, List.cons_append, List.nil_append]
      rfl
    have hc : ev (IP.run P n) (.lc [4, 5] (.t [4, 5]) (.e (.v 0)) (.cons (.band (.cons (.bin .eq (.v 4) (.v 1)) (.cons (.bin .isin (.v 5) (.v 2)) .nil))) .nil) (.idx (.v 2) (.v 5))) [.val (.tuple (B.map rowD)), .val (.str w), .val plD, .un, .un, .un] st = .ok (.list []) st := by
      rw [ev_lc rfl]
      have ei : evi (IP.run P n) (.e (.v 0)) [.val (.tuple (B.map rowD)), .val (.str w), .val plD, .un, .un, .un] st = .ok (B.map rowD) st := by
        rw [evi]
        simp only [exs_cons, exs_nil, ex_ife, seq_nx, seq_ret, endS_ret, endS_nx, ift_t, ift_f, ift_or, ift_and, ifs_t, ev_ife, and_1, and_2, or_1, or_2, evc_0, evc_1, idx_list', idx_tup', at_0, at_1, at_2, at_3, ix_2_0, ix_2_1, tr_bool, eq_str, eq_int, lt_int', le_int', gt_int', add_int', sub_int', ex, ev, evs, eva, bind_ok, of_some, toS_ok, quiet_ok, get_0, get_s, List.set_cons_zero, List.set_cons_succ, LINE, List.length_cons, List.length_nil, Nat.reduceAdd, Nat.reduceLeDiff, decide_true, List.append_nil, List.map_nil, List.cons_append, List.nil_append, itemsD]
      rw [ei, bind_ok, loopE_filter (p := fun _ => false) (f := id)]
      · rw [List.filter_eq_nil_iff.mpr (fun _ _ => Bool.false_ne_true)]
        rfl
      · intro x mx
        obtain ⟨p, mp, rfl⟩ := List.mem_map.mp mx
        refine ⟨[.val (.tuple (B.map rowD)), .val (.str w), .val plD, .un, .val (.str p.1), .val (.str p.2)], rfl, ?_, fun hp => by cases hp⟩
        cases e : sEq p.1 w with
        | false => simp only [exs_cons, exs_nil, ex_ife, seq_nx, seq_ret, endS_ret, endS_nx, ift_t, ift_f, ift_or, ift_and, ifs_t, ev_ife, and_1, and_2, or_1, or_2, evc_0, evc_1, idx_list', idx_tup', at_0, at_1, at_2, at_3, ix_2_0, ix_2_1, tr_bool, eq_str, eq_int, lt_int', le_int', gt_int', add_int', sub_int', ex, ev, evs, eva, bind_ok, of_some, toS_ok, quiet_ok, get_0, get_s, List.set_cons_zero, List.set_cons_succ, LINE, List.length_cons, List.length_nil, Nat.reduceAdd, Nat.reduceLeDiff, decide_true, List.append_nil, List.map_nil, List.cons_append, List.nil_append, e]
        | true =>
          have ew := sEq_iff.mp e
          have mp' : (w, p.2) ∈ B := by rw [← ew]; exact mp
          rcases kind_two hB mp' with ek | hk
          · simp only [exs_cons, exs_nil, ex_ife, seq_nx, seq_ret, endS_ret, endS_nx, ift_t, ift_f, ift_or, ift_and, ifs_t, ev_ife, and_1, and_2, or_1, or_2, evc_0, evc_1, idx_list', idx_tup', at_0, at_1, at_2, at_3, ix_2_0, ix_2_1, tr_bool, eq_str, eq_int, lt_int', le_int', gt_int', add_int', sub_int', ex, ev, evs, eva, bind_ok, of_some, toS_ok, quiet_ok, get_0, get_s, List.set_cons_zero, List.set_cons_succ, LINE, List.length_cons, List.length_nil, Nat.reduceAdd, Nat.reduceLeDiff, decide_true, List.append_nil, List.map_nil, List.cons_append, List.nil_append, e, ek, pl_name_lk.2]
          · exact absurd ⟨p.2, mp', hk⟩ hfive
      · have := hB.len
        simp [LINE]
        omega
    have a1 : ex (IP.run P n) s__law_places_1 [.val (.tuple (B.map rowD)), .val (.str w), .val plD, .un, .un, .un] st = .nx [.val (.tuple (B.map rowD)), .val (.str w), .val plD, .val (.list []), .un, .un] st := by
      rw [s__law_places_1, ex, hc]
      rfl
    have a2 : ex (IP.run P n) s__law_places_2 [.val (.tuple (B.map rowD)), .val (.str w), .val plD, .val (.list []), .un, .un] st = .ret (.int ((0 : Nat) : Int)) st := by
      simp only [s__law_places_2, exs_cons, exs_nil, ex_ife, seq_nx, seq_ret, endS_ret, endS_nx, ift_t, ift_f, ift_or, ift_and, ifs_t, ev_ife, and_1, and_2, or_1, or_2, evc_0, evc_1, idx_list', idx_tup', at_0, at_1, at_2, at_3, ix_2_0, ix_2_1, tr_bool, eq_str, eq_int, lt_int', le_int', gt_int', add_int', sub_int', ex, ev, evs, eva, bind_ok, of_some, toS_ok, quiet_ok, get_0, get_s, List.set_cons_zero, List.set_cons_succ, LINE, List.length_cons, List.length_nil, Nat.reduceAdd, Nat.reduceLeDiff, decide_true, List.append_nil, List.map_nil, List.cons_append, List.nil_append, add_list]
      rfl
    show endS st.length (exs (IP.run P n) b__law_places [.val (.tuple (B.map rowD)), .val (.str w), .un, .un, .un, .un] st) = _
    rw [b__law_places]
    simp only [exs_cons, a0, a1, a2, seq_nx, seq_ret, endS_ret]
    simp

/-! ### facts, good and bad -/
def factB (B : List (Str × Str)) : List D → Bool
  | [.str w, .tuple ts] => !ts.isEmpty && (decide ((plN B w).getD 0 = ts.length) && ts.all (thB B))
  | _ => false
inductive FR : List D → Prop
  | w1 {w : Str} : FR [.str w]
  | ok {w : Str} {ts : List D} : (∀ t ∈ ts, GT t) → ts.length ≤ 10 → FR [.str w, .tuple ts]
  | more {w : Str} {ts : List D} : (∀ t ∈ ts, GT t) → ts.length ≤ 10 → FR [.str w, .tuple ts, .int 1]
theorem GT.nd {t : D} (h : GT t) : noDict t = true := by
  rcases h with ⟨s, rfl⟩ | ⟨i, rfl⟩ | ⟨b, rfl⟩ | ⟨i, rfl⟩ <;> rfl
theorem noDicts_of : ∀ {ts : List D}, (∀ t ∈ ts, noDict t = true) → noDicts ts = true
  | [], _ => rfl
  | t :: r, h => by
    rw [noDicts, h t List.mem_cons_self, noDicts_of fun q m => h q (List.mem_cons_of_mem _ m)]
    rfl
theorem eq_nilT {xs : List D} (h : noDicts xs = true) : op2 .eq (.tuple xs) (.tuple []) = some (.bool xs.isEmpty) := by
  have e1 : eqOk (.tuple xs) (.tuple []) = true := by
    unfold eqOk
    have : noDict (.tuple xs) = true := by rw [noDict]; exact h
    rw [this]
    have e : (PyData.tuple ([] : List D)).depth ≤ 150 := by simp [PyData.depth, PyData.depthAll]
    have : decide (min (PyData.tuple xs).depth (PyData.tuple ([] : List D)).depth ≤ 150) = true := by
      rw [decide_eq_true_eq]
      omega
    rw [this]
    rfl
  have e2 : PyData.eqv (.tuple xs) (.tuple []) = xs.isEmpty := by
    cases xs <;> simp [PyData.eqv, PyData.eqvAll]
  show ifs (eqOk (.tuple xs) (.tuple [])) (PyData.bool (PyData.eqv (.tuple xs) (.tuple []))) = _
  rw [e1, e2]
  rfl
theorem filter_all {p : D → Bool} : ∀ {ts : List D}, (ts.filter fun t => !p t).isEmpty = ts.all p
  | [] => rfl
  | t :: r => by
    rw [List.filter_cons, List.all_cons]
    cases p t with
    | true => simpa using filter_all
    | false => simp
theorem w_is_factG (n : Nat) (st : Store) {B : List (Str × Str)} (hB : Book B) {rest : List D} (h : FR rest) : IP.run P (n + 3) i_is_fact [.val (.tuple (B.map rowD)), .val (.tuple (.str "fact" :: rest))] st = .ok (.bool (factB B rest)) st := by
  rw [IP.run_succ (d := ⟨3, 2, b_is_fact, false⟩) rfl]
  show endS st.length (exs (IP.run P (n + 2)) b_is_fact [.val (.tuple (B.map rowD)), .val (.tuple (.str "fact" :: rest)), .un] st) = _
  cases h with
  | w1 =>
    have hd : (!decide (((2 : Nat) : Int) = 3)) = true := by decide
    simp only [b_is_fact, s_is_fact_0, exs_cons, exs_nil, ex_ife, seq_nx, seq_ret, endS_ret, endS_nx, ift_t, ift_f, ift_or, ift_and, ifs_t, ev_ife, and_1, and_2, or_1, or_2, evc_0, evc_1, idx_list', idx_tup', at_0, at_1, at_2, at_3, ix_2_0, ix_2_1, tr_bool, eq_str, eq_int, lt_int', le_int', gt_int', add_int', sub_int', ex, ev, evs, eva, bind_ok, of_some, toS_ok, quiet_ok, get_0, get_s, List.set_cons_zero, List.set_cons_succ, LINE, List.length_cons, List.length_nil, Nat.reduceAdd, Nat.reduceLeDiff, decide_true, List.append_nil, List.map_nil, List.cons_append, List.nil_append, f1D, ne_int, hd]
    simp [factB]
  | more a b =>
    have hd : (!decide (((4 : Nat) : Int) = 3)) = true := by decide
    simp only [b_is_fact, s_is_fact_0, exs_cons, exs_nil, ex_ife, seq_nx, seq_ret, endS_ret, endS_nx, ift_t, ift_f, ift_or, ift_and, ifs_t, ev_ife, and_1, and_2, or_1, or_2, evc_0, evc_1, idx_list', idx_tup', at_0, at_1, at_2, at_3, ix_2_0, ix_2_1, tr_bool, eq_str, eq_int, lt_int', le_int', gt_int', add_int', sub_int', ex, ev, evs, eva, bind_ok, of_some, toS_ok, quiet_ok, get_0, get_s, List.set_cons_zero, List.set_cons_succ, LINE, List.length_cons, List.length_nil, Nat.reduceAdd, Nat.reduceLeDiff, decide_true, List.append_nil, List.map_nil, List.cons_append, List.nil_append, f1D, ne_int, hd]
    simp [factB]
  | @ok w ts ht hl =>
    have a0 : ex (IP.run P (n + 2)) s_is_fact_0 [.val (.tuple (B.map rowD)), .val (.tuple [.str "fact", .str w, .tuple ts]), .un] st = .nx [.val (.tuple (B.map rowD)), .val (.tuple [.str "fact", .str w, .tuple ts]), .un] st := by
      have hd : (!decide (((3 : Nat) : Int) = 3)) = false := by decide
      simp only [s_is_fact_0, exs_cons, exs_nil, ex_ife, seq_nx, seq_ret, endS_ret, endS_nx, ift_t, ift_f, ift_or, ift_and, ifs_t, ev_ife, and_1, and_2, or_1, or_2, evc_0, evc_1, idx_list', idx_tup', at_0, at_1, at_2, at_3, ix_2_0, ix_2_1, tr_bool, eq_str, eq_int, lt_int', le_int', gt_int', add_int', sub_int', ex, ev, evs, eva, bind_ok, of_some, toS_ok, quiet_ok, get_0, get_s, List.set_cons_zero, List.set_cons_succ, LINE, List.length_cons, List.length_nil, Nat.reduceAdd, Nat.reduceLeDiff, decide_true, List.append_nil, List.map_nil, List.cons_append, List.nil_append, f1D, ne_int, hd, isi_str, isi_tup, Bool.not_true]
    rw [b_is_fact, exs_cons, a0, seq_nx]
    have hp := w_placesG (n + 1) st hB w
    cases ts with
    | nil =>
      have tt : truthD (.tuple []) = false := rfl
      simp only [s_is_fact_1, exs_cons, exs_nil, ex_ife, seq_nx, seq_ret, endS_ret, endS_nx, ift_t, ift_f, ift_or, ift_and, ifs_t, ev_ife, and_1, and_2, or_1, or_2, evc_0, evc_1, idx_list', idx_tup', at_0, at_1, at_2, at_3, ix_2_0, ix_2_1, tr_bool, eq_str, eq_int, lt_int', le_int', gt_int', add_int', sub_int', ex, ev, evs, eva, bind_ok, of_some, toS_ok, quiet_ok, get_0, get_s, List.set_cons_zero, List.set_cons_succ, LINE, List.length_cons, List.length_nil, Nat.reduceAdd, Nat.reduceLeDiff, decide_true, List.append_nil, List.map_nil, List.cons_append, List.nil_append, tt, Bool.not_false]
      simp [factB]
    | cons t ts =>
      have tt : truthD (.tuple (t :: ts)) = true := rfl
      have e1 : op2 .ne (match plN B w with
          | none => .none
          | some j => .int (j : Nat)) (.int ((t :: ts).length : Nat)) = some (.bool (!decide ((plN B w).getD 0 = (t :: ts).length))) := by
        cases plN B w with
        | none => 
          show ifs (eqOk .none (.int ((t :: ts).length : Nat))) (PyData.bool (!PyData.eqv .none (.int ((t :: ts).length : Nat)))) = _
          rfl
        | some j =>
          show op2 .ne (.int (j : Nat)) (.int ((t :: ts).length : Nat)) = _
          rw [ne_int]
          show _ = some (PyData.bool (!decide (j = (t :: ts).length)))
          congr 3
          by_cases h : j = (t :: ts).length
          · simp [h]
          · have : ¬ ((j : Int) = ((t :: ts).length : Nat)) := by omega
            rw [decide_eq_false this, decide_eq_false h]
      have ec : ev (IP.run P (n + 2)) (.bor (.cons (.nt (.idx (.v 1) (.c (.int 2)))) (.cons (.bin .ne (.call i_places_of (.e (.v 0) (.e (.idx (.v 1) (.c (.int 1))) .nil)) []) (.f1 .len (.idx (.v 1) (.c (.int 2))))) .nil))) [.val (.tuple (B.map rowD)), .val (.tuple [.str "fact", .str w, .tuple (t :: ts)]), .un] st = .ok (.bool (!decide ((plN B w).getD 0 = (t :: ts).length))) st := by
        have e2 : ev (IP.run P (n + 2)) (.nt (.idx (.v 1) (.c (.int 2)))) [.val (.tuple (B.map rowD)), .val (.tuple [.str "fact", .str w, .tuple (t :: ts)]), .un] st = .ok (.bool false) st := by
          simp only [exs_cons, exs_nil, ex_ife, seq_nx, seq_ret, endS_ret, endS_nx, ift_t, ift_f, ift_or, ift_and, ifs_t, ev_ife, and_1, and_2, or_1, or_2, evc_0, evc_1, idx_list', idx_tup', at_0, at_1, at_2, at_3, ix_2_0, ix_2_1, tr_bool, eq_str, eq_int, lt_int', le_int', gt_int', add_int', sub_int', ex, ev, evs, eva, bind_ok, of_some, toS_ok, quiet_ok, get_0, get_s, List.set_cons_zero, List.set_cons_succ, LINE, List.length_cons, List.length_nil, Nat.reduceAdd, Nat.reduceLeDiff, decide_true, List.append_nil, List.map_nil, List.cons_append, List.nil_append, tt, Bool.not_true]
        have e3 : ev (IP.run P (n + 2)) (.call i_places_of (.e (.v 0) (.e (.idx (.v 1) (.c (.int 1))) .nil)) []) [.val (.tuple (B.map rowD)), .val (.tuple [.str "fact", .str w, .tuple (t :: ts)]), .un] st = .ok (match plN B w with
          | none => .none
          | some j => .int (j : Nat)) st := by
          simp only [exs_cons, exs_nil, ex_ife, seq_nx, seq_ret, endS_ret, endS_nx, ift_t, ift_f, ift_or, ift_and, ifs_t, ev_ife, and_1, and_2, or_1, or_2, evc_0, evc_1, idx_list', idx_tup', at_0, at_1, at_2, at_3, ix_2_0, ix_2_1, tr_bool, eq_str, eq_int, lt_int', le_int', gt_int', add_int', sub_int', ex, ev, evs, eva, bind_ok, of_some, toS_ok, quiet_ok, get_0, get_s, List.set_cons_zero, List.set_cons_succ, LINE, List.length_cons, List.length_nil, Nat.reduceAdd, Nat.reduceLeDiff, decide_true, List.append_nil, List.map_nil, List.cons_append, List.nil_append, hp]
          all_goals rfl
        have e4 : ev (IP.run P (n + 2)) (.f1 .len (.idx (.v 1) (.c (.int 2)))) [.val (.tuple (B.map rowD)), .val (.tuple [.str "fact", .str w, .tuple (t :: ts)]), .un] st = .ok (.int ((t :: ts).length : Nat)) st := by
          simp only [exs_cons, exs_nil, ex_ife, seq_nx, seq_ret, endS_ret, endS_nx, ift_t, ift_f, ift_or, ift_and, ifs_t, ev_ife, and_1, and_2, or_1, or_2, evc_0, evc_1, idx_list', idx_tup', at_0, at_1, at_2, at_3, ix_2_0, ix_2_1, tr_bool, eq_str, eq_int, lt_int', le_int', gt_int', add_int', sub_int', ex, ev, evs, eva, bind_ok, of_some, toS_ok, quiet_ok, get_0, get_s, List.set_cons_zero, List.set_cons_succ, LINE, List.length_cons, List.length_nil, Nat.reduceAdd, Nat.reduceLeDiff, decide_true, List.append_nil, List.map_nil, List.cons_append, List.nil_append, f1D]
        rw [ev, or_2, e2, bind_ok, tr_bool, ift_f, or_1, ev, e3, bind_ok, e4, bind_ok, e1, of_some]
      rw [exs_cons, s_is_fact_1, ex_ife, ec, toS_ok, tr_bool]
      cases hd : decide ((plN B w).getD 0 = (t :: ts).length) with
      | false =>
        rw [Bool.not_false, ift_t]
        simp only [exs_cons, exs_nil, ex_ife, seq_nx, seq_ret, endS_ret, endS_nx, ift_t, ift_f, ift_or, ift_and, ifs_t, ev_ife, and_1, and_2, or_1, or_2, evc_0, evc_1, idx_list', idx_tup', at_0, at_1, at_2, at_3, ix_2_0, ix_2_1, tr_bool, eq_str, eq_int, lt_int', le_int', gt_int', add_int', sub_int', ex, ev, evs, eva, bind_ok, of_some, toS_ok, quiet_ok, get_0, get_s, List.set_cons_zero, List.set_cons_succ, LINE, List.length_cons, List.length_nil, Nat.reduceAdd, Nat.reduceLeDiff, decide_true, List.append_nil, List.map_nil, List.cons_append, List.nil_append]
        have fb : factB B [.str w, .tuple (t :: ts)] = (!(t :: ts).isEmpty && (decide ((plN B w).getD 0 = (t :: ts).length) && (t :: ts).all (thB B))) := rfl
        rw [fb, hd]
        simp
      | true =>
        rw [Bool.not_true, ift_f, exs_nil, seq_nx]
        have hc : ev (IP.run P (n + 2)) (.lc [2] (.n 2) (.e (.idx (.v 1) (.c (.int 2)))) (.cons (.nt (.call i_is_thing (.e (.v 0) (.e (.v 2) .nil)) [])) .nil) (.v 2)) [.val (.tuple (B.map rowD)), .val (.tuple [.str "fact", .str w, .tuple (t :: ts)]), .un] st = .ok (.list ((t :: ts).filter fun y => !thB B y)) st := by
          rw [ev_lc rfl]
          have ei : evi (IP.run P (n + 2)) (.e (.idx (.v 1) (.c (.int 2)))) [.val (.tuple (B.map rowD)), .val (.tuple [.str "fact", .str w, .tuple (t :: ts)]), .un] st = .ok (t :: ts) st := by
            rw [evi]
            simp only [exs_cons, exs_nil, ex_ife, seq_nx, seq_ret, endS_ret, endS_nx, ift_t, ift_f, ift_or, ift_and, ifs_t, ev_ife, and_1, and_2, or_1, or_2, evc_0, evc_1, idx_list', idx_tup', at_0, at_1, at_2, at_3, ix_2_0, ix_2_1, tr_bool, eq_str, eq_int, lt_int', le_int', gt_int', add_int', sub_int', ex, ev, evs, eva, bind_ok, of_some, toS_ok, quiet_ok, get_0, get_s, List.set_cons_zero, List.set_cons_succ, LINE, List.length_cons, List.length_nil, Nat.reduceAdd, Nat.reduceLeDiff, decide_true, List.append_nil, List.map_nil, List.cons_append, List.nil_append, itemsD]
          rw [ei, bind_ok, loopE_filter (p := fun y => !thB B y) (f := fun y => y)]
          · rw [List.map_id']
            rfl
          · intro x m
            refine ⟨[.val (.tuple (B.map rowD)), .val (.tuple [.str "fact", .str w, .tuple (t :: ts)]), .val x], rfl, ?_, fun z => ?_⟩
            · simp only [exs_cons, exs_nil, ex_ife, seq_nx, seq_ret, endS_ret, endS_nx, ift_t, ift_f, ift_or, ift_and, ifs_t, ev_ife, and_1, and_2, or_1, or_2, evc_0, evc_1, idx_list', idx_tup', at_0, at_1, at_2, at_3, ix_2_0, ix_2_1, tr_bool, eq_str, eq_int, lt_int', le_int', gt_int', add_int', sub_int', ex, ev, evs, eva, bind_ok, of_some, toS_ok, quiet_ok, get_0, get_s, List.set_cons_zero, List.set_cons_succ, LINE, List.length_cons, List.length_nil, Nat.reduceAdd, Nat.reduceLeDiff, decide_true, List.append_nil, List.map_nil, List.cons_append, List.nil_append, w_thingG n st (ht x m)]
            · simp only [exs_cons, exs_nil, ex_ife, seq_nx, seq_ret, endS_ret, endS_nx, ift_t, ift_f, ift_or, ift_and, ifs_t, ev_ife, and_1, and_2, or_1, or_2, evc_0, evc_1, idx_list', idx_tup', at_0, at_1, at_2, at_3, ix_2_0, ix_2_1, tr_bool, eq_str, eq_int, lt_int', le_int', gt_int', add_int', sub_int', ex, ev, evs, eva, bind_ok, of_some, toS_ok, quiet_ok, get_0, get_s, List.set_cons_zero, List.set_cons_succ, LINE, List.length_cons, List.length_nil, Nat.reduceAdd, Nat.reduceLeDiff, decide_true, List.append_nil, List.map_nil, List.cons_append, List.nil_append]
          · rw [List.length_nil, Nat.zero_add]
            exact Nat.le_trans hl (by decide)
        have a2 : ex (IP.run P (n + 2)) s_is_fact_2 [.val (.tuple (B.map rowD)), .val (.tuple [.str "fact", .str w, .tuple (t :: ts)]), .un] st = .ret (.bool ((t :: ts).all (thB B))) st := by
          rw [s_is_fact_2, ex, ev, hc, bind_ok]
          show RS.ret (.bool (!truthD (.list ((t :: ts).filter fun y => !thB B y)))) st = _
          have : truthD (.list ((t :: ts).filter fun y => !thB B y)) = !((t :: ts).filter fun y => !thB B y).isEmpty := rfl
          rw [this, Bool.not_not, filter_all]
        rw [exs_cons, a2, seq_ret, endS_ret, List.take_length]
        have fb : factB B [.str w, .tuple (t :: ts)] = (!(t :: ts).isEmpty && (decide ((plN B w).getD 0 = (t :: ts).length) && (t :: ts).all (thB B))) := rfl
        rw [fb, hd]
        simp

/-! ### formulas, good and bad -/
inductive GF : Nat → Nat → D → Prop
  | non {n m : Nat} : GF n m .none
  | int {n m : Nat} (i : Int) : GF n m (.int i)
  | lst {n m : Nat} {xs : List D} : noDicts xs = true → PyData.depthAll xs ≤ 100 → GF n m (.list xs)
  | nil {n m : Nat} : GF n m (.tuple [])
  | fact {n m : Nat} {rest : List D} : FR rest → 1 ≤ m → GF (n + 1) m (.tuple (.str "fact" :: rest))
  | nt {n m : Nat} {rest : List D} : (∀ p ∈ rest, GF n m p) → rest.length ≤ 5 → GF (n + 1) m (.tuple (.str "not" :: rest))
  | two {n m m' : Nat} {q : Str} {rest : List D} : q ∈ (["and", "or", "if"] : List Str) → (∀ p ∈ rest, GF n m p) → rest.length ≤ 5 → m + m ≤ m' → GF (n + 1) m' (.tuple (.str q :: rest))
  | any {n m : Nat} {q : Str} {rest : List D} : q ∈ (["all", "some"] : List Str) → (∀ p ∈ rest, GF n m p) → rest.length ≤ 5 → GF (n + 1) m (.tuple (.str q :: rest))
  | xor {n m : Nat} {rest : List D} : (∀ p ∈ rest, GF n m p) → rest.length ≤ 5 → GF (n + 1) m (.tuple (.str "xor" :: rest))
theorem GF.weak {n m : Nat} {d : D} (h : GF n m d) : ∀ {n' m' : Nat}, n ≤ n' → m ≤ m' → GF n' m' d := by
  induction h with
  | non => exact fun _ _ => .non
  | int i => exact fun _ _ => .int i
  | lst x y => exact fun _ _ => .lst x y
  | nil => exact fun _ _ => .nil
  | fact x y =>
    intro n' m' l1 l2
    obtain ⟨g, rfl⟩ : ∃ g, n' = g + 1 := ⟨n' - 1, by omega⟩
    exact .fact x (by omega)
  | nt a b ih =>
    intro n' m' l1 l2
    obtain ⟨g, rfl⟩ : ∃ g, n' = g + 1 := ⟨n' - 1, by omega⟩
    exact .nt (fun p m => ih p m (by omega) l2) b
  | two a b c e ih =>
    intro n' m' l1 l2
    obtain ⟨g, rfl⟩ : ∃ g, n' = g + 1 := ⟨n' - 1, by omega⟩
    exact .two a (fun p m => ih p m (by omega) (Nat.le_refl _)) c (by omega)
  | any a b c ih =>
    intro n' m' l1 l2
    obtain ⟨g, rfl⟩ : ∃ g, n' = g + 1 := ⟨n' - 1, by omega⟩
    exact .any a (fun p m => ih p m (by omega) l2) c
  | xor a b ih =>
    intro n' m' l1 l2
    obtain ⟨g, rfl⟩ : ∃ g, n' = g + 1 := ⟨n' - 1, by omega⟩
    exact .xor (fun p m => ih p m (by omega) l2) b
def fmS (B : List (Str × Str)) (f : D → Bool) : Nat → List D → Bool
  | 0, rest => factB B rest
  | 1, [a] => f a
  | 2, [a, b] => f a && f b
  | 3, [x, b] => in99 x && f b
  | _, _ => false
def fk (q : Str) : Nat := if sEq q "fact" then 0 else if sEq q "not" then 1 else if sEq q "and" || sEq q "or" || sEq q "if" then 2 else if sEq q "all" || sEq q "some" then 3 else 4
def fmB (B : List (Str × Str)) : Nat → D → Bool
  | 0, _ => false
  | n + 1, d => match d with
    | .tuple (.str q :: rest) => fmS B (fmB B n) (fk q) rest
    | _ => false
theorem fk_all : fk "fact" = 0 ∧ fk "not" = 1 ∧ fk "and" = 2 ∧ fk "or" = 2 ∧ fk "if" = 2 ∧ fk "all" = 3 ∧ fk "some" = 3 ∧ fk "xor" = 4 := ⟨by kernel_rfl, by kernel_rfl, by kernel_rfl, by kernel_rfl, by kernel_rfl, by kernel_rfl, by kernel_rfl, by kernel_rfl⟩
theorem fmS_1 {B : List (Str × Str)} {f : D → Bool} {rest : List D} (h : rest.length ≠ 1) : fmS B f 1 rest = false := by
  match rest, h with
  | [], _ => rfl
  | [_], h => simp at h
  | _ :: _ :: _, _ => rfl
theorem fmS_2 {B : List (Str × Str)} {f : D → Bool} {rest : List D} (h : rest.length ≠ 2) : fmS B f 2 rest = false := by
  match rest, h with
  | [], _ => rfl
  | [_], _ => rfl
  | [_, _], h => simp at h
  | _ :: _ :: _ :: _, _ => rfl
theorem fmS_3 {B : List (Str × Str)} {f : D → Bool} {rest : List D} (h : rest.length ≠ 2) : fmS B f 3 rest = false := by
  match rest, h with
  | [], _ => rfl
  | [_], _ => rfl
  | [_, _], h => simp at h
  | _ :: _ :: _ :: _, _ => rfl
theorem len1 {rest : List D} (h : rest.length = 1) : ∃ a, rest = [a] := by
  match rest, h with
  | [a], _ => exact ⟨a, rfl⟩
theorem len2 {rest : List D} (h : rest.length = 2) : ∃ a b, rest = [a, b] := by
  match rest, h with
  | [a, b], _ => exact ⟨a, b, rfl⟩
theorem x_facts : sEq "xor" "fact" = false ∧ sEq "xor" "not" = false ∧ op2 .isin (.str "xor") g_OF_TWO = some (.bool false) ∧ op2 .notin (.str "xor") g_OF_ANY = some (.bool true) := ⟨by kernel_rfl, by kernel_rfl, by kernel_rfl, by kernel_rfl⟩
theorem formedG {B : List (Str × Str)} (hB : Book B) {n m : Nat} {d : D} (x : GF n m d) : ∀ (N deep : Nat) (st : Store), n + 4 ≤ N → n + 1 ≤ deep → IP.run P N i_is_formed [.val (.tuple (B.map rowD)), .val d, .val (.int deep)] st = .ok (.bool (fmB B n d)) st := by
  obtain ⟨k1, k2, k3, k4, k5, k6, k7, k8⟩ := fk_all
  obtain ⟨x1, x2, x3, x4⟩ := x_facts
  induction x with
  | @non n m =>
    intro N deep st hn hd
    obtain ⟨N, rfl⟩ : ∃ g, N = g + 1 := ⟨N - 1, by omega⟩
    have y : decide ((deep : Int) = 0) = false := by simp; omega
    have e : fmB B n .none = false := by cases n <;> rfl
    rw [IP.run_succ (d := ⟨3, 3, b_is_formed, false⟩) rfl, e]
    show endS st.length (exs (IP.run P N) b_is_formed [.val (.tuple (B.map rowD)), .val .none, .val (.int deep)] st) = _
    simp only [b_is_formed, s_is_formed_0, exs_cons, exs_nil, ex_ife, seq_nx, seq_ret, endS_ret, endS_nx, ift_t, ift_f, ift_or, ift_and, ifs_t, ev_ife, and_1, and_2, or_1, or_2, evc_0, evc_1, idx_list', idx_tup', at_0, at_1, at_2, at_3, ix_2_0, ix_2_1, tr_bool, eq_str, eq_int, lt_int', le_int', gt_int', add_int', sub_int', ex, ev, evs, eva, bind_ok, of_some, toS_ok, quiet_ok, get_0, get_s, List.set_cons_zero, List.set_cons_succ, LINE, List.length_cons, List.length_nil, Nat.reduceAdd, Nat.reduceLeDiff, decide_true, List.append_nil, List.map_nil, List.cons_append, List.nil_append, y, isiD, Bool.not_false]
    simp
  | @int n m i =>
    intro N deep st hn hd
    obtain ⟨N, rfl⟩ : ∃ g, N = g + 1 := ⟨N - 1, by omega⟩
    have y : decide ((deep : Int) = 0) = false := by simp; omega
    have e : fmB B n (.int i) = false := by cases n <;> rfl
    rw [IP.run_succ (d := ⟨3, 3, b_is_formed, false⟩) rfl, e]
    show endS st.length (exs (IP.run P N) b_is_formed [.val (.tuple (B.map rowD)), .val (.int i), .val (.int deep)] st) = _
    simp only [b_is_formed, s_is_formed_0, exs_cons, exs_nil, ex_ife, seq_nx, seq_ret, endS_ret, endS_nx, ift_t, ift_f, ift_or, ift_and, ifs_t, ev_ife, and_1, and_2, or_1, or_2, evc_0, evc_1, idx_list', idx_tup', at_0, at_1, at_2, at_3, ix_2_0, ix_2_1, tr_bool, eq_str, eq_int, lt_int', le_int', gt_int', add_int', sub_int', ex, ev, evs, eva, bind_ok, of_some, toS_ok, quiet_ok, get_0, get_s, List.set_cons_zero, List.set_cons_succ, LINE, List.length_cons, List.length_nil, Nat.reduceAdd, Nat.reduceLeDiff, decide_true, List.append_nil, List.map_nil, List.cons_append, List.nil_append, y, isiD, Bool.not_false]
    simp
  | @lst n m xs hx hy =>
    intro N deep st hn hd
    obtain ⟨N, rfl⟩ : ∃ g, N = g + 1 := ⟨N - 1, by omega⟩
    have y : decide ((deep : Int) = 0) = false := by simp; omega
    have e : fmB B n (.list xs) = false := by cases n <;> rfl
    rw [IP.run_succ (d := ⟨3, 3, b_is_formed, false⟩) rfl, e]
    show endS st.length (exs (IP.run P N) b_is_formed [.val (.tuple (B.map rowD)), .val (.list xs), .val (.int deep)] st) = _
    simp only [b_is_formed, s_is_formed_0, exs_cons, exs_nil, ex_ife, seq_nx, seq_ret, endS_ret, endS_nx, ift_t, ift_f, ift_or, ift_and, ifs_t, ev_ife, and_1, and_2, or_1, or_2, evc_0, evc_1, idx_list', idx_tup', at_0, at_1, at_2, at_3, ix_2_0, ix_2_1, tr_bool, eq_str, eq_int, lt_int', le_int', gt_int', add_int', sub_int', ex, ev, evs, eva, bind_ok, of_some, toS_ok, quiet_ok, get_0, get_s, List.set_cons_zero, List.set_cons_succ, LINE, List.length_cons, List.length_nil, Nat.reduceAdd, Nat.reduceLeDiff, decide_true, List.append_nil, List.map_nil, List.cons_append, List.nil_append, y, isiD, Bool.not_false]
    simp
  | @nil n m =>
    intro N deep st hn hd
    obtain ⟨N, rfl⟩ : ∃ g, N = g + 1 := ⟨N - 1, by omega⟩
    have y : decide ((deep : Int) = 0) = false := by simp; omega
    have e : fmB B n (.tuple []) = false := by cases n <;> rfl
    have t0 : truthD (.tuple []) = false := rfl
    rw [IP.run_succ (d := ⟨3, 3, b_is_formed, false⟩) rfl, e]
    show endS st.length (exs (IP.run P N) b_is_formed [.val (.tuple (B.map rowD)), .val (.tuple []), .val (.int deep)] st) = _
    simp only [b_is_formed, s_is_formed_0, exs_cons, exs_nil, ex_ife, seq_nx, seq_ret, endS_ret, endS_nx, ift_t, ift_f, ift_or, ift_and, ifs_t, ev_ife, and_1, and_2, or_1, or_2, evc_0, evc_1, idx_list', idx_tup', at_0, at_1, at_2, at_3, ix_2_0, ix_2_1, tr_bool, eq_str, eq_int, lt_int', le_int', gt_int', add_int', sub_int', ex, ev, evs, eva, bind_ok, of_some, toS_ok, quiet_ok, get_0, get_s, List.set_cons_zero, List.set_cons_succ, LINE, List.length_cons, List.length_nil, Nat.reduceAdd, Nat.reduceLeDiff, decide_true, List.append_nil, List.map_nil, List.cons_append, List.nil_append, y, isi_tup, t0, Bool.not_true, Bool.not_false]
    simp
  | @fact n m rest hr hm =>
    intro N deep st hn hd
    obtain ⟨N, rfl⟩ : ∃ g, N = g + 4 := ⟨N - 4, by omega⟩
    have y : decide ((deep : Int) = 0) = false := by simp; omega
    have e : fmB B (n + 1) (.tuple (.str "fact" :: rest)) = factB B rest := by
      show fmS B (fmB B n) (fk "fact") rest = _
      rw [k1]
      rfl
    have hf := w_is_factG N st hB hr
    rw [IP.run_succ (d := ⟨3, 3, b_is_formed, false⟩) rfl, e]
    show endS st.length (exs (IP.run P (N + 3)) b_is_formed [.val (.tuple (B.map rowD)), .val (.tuple (.str "fact" :: rest)), .val (.int deep)] st) = _
    simp only [b_is_formed, s_is_formed_0, s_is_formed_1, exs_cons, exs_nil, ex_ife, seq_nx, seq_ret, endS_ret, endS_nx, ift_t, ift_f, ift_or, ift_and, ifs_t, ev_ife, and_1, and_2, or_1, or_2, evc_0, evc_1, idx_list', idx_tup', at_0, at_1, at_2, at_3, ix_2_0, ix_2_1, tr_bool, eq_str, eq_int, lt_int', le_int', gt_int', add_int', sub_int', ex, ev, evs, eva, bind_ok, of_some, toS_ok, quiet_ok, get_0, get_s, List.set_cons_zero, List.set_cons_succ, LINE, List.length_cons, List.length_nil, Nat.reduceAdd, Nat.reduceLeDiff, decide_true, List.append_nil, List.map_nil, List.cons_append, List.nil_append, y, isi_tup, isi_str, tr_tup, Bool.not_true, q_fact_fact, hf]
    simp
  | @nt n m rest hp hl ih =>
    intro N deep st hn hd
    obtain ⟨N, rfl⟩ : ∃ g, N = g + 1 := ⟨N - 1, by omega⟩
    obtain ⟨e, rfl⟩ : ∃ e, deep = e + 1 := ⟨deep - 1, by omega⟩
    have y : decide (((e + 1 : Nat) : Int) = 0) = false := by simp; omega
    have ee : ((e + 1 : Nat) : Int) - 1 = (e : Int) := by omega
    have ef : fmB B (n + 1) (.tuple (.str "not" :: rest)) = fmS B (fmB B n) 1 rest := by
      show fmS B (fmB B n) (fk "not") rest = _
      rw [k2]
    rw [IP.run_succ (d := ⟨3, 3, b_is_formed, false⟩) rfl, ef]
    show endS st.length (exs (IP.run P N) b_is_formed [.val (.tuple (B.map rowD)), .val (.tuple (.str "not" :: rest)), .val (.int (e + 1 : Nat))] st) = _
    by_cases h1 : rest.length = 1
    · obtain ⟨a, rfl⟩ := len1 h1
      have hd2 : decide (((2 : Nat) : Int) = 2) = true := by decide
      have i1 := ih a (by simp) N e st (by omega) (by omega)
      simp only [b_is_formed, s_is_formed_0, s_is_formed_1, s_is_formed_2, exs_cons, exs_nil, ex_ife, seq_nx, seq_ret, endS_ret, endS_nx, ift_t, ift_f, ift_or, ift_and, ifs_t, ev_ife, and_1, and_2, or_1, or_2, evc_0, evc_1, idx_list', idx_tup', at_0, at_1, at_2, at_3, ix_2_0, ix_2_1, tr_bool, eq_str, eq_int, lt_int', le_int', gt_int', add_int', sub_int', ex, ev, evs, eva, bind_ok, of_some, toS_ok, quiet_ok, get_0, get_s, List.set_cons_zero, List.set_cons_succ, LINE, List.length_cons, List.length_nil, Nat.reduceAdd, Nat.reduceLeDiff, decide_true, List.append_nil, List.map_nil, List.cons_append, List.nil_append, y, isi_tup, isi_str, tr_tup, Bool.not_true, q_not_fact, q_not_not, f1D, hd2, ee, i1]
      simp [fmS]
    · have hd2 : decide (((rest.length + 1 : Nat) : Int) = 2) = false := by
        rw [decide_eq_false_iff_not]
        omega
      rw [fmS_1 h1]
      simp only [b_is_formed, s_is_formed_0, s_is_formed_1, s_is_formed_2, exs_cons, exs_nil, ex_ife, seq_nx, seq_ret, endS_ret, endS_nx, ift_t, ift_f, ift_or, ift_and, ifs_t, ev_ife, and_1, and_2, or_1, or_2, evc_0, evc_1, idx_list', idx_tup', at_0, at_1, at_2, at_3, ix_2_0, ix_2_1, tr_bool, eq_str, eq_int, lt_int', le_int', gt_int', add_int', sub_int', ex, ev, evs, eva, bind_ok, of_some, toS_ok, quiet_ok, get_0, get_s, List.set_cons_zero, List.set_cons_succ, LINE, List.length_cons, List.length_nil, Nat.reduceAdd, Nat.reduceLeDiff, decide_true, List.append_nil, List.map_nil, List.cons_append, List.nil_append, y, isi_tup, isi_str, tr_tup, Bool.not_true, q_not_fact, q_not_not, f1D, hd2]
      simp
  | @two n m m2 q rest hq hp hl hm ih =>
    intro N deep st hn hd
    obtain ⟨N, rfl⟩ : ∃ g, N = g + 1 := ⟨N - 1, by omega⟩
    obtain ⟨e, rfl⟩ : ∃ e, deep = e + 1 := ⟨deep - 1, by omega⟩
    have y : decide (((e + 1 : Nat) : Int) = 0) = false := by simp; omega
    have ee : ((e + 1 : Nat) : Int) - 1 = (e : Int) := by omega
    obtain ⟨q1, q2, q3, q4⟩ : fk q = 2 ∧ sEq q "fact" = false ∧ sEq q "not" = false ∧ op2 .isin (.str q) g_OF_TWO = some (.bool true) := by
      simp only [List.mem_cons, List.not_mem_nil, or_false] at hq
      rcases hq with rfl | rfl | rfl
      · exact ⟨k3, q_and_fact, q_and_not, t_and⟩
      · exact ⟨k4, q_or_fact, q_or_not, t_or⟩
      · exact ⟨k5, q_if_fact, q_if_not, t_if⟩
    have ef : fmB B (n + 1) (.tuple (.str q :: rest)) = fmS B (fmB B n) 2 rest := by
      show fmS B (fmB B n) (fk q) rest = _
      rw [q1]
    rw [IP.run_succ (d := ⟨3, 3, b_is_formed, false⟩) rfl, ef]
    show endS st.length (exs (IP.run P N) b_is_formed [.val (.tuple (B.map rowD)), .val (.tuple (.str q :: rest)), .val (.int (e + 1 : Nat))] st) = _
    by_cases h1 : rest.length = 2
    · obtain ⟨a, b, rfl⟩ := len2 h1
      have hd2 : decide (((3 : Nat) : Int) = 3) = true := by decide
      have i1 := ih a (by simp) N e st (by omega) (by omega)
      have i2 := ih b (by simp) N e st (by omega) (by omega)
      have ef2 : fmS B (fmB B n) 2 [a, b] = (fmB B n a && fmB B n b) := rfl
      rw [ef2]
      cases ha : fmB B n a with
      | true =>
        rw [ha] at i1
        simp only [b_is_formed, s_is_formed_0, s_is_formed_1, s_is_formed_2, s_is_formed_3, exs_cons, exs_nil, ex_ife, seq_nx, seq_ret, endS_ret, endS_nx, ift_t, ift_f, ift_or, ift_and, ifs_t, ev_ife, and_1, and_2, or_1, or_2, evc_0, evc_1, idx_list', idx_tup', at_0, at_1, at_2, at_3, ix_2_0, ix_2_1, tr_bool, eq_str, eq_int, lt_int', le_int', gt_int', add_int', sub_int', ex, ev, evs, eva, bind_ok, of_some, toS_ok, quiet_ok, get_0, get_s, List.set_cons_zero, List.set_cons_succ, LINE, List.length_cons, List.length_nil, Nat.reduceAdd, Nat.reduceLeDiff, decide_true, List.append_nil, List.map_nil, List.cons_append, List.nil_append, y, isi_tup, isi_str, tr_tup, Bool.not_true, q2, q3, q4, f1D, hd2, ee, i1, i2]
        simp
      | false =>
        rw [ha] at i1
        simp only [b_is_formed, s_is_formed_0, s_is_formed_1, s_is_formed_2, s_is_formed_3, exs_cons, exs_nil, ex_ife, seq_nx, seq_ret, endS_ret, endS_nx, ift_t, ift_f, ift_or, ift_and, ifs_t, ev_ife, and_1, and_2, or_1, or_2, evc_0, evc_1, idx_list', idx_tup', at_0, at_1, at_2, at_3, ix_2_0, ix_2_1, tr_bool, eq_str, eq_int, lt_int', le_int', gt_int', add_int', sub_int', ex, ev, evs, eva, bind_ok, of_some, toS_ok, quiet_ok, get_0, get_s, List.set_cons_zero, List.set_cons_succ, LINE, List.length_cons, List.length_nil, Nat.reduceAdd, Nat.reduceLeDiff, decide_true, List.append_nil, List.map_nil, List.cons_append, List.nil_append, y, isi_tup, isi_str, tr_tup, Bool.not_true, q2, q3, q4, f1D, hd2, ee, i1]
        simp
    · have hd2 : decide (((rest.length + 1 : Nat) : Int) = 3) = false := by
        rw [decide_eq_false_iff_not]
        omega
      rw [fmS_2 h1]
      simp only [b_is_formed, s_is_formed_0, s_is_formed_1, s_is_formed_2, s_is_formed_3, exs_cons, exs_nil, ex_ife, seq_nx, seq_ret, endS_ret, endS_nx, ift_t, ift_f, ift_or, ift_and, ifs_t, ev_ife, and_1, and_2, or_1, or_2, evc_0, evc_1, idx_list', idx_tup', at_0, at_1, at_2, at_3, ix_2_0, ix_2_1, tr_bool, eq_str, eq_int, lt_int', le_int', gt_int', add_int', sub_int', ex, ev, evs, eva, bind_ok, of_some, toS_ok, quiet_ok, get_0, get_s, List.set_cons_zero, List.set_cons_succ, LINE, List.length_cons, List.length_nil, Nat.reduceAdd, Nat.reduceLeDiff, decide_true, List.append_nil, List.map_nil, List.cons_append, List.nil_append, y, isi_tup, isi_str, tr_tup, Bool.not_true, q2, q3, q4, f1D, hd2]
      simp
  | @any n m q rest hq hp hl ih =>
    intro N deep st hn hd
    obtain ⟨N, rfl⟩ : ∃ g, N = g + 2 := ⟨N - 2, by omega⟩
    obtain ⟨e, rfl⟩ : ∃ e, deep = e + 1 := ⟨deep - 1, by omega⟩
    have y : decide (((e + 1 : Nat) : Int) = 0) = false := by simp; omega
    have ee : ((e + 1 : Nat) : Int) - 1 = (e : Int) := by omega
    obtain ⟨q1, q2, q3, q4, q5⟩ : fk q = 3 ∧ sEq q "fact" = false ∧ sEq q "not" = false ∧ op2 .isin (.str q) g_OF_TWO = some (.bool false) ∧ op2 .notin (.str q) g_OF_ANY = some (.bool false) := by
      simp only [List.mem_cons, List.not_mem_nil, or_false] at hq
      rcases hq with rfl | rfl
      · exact ⟨k6, q_all_fact, q_all_not, t_all, u_all⟩
      · exact ⟨k7, q_some_fact, q_some_not, t_some, u_some⟩
    have ef : fmB B (n + 1) (.tuple (.str q :: rest)) = fmS B (fmB B n) 3 rest := by
      show fmS B (fmB B n) (fk q) rest = _
      rw [q1]
    rw [IP.run_succ (d := ⟨3, 3, b_is_formed, false⟩) rfl, ef]
    show endS st.length (exs (IP.run P (N + 1)) b_is_formed [.val (.tuple (B.map rowD)), .val (.tuple (.str q :: rest)), .val (.int (e + 1 : Nat))] st) = _
    by_cases h1 : rest.length = 2
    · obtain ⟨a, b, rfl⟩ := len2 h1
      have hd2 : (!decide (((3 : Nat) : Int) = 3)) = false := by decide
      have i2 := ih b (by simp) (N + 1) e st (by omega) (by omega)
      have hw := w_withinG N st a
      have ef2 : fmS B (fmB B n) 3 [a, b] = (in99 a && fmB B n b) := rfl
      rw [ef2]
      cases hi : in99 a with
      | true =>
        rw [hi] at hw
        simp only [b_is_formed, s_is_formed_0, s_is_formed_1, s_is_formed_2, s_is_formed_3, s_is_formed_4, s_is_formed_5, exs_cons, exs_nil, ex_ife, seq_nx, seq_ret, endS_ret, endS_nx, ift_t, ift_f, ift_or, ift_and, ifs_t, ev_ife, and_1, and_2, or_1, or_2, evc_0, evc_1, idx_list', idx_tup', at_0, at_1, at_2, at_3, ix_2_0, ix_2_1, tr_bool, eq_str, eq_int, lt_int', le_int', gt_int', add_int', sub_int', ex, ev, evs, eva, bind_ok, of_some, toS_ok, quiet_ok, get_0, get_s, List.set_cons_zero, List.set_cons_succ, LINE, List.length_cons, List.length_nil, Nat.reduceAdd, Nat.reduceLeDiff, decide_true, List.append_nil, List.map_nil, List.cons_append, List.nil_append, y, isi_tup, isi_str, tr_tup, Bool.not_true, q2, q3, q4, q5, f1D, ne_int, hd2, ee, i2, g_MOST_THING, hw]
        simp
      | false =>
        rw [hi] at hw
        simp only [b_is_formed, s_is_formed_0, s_is_formed_1, s_is_formed_2, s_is_formed_3, s_is_formed_4, s_is_formed_5, exs_cons, exs_nil, ex_ife, seq_nx, seq_ret, endS_ret, endS_nx, ift_t, ift_f, ift_or, ift_and, ifs_t, ev_ife, and_1, and_2, or_1, or_2, evc_0, evc_1, idx_list', idx_tup', at_0, at_1, at_2, at_3, ix_2_0, ix_2_1, tr_bool, eq_str, eq_int, lt_int', le_int', gt_int', add_int', sub_int', ex, ev, evs, eva, bind_ok, of_some, toS_ok, quiet_ok, get_0, get_s, List.set_cons_zero, List.set_cons_succ, LINE, List.length_cons, List.length_nil, Nat.reduceAdd, Nat.reduceLeDiff, decide_true, List.append_nil, List.map_nil, List.cons_append, List.nil_append, y, isi_tup, isi_str, tr_tup, Bool.not_true, Bool.not_false, q2, q3, q4, q5, f1D, ne_int, hd2, g_MOST_THING, hw]
        simp
    · have hd2 : (!decide (((rest.length + 1 : Nat) : Int) = 3)) = true := by
        rw [Bool.not_eq_true', decide_eq_false_iff_not]
        omega
      rw [fmS_3 h1]
      simp only [b_is_formed, s_is_formed_0, s_is_formed_1, s_is_formed_2, s_is_formed_3, s_is_formed_4, exs_cons, exs_nil, ex_ife, seq_nx, seq_ret, endS_ret, endS_nx, ift_t, ift_f, ift_or, ift_and, ifs_t, ev_ife, and_1, and_2, or_1, or_2, evc_0, evc_1, idx_list', idx_tup', at_0, at_1, at_2, at_3, ix_2_0, ix_2_1, tr_bool, eq_str, eq_int, lt_int', le_int', gt_int', add_int', sub_int', ex, ev, evs, eva, bind_ok, of_some, toS_ok, quiet_ok, get_0, get_s, List.set_cons_zero, List.set_cons_succ, LINE, List.length_cons, List.length_nil, Nat.reduceAdd, Nat.reduceLeDiff, decide_true, List.append_nil, List.map_nil, List.cons_append, List.nil_append, y, isi_tup, isi_str, tr_tup, Bool.not_true, q2, q3, q4, q5, f1D, ne_int, hd2]
      simp
  | @xor n m rest hp hl ih =>
    intro N deep st hn hd
    obtain ⟨N, rfl⟩ : ∃ g, N = g + 1 := ⟨N - 1, by omega⟩
    have y : decide ((deep : Int) = 0) = false := by simp; omega
    have ef : fmB B (n + 1) (.tuple (.str "xor" :: rest)) = false := by
      show fmS B (fmB B n) (fk "xor") rest = _
      rw [k8]
      rfl
    rw [IP.run_succ (d := ⟨3, 3, b_is_formed, false⟩) rfl, ef]
    show endS st.length (exs (IP.run P N) b_is_formed [.val (.tuple (B.map rowD)), .val (.tuple (.str "xor" :: rest)), .val (.int deep)] st) = _
    simp only [b_is_formed, s_is_formed_0, s_is_formed_1, s_is_formed_2, s_is_formed_3, s_is_formed_4, exs_cons, exs_nil, ex_ife, seq_nx, seq_ret, endS_ret, endS_nx, ift_t, ift_f, ift_or, ift_and, ifs_t, ev_ife, and_1, and_2, or_1, or_2, evc_0, evc_1, idx_list', idx_tup', at_0, at_1, at_2, at_3, ix_2_0, ix_2_1, tr_bool, eq_str, eq_int, lt_int', le_int', gt_int', add_int', sub_int', ex, ev, evs, eva, bind_ok, of_some, toS_ok, quiet_ok, get_0, get_s, List.set_cons_zero, List.set_cons_succ, LINE, List.length_cons, List.length_nil, Nat.reduceAdd, Nat.reduceLeDiff, decide_true, List.append_nil, List.map_nil, List.cons_append, List.nil_append, y, isi_tup, isi_str, tr_tup, Bool.not_true, x1, x2, x3, x4]
    simp

theorem FR.nd {rest : List D} (h : FR rest) : noDicts rest = true := by
  cases h with
  | w1 => rfl
  | @ok w ts a b =>
    refine noDicts_of fun t m => ?_
    simp only [List.mem_cons, List.not_mem_nil, or_false] at m
    rcases m with rfl | rfl
    · rfl
    · rw [noDict]; exact noDicts_of fun t m => (a t m).nd
  | @more w ts a b =>
    refine noDicts_of fun t m => ?_
    simp only [List.mem_cons, List.not_mem_nil, or_false] at m
    rcases m with rfl | rfl | rfl
    · rfl
    · rw [noDict]; exact noDicts_of fun t m => (a t m).nd
    · rfl
theorem GF.nd {n m : Nat} {d : D} (h : GF n m d) : noDict d = true := by
  induction h with
  | non => rfl
  | int i => rfl
  | lst h _ => exact h
  | nil => rfl
  | fact h _ => rw [noDict, noDicts, h.nd]; rfl
  | nt a b ih => rw [noDict, noDicts, noDicts_of ih]; rfl
  | two a b c e ih => rw [noDict, noDicts, noDicts_of ih]; rfl
  | any a b c ih => rw [noDict, noDicts, noDicts_of ih]; rfl
  | xor a b ih => rw [noDict, noDicts, noDicts_of ih]; rfl
theorem depthAll_of {c : Nat} : ∀ {ts : List D}, (∀ t ∈ ts, t.depth ≤ c) → PyData.depthAll ts ≤ c
  | [], _ => by simp [PyData.depthAll]
  | t :: r, h => by
    have h1 := h t List.mem_cons_self
    have h2 := depthAll_of (c := c) (ts := r) fun q m => h q (List.mem_cons_of_mem _ m)
    simp only [PyData.depthAll]
    omega
theorem str_depth (s : Str) : (PyData.str s).depth ≤ 1 := by simp [PyData.depth]
theorem int_depth (i : Int) : (PyData.int i).depth ≤ 1 := by simp [PyData.depth]
theorem tup_depth {c : Nat} {ts : List D} (h : PyData.depthAll ts ≤ c) : (PyData.tuple ts).depth ≤ c + 1 := by
  simp only [PyData.depth]
  omega
theorem GT.depth {t : D} (h : GT t) : t.depth ≤ 2 := by
  rcases h with ⟨s, rfl⟩ | ⟨i, rfl⟩ | ⟨b, rfl⟩ | ⟨i, rfl⟩
  · have := str_depth s; omega
  · have := int_depth i; omega
  · simp [PyData.depth]
  · refine tup_depth (depthAll_of fun t m => ?_)
    simp only [List.mem_cons, List.not_mem_nil, or_false] at m
    rcases m with rfl | rfl
    · exact str_depth _
    · exact int_depth _
theorem FR.depth {rest : List D} (h : FR rest) : ∀ t ∈ rest, t.depth ≤ 3 := by
  intro t m
  cases h with
  | w1 =>
    simp only [List.mem_cons, List.not_mem_nil, or_false] at m
    subst m
    have := str_depth ‹_›
    omega
  | @ok w ts a b =>
    simp only [List.mem_cons, List.not_mem_nil, or_false] at m
    rcases m with rfl | rfl
    · have := str_depth w; omega
    · exact tup_depth (depthAll_of fun t m => (a t m).depth)
  | @more w ts a b =>
    simp only [List.mem_cons, List.not_mem_nil, or_false] at m
    rcases m with rfl | rfl | rfl
    · have := str_depth w; omega
    · exact tup_depth (depthAll_of fun t m => (a t m).depth)
    · have := int_depth 1; omega
theorem head_depth {c : Nat} {q : Str} {rest : List D} (hc : 1 ≤ c) (h : ∀ t ∈ rest, t.depth ≤ c) : (PyData.tuple (.str q :: rest)).depth ≤ c + 1 := by
  refine tup_depth (depthAll_of fun t m => ?_)
  rcases List.mem_cons.mp m with rfl | m
  · have := str_depth q; omega
  · exact h t m
theorem GF.depth {n m : Nat} {d : D} (h : GF n m d) : d.depth ≤ 104 + n := by
  induction h with
  | @non n m => simp [PyData.depth]
  | @int n m i => have := int_depth i; omega
  | @lst n m xs h hy => simp only [PyData.depth]; omega
  | @nil n m => simp only [PyData.depth, PyData.depthAll]; omega
  | @fact n m rest h hm => have := head_depth (q := "fact") (c := 3) (by omega) h.depth; omega
  | @nt n m rest a b ih => have := head_depth (q := "not") (c := 104 + n) (by omega) ih; omega
  | @two n m m2 q rest a b c e ih => have := head_depth (q := q) (c := 104 + n) (by omega) ih; omega
  | @any n m q rest a b c ih => have := head_depth (q := q) (c := 104 + n) (by omega) ih; omega
  | @xor n m rest a b ih => have := head_depth (q := "xor") (c := 104 + n) (by omega) ih; omega
theorem l_facts : sEq "fact" "fact" = true ∧ op2 .isin (.str "and") (.tuple [.str "all", .str "some"]) = some (.bool false) ∧ op2 .isin (.str "or") (.tuple [.str "all", .str "some"]) = some (.bool false) ∧ op2 .isin (.str "if") (.tuple [.str "all", .str "some"]) = some (.bool false) ∧
    op2 .isin (.str "xor") (.tuple [.str "all", .str "some"]) = some (.bool false) ∧ op2 .isin (.str "all") (.tuple [.str "all", .str "some"]) = some (.bool true) ∧ op2 .isin (.str "some") (.tuple [.str "all", .str "some"]) = some (.bool true) ∧
    op2 .isin (.str "and") (.tuple [.str "and", .str "or", .str "if"]) = some (.bool true) ∧ op2 .isin (.str "or") (.tuple [.str "and", .str "or", .str "if"]) = some (.bool true) ∧ op2 .isin (.str "if") (.tuple [.str "and", .str "or", .str "if"]) = some (.bool true) ∧
    op2 .isin (.str "xor") (.tuple [.str "and", .str "or", .str "if"]) = some (.bool false) := ⟨by kernel_rfl, by kernel_rfl, by kernel_rfl, by kernel_rfl, by kernel_rfl, by kernel_rfl, by kernel_rfl, by kernel_rfl, by kernel_rfl, by kernel_rfl, by kernel_rfl⟩
theorem lf_0 (C : CallF) (st : Store) (b : D) (q : Str) {rest : List D} (h : noDicts rest = true) : ex C s__law_is_formed_0 [.val b, .val (.tuple (.str q :: rest)), .un] st = .nx [.val b, .val (.tuple (.str q :: rest)), .un] st := by
  have e := eq_nilT (xs := .str q :: rest) (by rw [noDicts, h]; rfl)
  simp only [s__law_is_formed_0, exs_cons, exs_nil, ex_ife, seq_nx, seq_ret, endS_ret, endS_nx, ift_t, ift_f, ift_or, ift_and, ifs_t, ev_ife, and_1, and_2, or_1, or_2, evc_0, evc_1, idx_list', idx_tup', at_0, at_1, at_2, at_3, ix_2_0, ix_2_1, tr_bool, eq_str, eq_int, lt_int', le_int', gt_int', add_int', sub_int', ex, ev, evs, eva, bind_ok, of_some, toS_ok, quiet_ok, get_0, get_s, List.set_cons_zero, List.set_cons_succ, LINE, List.length_cons, List.length_nil, Nat.reduceAdd, Nat.reduceLeDiff, decide_true, List.append_nil, List.map_nil, List.cons_append, List.nil_append, isi_tup, isi_str, Bool.not_true, e, List.isEmpty_cons]
theorem lfact (n : Nat) (st : Store) {B : List (Str × Str)} (hB : Book B) {rest : List D} (h : FR rest) : ex (IP.run P (n + 3)) s__law_is_formed_1 [.val (.tuple (B.map rowD)), .val (.tuple (.str "fact" :: rest)), .un] st = .ret (.bool (factB B rest)) st := by
  obtain ⟨f1, _⟩ := l_facts
  cases h with
  | w1 =>
    have hd : (!decide (((2 : Nat) : Int) = 3)) = true := by decide
    simp only [s__law_is_formed_1, exs_cons, exs_nil, ex_ife, seq_nx, seq_ret, endS_ret, endS_nx, ift_t, ift_f, ift_or, ift_and, ifs_t, ev_ife, and_1, and_2, or_1, or_2, evc_0, evc_1, idx_list', idx_tup', at_0, at_1, at_2, at_3, ix_2_0, ix_2_1, tr_bool, eq_str, eq_int, lt_int', le_int', gt_int', add_int', sub_int', ex, ev, evs, eva, bind_ok, of_some, toS_ok, quiet_ok, get_0, get_s, List.set_cons_zero, List.set_cons_succ, LINE, List.length_cons, List.length_nil, Nat.reduceAdd, Nat.reduceLeDiff, decide_true, List.append_nil, List.map_nil, List.cons_append, List.nil_append, f1, f1D, ne_int, hd]
    simp [factB]
  | more a b =>
    have hd : (!decide (((4 : Nat) : Int) = 3)) = true := by decide
    simp only [s__law_is_formed_1, exs_cons, exs_nil, ex_ife, seq_nx, seq_ret, endS_ret, endS_nx, ift_t, ift_f, ift_or, ift_and, ifs_t, ev_ife, and_1, and_2, or_1, or_2, evc_0, evc_1, idx_list', idx_tup', at_0, at_1, at_2, at_3, ix_2_0, ix_2_1, tr_bool, eq_str, eq_int, lt_int', le_int', gt_int', add_int', sub_int', ex, ev, evs, eva, bind_ok, of_some, toS_ok, quiet_ok, get_0, get_s, List.set_cons_zero, List.set_cons_succ, LINE, List.length_cons, List.length_nil, Nat.reduceAdd, Nat.reduceLeDiff, decide_true, List.append_nil, List.map_nil, List.cons_append, List.nil_append, f1, f1D, ne_int, hd]
    simp [factB]
  | @ok w ts ht hl =>
    have hd : (!decide (((3 : Nat) : Int) = 3)) = false := by decide
    have en := eq_nilT (xs := ts) (noDicts_of fun t m => (ht t m).nd)
    have hp := w_lplacesG (n + 2) st hB w
    have e1 : op2 .ne (.int (((plN B w).getD 0 : Nat) : Int)) (.int (ts.length : Nat)) = some (.bool (!decide ((plN B w).getD 0 = ts.length))) := by
      rw [ne_int]
      congr 3
      by_cases h : (plN B w).getD 0 = ts.length
      · simp [h]
      · have : ¬ (((plN B w).getD 0 : Nat) : Int) = (ts.length : Nat) := by omega
        rw [decide_eq_false this, decide_eq_false h]
    have hc : ev (IP.run P (n + 3)) (.lc [2] (.n 2) (.e (.idx (.v 1) (.c (.int 2)))) (.cons (.nt (.call i__law_is_thing (.e (.v 0) (.e (.v 2) .nil)) [])) .nil) (.v 2)) [.val (.tuple (B.map rowD)), .val (.tuple [.str "fact", .str w, .tuple ts]), .un] st = .ok (.list (ts.filter fun y => !thB B y)) st := by
      rw [ev_lc rfl]
      have ei : evi (IP.run P (n + 3)) (.e (.idx (.v 1) (.c (.int 2)))) [.val (.tuple (B.map rowD)), .val (.tuple [.str "fact", .str w, .tuple ts]), .un] st = .ok ts st := by
        rw [evi]
        simp only [exs_cons, exs_nil, ex_ife, seq_nx, seq_ret, endS_ret, endS_nx, ift_t, ift_f, ift_or, ift_and, ifs_t, ev_ife, and_1, and_2, or_1, or_2, evc_0, evc_1, idx_list', idx_tup', at_0, at_1, at_2, at_3, ix_2_0, ix_2_1, tr_bool, eq_str, eq_int, lt_int', le_int', gt_int', add_int', sub_int', ex, ev, evs, eva, bind_ok, of_some, toS_ok, quiet_ok, get_0, get_s, List.set_cons_zero, List.set_cons_succ, LINE, List.length_cons, List.length_nil, Nat.reduceAdd, Nat.reduceLeDiff, decide_true, List.append_nil, List.map_nil, List.cons_append, List.nil_append, itemsD]
      rw [ei, bind_ok, loopE_filter (p := fun y => !thB B y) (f := fun y => y)]
      · rw [List.map_id']
        rfl
      · intro x m
        refine ⟨[.val (.tuple (B.map rowD)), .val (.tuple [.str "fact", .str w, .tuple ts]), .val x], rfl, ?_, fun z => ?_⟩
        · simp only [exs_cons, exs_nil, ex_ife, seq_nx, seq_ret, endS_ret, endS_nx, ift_t, ift_f, ift_or, ift_and, ifs_t, ev_ife, and_1, and_2, or_1, or_2, evc_0, evc_1, idx_list', idx_tup', at_0, at_1, at_2, at_3, ix_2_0, ix_2_1, tr_bool, eq_str, eq_int, lt_int', le_int', gt_int', add_int', sub_int', ex, ev, evs, eva, bind_ok, of_some, toS_ok, quiet_ok, get_0, get_s, List.set_cons_zero, List.set_cons_succ, LINE, List.length_cons, List.length_nil, Nat.reduceAdd, Nat.reduceLeDiff, decide_true, List.append_nil, List.map_nil, List.cons_append, List.nil_append, w_lthingG (n + 1) st (ht x m)]
        · simp only [exs_cons, exs_nil, ex_ife, seq_nx, seq_ret, endS_ret, endS_nx, ift_t, ift_f, ift_or, ift_and, ifs_t, ev_ife, and_1, and_2, or_1, or_2, evc_0, evc_1, idx_list', idx_tup', at_0, at_1, at_2, at_3, ix_2_0, ix_2_1, tr_bool, eq_str, eq_int, lt_int', le_int', gt_int', add_int', sub_int', ex, ev, evs, eva, bind_ok, of_some, toS_ok, quiet_ok, get_0, get_s, List.set_cons_zero, List.set_cons_succ, LINE, List.length_cons, List.length_nil, Nat.reduceAdd, Nat.reduceLeDiff, decide_true, List.append_nil, List.map_nil, List.cons_append, List.nil_append]
      · rw [List.length_nil, Nat.zero_add]
        exact Nat.le_trans hl (by decide)
    have eq2 := eq_nil (ts := ts.filter fun y => !thB B y) (noDicts_of fun t m => (ht t (List.mem_filter.mp m).1).nd)
    have er : ex (IP.run P (n + 3)) (.ret (.bin .eq (.lc [2] (.n 2) (.e (.idx (.v 1) (.c (.int 2)))) (.cons (.nt (.call i__law_is_thing (.e (.v 0) (.e (.v 2) .nil)) [])) .nil) (.v 2)) (.lst .nil))) [.val (.tuple (B.map rowD)), .val (.tuple [.str "fact", .str w, .tuple ts]), .un] st = .ret (.bool (ts.all (thB B))) st := by
      rw [ex, ev, hc, bind_ok]
      have e0 : ev (IP.run P (n + 3)) (.lst .nil) [.val (.tuple (B.map rowD)), .val (.tuple [.str "fact", .str w, .tuple ts]), .un] st = .ok (.list []) st := by
        simp only [exs_cons, exs_nil, ex_ife, seq_nx, seq_ret, endS_ret, endS_nx, ift_t, ift_f, ift_or, ift_and, ifs_t, ev_ife, and_1, and_2, or_1, or_2, evc_0, evc_1, idx_list', idx_tup', at_0, at_1, at_2, at_3, ix_2_0, ix_2_1, tr_bool, eq_str, eq_int, lt_int', le_int', gt_int', add_int', sub_int', ex, ev, evs, eva, bind_ok, of_some, toS_ok, quiet_ok, get_0, get_s, List.set_cons_zero, List.set_cons_succ, LINE, List.length_cons, List.length_nil, Nat.reduceAdd, Nat.reduceLeDiff, decide_true, List.append_nil, List.map_nil, List.cons_append, List.nil_append]
      rw [e0, bind_ok, eq2, of_some, toS_ok, ← filter_all (p := thB B)]
      congr 2
      cases (ts.filter fun y => !thB B y) <;> simp
    have fb : factB B [.str w, .tuple ts] = (!ts.isEmpty && (decide ((plN B w).getD 0 = ts.length) && ts.all (thB B))) := rfl
    rw [fb]
    cases he : ts.isEmpty with
    | true =>
      rw [he] at en
      simp only [s__law_is_formed_1, exs_cons, exs_nil, ex_ife, seq_nx, seq_ret, endS_ret, endS_nx, ift_t, ift_f, ift_or, ift_and, ifs_t, ev_ife, and_1, and_2, or_1, or_2, evc_0, evc_1, idx_list', idx_tup', at_0, at_1, at_2, at_3, ix_2_0, ix_2_1, tr_bool, eq_str, eq_int, lt_int', le_int', gt_int', add_int', sub_int', ex, ev, evs, eva, bind_ok, of_some, toS_ok, quiet_ok, get_0, get_s, List.set_cons_zero, List.set_cons_succ, LINE, List.length_cons, List.length_nil, Nat.reduceAdd, Nat.reduceLeDiff, decide_true, List.append_nil, List.map_nil, List.cons_append, List.nil_append, f1, f1D, ne_int, hd, isi_str, isi_tup, Bool.not_true, en]
      simp
    | false =>
      rw [he] at en
      cases hk : decide ((plN B w).getD 0 = ts.length) with
      | false =>
        rw [hk] at e1
        have hk2 : op2 .ne (.int (((plN B w).getD 0 : Nat) : Int)) (.int (ts.length : Nat)) = some (.bool true) := e1
        rw [ne_int] at hk2
        have hk3 : (!decide ((((plN B w).getD 0 : Nat) : Int) = (ts.length : Nat))) = true := by
          have := Option.some.inj hk2
          exact PyData.bool.inj this
        simp only [s__law_is_formed_1, exs_cons, exs_nil, ex_ife, seq_nx, seq_ret, endS_ret, endS_nx, ift_t, ift_f, ift_or, ift_and, ifs_t, ev_ife, and_1, and_2, or_1, or_2, evc_0, evc_1, idx_list', idx_tup', at_0, at_1, at_2, at_3, ix_2_0, ix_2_1, tr_bool, eq_str, eq_int, lt_int', le_int', gt_int', add_int', sub_int', ex, ev, evs, eva, bind_ok, of_some, toS_ok, quiet_ok, get_0, get_s, List.set_cons_zero, List.set_cons_succ, LINE, List.length_cons, List.length_nil, Nat.reduceAdd, Nat.reduceLeDiff, decide_true, List.append_nil, List.map_nil, List.cons_append, List.nil_append, f1, f1D, ne_int, hd, isi_str, isi_tup, Bool.not_true, en, hp, hk3]
        simp
      | true =>
        rw [hk] at e1
        have hk2 : op2 .ne (.int (((plN B w).getD 0 : Nat) : Int)) (.int (ts.length : Nat)) = some (.bool false) := e1
        rw [ne_int] at hk2
        have hk3 : (!decide ((((plN B w).getD 0 : Nat) : Int) = (ts.length : Nat))) = false := by
          have := Option.some.inj hk2
          exact PyData.bool.inj this
        rw [s__law_is_formed_1, ex_ife]
        have t0 : ev (IP.run P (n + 3)) (.bin .eq (.idx (.v 1) (.c (.int 0))) (.c (.str "fact"))) [.val (.tuple (B.map rowD)), .val (.tuple [.str "fact", .str w, .tuple ts]), .un] st = .ok (.bool true) st := by simp only [exs_cons, exs_nil, ex_ife, seq_nx, seq_ret, endS_ret, endS_nx, ift_t, ift_f, ift_or, ift_and, ifs_t, ev_ife, and_1, and_2, or_1, or_2, evc_0, evc_1, idx_list', idx_tup', at_0, at_1, at_2, at_3, ix_2_0, ix_2_1, tr_bool, eq_str, eq_int, lt_int', le_int', gt_int', add_int', sub_int', ex, ev, evs, eva, bind_ok, of_some, toS_ok, quiet_ok, get_0, get_s, List.set_cons_zero, List.set_cons_succ, LINE, List.length_cons, List.length_nil, Nat.reduceAdd, Nat.reduceLeDiff, decide_true, List.append_nil, List.map_nil, List.cons_append, List.nil_append, f1]
        rw [t0, toS_ok, tr_bool, ift_t, exs_cons]
        have t1 : ex (IP.run P (n + 3)) (.ife (.bor (.cons (.bin .ne (.f1 .len (.v 1)) (.c (.int 3))) (.cons (.nt (.isi (.idx (.v 1) (.c (.int 1))) .str)) (.cons (.nt (.isi (.idx (.v 1) (.c (.int 2))) .tuple)) (.cons (.bin .eq (.idx (.v 1) (.c (.int 2))) (.tup .nil)) .nil))))) (.cons (.ret (.c (.bool false))) .nil) .nil) [.val (.tuple (B.map rowD)), .val (.tuple [.str "fact", .str w, .tuple ts]), .un] st = .nx [.val (.tuple (B.map rowD)), .val (.tuple [.str "fact", .str w, .tuple ts]), .un] st := by
          simp only [exs_cons, exs_nil, ex_ife, seq_nx, seq_ret, endS_ret, endS_nx, ift_t, ift_f, ift_or, ift_and, ifs_t, ev_ife, and_1, and_2, or_1, or_2, evc_0, evc_1, idx_list', idx_tup', at_0, at_1, at_2, at_3, ix_2_0, ix_2_1, tr_bool, eq_str, eq_int, lt_int', le_int', gt_int', add_int', sub_int', ex, ev, evs, eva, bind_ok, of_some, toS_ok, quiet_ok, get_0, get_s, List.set_cons_zero, List.set_cons_succ, LINE, List.length_cons, List.length_nil, Nat.reduceAdd, Nat.reduceLeDiff, decide_true, List.append_nil, List.map_nil, List.cons_append, List.nil_append, f1D, ne_int, hd, isi_str, isi_tup, Bool.not_true, en]
        have t2 : ex (IP.run P (n + 3)) (.ife (.bin .ne (.call i__law_places (.e (.v 0) (.e (.idx (.v 1) (.c (.int 1))) .nil)) []) (.f1 .len (.idx (.v 1) (.c (.int 2))))) (.cons (.ret (.c (.bool false))) .nil) .nil) [.val (.tuple (B.map rowD)), .val (.tuple [.str "fact", .str w, .tuple ts]), .un] st = .nx [.val (.tuple (B.map rowD)), .val (.tuple [.str "fact", .str w, .tuple ts]), .un] st := by
          simp only [exs_cons, exs_nil, ex_ife, seq_nx, seq_ret, endS_ret, endS_nx, ift_t, ift_f, ift_or, ift_and, ifs_t, ev_ife, and_1, and_2, or_1, or_2, evc_0, evc_1, idx_list', idx_tup', at_0, at_1, at_2, at_3, ix_2_0, ix_2_1, tr_bool, eq_str, eq_int, lt_int', le_int', gt_int', add_int', sub_int', ex, ev, evs, eva, bind_ok, of_some, toS_ok, quiet_ok, get_0, get_s, List.set_cons_zero, List.set_cons_succ, LINE, List.length_cons, List.length_nil, Nat.reduceAdd, Nat.reduceLeDiff, decide_true, List.append_nil, List.map_nil, List.cons_append, List.nil_append, f1D, hp, ne_int, hk3]
        rw [t1, seq_nx, exs_cons, t2, seq_nx, exs_cons, er, seq_ret]
        simp

theorem lformedG {B : List (Str × Str)} (hB : Book B) {n m : Nat} {d : D} (x : GF n m d) : ∀ (N : Nat) (st : Store), n + 4 ≤ N → IP.run P N i__law_is_formed [.val (.tuple (B.map rowD)), .val d] st = .ok (.bool (fmB B n d)) st := by
  obtain ⟨k1, k2, k3, k4, k5, k6, k7, k8⟩ := fk_all
  obtain ⟨x1, x2, _, _⟩ := x_facts
  obtain ⟨f1, g1, g2, g3, g4, g5, g6, g7, g8, g9, g10⟩ := l_facts
  induction x with
  | @non n m =>
    intro N st hn
    obtain ⟨N, rfl⟩ : ∃ g, N = g + 1 := ⟨N - 1, by omega⟩
    have e : fmB B n .none = false := by cases n <;> rfl
    rw [IP.run_succ (d := ⟨3, 2, b__law_is_formed, false⟩) rfl, e]
    show endS st.length (exs (IP.run P N) b__law_is_formed [.val (.tuple (B.map rowD)), .val .none, .un] st) = _
    simp only [b__law_is_formed, s__law_is_formed_0, exs_cons, exs_nil, ex_ife, seq_nx, seq_ret, endS_ret, endS_nx, ift_t, ift_f, ift_or, ift_and, ifs_t, ev_ife, and_1, and_2, or_1, or_2, evc_0, evc_1, idx_list', idx_tup', at_0, at_1, at_2, at_3, ix_2_0, ix_2_1, tr_bool, eq_str, eq_int, lt_int', le_int', gt_int', add_int', sub_int', ex, ev, evs, eva, bind_ok, of_some, toS_ok, quiet_ok, get_0, get_s, List.set_cons_zero, List.set_cons_succ, LINE, List.length_cons, List.length_nil, Nat.reduceAdd, Nat.reduceLeDiff, decide_true, List.append_nil, List.map_nil, List.cons_append, List.nil_append, isiD, Bool.not_false]
    simp
  | @int n m i =>
    intro N st hn
    obtain ⟨N, rfl⟩ : ∃ g, N = g + 1 := ⟨N - 1, by omega⟩
    have e : fmB B n (.int i) = false := by cases n <;> rfl
    rw [IP.run_succ (d := ⟨3, 2, b__law_is_formed, false⟩) rfl, e]
    show endS st.length (exs (IP.run P N) b__law_is_formed [.val (.tuple (B.map rowD)), .val (.int i), .un] st) = _
    simp only [b__law_is_formed, s__law_is_formed_0, exs_cons, exs_nil, ex_ife, seq_nx, seq_ret, endS_ret, endS_nx, ift_t, ift_f, ift_or, ift_and, ifs_t, ev_ife, and_1, and_2, or_1, or_2, evc_0, evc_1, idx_list', idx_tup', at_0, at_1, at_2, at_3, ix_2_0, ix_2_1, tr_bool, eq_str, eq_int, lt_int', le_int', gt_int', add_int', sub_int', ex, ev, evs, eva, bind_ok, of_some, toS_ok, quiet_ok, get_0, get_s, List.set_cons_zero, List.set_cons_succ, LINE, List.length_cons, List.length_nil, Nat.reduceAdd, Nat.reduceLeDiff, decide_true, List.append_nil, List.map_nil, List.cons_append, List.nil_append, isiD, Bool.not_false]
    simp
  | @lst n m xs hx hy =>
    intro N st hn
    obtain ⟨N, rfl⟩ : ∃ g, N = g + 1 := ⟨N - 1, by omega⟩
    have e : fmB B n (.list xs) = false := by cases n <;> rfl
    rw [IP.run_succ (d := ⟨3, 2, b__law_is_formed, false⟩) rfl, e]
    show endS st.length (exs (IP.run P N) b__law_is_formed [.val (.tuple (B.map rowD)), .val (.list xs), .un] st) = _
    simp only [b__law_is_formed, s__law_is_formed_0, exs_cons, exs_nil, ex_ife, seq_nx, seq_ret, endS_ret, endS_nx, ift_t, ift_f, ift_or, ift_and, ifs_t, ev_ife, and_1, and_2, or_1, or_2, evc_0, evc_1, idx_list', idx_tup', at_0, at_1, at_2, at_3, ix_2_0, ix_2_1, tr_bool, eq_str, eq_int, lt_int', le_int', gt_int', add_int', sub_int', ex, ev, evs, eva, bind_ok, of_some, toS_ok, quiet_ok, get_0, get_s, List.set_cons_zero, List.set_cons_succ, LINE, List.length_cons, List.length_nil, Nat.reduceAdd, Nat.reduceLeDiff, decide_true, List.append_nil, List.map_nil, List.cons_append, List.nil_append, isiD, Bool.not_false]
    simp
  | @nil n m =>
    intro N st hn
    obtain ⟨N, rfl⟩ : ∃ g, N = g + 1 := ⟨N - 1, by omega⟩
    have e : fmB B n (.tuple []) = false := by cases n <;> rfl
    have en := eq_nilT (xs := []) rfl
    rw [IP.run_succ (d := ⟨3, 2, b__law_is_formed, false⟩) rfl, e]
    show endS st.length (exs (IP.run P N) b__law_is_formed [.val (.tuple (B.map rowD)), .val (.tuple []), .un] st) = _
    simp only [b__law_is_formed, s__law_is_formed_0, exs_cons, exs_nil, ex_ife, seq_nx, seq_ret, endS_ret, endS_nx, ift_t, ift_f, ift_or, ift_and, ifs_t, ev_ife, and_1, and_2, or_1, or_2, evc_0, evc_1, idx_list', idx_tup', at_0, at_1, at_2, at_3, ix_2_0, ix_2_1, tr_bool, eq_str, eq_int, lt_int', le_int', gt_int', add_int', sub_int', ex, ev, evs, eva, bind_ok, of_some, toS_ok, quiet_ok, get_0, get_s, List.set_cons_zero, List.set_cons_succ, LINE, List.length_cons, List.length_nil, Nat.reduceAdd, Nat.reduceLeDiff, decide_true, List.append_nil, List.map_nil, List.cons_append, List.nil_append, isi_tup, Bool.not_true, en, List.isEmpty_nil]
    simp
  | @fact n m rest hr hm =>
    intro N st hn
    obtain ⟨N, rfl⟩ : ∃ g, N = g + 4 := ⟨N - 4, by omega⟩
    have e : fmB B (n + 1) (.tuple (.str "fact" :: rest)) = factB B rest := by
      show fmS B (fmB B n) (fk "fact") rest = _
      rw [k1]
      rfl
    rw [IP.run_succ (d := ⟨3, 2, b__law_is_formed, false⟩) rfl, e]
    show endS st.length (exs (IP.run P (N + 3)) b__law_is_formed [.val (.tuple (B.map rowD)), .val (.tuple (.str "fact" :: rest)), .un] st) = _
    rw [b__law_is_formed, exs_cons, lf_0 _ _ _ _ hr.nd, seq_nx, exs_cons, lfact N st hB hr, seq_ret, endS_ret, List.take_length]
  | @nt n m rest hp hl ih =>
    intro N st hn
    obtain ⟨N, rfl⟩ : ∃ g, N = g + 1 := ⟨N - 1, by omega⟩
    have ef : fmB B (n + 1) (.tuple (.str "not" :: rest)) = fmS B (fmB B n) 1 rest := by
      show fmS B (fmB B n) (fk "not") rest = _
      rw [k2]
    have nd : noDicts rest = true := noDicts_of fun t m => (hp t m).nd
    rw [IP.run_succ (d := ⟨3, 2, b__law_is_formed, false⟩) rfl, ef]
    show endS st.length (exs (IP.run P N) b__law_is_formed [.val (.tuple (B.map rowD)), .val (.tuple (.str "not" :: rest)), .un] st) = _
    rw [b__law_is_formed, exs_cons, lf_0 _ _ _ _ nd, seq_nx]
    by_cases h1 : rest.length = 1
    · obtain ⟨a, rfl⟩ := len1 h1
      have hd2 : decide (((2 : Nat) : Int) = 2) = true := by decide
      have i1 := ih a (by simp) N st (by omega)
      simp only [s__law_is_formed_1, s__law_is_formed_2, exs_cons, exs_nil, ex_ife, seq_nx, seq_ret, endS_ret, endS_nx, ift_t, ift_f, ift_or, ift_and, ifs_t, ev_ife, and_1, and_2, or_1, or_2, evc_0, evc_1, idx_list', idx_tup', at_0, at_1, at_2, at_3, ix_2_0, ix_2_1, tr_bool, eq_str, eq_int, lt_int', le_int', gt_int', add_int', sub_int', ex, ev, evs, eva, bind_ok, of_some, toS_ok, quiet_ok, get_0, get_s, List.set_cons_zero, List.set_cons_succ, LINE, List.length_cons, List.length_nil, Nat.reduceAdd, Nat.reduceLeDiff, decide_true, List.append_nil, List.map_nil, List.cons_append, List.nil_append, q_not_fact, q_not_not, f1D, hd2, i1]
      simp [fmS]
    · have hd2 : decide (((rest.length + 1 : Nat) : Int) = 2) = false := by
        rw [decide_eq_false_iff_not]
        omega
      rw [fmS_1 h1]
      simp only [s__law_is_formed_1, s__law_is_formed_2, exs_cons, exs_nil, ex_ife, seq_nx, seq_ret, endS_ret, endS_nx, ift_t, ift_f, ift_or, ift_and, ifs_t, ev_ife, and_1, and_2, or_1, or_2, evc_0, evc_1, idx_list', idx_tup', at_0, at_1, at_2, at_3, ix_2_0, ix_2_1, tr_bool, eq_str, eq_int, lt_int', le_int', gt_int', add_int', sub_int', ex, ev, evs, eva, bind_ok, of_some, toS_ok, quiet_ok, get_0, get_s, List.set_cons_zero, List.set_cons_succ, LINE, List.length_cons, List.length_nil, Nat.reduceAdd, Nat.reduceLeDiff, decide_true, List.append_nil, List.map_nil, List.cons_append, List.nil_append, q_not_fact, q_not_not, f1D, hd2]
      simp
  | @two n m m2 q rest hq hp hl hm ih =>
    intro N st hn
    obtain ⟨N, rfl⟩ : ∃ g, N = g + 1 := ⟨N - 1, by omega⟩
    obtain ⟨q1, q2, q3, q4, q5⟩ : fk q = 2 ∧ sEq q "fact" = false ∧ sEq q "not" = false ∧ op2 .isin (.str q) (.tuple [.str "all", .str "some"]) = some (.bool false) ∧ op2 .isin (.str q) (.tuple [.str "and", .str "or", .str "if"]) = some (.bool true) := by
      simp only [List.mem_cons, List.not_mem_nil, or_false] at hq
      rcases hq with rfl | rfl | rfl
      · exact ⟨k3, q_and_fact, q_and_not, g1, g7⟩
      · exact ⟨k4, q_or_fact, q_or_not, g2, g8⟩
      · exact ⟨k5, q_if_fact, q_if_not, g3, g9⟩
    have ef : fmB B (n + 1) (.tuple (.str q :: rest)) = fmS B (fmB B n) 2 rest := by
      show fmS B (fmB B n) (fk q) rest = _
      rw [q1]
    have nd : noDicts rest = true := noDicts_of fun t m => (hp t m).nd
    rw [IP.run_succ (d := ⟨3, 2, b__law_is_formed, false⟩) rfl, ef]
    show endS st.length (exs (IP.run P N) b__law_is_formed [.val (.tuple (B.map rowD)), .val (.tuple (.str q :: rest)), .un] st) = _
    rw [b__law_is_formed, exs_cons, lf_0 _ _ _ _ nd, seq_nx]
    by_cases h1 : rest.length = 2
    · obtain ⟨a, b, rfl⟩ := len2 h1
      have hd2 : (!decide (((3 : Nat) : Int) = 3)) = false := by decide
      have i1 := ih a (by simp) N st (by omega)
      have i2 := ih b (by simp) N st (by omega)
      have ef2 : fmS B (fmB B n) 2 [a, b] = (fmB B n a && fmB B n b) := rfl
      rw [ef2]
      cases ha : fmB B n a with
      | true =>
        rw [ha] at i1
        simp only [s__law_is_formed_1, s__law_is_formed_2, s__law_is_formed_3, s__law_is_formed_4, s__law_is_formed_5, exs_cons, exs_nil, ex_ife, seq_nx, seq_ret, endS_ret, endS_nx, ift_t, ift_f, ift_or, ift_and, ifs_t, ev_ife, and_1, and_2, or_1, or_2, evc_0, evc_1, idx_list', idx_tup', at_0, at_1, at_2, at_3, ix_2_0, ix_2_1, tr_bool, eq_str, eq_int, lt_int', le_int', gt_int', add_int', sub_int', ex, ev, evs, eva, bind_ok, of_some, toS_ok, quiet_ok, get_0, get_s, List.set_cons_zero, List.set_cons_succ, LINE, List.length_cons, List.length_nil, Nat.reduceAdd, Nat.reduceLeDiff, decide_true, List.append_nil, List.map_nil, List.cons_append, List.nil_append, q2, q3, q4, q5, f1D, ne_int, hd2, i1, i2]
        simp
      | false =>
        rw [ha] at i1
        simp only [s__law_is_formed_1, s__law_is_formed_2, s__law_is_formed_3, s__law_is_formed_4, s__law_is_formed_5, exs_cons, exs_nil, ex_ife, seq_nx, seq_ret, endS_ret, endS_nx, ift_t, ift_f, ift_or, ift_and, ifs_t, ev_ife, and_1, and_2, or_1, or_2, evc_0, evc_1, idx_list', idx_tup', at_0, at_1, at_2, at_3, ix_2_0, ix_2_1, tr_bool, eq_str, eq_int, lt_int', le_int', gt_int', add_int', sub_int', ex, ev, evs, eva, bind_ok, of_some, toS_ok, quiet_ok, get_0, get_s, List.set_cons_zero, List.set_cons_succ, LINE, List.length_cons, List.length_nil, Nat.reduceAdd, Nat.reduceLeDiff, decide_true, List.append_nil, List.map_nil, List.cons_append, List.nil_append, q2, q3, q4, q5, f1D, ne_int, hd2, i1]
        simp
    · have hd2 : (!decide (((rest.length + 1 : Nat) : Int) = 3)) = true := by
        rw [Bool.not_eq_true', decide_eq_false_iff_not]
        omega
      rw [fmS_2 h1]
      simp only [s__law_is_formed_1, s__law_is_formed_2, s__law_is_formed_3, exs_cons, exs_nil, ex_ife, seq_nx, seq_ret, endS_ret, endS_nx, ift_t, ift_f, ift_or, ift_and, ifs_t, ev_ife, and_1, and_2, or_1, or_2, evc_0, evc_1, idx_list', idx_tup', at_0, at_1, at_2, at_3, ix_2_0, ix_2_1, tr_bool, eq_str, eq_int, lt_int', le_int', gt_int', add_int', sub_int', ex, ev, evs, eva, bind_ok, of_some, toS_ok, quiet_ok, get_0, get_s, List.set_cons_zero, List.set_cons_succ, LINE, List.length_cons, List.length_nil, Nat.reduceAdd, Nat.reduceLeDiff, decide_true, List.append_nil, List.map_nil, List.cons_append, List.nil_append, q2, q3, f1D, ne_int, hd2]
      simp
  | @any n m q rest hq hp hl ih =>
    intro N st hn
    obtain ⟨N, rfl⟩ : ∃ g, N = g + 2 := ⟨N - 2, by omega⟩
    obtain ⟨q1, q2, q3, q4⟩ : fk q = 3 ∧ sEq q "fact" = false ∧ sEq q "not" = false ∧ op2 .isin (.str q) (.tuple [.str "all", .str "some"]) = some (.bool true) := by
      simp only [List.mem_cons, List.not_mem_nil, or_false] at hq
      rcases hq with rfl | rfl
      · exact ⟨k6, q_all_fact, q_all_not, g5⟩
      · exact ⟨k7, q_some_fact, q_some_not, g6⟩
    have ef : fmB B (n + 1) (.tuple (.str q :: rest)) = fmS B (fmB B n) 3 rest := by
      show fmS B (fmB B n) (fk q) rest = _
      rw [q1]
    have nd : noDicts rest = true := noDicts_of fun t m => (hp t m).nd
    rw [IP.run_succ (d := ⟨3, 2, b__law_is_formed, false⟩) rfl, ef]
    show endS st.length (exs (IP.run P (N + 1)) b__law_is_formed [.val (.tuple (B.map rowD)), .val (.tuple (.str q :: rest)), .un] st) = _
    rw [b__law_is_formed, exs_cons, lf_0 _ _ _ _ nd, seq_nx]
    by_cases h1 : rest.length = 2
    · obtain ⟨a, b, rfl⟩ := len2 h1
      have hd2 : (!decide (((3 : Nat) : Int) = 3)) = false := by decide
      have i2 := ih b (by simp) (N + 1) st (by omega)
      have ef2 : fmS B (fmB B n) 3 [a, b] = (in99 a && fmB B n b) := rfl
      have hw := w_whole N st a
      rw [ef2]
      have hnot : ∀ r : Bool, wholeD a = false → in99 a = false := fun _ h => by
        cases a <;> first | rfl | cases h
      cases hwd : wholeD a with
      | false =>
        rw [hwd] at hw
        rw [hnot true hwd]
        simp only [s__law_is_formed_1, s__law_is_formed_2, s__law_is_formed_3, s__law_is_formed_4, exs_cons, exs_nil, ex_ife, seq_nx, seq_ret, endS_ret, endS_nx, ift_t, ift_f, ift_or, ift_and, ifs_t, ev_ife, and_1, and_2, or_1, or_2, evc_0, evc_1, idx_list', idx_tup', at_0, at_1, at_2, at_3, ix_2_0, ix_2_1, tr_bool, eq_str, eq_int, lt_int', le_int', gt_int', add_int', sub_int', ex, ev, evs, eva, bind_ok, of_some, toS_ok, quiet_ok, get_0, get_s, List.set_cons_zero, List.set_cons_succ, LINE, List.length_cons, List.length_nil, Nat.reduceAdd, Nat.reduceLeDiff, decide_true, List.append_nil, List.map_nil, List.cons_append, List.nil_append, q2, q3, q4, f1D, ne_int, hd2, hw]
        simp
      | true =>
        rw [hwd] at hw
        obtain ⟨i, rfl⟩ : ∃ i, a = .int i := by
          cases a <;> first | exact ⟨_, rfl⟩ | cases hwd
        have hv : ev (IP.run P (N + 1)) (.idx (.v 1) (.c (.int 1))) [.val (.tuple (B.map rowD)), .val (.tuple [.str q, .int i, b]), .un] st = .ok (.int i) st := by simp only [exs_cons, exs_nil, ex_ife, seq_nx, seq_ret, endS_ret, endS_nx, ift_t, ift_f, ift_or, ift_and, ifs_t, ev_ife, and_1, and_2, or_1, or_2, evc_0, evc_1, idx_list', idx_tup', at_0, at_1, at_2, at_3, ix_2_0, ix_2_1, tr_bool, eq_str, eq_int, lt_int', le_int', gt_int', add_int', sub_int', ex, ev, evs, eva, bind_ok, of_some, toS_ok, quiet_ok, get_0, get_s, List.set_cons_zero, List.set_cons_succ, LINE, List.length_cons, List.length_nil, Nat.reduceAdd, Nat.reduceLeDiff, decide_true, List.append_nil, List.map_nil, List.cons_append, List.nil_append]
        have hc := chain_99 hv
        have r1 : ex (IP.run P (N + 1)) s__law_is_formed_1 [.val (.tuple (B.map rowD)), .val (.tuple [.str q, .int i, b]), .un] st = .nx [.val (.tuple (B.map rowD)), .val (.tuple [.str q, .int i, b]), .un] st := by
          simp only [s__law_is_formed_1, exs_cons, exs_nil, ex_ife, seq_nx, seq_ret, endS_ret, endS_nx, ift_t, ift_f, ift_or, ift_and, ifs_t, ev_ife, and_1, and_2, or_1, or_2, evc_0, evc_1, idx_list', idx_tup', at_0, at_1, at_2, at_3, ix_2_0, ix_2_1, tr_bool, eq_str, eq_int, lt_int', le_int', gt_int', add_int', sub_int', ex, ev, evs, eva, bind_ok, of_some, toS_ok, quiet_ok, get_0, get_s, List.set_cons_zero, List.set_cons_succ, LINE, List.length_cons, List.length_nil, Nat.reduceAdd, Nat.reduceLeDiff, decide_true, List.append_nil, List.map_nil, List.cons_append, List.nil_append, q2]
        have r2 : ex (IP.run P (N + 1)) s__law_is_formed_2 [.val (.tuple (B.map rowD)), .val (.tuple [.str q, .int i, b]), .un] st = .nx [.val (.tuple (B.map rowD)), .val (.tuple [.str q, .int i, b]), .un] st := by
          simp only [s__law_is_formed_2, exs_cons, exs_nil, ex_ife, seq_nx, seq_ret, endS_ret, endS_nx, ift_t, ift_f, ift_or, ift_and, ifs_t, ev_ife, and_1, and_2, or_1, or_2, evc_0, evc_1, idx_list', idx_tup', at_0, at_1, at_2, at_3, ix_2_0, ix_2_1, tr_bool, eq_str, eq_int, lt_int', le_int', gt_int', add_int', sub_int', ex, ev, evs, eva, bind_ok, of_some, toS_ok, quiet_ok, get_0, get_s, List.set_cons_zero, List.set_cons_succ, LINE, List.length_cons, List.length_nil, Nat.reduceAdd, Nat.reduceLeDiff, decide_true, List.append_nil, List.map_nil, List.cons_append, List.nil_append, q3]
        have r3 : ex (IP.run P (N + 1)) s__law_is_formed_3 [.val (.tuple (B.map rowD)), .val (.tuple [.str q, .int i, b]), .un] st = .nx [.val (.tuple (B.map rowD)), .val (.tuple [.str q, .int i, b]), .un] st := by
          simp only [s__law_is_formed_3, exs_cons, exs_nil, ex_ife, seq_nx, seq_ret, endS_ret, endS_nx, ift_t, ift_f, ift_or, ift_and, ifs_t, ev_ife, and_1, and_2, or_1, or_2, evc_0, evc_1, idx_list', idx_tup', at_0, at_1, at_2, at_3, ix_2_0, ix_2_1, tr_bool, eq_str, eq_int, lt_int', le_int', gt_int', add_int', sub_int', ex, ev, evs, eva, bind_ok, of_some, toS_ok, quiet_ok, get_0, get_s, List.set_cons_zero, List.set_cons_succ, LINE, List.length_cons, List.length_nil, Nat.reduceAdd, Nat.reduceLeDiff, decide_true, List.append_nil, List.map_nil, List.cons_append, List.nil_append, f1D, ne_int, hd2]
        have t1 : ev (IP.run P (N + 1)) (.bin .isin (.idx (.v 1) (.c (.int 0))) (.tup (.cons (.c (.str "all")) (.cons (.c (.str "some")) .nil)))) [.val (.tuple (B.map rowD)), .val (.tuple [.str q, .int i, b]), .un] st = .ok (.bool true) st := by
          simp only [exs_cons, exs_nil, ex_ife, seq_nx, seq_ret, endS_ret, endS_nx, ift_t, ift_f, ift_or, ift_and, ifs_t, ev_ife, and_1, and_2, or_1, or_2, evc_0, evc_1, idx_list', idx_tup', at_0, at_1, at_2, at_3, ix_2_0, ix_2_1, tr_bool, eq_str, eq_int, lt_int', le_int', gt_int', add_int', sub_int', ex, ev, evs, eva, bind_ok, of_some, toS_ok, quiet_ok, get_0, get_s, List.set_cons_zero, List.set_cons_succ, LINE, List.length_cons, List.length_nil, Nat.reduceAdd, Nat.reduceLeDiff, decide_true, List.append_nil, List.map_nil, List.cons_append, List.nil_append, q4]
        have t2 : ev (IP.run P (N + 1)) (.call i__law_whole (.e (.idx (.v 1) (.c (.int 1))) .nil) []) [.val (.tuple (B.map rowD)), .val (.tuple [.str q, .int i, b]), .un] st = .ok (.bool true) st := by
          simp only [exs_cons, exs_nil, ex_ife, seq_nx, seq_ret, endS_ret, endS_nx, ift_t, ift_f, ift_or, ift_and, ifs_t, ev_ife, and_1, and_2, or_1, or_2, evc_0, evc_1, idx_list', idx_tup', at_0, at_1, at_2, at_3, ix_2_0, ix_2_1, tr_bool, eq_str, eq_int, lt_int', le_int', gt_int', add_int', sub_int', ex, ev, evs, eva, bind_ok, of_some, toS_ok, quiet_ok, get_0, get_s, List.set_cons_zero, List.set_cons_succ, LINE, List.length_cons, List.length_nil, Nat.reduceAdd, Nat.reduceLeDiff, decide_true, List.append_nil, List.map_nil, List.cons_append, List.nil_append, hw]
        have t3 : ev (IP.run P (N + 1)) (.call i__law_is_formed (.e (.v 0) (.e (.idx (.v 1) (.c (.int 2))) .nil)) []) [.val (.tuple (B.map rowD)), .val (.tuple [.str q, .int i, b]), .un] st = .ok (.bool (fmB B n b)) st := by
          simp only [exs_cons, exs_nil, ex_ife, seq_nx, seq_ret, endS_ret, endS_nx, ift_t, ift_f, ift_or, ift_and, ifs_t, ev_ife, and_1, and_2, or_1, or_2, evc_0, evc_1, idx_list', idx_tup', at_0, at_1, at_2, at_3, ix_2_0, ix_2_1, tr_bool, eq_str, eq_int, lt_int', le_int', gt_int', add_int', sub_int', ex, ev, evs, eva, bind_ok, of_some, toS_ok, quiet_ok, get_0, get_s, List.set_cons_zero, List.set_cons_succ, LINE, List.length_cons, List.length_nil, Nat.reduceAdd, Nat.reduceLeDiff, decide_true, List.append_nil, List.map_nil, List.cons_append, List.nil_append, i2]
        have r4 : ex (IP.run P (N + 1)) s__law_is_formed_4 [.val (.tuple (B.map rowD)), .val (.tuple [.str q, .int i, b]), .un] st = .ret (.bool (i99 i && fmB B n b)) st := by
          rw [s__law_is_formed_4, ex_ife, t1, toS_ok, tr_bool, ift_t, exs_cons, ex, ev, and_2, t2, bind_ok, tr_bool, ift_t, and_2, hc, bind_ok, tr_bool]
          cases i99 i with
          | true => rw [ift_t, and_1, t3, toS_ok, seq_ret, Bool.true_and]
          | false => rw [ift_f, toS_ok, seq_ret, Bool.false_and]
        simp only [exs_cons, r1, r2, r3, r4, seq_nx, seq_ret, endS_ret]
        simp [in99]
    · have hd2 : (!decide (((rest.length + 1 : Nat) : Int) = 3)) = true := by
        rw [Bool.not_eq_true', decide_eq_false_iff_not]
        omega
      rw [fmS_3 h1]
      simp only [s__law_is_formed_1, s__law_is_formed_2, s__law_is_formed_3, exs_cons, exs_nil, ex_ife, seq_nx, seq_ret, endS_ret, endS_nx, ift_t, ift_f, ift_or, ift_and, ifs_t, ev_ife, and_1, and_2, or_1, or_2, evc_0, evc_1, idx_list', idx_tup', at_0, at_1, at_2, at_3, ix_2_0, ix_2_1, tr_bool, eq_str, eq_int, lt_int', le_int', gt_int', add_int', sub_int', ex, ev, evs, eva, bind_ok, of_some, toS_ok, quiet_ok, get_0, get_s, List.set_cons_zero, List.set_cons_succ, LINE, List.length_cons, List.length_nil, Nat.reduceAdd, Nat.reduceLeDiff, decide_true, List.append_nil, List.map_nil, List.cons_append, List.nil_append, q2, q3, f1D, ne_int, hd2]
      simp
  | @xor n m rest hp hl ih =>
    intro N st hn
    obtain ⟨N, rfl⟩ : ∃ g, N = g + 1 := ⟨N - 1, by omega⟩
    have ef : fmB B (n + 1) (.tuple (.str "xor" :: rest)) = false := by
      show fmS B (fmB B n) (fk "xor") rest = _
      rw [k8]
      rfl
    have nd : noDicts rest = true := noDicts_of fun t m => (hp t m).nd
    rw [IP.run_succ (d := ⟨3, 2, b__law_is_formed, false⟩) rfl, ef]
    show endS st.length (exs (IP.run P N) b__law_is_formed [.val (.tuple (B.map rowD)), .val (.tuple (.str "xor" :: rest)), .un] st) = _
    rw [b__law_is_formed, exs_cons, lf_0 _ _ _ _ nd, seq_nx]
    cases h1 : (!decide (((rest.length + 1 : Nat) : Int) = 3)) with
    | true =>
      simp only [s__law_is_formed_1, s__law_is_formed_2, s__law_is_formed_3, exs_cons, exs_nil, ex_ife, seq_nx, seq_ret, endS_ret, endS_nx, ift_t, ift_f, ift_or, ift_and, ifs_t, ev_ife, and_1, and_2, or_1, or_2, evc_0, evc_1, idx_list', idx_tup', at_0, at_1, at_2, at_3, ix_2_0, ix_2_1, tr_bool, eq_str, eq_int, lt_int', le_int', gt_int', add_int', sub_int', ex, ev, evs, eva, bind_ok, of_some, toS_ok, quiet_ok, get_0, get_s, List.set_cons_zero, List.set_cons_succ, LINE, List.length_cons, List.length_nil, Nat.reduceAdd, Nat.reduceLeDiff, decide_true, List.append_nil, List.map_nil, List.cons_append, List.nil_append, x1, x2, f1D, ne_int, h1]
      simp
    | false =>
      simp only [s__law_is_formed_1, s__law_is_formed_2, s__law_is_formed_3, s__law_is_formed_4, s__law_is_formed_5, exs_cons, exs_nil, ex_ife, seq_nx, seq_ret, endS_ret, endS_nx, ift_t, ift_f, ift_or, ift_and, ifs_t, ev_ife, and_1, and_2, or_1, or_2, evc_0, evc_1, idx_list', idx_tup', at_0, at_1, at_2, at_3, ix_2_0, ix_2_1, tr_bool, eq_str, eq_int, lt_int', le_int', gt_int', add_int', sub_int', ex, ev, evs, eva, bind_ok, of_some, toS_ok, quiet_ok, get_0, get_s, List.set_cons_zero, List.set_cons_succ, LINE, List.length_cons, List.length_nil, Nat.reduceAdd, Nat.reduceLeDiff, decide_true, List.append_nil, List.map_nil, List.cons_append, List.nil_append, x1, x2, f1D, ne_int, h1, g4, g10]
      simp

/-! ### formulas: what they bring in, what is loose -/
def tsI : List D → List Int
  | [] => []
  | .int i :: r => i :: tsI r
  | _ :: r => tsI r
/-- a formula, the numbers that it brings in, the loose ones, how deep its pairs go -/
inductive VF (B : List (Str × Str)) : Nat → Nat → D → List Int → List Int → Prop
  | fact {n m : Nat} {w : Str} {ts : List D} : (∀ t ∈ ts, GT t) → (∀ t ∈ ts, thB B t = true) → ts.length ≤ 2 → 1 ≤ m → VF B (n + 1) m (.tuple [.str "fact", .str w, .tuple ts]) [] (sInts (tsI ts))
  | nt {n m : Nat} {a : D} {br ls : List Int} : VF B n m a br ls → VF B (n + 1) m (.tuple [.str "not", a]) br ls
  | two {n m m' : Nat} {q : Str} {a b : D} {b1 b2 l1 l2 : List Int} : q ∈ (["and", "or", "if"] : List Str) → VF B n m a b1 l1 → VF B n m b b2 l2 → m + m ≤ m' → VF B (n + 1) m' (.tuple [.str q, a, b]) (b1 ++ b2) (sInts (l1 ++ l2))
  | any {n m : Nat} {q : Str} {i : Int} {b : D} {br ls : List Int} : q ∈ (["all", "some"] : List Str) → VF B n m b br ls → VF B (n + 1) m (.tuple [.str q, .int i, b]) (i :: br) (ls.filter fun k => !decide (k = i))
theorem plN_2 {B : List (Str × Str)} {w : Str} : (plN B w).getD 0 ≤ 2 := by
  unfold plN
  split
  · simp
  · rename_i p _ _
    show (if sEq p.2 "name" then 0 else plc p.2) ≤ 2
    split
    · simp
    · exact (plc_2 _).2
theorem valid {B : List (Str × Str)} {n m : Nat} {d : D} (x : GF n m d) : fmB B n d = true → ∃ br ls, VF B n m d br ls := by
  obtain ⟨k1, k2, k3, k4, k5, k6, k7, k8⟩ := fk_all
  induction x with
  | @non n m => intro h; cases n <;> cases h
  | @int n m i => intro h; cases n <;> cases h
  | @lst n m xs _ _ => intro h; cases n <;> cases h
  | @nil n m => intro h; cases n <;> cases h
  | @fact n m rest hr hm =>
    intro h
    have h : fmS B (fmB B n) (fk "fact") rest = true := h
    rw [k1] at h
    have h : factB B rest = true := h
    cases hr with
    | w1 => cases h
    | more _ _ => cases h
    | @ok w ts a b =>
      have h : (!ts.isEmpty && (decide ((plN B w).getD 0 = ts.length) && ts.all (thB B))) = true := h
      simp only [Bool.and_eq_true, decide_eq_true_eq, List.all_eq_true] at h
      have := plN_2 (B := B) (w := w)
      exact ⟨_, _, .fact a h.2.2 (by omega) hm⟩
  | @nt n m rest hp hl ih =>
    intro h
    have h : fmS B (fmB B n) (fk "not") rest = true := h
    rw [k2] at h
    by_cases h1 : rest.length = 1
    · obtain ⟨a, rfl⟩ := len1 h1
      obtain ⟨br, ls, v⟩ := ih a (by simp) h
      exact ⟨_, _, .nt v⟩
    · rw [fmS_1 h1] at h
      cases h
  | @two n m m2 q rest hq hp hl hm ih =>
    intro h
    have h : fmS B (fmB B n) (fk q) rest = true := h
    have q1 : fk q = 2 := by
      simp only [List.mem_cons, List.not_mem_nil, or_false] at hq
      rcases hq with rfl | rfl | rfl
      · exact k3
      · exact k4
      · exact k5
    rw [q1] at h
    by_cases h1 : rest.length = 2
    · obtain ⟨a, b, rfl⟩ := len2 h1
      have h : (fmB B n a && fmB B n b) = true := h
      rw [Bool.and_eq_true] at h
      obtain ⟨_, _, v1⟩ := ih a (by simp) h.1
      obtain ⟨_, _, v2⟩ := ih b (by simp) h.2
      exact ⟨_, _, .two hq v1 v2 hm⟩
    · rw [fmS_2 h1] at h
      cases h
  | @any n m q rest hq hp hl ih =>
    intro h
    have h : fmS B (fmB B n) (fk q) rest = true := h
    have q1 : fk q = 3 := by
      simp only [List.mem_cons, List.not_mem_nil, or_false] at hq
      rcases hq with rfl | rfl
      · exact k6
      · exact k7
    rw [q1] at h
    by_cases h1 : rest.length = 2
    · obtain ⟨a, b, rfl⟩ := len2 h1
      have h : (in99 a && fmB B n b) = true := h
      rw [Bool.and_eq_true] at h
      obtain ⟨_, _, v2⟩ := ih b (by simp) h.2
      cases a with
      | int i => exact ⟨_, _, .any hq v2⟩
      | none | bool | str | list | tuple | dict => cases h.1
    · rw [fmS_3 h1] at h
      cases h
  | @xor n m rest hp hl ih =>
    intro h
    have h : fmS B (fmB B n) (fk "xor") rest = true := h
    rw [k8] at h
    cases h
theorem VF.tup {B : List (Str × Str)} {n m : Nat} {d : D} {br ls : List Int} (x : VF B n m d br ls) : ∃ ds, d = .tuple ds := by
  cases x <;> exact ⟨_, rfl⟩
theorem VF.len {B : List (Str × Str)} {n m : Nat} {d : D} {br ls : List Int} (x : VF B n m d br ls) : br.length + 1 ≤ 2 ^ n := by
  induction x with
  | @fact n => simp only [List.length_nil, Nat.pow_succ]; have := Nat.one_le_two_pow (n := n); omega
  | @nt n _ _ _ _ _ ih => rw [Nat.pow_succ]; omega
  | @two n _ _ _ _ _ _ _ _ _ _ _ _ _ i1 i2 => rw [List.length_append, Nat.pow_succ]; omega
  | @any n _ _ _ _ _ _ _ _ ih => rw [List.length_cons, Nat.pow_succ]; have := Nat.one_le_two_pow (n := n); omega
theorem two_pow_le {n : Nat} (h : n ≤ 20) : 2 ^ n ≤ 1048576 := Nat.pow_le_pow_right (by decide) h
theorem broughtG {B : List (Str × Str)} {n m : Nat} {d : D} {br ls : List Int} (x : VF B n m d br ls) : ∀ (N : Nat) (st : Store), n ≤ N → n ≤ 20 → IP.run P N i_brought [.val d] st = .ok (.list (br.map PyData.int)) st := by
  induction x with
  | @fact n m w ts a b c hm =>
    intro N st hn h20
    obtain ⟨N, rfl⟩ : ∃ g, N = g + 1 := ⟨N - 1, by omega⟩
    rw [IP.run_succ (d := ⟨1, 1, b_brought, false⟩) rfl]
    show endS st.length (exs (IP.run P N) b_brought [.val (.tuple [.str "fact", .str w, .tuple ts])] st) = _
    simp only [b_brought, s_brought_0, exs_cons, exs_nil, ex_ife, seq_nx, seq_ret, endS_ret, endS_nx, ift_t, ift_f, ift_or, ift_and, ifs_t, ev_ife, and_1, and_2, or_1, or_2, evc_0, evc_1, idx_list', idx_tup', at_0, at_1, at_2, at_3, ix_2_0, ix_2_1, tr_bool, eq_str, eq_int, lt_int', le_int', gt_int', add_int', sub_int', ex, ev, evs, eva, bind_ok, of_some, toS_ok, quiet_ok, get_0, get_s, List.set_cons_zero, List.set_cons_succ, LINE, List.length_cons, List.length_nil, Nat.reduceAdd, Nat.reduceLeDiff, decide_true, List.append_nil, List.map_nil, List.cons_append, List.nil_append, q_fact_fact]
    simp
  | @nt n m a br ls v ih =>
    intro N st hn h20
    obtain ⟨N, rfl⟩ : ∃ g, N = g + 1 := ⟨N - 1, by omega⟩
    have i1 := ih N st (by omega) (by omega)
    rw [IP.run_succ (d := ⟨1, 1, b_brought, false⟩) rfl]
    show endS st.length (exs (IP.run P N) b_brought [.val (.tuple [.str "not", a])] st) = _
    simp only [b_brought, s_brought_0, s_brought_1, exs_cons, exs_nil, ex_ife, seq_nx, seq_ret, endS_ret, endS_nx, ift_t, ift_f, ift_or, ift_and, ifs_t, ev_ife, and_1, and_2, or_1, or_2, evc_0, evc_1, idx_list', idx_tup', at_0, at_1, at_2, at_3, ix_2_0, ix_2_1, tr_bool, eq_str, eq_int, lt_int', le_int', gt_int', add_int', sub_int', ex, ev, evs, eva, bind_ok, of_some, toS_ok, quiet_ok, get_0, get_s, List.set_cons_zero, List.set_cons_succ, LINE, List.length_cons, List.length_nil, Nat.reduceAdd, Nat.reduceLeDiff, decide_true, List.append_nil, List.map_nil, List.cons_append, List.nil_append, q_not_fact, q_not_not, i1]
    simp
  | @two n m m2 q a b b1 b2 l1 l2 hq v1 v2 hm ih1 ih2 =>
    intro N st hn h20
    obtain ⟨N, rfl⟩ : ∃ g, N = g + 1 := ⟨N - 1, by omega⟩
    have i1 := ih1 N st (by omega) (by omega)
    have i2 := ih2 N st (by omega) (by omega)
    have e1 := v1.len
    have e2 := v2.len
    have e3 := two_pow_le (n := n) (by omega)
    have ea : op2 .add (.list (b1.map PyData.int)) (.list (b2.map PyData.int)) = some (.list ((b1 ++ b2).map PyData.int)) := by
      rw [add_list, decide_eq_true (by simp only [List.length_map]; show b1.length + b2.length ≤ 16777216; omega), List.map_append]
      rfl
    obtain ⟨q2, q3, q4⟩ : sEq q "fact" = false ∧ sEq q "not" = false ∧ op2 .isin (.str q) g_OF_ANY = some (.bool false) := by
      simp only [List.mem_cons, List.not_mem_nil, or_false] at hq
      rcases hq with rfl | rfl | rfl
      · exact ⟨q_and_fact, q_and_not, v_and⟩
      · exact ⟨q_or_fact, q_or_not, v_or⟩
      · exact ⟨q_if_fact, q_if_not, v_if⟩
    rw [IP.run_succ (d := ⟨1, 1, b_brought, false⟩) rfl]
    show endS st.length (exs (IP.run P N) b_brought [.val (.tuple [.str q, a, b])] st) = _
    simp only [b_brought, s_brought_0, s_brought_1, s_brought_2, s_brought_3, exs_cons, exs_nil, ex_ife, seq_nx, seq_ret, endS_ret, endS_nx, ift_t, ift_f, ift_or, ift_and, ifs_t, ev_ife, and_1, and_2, or_1, or_2, evc_0, evc_1, idx_list', idx_tup', at_0, at_1, at_2, at_3, ix_2_0, ix_2_1, tr_bool, eq_str, eq_int, lt_int', le_int', gt_int', add_int', sub_int', ex, ev, evs, eva, bind_ok, of_some, toS_ok, quiet_ok, get_0, get_s, List.set_cons_zero, List.set_cons_succ, LINE, List.length_cons, List.length_nil, Nat.reduceAdd, Nat.reduceLeDiff, decide_true, List.append_nil, List.map_nil, List.cons_append, List.nil_append, q2, q3, q4, i1, i2, ea]
    simp
  | @any n m q i b br ls hq v ih =>
    intro N st hn h20
    obtain ⟨N, rfl⟩ : ∃ g, N = g + 1 := ⟨N - 1, by omega⟩
    have i2 := ih N st (by omega) (by omega)
    have e2 := v.len
    have e3 := two_pow_le (n := n) (by omega)
    have ea : op2 .add (.list [.int i]) (.list (br.map PyData.int)) = some (.list ((i :: br).map PyData.int)) := by
      rw [add_list, decide_eq_true (by simp only [List.length_map, List.length_cons, List.length_nil]; show 0 + 1 + br.length ≤ 16777216; omega)]
      rfl
    obtain ⟨q2, q3, q4⟩ : sEq q "fact" = false ∧ sEq q "not" = false ∧ op2 .isin (.str q) g_OF_ANY = some (.bool true) := by
      simp only [List.mem_cons, List.not_mem_nil, or_false] at hq
      rcases hq with rfl | rfl
      · exact ⟨q_all_fact, q_all_not, v_all⟩
      · exact ⟨q_some_fact, q_some_not, v_some⟩
    rw [IP.run_succ (d := ⟨1, 1, b_brought, false⟩) rfl]
    show endS st.length (exs (IP.run P N) b_brought [.val (.tuple [.str q, .int i, b])] st) = _
    simp only [b_brought, s_brought_0, s_brought_1, s_brought_2, exs_cons, exs_nil, ex_ife, seq_nx, seq_ret, endS_ret, endS_nx, ift_t, ift_f, ift_or, ift_and, ifs_t, ev_ife, and_1, and_2, or_1, or_2, evc_0, evc_1, idx_list', idx_tup', at_0, at_1, at_2, at_3, ix_2_0, ix_2_1, tr_bool, eq_str, eq_int, lt_int', le_int', gt_int', add_int', sub_int', ex, ev, evs, eva, bind_ok, of_some, toS_ok, quiet_ok, get_0, get_s, List.set_cons_zero, List.set_cons_succ, LINE, List.length_cons, List.length_nil, Nat.reduceAdd, Nat.reduceLeDiff, decide_true, List.append_nil, List.map_nil, List.cons_append, List.nil_append, q2, q3, q4, i2, ea]
    simp

theorem cut1T (x : D) (xs : List D) : slcD (.tuple (x :: xs)) (some 1) none = some (.tuple xs) := by
  show some (PyData.tuple (cutD (x :: xs) (some ((1 : Nat) : Int)) none)) = _
  rw [cut_from (by simp)]
  rfl
theorem loop_2 {C : CallF} {b : IP.SL} {x : D} {xs : List D} {s0 s1 s2 : IP.Slot} {st : Store} {env2 : IP.Env} (e : bindT (.n 2) x [s0, s1, s2] = some [s0, s1, .val x]) (hb : exs C b [s0, s1, .val x] st = .nx env2 st) : loopS (fun e s => exs C b e s) (.n 2) (x :: xs) [s0, s1, s2] st = loopS (fun e s => exs C b e s) (.n 2) xs env2 st := by
  rw [loopS, e]
  show (match exs C b [s0, s1, .val x] st with
    | .nx env2 st2 => loopS (fun e s => exs C b e s) (.n 2) xs env2 st2
    | .ret p st2 => RS.ret p st2
    | .exc x e st2 => .exc x e st2
    | .stuck => .stuck) = _
  rw [hb]
theorem lb_step (C : CallF) (st : Store) {q : Str} {rest : List D} {x : D} {b0 br : List Int} (hx : isiD x .tuple = true) (hq : sEq q "fact" = false) (hc : C i__law_brought [.val x] st = .ok (.list (br.map PyData.int)) st) (hl : b0.length + br.length ≤ 16777216) :
    exs C b__law_brought_0 [.val (.tuple (.str q :: rest)), .val (.list (b0.map PyData.int)), .val x] st = .nx [.val (.tuple (.str q :: rest)), .val (.list ((b0 ++ br).map PyData.int)), .val x] st := by
  have ea : op2 .add (.list (b0.map PyData.int)) (.list (br.map PyData.int)) = some (.list ((b0 ++ br).map PyData.int)) := by
    rw [add_list, decide_eq_true (by simp only [List.length_map]; exact hl), List.map_append]
    rfl
  simp only [b__law_brought_0, exs_cons, exs_nil, ex_ife, seq_nx, seq_ret, endS_ret, endS_nx, ift_t, ift_f, ift_or, ift_and, ifs_t, ev_ife, and_1, and_2, or_1, or_2, evc_0, evc_1, idx_list', idx_tup', at_0, at_1, at_2, at_3, ix_2_0, ix_2_1, tr_bool, eq_str, eq_int, lt_int', le_int', gt_int', add_int', sub_int', ex, ev, evs, eva, bind_ok, of_some, toS_ok, quiet_ok, get_0, get_s, List.set_cons_zero, List.set_cons_succ, LINE, List.length_cons, List.length_nil, Nat.reduceAdd, Nat.reduceLeDiff, decide_true, List.append_nil, List.map_nil, List.cons_append, List.nil_append, hx, ne_str, hq, Bool.not_false, hc, ea]
theorem lb_skip (C : CallF) (st : Store) {q : Str} {rest : List D} {x : D} {f : D} (hx : isiD x .tuple = false) : exs C b__law_brought_0 [.val (.tuple (.str q :: rest)), .val f, .val x] st = .nx [.val (.tuple (.str q :: rest)), .val f, .val x] st := by
  simp only [b__law_brought_0, exs_cons, exs_nil, ex_ife, seq_nx, seq_ret, endS_ret, endS_nx, ift_t, ift_f, ift_or, ift_and, ifs_t, ev_ife, and_1, and_2, or_1, or_2, evc_0, evc_1, idx_list', idx_tup', at_0, at_1, at_2, at_3, ix_2_0, ix_2_1, tr_bool, eq_str, eq_int, lt_int', le_int', gt_int', add_int', sub_int', ex, ev, evs, eva, bind_ok, of_some, toS_ok, quiet_ok, get_0, get_s, List.set_cons_zero, List.set_cons_succ, LINE, List.length_cons, List.length_nil, Nat.reduceAdd, Nat.reduceLeDiff, decide_true, List.append_nil, List.map_nil, List.cons_append, List.nil_append, hx]
theorem lb_fact (C : CallF) (st : Store) {rest : List D} {x : D} {f : D} (hx : isiD x .tuple = true) : exs C b__law_brought_0 [.val (.tuple (.str "fact" :: rest)), .val f, .val x] st = .nx [.val (.tuple (.str "fact" :: rest)), .val f, .val x] st := by
  simp only [b__law_brought_0, exs_cons, exs_nil, ex_ife, seq_nx, seq_ret, endS_ret, endS_nx, ift_t, ift_f, ift_or, ift_and, ifs_t, ev_ife, and_1, and_2, or_1, or_2, evc_0, evc_1, idx_list', idx_tup', at_0, at_1, at_2, at_3, ix_2_0, ix_2_1, tr_bool, eq_str, eq_int, lt_int', le_int', gt_int', add_int', sub_int', ex, ev, evs, eva, bind_ok, of_some, toS_ok, quiet_ok, get_0, get_s, List.set_cons_zero, List.set_cons_succ, LINE, List.length_cons, List.length_nil, Nat.reduceAdd, Nat.reduceLeDiff, decide_true, List.append_nil, List.map_nil, List.cons_append, List.nil_append, hx, ne_str, q_fact_fact, Bool.not_true]
theorem lb_end {C : CallF} {st : Store} {q : Str} {rest : List D} {f0 : D} {b : List Int} (h0 : ex C s__law_brought_0 [.val (.tuple (.str q :: rest)), .un, .un] st = .nx [.val (.tuple (.str q :: rest)), .val f0, .un] st)
    (h1 : ∃ s2, loopS (fun e s => exs C b__law_brought_0 e s) (.n 2) rest [.val (.tuple (.str q :: rest)), .val f0, .un] st = .nx [.val (.tuple (.str q :: rest)), .val (.list (b.map PyData.int)), s2] st) :
    endS st.length (exs C b__law_brought [.val (.tuple (.str q :: rest)), .un, .un] st) = .ok (.list (b.map PyData.int)) st := by
  obtain ⟨s2, h1⟩ := h1
  have ei : evi C (.e (.slc (.v 0) (.yes (.c (.int 1))) .no)) [.val (.tuple (.str q :: rest)), .val f0, .un] st = .ok rest st := by
    rw [evi]
    simp only [exs_cons, exs_nil, ex_ife, seq_nx, seq_ret, endS_ret, endS_nx, ift_t, ift_f, ift_or, ift_and, ifs_t, ev_ife, and_1, and_2, or_1, or_2, evc_0, evc_1, idx_list', idx_tup', at_0, at_1, at_2, at_3, ix_2_0, ix_2_1, tr_bool, eq_str, eq_int, lt_int', le_int', gt_int', add_int', sub_int', ex, ev, evs, eva, bind_ok, of_some, toS_ok, quiet_ok, get_0, get_s, List.set_cons_zero, List.set_cons_succ, LINE, List.length_cons, List.length_nil, Nat.reduceAdd, Nat.reduceLeDiff, decide_true, List.append_nil, List.map_nil, List.cons_append, List.nil_append, evo, cut1T, itemsD]
  have a1 : ex C s__law_brought_1 [.val (.tuple (.str q :: rest)), .val f0, .un] st = .nx [.val (.tuple (.str q :: rest)), .val (.list (b.map PyData.int)), s2] st := by
    rw [s__law_brought_1, ex_for, ei, toS_ok, h1]
  have a2 : ex C s__law_brought_2 [.val (.tuple (.str q :: rest)), .val (.list (b.map PyData.int)), s2] st = .ret (.list (b.map PyData.int)) st := by
    simp only [s__law_brought_2, exs_cons, exs_nil, ex_ife, seq_nx, seq_ret, endS_ret, endS_nx, ift_t, ift_f, ift_or, ift_and, ifs_t, ev_ife, and_1, and_2, or_1, or_2, evc_0, evc_1, idx_list', idx_tup', at_0, at_1, at_2, at_3, ix_2_0, ix_2_1, tr_bool, eq_str, eq_int, lt_int', le_int', gt_int', add_int', sub_int', ex, ev, evs, eva, bind_ok, of_some, toS_ok, quiet_ok, get_0, get_s, List.set_cons_zero, List.set_cons_succ, LINE, List.length_cons, List.length_nil, Nat.reduceAdd, Nat.reduceLeDiff, decide_true, List.append_nil, List.map_nil, List.cons_append, List.nil_append]
  rw [b__law_brought]
  simp only [exs_cons, h0, a1, a2, seq_nx, seq_ret, endS_ret]
  simp
theorem l_isin : op2 .isin (.str "fact") (.tuple [.str "all", .str "some"]) = some (.bool false) ∧ op2 .isin (.str "not") (.tuple [.str "all", .str "some"]) = some (.bool false) := ⟨by kernel_rfl, by kernel_rfl⟩
theorem lbroughtG {B : List (Str × Str)} {n m : Nat} {d : D} {br ls : List Int} (x : VF B n m d br ls) : ∀ (N : Nat) (st : Store), n ≤ N → n ≤ 20 → IP.run P N i__law_brought [.val d] st = .ok (.list (br.map PyData.int)) st := by
  obtain ⟨f1, g1, g2, g3, g4, g5, g6, _⟩ := l_facts
  obtain ⟨m1, m2⟩ := l_isin
  induction x with
  | @fact n m w ts a b c hm =>
    intro N st hn h20
    obtain ⟨N, rfl⟩ : ∃ g, N = g + 1 := ⟨N - 1, by omega⟩
    rw [IP.run_succ (d := ⟨3, 1, b__law_brought, false⟩) rfl]
    show endS st.length (exs (IP.run P N) b__law_brought [.val (.tuple [.str "fact", .str w, .tuple ts]), .un, .un] st) = _
    refine lb_end (b := []) (f0 := .list []) (by simp only [s__law_brought_0, exs_cons, exs_nil, ex_ife, seq_nx, seq_ret, endS_ret, endS_nx, ift_t, ift_f, ift_or, ift_and, ifs_t, ev_ife, and_1, and_2, or_1, or_2, evc_0, evc_1, idx_list', idx_tup', at_0, at_1, at_2, at_3, ix_2_0, ix_2_1, tr_bool, eq_str, eq_int, lt_int', le_int', gt_int', add_int', sub_int', ex, ev, evs, eva, bind_ok, of_some, toS_ok, quiet_ok, get_0, get_s, List.set_cons_zero, List.set_cons_succ, LINE, List.length_cons, List.length_nil, Nat.reduceAdd, Nat.reduceLeDiff, decide_true, List.append_nil, List.map_nil, List.cons_append, List.nil_append, m1]) ⟨.val (.tuple ts), ?_⟩
    refine (loop_2 rfl (lb_skip _ st rfl)).trans ((loop_2 rfl (lb_fact _ st rfl)).trans ?_)
    rw [loopS]
    rfl
  | @nt n m a br ls v ih =>
    intro N st hn h20
    obtain ⟨N, rfl⟩ : ∃ g, N = g + 1 := ⟨N - 1, by omega⟩
    have i1 := ih N st (by omega) (by omega)
    obtain ⟨ds, rfl⟩ := v.tup
    have e1 := v.len
    have e3 := two_pow_le (n := n) (by omega)
    rw [IP.run_succ (d := ⟨3, 1, b__law_brought, false⟩) rfl]
    show endS st.length (exs (IP.run P N) b__law_brought [.val (.tuple [.str "not", .tuple ds]), .un, .un] st) = _
    refine lb_end (f0 := .list []) (by simp only [s__law_brought_0, exs_cons, exs_nil, ex_ife, seq_nx, seq_ret, endS_ret, endS_nx, ift_t, ift_f, ift_or, ift_and, ifs_t, ev_ife, and_1, and_2, or_1, or_2, evc_0, evc_1, idx_list', idx_tup', at_0, at_1, at_2, at_3, ix_2_0, ix_2_1, tr_bool, eq_str, eq_int, lt_int', le_int', gt_int', add_int', sub_int', ex, ev, evs, eva, bind_ok, of_some, toS_ok, quiet_ok, get_0, get_s, List.set_cons_zero, List.set_cons_succ, LINE, List.length_cons, List.length_nil, Nat.reduceAdd, Nat.reduceLeDiff, decide_true, List.append_nil, List.map_nil, List.cons_append, List.nil_append, m2]) ⟨.val (.tuple ds), ?_⟩
    refine (loop_2 rfl (lb_step _ st (b0 := []) rfl q_not_fact i1 (by simp; omega))).trans ?_
    rw [loopS]
    rfl
  | @two n m m2 q a b b1 b2 l1 l2 hq v1 v2 hm ih1 ih2 =>
    intro N st hn h20
    obtain ⟨N, rfl⟩ : ∃ g, N = g + 1 := ⟨N - 1, by omega⟩
    have i1 := ih1 N st (by omega) (by omega)
    have i2 := ih2 N st (by omega) (by omega)
    obtain ⟨ds, rfl⟩ := v1.tup
    obtain ⟨es, rfl⟩ := v2.tup
    have e1 := v1.len
    have e2 := v2.len
    have e3 := two_pow_le (n := n) (by omega)
    obtain ⟨q2, q4⟩ : sEq q "fact" = false ∧ op2 .isin (.str q) (.tuple [.str "all", .str "some"]) = some (.bool false) := by
      simp only [List.mem_cons, List.not_mem_nil, or_false] at hq
      rcases hq with rfl | rfl | rfl
      · exact ⟨q_and_fact, g1⟩
      · exact ⟨q_or_fact, g2⟩
      · exact ⟨q_if_fact, g3⟩
    rw [IP.run_succ (d := ⟨3, 1, b__law_brought, false⟩) rfl]
    show endS st.length (exs (IP.run P N) b__law_brought [.val (.tuple [.str q, .tuple ds, .tuple es]), .un, .un] st) = _
    refine lb_end (f0 := .list []) (by simp only [s__law_brought_0, exs_cons, exs_nil, ex_ife, seq_nx, seq_ret, endS_ret, endS_nx, ift_t, ift_f, ift_or, ift_and, ifs_t, ev_ife, and_1, and_2, or_1, or_2, evc_0, evc_1, idx_list', idx_tup', at_0, at_1, at_2, at_3, ix_2_0, ix_2_1, tr_bool, eq_str, eq_int, lt_int', le_int', gt_int', add_int', sub_int', ex, ev, evs, eva, bind_ok, of_some, toS_ok, quiet_ok, get_0, get_s, List.set_cons_zero, List.set_cons_succ, LINE, List.length_cons, List.length_nil, Nat.reduceAdd, Nat.reduceLeDiff, decide_true, List.append_nil, List.map_nil, List.cons_append, List.nil_append, q4]) ⟨.val (.tuple es), ?_⟩
    refine (loop_2 rfl (lb_step _ st (b0 := []) rfl q2 i1 (by simp; omega))).trans ((loop_2 rfl (lb_step _ st (b0 := b1) rfl q2 i2 (by omega))).trans ?_)
    rw [loopS]
  | @any n m q i b br ls hq v ih =>
    intro N st hn h20
    obtain ⟨N, rfl⟩ : ∃ g, N = g + 1 := ⟨N - 1, by omega⟩
    have i2 := ih N st (by omega) (by omega)
    obtain ⟨es, rfl⟩ := v.tup
    have e2 := v.len
    have e3 := two_pow_le (n := n) (by omega)
    obtain ⟨q2, q4⟩ : sEq q "fact" = false ∧ op2 .isin (.str q) (.tuple [.str "all", .str "some"]) = some (.bool true) := by
      simp only [List.mem_cons, List.not_mem_nil, or_false] at hq
      rcases hq with rfl | rfl
      · exact ⟨q_all_fact, g5⟩
      · exact ⟨q_some_fact, g6⟩
    rw [IP.run_succ (d := ⟨3, 1, b__law_brought, false⟩) rfl]
    show endS st.length (exs (IP.run P N) b__law_brought [.val (.tuple [.str q, .int i, .tuple es]), .un, .un] st) = _
    refine lb_end (f0 := .list [.int i]) (by simp only [s__law_brought_0, exs_cons, exs_nil, ex_ife, seq_nx, seq_ret, endS_ret, endS_nx, ift_t, ift_f, ift_or, ift_and, ifs_t, ev_ife, and_1, and_2, or_1, or_2, evc_0, evc_1, idx_list', idx_tup', at_0, at_1, at_2, at_3, ix_2_0, ix_2_1, tr_bool, eq_str, eq_int, lt_int', le_int', gt_int', add_int', sub_int', ex, ev, evs, eva, bind_ok, of_some, toS_ok, quiet_ok, get_0, get_s, List.set_cons_zero, List.set_cons_succ, LINE, List.length_cons, List.length_nil, Nat.reduceAdd, Nat.reduceLeDiff, decide_true, List.append_nil, List.map_nil, List.cons_append, List.nil_append, q4]) ⟨.val (.tuple es), ?_⟩
    refine (loop_2 rfl (lb_skip _ st rfl)).trans ((loop_2 rfl (lb_step _ st (b0 := [i]) rfl q2 i2 (by simp; omega))).trans ?_)
    rw [loopS]
    rfl

/-! ### is a thing a formula: the program's word and the law's -/
theorem keysD_ints : ∀ zs : List Int, keysD (zs.map PyData.int) = some (zs.map fun z => (.inl z : L2.Key))
  | [] => rfl
  | z :: r => by
    rw [List.map_cons, keysD, keysD_ints r]
    rfl
theorem eq_len (a b : Nat) : op2 .eq (.int a) (.int b) = some (.bool (decide (a = b))) := by
  rw [eq_int]
  by_cases h : a = b
  · simp [h]
  · have : ¬ ((a : Int) = b) := by omega
    simp [h, this]
def onceB (br : List Int) : Bool := decide ((addKeys (br.map fun z => (.inl z : L2.Key)) []).length = br.length)
theorem once_ev (C : CallF) (st : Store) {s0 s1 : IP.Slot} {br : List Int} (hl : br.length < 4000) : ev C (.bin .eq (.lenset (.v 2)) (.f1 .len (.v 2))) [s0, s1, .val (.list (br.map PyData.int))] st = .ok (.bool (onceB br)) st := by
  have e1 : ev C (.lenset (.v 2)) [s0, s1, .val (.list (br.map PyData.int))] st = .ok (.int ((addKeys (br.map fun z => (.inl z : L2.Key)) []).length : Nat)) st := by
    rw [ev]
    simp only [ev, get_0, get_s, bind_ok]
    rw [keysD_ints]
    show IP.R.of (ifs (decide ((br.map fun z => (.inl z : L2.Key)).length < 4000)) (PyData.int (addKeys (br.map fun z => (.inl z : L2.Key)) []).length)) st = _
    rw [decide_eq_true (by simp; omega)]
    rfl
  have e2 : ev C (.f1 .len (.v 2)) [s0, s1, .val (.list (br.map PyData.int))] st = .ok (.int (br.length : Nat)) st := by
    simp only [exs_cons, exs_nil, ex_ife, seq_nx, seq_ret, endS_ret, endS_nx, ift_t, ift_f, ift_or, ift_and, ifs_t, ev_ife, and_1, and_2, or_1, or_2, evc_0, evc_1, idx_list', idx_tup', at_0, at_1, at_2, at_3, ix_2_0, ix_2_1, tr_bool, eq_str, eq_int, lt_int', le_int', gt_int', add_int', sub_int', ex, ev, evs, eva, bind_ok, of_some, toS_ok, quiet_ok, get_0, get_s, List.set_cons_zero, List.set_cons_succ, LINE, List.length_cons, List.length_nil, Nat.reduceAdd, Nat.reduceLeDiff, decide_true, List.append_nil, List.map_nil, List.cons_append, List.nil_append, f1D, List.length_map]
  rw [ev, e1, bind_ok, e2, bind_ok, eq_len, of_some]
  rfl
theorem formula_no (N : Nat) (st : Store) {B : List (Str × Str)} {d : D} (h : IP.run P N i_is_formed [.val (.tuple (B.map rowD)), .val d, .val (.int 300)] st = .ok (.bool false) st) : IP.run P (N + 1) i_is_formula_of [.val (.tuple (B.map rowD)), .val d] st = .ok (.bool false) st := by
  rw [IP.run_succ (d := ⟨3, 2, b_is_formula_of, false⟩) rfl]
  show endS st.length (exs (IP.run P N) b_is_formula_of [.val (.tuple (B.map rowD)), .val d, .un] st) = _
  simp only [b_is_formula_of, s_is_formula_of_0, exs_cons, exs_nil, ex_ife, seq_nx, seq_ret, endS_ret, endS_nx, ift_t, ift_f, ift_or, ift_and, ifs_t, ev_ife, and_1, and_2, or_1, or_2, evc_0, evc_1, idx_list', idx_tup', at_0, at_1, at_2, at_3, ix_2_0, ix_2_1, tr_bool, eq_str, eq_int, lt_int', le_int', gt_int', add_int', sub_int', ex, ev, evs, eva, bind_ok, of_some, toS_ok, quiet_ok, get_0, get_s, List.set_cons_zero, List.set_cons_succ, LINE, List.length_cons, List.length_nil, Nat.reduceAdd, Nat.reduceLeDiff, decide_true, List.append_nil, List.map_nil, List.cons_append, List.nil_append, g_MOST_DEEP, h, Bool.not_false]
  simp
theorem formula_yes (N : Nat) (st : Store) {B : List (Str × Str)} {d : D} {br : List Int} (h : IP.run P N i_is_formed [.val (.tuple (B.map rowD)), .val d, .val (.int 300)] st = .ok (.bool true) st) (hb : IP.run P N i_brought [.val d] st = .ok (.list (br.map PyData.int)) st) (hl : br.length < 4000) :
    IP.run P (N + 1) i_is_formula_of [.val (.tuple (B.map rowD)), .val d] st = .ok (.bool (onceB br)) st := by
  rw [IP.run_succ (d := ⟨3, 2, b_is_formula_of, false⟩) rfl]
  show endS st.length (exs (IP.run P N) b_is_formula_of [.val (.tuple (B.map rowD)), .val d, .un] st) = _
  have a2 : ex (IP.run P N) s_is_formula_of_2 [.val (.tuple (B.map rowD)), .val d, .val (.list (br.map PyData.int))] st = .ret (.bool (onceB br)) st := by
    rw [s_is_formula_of_2, ex, once_ev _ st hl, toS_ok]
  simp only [b_is_formula_of, s_is_formula_of_0, s_is_formula_of_1, exs_cons, exs_nil, ex_ife, seq_nx, seq_ret, endS_ret, endS_nx, ift_t, ift_f, ift_or, ift_and, ifs_t, ev_ife, and_1, and_2, or_1, or_2, evc_0, evc_1, idx_list', idx_tup', at_0, at_1, at_2, at_3, ix_2_0, ix_2_1, tr_bool, eq_str, eq_int, lt_int', le_int', gt_int', add_int', sub_int', ex, ev, evs, eva, bind_ok, of_some, toS_ok, quiet_ok, get_0, get_s, List.set_cons_zero, List.set_cons_succ, LINE, List.length_cons, List.length_nil, Nat.reduceAdd, Nat.reduceLeDiff, decide_true, List.append_nil, List.map_nil, List.cons_append, List.nil_append, g_MOST_DEEP, h, hb, Bool.not_true, a2]
  simp
theorem lformula_no (N : Nat) (st : Store) {B : List (Str × Str)} {d : D} (h : IP.run P N i__law_is_formed [.val (.tuple (B.map rowD)), .val d] st = .ok (.bool false) st) : IP.run P (N + 1) i__law_is_formula [.val (.tuple (B.map rowD)), .val d] st = .ok (.bool false) st := by
  rw [IP.run_succ (d := ⟨3, 2, b__law_is_formula, false⟩) rfl]
  show endS st.length (exs (IP.run P N) b__law_is_formula [.val (.tuple (B.map rowD)), .val d, .un] st) = _
  simp only [b__law_is_formula, s__law_is_formula_0, exs_cons, exs_nil, ex_ife, seq_nx, seq_ret, endS_ret, endS_nx, ift_t, ift_f, ift_or, ift_and, ifs_t, ev_ife, and_1, and_2, or_1, or_2, evc_0, evc_1, idx_list', idx_tup', at_0, at_1, at_2, at_3, ix_2_0, ix_2_1, tr_bool, eq_str, eq_int, lt_int', le_int', gt_int', add_int', sub_int', ex, ev, evs, eva, bind_ok, of_some, toS_ok, quiet_ok, get_0, get_s, List.set_cons_zero, List.set_cons_succ, LINE, List.length_cons, List.length_nil, Nat.reduceAdd, Nat.reduceLeDiff, decide_true, List.append_nil, List.map_nil, List.cons_append, List.nil_append, h, Bool.not_false]
  simp
theorem lformula_yes (N : Nat) (st : Store) {B : List (Str × Str)} {d : D} {br : List Int} (h : IP.run P N i__law_is_formed [.val (.tuple (B.map rowD)), .val d] st = .ok (.bool true) st) (hb : IP.run P N i__law_brought [.val d] st = .ok (.list (br.map PyData.int)) st) (hl : br.length < 4000) :
    IP.run P (N + 1) i__law_is_formula [.val (.tuple (B.map rowD)), .val d] st = .ok (.bool (onceB br)) st := by
  rw [IP.run_succ (d := ⟨3, 2, b__law_is_formula, false⟩) rfl]
  show endS st.length (exs (IP.run P N) b__law_is_formula [.val (.tuple (B.map rowD)), .val d, .un] st) = _
  have a2 : ex (IP.run P N) s__law_is_formula_2 [.val (.tuple (B.map rowD)), .val d, .val (.list (br.map PyData.int))] st = .ret (.bool (onceB br)) st := by
    rw [s__law_is_formula_2, ex, once_ev _ st hl, toS_ok]
  simp only [b__law_is_formula, s__law_is_formula_0, s__law_is_formula_1, exs_cons, exs_nil, ex_ife, seq_nx, seq_ret, endS_ret, endS_nx, ift_t, ift_f, ift_or, ift_and, ifs_t, ev_ife, and_1, and_2, or_1, or_2, evc_0, evc_1, idx_list', idx_tup', at_0, at_1, at_2, at_3, ix_2_0, ix_2_1, tr_bool, eq_str, eq_int, lt_int', le_int', gt_int', add_int', sub_int', ex, ev, evs, eva, bind_ok, of_some, toS_ok, quiet_ok, get_0, get_s, List.set_cons_zero, List.set_cons_succ, LINE, List.length_cons, List.length_nil, Nat.reduceAdd, Nat.reduceLeDiff, decide_true, List.append_nil, List.map_nil, List.cons_append, List.nil_append, h, hb, Bool.not_true, a2]
  simp
theorem w_formula_of {B : List (Str × Str)} (hB : Book B) {d : D} (hd : GF 8 16 d) : ∃ b : Bool, (b = true → ∃ br ls, VF B 8 16 d br ls) ∧
    (∀ (N : Nat) (st : Store), 12 ≤ N → IP.run P (N + 1) i_is_formula_of [.val (.tuple (B.map rowD)), .val d] st = .ok (.bool b) st) ∧
    (∀ (N : Nat) (st : Store), 12 ≤ N → IP.run P (N + 1) i__law_is_formula [.val (.tuple (B.map rowD)), .val d] st = .ok (.bool b) st) := by
  have f1 := formedG hB hd
  have f2 := lformedG hB hd
  cases hf : fmB B 8 d with
  | false =>
    rw [hf] at f1 f2
    exact ⟨false, fun h => (nomatch h), fun N st hn => formula_no N st (f1 N 300 st (by omega) (by omega)), fun N st hn => lformula_no N st (f2 N st (by omega))⟩
  | true =>
    rw [hf] at f1 f2
    obtain ⟨br, ls, v⟩ := valid hd hf
    have hl := v.len
    have hl : br.length + 1 ≤ 256 := hl
    exact ⟨onceB br, fun _ => ⟨br, ls, v⟩, fun N st hn => formula_yes N st (f1 N 300 st (by omega) (by omega)) (broughtG v N st (by omega) (by omega)) (by omega), fun N st hn => lformula_yes N st (f2 N st (by omega)) (lbroughtG v N st (by omega) (by omega)) (by omega)⟩
theorem w_isformula (n : Nat) (st : Store) {B : List (Str × Str)} (hB : Book B) {d : D} {b : Bool} (h : ∀ (N : Nat) (st : Store), 12 ≤ N → IP.run P (N + 1) i_is_formula_of [.val (.tuple (B.map rowD)), .val d] st = .ok (.bool b) st) (hn : 12 ≤ n) :
    IP.run P (n + 2) i_is_formula [.val (.tuple (B.map rowD)), .val d] st = .ok (.bool b) st := by
  obtain ⟨n, rfl⟩ : ∃ g, n = g + 2 := ⟨n - 2, by omega⟩
  rw [IP.run_succ (d := ⟨2, 2, b_is_formula, false⟩) rfl]
  show endS st.length (exs (IP.run P (n + 2 + 1)) b_is_formula [.val (.tuple (B.map rowD)), .val d] st) = _
  simp only [b_is_formula, s_is_formula_0, s_is_formula_1, exs_cons, exs_nil, ex_ife, seq_nx, seq_ret, endS_ret, endS_nx, ift_t, ift_f, ift_or, ift_and, ifs_t, ev_ife, and_1, and_2, or_1, or_2, evc_0, evc_1, idx_list', idx_tup', at_0, at_1, at_2, at_3, ix_2_0, ix_2_1, tr_bool, eq_str, eq_int, lt_int', le_int', gt_int', add_int', sub_int', ex, ev, evs, eva, bind_ok, of_some, toS_ok, quiet_ok, get_0, get_s, List.set_cons_zero, List.set_cons_succ, LINE, List.length_cons, List.length_nil, Nat.reduceAdd, Nat.reduceLeDiff, decide_true, List.append_nil, List.map_nil, List.cons_append, List.nil_append, w_look n st hB, h (n + 2) st (by omega)]
  simp

/-! ### the loose numbers: the program's -/
theorem insI_len (z : Int) : ∀ l : List Int, (insI z l).length ≤ l.length + 1
  | [] => by simp [insI]
  | a :: r => by
    unfold insI
    split
    · simp
    · split
      · simp
      · have := insI_len z r
        simp only [List.length_cons]
        omega
theorem sInts_len : ∀ l : List Int, (sInts l).length ≤ l.length
  | [] => by simp [sInts]
  | a :: r => by
    have := insI_len a (sInts r)
    have := sInts_len r
    rw [sInts, List.length_cons]
    omega
theorem tsI_len : ∀ ts : List D, (tsI ts).length ≤ ts.length
  | [] => by simp [tsI]
  | t :: r => by
    have := tsI_len r
    cases t <;> simp only [tsI, List.length_cons] <;> omega
theorem VF.few {B : List (Str × Str)} {n m : Nat} {d : D} {br ls : List Int} (x : VF B n m d br ls) : ls.length ≤ 2 * m ∧ ls.Pairwise (· < ·) := by
  induction x with
  | @fact n m w ts a b c hm =>
    have := sInts_len (tsI ts)
    have := tsI_len ts
    exact ⟨by omega, sInts_srt _⟩
  | nt v ih => exact ih
  | @two n m m2 q a b b1 b2 l1 l2 hq v1 v2 hm i1 i2 =>
    have := sInts_len (l1 ++ l2)
    rw [List.length_append] at this
    exact ⟨by omega, sInts_srt _⟩
  | @any n m q i b br ls hq v ih =>
    have := List.length_filter_le (fun k => !decide (k = i)) ls
    exact ⟨by omega, ih.2.filter _⟩
theorem set_ok {zs : List Int} (h : zs.length < 64) : ((keysD (zs.map PyData.int)).bind fun ks => ifs (sB ks) (sF ks)) = some (.list ((sInts zs).map PyData.int)) := by
  rw [keysD_ints]
  show ifs (sB (zs.map fun z => (.inl z : L2.Key))) (sF (zs.map fun z => (.inl z : L2.Key))) = _
  have e1 : sB (zs.map fun z => (.inl z : L2.Key)) = true := by
    unfold sB
    rw [Bool.and_eq_true]
    refine ⟨decide_eq_true (by rw [List.length_map]; exact h), List.all_eq_true.mpr fun k m => ?_⟩
    obtain ⟨z, _, rfl⟩ := List.mem_map.mp m
    rfl
  have e2 : sF (zs.map fun z => (.inl z : L2.Key)) = .list ((sInts zs).map PyData.int) := by
    unfold sF
    have : (zs.map fun z => (.inl z : L2.Key)).map leftK = zs := by
      rw [List.map_map]
      exact List.map_id _
    rw [this]
  rw [e1, e2]
  rfl
theorem ts_ints {B : List (Str × Str)} : ∀ {ts : List D}, (∀ t ∈ ts, GT t) → (∀ t ∈ ts, thB B t = true) → ts.filter (fun t => isiD t .int) = (tsI ts).map PyData.int
  | [], _, _ => rfl
  | t :: r, h1, h2 => by
    have ih := ts_ints (B := B) (ts := r) (fun t m => h1 t (List.mem_cons_of_mem _ m)) fun t m => h2 t (List.mem_cons_of_mem _ m)
    have hb := h2 t List.mem_cons_self
    rw [List.filter_cons]
    rcases h1 t List.mem_cons_self with ⟨s, rfl⟩ | ⟨i, rfl⟩ | ⟨b, rfl⟩ | ⟨i, rfl⟩
    · simpa [isiD, tsI] using ih
    · have e : isiD (.int i) .int = true := rfl
      rw [if_pos e, ih]
      rfl
    · cases hb
    · simpa [isiD, tsI] using ih
theorem ne_pos (z i : Int) : op2 .ne (.int z) (.int i) = some (.bool (!decide (z = i))) := ne_int z i
def neI (i : Int) : D → Bool
  | .int z => !decide (z = i)
  | _ => false
theorem filter_ne (i : Int) : ∀ ls : List Int, (ls.map PyData.int).filter (neI i) = (ls.filter fun k => !decide (k = i)).map PyData.int
  | [] => rfl
  | z :: r => by
    rw [List.map_cons, List.filter_cons, List.filter_cons, filter_ne i r]
    have e : neI i (.int z) = !decide (z = i) := rfl
    rw [e]
    cases decide (z = i) <;> simp
theorem looseG {B : List (Str × Str)} {n m : Nat} {d : D} {br ls : List Int} (x : VF B n m d br ls) : ∀ (N : Nat) (st : Store), n ≤ N → m ≤ 16 → IP.run P N i_loose_of [.val d] st = .ok (.list (ls.map PyData.int)) st := by
  have f0 : op2 .isin (.str "fact") g_OF_ANY = some (.bool false) ∧ op2 .isin (.str "not") g_OF_ANY = some (.bool false) := ⟨by kernel_rfl, by kernel_rfl⟩
  induction x with
  | @fact n m w ts a b c hm =>
    intro N st hn h8
    obtain ⟨N, rfl⟩ : ∃ g, N = g + 1 := ⟨N - 1, by omega⟩
    rw [IP.run_succ (d := ⟨2, 1, b_loose_of, false⟩) rfl]
    show endS st.length (exs (IP.run P N) b_loose_of [.val (.tuple [.str "fact", .str w, .tuple ts]), .un] st) = _
    have hl := tsI_len ts
    have e1 : ev (IP.run P N) (.sortsc [1] (.n 1) (.e (.idx (.v 0) (.c (.int 2)))) (.cons (.isi (.v 1) .int) .nil) (.v 1)) [.val (.tuple [.str "fact", .str w, .tuple ts]), .un] st = .ok (.list ((sInts (tsI ts)).map PyData.int)) st := by
      rw [ev]
      have ei : evi (IP.run P N) (.e (.idx (.v 0) (.c (.int 2)))) [.val (.tuple [.str "fact", .str w, .tuple ts]), .un] st = .ok ts st := by
        rw [evi]
        simp only [exs_cons, exs_nil, ex_ife, seq_nx, seq_ret, endS_ret, endS_nx, ift_t, ift_f, ift_or, ift_and, ifs_t, ev_ife, and_1, and_2, or_1, or_2, evc_0, evc_1, idx_list', idx_tup', at_0, at_1, at_2, at_3, ix_2_0, ix_2_1, tr_bool, eq_str, eq_int, lt_int', le_int', gt_int', add_int', sub_int', ex, ev, evs, eva, bind_ok, of_some, toS_ok, quiet_ok, get_0, get_s, List.set_cons_zero, List.set_cons_succ, LINE, List.length_cons, List.length_nil, Nat.reduceAdd, Nat.reduceLeDiff, decide_true, List.append_nil, List.map_nil, List.cons_append, List.nil_append, itemsD]
      rw [ei, bind_ok]
      show (loopE _ _ (.n 1) [.val (.tuple [.str "fact", .str w, .tuple ts]), .un] ts [] st).bind _ = _
      rw [loopE_filter (p := fun t => isiD t .int) (f := fun t => t)]
      · rw [List.map_id', List.nil_append, bind_ok, ts_ints a b, set_ok (by omega)]
        rfl
      · intro x mx
        refine ⟨[.val (.tuple [.str "fact", .str w, .tuple ts]), .val x], rfl, ?_, fun _ => ?_⟩
        · simp only [exs_cons, exs_nil, ex_ife, seq_nx, seq_ret, endS_ret, endS_nx, ift_t, ift_f, ift_or, ift_and, ifs_t, ev_ife, and_1, and_2, or_1, or_2, evc_0, evc_1, idx_list', idx_tup', at_0, at_1, at_2, at_3, ix_2_0, ix_2_1, tr_bool, eq_str, eq_int, lt_int', le_int', gt_int', add_int', sub_int', ex, ev, evs, eva, bind_ok, of_some, toS_ok, quiet_ok, get_0, get_s, List.set_cons_zero, List.set_cons_succ, LINE, List.length_cons, List.length_nil, Nat.reduceAdd, Nat.reduceLeDiff, decide_true, List.append_nil, List.map_nil, List.cons_append, List.nil_append]
        · simp only [exs_cons, exs_nil, ex_ife, seq_nx, seq_ret, endS_ret, endS_nx, ift_t, ift_f, ift_or, ift_and, ifs_t, ev_ife, and_1, and_2, or_1, or_2, evc_0, evc_1, idx_list', idx_tup', at_0, at_1, at_2, at_3, ix_2_0, ix_2_1, tr_bool, eq_str, eq_int, lt_int', le_int', gt_int', add_int', sub_int', ex, ev, evs, eva, bind_ok, of_some, toS_ok, quiet_ok, get_0, get_s, List.set_cons_zero, List.set_cons_succ, LINE, List.length_cons, List.length_nil, Nat.reduceAdd, Nat.reduceLeDiff, decide_true, List.append_nil, List.map_nil, List.cons_append, List.nil_append]
      · rw [List.length_nil, Nat.zero_add]
        exact Nat.le_trans c (by decide)
    have a1 : ex (IP.run P N) s_loose_of_1 [.val (.tuple [.str "fact", .str w, .tuple ts]), .un] st = .ret (.list ((sInts (tsI ts)).map PyData.int)) st := by
      rw [s_loose_of_1, ex_ife]
      have t : ev (IP.run P N) (.bin .eq (.idx (.v 0) (.c (.int 0))) (.c (.str "fact"))) [.val (.tuple [.str "fact", .str w, .tuple ts]), .un] st = .ok (.bool true) st := by
        simp only [exs_cons, exs_nil, ex_ife, seq_nx, seq_ret, endS_ret, endS_nx, ift_t, ift_f, ift_or, ift_and, ifs_t, ev_ife, and_1, and_2, or_1, or_2, evc_0, evc_1, idx_list', idx_tup', at_0, at_1, at_2, at_3, ix_2_0, ix_2_1, tr_bool, eq_str, eq_int, lt_int', le_int', gt_int', add_int', sub_int', ex, ev, evs, eva, bind_ok, of_some, toS_ok, quiet_ok, get_0, get_s, List.set_cons_zero, List.set_cons_succ, LINE, List.length_cons, List.length_nil, Nat.reduceAdd, Nat.reduceLeDiff, decide_true, List.append_nil, List.map_nil, List.cons_append, List.nil_append, q_fact_fact]
      rw [t, toS_ok, tr_bool, ift_t, exs_cons, ex, e1, toS_ok, seq_ret]
    simp only [b_loose_of, s_loose_of_0, exs_cons, exs_nil, ex_ife, seq_nx, seq_ret, endS_ret, endS_nx, ift_t, ift_f, ift_or, ift_and, ifs_t, ev_ife, and_1, and_2, or_1, or_2, evc_0, evc_1, idx_list', idx_tup', at_0, at_1, at_2, at_3, ix_2_0, ix_2_1, tr_bool, eq_str, eq_int, lt_int', le_int', gt_int', add_int', sub_int', ex, ev, evs, eva, bind_ok, of_some, toS_ok, quiet_ok, get_0, get_s, List.set_cons_zero, List.set_cons_succ, LINE, List.length_cons, List.length_nil, Nat.reduceAdd, Nat.reduceLeDiff, decide_true, List.append_nil, List.map_nil, List.cons_append, List.nil_append, f0.1, a1]
    simp
  | @nt n m a br ls v ih =>
    intro N st hn h8
    obtain ⟨N, rfl⟩ : ∃ g, N = g + 1 := ⟨N - 1, by omega⟩
    have i1 := ih N st (by omega) h8
    rw [IP.run_succ (d := ⟨2, 1, b_loose_of, false⟩) rfl]
    show endS st.length (exs (IP.run P N) b_loose_of [.val (.tuple [.str "not", a]), .un] st) = _
    simp only [b_loose_of, s_loose_of_0, s_loose_of_1, s_loose_of_2, exs_cons, exs_nil, ex_ife, seq_nx, seq_ret, endS_ret, endS_nx, ift_t, ift_f, ift_or, ift_and, ifs_t, ev_ife, and_1, and_2, or_1, or_2, evc_0, evc_1, idx_list', idx_tup', at_0, at_1, at_2, at_3, ix_2_0, ix_2_1, tr_bool, eq_str, eq_int, lt_int', le_int', gt_int', add_int', sub_int', ex, ev, evs, eva, bind_ok, of_some, toS_ok, quiet_ok, get_0, get_s, List.set_cons_zero, List.set_cons_succ, LINE, List.length_cons, List.length_nil, Nat.reduceAdd, Nat.reduceLeDiff, decide_true, List.append_nil, List.map_nil, List.cons_append, List.nil_append, f0.2, q_not_fact, q_not_not, i1]
    simp
  | @two n m m2 q a b b1 b2 l1 l2 hq v1 v2 hm ih1 ih2 =>
    intro N st hn h8
    obtain ⟨N, rfl⟩ : ∃ g, N = g + 1 := ⟨N - 1, by omega⟩
    have i1 := ih1 N st (by omega) (by omega)
    have i2 := ih2 N st (by omega) (by omega)
    have e1 := v1.few.1
    have e2 := v2.few.1
    have ea : op2 .add (.list (l1.map PyData.int)) (.list (l2.map PyData.int)) = some (.list ((l1 ++ l2).map PyData.int)) := by
      rw [add_list, decide_eq_true (by simp only [List.length_map]; show l1.length + l2.length ≤ 16777216; omega), List.map_append]
      rfl
    obtain ⟨q2, q3, q4⟩ : sEq q "fact" = false ∧ sEq q "not" = false ∧ op2 .isin (.str q) g_OF_ANY = some (.bool false) := by
      simp only [List.mem_cons, List.not_mem_nil, or_false] at hq
      rcases hq with rfl | rfl | rfl
      · exact ⟨q_and_fact, q_and_not, v_and⟩
      · exact ⟨q_or_fact, q_or_not, v_or⟩
      · exact ⟨q_if_fact, q_if_not, v_if⟩
    rw [IP.run_succ (d := ⟨2, 1, b_loose_of, false⟩) rfl]
    show endS st.length (exs (IP.run P N) b_loose_of [.val (.tuple [.str q, a, b]), .un] st) = _
    have hs := set_ok (zs := l1 ++ l2) (by rw [List.length_append]; omega)
    have a3 : ex (IP.run P N) s_loose_of_3 [.val (.tuple [.str q, a, b]), .un] st = .ret (.list ((sInts (l1 ++ l2)).map PyData.int)) st := by
      have e3 : ev (IP.run P N) (.bin .add (.call i_loose_of (.e (.idx (.v 0) (.c (.int 1))) .nil) []) (.call i_loose_of (.e (.idx (.v 0) (.c (.int 2))) .nil) [])) [.val (.tuple [.str q, a, b]), .un] st = .ok (.list ((l1 ++ l2).map PyData.int)) st := by
        simp only [exs_cons, exs_nil, ex_ife, seq_nx, seq_ret, endS_ret, endS_nx, ift_t, ift_f, ift_or, ift_and, ifs_t, ev_ife, and_1, and_2, or_1, or_2, evc_0, evc_1, idx_list', idx_tup', at_0, at_1, at_2, at_3, ix_2_0, ix_2_1, tr_bool, eq_str, eq_int, lt_int', le_int', gt_int', add_int', sub_int', ex, ev, evs, eva, bind_ok, of_some, toS_ok, quiet_ok, get_0, get_s, List.set_cons_zero, List.set_cons_succ, LINE, List.length_cons, List.length_nil, Nat.reduceAdd, Nat.reduceLeDiff, decide_true, List.append_nil, List.map_nil, List.cons_append, List.nil_append, i1, i2, ea]
      rw [s_loose_of_3, ex, ev, e3, bind_ok]
      show (IP.R.of ((keysD ((l1 ++ l2).map PyData.int)).bind fun ks => ifs (sB ks) (sF ks)) st).toS _ _ = _
      rw [hs]
      rfl
    simp only [b_loose_of, s_loose_of_0, s_loose_of_1, s_loose_of_2, exs_cons, exs_nil, ex_ife, seq_nx, seq_ret, endS_ret, endS_nx, ift_t, ift_f, ift_or, ift_and, ifs_t, ev_ife, and_1, and_2, or_1, or_2, evc_0, evc_1, idx_list', idx_tup', at_0, at_1, at_2, at_3, ix_2_0, ix_2_1, tr_bool, eq_str, eq_int, lt_int', le_int', gt_int', add_int', sub_int', ex, ev, evs, eva, bind_ok, of_some, toS_ok, quiet_ok, get_0, get_s, List.set_cons_zero, List.set_cons_succ, LINE, List.length_cons, List.length_nil, Nat.reduceAdd, Nat.reduceLeDiff, decide_true, List.append_nil, List.map_nil, List.cons_append, List.nil_append, q2, q3, q4, a3]
    simp
  | @any n m q i b br ls hq v ih =>
    intro N st hn h8
    obtain ⟨N, rfl⟩ : ∃ g, N = g + 1 := ⟨N - 1, by omega⟩
    have i2 := ih N st (by omega) h8
    have e2 := v.few.1
    have q4 : op2 .isin (.str q) g_OF_ANY = some (.bool true) := by
      simp only [List.mem_cons, List.not_mem_nil, or_false] at hq
      rcases hq with rfl | rfl
      · exact v_all
      · exact v_some
    rw [IP.run_succ (d := ⟨2, 1, b_loose_of, false⟩) rfl]
    show endS st.length (exs (IP.run P N) b_loose_of [.val (.tuple [.str q, .int i, b]), .un] st) = _
    have hc : ev (IP.run P N) (.lc [1] (.n 1) (.e (.call i_loose_of (.e (.idx (.v 0) (.c (.int 2))) .nil) [])) (.cons (.bin .ne (.v 1) (.idx (.v 0) (.c (.int 1)))) .nil) (.v 1)) [.val (.tuple [.str q, .int i, b]), .un] st = .ok (.list ((ls.filter fun k => !decide (k = i)).map PyData.int)) st := by
      rw [ev_lc rfl]
      have ei : evi (IP.run P N) (.e (.call i_loose_of (.e (.idx (.v 0) (.c (.int 2))) .nil) [])) [.val (.tuple [.str q, .int i, b]), .un] st = .ok (ls.map PyData.int) st := by
        rw [evi]
        simp only [exs_cons, exs_nil, ex_ife, seq_nx, seq_ret, endS_ret, endS_nx, ift_t, ift_f, ift_or, ift_and, ifs_t, ev_ife, and_1, and_2, or_1, or_2, evc_0, evc_1, idx_list', idx_tup', at_0, at_1, at_2, at_3, ix_2_0, ix_2_1, tr_bool, eq_str, eq_int, lt_int', le_int', gt_int', add_int', sub_int', ex, ev, evs, eva, bind_ok, of_some, toS_ok, quiet_ok, get_0, get_s, List.set_cons_zero, List.set_cons_succ, LINE, List.length_cons, List.length_nil, Nat.reduceAdd, Nat.reduceLeDiff, decide_true, List.append_nil, List.map_nil, List.cons_append, List.nil_append, i2, itemsD]
      rw [ei, bind_ok, loopE_filter (p := neI i) (f := fun t => t)]
      · rw [List.map_id', filter_ne]
        rfl
      · intro x mx
        obtain ⟨z, _, rfl⟩ := List.mem_map.mp mx
        refine ⟨[.val (.tuple [.str q, .int i, b]), .val (.int z)], rfl, ?_, fun _ => ?_⟩
        · simp only [exs_cons, exs_nil, ex_ife, seq_nx, seq_ret, endS_ret, endS_nx, ift_t, ift_f, ift_or, ift_and, ifs_t, ev_ife, and_1, and_2, or_1, or_2, evc_0, evc_1, idx_list', idx_tup', at_0, at_1, at_2, at_3, ix_2_0, ix_2_1, tr_bool, eq_str, eq_int, lt_int', le_int', gt_int', add_int', sub_int', ex, ev, evs, eva, bind_ok, of_some, toS_ok, quiet_ok, get_0, get_s, List.set_cons_zero, List.set_cons_succ, LINE, List.length_cons, List.length_nil, Nat.reduceAdd, Nat.reduceLeDiff, decide_true, List.append_nil, List.map_nil, List.cons_append, List.nil_append, ne_int]
          rfl
        · simp only [exs_cons, exs_nil, ex_ife, seq_nx, seq_ret, endS_ret, endS_nx, ift_t, ift_f, ift_or, ift_and, ifs_t, ev_ife, and_1, and_2, or_1, or_2, evc_0, evc_1, idx_list', idx_tup', at_0, at_1, at_2, at_3, ix_2_0, ix_2_1, tr_bool, eq_str, eq_int, lt_int', le_int', gt_int', add_int', sub_int', ex, ev, evs, eva, bind_ok, of_some, toS_ok, quiet_ok, get_0, get_s, List.set_cons_zero, List.set_cons_succ, LINE, List.length_cons, List.length_nil, Nat.reduceAdd, Nat.reduceLeDiff, decide_true, List.append_nil, List.map_nil, List.cons_append, List.nil_append]
      · simp only [List.length_nil, List.length_map]
        show 0 + _ ≤ 16777216
        omega
    have a0 : ex (IP.run P N) s_loose_of_0 [.val (.tuple [.str q, .int i, b]), .un] st = .ret (.list ((ls.filter fun k => !decide (k = i)).map PyData.int)) st := by
      rw [s_loose_of_0, ex_ife]
      have t : ev (IP.run P N) (.bin .isin (.idx (.v 0) (.c (.int 0))) (.g "OF_ANY" g_OF_ANY)) [.val (.tuple [.str q, .int i, b]), .un] st = .ok (.bool true) st := by
        simp only [exs_cons, exs_nil, ex_ife, seq_nx, seq_ret, endS_ret, endS_nx, ift_t, ift_f, ift_or, ift_and, ifs_t, ev_ife, and_1, and_2, or_1, or_2, evc_0, evc_1, idx_list', idx_tup', at_0, at_1, at_2, at_3, ix_2_0, ix_2_1, tr_bool, eq_str, eq_int, lt_int', le_int', gt_int', add_int', sub_int', ex, ev, evs, eva, bind_ok, of_some, toS_ok, quiet_ok, get_0, get_s, List.set_cons_zero, List.set_cons_succ, LINE, List.length_cons, List.length_nil, Nat.reduceAdd, Nat.reduceLeDiff, decide_true, List.append_nil, List.map_nil, List.cons_append, List.nil_append, q4]
      rw [t, toS_ok, tr_bool, ift_t, exs_cons, ex, hc, toS_ok, seq_ret]
    rw [b_loose_of, exs_cons, a0, seq_ret, endS_ret, List.take_length]

/-! ### the loose numbers: the law's -/
theorem eqv_int (a b : Int) : PyData.eqv (.int a) (.int b) = decide (a = b) := by
  rw [PyData.eqv]
  by_cases h : a = b <;> simp [h]
theorem ints_nd : ∀ zs : List Int, noDicts (zs.map PyData.int) = true
  | [] => rfl
  | z :: r => by rw [List.map_cons, noDicts, ints_nd r]; rfl
theorem notin_ints (z : Int) (kn : List Int) : op2 .notin (.int z) (.list (kn.map PyData.int)) = some (.bool (!decide (z ∈ kn))) := by
  have h1 : inOk (.int z) (kn.map PyData.int) = true := by
    unfold inOk
    rw [ints_nd]
    have : decide (min (PyData.depthAll (kn.map PyData.int)) (PyData.int z).depth ≤ 150) = true := by
      have e : (PyData.int z).depth ≤ 150 := by simp [PyData.depth]
      rw [decide_eq_true_eq]
      omega
    rw [this]
    rfl
  have h2 : ((kn.map PyData.int).any fun y => PyData.eqv y (.int z)) = decide (z ∈ kn) := by
    induction kn with
    | nil => rfl
    | cons a r ih =>
      have ih' : ((r.map PyData.int).any fun y => PyData.eqv y (.int z)) = decide (z ∈ r) := ih (by
        unfold inOk
        rw [ints_nd]
        have : decide (min (PyData.depthAll (r.map PyData.int)) (PyData.int z).depth ≤ 150) = true := by
          have e : (PyData.int z).depth ≤ 150 := by simp [PyData.depth]
          rw [decide_eq_true_eq]
          omega
        rw [this]
        rfl)
      rw [List.map_cons, List.any_cons, ih', eqv_int]
      by_cases h : a = z
      · subst h; simp
      · have : ¬ z = a := fun e => h e.symm
        simp [h, this]
  show ifs (inOk (.int z) (kn.map PyData.int)) (PyData.bool (xor true ((kn.map PyData.int).any fun y => PyData.eqv y (.int z)))) = _
  rw [h1, h2]
  cases decide (z ∈ kn) <;> rfl
/-- the numbers that are not known -/
def outI (kn : List Int) : D → Bool
  | .int z => !decide (z ∈ kn)
  | _ => false
theorem ts_out {B : List (Str × Str)} (kn : List Int) : ∀ {ts : List D}, (∀ t ∈ ts, GT t) → ts.filter (outI kn) = ((tsI ts).filter fun z => !decide (z ∈ kn)).map PyData.int
  | [], _ => rfl
  | t :: r, h1 => by
    have ih := ts_out (B := B) kn (ts := r) (fun t m => h1 t (List.mem_cons_of_mem _ m))
    rw [List.filter_cons]
    rcases h1 t List.mem_cons_self with ⟨s, rfl⟩ | ⟨i, rfl⟩ | ⟨b, rfl⟩ | ⟨i, rfl⟩
    · simpa [outI, tsI] using ih
    · have e : outI kn (.int i) = !decide (i ∈ kn) := rfl
      have e2 : tsI (.int i :: r) = i :: tsI r := rfl
      rw [e, e2, List.filter_cons, ih]
      cases decide (i ∈ kn) <;> simp
    · simpa [outI, tsI] using ih
    · simpa [outI, tsI] using ih
theorem lloose_fact (N : Nat) (st : Store) {B : List (Str × Str)} {w : Str} {ts : List D} (a : ∀ t ∈ ts, GT t) (c : ts.length ≤ 2) (kn : List Int) :
    IP.run P (N + 2) i__law_loose [.val (.tuple [.str "fact", .str w, .tuple ts]), .val (.list (kn.map PyData.int))] st = .ok (.list ((sInts ((tsI ts).filter fun z => !decide (z ∈ kn))).map PyData.int)) st := by
  rw [IP.run_succ (d := ⟨5, 2, b__law_loose, false⟩) rfl]
  show endS st.length (exs (IP.run P (N + 1)) b__law_loose [.val (.tuple [.str "fact", .str w, .tuple ts]), .val (.list (kn.map PyData.int)), .un, .un, .un] st) = _
  have hl := tsI_len ts
  have hf := List.length_filter_le (fun z => !decide (z ∈ kn)) (tsI ts)
  have hc : ev (IP.run P (N + 1)) (.lc [4] (.n 4) (.e (.idx (.v 0) (.c (.int 2)))) (.cons (.band (.cons (.call i__law_whole (.e (.v 4) .nil) []) (.cons (.bin .notin (.v 4) (.v 1)) .nil))) .nil) (.v 4)) [.val (.tuple [.str "fact", .str w, .tuple ts]), .val (.list (kn.map PyData.int)), .un, .un, .un] st = .ok (.list (((tsI ts).filter fun z => !decide (z ∈ kn)).map PyData.int)) st := by
    rw [ev_lc rfl]
    have ei : evi (IP.run P (N + 1)) (.e (.idx (.v 0) (.c (.int 2)))) [.val (.tuple [.str "fact", .str w, .tuple ts]), .val (.list (kn.map PyData.int)), .un, .un, .un] st = .ok ts st := by
      rw [evi]
      simp only [exs_cons, exs_nil, ex_ife, seq_nx, seq_ret, endS_ret, endS_nx, ift_t, ift_f, ift_or, ift_and, ifs_t, ev_ife, and_1, and_2, or_1, or_2, evc_0, evc_1, idx_list', idx_tup', at_0, at_1, at_2, at_3, ix_2_0, ix_2_1, tr_bool, eq_str, eq_int, lt_int', le_int', gt_int', add_int', sub_int', ex, ev, evs, eva, bind_ok, of_some, toS_ok, quiet_ok, get_0, get_s, List.set_cons_zero, List.set_cons_succ, LINE, List.length_cons, List.length_nil, Nat.reduceAdd, Nat.reduceLeDiff, decide_true, List.append_nil, List.map_nil, List.cons_append, List.nil_append, itemsD]
    rw [ei, bind_ok, loopE_filter (p := outI kn) (f := fun t => t)]
    · rw [List.map_id', ts_out (B := B) kn a]
      rfl
    · intro x mx
      refine ⟨[.val (.tuple [.str "fact", .str w, .tuple ts]), .val (.list (kn.map PyData.int)), .un, .un, .val x], rfl, ?_, fun _ => ?_⟩
      · rcases a x mx with ⟨s, rfl⟩ | ⟨i, rfl⟩ | ⟨b, rfl⟩ | ⟨i, rfl⟩
        · simp only [exs_cons, exs_nil, ex_ife, seq_nx, seq_ret, endS_ret, endS_nx, ift_t, ift_f, ift_or, ift_and, ifs_t, ev_ife, and_1, and_2, or_1, or_2, evc_0, evc_1, idx_list', idx_tup', at_0, at_1, at_2, at_3, ix_2_0, ix_2_1, tr_bool, eq_str, eq_int, lt_int', le_int', gt_int', add_int', sub_int', ex, ev, evs, eva, bind_ok, of_some, toS_ok, quiet_ok, get_0, get_s, List.set_cons_zero, List.set_cons_succ, LINE, List.length_cons, List.length_nil, Nat.reduceAdd, Nat.reduceLeDiff, decide_true, List.append_nil, List.map_nil, List.cons_append, List.nil_append, w_whole N st]
          rfl
        · simp only [exs_cons, exs_nil, ex_ife, seq_nx, seq_ret, endS_ret, endS_nx, ift_t, ift_f, ift_or, ift_and, ifs_t, ev_ife, and_1, and_2, or_1, or_2, evc_0, evc_1, idx_list', idx_tup', at_0, at_1, at_2, at_3, ix_2_0, ix_2_1, tr_bool, eq_str, eq_int, lt_int', le_int', gt_int', add_int', sub_int', ex, ev, evs, eva, bind_ok, of_some, toS_ok, quiet_ok, get_0, get_s, List.set_cons_zero, List.set_cons_succ, LINE, List.length_cons, List.length_nil, Nat.reduceAdd, Nat.reduceLeDiff, decide_true, List.append_nil, List.map_nil, List.cons_append, List.nil_append, w_whole N st, notin_ints]
          rfl
        · simp only [exs_cons, exs_nil, ex_ife, seq_nx, seq_ret, endS_ret, endS_nx, ift_t, ift_f, ift_or, ift_and, ifs_t, ev_ife, and_1, and_2, or_1, or_2, evc_0, evc_1, idx_list', idx_tup', at_0, at_1, at_2, at_3, ix_2_0, ix_2_1, tr_bool, eq_str, eq_int, lt_int', le_int', gt_int', add_int', sub_int', ex, ev, evs, eva, bind_ok, of_some, toS_ok, quiet_ok, get_0, get_s, List.set_cons_zero, List.set_cons_succ, LINE, List.length_cons, List.length_nil, Nat.reduceAdd, Nat.reduceLeDiff, decide_true, List.append_nil, List.map_nil, List.cons_append, List.nil_append, w_whole N st]
          rfl
        · simp only [exs_cons, exs_nil, ex_ife, seq_nx, seq_ret, endS_ret, endS_nx, ift_t, ift_f, ift_or, ift_and, ifs_t, ev_ife, and_1, and_2, or_1, or_2, evc_0, evc_1, idx_list', idx_tup', at_0, at_1, at_2, at_3, ix_2_0, ix_2_1, tr_bool, eq_str, eq_int, lt_int', le_int', gt_int', add_int', sub_int', ex, ev, evs, eva, bind_ok, of_some, toS_ok, quiet_ok, get_0, get_s, List.set_cons_zero, List.set_cons_succ, LINE, List.length_cons, List.length_nil, Nat.reduceAdd, Nat.reduceLeDiff, decide_true, List.append_nil, List.map_nil, List.cons_append, List.nil_append, w_whole N st]
          rfl
      · simp only [exs_cons, exs_nil, ex_ife, seq_nx, seq_ret, endS_ret, endS_nx, ift_t, ift_f, ift_or, ift_and, ifs_t, ev_ife, and_1, and_2, or_1, or_2, evc_0, evc_1, idx_list', idx_tup', at_0, at_1, at_2, at_3, ix_2_0, ix_2_1, tr_bool, eq_str, eq_int, lt_int', le_int', gt_int', add_int', sub_int', ex, ev, evs, eva, bind_ok, of_some, toS_ok, quiet_ok, get_0, get_s, List.set_cons_zero, List.set_cons_succ, LINE, List.length_cons, List.length_nil, Nat.reduceAdd, Nat.reduceLeDiff, decide_true, List.append_nil, List.map_nil, List.cons_append, List.nil_append]
    · rw [List.length_nil, Nat.zero_add]
      exact Nat.le_trans c (by decide)
  have a0 : ex (IP.run P (N + 1)) s__law_loose_0 [.val (.tuple [.str "fact", .str w, .tuple ts]), .val (.list (kn.map PyData.int)), .un, .un, .un] st = .ret (.list ((sInts ((tsI ts).filter fun z => !decide (z ∈ kn))).map PyData.int)) st := by
    rw [s__law_loose_0, ex_ife]
    have t : ev (IP.run P (N + 1)) (.bin .eq (.idx (.v 0) (.c (.int 0))) (.c (.str "fact"))) [.val (.tuple [.str "fact", .str w, .tuple ts]), .val (.list (kn.map PyData.int)), .un, .un, .un] st = .ok (.bool true) st := by
      simp only [exs_cons, exs_nil, ex_ife, seq_nx, seq_ret, endS_ret, endS_nx, ift_t, ift_f, ift_or, ift_and, ifs_t, ev_ife, and_1, and_2, or_1, or_2, evc_0, evc_1, idx_list', idx_tup', at_0, at_1, at_2, at_3, ix_2_0, ix_2_1, tr_bool, eq_str, eq_int, lt_int', le_int', gt_int', add_int', sub_int', ex, ev, evs, eva, bind_ok, of_some, toS_ok, quiet_ok, get_0, get_s, List.set_cons_zero, List.set_cons_succ, LINE, List.length_cons, List.length_nil, Nat.reduceAdd, Nat.reduceLeDiff, decide_true, List.append_nil, List.map_nil, List.cons_append, List.nil_append, q_fact_fact]
    rw [t, toS_ok, tr_bool, ift_t, exs_cons, ex, ev, hc, bind_ok]
    show ((IP.R.of ((keysD (((tsI ts).filter fun z => !decide (z ∈ kn)).map PyData.int)).bind fun ks => ifs (sB ks) (sF ks)) st).toS _ _).seq _ = _
    rw [set_ok (by omega)]
    rfl
  rw [b__law_loose, exs_cons, a0, seq_ret, endS_ret, List.take_length]

theorem loop_3 {C : CallF} {b : IP.SL} {x : D} {xs : List D} {s0 s1 s2 s3 s4 : IP.Slot} {st : Store} {env2 : IP.Env} (e : bindT (.n 3) x [s0, s1, s2, s3, s4] = some [s0, s1, s2, .val x, s4]) (hb : exs C b [s0, s1, s2, .val x, s4] st = .nx env2 st) : loopS (fun e s => exs C b e s) (.n 3) (x :: xs) [s0, s1, s2, s3, s4] st = loopS (fun e s => exs C b e s) (.n 3) xs env2 st := by
  rw [loopS, e]
  show (match exs C b [s0, s1, s2, .val x, s4] st with
    | .nx env2 st2 => loopS (fun e s => exs C b e s) (.n 3) xs env2 st2
    | .ret p st2 => RS.ret p st2
    | .exc x e st2 => .exc x e st2
    | .stuck => .stuck) = _
  rw [hb]
theorem ll_step (C : CallF) (st : Store) {v0 k0 x : D} {f ws : List Int} (hc : C i__law_loose [.val x, .val k0] st = .ok (.list (ws.map PyData.int)) st) (hl : f.length + ws.length ≤ 16777216) :
    exs C b__law_loose_0 [.val v0, .val k0, .val (.list (f.map PyData.int)), .val x, .un] st = .nx [.val v0, .val k0, .val (.list ((f ++ ws).map PyData.int)), .val x, .un] st := by
  have ea : op2 .add (.list (f.map PyData.int)) (.list (ws.map PyData.int)) = some (.list ((f ++ ws).map PyData.int)) := by
    rw [add_list, decide_eq_true (by simp only [List.length_map]; exact hl), List.map_append]
    rfl
  simp only [b__law_loose_0, exs_cons, exs_nil, ex_ife, seq_nx, seq_ret, endS_ret, endS_nx, ift_t, ift_f, ift_or, ift_and, ifs_t, ev_ife, and_1, and_2, or_1, or_2, evc_0, evc_1, idx_list', idx_tup', at_0, at_1, at_2, at_3, ix_2_0, ix_2_1, tr_bool, eq_str, eq_int, lt_int', le_int', gt_int', add_int', sub_int', ex, ev, evs, eva, bind_ok, of_some, toS_ok, quiet_ok, get_0, get_s, List.set_cons_zero, List.set_cons_succ, LINE, List.length_cons, List.length_nil, Nat.reduceAdd, Nat.reduceLeDiff, decide_true, List.append_nil, List.map_nil, List.cons_append, List.nil_append, hc, ea]
theorem ll_end {C : CallF} {st : Store} {q : Str} {rest : List D} {k0 : D} {f : List Int} (q2 : sEq q "fact" = false) (q4 : op2 .isin (.str q) (.tuple [.str "all", .str "some"]) = some (.bool false)) (hf : f.length < 64)
    (h1 : ∃ s3, loopS (fun e s => exs C b__law_loose_0 e s) (.n 3) rest [.val (.tuple (.str q :: rest)), .val k0, .val (.list []), .un, .un] st = .nx [.val (.tuple (.str q :: rest)), .val k0, .val (.list (f.map PyData.int)), s3, .un] st) :
    endS st.length (exs C b__law_loose [.val (.tuple (.str q :: rest)), .val k0, .un, .un, .un] st) = .ok (.list ((sInts f).map PyData.int)) st := by
  obtain ⟨s3, h1⟩ := h1
  have a0 : ex C s__law_loose_0 [.val (.tuple (.str q :: rest)), .val k0, .un, .un, .un] st = .nx [.val (.tuple (.str q :: rest)), .val k0, .un, .un, .un] st := by
    rw [s__law_loose_0, ex_ife]
    have t : ev C (.bin .eq (.idx (.v 0) (.c (.int 0))) (.c (.str "fact"))) [.val (.tuple (.str q :: rest)), .val k0, .un, .un, .un] st = .ok (.bool false) st := by simp only [exs_cons, exs_nil, ex_ife, seq_nx, seq_ret, endS_ret, endS_nx, ift_t, ift_f, ift_or, ift_and, ifs_t, ev_ife, and_1, and_2, or_1, or_2, evc_0, evc_1, idx_list', idx_tup', at_0, at_1, at_2, at_3, ix_2_0, ix_2_1, tr_bool, eq_str, eq_int, lt_int', le_int', gt_int', add_int', sub_int', ex, ev, evs, eva, bind_ok, of_some, toS_ok, quiet_ok, get_0, get_s, List.set_cons_zero, List.set_cons_succ, LINE, List.length_cons, List.length_nil, Nat.reduceAdd, Nat.reduceLeDiff, decide_true, List.append_nil, List.map_nil, List.cons_append, List.nil_append, q2]
    rw [t, toS_ok, tr_bool, ift_f, exs_nil]
  have a1 : ex C s__law_loose_1 [.val (.tuple (.str q :: rest)), .val k0, .un, .un, .un] st = .nx [.val (.tuple (.str q :: rest)), .val k0, .un, .un, .un] st := by
    rw [s__law_loose_1, ex_ife]
    have t : ev C (.bin .isin (.idx (.v 0) (.c (.int 0))) (.tup (.cons (.c (.str "all")) (.cons (.c (.str "some")) .nil)))) [.val (.tuple (.str q :: rest)), .val k0, .un, .un, .un] st = .ok (.bool false) st := by simp only [exs_cons, exs_nil, ex_ife, seq_nx, seq_ret, endS_ret, endS_nx, ift_t, ift_f, ift_or, ift_and, ifs_t, ev_ife, and_1, and_2, or_1, or_2, evc_0, evc_1, idx_list', idx_tup', at_0, at_1, at_2, at_3, ix_2_0, ix_2_1, tr_bool, eq_str, eq_int, lt_int', le_int', gt_int', add_int', sub_int', ex, ev, evs, eva, bind_ok, of_some, toS_ok, quiet_ok, get_0, get_s, List.set_cons_zero, List.set_cons_succ, LINE, List.length_cons, List.length_nil, Nat.reduceAdd, Nat.reduceLeDiff, decide_true, List.append_nil, List.map_nil, List.cons_append, List.nil_append, q4]
    rw [t, toS_ok, tr_bool, ift_f, exs_nil]
  have a2 : ex C s__law_loose_2 [.val (.tuple (.str q :: rest)), .val k0, .un, .un, .un] st = .nx [.val (.tuple (.str q :: rest)), .val k0, .val (.list []), .un, .un] st := by
    simp only [s__law_loose_2, exs_cons, exs_nil, ex_ife, seq_nx, seq_ret, endS_ret, endS_nx, ift_t, ift_f, ift_or, ift_and, ifs_t, ev_ife, and_1, and_2, or_1, or_2, evc_0, evc_1, idx_list', idx_tup', at_0, at_1, at_2, at_3, ix_2_0, ix_2_1, tr_bool, eq_str, eq_int, lt_int', le_int', gt_int', add_int', sub_int', ex, ev, evs, eva, bind_ok, of_some, toS_ok, quiet_ok, get_0, get_s, List.set_cons_zero, List.set_cons_succ, LINE, List.length_cons, List.length_nil, Nat.reduceAdd, Nat.reduceLeDiff, decide_true, List.append_nil, List.map_nil, List.cons_append, List.nil_append]
  have ei : evi C (.e (.slc (.v 0) (.yes (.c (.int 1))) .no)) [.val (.tuple (.str q :: rest)), .val k0, .val (.list []), .un, .un] st = .ok rest st := by
    rw [evi]
    simp only [exs_cons, exs_nil, ex_ife, seq_nx, seq_ret, endS_ret, endS_nx, ift_t, ift_f, ift_or, ift_and, ifs_t, ev_ife, and_1, and_2, or_1, or_2, evc_0, evc_1, idx_list', idx_tup', at_0, at_1, at_2, at_3, ix_2_0, ix_2_1, tr_bool, eq_str, eq_int, lt_int', le_int', gt_int', add_int', sub_int', ex, ev, evs, eva, bind_ok, of_some, toS_ok, quiet_ok, get_0, get_s, List.set_cons_zero, List.set_cons_succ, LINE, List.length_cons, List.length_nil, Nat.reduceAdd, Nat.reduceLeDiff, decide_true, List.append_nil, List.map_nil, List.cons_append, List.nil_append, evo, cut1T, itemsD]
  have a3 : ex C s__law_loose_3 [.val (.tuple (.str q :: rest)), .val k0, .val (.list []), .un, .un] st = .nx [.val (.tuple (.str q :: rest)), .val k0, .val (.list (f.map PyData.int)), s3, .un] st := by
    rw [s__law_loose_3, ex_for, ei, toS_ok, h1]
  have a4 : ex C s__law_loose_4 [.val (.tuple (.str q :: rest)), .val k0, .val (.list (f.map PyData.int)), s3, .un] st = .ret (.list ((sInts f).map PyData.int)) st := by
    have t : ev C (.v 2) [.val (.tuple (.str q :: rest)), .val k0, .val (.list (f.map PyData.int)), s3, .un] st = .ok (.list (f.map PyData.int)) st := by simp only [exs_cons, exs_nil, ex_ife, seq_nx, seq_ret, endS_ret, endS_nx, ift_t, ift_f, ift_or, ift_and, ifs_t, ev_ife, and_1, and_2, or_1, or_2, evc_0, evc_1, idx_list', idx_tup', at_0, at_1, at_2, at_3, ix_2_0, ix_2_1, tr_bool, eq_str, eq_int, lt_int', le_int', gt_int', add_int', sub_int', ex, ev, evs, eva, bind_ok, of_some, toS_ok, quiet_ok, get_0, get_s, List.set_cons_zero, List.set_cons_succ, LINE, List.length_cons, List.length_nil, Nat.reduceAdd, Nat.reduceLeDiff, decide_true, List.append_nil, List.map_nil, List.cons_append, List.nil_append]
    rw [s__law_loose_4, ex, ev, t, bind_ok]
    show (IP.R.of ((keysD (f.map PyData.int)).bind fun ks => ifs (sB ks) (sF ks)) st).toS _ _ = _
    rw [set_ok hf]
    rfl
  rw [b__law_loose]
  simp only [exs_cons, a0, a1, a2, a3, a4, seq_nx, seq_ret, endS_ret]
  simp
theorem llooseG {B : List (Str × Str)} {n m : Nat} {d : D} {br ls : List Int} (x : VF B n m d br ls) : ∀ (N : Nat) (st : Store) (kn : List Int), n + 1 ≤ N → m ≤ 16 → kn.length + n ≤ 1000 →
    ∃ ws : List Int, ws.Pairwise (· < ·) ∧ (∀ k, k ∈ ws ↔ k ∈ ls ∧ k ∉ kn) ∧ ws.length ≤ 2 * m ∧ IP.run P N i__law_loose [.val d, .val (.list (kn.map PyData.int))] st = .ok (.list (ws.map PyData.int)) st := by
  obtain ⟨f1, g1, g2, g3, g4, g5, g6, _⟩ := l_facts
  obtain ⟨m1, m2⟩ := l_isin
  induction x with
  | @fact n m w ts a b c hm =>
    intro N st kn hn h8 hk
    obtain ⟨N, rfl⟩ : ∃ g, N = g + 2 := ⟨N - 2, by omega⟩
    have l1 := sInts_len ((tsI ts).filter fun z => !decide (z ∈ kn))
    have l2 := List.length_filter_le (fun z => !decide (z ∈ kn)) (tsI ts)
    have l3 := tsI_len ts
    refine ⟨_, sInts_srt _, fun k => ?_, by omega, lloose_fact (B := B) N st a c kn⟩
    rw [sInts_mem, sInts_mem, List.mem_filter]
    simp
  | @nt n m a br ls v ih =>
    intro N st kn hn h8 hk
    obtain ⟨N, rfl⟩ : ∃ g, N = g + 1 := ⟨N - 1, by omega⟩
    obtain ⟨ws, w1, w2, w3, w4⟩ := ih N st kn (by omega) h8 (by omega)
    have l1 := sInts_len ws
    refine ⟨sInts ws, sInts_srt _, fun k => by rw [sInts_mem, w2], by omega, ?_⟩
    rw [IP.run_succ (d := ⟨5, 2, b__law_loose, false⟩) rfl]
    show endS st.length (exs (IP.run P N) b__law_loose [.val (.tuple [.str "not", a]), .val (.list (kn.map PyData.int)), .un, .un, .un] st) = _
    refine ll_end q_not_fact m2 (by omega) ⟨.val a, ?_⟩
    refine (loop_3 rfl (ll_step _ st (f := []) w4 (by simp; omega))).trans ?_
    rw [loopS]
    rfl
  | @two n m m2' q a b b1 b2 l1 l2 hq v1 v2 hm ih1 ih2 =>
    intro N st kn hn h8 hk
    obtain ⟨N, rfl⟩ : ∃ g, N = g + 1 := ⟨N - 1, by omega⟩
    obtain ⟨ws, w1, w2, w3, w4⟩ := ih1 N st kn (by omega) (by omega) (by omega)
    obtain ⟨us, u1, u2, u3, u4⟩ := ih2 N st kn (by omega) (by omega) (by omega)
    have e1 := sInts_len (ws ++ us)
    rw [List.length_append] at e1
    obtain ⟨q2, q4⟩ : sEq q "fact" = false ∧ op2 .isin (.str q) (.tuple [.str "all", .str "some"]) = some (.bool false) := by
      simp only [List.mem_cons, List.not_mem_nil, or_false] at hq
      rcases hq with rfl | rfl | rfl
      · exact ⟨q_and_fact, g1⟩
      · exact ⟨q_or_fact, g2⟩
      · exact ⟨q_if_fact, g3⟩
    refine ⟨sInts (ws ++ us), sInts_srt _, fun k => ?_, by omega, ?_⟩
    · rw [sInts_mem, sInts_mem, List.mem_append, List.mem_append, w2, u2]
      constructor
      · rintro (⟨h1, h2⟩ | ⟨h1, h2⟩)
        · exact ⟨.inl h1, h2⟩
        · exact ⟨.inr h1, h2⟩
      · rintro ⟨h1 | h1, h2⟩
        · exact .inl ⟨h1, h2⟩
        · exact .inr ⟨h1, h2⟩
    rw [IP.run_succ (d := ⟨5, 2, b__law_loose, false⟩) rfl]
    show endS st.length (exs (IP.run P N) b__law_loose [.val (.tuple [.str q, a, b]), .val (.list (kn.map PyData.int)), .un, .un, .un] st) = _
    refine ll_end q2 q4 (by rw [List.length_append]; omega) ⟨.val b, ?_⟩
    refine (loop_3 rfl (ll_step _ st (f := []) w4 (by simp; omega))).trans ((loop_3 rfl (ll_step _ st (f := ws) u4 (by omega))).trans ?_)
    rw [loopS]
  | @any n m q i b br ls hq v ih =>
    intro N st kn hn h8 hk
    obtain ⟨N, rfl⟩ : ∃ g, N = g + 1 := ⟨N - 1, by omega⟩
    obtain ⟨ws, w1, w2, w3, w4⟩ := ih N st (kn ++ [i]) (by omega) h8 (by rw [List.length_append]; simp; omega)
    obtain ⟨q2, q4⟩ : sEq q "fact" = false ∧ op2 .isin (.str q) (.tuple [.str "all", .str "some"]) = some (.bool true) := by
      simp only [List.mem_cons, List.not_mem_nil, or_false] at hq
      rcases hq with rfl | rfl
      · exact ⟨q_all_fact, g5⟩
      · exact ⟨q_some_fact, g6⟩
    have ea : op2 .add (.list (kn.map PyData.int)) (.list [.int i]) = some (.list ((kn ++ [i]).map PyData.int)) := by
      rw [add_list, decide_eq_true (by simp only [List.length_map, List.length_cons, List.length_nil]; show kn.length + (0 + 1) ≤ 16777216; omega), List.map_append]
      rfl
    refine ⟨ws, w1, fun k => ?_, w3, ?_⟩
    · rw [w2, List.mem_filter, List.mem_append, List.mem_singleton]
      simp only [Bool.not_eq_true', decide_eq_false_iff_not]
      constructor
      · rintro ⟨h1, h2⟩
        exact ⟨⟨h1, fun e => h2 (.inr e)⟩, fun e => h2 (.inl e)⟩
      · rintro ⟨⟨h1, h2⟩, h3⟩
        exact ⟨h1, fun e => e.elim h3 h2⟩
    rw [IP.run_succ (d := ⟨5, 2, b__law_loose, false⟩) rfl]
    show endS st.length (exs (IP.run P N) b__law_loose [.val (.tuple [.str q, .int i, b]), .val (.list (kn.map PyData.int)), .un, .un, .un] st) = _
    simp only [b__law_loose, s__law_loose_0, s__law_loose_1, exs_cons, exs_nil, ex_ife, seq_nx, seq_ret, endS_ret, endS_nx, ift_t, ift_f, ift_or, ift_and, ifs_t, ev_ife, and_1, and_2, or_1, or_2, evc_0, evc_1, idx_list', idx_tup', at_0, at_1, at_2, at_3, ix_2_0, ix_2_1, tr_bool, eq_str, eq_int, lt_int', le_int', gt_int', add_int', sub_int', ex, ev, evs, eva, bind_ok, of_some, toS_ok, quiet_ok, get_0, get_s, List.set_cons_zero, List.set_cons_succ, LINE, List.length_cons, List.length_nil, Nat.reduceAdd, Nat.reduceLeDiff, decide_true, List.append_nil, List.map_nil, List.cons_append, List.nil_append, q2, q4, ea, w4]
    simp
theorem loose_same {B : List (Str × Str)} {n m : Nat} {d : D} {br ls : List Int} (x : VF B n m d br ls) (N : Nat) (st : Store) (hn : n + 1 ≤ N) (h8 : m ≤ 16) (h9 : n ≤ 900) : IP.run P N i__law_loose [.val d, .val (.list [])] st = .ok (.list (ls.map PyData.int)) st := by
  obtain ⟨ws, w1, w2, _, w4⟩ := llooseG x N st [] hn h8 (by simp; omega)
  have e : ws = ls := srt_unique w1 x.few.2 fun k => by rw [w2]; simp
  rw [e] at w4
  exact w4

/-! ### a thing equals itself -/
mutual
theorem eqv_refl : ∀ d : D, noDict d = true → PyData.eqv d d = true
  | .none, _ => by simp [PyData.eqv]
  | .bool b, _ => by simp [PyData.eqv]
  | .int i, _ => by simp [PyData.eqv]
  | .str s, _ => by simp [PyData.eqv]
  | .list xs, h => by
    rw [PyData.eqv]
    exact eqvAll_refl xs h
  | .tuple xs, h => by
    rw [PyData.eqv]
    exact eqvAll_refl xs h
  | .dict kvs, h => by cases h
theorem eqvAll_refl : ∀ xs : List D, noDicts xs = true → PyData.eqvAll xs xs = true
  | [], _ => by simp [PyData.eqvAll]
  | x :: xs, h => by
    rw [noDicts, Bool.and_eq_true] at h
    rw [PyData.eqvAll, eqv_refl x h.1, eqvAll_refl xs h.2]
    rfl
end
theorem eq_self {d : D} (h : noDict d = true) (hd : d.depth ≤ 150) : op2 .eq d d = some (.bool true) := by
  have e1 : eqOk d d = true := by
    unfold eqOk
    rw [h, decide_eq_true (show min d.depth d.depth ≤ 150 by omega)]
    rfl
  show ifs (eqOk d d) (PyData.bool (PyData.eqv d d)) = _
  rw [e1, eqv_refl d h]
  rfl

/-! ### what is no formula is refused -/
theorem seq_exc (x : Exc) (env : IP.Env) (st : Store) (f : IP.Env → Store → RS) : (RS.exc x env st).seq f = .exc x env st := rfl
theorem toS_exc {α : Type} (x : Exc) (st : Store) (env : IP.Env) (f : α → Store → RS) : (IP.R.exc x st : IP.R α).toS env f = .exc x env st := rfl
theorem endS_exc (x : Exc) (env : IP.Env) (st : Store) (n : Nat) : endS n (.exc x env st) = .exc x (st.take n) := rfl
theorem bind_exc {α β : Type} (x : Exc) (st : Store) (f : α → Store → IP.R β) : (IP.R.exc x st : IP.R α).bind f = .exc x st := rfl
abbrev NF (d : D) : Exc := ⟨"BadFormula", some ("formula", d)⟩
section
variable (n : Nat) (st : Store) {B : List (Str × Str)} (hB : Book B) {d : D} (h : ∀ (N : Nat) (st : Store), 12 ≤ N → IP.run P (N + 1) i_is_formula_of [.val (.tuple (B.map rowD)), .val d] st = .ok (.bool false) st)
include hB h
theorem no_lookF (hn : 12 ≤ n) : IP.run P (n + 2) i_look_formula [.val (.tuple (B.map rowD)), .val d] st = .exc (NF d) st := by
  obtain ⟨n, rfl⟩ : ∃ g, n = g + 2 := ⟨n - 2, by omega⟩
  rw [IP.run_succ (d := ⟨2, 2, b_look_formula, false⟩) rfl]
  show endS st.length (exs (IP.run P (n + 2 + 1)) b_look_formula [.val (.tuple (B.map rowD)), .val d] st) = _
  simp only [b_look_formula, s_look_formula_0, s_look_formula_1, exs_cons, exs_nil, ex_ife, seq_nx, seq_ret, endS_ret, endS_nx, ift_t, ift_f, ift_or, ift_and, ifs_t, ev_ife, and_1, and_2, or_1, or_2, evc_0, evc_1, idx_list', idx_tup', at_0, at_1, at_2, at_3, ix_2_0, ix_2_1, tr_bool, eq_str, eq_int, lt_int', le_int', gt_int', add_int', sub_int', ex, ev, evs, eva, bind_ok, of_some, toS_ok, quiet_ok, get_0, get_s, List.set_cons_zero, List.set_cons_succ, LINE, List.length_cons, List.length_nil, Nat.reduceAdd, Nat.reduceLeDiff, decide_true, List.append_nil, List.map_nil, List.cons_append, List.nil_append, w_look n st hB, h (n + 2) st (by omega), Bool.not_false, seq_exc, endS_exc, List.take_length]
theorem no_lookP (hn : 12 ≤ n) : IP.run P (n + 3) i_look_plain [.val (.tuple (B.map rowD)), .val d] st = .exc (NF d) st := by
  rw [IP.run_succ (d := ⟨2, 2, b_look_plain, false⟩) rfl]
  show endS st.length (exs (IP.run P (n + 2)) b_look_plain [.val (.tuple (B.map rowD)), .val d] st) = _
  simp only [b_look_plain, s_look_plain_0, exs_cons, exs_nil, ex_ife, seq_nx, seq_ret, endS_ret, endS_nx, ift_t, ift_f, ift_or, ift_and, ifs_t, ev_ife, and_1, and_2, or_1, or_2, evc_0, evc_1, idx_list', idx_tup', at_0, at_1, at_2, at_3, ix_2_0, ix_2_1, tr_bool, eq_str, eq_int, lt_int', le_int', gt_int', add_int', sub_int', ex, ev, evs, eva, bind_ok, of_some, toS_ok, quiet_ok, get_0, get_s, List.set_cons_zero, List.set_cons_succ, LINE, List.length_cons, List.length_nil, Nat.reduceAdd, Nat.reduceLeDiff, decide_true, List.append_nil, List.map_nil, List.cons_append, List.nil_append, no_lookF n st hB h hn, toS_exc, bind_exc, seq_exc, endS_exc, List.take_length]
theorem no_loose (hn : 12 ≤ n) : IP.run P (n + 3) i_loose [.val (.tuple (B.map rowD)), .val d] st = .exc (NF d) st := by
  rw [IP.run_succ (d := ⟨2, 2, b_loose, false⟩) rfl]
  show endS st.length (exs (IP.run P (n + 2)) b_loose [.val (.tuple (B.map rowD)), .val d] st) = _
  simp only [b_loose, s_loose_0, exs_cons, exs_nil, ex_ife, seq_nx, seq_ret, endS_ret, endS_nx, ift_t, ift_f, ift_or, ift_and, ifs_t, ev_ife, and_1, and_2, or_1, or_2, evc_0, evc_1, idx_list', idx_tup', at_0, at_1, at_2, at_3, ix_2_0, ix_2_1, tr_bool, eq_str, eq_int, lt_int', le_int', gt_int', add_int', sub_int', ex, ev, evs, eva, bind_ok, of_some, toS_ok, quiet_ok, get_0, get_s, List.set_cons_zero, List.set_cons_succ, LINE, List.length_cons, List.length_nil, Nat.reduceAdd, Nat.reduceLeDiff, decide_true, List.append_nil, List.map_nil, List.cons_append, List.nil_append, no_lookF n st hB h hn, toS_exc, bind_exc, seq_exc, endS_exc, List.take_length]
theorem no_flat (hn : 12 ≤ n) : IP.run P (n + 3) i_flat [.val (.tuple (B.map rowD)), .val d] st = .exc (NF d) st := by
  rw [IP.run_succ (d := ⟨2, 2, b_flat, false⟩) rfl]
  show endS st.length (exs (IP.run P (n + 2)) b_flat [.val (.tuple (B.map rowD)), .val d] st) = _
  simp only [b_flat, s_flat_0, exs_cons, exs_nil, ex_ife, seq_nx, seq_ret, endS_ret, endS_nx, ift_t, ift_f, ift_or, ift_and, ifs_t, ev_ife, and_1, and_2, or_1, or_2, evc_0, evc_1, idx_list', idx_tup', at_0, at_1, at_2, at_3, ix_2_0, ix_2_1, tr_bool, eq_str, eq_int, lt_int', le_int', gt_int', add_int', sub_int', ex, ev, evs, eva, bind_ok, of_some, toS_ok, quiet_ok, get_0, get_s, List.set_cons_zero, List.set_cons_succ, LINE, List.length_cons, List.length_nil, Nat.reduceAdd, Nat.reduceLeDiff, decide_true, List.append_nil, List.map_nil, List.cons_append, List.nil_append, no_lookF n st hB h hn, toS_exc, bind_exc, seq_exc, endS_exc, List.take_length]
theorem no_shown (hn : 12 ≤ n) : IP.run P (n + 3) i_shown [.val (.tuple (B.map rowD)), .val d] st = .exc (NF d) st := by
  rw [IP.run_succ (d := ⟨2, 2, b_shown, false⟩) rfl]
  show endS st.length (exs (IP.run P (n + 2)) b_shown [.val (.tuple (B.map rowD)), .val d] st) = _
  simp only [b_shown, s_shown_0, exs_cons, exs_nil, ex_ife, seq_nx, seq_ret, endS_ret, endS_nx, ift_t, ift_f, ift_or, ift_and, ifs_t, ev_ife, and_1, and_2, or_1, or_2, evc_0, evc_1, idx_list', idx_tup', at_0, at_1, at_2, at_3, ix_2_0, ix_2_1, tr_bool, eq_str, eq_int, lt_int', le_int', gt_int', add_int', sub_int', ex, ev, evs, eva, bind_ok, of_some, toS_ok, quiet_ok, get_0, get_s, List.set_cons_zero, List.set_cons_succ, LINE, List.length_cons, List.length_nil, Nat.reduceAdd, Nat.reduceLeDiff, decide_true, List.append_nil, List.map_nil, List.cons_append, List.nil_append, no_lookF n st hB h hn, toS_exc, bind_exc, seq_exc, endS_exc, List.take_length]
theorem no_pushed (hn : 12 ≤ n) : IP.run P (n + 4) i_pushed [.val (.tuple (B.map rowD)), .val d] st = .exc (NF d) st := by
  rw [IP.run_succ (d := ⟨2, 2, b_pushed, false⟩) rfl]
  show endS st.length (exs (IP.run P (n + 3)) b_pushed [.val (.tuple (B.map rowD)), .val d] st) = _
  simp only [b_pushed, s_pushed_0, exs_cons, exs_nil, ex_ife, seq_nx, seq_ret, endS_ret, endS_nx, ift_t, ift_f, ift_or, ift_and, ifs_t, ev_ife, and_1, and_2, or_1, or_2, evc_0, evc_1, idx_list', idx_tup', at_0, at_1, at_2, at_3, ix_2_0, ix_2_1, tr_bool, eq_str, eq_int, lt_int', le_int', gt_int', add_int', sub_int', ex, ev, evs, eva, bind_ok, of_some, toS_ok, quiet_ok, get_0, get_s, List.set_cons_zero, List.set_cons_succ, LINE, List.length_cons, List.length_nil, Nat.reduceAdd, Nat.reduceLeDiff, decide_true, List.append_nil, List.map_nil, List.cons_append, List.nil_append, no_lookP n st hB h hn, toS_exc, bind_exc, seq_exc, endS_exc, List.take_length]
theorem w_refusedF (nd : noDict d = true) (hd : d.depth ≤ 150) (w : Int) (hn : 12 ≤ n) : IP.run P (n + 5) i__law_formula_refused [.val (.int w), .val (.tuple (B.map rowD)), .val d] st = .ok (.bool true) st := by
  rw [IP.run_succ (d := ⟨4, 3, b__law_formula_refused, false⟩) rfl]
  have hb : exs (IP.run P (n + 4)) b__law_formula_refused_0 [.val (.int w), .val (.tuple (B.map rowD)), .val d, .un] st = .exc (NF d) [.val (.int w), .val (.tuple (B.map rowD)), .val d, .un] st := by
    rw [b__law_formula_refused_0]
    cases e0 : decide (w = 0) with
    | true => simp only [exs_cons, exs_nil, ex_ife, seq_nx, seq_ret, endS_ret, endS_nx, ift_t, ift_f, ift_or, ift_and, ifs_t, ev_ife, and_1, and_2, or_1, or_2, evc_0, evc_1, idx_list', idx_tup', at_0, at_1, at_2, at_3, ix_2_0, ix_2_1, tr_bool, eq_str, eq_int, lt_int', le_int', gt_int', add_int', sub_int', ex, ev, evs, eva, bind_ok, of_some, toS_ok, quiet_ok, get_0, get_s, List.set_cons_zero, List.set_cons_succ, LINE, List.length_cons, List.length_nil, Nat.reduceAdd, Nat.reduceLeDiff, decide_true, List.append_nil, List.map_nil, List.cons_append, List.nil_append, e0, no_loose (n + 1) st hB h (by omega), toS_exc, bind_exc, seq_exc]
    | false =>
      cases e1 : decide (w = 1) with
      | true => simp only [exs_cons, exs_nil, ex_ife, seq_nx, seq_ret, endS_ret, endS_nx, ift_t, ift_f, ift_or, ift_and, ifs_t, ev_ife, and_1, and_2, or_1, or_2, evc_0, evc_1, idx_list', idx_tup', at_0, at_1, at_2, at_3, ix_2_0, ix_2_1, tr_bool, eq_str, eq_int, lt_int', le_int', gt_int', add_int', sub_int', ex, ev, evs, eva, bind_ok, of_some, toS_ok, quiet_ok, get_0, get_s, List.set_cons_zero, List.set_cons_succ, LINE, List.length_cons, List.length_nil, Nat.reduceAdd, Nat.reduceLeDiff, decide_true, List.append_nil, List.map_nil, List.cons_append, List.nil_append, e0, e1, no_flat (n + 1) st hB h (by omega), toS_exc, bind_exc, seq_exc]
      | false =>
        cases e2 : decide (w = 2) with
        | true => simp only [exs_cons, exs_nil, ex_ife, seq_nx, seq_ret, endS_ret, endS_nx, ift_t, ift_f, ift_or, ift_and, ifs_t, ev_ife, and_1, and_2, or_1, or_2, evc_0, evc_1, idx_list', idx_tup', at_0, at_1, at_2, at_3, ix_2_0, ix_2_1, tr_bool, eq_str, eq_int, lt_int', le_int', gt_int', add_int', sub_int', ex, ev, evs, eva, bind_ok, of_some, toS_ok, quiet_ok, get_0, get_s, List.set_cons_zero, List.set_cons_succ, LINE, List.length_cons, List.length_nil, Nat.reduceAdd, Nat.reduceLeDiff, decide_true, List.append_nil, List.map_nil, List.cons_append, List.nil_append, e0, e1, e2, no_shown (n + 1) st hB h (by omega), toS_exc, bind_exc, seq_exc]
        | false => simp only [exs_cons, exs_nil, ex_ife, seq_nx, seq_ret, endS_ret, endS_nx, ift_t, ift_f, ift_or, ift_and, ifs_t, ev_ife, and_1, and_2, or_1, or_2, evc_0, evc_1, idx_list', idx_tup', at_0, at_1, at_2, at_3, ix_2_0, ix_2_1, tr_bool, eq_str, eq_int, lt_int', le_int', gt_int', add_int', sub_int', ex, ev, evs, eva, bind_ok, of_some, toS_ok, quiet_ok, get_0, get_s, List.set_cons_zero, List.set_cons_succ, LINE, List.length_cons, List.length_nil, Nat.reduceAdd, Nat.reduceLeDiff, decide_true, List.append_nil, List.map_nil, List.cons_append, List.nil_append, e0, e1, e2, no_pushed n st hB h hn, toS_exc, bind_exc, seq_exc]
  show endS st.length (exs (IP.run P (n + 4)) b__law_formula_refused [.val (.int w), .val (.tuple (B.map rowD)), .val d, .un] st) = _
  have a0 : ex (IP.run P (n + 4)) s__law_formula_refused_0 [.val (.int w), .val (.tuple (B.map rowD)), .val d, .un] st = .ret (.bool true) st := by
    rw [s__law_formula_refused_0, ex, hb]
    have e : decide ((NF d).cls = ("BadFormula" : Str)) = true := by simp
    dsimp only
    rw [e]
    show (match decide (("formula" : Str) = "formula"), op2 .eq d d with
      | true, some r => RS.ret r st
      | _, _ => .stuck) = _
    rw [eq_self nd hd, decide_eq_true rfl]
  rw [b__law_formula_refused, exs_cons, a0, seq_ret, endS_ret, List.take_length]
end

/-! ### drawn formulas are looked at; spoilt ones -/
theorem TH.gt {B : List (Str × Str)} {t : D} (h : TH B t) : GT t := by
  rcases h with ⟨s, rfl, _⟩ | ⟨k, _, rfl⟩ | ⟨k, _, rfl⟩
  · exact .inl ⟨s, rfl⟩
  · exact .inr (.inl ⟨_, rfl⟩)
  · exact .inr (.inr (.inr ⟨_, rfl⟩))
theorem two_pow_s (h : Nat) : 2 ^ h + 2 ^ h = 2 ^ (h + 1) := by rw [Nat.pow_succ]; omega
theorem fd_gf {B : List (Str × Str)} {f : Fm} {h a b : Nat} (x : FD B f h a b) : GF h (2 ^ h) (fmD f) := by
  have one : ∀ {n m : Nat} {q : Str} {p : D}, GF n m p → ∀ y ∈ [p], GF n m y := fun h y m => by rw [List.mem_singleton.mp m]; exact h
  induction x with
  | @fact w k ts h m a b c d => exact .fact (.ok (fun t m => (d t m).gt) (by have := plc_2 k; omega)) Nat.one_le_two_pow
  | @nt a h m m' x ih =>
    exact .nt (fun y m => by rw [List.mem_singleton.mp m]; exact ih.weak (Nat.le_refl _) (Nat.pow_le_pow_right (by decide) (by omega))) (by simp)
  | @cj a b h m m1 m' x y i1 i2 =>
    exact .two (by simp) (fun y m => by
      simp only [List.mem_cons, List.not_mem_nil, or_false] at m
      rcases m with rfl | rfl
      · exact i1
      · exact i2) (by simp) (Nat.le_of_eq (two_pow_s h))
  | @dj a b h m m1 m' x y i1 i2 =>
    exact .two (by simp) (fun y m => by
      simp only [List.mem_cons, List.not_mem_nil, or_false] at m
      rcases m with rfl | rfl
      · exact i1
      · exact i2) (by simp) (Nat.le_of_eq (two_pow_s h))
  | @im a b h m m1 m' x y i1 i2 =>
    exact .two (by simp) (fun y m => by
      simp only [List.mem_cons, List.not_mem_nil, or_false] at m
      rcases m with rfl | rfl
      · exact i1
      · exact i2) (by simp) (Nat.le_of_eq (two_pow_s h))
  | @al a h m m' l x ih =>
    exact .any (by simp) (fun y m => by
      simp only [List.mem_cons, List.not_mem_nil, or_false] at m
      rcases m with rfl | rfl
      · exact .int _
      · exact ih.weak (Nat.le_refl _) (Nat.pow_le_pow_right (by decide) (by omega))) (by simp)
  | @sm a h m m' l x ih =>
    exact .any (by simp) (fun y m => by
      simp only [List.mem_cons, List.not_mem_nil, or_false] at m
      rcases m with rfl | rfl
      · exact .int _
      · exact ih.weak (Nat.le_refl _) (Nat.pow_le_pow_right (by decide) (by omega))) (by simp)

/-! ### spoilt formulas -/
theorem fd_depth {B : List (Str × Str)} {f : Fm} {h a b : Nat} (x : FD B f h a b) : (fmD f).depth ≤ h + 3 := by
  induction x with
  | @fact w k ts h m a b c d =>
    refine Nat.le_trans (head_depth (q := "fact") (c := 3) (by omega) (rest := [.str w, .tuple ts]) fun t m => ?_) (by omega)
    simp only [List.mem_cons, List.not_mem_nil, or_false] at m
    rcases m with rfl | rfl
    · have := str_depth w; omega
    · exact tup_depth (depthAll_of fun t m => (d t m).gt.depth)
  | @nt a h m m' x ih =>
    exact head_depth (q := "not") (c := h + 3) (by omega) (rest := [fmD a]) fun t m => by rw [List.mem_singleton.mp m]; exact ih
  | @cj a b h m m1 m' x y i1 i2 =>
    exact head_depth (q := "and") (c := h + 3) (by omega) (rest := [fmD a, fmD b]) fun t m => by
      simp only [List.mem_cons, List.not_mem_nil, or_false] at m
      rcases m with rfl | rfl
      · exact i1
      · exact i2
  | @dj a b h m m1 m' x y i1 i2 =>
    exact head_depth (q := "or") (c := h + 3) (by omega) (rest := [fmD a, fmD b]) fun t m => by
      simp only [List.mem_cons, List.not_mem_nil, or_false] at m
      rcases m with rfl | rfl
      · exact i1
      · exact i2
  | @im a b h m m1 m' x y i1 i2 =>
    exact head_depth (q := "if") (c := h + 3) (by omega) (rest := [fmD a, fmD b]) fun t m => by
      simp only [List.mem_cons, List.not_mem_nil, or_false] at m
      rcases m with rfl | rfl
      · exact i1
      · exact i2
  | @al a h m m' l x ih =>
    exact head_depth (q := "all") (c := h + 3) (by omega) (rest := [.int m, fmD a]) fun t mt => by
      simp only [List.mem_cons, List.not_mem_nil, or_false] at mt
      rcases mt with rfl | rfl
      · have := int_depth m; omega
      · exact ih
  | @sm a h m m' l x ih =>
    exact head_depth (q := "some") (c := h + 3) (by omega) (rest := [.int m, fmD a]) fun t mt => by
      simp only [List.mem_cons, List.not_mem_nil, or_false] at mt
      rcases mt with rfl | rfl
      · have := int_depth m; omega
      · exact ih
/-- what may stand behind a formula's head -/
def Cl (q : Str) : Prop := ∀ (n m : Nat) (rest : List D), 1 ≤ m → (∀ p ∈ rest, GF n m p) → rest.length ≤ 5 → GF (n + 1) (m + m) (.tuple (.str q :: rest))
theorem cl_nt : Cl "not" := fun n m rest h1 h2 h3 => .nt (fun p mp => (h2 p mp).weak (Nat.le_refl _) (by omega)) h3
theorem cl_two {q : Str} (h : q ∈ (["and", "or", "if"] : List Str)) : Cl q := fun n m rest h1 h2 h3 => .two h h2 h3 (Nat.le_refl _)
theorem cl_any {q : Str} (h : q ∈ (["all", "some"] : List Str)) : Cl q := fun n m rest h1 h2 h3 => .any h (fun p mp => (h2 p mp).weak (Nat.le_refl _) (by omega)) h3
theorem fmD_isi (f : Fm) : isiD (fmD f) .tuple = true := by cases f <;> rfl
def PT (B : List (Str × Str)) (g : Nat) (p : D) : Prop := (∃ i : Int, p = .int i) ∨ ∃ f a b, p = fmD f ∧ FD B f g a b
theorem fd_parts {B : List (Str × Str)} {f : Fm} {h a b : Nat} (x : FD B f h a b) : ∃ g q rest, h = g + 1 ∧ fmD f = .tuple (.str q :: rest) ∧ rest.length ≤ 2 ∧
    ((q = "fact" ∧ ∃ w ts, rest = [.str w, .tuple ts] ∧ (∀ t ∈ ts, GT t) ∧ ts.length ≤ 10) ∨
     (sEq q "fact" = false ∧ Cl q ∧ (∀ p ∈ rest, PT B g p) ∧ ∃ p ∈ rest, isiD p .tuple = true)) := by
  cases x with
  | @fact w k ts h _ a b c d => exact ⟨h, _, _, rfl, rfl, Nat.le_refl _, .inl ⟨rfl, w, ts, rfl, fun t m => (d t m).gt, by have := plc_2 k; omega⟩⟩
  | @nt a h _ _ y => exact ⟨h, _, _, rfl, rfl, by simp, .inr ⟨by kernel_rfl, cl_nt, fun p m => by rw [List.mem_singleton.mp m]; exact .inr ⟨_, _, _, rfl, y⟩, _, List.mem_cons_self, fmD_isi _⟩⟩
  | @cj a b h _ m1 _ y z =>
    exact ⟨h, _, _, rfl, rfl, by simp, .inr ⟨by kernel_rfl, cl_two (by simp), fun p m => by
      simp only [List.mem_cons, List.not_mem_nil, or_false] at m
      rcases m with rfl | rfl
      · exact .inr ⟨_, _, _, rfl, y⟩
      · exact .inr ⟨_, _, _, rfl, z⟩, _, List.mem_cons_self, fmD_isi _⟩⟩
  | @dj a b h _ m1 _ y z =>
    exact ⟨h, _, _, rfl, rfl, by simp, .inr ⟨by kernel_rfl, cl_two (by simp), fun p m => by
      simp only [List.mem_cons, List.not_mem_nil, or_false] at m
      rcases m with rfl | rfl
      · exact .inr ⟨_, _, _, rfl, y⟩
      · exact .inr ⟨_, _, _, rfl, z⟩, _, List.mem_cons_self, fmD_isi _⟩⟩
  | @im a b h _ m1 _ y z =>
    exact ⟨h, _, _, rfl, rfl, by simp, .inr ⟨by kernel_rfl, cl_two (by simp), fun p m => by
      simp only [List.mem_cons, List.not_mem_nil, or_false] at m
      rcases m with rfl | rfl
      · exact .inr ⟨_, _, _, rfl, y⟩
      · exact .inr ⟨_, _, _, rfl, z⟩, _, List.mem_cons_self, fmD_isi _⟩⟩
  | @al a h _ _ l y =>
    exact ⟨h, _, _, rfl, rfl, by simp, .inr ⟨by kernel_rfl, cl_any (by simp), fun p mt => by
      simp only [List.mem_cons, List.not_mem_nil, or_false] at mt
      rcases mt with rfl | rfl
      · exact .inl ⟨_, rfl⟩
      · exact .inr ⟨_, _, _, rfl, y⟩, _, List.mem_cons_of_mem _ List.mem_cons_self, fmD_isi _⟩⟩
  | @sm a h _ _ l y =>
    exact ⟨h, _, _, rfl, rfl, by simp, .inr ⟨by kernel_rfl, cl_any (by simp), fun p mt => by
      simp only [List.mem_cons, List.not_mem_nil, or_false] at mt
      rcases mt with rfl | rfl
      · exact .inl ⟨_, rfl⟩
      · exact .inr ⟨_, _, _, rfl, y⟩, _, List.mem_cons_of_mem _ List.mem_cons_self, fmD_isi _⟩⟩
theorem PT.gf {B : List (Str × Str)} {g : Nat} {p : D} (h : PT B g p) : GF g (2 ^ g) p := by
  rcases h with ⟨i, rfl⟩ | ⟨f, a, b, rfl, x⟩
  · exact .int i
  · exact fd_gf x
/-- the twenty-one -/
def V21 (xs : List D) : List D := [.none, .tuple [], .tuple (cutD xs none (some (-1))), .tuple (xs ++ [.int 1]), .list xs, .tuple [.str "not"], .tuple [.str "fact", .str "man", .tuple []],
  .tuple [.str "fact", .str "man", .tuple [.int 0, .int 1]], .tuple [.str "fact", .str "ann", .tuple [.str "ann"]], .tuple [.str "fact", .str "man", .tuple [.int 100]],
  .tuple [.str "fact", .str "man", .tuple [.tuple [.str "it", .int 3]]], .tuple [.str "fact", .str "man", .tuple [.int 7]], .tuple [.str "xor", .tuple xs, .tuple xs],
  .tuple [.str "all", .int 0, .tuple [.str "all", .int 0, .tuple [.str "fact", .str "man", .tuple [.int 0]]]], .tuple [.str "some", .int 100, .tuple [.str "fact", .str "man", .tuple [.int 0]]],
  .tuple [.str "fact", .str "man", .tuple [.tuple [.str "it", .int 100]]], .tuple [.str "fact", .str "man", .tuple [.str "man"]], .tuple [.str "fact", .str "man", .tuple [.bool true]],
  .tuple [.str "not", .tuple xs], .int 7, .tuple [.str "fact", .str "owns", .tuple [.str "ann"]]]
theorem v21_len (xs : List D) : (V21 xs).length = 21 := rfl
theorem gf_1 {n m : Nat} {w : Str} {t : D} (h : 1 ≤ m) (ht : GT t) : GF (n + 1) m (.tuple [.str "fact", .str w, .tuple [t]]) := .fact (.ok (fun y m => by rw [List.mem_singleton.mp m]; exact ht) (by simp)) h
theorem gf_any {n m : Nat} {q : Str} {i : Int} {d : D} (hq : q ∈ (["all", "some"] : List Str)) (h : GF n m d) : GF (n + 1) m (.tuple [.str q, .int i, d]) := .any hq (fun y m => by
  simp only [List.mem_cons, List.not_mem_nil, or_false] at m
  rcases m with rfl | rfl
  · exact .int _
  · exact h) (by simp)
theorem cut_last (xs : List D) : cutD xs none (some (-1)) = xs.take (xs.length - 1) := by
  unfold cutD
  rw [HT.sIx_none, List.drop_zero]
  have e : HT.sIx (xs.length) xs.length (some (-1)) = xs.length - 1 := by
    unfold HT.sIx
    simp
    omega
  rw [Nat.sub_zero]
  first
    | rw [e]
    | (congr 1)

theorem v21_gf {B : List (Str × Str)} {f : Fm} {h a b : Nat} (x : FD B f h a b) {xs : List D} (e : fmD f = .tuple xs) (hh : h ≤ 90) : ∀ y ∈ V21 xs, GF (h + 3) (2 ^ h) y := by
  have p1 : 1 ≤ 2 ^ h := Nat.one_le_two_pow
  have hx := fd_gf x
  have hd := fd_depth x
  rw [e] at hx hd
  have hgf : ∀ q ∈ [.tuple xs], GF (h + 2) (2 ^ h) q := fun q m => by rw [List.mem_singleton.mp m]; exact hx.weak (by omega) (Nat.le_refl _)
  obtain ⟨g, q, rest, rfl, e2, hl, hc⟩ := fd_parts x
  have e3 : xs = .str q :: rest := by
    rw [e] at e2
    injection e2
  intro y m
  unfold V21 at m
  simp only [List.mem_cons, List.not_mem_nil, or_false] at m
  rcases m with rfl | rfl | rfl | rfl | rfl | rfl | rfl | rfl | rfl | rfl | rfl | rfl | rfl | rfl | rfl | rfl | rfl | rfl | rfl | rfl | rfl
  · exact .non
  · exact .nil
  · rw [cut_last, e3]
    rcases hc with ⟨rfl, w, ts, rfl, _, _⟩ | ⟨_, cl, hp, _⟩
    · exact .fact .w1 p1
    · cases rest with
      | nil => exact .nil
      | cons r0 rest =>
        have ep : (2 : Nat) ^ (g + 1) = 2 ^ g + 2 ^ g := (two_pow_s g).symm
        rw [ep]
        refine GF.weak (n' := g + 1 + 3) (cl g (2 ^ g) ((r0 :: rest).take rest.length) Nat.one_le_two_pow (fun p m => (hp p (List.mem_of_mem_take m)).gf) ?_) (by omega) (Nat.le_refl _)
        rw [List.length_take, List.length_cons] 
        rw [List.length_cons] at hl
        omega
  · rw [e3]
    rcases hc with ⟨rfl, w, ts, rfl, h1, h2⟩ | ⟨_, cl, hp, _⟩
    · exact .fact (.more h1 h2) p1
    · have ep : (2 : Nat) ^ (g + 1) = 2 ^ g + 2 ^ g := (two_pow_s g).symm
      rw [ep]
      rw [List.cons_append]
      refine GF.weak (n' := g + 1 + 3) (cl g (2 ^ g) (rest ++ [.int 1]) Nat.one_le_two_pow (fun p m => ?_) ?_) (by omega) (Nat.le_refl _)
      · rcases List.mem_append.mp m with m | m
        · exact (hp p m).gf
        · rw [List.mem_singleton.mp m]
          exact .int 1
      · rw [List.length_append]
        simp
        omega
  · exact .lst (by have := hx.nd; rw [noDict] at this; exact this) (by
      simp only [PyData.depth] at hd
      omega)
  · exact .nt (fun p m => nomatch m) (by simp)
  · exact .fact (.ok (fun t m => nomatch m) (by simp)) p1
  · exact .fact (.ok (fun t m => by
      simp only [List.mem_cons, List.not_mem_nil, or_false] at m
      rcases m with rfl | rfl
      · exact .inr (.inl ⟨_, rfl⟩)
      · exact .inr (.inl ⟨_, rfl⟩)) (by simp)) p1
  · exact gf_1 p1 (.inl ⟨_, rfl⟩)
  · exact gf_1 p1 (.inr (.inl ⟨_, rfl⟩))
  · exact gf_1 p1 (.inr (.inr (.inr ⟨_, rfl⟩)))
  · exact gf_1 p1 (.inr (.inl ⟨_, rfl⟩))
  · exact .xor (fun p m => by
      simp only [List.mem_cons, List.not_mem_nil, or_false] at m
      rcases m with rfl | rfl
      · exact hgf _ List.mem_cons_self
      · exact hgf _ List.mem_cons_self) (by simp)
  · exact gf_any (n := g + 3) (by simp) (gf_any (n := g + 2) (by simp) (gf_1 p1 (.inr (.inl ⟨_, rfl⟩))))
  · exact gf_any (n := g + 3) (by simp) (gf_1 p1 (.inr (.inl ⟨_, rfl⟩)))
  · exact gf_1 p1 (.inr (.inr (.inr ⟨_, rfl⟩)))
  · exact gf_1 p1 (.inl ⟨_, rfl⟩)
  · exact gf_1 p1 (.inr (.inr (.inl ⟨_, rfl⟩)))
  · exact .nt hgf (by simp)
  · exact .int _
  · exact gf_1 p1 (.inl ⟨_, rfl⟩)

/-! ### spots -/
theorem rng_len : ∀ (n : Nat) (lo : Int), (rangeD lo n).length = n
  | 0, _ => rfl
  | n + 1, lo => by rw [rangeD, List.length_cons, rng_len n]
theorem rng_mem : ∀ {n : Nat} {lo : Int} {y : D}, y ∈ rangeD lo n → ∃ i : Nat, i < n ∧ y = .int (lo + i)
  | 0, _, _, h => by simp [rangeD] at h
  | n + 1, lo, y, h => by
    rw [rangeD] at h
    rcases List.mem_cons.mp h with rfl | h
    · exact ⟨0, by omega, by simp⟩
    · obtain ⟨i, h1, rfl⟩ := rng_mem h
      exact ⟨i + 1, by omega, by congr 1; omega⟩
theorem rng_all : ∀ {n : Nat} {lo : Int} {i : Nat}, i < n → (.int (lo + i) : D) ∈ rangeD lo n
  | 0, _, _, h => by omega
  | n + 1, lo, 0, _ => by rw [rangeD]; simp
  | n + 1, lo, i + 1, h => by
    rw [rangeD]
    refine List.mem_cons_of_mem _ ?_
    have := rng_all (lo := lo + 1) (show i < n by omega)
    have e : lo + 1 + (i : Int) = lo + ((i + 1 : Nat) : Int) := by omega
    rw [e] at this
    exact this
/-- the spots that hold a tuple -/
def spotP (xs : List D) : D → Bool
  | .int i => isiD (xs.getD i.toNat .none) .tuple
  | _ => false
theorem rng_ok {k : Nat} (h : k ≤ 10) : (rngOk 1 && rngOk (k : Int)) = true := by
  unfold rngOk
  simp only [Bool.and_eq_true, decide_eq_true_eq]
  omega
theorem spots_it (C : CallF) (st : Store) (xs : List D) (s1 s2 s3 s4 s6 : IP.Slot) (h1 : 1 ≤ xs.length) (hl : xs.length ≤ 10) : evi C (.range2 (.c (.int 1)) (.f1 .len (.v 0))) [.val (.tuple xs), s1, s2, s3, s4, .un, s6] st = .ok (rangeD 1 (xs.length - 1)) st := by
  have e2 : ((xs.length : Int) - 1).toNat = xs.length - 1 := by omega
  have e0 : ev C (.c (.int 1)) [.val (.tuple xs), s1, s2, s3, s4, .un, s6] st = .ok (.int 1) st := by rw [ev]
  have e1 : ev C (.f1 .len (.v 0)) [.val (.tuple xs), s1, s2, s3, s4, .un, s6] st = .ok (.int xs.length) st := by simp only [exs_cons, exs_nil, ex_ife, seq_nx, seq_ret, endS_ret, endS_nx, ift_t, ift_f, ift_or, ift_and, ifs_t, ev_ife, and_1, and_2, or_1, or_2, evc_0, evc_1, idx_list', idx_tup', at_0, at_1, at_2, at_3, ix_2_0, ix_2_1, tr_bool, eq_str, eq_int, lt_int', le_int', gt_int', add_int', sub_int', ex, ev, evs, eva, bind_ok, of_some, toS_ok, quiet_ok, get_0, get_s, List.set_cons_zero, List.set_cons_succ, LINE, List.length_cons, List.length_nil, Nat.reduceAdd, Nat.reduceLeDiff, decide_true, List.append_nil, List.map_nil, List.cons_append, List.nil_append, f1D]
  have e3 : ∀ b : Bool, b = true → IP.R.of (ifs b (rangeD 1 ((xs.length : Int) - 1).toNat)) st = .ok (rangeD 1 (xs.length - 1)) st := fun b h => by
    rw [h, e2]
    rfl
  rw [evi, e0, bind_ok, e1, bind_ok]
  exact e3 _ (rng_ok hl)
theorem spots_ev (C : CallF) (st : Store) (xs : List D) (s1 s2 s3 s4 s6 : IP.Slot) (h1 : 1 ≤ xs.length) (hl : xs.length ≤ 10) :
    ev C (.lc [5] (.n 5) (.range2 (.c (.int 1)) (.f1 .len (.v 0))) (.cons (.isi (.idx (.v 0) (.v 5)) .tuple) .nil) (.v 5)) [.val (.tuple xs), s1, s2, s3, s4, .un, s6] st = .ok (.list ((rangeD 1 (xs.length - 1)).filter (spotP xs))) st := by
  rw [ev_lc rfl]
  have ei := spots_it C st xs s1 s2 s3 s4 s6 h1 hl
  rw [ei, bind_ok, loopE_filter (p := spotP xs) (f := fun x => x)]
  · rw [List.map_id', bind_ok]
    rfl
  · intro y m
    obtain ⟨i, hi, rfl⟩ := rng_mem m
    have e0 : (1 : Int) + (i : Int) = ((1 + i : Nat) : Int) := by omega
    refine ⟨[.val (.tuple xs), s1, s2, s3, s4, .val (.int (1 + i)), s6], rfl, ?_, fun _ => ?_⟩
    · have e1 : L2.atI xs (1 + (i : Int)) = xs[1 + i]? := by rw [e0, at_nat (by omega)]
      have e2 : xs[1 + i]? = some (xs.getD (1 + i) .none) := by rw [List.getElem?_eq_getElem (by omega), List.getD_eq_getElem?_getD, List.getElem?_eq_getElem (by omega)]; rfl
      have e3 : spotP xs (.int (1 + (i : Int))) = isiD (xs.getD (1 + i) .none) .tuple := by
        rw [e0]
        rfl
      simp only [exs_cons, exs_nil, ex_ife, seq_nx, seq_ret, endS_ret, endS_nx, ift_t, ift_f, ift_or, ift_and, ifs_t, ev_ife, and_1, and_2, or_1, or_2, evc_0, evc_1, idx_list', idx_tup', at_0, at_1, at_2, at_3, ix_2_0, ix_2_1, tr_bool, eq_str, eq_int, lt_int', le_int', gt_int', add_int', sub_int', ex, ev, evs, eva, bind_ok, of_some, toS_ok, quiet_ok, get_0, get_s, List.set_cons_zero, List.set_cons_succ, LINE, List.length_cons, List.length_nil, Nat.reduceAdd, Nat.reduceLeDiff, decide_true, List.append_nil, List.map_nil, List.cons_append, List.nil_append, e1, e2, e3]
    · simp only [exs_cons, exs_nil, ex_ife, seq_nx, seq_ret, endS_ret, endS_nx, ift_t, ift_f, ift_or, ift_and, ifs_t, ev_ife, and_1, and_2, or_1, or_2, evc_0, evc_1, idx_list', idx_tup', at_0, at_1, at_2, at_3, ix_2_0, ix_2_1, tr_bool, eq_str, eq_int, lt_int', le_int', gt_int', add_int', sub_int', ex, ev, evs, eva, bind_ok, of_some, toS_ok, quiet_ok, get_0, get_s, List.set_cons_zero, List.set_cons_succ, LINE, List.length_cons, List.length_nil, Nat.reduceAdd, Nat.reduceLeDiff, decide_true, List.append_nil, List.map_nil, List.cons_append, List.nil_append]
  · rw [rng_len, List.length_nil, Nat.zero_add]
    exact Nat.le_trans (Nat.sub_le _ _) (Nat.le_trans hl (by decide))
theorem add_tup {a b : List D} (h : a.length + b.length ≤ 16777216) : op2 .add (.tuple a) (.tuple b) = some (.tuple (a ++ b)) := by
  show ifs (decide (a.length + b.length ≤ LINE)) (PyData.tuple (a ++ b)) = _
  rw [decide_eq_true (show a.length + b.length ≤ LINE from h)]
  rfl
theorem row_nat {l : List Int} (hl : l.length = 60) (h0 : ∀ x ∈ l, 0 ≤ x) (q : Nat) (hq : q < 60) : ∃ z : Nat, L2.atI (l.map PyData.int) (q : Int) = some (.int (z : Int)) := by
  have hz : 0 ≤ l.getD q 0 := by
    rw [List.getD_eq_getElem?_getD, List.getElem?_eq_getElem (by omega)]
    exact h0 _ (List.getElem_mem _)
  obtain ⟨z, hz⟩ : ∃ z : Nat, l.getD q 0 = z := ⟨_, (Int.toNat_of_nonneg hz).symm⟩
  exact ⟨z, by rw [row_at (by omega), hz]⟩
def b_tail : IP.SL := .cons s__law_spoilt_formula_1 (.cons s__law_spoilt_formula_2 (.cons s__law_spoilt_formula_3 (.cons s__law_spoilt_formula_4 (.cons s__law_spoilt_formula_5 (.cons s__law_spoilt_formula_6 (.cons s__law_spoilt_formula_7 .nil))))))
theorem spoilt_tail (C : CallF) (st : Store) {l : List Int} (hl : l.length = 60) (h0 : ∀ x ∈ l, 0 ≤ x) {xs : List D} (hx : xs.length ≤ 10) (q : Nat) (hq : q < 50) :
    ∃ x ∈ V21 xs, exs C b_tail [.val (.tuple xs), .val (.list (l.map PyData.int)), .val (.int q), .un, .un, .un, .un] st = .ret x st := by
  obtain ⟨z, hz⟩ := row_nat hl h0 (q + 1) (by omega)
  have hz' : L2.atI (l.map PyData.int) ((q : Int) + 1) = some (.int (z : Int)) := hz
  have hm : (z : Int) % 21 = ((z % 21 : Nat) : Int) := by omega
  have hi : z % 21 < (V21 xs).length := by rw [v21_len]; omega
  have ht : op2 .add (.tuple xs) (.tuple [.int 1]) = some (.tuple (xs ++ [.int 1])) := add_tup (by simp; omega)
  have hg : L2.atI (V21 xs) ((z % 21 : Nat) : Int) = some ((V21 xs)[z % 21]) := by
    rw [at_nat hi, List.getElem?_eq_getElem hi]
  refine ⟨(V21 xs)[z % 21], List.getElem_mem _, ?_⟩
  have a1 : ex C s__law_spoilt_formula_1 [.val (.tuple xs), .val (.list (l.map PyData.int)), .val (.int q), .un, .un, .un, .un] st = .nx [.val (.tuple xs), .val (.list (l.map PyData.int)), .val (.int q), .val (.list ((V21 xs).take 7)), .un, .un, .un] st := by
    simp only [s__law_spoilt_formula_1, exs_cons, exs_nil, ex_ife, seq_nx, seq_ret, endS_ret, endS_nx, ift_t, ift_f, ift_or, ift_and, ifs_t, ev_ife, and_1, and_2, or_1, or_2, evc_0, evc_1, idx_list', idx_tup', at_0, at_1, at_2, at_3, ix_2_0, ix_2_1, tr_bool, eq_str, eq_int, lt_int', le_int', gt_int', add_int', sub_int', ex, ev, evs, eva, bind_ok, of_some, toS_ok, quiet_ok, get_0, get_s, List.set_cons_zero, List.set_cons_succ, LINE, List.length_cons, List.length_nil, Nat.reduceAdd, Nat.reduceLeDiff, decide_true, List.append_nil, List.map_nil, List.cons_append, List.nil_append, evo, slcD, f1D, ht]
    rfl
  have ad : ∀ (k j : Nat) (ys : List D), k + j ≤ 21 → (V21 xs).take (k + j) = (V21 xs).take k ++ ys → op2 .add (.list ((V21 xs).take k)) (.list ys) = some (.list ((V21 xs).take (k + j))) := fun k j ys h e => by
    have el := congrArg List.length e
    rw [List.length_append, List.length_take, v21_len] at el
    rw [add_list, ← List.length_append, ← e, decide_eq_true]
    · rfl
    · rw [List.length_take, v21_len]
      show _ ≤ 16777216
      omega
  have step : ∀ (S : IP.S) (k j : Nat) (es : IP.EL) (ys : List D), S = .asg 3 (.bin .add (.v 3) (.lst es)) → k + j ≤ 21 → (V21 xs).take (k + j) = (V21 xs).take k ++ ys →
      ev C (.lst es) [.val (.tuple xs), .val (.list (l.map PyData.int)), .val (.int q), .val (.list ((V21 xs).take k)), .un, .un, .un] st = .ok (.list ys) st →
      ex C S [.val (.tuple xs), .val (.list (l.map PyData.int)), .val (.int q), .val (.list ((V21 xs).take k)), .un, .un, .un] st = .nx [.val (.tuple xs), .val (.list (l.map PyData.int)), .val (.int q), .val (.list ((V21 xs).take (k + j))), .un, .un, .un] st := fun S k j es ys e h h2 h3 => by
    subst e
    have h4 := ad k j ys h h2
    generalize (V21 xs).take (k + j) = A2 at *
    generalize (V21 xs).take k = A at *
    have h5 : ev C (.v 3) [.val (.tuple xs), .val (.list (l.map PyData.int)), .val (.int q), .val (.list A), .un, .un, .un] st = .ok (.list A) st := by rw [ev]; rfl
    rw [ex, ev, h5, bind_ok, h3, bind_ok, h4, of_some, toS_ok]
    rfl
  have a2 := step s__law_spoilt_formula_2 7 3 _ (((V21 xs).drop 7).take 3) rfl (by omega) rfl (by simp only [exs_cons, exs_nil, ex_ife, seq_nx, seq_ret, endS_ret, endS_nx, ift_t, ift_f, ift_or, ift_and, ifs_t, ev_ife, and_1, and_2, or_1, or_2, evc_0, evc_1, idx_list', idx_tup', at_0, at_1, at_2, at_3, ix_2_0, ix_2_1, tr_bool, eq_str, eq_int, lt_int', le_int', gt_int', add_int', sub_int', ex, ev, evs, eva, bind_ok, of_some, toS_ok, quiet_ok, get_0, get_s, List.set_cons_zero, List.set_cons_succ, LINE, List.length_cons, List.length_nil, Nat.reduceAdd, Nat.reduceLeDiff, decide_true, List.append_nil, List.map_nil, List.cons_append, List.nil_append]; rfl)
  have a3 := step s__law_spoilt_formula_3 10 3 _ (((V21 xs).drop 10).take 3) rfl (by omega) rfl (by simp only [exs_cons, exs_nil, ex_ife, seq_nx, seq_ret, endS_ret, endS_nx, ift_t, ift_f, ift_or, ift_and, ifs_t, ev_ife, and_1, and_2, or_1, or_2, evc_0, evc_1, idx_list', idx_tup', at_0, at_1, at_2, at_3, ix_2_0, ix_2_1, tr_bool, eq_str, eq_int, lt_int', le_int', gt_int', add_int', sub_int', ex, ev, evs, eva, bind_ok, of_some, toS_ok, quiet_ok, get_0, get_s, List.set_cons_zero, List.set_cons_succ, LINE, List.length_cons, List.length_nil, Nat.reduceAdd, Nat.reduceLeDiff, decide_true, List.append_nil, List.map_nil, List.cons_append, List.nil_append]; rfl)
  have a4 := step s__law_spoilt_formula_4 13 2 _ (((V21 xs).drop 13).take 2) rfl (by omega) rfl (by simp only [exs_cons, exs_nil, ex_ife, seq_nx, seq_ret, endS_ret, endS_nx, ift_t, ift_f, ift_or, ift_and, ifs_t, ev_ife, and_1, and_2, or_1, or_2, evc_0, evc_1, idx_list', idx_tup', at_0, at_1, at_2, at_3, ix_2_0, ix_2_1, tr_bool, eq_str, eq_int, lt_int', le_int', gt_int', add_int', sub_int', ex, ev, evs, eva, bind_ok, of_some, toS_ok, quiet_ok, get_0, get_s, List.set_cons_zero, List.set_cons_succ, LINE, List.length_cons, List.length_nil, Nat.reduceAdd, Nat.reduceLeDiff, decide_true, List.append_nil, List.map_nil, List.cons_append, List.nil_append]; rfl)
  have a5 := step s__law_spoilt_formula_5 15 3 _ (((V21 xs).drop 15).take 3) rfl (by omega) rfl (by simp only [exs_cons, exs_nil, ex_ife, seq_nx, seq_ret, endS_ret, endS_nx, ift_t, ift_f, ift_or, ift_and, ifs_t, ev_ife, and_1, and_2, or_1, or_2, evc_0, evc_1, idx_list', idx_tup', at_0, at_1, at_2, at_3, ix_2_0, ix_2_1, tr_bool, eq_str, eq_int, lt_int', le_int', gt_int', add_int', sub_int', ex, ev, evs, eva, bind_ok, of_some, toS_ok, quiet_ok, get_0, get_s, List.set_cons_zero, List.set_cons_succ, LINE, List.length_cons, List.length_nil, Nat.reduceAdd, Nat.reduceLeDiff, decide_true, List.append_nil, List.map_nil, List.cons_append, List.nil_append]; rfl)
  have a6 := step s__law_spoilt_formula_6 18 3 _ (((V21 xs).drop 18).take 3) rfl (by omega) rfl (by simp only [exs_cons, exs_nil, ex_ife, seq_nx, seq_ret, endS_ret, endS_nx, ift_t, ift_f, ift_or, ift_and, ifs_t, ev_ife, and_1, and_2, or_1, or_2, evc_0, evc_1, idx_list', idx_tup', at_0, at_1, at_2, at_3, ix_2_0, ix_2_1, tr_bool, eq_str, eq_int, lt_int', le_int', gt_int', add_int', sub_int', ex, ev, evs, eva, bind_ok, of_some, toS_ok, quiet_ok, get_0, get_s, List.set_cons_zero, List.set_cons_succ, LINE, List.length_cons, List.length_nil, Nat.reduceAdd, Nat.reduceLeDiff, decide_true, List.append_nil, List.map_nil, List.cons_append, List.nil_append]; rfl)
  have e21 : (V21 xs).take 21 = V21 xs := rfl
  have a7 : ex C s__law_spoilt_formula_7 [.val (.tuple xs), .val (.list (l.map PyData.int)), .val (.int q), .val (.list ((V21 xs).take 21)), .un, .un, .un] st = .ret ((V21 xs)[z % 21]) st := by
    rw [e21]
    simp only [s__law_spoilt_formula_7, exs_cons, exs_nil, ex_ife, seq_nx, seq_ret, endS_ret, endS_nx, ift_t, ift_f, ift_or, ift_and, ifs_t, ev_ife, and_1, and_2, or_1, or_2, evc_0, evc_1, idx_list', idx_tup', at_0, at_1, at_2, at_3, ix_2_0, ix_2_1, tr_bool, eq_str, eq_int, lt_int', le_int', gt_int', add_int', sub_int', ex, ev, evs, eva, bind_ok, of_some, toS_ok, quiet_ok, get_0, get_s, List.set_cons_zero, List.set_cons_succ, LINE, List.length_cons, List.length_nil, Nat.reduceAdd, Nat.reduceLeDiff, decide_true, List.append_nil, List.map_nil, List.cons_append, List.nil_append, hz', mod_int' (b := 21) (by decide), hm, hg]
  rw [b_tail, exs_cons, a1, seq_nx, exs_cons, a2, seq_nx, exs_cons, a3, seq_nx, exs_cons, a4, seq_nx, exs_cons, a5, seq_nx, exs_cons, a6, seq_nx, exs_cons, a7, seq_ret]

theorem ok_inj {a b : D} {st : Store} (h : (IP.R.ok a st : IP.R D) = .ok b st) : a = b := by
  injection h
def s_b4 : IP.S := .asg 4 (.lc [5] (.n 5) (.range2 (.c (.int 1)) (.f1 .len (.v 0))) (.cons (.isi (.idx (.v 0) (.v 5)) .tuple) .nil) (.v 5))
def b_spot : IP.SL := (.cons (.asg 5 (.idx (.v 4) (.bin .mod (.idx (.v 1) (.bin .add (.v 2) (.c (.int 1)))) (.f1 .len (.v 4))))) (.cons (.asg 6 (.call i__law_spoilt_formula (.e (.idx (.v 0) (.v 5)) (.e (.v 1) (.e (.bin .mod (.bin .add (.v 2) (.c (.int 2))) (.c (.int 50))) .nil))) [])) (.cons (.ret (.bin .add (.bin .add (.slc (.v 0) .no (.yes (.v 5))) (.tup (.cons (.v 6) .nil))) (.slc (.v 0) (.yes (.bin .add (.v 5) (.c (.int 1)))) .no))) .nil)))
theorem spoilt_spot (C : CallF) (st : Store) {l : List Int} (hl : l.length = 60) (h0 : ∀ x ∈ l, 0 ≤ x) {xs F : List D} (hx : xs.length ≤ 10) (q : Nat) (hq : q < 50) (hF : F ≠ []) (hF10 : F.length ≤ 10)
    (hs : ∀ y ∈ F, ∃ i : Nat, i < xs.length ∧ y = .int i ∧ ∃ d', C i__law_spoilt_formula [.val (xs.getD i .none), .val (.list (l.map PyData.int)), .val (.int ((q + 2) % 50 : Nat))] st = .ok d' st) :
    ∃ i : Nat, i < xs.length ∧ .int i ∈ F ∧ ∃ d', C i__law_spoilt_formula [.val (xs.getD i .none), .val (.list (l.map PyData.int)), .val (.int ((q + 2) % 50 : Nat))] st = .ok d' st ∧
      exs C b_spot [.val (.tuple xs), .val (.list (l.map PyData.int)), .val (.int q), .un, .val (.list F), .un, .un] st = .ret (.tuple (xs.take i ++ [d'] ++ xs.drop (i + 1))) st := by
  obtain ⟨z, hz⟩ := row_nat hl h0 (q + 1) (by omega)
  have hz' : L2.atI (l.map PyData.int) ((q : Int) + 1) = some (.int (z : Int)) := hz
  have hF0 : 0 < F.length := List.length_pos_iff.mpr hF
  have hi : z % F.length < F.length := Nat.mod_lt _ hF0
  obtain ⟨i, h1, h2, d', h3⟩ := hs _ (List.getElem_mem hi)
  have hm : (z : Int) % (F.length : Int) = ((z % F.length : Nat) : Int) := by omega
  have hg : L2.atI F ((z % F.length : Nat) : Int) = some (.int i) := by
    rw [at_nat hi, List.getElem?_eq_getElem hi, h2]
  have hF1 : (0 : Int) < (F.length : Int) := by omega
  refine ⟨i, h1, by rw [← h2]; exact List.getElem_mem hi, d', h3, ?_⟩
  have e6 : ex C (.asg 5 (.idx (.v 4) (.bin .mod (.idx (.v 1) (.bin .add (.v 2) (.c (.int 1)))) (.f1 .len (.v 4))))) [.val (.tuple xs), .val (.list (l.map PyData.int)), .val (.int q), .un, .val (.list F), .un, .un] st = .nx [.val (.tuple xs), .val (.list (l.map PyData.int)), .val (.int q), .un, .val (.list F), .val (.int i), .un] st := by
    simp only [exs_cons, exs_nil, ex_ife, seq_nx, seq_ret, endS_ret, endS_nx, ift_t, ift_f, ift_or, ift_and, ifs_t, ev_ife, and_1, and_2, or_1, or_2, evc_0, evc_1, idx_list', idx_tup', at_0, at_1, at_2, at_3, ix_2_0, ix_2_1, tr_bool, eq_str, eq_int, lt_int', le_int', gt_int', add_int', sub_int', ex, ev, evs, eva, bind_ok, of_some, toS_ok, quiet_ok, get_0, get_s, List.set_cons_zero, List.set_cons_succ, LINE, List.length_cons, List.length_nil, Nat.reduceAdd, Nat.reduceLeDiff, decide_true, List.append_nil, List.map_nil, List.cons_append, List.nil_append, f1D, hz', mod_int' hF1, hm, hg]
  have hx1 : L2.atI xs (i : Int) = some (xs.getD i .none) := by
    rw [at_nat h1, List.getElem?_eq_getElem h1, List.getD_eq_getElem?_getD, List.getElem?_eq_getElem h1]
    rfl
  have hq2 : ((q : Int) + 2) % 50 = (((q + 2) % 50 : Nat) : Int) := by omega
  have e7 : ex C (.asg 6 (.call i__law_spoilt_formula (.e (.idx (.v 0) (.v 5)) (.e (.v 1) (.e (.bin .mod (.bin .add (.v 2) (.c (.int 2))) (.c (.int 50))) .nil))) [])) [.val (.tuple xs), .val (.list (l.map PyData.int)), .val (.int q), .un, .val (.list F), .val (.int i), .un] st = .nx [.val (.tuple xs), .val (.list (l.map PyData.int)), .val (.int q), .un, .val (.list F), .val (.int i), .val d'] st := by
    simp only [exs_cons, exs_nil, ex_ife, seq_nx, seq_ret, endS_ret, endS_nx, ift_t, ift_f, ift_or, ift_and, ifs_t, ev_ife, and_1, and_2, or_1, or_2, evc_0, evc_1, idx_list', idx_tup', at_0, at_1, at_2, at_3, ix_2_0, ix_2_1, tr_bool, eq_str, eq_int, lt_int', le_int', gt_int', add_int', sub_int', ex, ev, evs, eva, bind_ok, of_some, toS_ok, quiet_ok, get_0, get_s, List.set_cons_zero, List.set_cons_succ, LINE, List.length_cons, List.length_nil, Nat.reduceAdd, Nat.reduceLeDiff, decide_true, List.append_nil, List.map_nil, List.cons_append, List.nil_append, hx1, mod_int' (b := 50) (by decide), hq2, h3]
  have c1 : slcD (.tuple xs) none (some (i : Int)) = some (.tuple (xs.take i)) := by
    show some (PyData.tuple (cutD xs none (some (i : Int)))) = _
    rw [cut_to (by omega)]
  have c2 : slcD (.tuple xs) (some ((i : Int) + 1)) none = some (.tuple (xs.drop (i + 1))) := by
    show some (PyData.tuple (cutD xs (some ((i + 1 : Nat) : Int)) none)) = _
    rw [cut_from (by omega)]
  have p1 : op2 .add (.tuple (xs.take i)) (.tuple [d']) = some (.tuple (xs.take i ++ [d'])) := add_tup (by rw [List.length_take]; simp; omega)
  have p2 : op2 .add (.tuple (xs.take i ++ [d'])) (.tuple (xs.drop (i + 1))) = some (.tuple (xs.take i ++ [d'] ++ xs.drop (i + 1))) := add_tup (by simp; omega)
  have e8 : ex C (.ret (.bin .add (.bin .add (.slc (.v 0) .no (.yes (.v 5))) (.tup (.cons (.v 6) .nil))) (.slc (.v 0) (.yes (.bin .add (.v 5) (.c (.int 1)))) .no))) [.val (.tuple xs), .val (.list (l.map PyData.int)), .val (.int q), .un, .val (.list F), .val (.int i), .val d'] st = .ret (.tuple (xs.take i ++ [d'] ++ xs.drop (i + 1))) st := by
    simp only [exs_cons, exs_nil, ex_ife, seq_nx, seq_ret, endS_ret, endS_nx, ift_t, ift_f, ift_or, ift_and, ifs_t, ev_ife, and_1, and_2, or_1, or_2, evc_0, evc_1, idx_list', idx_tup', at_0, at_1, at_2, at_3, ix_2_0, ix_2_1, tr_bool, eq_str, eq_int, lt_int', le_int', gt_int', add_int', sub_int', ex, ev, evs, eva, bind_ok, of_some, toS_ok, quiet_ok, get_0, get_s, List.set_cons_zero, List.set_cons_succ, LINE, List.length_cons, List.length_nil, Nat.reduceAdd, Nat.reduceLeDiff, decide_true, List.append_nil, List.map_nil, List.cons_append, List.nil_append, evo, c1, c2, p1, p2]
  rw [b_spot]
  simp only [exs_cons, e6, e7, e8, seq_nx, seq_ret]
theorem w_spoilt {l : List Int} (hl : l.length = 60) (h0 : ∀ x ∈ l, 0 ≤ x) {B : List (Str × Str)} : ∀ (h : Nat) {f : Fm} {a b : Nat}, FD B f h a b → h ≤ 90 → ∀ (n : Nat) (st : Store) (q : Nat), q < 50 → h ≤ n →
    ∃ d', GF (h + 3) (2 ^ h) d' ∧ IP.run P n i__law_spoilt_formula [.val (fmD f), .val (.list (l.map PyData.int)), .val (.int q)] st = .ok d' st
  | 0, f, a, b, x, h90, n, st, q, hq, hn => by
    obtain ⟨g, _, _, e, _⟩ := fd_parts x
    omega
  | h + 1, f, a, b, x, h90, n, st, q, hq, hn => by
    obtain ⟨n, rfl⟩ : ∃ g, n = g + 1 := ⟨n - 1, by omega⟩
    obtain ⟨g, q0, ps, e, ef, hlen, hp⟩ := fd_parts x
    have e : g = h := by omega
    subst e
    have hx10 : (PyData.str q0 :: ps).length ≤ 10 := by simp; omega
    have hv := v21_gf x ef h90
    rw [ef, IP.run_succ (d := ⟨7, 3, b__law_spoilt_formula, false⟩) rfl]
    show ∃ d', _ ∧ endS st.length (exs (IP.run P n) b__law_spoilt_formula [.val (.tuple (.str q0 :: ps)), .val (.list (l.map PyData.int)), .val (.int q), .un, .un, .un, .un] st) = _
    obtain ⟨z, hz⟩ := row_nat hl h0 q (by omega)
    have fin : ex (IP.run P n) s__law_spoilt_formula_0 [.val (.tuple (.str q0 :: ps)), .val (.list (l.map PyData.int)), .val (.int q), .un, .un, .un, .un] st = .nx [.val (.tuple (.str q0 :: ps)), .val (.list (l.map PyData.int)), .val (.int q), .un, .un, .un, .un] st →
        ∃ d', GF (g + 1 + 3) (2 ^ (g + 1)) d' ∧ endS st.length (exs (IP.run P n) b__law_spoilt_formula [.val (.tuple (.str q0 :: ps)), .val (.list (l.map PyData.int)), .val (.int q), .un, .un, .un, .un] st) = .ok d' st := fun e1 => by
      obtain ⟨y, my, ey⟩ := spoilt_tail (IP.run P n) st hl h0 hx10 q hq
      refine ⟨y, hv y my, ?_⟩
      rw [b__law_spoilt_formula, exs_cons, e1, seq_nx]
      rw [b_tail] at ey
      rw [ey, endS_ret, List.take_length]
    have ec : ev (IP.run P n) (.band (.cons (.bin .lt (.bin .mod (.idx (.v 1) (.v 2)) (.c (.int 3))) (.c (.int 2))) (.cons (.bin .ne (.idx (.v 0) (.c (.int 0))) (.c (.str "fact"))) .nil))) [.val (.tuple (.str q0 :: ps)), .val (.list (l.map PyData.int)), .val (.int q), .un, .un, .un, .un] st = .ok (.bool (decide ((z : Int) % 3 < 2) && !sEq q0 "fact")) st := by
      cases hd : decide ((z : Int) % 3 < 2) with
      | true => simp only [exs_cons, exs_nil, ex_ife, seq_nx, seq_ret, endS_ret, endS_nx, ift_t, ift_f, ift_or, ift_and, ifs_t, ev_ife, and_1, and_2, or_1, or_2, evc_0, evc_1, idx_list', idx_tup', at_0, at_1, at_2, at_3, ix_2_0, ix_2_1, tr_bool, eq_str, eq_int, lt_int', le_int', gt_int', add_int', sub_int', ex, ev, evs, eva, bind_ok, of_some, toS_ok, quiet_ok, get_0, get_s, List.set_cons_zero, List.set_cons_succ, LINE, List.length_cons, List.length_nil, Nat.reduceAdd, Nat.reduceLeDiff, decide_true, List.append_nil, List.map_nil, List.cons_append, List.nil_append, hz, mod_int' (b := 3) (by decide), hd, ne_str, Bool.true_and]
      | false => simp only [exs_cons, exs_nil, ex_ife, seq_nx, seq_ret, endS_ret, endS_nx, ift_t, ift_f, ift_or, ift_and, ifs_t, ev_ife, and_1, and_2, or_1, or_2, evc_0, evc_1, idx_list', idx_tup', at_0, at_1, at_2, at_3, ix_2_0, ix_2_1, tr_bool, eq_str, eq_int, lt_int', le_int', gt_int', add_int', sub_int', ex, ev, evs, eva, bind_ok, of_some, toS_ok, quiet_ok, get_0, get_s, List.set_cons_zero, List.set_cons_succ, LINE, List.length_cons, List.length_nil, Nat.reduceAdd, Nat.reduceLeDiff, decide_true, List.append_nil, List.map_nil, List.cons_append, List.nil_append, hz, mod_int' (b := 3) (by decide), hd, Bool.false_and]
    cases hb : decide ((z : Int) % 3 < 2) && !sEq q0 "fact" with
    | false =>
      refine fin ?_
      rw [hb] at ec
      rw [s__law_spoilt_formula_0, ex_ife, ec, toS_ok, tr_bool, ift_f, exs_nil]
    | true =>
      rw [hb] at ec
      rw [Bool.and_eq_true] at hb
      have hq0 : sEq q0 "fact" = false := by
        have := hb.2
        cases h : sEq q0 "fact" with
        | false => rfl
        | true => rw [h] at this; cases this
      rcases hp with ⟨rfl, _⟩ | ⟨_, cl, hp, pt, mpt, hpt⟩
      · have : sEq "fact" "fact" = true := by kernel_rfl
        rw [this] at hq0
        cases hq0
      have hsp := spots_ev (IP.run P n) st (.str q0 :: ps) (.val (.list (l.map PyData.int))) (.val (.int q)) .un .un .un (by simp) hx10
      have hmem : ∀ y ∈ (rangeD 1 ((PyData.str q0 :: ps).length - 1)).filter (spotP (.str q0 :: ps)), ∃ i : Nat, i < ps.length ∧ y = .int ((i + 1 : Nat) : Int) ∧ ∃ f' a' b', (PyData.str q0 :: ps).getD (i + 1) .none = fmD f' ∧ FD B f' g a' b' := fun y m => by
        obtain ⟨m1, m2⟩ := List.mem_filter.mp m
        obtain ⟨i, hi, rfl⟩ := rng_mem m1
        have hi' : i < ps.length := by simpa using hi
        have e0 : (1 : Int) + (i : Int) = ((i + 1 : Nat) : Int) := by omega
        rw [e0] at m2 ⊢
        refine ⟨i, hi', rfl, ?_⟩
        have e2 : (PyData.str q0 :: ps).getD (i + 1) .none = ps[i] := by
          rw [List.getD_eq_getElem?_getD, List.getElem?_cons_succ, List.getElem?_eq_getElem hi']
          rfl
        have m3 : isiD ((PyData.str q0 :: ps).getD (i + 1) .none) .tuple = true := m2
        rw [e2] at m3 ⊢
        rcases hp _ (List.getElem_mem hi') with ⟨w, ew⟩ | y
        · rw [ew] at m3
          cases m3
        · exact y
      have hne : (rangeD 1 ((PyData.str q0 :: ps).length - 1)).filter (spotP (.str q0 :: ps)) ≠ [] := by
        obtain ⟨i, hi, ei⟩ := List.getElem_of_mem mpt
        have m1 : (.int (1 + (i : Int)) : D) ∈ rangeD 1 ((PyData.str q0 :: ps).length - 1) := rng_all (by simpa using hi)
        have m2 : spotP (.str q0 :: ps) (.int (1 + (i : Int))) = true := by
          have e0 : (1 : Int) + (i : Int) = ((i + 1 : Nat) : Int) := by omega
          rw [e0]
          show isiD ((PyData.str q0 :: ps).getD (i + 1) .none) .tuple = true
          rw [List.getD_eq_getElem?_getD, List.getElem?_cons_succ, List.getElem?_eq_getElem hi, ei]
          exact hpt
        exact List.ne_nil_of_mem (List.mem_filter.mpr ⟨m1, m2⟩)
      have hF10 : ((rangeD 1 ((PyData.str q0 :: ps).length - 1)).filter (spotP (.str q0 :: ps))).length ≤ 10 := by
        have := List.length_filter_le (spotP (.str q0 :: ps)) (rangeD 1 ((PyData.str q0 :: ps).length - 1))
        rw [rng_len] at this
        omega
      generalize (rangeD 1 ((PyData.str q0 :: ps).length - 1)).filter (spotP (.str q0 :: ps)) = F at hsp hmem hF10 hne
      obtain ⟨i, h1, h2, d', h3, h4⟩ := spoilt_spot (IP.run P n) st hl h0 hx10 q hq (F := F) hne hF10 fun y m => by
        obtain ⟨i, h1, h2, f', a', b', ef', x'⟩ := hmem y m
        obtain ⟨d', _, h3⟩ := w_spoilt hl h0 g x' (by omega) n st ((q + 2) % 50) (by omega) (by omega)
        exact ⟨i + 1, by simp; omega, h2, d', by rw [ef']; exact h3⟩
      obtain ⟨j, hj, e', f', a', b', ef', x'⟩ := hmem _ h2
      have e' : i = j + 1 := by
        have := PyData.int.inj e'
        omega
      subst e'
      obtain ⟨d'', h6, h7⟩ := w_spoilt hl h0 g x' (by omega) n st ((q + 2) % 50) (by omega) (by omega)
      rw [ef', h7] at h3
      have e8 := (ok_inj h3).symm
      subst e8
      refine ⟨.tuple ((PyData.str q0 :: ps).take (j + 1) ++ [d'] ++ (PyData.str q0 :: ps).drop (j + 1 + 1)), ?_, ?_⟩
      · rw [List.take_succ_cons, List.drop_succ_cons, List.cons_append, List.cons_append, ← two_pow_s]
        refine cl (g + 3) (2 ^ g) _ Nat.one_le_two_pow (fun p m => ?_) (by simp; omega)
        rcases List.mem_append.mp m with m | m
        · rcases List.mem_append.mp m with m | m
          · exact (hp p (List.mem_of_mem_take m)).gf.weak (by omega) (Nat.le_refl _)
          · rw [List.mem_singleton.mp m]
            exact h6
        · exact (hp p (List.mem_of_mem_drop m)).gf.weak (by omega) (Nat.le_refl _)
      · have a4 : ex (IP.run P n) s_b4 [.val (.tuple (.str q0 :: ps)), .val (.list (l.map PyData.int)), .val (.int q), .un, .un, .un, .un] st = .nx [.val (.tuple (.str q0 :: ps)), .val (.list (l.map PyData.int)), .val (.int q), .un, .val (.list F), .un, .un] st := by
          rw [s_b4, ex, hsp, toS_ok]
          rfl
        have a0 : ex (IP.run P n) s__law_spoilt_formula_0 [.val (.tuple (.str q0 :: ps)), .val (.list (l.map PyData.int)), .val (.int q), .un, .un, .un, .un] st = .ret (.tuple ((PyData.str q0 :: ps).take (j + 1) ++ [d'] ++ (PyData.str q0 :: ps).drop (j + 1 + 1))) st := by
          have es : s__law_spoilt_formula_0 = .ife (.band (.cons (.bin .lt (.bin .mod (.idx (.v 1) (.v 2)) (.c (.int 3))) (.c (.int 2))) (.cons (.bin .ne (.idx (.v 0) (.c (.int 0))) (.c (.str "fact"))) .nil))) (.cons s_b4 b_spot) .nil := rfl
          rw [es, ex_ife, ec, toS_ok, tr_bool, ift_t, exs_cons, a4, seq_nx, h4]
        rw [b__law_spoilt_formula, exs_cons, a0, seq_ret, endS_ret, List.take_length]

/-! ### the law -/
theorem w_known (B : List (Str × Str)) (b : Bool) : ∃ kn : List D, ift b (IP.R.ok (PyData.list [.int 50, .int 51]) []) (IP.R.ok (PyData.list []) []) = .ok (.list kn) [] ∧ (∀ t ∈ kn, TH B t) ∧ kn.length ≤ 2 := by
  cases b with
  | true => exact ⟨[.int 50, .int 51], rfl, fun t m => by
    simp only [List.mem_cons, List.not_mem_nil, or_false] at m
    rcases m with rfl | rfl
    · exact .inr (.inl ⟨50, by omega, rfl⟩)
    · exact .inr (.inl ⟨51, by omega, rfl⟩), by simp⟩
  | false => exact ⟨[], rfl, by simp, by simp⟩
theorem nat_at {l : List Int} (h0 : ∀ x ∈ l, 0 ≤ x) (k : Nat) (h : k < l.length) : ∃ z : Nat, l.getD k 0 = z := by
  have hz : 0 ≤ l.getD k 0 := by
    rw [List.getD_eq_getElem?_getD, List.getElem?_eq_getElem h]
    exact h0 _ (List.getElem_mem _)
  exact ⟨_, (Int.toNat_of_nonneg hz).symm⟩
theorem ne_bool_self (b : Bool) : op2 .ne (.bool b) (.bool b) = some (.bool false) := by cases b <;> kernel_rfl
theorem w_loose (n : Nat) (st : Store) {B : List (Str × Str)} (hB : Book B) {d : D} {br ls : List Int} (x : VF B 8 16 d br ls) (h : ∀ (N : Nat) (st : Store), 12 ≤ N → IP.run P (N + 1) i_is_formula_of [.val (.tuple (B.map rowD)), .val d] st = .ok (.bool true) st) (hn : 12 ≤ n) :
    IP.run P (n + 3) i_loose [.val (.tuple (B.map rowD)), .val d] st = .ok (.list (ls.map PyData.int)) st := by
  obtain ⟨n, rfl⟩ : ∃ g, n = g + 2 := ⟨n - 2, by omega⟩
  have hk : IP.run P (n + 2 + 2) i_look_formula [.val (.tuple (B.map rowD)), .val d] st = .ok .none st := by
    rw [IP.run_succ (d := ⟨2, 2, b_look_formula, false⟩) rfl]
    show endS st.length (exs (IP.run P (n + 2 + 1)) b_look_formula [.val (.tuple (B.map rowD)), .val d] st) = _
    simp only [b_look_formula, s_look_formula_0, s_look_formula_1, exs_cons, exs_nil, ex_ife, seq_nx, seq_ret, endS_ret, endS_nx, ift_t, ift_f, ift_or, ift_and, ifs_t, ev_ife, and_1, and_2, or_1, or_2, evc_0, evc_1, idx_list', idx_tup', at_0, at_1, at_2, at_3, ix_2_0, ix_2_1, tr_bool, eq_str, eq_int, lt_int', le_int', gt_int', add_int', sub_int', ex, ev, evs, eva, bind_ok, of_some, toS_ok, quiet_ok, get_0, get_s, List.set_cons_zero, List.set_cons_succ, LINE, List.length_cons, List.length_nil, Nat.reduceAdd, Nat.reduceLeDiff, decide_true, List.append_nil, List.map_nil, List.cons_append, List.nil_append, w_look n st hB, h (n + 2) st (by omega), Bool.not_true]
    simp
  rw [IP.run_succ (d := ⟨2, 2, b_loose, false⟩) rfl]
  show endS st.length (exs (IP.run P (n + 2 + 2)) b_loose [.val (.tuple (B.map rowD)), .val d] st) = _
  simp only [b_loose, s_loose_0, s_loose_1, exs_cons, exs_nil, ex_ife, seq_nx, seq_ret, endS_ret, endS_nx, ift_t, ift_f, ift_or, ift_and, ifs_t, ev_ife, and_1, and_2, or_1, or_2, evc_0, evc_1, idx_list', idx_tup', at_0, at_1, at_2, at_3, ix_2_0, ix_2_1, tr_bool, eq_str, eq_int, lt_int', le_int', gt_int', add_int', sub_int', ex, ev, evs, eva, bind_ok, of_some, toS_ok, quiet_ok, get_0, get_s, List.set_cons_zero, List.set_cons_succ, LINE, List.length_cons, List.length_nil, Nat.reduceAdd, Nat.reduceLeDiff, decide_true, List.append_nil, List.map_nil, List.cons_append, List.nil_append, hk, looseG x (n + 2 + 2) st (by omega) (by omega)]
  simp
theorem ints_depth (zs : List Int) : (PyData.list (zs.map PyData.int)).depth ≤ 2 := by
  have : PyData.depthAll (zs.map PyData.int) ≤ 1 := depthAll_of fun t m => by
    obtain ⟨z, _, rfl⟩ := List.mem_map.mp m
    exact int_depth z
  simp only [PyData.depth]
  omega
theorem plain (ns : List Int) (h : ns.length ≤ 63) : ∃ st, IP.run P 100 41 [.scr ns] [] = .ok (.bool true) st := by
  rw [IP.run_succ (d := ⟨7, 1, b_law, false⟩) rfl]
  obtain ⟨l, hl, h0, hr⟩ := w_row 97 [] ns 4
  obtain ⟨l2, hl2, h02, hr2⟩ := w_row 97 [] ns 2
  obtain ⟨B, hB, hb⟩ := w_book 98 [] l hl h0
  obtain ⟨z, hz⟩ := nat_at h0 10 (by omega)
  obtain ⟨z1, hz1⟩ := nat_at h0 11 (by omega)
  obtain ⟨z2, hz2⟩ := nat_at h0 12 (by omega)
  obtain ⟨y, hy⟩ := nat_at h02 0 (by omega)
  obtain ⟨kn, hk1, hk2, hk3⟩ := w_known B (decide ((z : Int) % 3 = 0))
  have hm : y % 40 < 40 := Nat.mod_lt _ (by decide)
  obtain ⟨f, j', m', x, hf⟩ := gen_fall hl2 h02 hB 3 99 [CS 0 (y % 40 : Nat)] 0 0 (y % 40) kn (by omega) rfl hk2 (by have : 2 ^ (3 + 1) = 16 := rfl; omega) (by omega)
  have hr' : IP.run P 99 i__law_row [.scr ns, .val (.int 4)] [] = .ok (.list (l.map PyData.int)) [] := hr
  have hr2' : IP.run P 99 i__law_row [.scr ns, .val (.int 2)] [] = .ok (.list (l2.map PyData.int)) [] := hr2
  have h10 : L2.atI (l.map PyData.int) 10 = some (.int (l.getD 10 0)) := row_at (k := 10) (by omega)
  have h11 : L2.atI (l.map PyData.int) 11 = some (.int (l.getD 11 0)) := row_at (k := 11) (by omega)
  have h12 : L2.atI (l.map PyData.int) 12 = some (.int (l.getD 12 0)) := row_at (k := 12) (by omega)
  have h00 : L2.atI (l2.map PyData.int) 0 = some (.int (l2.getD 0 0)) := row_at (k := 0) (by omega)
  have e40 : (y : Int) % 40 = ((y % 40 : Nat) : Int) := by simp
  have a0 : ex (IP.run P 99) s_law_0 [.scr ns, .un, .un, .un, .un, .un, .un] [] = .nx [.scr ns, .val (.list (l.map PyData.int)), .un, .un, .un, .un, .un] [] := by
    simp only [s_law_0, exs_cons, exs_nil, ex_ife, seq_nx, seq_ret, endS_ret, endS_nx, ift_t, ift_f, ift_or, ift_and, ifs_t, ev_ife, and_1, and_2, or_1, or_2, evc_0, evc_1, idx_list', idx_tup', at_0, at_1, at_2, at_3, ix_2_0, ix_2_1, tr_bool, eq_str, eq_int, lt_int', le_int', gt_int', add_int', sub_int', ex, ev, evs, eva, bind_ok, of_some, toS_ok, quiet_ok, get_0, get_s, List.set_cons_zero, List.set_cons_succ, LINE, List.length_cons, List.length_nil, Nat.reduceAdd, Nat.reduceLeDiff, decide_true, List.append_nil, List.map_nil, List.cons_append, List.nil_append, hr']
  have a1 : ex (IP.run P 99) s_law_1 [.scr ns, .val (.list (l.map PyData.int)), .un, .un, .un, .un, .un] [] = .nx [.scr ns, .val (.list (l.map PyData.int)), .val (.tuple (B.map rowD)), .un, .un, .un, .un] [] := by
    simp only [s_law_1, exs_cons, exs_nil, ex_ife, seq_nx, seq_ret, endS_ret, endS_nx, ift_t, ift_f, ift_or, ift_and, ifs_t, ev_ife, and_1, and_2, or_1, or_2, evc_0, evc_1, idx_list', idx_tup', at_0, at_1, at_2, at_3, ix_2_0, ix_2_1, tr_bool, eq_str, eq_int, lt_int', le_int', gt_int', add_int', sub_int', ex, ev, evs, eva, bind_ok, of_some, toS_ok, quiet_ok, get_0, get_s, List.set_cons_zero, List.set_cons_succ, LINE, List.length_cons, List.length_nil, Nat.reduceAdd, Nat.reduceLeDiff, decide_true, List.append_nil, List.map_nil, List.cons_append, List.nil_append, hb]
  have a2 : ex (IP.run P 99) s_law_2 [.scr ns, .val (.list (l.map PyData.int)), .val (.tuple (B.map rowD)), .un, .un, .un, .un] [] = .nx [.scr ns, .val (.list (l.map PyData.int)), .val (.tuple (B.map rowD)), .val (.list (l2.map PyData.int)), .un, .un, .un] [] := by
    simp only [s_law_2, exs_cons, exs_nil, ex_ife, seq_nx, seq_ret, endS_ret, endS_nx, ift_t, ift_f, ift_or, ift_and, ifs_t, ev_ife, and_1, and_2, or_1, or_2, evc_0, evc_1, idx_list', idx_tup', at_0, at_1, at_2, at_3, ix_2_0, ix_2_1, tr_bool, eq_str, eq_int, lt_int', le_int', gt_int', add_int', sub_int', ex, ev, evs, eva, bind_ok, of_some, toS_ok, quiet_ok, get_0, get_s, List.set_cons_zero, List.set_cons_succ, LINE, List.length_cons, List.length_nil, Nat.reduceAdd, Nat.reduceLeDiff, decide_true, List.append_nil, List.map_nil, List.cons_append, List.nil_append, hr2']
  have a3 : ex (IP.run P 99) s_law_3 [.scr ns, .val (.list (l.map PyData.int)), .val (.tuple (B.map rowD)), .val (.list (l2.map PyData.int)), .un, .un, .un] [] = .nx [.scr ns, .val (.list (l.map PyData.int)), .val (.tuple (B.map rowD)), .val (.list (l2.map PyData.int)), .val (.list kn), .un, .un] [] := by
    cases hd : decide ((z : Int) % 3 = 0) with
    | true =>
      rw [hd, ift_t] at hk1
      injection hk1 with hk1
      simp only [s_law_3, exs_cons, exs_nil, ex_ife, seq_nx, seq_ret, endS_ret, endS_nx, ift_t, ift_f, ift_or, ift_and, ifs_t, ev_ife, and_1, and_2, or_1, or_2, evc_0, evc_1, idx_list', idx_tup', at_0, at_1, at_2, at_3, ix_2_0, ix_2_1, tr_bool, eq_str, eq_int, lt_int', le_int', gt_int', add_int', sub_int', ex, ev, evs, eva, bind_ok, of_some, toS_ok, quiet_ok, get_0, get_s, List.set_cons_zero, List.set_cons_succ, LINE, List.length_cons, List.length_nil, Nat.reduceAdd, Nat.reduceLeDiff, decide_true, List.append_nil, List.map_nil, List.cons_append, List.nil_append, h10, hz, mod_int' (b := 3) (by decide), hd, hk1]
    | false =>
      rw [hd, ift_f] at hk1
      injection hk1 with hk1
      simp only [s_law_3, exs_cons, exs_nil, ex_ife, seq_nx, seq_ret, endS_ret, endS_nx, ift_t, ift_f, ift_or, ift_and, ifs_t, ev_ife, and_1, and_2, or_1, or_2, evc_0, evc_1, idx_list', idx_tup', at_0, at_1, at_2, at_3, ix_2_0, ix_2_1, tr_bool, eq_str, eq_int, lt_int', le_int', gt_int', add_int', sub_int', ex, ev, evs, eva, bind_ok, of_some, toS_ok, quiet_ok, get_0, get_s, List.set_cons_zero, List.set_cons_succ, LINE, List.length_cons, List.length_nil, Nat.reduceAdd, Nat.reduceLeDiff, decide_true, List.append_nil, List.map_nil, List.cons_append, List.nil_append, h10, hz, mod_int' (b := 3) (by decide), hd, hk1]
  have hf' : IP.run P 99 i__law_formula [.val (.list (l2.map PyData.int)), .rf 0, .val (.tuple (B.map rowD)), .val (.int 3), .val (.list kn)] [CS 0 (y % 40 : Nat)] = .ok (fmD f) [CS j' m'] := hf
  have a4 : ex (IP.run P 99) s_law_4 [.scr ns, .val (.list (l.map PyData.int)), .val (.tuple (B.map rowD)), .val (.list (l2.map PyData.int)), .val (.list kn), .un, .un] [] = .nx [.scr ns, .val (.list (l.map PyData.int)), .val (.tuple (B.map rowD)), .val (.list (l2.map PyData.int)), .val (.list kn), .val (fmD f), .un] [CS j' m'] := by
    have hcs : [Cell.ml [PyData.int 0, .int ((y % 40 : Nat) : Int)]] = [CS 0 (y % 40 : Nat)] := rfl
    simp only [s_law_4, exs_cons, exs_nil, ex_ife, seq_nx, seq_ret, endS_ret, endS_nx, ift_t, ift_f, ift_or, ift_and, ifs_t, ev_ife, and_1, and_2, or_1, or_2, evc_0, evc_1, idx_list', idx_tup', at_0, at_1, at_2, at_3, ix_2_0, ix_2_1, tr_bool, eq_str, eq_int, lt_int', le_int', gt_int', add_int', sub_int', ex, ev, evs, eva, bind_ok, of_some, toS_ok, quiet_ok, get_0, get_s, List.set_cons_zero, List.set_cons_succ, LINE, List.length_cons, List.length_nil, Nat.reduceAdd, Nat.reduceLeDiff, decide_true, List.append_nil, List.map_nil, List.cons_append, List.nil_append, h00, hy, mod_int' (b := 40) (by decide), e40, hcs, hf']
  obtain ⟨d, hd, a5⟩ : ∃ d, GF 8 16 d ∧ ex (IP.run P 99) s_law_5 [.scr ns, .val (.list (l.map PyData.int)), .val (.tuple (B.map rowD)), .val (.list (l2.map PyData.int)), .val (.list kn), .val (fmD f), .un] [CS j' m'] = .nx [.scr ns, .val (.list (l.map PyData.int)), .val (.tuple (B.map rowD)), .val (.list (l2.map PyData.int)), .val (.list kn), .val d, .un] [CS j' m'] := by
    cases hc : decide ((0 : Int) < (z1 : Int) % 3) with
    | false => exact ⟨fmD f, (fd_gf x).weak (by omega) (by decide), by simp only [s_law_5, exs_cons, exs_nil, ex_ife, seq_nx, seq_ret, endS_ret, endS_nx, ift_t, ift_f, ift_or, ift_and, ifs_t, ev_ife, and_1, and_2, or_1, or_2, evc_0, evc_1, idx_list', idx_tup', at_0, at_1, at_2, at_3, ix_2_0, ix_2_1, tr_bool, eq_str, eq_int, lt_int', le_int', gt_int', add_int', sub_int', ex, ev, evs, eva, bind_ok, of_some, toS_ok, quiet_ok, get_0, get_s, List.set_cons_zero, List.set_cons_succ, LINE, List.length_cons, List.length_nil, Nat.reduceAdd, Nat.reduceLeDiff, decide_true, List.append_nil, List.map_nil, List.cons_append, List.nil_append, h11, hz1, mod_int' (b := 3) (by decide), hc]⟩
    | true =>
      obtain ⟨d, hg, hs⟩ := w_spoilt hl h0 4 x (by omega) 99 [CS j' m'] 20 (by omega) (by omega)
      have hs' : IP.run P 99 i__law_spoilt_formula [.val (fmD f), .val (.list (l.map PyData.int)), .val (.int 20)] [CS j' m'] = .ok d [CS j' m'] := hs
      exact ⟨d, hg.weak (by omega) (by decide), by simp only [s_law_5, exs_cons, exs_nil, ex_ife, seq_nx, seq_ret, endS_ret, endS_nx, ift_t, ift_f, ift_or, ift_and, ifs_t, ev_ife, and_1, and_2, or_1, or_2, evc_0, evc_1, idx_list', idx_tup', at_0, at_1, at_2, at_3, ix_2_0, ix_2_1, tr_bool, eq_str, eq_int, lt_int', le_int', gt_int', add_int', sub_int', ex, ev, evs, eva, bind_ok, of_some, toS_ok, quiet_ok, get_0, get_s, List.set_cons_zero, List.set_cons_succ, LINE, List.length_cons, List.length_nil, Nat.reduceAdd, Nat.reduceLeDiff, decide_true, List.append_nil, List.map_nil, List.cons_append, List.nil_append, h11, hz1, mod_int' (b := 3) (by decide), hc, hs']⟩
  obtain ⟨b, v, w1, w2⟩ := w_formula_of hB hd
  have q1 := w2 98 [CS j' m'] (by omega)
  have q2 := w_isformula 97 [CS j' m'] hB w1 (by omega)
  have a6 : ex (IP.run P 99) s_law_6 [.scr ns, .val (.list (l.map PyData.int)), .val (.tuple (B.map rowD)), .val (.list (l2.map PyData.int)), .val (.list kn), .val d, .un] [CS j' m'] = .nx [.scr ns, .val (.list (l.map PyData.int)), .val (.tuple (B.map rowD)), .val (.list (l2.map PyData.int)), .val (.list kn), .val d, .val (.bool b)] [CS j' m'] := by
    simp only [s_law_6, exs_cons, exs_nil, ex_ife, seq_nx, seq_ret, endS_ret, endS_nx, ift_t, ift_f, ift_or, ift_and, ifs_t, ev_ife, and_1, and_2, or_1, or_2, evc_0, evc_1, idx_list', idx_tup', at_0, at_1, at_2, at_3, ix_2_0, ix_2_1, tr_bool, eq_str, eq_int, lt_int', le_int', gt_int', add_int', sub_int', ex, ev, evs, eva, bind_ok, of_some, toS_ok, quiet_ok, get_0, get_s, List.set_cons_zero, List.set_cons_succ, LINE, List.length_cons, List.length_nil, Nat.reduceAdd, Nat.reduceLeDiff, decide_true, List.append_nil, List.map_nil, List.cons_append, List.nil_append, q1]
  have nb := ne_bool_self b
  have a7 : ex (IP.run P 99) s_law_7 [.scr ns, .val (.list (l.map PyData.int)), .val (.tuple (B.map rowD)), .val (.list (l2.map PyData.int)), .val (.list kn), .val d, .val (.bool b)] [CS j' m'] = .nx [.scr ns, .val (.list (l.map PyData.int)), .val (.tuple (B.map rowD)), .val (.list (l2.map PyData.int)), .val (.list kn), .val d, .val (.bool b)] [CS j' m'] := by
    simp only [s_law_7, exs_cons, exs_nil, ex_ife, seq_nx, seq_ret, endS_ret, endS_nx, ift_t, ift_f, ift_or, ift_and, ifs_t, ev_ife, and_1, and_2, or_1, or_2, evc_0, evc_1, idx_list', idx_tup', at_0, at_1, at_2, at_3, ix_2_0, ix_2_1, tr_bool, eq_str, eq_int, lt_int', le_int', gt_int', add_int', sub_int', ex, ev, evs, eva, bind_ok, of_some, toS_ok, quiet_ok, get_0, get_s, List.set_cons_zero, List.set_cons_succ, LINE, List.length_cons, List.length_nil, Nat.reduceAdd, Nat.reduceLeDiff, decide_true, List.append_nil, List.map_nil, List.cons_append, List.nil_append, q2, nb]
  refine ⟨[], ?_⟩
  show endS 0 (exs (IP.run P 99) b_law [.scr ns, .un, .un, .un, .un, .un, .un] []) = _
  rw [b_law]
  cases b with
  | true =>
    obtain ⟨br, ls, hv⟩ := v rfl
    have q3 := w_loose 96 [CS j' m'] hB hv w1 (by omega)
    have q4 := loose_same hv 99 [CS j' m'] (by omega) (by omega) (by omega)
    have q5 := eq_self (d := .list (ls.map PyData.int)) (by rw [noDict]; exact ints_nd ls) (by have := ints_depth ls; omega)
    have a8 : ex (IP.run P 99) s_law_8 [.scr ns, .val (.list (l.map PyData.int)), .val (.tuple (B.map rowD)), .val (.list (l2.map PyData.int)), .val (.list kn), .val d, .val (.bool true)] [CS j' m'] = .ret (.bool true) [CS j' m'] := by
      simp only [s_law_8, exs_cons, exs_nil, ex_ife, seq_nx, seq_ret, endS_ret, endS_nx, ift_t, ift_f, ift_or, ift_and, ifs_t, ev_ife, and_1, and_2, or_1, or_2, evc_0, evc_1, idx_list', idx_tup', at_0, at_1, at_2, at_3, ix_2_0, ix_2_1, tr_bool, eq_str, eq_int, lt_int', le_int', gt_int', add_int', sub_int', ex, ev, evs, eva, bind_ok, of_some, toS_ok, quiet_ok, get_0, get_s, List.set_cons_zero, List.set_cons_succ, LINE, List.length_cons, List.length_nil, Nat.reduceAdd, Nat.reduceLeDiff, decide_true, List.append_nil, List.map_nil, List.cons_append, List.nil_append, q3, q4, q5]
    simp only [exs_cons, a0, a1, a2, a3, a4, a5, a6, a7, a8, seq_nx, seq_ret, endS_ret]
    rfl
  | false =>
    have a8 : ex (IP.run P 99) s_law_8 [.scr ns, .val (.list (l.map PyData.int)), .val (.tuple (B.map rowD)), .val (.list (l2.map PyData.int)), .val (.list kn), .val d, .val (.bool false)] [CS j' m'] = .nx [.scr ns, .val (.list (l.map PyData.int)), .val (.tuple (B.map rowD)), .val (.list (l2.map PyData.int)), .val (.list kn), .val d, .val (.bool false)] [CS j' m'] := by
      simp only [s_law_8, exs_cons, exs_nil, ex_ife, seq_nx, seq_ret, endS_ret, endS_nx, ift_t, ift_f, ift_or, ift_and, ifs_t, ev_ife, and_1, and_2, or_1, or_2, evc_0, evc_1, idx_list', idx_tup', at_0, at_1, at_2, at_3, ix_2_0, ix_2_1, tr_bool, eq_str, eq_int, lt_int', le_int', gt_int', add_int', sub_int', ex, ev, evs, eva, bind_ok, of_some, toS_ok, quiet_ok, get_0, get_s, List.set_cons_zero, List.set_cons_succ, LINE, List.length_cons, List.length_nil, Nat.reduceAdd, Nat.reduceLeDiff, decide_true, List.append_nil, List.map_nil, List.cons_append, List.nil_append]
    have q3 := w_refusedF 94 [CS j' m'] hB w1 hd.nd (by have := hd.depth; omega) ((z2 : Int) % 4) (by omega)
    have a9 : ex (IP.run P 99) s_law_9 [.scr ns, .val (.list (l.map PyData.int)), .val (.tuple (B.map rowD)), .val (.list (l2.map PyData.int)), .val (.list kn), .val d, .val (.bool false)] [CS j' m'] = .ret (.bool true) [CS j' m'] := by
      simp only [s_law_9, exs_cons, exs_nil, ex_ife, seq_nx, seq_ret, endS_ret, endS_nx, ift_t, ift_f, ift_or, ift_and, ifs_t, ev_ife, and_1, and_2, or_1, or_2, evc_0, evc_1, idx_list', idx_tup', at_0, at_1, at_2, at_3, ix_2_0, ix_2_1, tr_bool, eq_str, eq_int, lt_int', le_int', gt_int', add_int', sub_int', ex, ev, evs, eva, bind_ok, of_some, toS_ok, quiet_ok, get_0, get_s, List.set_cons_zero, List.set_cons_succ, LINE, List.length_cons, List.length_nil, Nat.reduceAdd, Nat.reduceLeDiff, decide_true, List.append_nil, List.map_nil, List.cons_append, List.nil_append, h12, hz2, mod_int' (b := 4) (by decide), q3]
    simp only [exs_cons, a0, a1, a2, a3, a4, a5, a6, a7, a8, a9, seq_nx, seq_ret, endS_ret]
    rfl


end L08
open PySem PySem.W PySem.Calls PyProof.Rows
theorem PySem.Challenge.cw_scopeshelf_k08_formulas_holds : PySem.Challenge.rw_scopeshelf_k08_formulas.Holds := by
  w_on; o_law
  refine HandSHeadRun.head_any (r := OpenLaw.row PySem.Challenge.rw_scopeshelf_k08_formulas) (q := view (OpenLaw.row PySem.Challenge.rw_scopeshelf_k08_formulas).prog [63]) (H := L08.hk) (ob := L08.ob) (M := 20000) (loose := L08.loose) (d := HandSHeadRun.topDef (OpenLaw.row PySem.Challenge.rw_scopeshelf_k08_formulas).prog 63) (kwd := []) L08.ob_eq
    (by kernel_rfl) (fun s => by kernel_rfl) L08.run (by kernel_rfl) (by kernel_rfl) (by kernel_rfl) (by rfl) (by first | assumption | decide +kernel) (by decide +kernel) ⟨rfl, rfl, rfl, rfl, rfl, by decide +kernel⟩ ?hw ?hc
  case hw => w_witness2
  case hc =>
    refine IP.walk_byWorld (l := PySem.Challenge.rw_scopeshelf_k08_formulas) (n := 63) (k := 202) (x := "_law_script") (CX := fun w => L2.CX PySem.Challenge.rw_scopeshelf_k08_formulas.prog w) rfl (by decide) (by kernel_rfl) ⟨rfl, by decide, by decide⟩ ?F (fun w => IP.cx_false)
    intro w mg fa h Y G hmg0
    obtain ⟨K, KX, c⟩ := Y
    have hmg : mg ("law" : PySem.Str) = some (.ref fa) := by
      have e : (HandSHeadRun.topDef (OpenLaw.row PySem.Challenge.rw_scopeshelf_k08_formulas).prog 63).name = ("law" : PySem.Str) := by kernel_rfl
      rw [← e]
      exact hmg0
    obtain ⟨fd, hb, hF⟩ := L08.facts (Q := (PySem.Challenge.rw_scopeshelf_k08_formulas).prog) (w := w) KX G hmg c
    exact ⟨K, fd, _, KX, hb, fun H a ns hl hO hS => IP.sp_law hO hS hl (L08.plain ns hl), hF⟩
