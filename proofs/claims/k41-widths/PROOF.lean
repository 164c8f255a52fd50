import PyProof.Rows.All
import Wide.All
import OpenK.AllK
import Wide.FinOn
import HandS.ForMost
import HandS.Walk
import HandS.Deep
import HandS.Style
import HandS.StrMore
import HandS.Flow
import HandS.IsInst
import HandS.TupAny
import HandS.Dict
import HandS.More
import KE.GoesMore
import KE.GoesZip
import HandS.Rev
import HandS.Conv
import PyProof.ListRange
import HandS.TryOnly
import HandS.Words
import HandS.WordsExc
import HandS.Defaults
import HandS.Head0
import HandS.Head1
import HandS.Head2
import HandS.HeadEnd
import HandS.HeadHook1
import HandS.HeadHook2
import KE.IntTextLaws
import HandS.Text
import KE.KStateDown
import PySem.Challenge.RW_glyphhall_k41_widths
section
set_option Elab.async false
set_option linter.all false
set_option maxRecDepth 100000
set_option maxHeartbeats 4000000
namespace G
open PySem
/-! ### values without a heap -/
inductive DK where
  | i (k : Int) | s (x : List Nat) | t (ks : List (Sum Int (List Nat)))
  deriving DecidableEq
inductive D where
  | non | bl (b : Bool) | int (i : Int) | str (x : List Nat)
  | lst (xs : List D) | tup (xs : List D) | dic (t : Bool) (kvs : List (DK × D))
  | ins (c : Nat) (fs : List (Nat × D)) | scr (ns : List Int) | exc (c : Nat) (fs : List (Nat × D))
  deriving Inhabited
inductive R (α : Type) where
  | ok (a : α) | ex (c : Nat) (fs : List (Nat × D)) | bad
@[inline] def R.bind {α β : Type} (x : R α) (f : α → R β) : R β := match x with
  | .ok a => f a
  | .ex c fs => .ex c fs
  | .bad => .bad
theorem bind_ok {α β : Type} (a : α) (f : α → R β) : (R.ok a).bind f = f a := rfl
def R.of {α : Type} : Option α → R α
  | some a => .ok a
  | none => .bad
/-- what may be raised inside is nothing here -/
def R.noex {α : Type} : R α → R α
  | .ok a => .ok a
  | _ => .bad
/-- ownership: sh: shared (never written through this name); the others: owned through and through as told -/
inductive S where
  | sh | lst (s : S) | dic | tn | tc (a r : S) | on | oc (f : Nat) (a r : S)
  deriving DecidableEq
def S.at : S → Nat → S
  | .tc a _, 0 => a
  | .tc _ r, n + 1 => r.at n
  | _, _ => .sh
def isOb : S → Bool
  | .on | .oc _ _ _ => true
  | _ => false
def S.fld : S → Nat → S
  | .oc g a r, f => if f = g then a else r.fld f
  | _, _ => .sh
/-! ### the text -/
inductive BO where
  | add | sub | mul | fdiv | mod | pow
  deriving DecidableEq
inductive CO where
  | eq | ne | lt | le | gt | ge | isin | notin | is | isnot
  deriving DecidableEq
inductive BI where
  | len | int | str | list | tuple | dict | all | any | sum | abs | max | min | sorted
  deriving DecidableEq
inductive MI where
  | split | join | strip | startswith | replace | upper | get | index | count
  deriving DecidableEq
mutual
inductive IE where
  | v (i : Nat) | kn | kb (b : Bool) | ki (i : Int) | ks (x : List Nat) | g (i : Nat)
  | bin (op : BO) (a b : IE) | neg (a : IE) | not (a : IE) | and (a b : IE) | or (a b : IE)
  | cmp (op : CO) (a b : IE) | cmp2 (o1 o2 : CO) (a b c : IE)
  | ife (c a b : IE)
  | lst (es : IL) | tup (es : IL) | dnew (t : Bool) | dic (kvs : IKV)
  | comp (elt : IE) (tu : Bool) (tg : List Nat) (it : IT) (cnd : IO)
  | ix (a i : IE) | sl (a : IE) (lo hi : IO) | rev (a : IE)
  | fld (a : IE) (f : Nat)
  | call (f : Nat) (es : IL) | mk (c : Nat) (es : IL)
  | blt (b : BI) (es : IL) | mth (m : MI) (o : IE) (es : IL)
  | isi (a : IE) (cs : List Nat) | lrg (tu : Bool) (it : IT) | lrv (a : IE)
  | nv
inductive IL where
  | nil | cons (e : IE) (r : IL)
inductive IKV where
  | nil | cons (k v : IE) (r : IKV)
inductive IO where
  | none | some (e : IE)
inductive IT where
  | seq (e : IE) | rng1 (a : IE) | rng2 (a b : IE) | rng3 (a b c : IE) | enum (e : IE) | zip (a b : IE) | rev (e : IE)
  | items (e : IE) | vals (e : IE) | keys (e : IE)
end
inductive Sel where
  | fld (f : Nat) | idx (e : IE)
structure Pth where
  base : Nat
  sels : List Sel
mutual
inductive IS where
  | asg (i : Nat) (s : S) (e : IE) (ow : Bool) | asgT (is : List Nat) (e : IE) (ow : Bool) | par (is : List Nat) (es : IL) (ow : Bool) | aug (i : Nat) (op : BO) (e : IE) | shr (i : Nat)
  | app (p : Pth) (e : IE) (ow : Bool) | ext (p : Pth) (e : IE) | insr (p : Pth) (i e : IE) (ow : Bool) | clr (p : Pth) | rvs (p : Pth)
  | sti (p : Pth) (i e : IE) (ow : Bool) | stf (p : Pth) (f : Nat) (e : IE) (ow : Bool)
  | exp (e : IE) | mc (r : Option Nat) (f : Nat) (i : Nat) (es : IL) (ow : Bool) | mcr (f : Nat) (i : Nat) (es : IL) (ow : Bool)
  | ifm (neg : Bool) (f i : Nat) (es : IL) (ow : Bool) (a b : ISs)
  | for (tu : Bool) (tg : List Nat) (it : IT) (b : ISs) | whl (c : IE) (b : ISs) | ife (c : IE) (a b : ISs)
  | ret (e : IE) | retN | brk | ct | pas
  | rse (c : Nat) (es : IL) | tre (b : ISs) (c : Nat) (i : Nat) (v : Nat)
  | nv
inductive ISs where
  | nil | cons (s : IS) (r : ISs)
end

/-! ### what values are worth -/
def SZ : Nat := 16777216
mutual
/-- no container in it that may change -/
def noMut : D → Bool
  | .non | .bl _ | .int _ | .str _ | .scr _ => true
  | .tup xs => noMuts xs
  | .lst _ | .dic _ _ | .ins _ _ | .exc _ _ => false
def noMuts : List D → Bool
  | [] => true
  | d :: r => noMut d && noMuts r
end
def flatK : D → Option (Sum Int (List Nat))
  | .int k => some (.inl k)
  | .str x => some (.inr x)
  | _ => none
def flatKs : List D → Option (List (Sum Int (List Nat)))
  | [] => some []
  | d :: r => match flatK d, flatKs r with
    | some k, some ks => some (k :: ks)
    | _, _ => none
/-- a value as a key: t: tuples -/
def toK (t : Bool) (d : D) : Option DK := match t, d with
  | false, .int k => some (.i k)
  | false, .str x => some (.s x)
  | true, .tup ds => (flatKs ds).map .t
  | _, _ => none
def DK.toD : DK → D
  | .i k => .int k
  | .s x => .str x
  | .t ks => .tup (ks.map fun k => match k with
    | .inl n => .int n
    | .inr x => .str x)
def getK (kvs : List (DK × D)) (k : DK) : Option D := (kvs.find? fun kv => decide (kv.1 = k)).map (·.2)
def putK (kvs : List (DK × D)) (k : DK) (v : D) : List (DK × D) :=
  if kvs.any (fun kv => decide (kv.1 = k)) then kvs.map fun kv => if kv.1 = k then (kv.1, v) else kv else kvs ++ [(k, v)]
def getF : List (Nat × D) → Nat → Option D
  | [], _ => none
  | (g, d) :: r, f => if f = g then some d else getF r f
def putF (f : Nat) (v : D) : List (Nat × D) → List (Nat × D)
  | [] => [(f, v)]
  | (g, d) :: r => if g = f then (g, v) :: r else (g, d) :: putF f v r

mutual
def pd : D → PyData
  | .non => .none
  | .bl b => .bool b
  | .int i => .int i
  | .str x => .str ⟨x.toArray⟩
  | .lst xs => .list (pds xs)
  | .tup xs => .tuple (pds xs)
  | _ => .dict []
def pds : List D → List PyData
  | [] => []
  | d :: r => pd d :: pds r
end
mutual
def okD : Nat → D → Bool
  | _, .non | _, .bl _ | _, .int _ => true
  | _, .str x => x.all fun c => decide (c < 128)
  | n + 1, .lst xs => okDs n xs
  | n + 1, .tup xs => okDs n xs
  | _, _ => false
def okDs : Nat → List D → Bool
  | _, [] => true
  | n, d :: r => okD n d && okDs n r
end
def scalD : D → Bool
  | .non | .bl _ | .int _ | .str _ => true
  | _ => false
/-- == -/
def eqD (a b : D) : R Bool := match a, b with
  | .int i, .int j => .ok (decide (i = j))
  | .str x, .str y => .ok (decide (x = y))
  | .bl x, .bl y => .ok (decide (x = y))
  | .int _, .str _ | .str _, .int _ | .non, .int _ | .int _, .non | .non, .str _ | .str _, .non => .ok false
  | .lst xs, .lst ys => if okDs 20 xs && okDs 20 ys then .ok (PyData.eqvAll (pds xs) (pds ys)) else .bad
  | .tup xs, .tup ys => if okDs 20 xs && okDs 20 ys then .ok (PyData.eqvAll (pds xs) (pds ys)) else .bad
  | .tup xs, .lst ys => if okDs 20 xs && okDs 20 ys then .ok false else .bad
  | .lst xs, .tup ys => if okDs 20 xs && okDs 20 ys then .ok false else .bad
  | _, _ => .bad
/-- == of flat things, for in -/
def flatD : D → Bool
  | .non | .bl _ | .int _ | .str _ => true
  | _ => false
def inD (x : D) (ys : List D) : R Bool :=
  if okD 20 x && okDs 20 ys then .ok (ys.any fun y => PyData.eqv (pd y) (pd x)) else .bad
def isPre : List Nat → List Nat → Bool
  | [], _ => true
  | _ :: _, [] => false
  | a :: r, b :: q => decide (a = b) && isPre r q
def addD : D → D → R D
  | .int a, .int b => .ok (.int (a + b))
  | .str a, .str b => if a.length + b.length ≤ SZ then .ok (.str (a ++ b)) else .bad
  | .lst a, .lst b => if a.length + b.length ≤ SZ then .ok (.lst (a ++ b)) else .bad
  | .tup a, .tup b => if !(noMuts a && noMuts b) then .bad else if a.length + b.length ≤ SZ then .ok (.tup (a ++ b)) else .bad
  | _, _ => .bad
def repL {α : Type} (xs : List α) (k : Int) : List α := (List.replicate k.toNat xs).flatten
def mulD : D → D → R D
  | .int i, .int j => if (-(2 ^ 64) < i ∧ i < 2 ^ 64) ∨ (-(2 ^ 64) < j ∧ j < 2 ^ 64) then .ok (.int (i * j)) else .bad
  | .lst xs, .int k => if -(2 ^ 63) ≤ k ∧ k < 2 ^ 63 ∧ xs.length * k.toNat ≤ SZ then .ok (.lst (repL xs k)) else .bad
  | .str xs, .int k => if -(2 ^ 63) ≤ k ∧ k < 2 ^ 63 ∧ xs.length * k.toNat ≤ SZ then .ok (.str (repL xs k)) else .bad
  | _, _ => .bad
def binD : BO → D → D → R D
  | .add, a, b => addD a b
  | .sub, .int a, .int b => .ok (.int (a - b))
  | .mul, a, b => mulD a b
  | .fdiv, .int a, .int b => if 0 < b ∧ b < 1073741824 then .ok (.int (a / b)) else .bad
  | .mod, .int a, .int b => if 0 < b then .ok (.int (a % b)) else .bad
  | .pow, .int a, .int b => if 0 ≤ b ∧ b ≤ 1000000 ∧ a.natAbs < 2 ^ 64 then .ok (.int (a ^ b.toNat)) else .bad
  | _, _, _ => .bad
def truD : D → R Bool
  | .bl b => .ok b
  | _ => .bad
def cmpD : CO → D → D → R Bool
  | .eq, a, b => eqD a b
  | .ne, a, b => (eqD a b).bind fun c => .ok (!c)
  | .lt, .int a, .int b => .ok (decide (a < b))
  | .le, .int a, .int b => .ok (decide (a ≤ b))
  | .gt, .int a, .int b => .ok (decide (b < a))
  | .ge, .int a, .int b => .ok (decide (b ≤ a))
  | .isin, x, .lst ys => inD x ys
  | .isin, x, .tup ys => if flatD x && ys.all flatD then inD x ys else .bad
  | .isin, .str [c], .str y => .ok (decide (c ∈ y))
  | .isin, k, .dic t kvs => (R.of (toK t k)).bind fun k => .ok (getK kvs k).isSome
  | .notin, x, .lst ys => (inD x ys).bind fun c => .ok (!c)
  | .notin, x, .tup ys => if flatD x && ys.all flatD then (inD x ys).bind fun c => .ok (!c) else .bad
  | .notin, .str [c], .str y => .ok (!decide (c ∈ y))
  | .notin, k, .dic t kvs => (R.of (toK t k)).bind fun k => .ok (!(getK kvs k).isSome)
  | .is, d, .non => .ok (match d with | .non => true | _ => false)
  | .isnot, d, .non => .ok (match d with | .non => false | _ => true)
  | _, _, _ => .bad
def ixD (a i : D) : R D := match a, i with
  | .lst xs, .int k => R.of (L2.atI xs k)
  | .tup xs, .int k => R.of (L2.atI xs k)
  | .scr ns, .int k => (R.of (L2.atI ns k)).bind fun n => .ok (.int n)
  | .str x, .int k => if x.length ≤ SZ then (R.of (L2.atI x k)).bind fun c => .ok (.str [c]) else .bad
  | .dic t kvs, k => (R.of (toK t k)).bind fun k => R.of (getK kvs k)
  | _, _ => .bad
/-- xs[lo:hi] -/
def cut {α : Type} (xs : List α) (lo hi : Option Int) : List α := (xs.drop (HT.sIx xs.length 0 lo)).take (HT.sIx xs.length xs.length hi - HT.sIx xs.length 0 lo)
def slD (a : D) (lo hi : Option Int) : R D := match a with
  | .lst xs => .ok (.lst (cut xs lo hi))
  | .scr ns => .ok (.lst ((cut ns lo hi).map .int))
  | .str x => if x.length ≤ SZ then .ok (.str (cut x lo hi)) else .bad
  | _ => .bad
def intO : D → Option Int
  | .int i => some i
  | _ => none
def fldD (d : D) (f : Nat) : R D := match d with
  | .ins _ fs => R.of (getF fs f)
  | _ => .bad
/-- a whole number's figures -/
def figL (n : Nat) : List Nat := TL.numL n
def intL (i : Int) : List Nat := if i < 0 then 45 :: figL i.natAbs else figL i.natAbs
def splC (c : Nat) : List Nat → List Nat → List (List Nat)
  | acc, [] => [acc]
  | acc, x :: r => if x = c then acc :: splC c [] r else splC c (acc ++ [x]) r
def joinC (y : List Nat) : List (List Nat) → List Nat
  | [] => []
  | [x] => x
  | x :: z :: r => x ++ y ++ joinC y (z :: r)
def strsOf : List D → Option (List (List Nat))
  | [] => some []
  | .str x :: r => (strsOf r).map (x :: ·)
  | _ => none
def blsOf : List D → Option (List Bool)
  | [] => some []
  | .bl x :: r => (blsOf r).map (x :: ·)
  | _ => none
def intsOf : List D → Option (List Int)
  | [] => some []
  | .int x :: r => (intsOf r).map (x :: ·)
  | _ => none
def sumLen : List (List Nat) → Nat
  | [] => 0
  | x :: r => x.length + sumLen r
/-- a pair as a key and a value -/
def pairD (d : D) : Option (DK × D) := match d with
  | .tup [k, v] => (toK false k).map fun k => (k, v)
  | _ => none
def pairsD : List D → Option (List (DK × D))
  | [] => some []
  | d :: r => match pairD d, pairsD r with
    | some k, some ks => some (k :: ks)
    | _, _ => none
def bltD (b : BI) (ds : List D) : R D := match b, ds with
  | .len, [.lst xs] => .ok (.int xs.length)
  | .len, [.tup xs] => .ok (.int xs.length)
  | .len, [.scr xs] => .ok (.int xs.length)
  | .len, [.dic false kvs] => .ok (.int kvs.length)
  | .len, [.str x] => if x.length ≤ SZ then .ok (.int x.length) else .bad
  | .int, [.int i] => .ok (.int i)
  | .int, [.bl b] => .ok (.int (if b then 1 else 0))
  | .int, [.str x] => if x.length ≤ 640 then (R.of (intText? ⟨x.toArray⟩)).bind fun n => .ok (.int n) else .bad
  | .str, [.int i] => if i.natAbs < 10 ^ 100 then .ok (.str (intL i)) else .bad
  | .list, [.lst xs] => .ok (.lst xs)
  | .list, [.tup xs] => .ok (.lst xs)
  | .tuple, [.lst xs] => .ok (.tup xs)
  | .tuple, [.tup xs] => .ok (.tup xs)
  | .dict, [.lst xs] => (R.of (pairsD xs)).bind fun kds => .ok (.dic false (kds.foldl (fun acc kv => putK acc kv.1 kv.2) []))
  | .dict, [.dic false kvs] => .ok (.dic false kvs)
  | .all, [.lst xs] => (R.of (blsOf xs)).bind fun bs => .ok (.bl (bs.all id))
  | .any, [.lst xs] => (R.of (blsOf xs)).bind fun bs => .ok (.bl (bs.any id))
  | .sum, [.lst xs] => (R.of (intsOf xs)).bind fun ns => .ok (.int ns.sum)
  | .abs, [.int i] => .ok (.int (if i < 0 then -i else i))
  | .max, [.int i, .int j] => .ok (.int (if j > i then j else i))
  | .min, [.int i, .int j] => .ok (.int (if j < i then j else i))
  | _, _ => .bad
def stripC (ks x : List Nat) : List Nat := (Txt.stripChars ⟨x.toArray⟩ ⟨ks.toArray⟩).cps.toList
def mthD (m : MI) (o : D) (ds : List D) : R D := match m, o, ds with
  | .split, .str x, [.str [c]] => if c < 256 ∧ x.length + 2 ≤ SZ then .ok (.lst ((splC c [] x).map .str)) else .bad
  | .join, .str y, [.lst xs] => (R.of (strsOf xs)).bind fun zs => if sumLen zs + y.length * zs.length ≤ SZ then .ok (.str (joinC y zs)) else .bad
  | .startswith, .str x, [.str y] => .ok (.bl (Txt.startswith ⟨x.toArray⟩ ⟨y.toArray⟩))
  | .strip, .str x, [.str ks] => if x.length ≤ SZ then .ok (.str (stripC ks x)) else .bad
  | .get, .dic t kvs, [k, d] => (R.of (toK t k)).bind fun k => .ok ((getK kvs k).getD d)
  | .get, .dic t kvs, [k] => (R.of (toK t k)).bind fun k => .ok ((getK kvs k).getD .non)
  | _, _, _ => .bad
/-! ### the reading -/
abbrev Env := List (Option D)
def getV (env : Env) (i : Nat) : R D := match env[i]? with
  | some (some d) => .ok d
  | _ => .bad
structure Calls where
  p : Nat → List D → R D
  m : Nat → D → List D → R (D × D)
structure Tab where
  fname : Nat → Str
  cname : Nat → Str
  gname : Nat → Str
  gs : Nat → Str × List Nat
  init : Nat → Nat
  ret : Nat → S
  cty : Nat → S
  ngs : Nat
  nfl : Nat
  mty : Nat → Option S
  fns : List Nat
  ncl : Nat
/-- the slots of a target -/
def setAll : List Nat → List D → Env → Option Env
  | [], [], env => some env
  | i :: is, d :: ds, env => setAll is ds (env.set i (some d))
  | _, _, _ => none
def setT (tu : Bool) (tg : List Nat) (d : D) (env : Env) : Option Env := match tu with
  | false => (match tg with
    | [i] => some (env.set i (some d))
    | _ => none)
  | true => (match d with
    | .tup ds => setAll tg ds env
    | _ => none)
/-- a comprehension's list -/
def compR (f : D → R (Option D)) : List D → R (List D)
  | [] => .ok []
  | d :: r => (f d).bind fun o => (compR f r).bind fun ys => .ok (match o with
    | some y => y :: ys
    | none => ys)
def rngL (a : Int) (c : Int) (n : Nat) : List D := (List.range n).map fun (i : Nat) => .int (a + (i : Int) * c)
def rngN (a b c : Int) : Nat := (Builtin.Range.rangeSize a b c).toNat
def small62 (a : Int) : Bool := decide (-(2 ^ 62) ≤ a ∧ a < 2 ^ 62)
def enumL : Nat → List D → List D
  | _, [] => []
  | k, d :: r => .tup [.int k, d] :: enumL (k + 1) r
def zipL : List D → List D → List D
  | a :: r, b :: q => .tup [a, b] :: zipL r q
  | _, _ => []
def tyN : Nat → String
  | 0 => "int"
  | 1 => "str"
  | 2 => "bool"
  | 3 => "tuple"
  | 4 => "list"
  | _ => "dict"
def tyD : D → Option Nat
  | .bl _ => some 2
  | .int _ => some 0
  | .str _ => some 1
  | .tup _ => some 3
  | .lst _ => some 4
  | .scr _ => some 4
  | .dic false _ => some 5
  | _ => none
/-- isinstance of one of the six types -/
def isiD (t : Nat) (d : D) : R Bool := match d with
  | .non => .ok false
  | d => (R.of (tyD d)).bind fun u => .ok (decide (u = t) || (decide (u = 2) && decide (t = 0)))
mutual
def evE (C : Calls) (T : Tab) (env : Env) : IE → R D
  | .v i => getV env i
  | .kn => .ok .non
  | .kb b => .ok (.bl b)
  | .ki i => .ok (.int i)
  | .ks x => .ok (.str x)
  | .g i => .ok (.str (T.gs i).2)
  | .bin op a b => (evE C T env a).bind fun x => (evE C T env b).bind fun y => binD op x y
  | .neg a => (evE C T env a).bind fun x => match x with
    | .int i => .ok (.int (-i))
    | _ => .bad
  | .not a => (evE C T env a).bind fun x => (truD x).bind fun b => .ok (.bl (!b))
  | .and a b => (evE C T env a).bind fun x => (truD x).bind fun c => if c then evE C T env b else .ok (.bl false)
  | .or a b => (evE C T env a).bind fun x => (truD x).bind fun c => if c then .ok (.bl true) else evE C T env b
  | .cmp op a b => (evE C T env a).bind fun x => (evE C T env b).bind fun y => (cmpD op x y).bind fun c => .ok (.bl c)
  | .cmp2 o1 o2 a b c => (evE C T env a).bind fun x => (evE C T env b).bind fun y => (cmpD o1 x y).bind fun k =>
      if k then (evE C T env c).bind fun z => (cmpD o2 y z).bind fun c => .ok (.bl c) else .ok (.bl false)
  | .ife c a b => (evE C T env c).bind fun x => (truD x).bind fun k => if k then evE C T env a else evE C T env b
  | .lst es => (evL C T env es).bind fun ds => .ok (.lst ds)
  | .tup es => (evL C T env es).bind fun ds => .ok (.tup ds)
  | .dnew t => .ok (.dic t [])
  | .dic kvs => (evKV C T env kvs).bind fun kvs => if kvs.length ≤ 15 then .ok (.dic false (kvs.foldl (fun acc kv => putK acc kv.1 kv.2) [])) else .bad
  | .comp elt tu tg it cnd => (evIt C T env it).bind fun ds => (compR (fun d => match setT tu tg d env with
      | some env1 => ((evC C T env1 cnd).bind fun k => if k then (evE C T env1 elt).bind fun y => .ok (some y) else .ok none).noex
      | none => .bad) ds).bind fun ys => if ds.length ≤ SZ then .ok (.lst ys) else .bad
  | .ix a i => (evE C T env a).bind fun x => (evE C T env i).bind fun y => ixD x y
  | .sl a lo hi => (evE C T env a).bind fun x => (evO C T env lo).bind fun l => (evO C T env hi).bind fun h => slD x l h
  | .rev a => (evE C T env a).bind fun x => match x with
    | .lst xs => .ok (.lst xs.reverse)
    | _ => .bad
  | .fld a f => (evE C T env a).bind fun x => fldD x f
  | .call f es => (evL C T env es).bind fun ds => C.p f ds
  | .mk c es => (evL C T env es).bind fun ds => (C.m (T.init c) (.ins c []) ds).bind fun r => match r.1 with
    | .non => .ok r.2
    | _ => .bad
  | .blt b es => (evL C T env es).bind fun ds => bltD b ds
  | .mth m o es => (evE C T env o).bind fun x => (evL C T env es).noex.bind fun ds => mthD m x ds
  | .isi a cs => (evE C T env a).bind fun x => match cs with
    | [t] => (isiD t x).bind fun b => .ok (.bl b)
    | _ => .bad
  | .lrg tu it => (evIt C T env it).bind fun ds => if ds.length ≤ SZ then .ok (if tu then .tup ds else .lst ds) else .bad
  | .lrv a => (evE C T env a).bind fun x => match x with
    | .lst xs => .ok (.lst xs.reverse)
    | _ => .bad
  | .nv => .bad
def evL (C : Calls) (T : Tab) (env : Env) : IL → R (List D)
  | .nil => .ok []
  | .cons e r => (evE C T env e).bind fun d => (evL C T env r).bind fun ds => .ok (d :: ds)
def evKV (C : Calls) (T : Tab) (env : Env) : IKV → R (List (DK × D))
  | .nil => .ok []
  | .cons k v r => (evE C T env k).bind fun x => (R.of (toK false x)).bind fun k => (evE C T env v).bind fun y => (evKV C T env r).bind fun kvs => .ok ((k, y) :: kvs)
def evO (C : Calls) (T : Tab) (env : Env) : IO → R (Option Int)
  | .none => .ok none
  | .some e => (evE C T env e).bind fun x => match x with
    | .int i => .ok (some i)
    | _ => .bad
def evC (C : Calls) (T : Tab) (env : Env) : IO → R Bool
  | .none => .ok true
  | .some e => (evE C T env e).bind fun x => truD x
def evIt (C : Calls) (T : Tab) (env : Env) : IT → R (List D)
  | .seq e => (evE C T env e).bind fun x => match x with
    | .lst xs => .ok xs
    | .tup xs => .ok xs
    | .scr ns => .ok (ns.map .int)
    | _ => .bad
  | .rng1 a => (evE C T env a).bind fun x => match x with
    | .int n => if small62 n then .ok (rngL 0 1 n.toNat) else .bad
    | _ => .bad
  | .rng2 a b => (evE C T env a).bind fun x => (evE C T env b).bind fun y => match x, y with
    | .int i, .int j => if small62 i && small62 j then .ok (rngL i 1 (j - i).toNat) else .bad
    | _, _ => .bad
  | .rng3 a b c => (evE C T env a).bind fun x => (evE C T env b).bind fun y => (evE C T env c).bind fun z => match x, y, z with
    | .int i, .int j, .int k => if k ≠ 0 ∧ k.natAbs < 1073741824 ∧ Builtin.Range.small i j k = true ∧ 0 ≤ Builtin.Range.rangeSize i j k then .ok (rngL i k (rngN i j k)) else .bad
    | _, _, _ => .bad
  | .enum e => (evE C T env e).bind fun x => match x with
    | .lst xs => .ok (enumL 0 xs)
    | .scr ns => .ok (enumL 0 (ns.map .int))
    | _ => .bad
  | .zip a b => (evE C T env a).bind fun x => (evE C T env b).bind fun y => match x, y with
    | .lst xs, .lst ys => .ok (zipL xs ys)
    | .lst xs, .tup ys => .ok (zipL xs ys)
    | .tup xs, .lst ys => .ok (zipL xs ys)
    | .tup xs, .tup ys => .ok (zipL xs ys)
    | _, _ => .bad
  | .rev e => (evE C T env e).bind fun x => match x with
    | .lst xs => .ok xs.reverse
    | _ => .bad
  | .items e => (evE C T env e).bind fun x => match x with
    | .dic false kvs => .ok (kvs.map fun kv => .tup [kv.1.toD, kv.2])
    | _ => .bad
  | .vals e => (evE C T env e).bind fun x => match x with
    | .dic false kvs => .ok (kvs.map fun kv => kv.2)
    | _ => .bad
  | .keys e => (evE C T env e).bind fun x => match x with
    | .dic false kvs => .ok (kvs.map fun kv => kv.1.toD)
    | _ => .bad
end

/-! ### statements -/
inductive O where
  | nx (e : Env) | bk (e : Env) | ct (e : Env) | rt (d : D) (e : Env) | ex (c : Nat) (fs : List (Nat × D)) | bad
@[inline] def R.to {α : Type} (x : R α) (f : α → O) : O := match x with
  | .ok a => f a
  | .ex c fs => .ex c fs
  | .bad => .bad
@[inline] def O.seq (x : O) (f : Env → O) : O := match x with
  | .nx e => f e
  | o => o
/-- a place on the way into a value -/
inductive SV where
  | f (n : Nat) | i (j : Nat)
def getP : List SV → D → R D
  | [], d => .ok d
  | .f n :: r, .ins _ fs => (R.of (getF fs n)).bind (getP r)
  | .i j :: r, .lst xs => (R.of xs[j]?).bind (getP r)
  | .i j :: r, .tup xs => (R.of xs[j]?).bind (getP r)
  | _, _ => .bad
def updP (g : D → R D) : List SV → D → R D
  | [], d => g d
  | .f n :: r, .ins c fs => (R.of (getF fs n)).bind fun d => (updP g r d).bind fun d2 => .ok (.ins c (putF n d2 fs))
  | .i j :: r, .lst xs => (R.of xs[j]?).bind fun d => (updP g r d).bind fun d2 => .ok (.lst (xs.set j d2))
  | .i j :: r, .tup xs => (R.of xs[j]?).bind fun d => (updP g r d).bind fun d2 => .ok (.tup (xs.set j d2))
  | _, _ => .bad
def lenD : D → Nat
  | .lst xs => xs.length
  | .tup xs => xs.length
  | _ => 0
/-- the places of a path (told from its end), from the value at its base; the value there -/
def evP (C : Calls) (T : Tab) (env : Env) : List Sel → D → R (List SV × D)
  | [], d => .ok ([], d)
  | .fld f :: r, d0 => (evP C T env r d0).bind fun z => (fldD z.2 f).bind fun d2 => .ok (z.1 ++ [.f f], d2)
  | .idx e :: r, d0 => (evP C T env r d0).bind fun z => (evE C T env e).noex.bind fun x => match x with
    | .int k => (R.of (L2.ixN (lenD z.2) k)).bind fun j => (getP [.i j] z.2).bind fun d2 => .ok (z.1 ++ [.i j], d2)
    | _ => .bad
def updE (env : Env) (b : Nat) (q : List SV) (g : D → R D) : R Env := (getV env b).bind fun d => (updP g q d).bind fun d2 => .ok (env.set b (some d2))
def gApp (y : D) : D → R D
  | .lst xs => if xs.length < SZ then .ok (.lst (xs ++ [y])) else .bad
  | _ => .bad
def gExt (y : D) : D → R D
  | .lst xs => (match y with
    | .lst ys => if xs.length + ys.length ≤ SZ then .ok (.lst (xs ++ ys)) else .bad
    | _ => .bad)
  | _ => .bad
def insAt {α : Type} (xs : List α) (k : Int) (y : α) : List α := xs.take k.toNat ++ [y] ++ xs.drop k.toNat
def gIns (i y : D) : D → R D
  | .lst xs => (match i with
    | .int k => if 0 ≤ k ∧ k < 2 ^ 63 ∧ xs.length < SZ then .ok (.lst (insAt xs k y)) else .bad
    | _ => .bad)
  | _ => .bad
def gClr : D → R D
  | .lst _ => .ok (.lst [])
  | .dic false _ => .ok (.dic false [])
  | _ => .bad
def gRvs : D → R D
  | .lst xs => .ok (.lst xs.reverse)
  | _ => .bad
def gSet (i y : D) : D → R D
  | .lst xs => (match i with
    | .int k => (R.of (L2.ixN xs.length k)).bind fun j => .ok (.lst (xs.set j y))
    | _ => .bad)
  | .dic t kvs => (R.of (toK t i)).bind fun k => if kvs.length < SZ then .ok (.dic t (putK kvs k y)) else .bad
  | _ => .bad
def gFld (f : Nat) (y : D) : D → R D
  | .ins c fs => if fs.length < 1000 then .ok (.ins c (putF f y fs)) else .bad
  | _ => .bad
/-- a value kept: one that was told of an owned name must be flat -/
def keep (ow : Bool) (x : R D) : R D := x.bind fun d => if ow then (if noMut d then .ok d else .bad) else .ok d
/-- what is shared in it is flat -/
def flS : S → D → Bool
  | .lst s, .lst ds => ds.all fun d => flS s d
  | _, d => noMut d
def keepS (s : S) (ow : Bool) (x : R D) : R D := x.bind fun d => if ow then (if flS s d then .ok d else .bad) else .ok d
def keepL (ow : Bool) (x : R (List D)) : R (List D) := x.bind fun d => if ow then (if noMuts d then .ok d else .bad) else .ok d
def forO (tu : Bool) (tg : List Nat) (b : Env → O) : List D → Env → O
  | [], env => .nx env
  | d :: r, env => match setT tu tg d env with
    | none => .bad
    | some env1 => match b env1 with
      | .nx e => forO tu tg b r e
      | .ct e => forO tu tg b r e
      | .bk e => .nx e
      | .rt d e => .rt d e
      | .ex c fs => .ex c fs
      | .bad => .bad
def whlO (c : Env → R Bool) (b : Env → O) : Nat → Env → O
  | 0, _ => .bad
  | n + 1, env => match c env with
    | .ok true => (match b env with
      | .nx e => whlO c b n e
      | .ct e => whlO c b n e
      | .bk e => .nx e
      | .rt d e => .rt d e
      | .ex c fs => .ex c fs
      | .bad => .bad)
    | .ok false => .nx env
    | .ex c fs => .ex c fs
    | .bad => .bad
def FUEL : Nat := 100000
def putR (r : Option Nat) (d : D) (env : Env) : Env := match r with
  | some j => env.set j (some d)
  | none => env
def augR (op : BO) (i : Nat) (env : Env) (a b : Int) : O := match op with
  | .add => .nx (env.set i (some (.int (a + b))))
  | .sub => .nx (env.set i (some (.int (a - b))))
  | _ => .bad
def augT (op : BO) (i : Nat) (env : Env) (a b : List D) : O := match op with
  | .add => (addD (.tup a) (.tup b)).to fun d => .nx (env.set i (some d))
  | _ => .bad
mutual
def evS (C : Calls) (T : Tab) : IS → Env → O
  | .asg i s e ow, env => (keepS s ow (evE C T env e)).to fun d => .nx (env.set i (some d))
  | .asgT is e ow, env => (keep ow (evE C T env e)).to fun d => match d with
    | .tup ds => (R.of (setAll is ds env)).to .nx
    | .lst ds => (R.of (setAll is ds env)).to .nx
    | _ => .bad
  | .par is es ow, env => (keepL ow (evL C T env es).noex).to fun ds => (R.of (setAll is ds env)).to .nx
  | .aug i op e, env => (getV env i).to fun x => (evE C T env e).to fun y => match x, y with
    | .int a, .int b => augR op i env a b
    | .tup a, .tup b => augT op i env a b
    | _, _ => .bad
  | .shr _, env => .nx env
  | .app p e ow, env => (getV env p.base).to fun d0 => (evP C T env p.sels d0).to fun z => (keep ow (evE C T env e).noex).to fun d => (updE env p.base z.1 (gApp d)).to .nx
  | .ext p e, env => (getV env p.base).to fun d0 => (evP C T env p.sels d0).to fun z => (evE C T env e).noex.to fun d => (updE env p.base z.1 (gExt d)).to .nx
  | .insr p i e ow, env => (getV env p.base).to fun d0 => (evP C T env p.sels d0).to fun z => (evE C T env i).noex.to fun k => (keep ow (evE C T env e).noex).to fun d => (updE env p.base z.1 (gIns k d)).to .nx
  | .clr p, env => (getV env p.base).to fun d0 => (evP C T env p.sels d0).to fun z => (updE env p.base z.1 gClr).to .nx
  | .rvs p, env => (getV env p.base).to fun d0 => (evP C T env p.sels d0).to fun z => (updE env p.base z.1 gRvs).to .nx
  | .sti p i e ow, env => (keep ow (evE C T env e).noex).to fun d => (getV env p.base).to fun d0 => (evP C T env p.sels d0).to fun z => (evE C T env i).noex.to fun k => (updE env p.base z.1 (gSet k d)).to .nx
  | .stf p f e ow, env => (keep ow (evE C T env e).noex).to fun d => (getV env p.base).to fun d0 => (evP C T env p.sels d0).to fun z => (updE env p.base z.1 (gFld f d)).to .nx
  | .exp e, env => (evE C T env e).to fun _ => .nx env
  | .mc r f i es ow, env => (getV env i).to fun d0 => (keepL ow (evL C T env es).noex).to fun ds => (C.m f d0 ds).to fun q => .nx (putR r q.1 (env.set i (some q.2)))
  | .mcr f i es ow, env => (getV env i).to fun d0 => (keepL ow (evL C T env es).noex).to fun ds => (C.m f d0 ds).to fun q => .rt q.1 (env.set i (some q.2))
  | .ifm neg f i es ow a b, env => (getV env i).to fun d0 => (keepL ow (evL C T env es).noex).to fun ds => (C.m f d0 ds).to fun q => (truD q.1).to fun c =>
      if c != neg then evSs C T a (env.set i (some q.2)) else evSs C T b (env.set i (some q.2))
  | .for tu tg it b, env => (evIt C T env it).to fun ds => forO tu tg (evSs C T b) ds env
  | .whl c b, env => whlO (fun env => (evE C T env c).bind truD) (evSs C T b) FUEL env
  | .ife c a b, env => ((evE C T env c).bind truD).to fun k => if k then evSs C T a env else evSs C T b env
  | .ret e, env => (evE C T env e).to fun d => .rt d env
  | .retN, env => .rt .non env
  | .brk, env => .bk env
  | .ct, env => .ct env
  | .pas, env => .nx env
  | .rse _ _, _ => .bad
  | .tre _ _ _ _, _ => .bad
  | .nv, _ => .bad
def evSs (C : Calls) (T : Tab) : ISs → Env → O
  | .nil, env => .nx env
  | .cons s r, env => (evS C T s env).seq fun e => evSs C T r e
end
/-- a def: its parameters' number, its slots' number, its body, what it owns and hands back; mu: its first parameter is written -/
structure Fn where
  np : Nat
  ns : Nat
  body : ISs
  gam : List S
  mu : Option S
  ret : S
  xs : Bool := false
def startE (n : Nat) (ds : List D) : Env := ds.map some ++ List.replicate (n - ds.length) none
def callP (C : Calls) (T : Tab) (fn : Fn) (ds : List D) : R D :=
  if fn.mu.isNone && ds.length == fn.np then (match evSs C T fn.body (startE fn.ns ds) with
    | .nx _ => .ok .non
    | .rt d _ => .ok d
    | .ex c fs => if fn.xs then .ex c fs else .bad
    | _ => .bad) else .bad
def callM (C : Calls) (T : Tab) (fn : Fn) (d0 : D) (ds : List D) : R (D × D) :=
  if fn.mu.isSome && ds.length + 1 == fn.np then (match evSs C T fn.body (startE fn.ns (d0 :: ds)) with
    | .nx env => (getV env 0).bind fun d => .ok (.non, d)
    | .rt r env => if noMut r then (getV env 0).bind fun d => .ok (r, d) else .bad
    | _ => .bad) else .bad
structure Prog where
  tab : Tab
  fn : Nat → Option Fn
def run (G : Prog) : Nat → Calls
  | 0 => ⟨fun _ _ => .bad, fun _ _ _ => .bad⟩
  | k + 1 => ⟨fun f ds => match G.fn f with
      | some fn => callP (run G k) G.tab fn ds
      | none => .bad, fun f d ds => match G.fn f with
      | some fn => callM (run G k) G.tab fn d ds
      | none => .bad⟩
def mk (x : List Nat) : Str := ⟨x.toArray⟩
/-- field names, all apart -/
def nmF (l : List Str) (i : Nat) : Str := l.getD i (mk [1114112 + i])
end G
end
section
set_option Elab.async false
set_option linter.all false
set_option maxRecDepth 100000
set_option maxHeartbeats 4000000
namespace G
open PySem PySem.Spec PyProof.Rows L2
/-! ### what stands for a value in the heap -/
/-- the world of the names -/
structure Wd where
  K : PySem.W.Frag
  T : Tab
  cadr : Nat → Addr
theorem mk_len (x : List Nat) : (mk x).length = x.length := by unfold mk Str.length; simp
theorem mk_toList (x : List Nat) : (mk x).cps.toList = x := by unfold mk; simp
theorem mk_inj {x y : List Nat} (h : mk x = mk y) : x = y := by
  have := congrArg (fun z : Str => z.cps.toList) h
  simpa [mk] using this
theorem mk_of (z : Str) : mk z.cps.toList = z := by
  obtain ⟨a⟩ := z
  simp [mk]
def keyS : Sum Int (List Nat) → Key
  | .inl i => .inl i
  | .inr x => .inr (mk x)
theorem keyS_inj {a b : Sum Int (List Nat)} (h : keyS a = keyS b) : a = b := by
  cases a <;> cases b <;> simp [keyS] at h
  · rw [h]
  · rw [mk_inj h]
theorem keySs_inj : ∀ {a b : List (Sum Int (List Nat))}, a.map keyS = b.map keyS → a = b
  | [], [], _ => rfl
  | [], _ :: _, h => by simp at h
  | _ :: _, [], h => by simp at h
  | x :: r, y :: q, h => by
    simp only [List.map_cons, List.cons.injEq] at h
    rw [keyS_inj h.1, keySs_inj h.2]
/-- a flat key in a dict of flat keys -/
inductive KeyK : DK → Key → Prop
  | i (n : Int) : KeyK (.i n) (.inl n)
  | s (x : List Nat) : KeyK (.s x) (.inr (mk x))
inductive KeyT : DK → List Key → Prop
  | t (ks : List (Sum Int (List Nat))) : KeyT (.t ks) (ks.map keyS)
theorem KeyK.inj {a b : DK} {k l : Key} (h : KeyK a k) (h' : KeyK b l) : k = l ↔ a = b := by
  cases h <;> cases h' <;> simp
  rename_i x y
  exact ⟨fun e => mk_inj e, fun e => by rw [e]⟩
theorem KeyT.inj {a b : DK} {k l : List Key} (h : KeyT a k) (h' : KeyT b l) : k = l ↔ a = b := by
  cases h; cases h'
  rename_i x y
  exact ⟨fun e => by rw [keySs_inj e], fun e => by injection e with e; rw [e]⟩
/-- the script: a list that is never written -/
def KLst (K : PySem.W.Frag) (a : Addr) (xs : List V) : Prop := ∃ (o : Obj) (its : Array Value) (n : Nat), K.lookup a = some o ∧ o.cls = .type "list" ∧ o.dict = none ∧ o.data = .seq its n ∧ its.size ≤ sizeLine ∧ Vals xs its.toList
def Scr (K : PySem.W.Frag) (H : Hp) (a : Addr) (xs : List V) : Prop := (∃ o, H a = some (.frz o (.lst xs))) ∨ KLst K a xs
theorem Scr.sq {K : PySem.W.Frag} {H : Hp} {a : Addr} {xs : List V} (h : Scr K H a xs) : SqL K H a xs := h.elim (fun ⟨o, h⟩ => .inl (.inr ⟨o, h⟩)) .inr
/-- v stands for d; the containers that may change lie in P -/
inductive Rp (W : Wd) (H : Hp) (P : Addr → Prop) : D → V → Prop
  | non : Rp W H P .non .non
  | bl (b : Bool) : Rp W H P (.bl b) (.bl b)
  | int (i : Int) : Rp W H P (.int i) (.int i)
  | str (x : List Nat) : Rp W H P (.str x) (.str (mk x))
  | lst {a : Addr} {vs : List V} {ds : List D} : H a = some (.lst vs) → P a → ds.length = vs.length → (∀ (i : Nat) d v, ds[i]? = some d → vs[i]? = some v → Rp W H P d v) → Rp W H P (.lst ds) (.ref a)
  | tup {a : Addr} {vs : List V} {ds : List D} : H a = some (.tup vs) → ds.length = vs.length → (∀ (i : Nat) d v, ds[i]? = some d → vs[i]? = some v → Rp W H P d v) → Rp W H P (.tup ds) (.ref a)
  | dicK {a : Addr} {kvs : List (Key × V)} {ds : List (DK × D)} : L2.Rd H a (.dK kvs) → P a → ds.length = kvs.length → (∀ (i : Nat) d v, ds[i]? = some d → kvs[i]? = some v → KeyK d.1 v.1) →
      (∀ (i : Nat) d v, ds[i]? = some d → kvs[i]? = some v → Rp W H P d.2 v.2) → Rp W H P (.dic false ds) (.ref a)
  | dicT {a : Addr} {kvs : List (List Key × V)} {ds : List (DK × D)} : L2.Rd H a (.dT kvs) → P a → ds.length = kvs.length → (∀ (i : Nat) d v, ds[i]? = some d → kvs[i]? = some v → KeyT d.1 v.1) →
      (∀ (i : Nat) d v, ds[i]? = some d → kvs[i]? = some v → Rp W H P d.2 v.2) → Rp W H P (.dic true ds) (.ref a)
  | ins {a dx : Addr} {c : Nat} {fs : List (Str × V)} {ds : List (Nat × D)} : H a = some (.ins (W.cadr c) dx fs) → P a → ds.length = fs.length → (∀ (i : Nat) d v, ds[i]? = some d → fs[i]? = some v → W.T.fname d.1 = v.1) →
      (∀ (i : Nat) d v, ds[i]? = some d → fs[i]? = some v → Rp W H P d.2 v.2) → Rp W H P (.ins c ds) (.ref a)
  | scr {a : Addr} {ns : List Int} : Scr W.K H a (ns.map V.int) → Rp W H P (.scr ns) (.ref a)
def RpL (W : Wd) (H : Hp) (P : Addr → Prop) (ds : List D) (vs : List V) : Prop := ds.length = vs.length ∧ ∀ (i : Nat) d v, ds[i]? = some d → vs[i]? = some v → Rp W H P d v
theorem RpL.nil {W : Wd} {H : Hp} {P : Addr → Prop} : RpL W H P [] [] := ⟨rfl, fun i d v h => by simp at h⟩
theorem RpL.cons {W : Wd} {H : Hp} {P : Addr → Prop} {d : D} {v : V} {ds : List D} {vs : List V} (h : Rp W H P d v) (t : RpL W H P ds vs) : RpL W H P (d :: ds) (v :: vs) := by
  refine ⟨by simp [t.1], fun i e u he hu => ?_⟩
  cases i with
  | zero =>
    simp at he hu
    rw [← he, ← hu]
    exact h
  | succ i => exact t.2 i e u (by simpa using he) (by simpa using hu)
theorem RpL.un {W : Wd} {H : Hp} {P : Addr → Prop} {d : D} {ds : List D} {vs : List V} (h : RpL W H P (d :: ds) vs) : ∃ v r, vs = v :: r ∧ Rp W H P d v ∧ RpL W H P ds r := by
  obtain ⟨hl, h⟩ := h
  cases vs with
  | nil => simp at hl
  | cons v r => exact ⟨v, r, rfl, h 0 d v rfl rfl, by simpa using hl, fun i e u he hu => h (i + 1) e u (by simpa using he) (by simpa using hu)⟩
theorem RpL.un0 {W : Wd} {H : Hp} {P : Addr → Prop} {vs : List V} (h : RpL W H P [] vs) : vs = [] := List.length_eq_zero_iff.mp h.1.symm
theorem RpL.append {W : Wd} {H : Hp} {P : Addr → Prop} : ∀ {ds es : List D} {vs us : List V}, RpL W H P ds vs → RpL W H P es us → RpL W H P (ds ++ es) (vs ++ us)
  | [], _, vs, _, h, h' => by rw [h.un0]; exact h'
  | d :: ds, es, vs, us, h, h' => by
    obtain ⟨v, r, rfl, h1, h2⟩ := h.un
    exact .cons h1 (RpL.append h2 h')
theorem RpL.get {W : Wd} {H : Hp} {P : Addr → Prop} {ds : List D} {vs : List V} (h : RpL W H P ds vs) {i : Nat} {d : D} (e : ds[i]? = some d) : ∃ v, vs[i]? = some v ∧ Rp W H P d v := by
  have hi : i < vs.length := by rw [← h.1]; exact (List.getElem?_eq_some_iff.mp e).1
  exact ⟨vs[i], by simp [hi], h.2 i d _ e (by simp [hi])⟩
theorem RpL.sub {W : Wd} {H : Hp} {P : Addr → Prop} {ds es : List D} {vs us : List V} (h : RpL W H P ds vs) (f : Nat → Nat) (hl : es.length = us.length) (h1 : ∀ (i : Nat), i < es.length → es[i]? = ds[f i]?) (h2 : ∀ (i : Nat), i < us.length → us[i]? = vs[f i]?) : RpL W H P es us :=
  ⟨hl, fun i d v e u => h.2 (f i) d v (by rw [← h1 i (List.getElem?_eq_some_iff.mp e).1]; exact e) (by rw [← h2 i (List.getElem?_eq_some_iff.mp u).1]; exact u)⟩
theorem RpL.drop {W : Wd} {H : Hp} {P : Addr → Prop} {ds : List D} {vs : List V} (h : RpL W H P ds vs) (n : Nat) : RpL W H P (ds.drop n) (vs.drop n) :=
  ⟨by simp [h.1], fun i d v e u => h.2 (n + i) d v (by simpa using e) (by simpa using u)⟩
theorem RpL.take {W : Wd} {H : Hp} {P : Addr → Prop} {ds : List D} {vs : List V} (h : RpL W H P ds vs) (n : Nat) : RpL W H P (ds.take n) (vs.take n) :=
  ⟨by simp [h.1], fun i d v e u => by
    rw [List.getElem?_take] at e u
    split at e
    · rename_i hi
      rw [if_pos hi] at u
      exact h.2 i d v e u
    · cases e⟩
theorem RpL.rev {W : Wd} {H : Hp} {P : Addr → Prop} {ds : List D} {vs : List V} (h : RpL W H P ds vs) : RpL W H P ds.reverse vs.reverse := by
  refine ⟨by simp [h.1], fun i d v e u => ?_⟩
  have hi : i < ds.length := by have := (List.getElem?_eq_some_iff.mp e).1; simpa using this
  rw [List.getElem?_reverse hi] at e
  rw [List.getElem?_reverse (by rw [← h.1]; exact hi)] at u
  rw [← h.1] at u
  exact h.2 _ d v e u
theorem RpL.set {W : Wd} {H : Hp} {P : Addr → Prop} {ds : List D} {vs : List V} (h : RpL W H P ds vs) (j : Nat) {d : D} {v : V} (r : Rp W H P d v) : RpL W H P (ds.set j d) (vs.set j v) := by
  refine ⟨by simp [h.1], fun i e u he hu => ?_⟩
  rw [List.getElem?_set] at he hu
  by_cases hj : j = i
  · subst hj
    rw [if_pos rfl] at he hu
    split at he <;> split at hu <;> simp at he hu
    rw [← he, ← hu]
    exact r
  · rw [if_neg hj] at he hu
    exact h.2 i e u he hu
/-- a dict's table stands, locked or not -/
def isDic : HO → Prop
  | .dK _ => True
  | .dT _ => True
  | _ => False
def isFix : HO → Prop
  | .tup _ => True
  | .frz _ _ => True
  | _ => False
/-- what a changed heap must keep for a reading: the same object, a dict locked or unlocked -/
def Kp (H H' : Hp) (P : Addr → Prop) : Prop := ∀ a o, H a = some o → (P a ∨ isFix o) →
  H' a = some o ∨ (isDic o ∧ ∃ od, H' a = some (.frz od o)) ∨ (∃ od u, o = .frz od u ∧ isDic u ∧ H' a = some u)
theorem Kp.of {H H' : Hp} {P : Addr → Prop} (h : ∀ a o, H a = some o → H' a = some o) : Kp H H' P := fun a o e _ => .inl (h a o e)
theorem Kp.rd {H H' : Hp} {P : Addr → Prop} (k : Kp H H' P) {a : Addr} {u : HO} (hu : isDic u) (h : L2.Rd H a u) (hp : P a) : L2.Rd H' a u := by
  rcases h with h | ⟨o, h⟩
  · rcases k a u h (.inl hp) with q | ⟨_, od, q⟩ | ⟨od, w, e, hw, q⟩
    · exact .inl q
    · exact .inr ⟨od, q⟩
    · rw [e] at hu; cases hu
  · rcases k a _ h (.inl hp) with q | ⟨z, od, q⟩ | ⟨od, w, e, hw, q⟩
    · exact .inr ⟨o, q⟩
    · cases z
    · cases e
      exact .inl q
theorem Rp.keep {W : Wd} {H H' : Hp} {P P' : Addr → Prop} (k : Kp H H' P) (hp : ∀ a, P a → P' a) {d : D} {v : V} (h : Rp W H P d v) : Rp W H' P' d v := by
  induction h with
  | non => exact .non
  | bl b => exact .bl b
  | int i => exact .int i
  | str x => exact .str x
  | lst h1 h2 h3 _ ih =>
    rcases k _ _ h1 (.inl h2) with q | ⟨z, _⟩ | ⟨_, _, e, _, _⟩
    · exact .lst q (hp _ h2) h3 ih
    · cases z
    · cases e
  | tup h1 h3 _ ih =>
    rcases k _ _ h1 (.inr trivial) with q | ⟨z, _⟩ | ⟨_, _, e, _, _⟩
    · exact .tup q h3 ih
    · cases z
    · cases e
  | dicK h1 h2 h3 h4 _ ih => exact .dicK (k.rd trivial h1 h2) (hp _ h2) h3 h4 ih
  | dicT h1 h2 h3 h4 _ ih => exact .dicT (k.rd trivial h1 h2) (hp _ h2) h3 h4 ih
  | ins h1 h2 h3 h4 _ ih =>
    rcases k _ _ h1 (.inl h2) with q | ⟨z, _⟩ | ⟨_, _, e, _, _⟩
    · exact .ins q (hp _ h2) h3 h4 ih
    · cases z
    · cases e
  | scr h =>
    rcases h with ⟨o, h⟩ | h
    case inr => exact .scr (.inr h)
    rcases k _ _ h (.inr trivial) with q | ⟨z, _⟩ | ⟨_, _, e, hw, _⟩
    · exact .scr (.inl ⟨o, q⟩)
    · cases z
    · cases e; cases hw
theorem RpL.keep {W : Wd} {H H' : Hp} {P P' : Addr → Prop} (k : Kp H H' P) (hp : ∀ a, P a → P' a) {ds : List D} {vs : List V} (h : RpL W H P ds vs) : RpL W H' P' ds vs :=
  ⟨h.1, fun i d v e u => (h.2 i d v e u).keep k hp⟩
theorem Rp.mono {W : Wd} {H : Hp} {P P' : Addr → Prop} (hp : ∀ a, P a → P' a) {d : D} {v : V} (h : Rp W H P d v) : Rp W H P' d v := h.keep (.of fun _ _ e => e) hp
theorem noMuts_get : ∀ {ds : List D} {i : Nat} {d : D}, noMuts ds = true → ds[i]? = some d → noMut d = true
  | [], i, d, _, e => by simp at e
  | x :: r, i, d, h, e => by
    have hx : (noMut x && noMuts r) = true := h
    rw [Bool.and_eq_true] at hx
    cases i with
    | zero => simp at e; rw [← e]; exact hx.1
    | succ i => exact noMuts_get hx.2 (by simpa using e)
/-- what is flat may stand under any P -/
theorem Rp.flat {W : Wd} {H : Hp} {P P' : Addr → Prop} {d : D} {v : V} (h : Rp W H P d v) : noMut d = true → Rp W H P' d v := by
  induction h with
  | non => exact fun _ => .non
  | bl b => exact fun _ => .bl b
  | int i => exact fun _ => .int i
  | str x => exact fun _ => .str x
  | lst => intro h; cases h
  | @tup a vs ds h1 h3 h4 ih =>
    intro hn
    exact .tup h1 h3 fun i d v e u => ih i d v e u (noMuts_get (show noMuts ds = true from hn) e)
  | dicK => intro h; cases h
  | dicT => intro h; cases h
  | ins => intro h; cases h
  | scr h => exact fun _ => .scr h
/-! ### owned -/
/-- v stands for d; F: the containers that are owned (all apart); what is shared in it lies in P -/
inductive Ow (W : Wd) (H : Hp) (P : Addr → Prop) : S → D → V → (Addr → Prop) → Prop
  | sh {d : D} {v : V} {F : Addr → Prop} : Rp W H P d v → Ow W H P .sh d v F
  | flat {s : S} {d : D} {v : V} {F : Addr → Prop} : noMut d = true → Rp W H P d v → Ow W H P s d v F
  | lst {s : S} {a : Addr} {vs : List V} {ds : List D} {F : Addr → Prop} (FF : Nat → Addr → Prop) : H a = some (.lst vs) → F a → ds.length = vs.length → (∀ (i : Nat) d v, ds[i]? = some d → vs[i]? = some v → Ow W H P s d v (FF i)) →
      (∀ i b, FF i b → F b ∧ b ≠ a) → (∀ i j b, FF i b → FF j b → i = j) → Ow W H P (.lst s) (.lst ds) (.ref a) F
  | dicK {a : Addr} {kvs : List (Key × V)} {ds : List (DK × D)} {F : Addr → Prop} : H a = some (.dK kvs) → F a → ds.length = kvs.length → (∀ (i : Nat) d v, ds[i]? = some d → kvs[i]? = some v → KeyK d.1 v.1) →
      (∀ (i : Nat) d v, ds[i]? = some d → kvs[i]? = some v → Rp W H P d.2 v.2) → Ow W H P .dic (.dic false ds) (.ref a) F
  | dicT {a : Addr} {kvs : List (List Key × V)} {ds : List (DK × D)} {F : Addr → Prop} : H a = some (.dT kvs) → F a → ds.length = kvs.length → (∀ (i : Nat) d v, ds[i]? = some d → kvs[i]? = some v → KeyT d.1 v.1) →
      (∀ (i : Nat) d v, ds[i]? = some d → kvs[i]? = some v → Rp W H P d.2 v.2) → Ow W H P .dic (.dic true ds) (.ref a) F
  | tup {s r : S} {a : Addr} {vs : List V} {ds : List D} {F : Addr → Prop} (FF : Nat → Addr → Prop) : H a = some (.tup vs) → ds.length = vs.length → (∀ (i : Nat) d v, ds[i]? = some d → vs[i]? = some v → Ow W H P ((S.tc s r).at i) d v (FF i)) →
      (∀ i b, FF i b → F b) → (∀ i j b, FF i b → FF j b → i = j) → Ow W H P (.tc s r) (.tup ds) (.ref a) F
  | obj {s : S} {a dx : Addr} {c : Nat} {fs : List (Str × V)} {ds : List (Nat × D)} {F : Addr → Prop} (FF : Nat → Addr → Prop) : (match s with | .on => True | .oc _ _ _ => True | _ => False) → H a = some (.ins (W.cadr c) dx fs) → F a → ds.length = fs.length →
      (∀ (i : Nat) d v, ds[i]? = some d → fs[i]? = some v → W.T.fname d.1 = v.1) → (∀ (i : Nat) d v, ds[i]? = some d → fs[i]? = some v → Ow W H P (s.fld d.1) d.2 v.2 (FF i)) →
      (∀ i b, FF i b → F b ∧ b ≠ a) → (∀ i j b, FF i b → FF j b → i = j) → Ow W H P s (.ins c ds) (.ref a) F
section
variable {W : Wd} {H H' : Hp} {P P' : Addr → Prop}
/-- owned things let go: shared -/
theorem Ow.share (hp : ∀ a, P a → P' a) {s : S} {d : D} {v : V} {F : Addr → Prop} (h : Ow W H P s d v F) : (∀ a, F a → P' a) → Rp W H P' d v := by
  induction h with
  | sh h => exact fun _ => h.mono hp
  | flat _ h => exact fun _ => h.mono hp
  | lst FF h1 h2 h3 _ h5 h6 ih => exact fun hf => .lst h1 (hf _ h2) h3 fun i d v e u => ih i d v e u fun a q => hf a (h5 i a q).1
  | dicK h1 h2 h3 h4 h5 => exact fun hf => .dicK (.inl h1) (hf _ h2) h3 h4 fun i d v e u => (h5 i d v e u).mono hp
  | dicT h1 h2 h3 h4 h5 => exact fun hf => .dicT (.inl h1) (hf _ h2) h3 h4 fun i d v e u => (h5 i d v e u).mono hp
  | tup FF h1 h3 _ h5 h6 ih => exact fun hf => .tup h1 h3 fun i d v e u => ih i d v e u fun a q => hf a (h5 i a q)
  | obj FF _ h1 h2 h3 h4 _ h5 h6 ih => exact fun hf => .ins h1 (hf _ h2) h3 h4 fun i d v e u => ih i d v e u fun a q => hf a (h5 i a q).1
/-- the frame: what is owned stays as it is, what is shared may be locked -/
theorem Ow.keep (k : Kp H H' P) (hp : ∀ a, P a → P' a) {s : S} {d : D} {v : V} {F : Addr → Prop} (h : Ow W H P s d v F) : (∀ a o, F a → H a = some o → H' a = some o) → Ow W H' P' s d v F := by
  induction h with
  | sh h => exact fun _ => .sh (h.keep k hp)
  | flat n h => exact fun _ => .flat n (h.keep k hp)
  | lst FF h1 h2 h3 _ h5 h6 ih => exact fun hf => .lst FF (hf _ _ h2 h1) h2 h3 (fun i d v e u => ih i d v e u fun a o q => hf a o (h5 i a q).1) h5 h6
  | dicK h1 h2 h3 h4 h5 => exact fun hf => .dicK (hf _ _ h2 h1) h2 h3 h4 fun i d v e u => (h5 i d v e u).keep k hp
  | dicT h1 h2 h3 h4 h5 => exact fun hf => .dicT (hf _ _ h2 h1) h2 h3 h4 fun i d v e u => (h5 i d v e u).keep k hp
  | tup FF h1 h3 _ h5 h6 ih =>
    intro hf
    rcases k _ _ h1 (.inr trivial) with q | ⟨z, _⟩ | ⟨_, _, e, _, _⟩
    · exact .tup FF q h3 (fun i d v e u => ih i d v e u fun a o q => hf a o (h5 i a q)) h5 h6
    · cases z
    · cases e
  | obj FF hs h1 h2 h3 h4 _ h5 h6 ih => exact fun hf => .obj FF hs (hf _ _ h2 h1) h2 h3 h4 (fun i d v e u => ih i d v e u fun a o q => hf a o (h5 i a q).1) h5 h6
theorem Ow.mono {s : S} {d : D} {v : V} {F : Addr → Prop} (h : Ow W H P s d v F) (hp : ∀ a, P a → P' a) : Ow W H P' s d v F := h.keep (.of fun _ _ e => e) hp fun _ _ _ e => e
/-- more may be said to be owned -/
theorem Ow.wide {s : S} {d : D} {v : V} {F F' : Addr → Prop} (h : Ow W H P s d v F) (hf : ∀ a, F a → F' a) : Ow W H P s d v F' := by
  cases h with
  | sh h => exact .sh h
  | flat n h => exact .flat n h
  | lst FF h1 h2 h3 h4 h5 h6 => exact .lst FF h1 (hf _ h2) h3 h4 (fun i b q => ⟨hf _ (h5 i b q).1, (h5 i b q).2⟩) h6
  | dicK h1 h2 h3 h4 h5 => exact .dicK h1 (hf _ h2) h3 h4 h5
  | dicT h1 h2 h3 h4 h5 => exact .dicT h1 (hf _ h2) h3 h4 h5
  | tup FF h1 h3 h4 h5 h6 => exact .tup FF h1 h3 h4 (fun i b q => hf _ (h5 i b q)) h6
  | obj FF hs h1 h2 h3 h4 h7 h5 h6 => exact .obj FF hs h1 (hf _ h2) h3 h4 h7 (fun i b q => ⟨hf _ (h5 i b q).1, (h5 i b q).2⟩) h6
end
end G
end
section
set_option Elab.async false
set_option linter.all false
set_option maxRecDepth 100000
set_option maxHeartbeats 4000000
namespace G
open PySem PySem.Spec PyProof.Rows L2
/-! ### fields by place -/
def FsR (W : Wd) (ds : List (Nat × D)) (fs : List (Str × V)) : Prop := ds.length = fs.length ∧ ∀ (i : Nat) d v, ds[i]? = some d → fs[i]? = some v → W.T.fname d.1 = v.1
def Finj (W : Wd) : Prop := ∀ a b, W.T.fname a = W.T.fname b → a = b
section
variable {W : Wd}
theorem FsR.tail {d : Nat × D} {v : Str × V} {ds : List (Nat × D)} {fs : List (Str × V)} (h : FsR W (d :: ds) (v :: fs)) : W.T.fname d.1 = v.1 ∧ FsR W ds fs :=
  ⟨h.2 0 d v rfl rfl, by simpa using h.1, fun i e u he hu => h.2 (i + 1) e u (by simpa using he) (by simpa using hu)⟩
theorem FsR.get (hi : Finj W) : ∀ {ds : List (Nat × D)} {fs : List (Str × V)} {n : Nat} {d : D}, FsR W ds fs → getF ds n = some d →
    ∃ (i : Nat) (v : V), ds[i]? = some (n, d) ∧ fs[i]? = some (W.T.fname n, v) ∧ fs.lookup (W.T.fname n) = some v ∧ (∀ e, putF n e ds = ds.set i (n, e)) ∧ ∀ u, L2.putF (W.T.fname n) u fs = fs.set i (W.T.fname n, u)
  | [], fs, n, d, h, e => by simp [getF] at e
  | (g, d0) :: r, [], n, d, h, e => by have := h.1; simp at this
  | (g, d0) :: r, (x, v0) :: fs, n, d, h, e => by
    obtain ⟨h0, h1⟩ := h.tail
    have h0 : W.T.fname g = x := h0
    by_cases hg : n = g
    · subst hg
      simp only [getF, if_pos] at e
      cases e
      refine ⟨0, v0, rfl, by rw [← h0]; rfl, ?_, fun e => ?_, fun u => ?_⟩
      · rw [← h0]; simp [List.lookup]
      · simp [putF]
      · rw [← h0]; simp [L2.putF]
    · have hx : ¬ x = W.T.fname n := fun q => hg (hi _ _ (q.symm.trans h0.symm))
      simp only [getF, if_neg hg] at e
      obtain ⟨i, v, a1, a2, a3, a4, a5⟩ := FsR.get hi h1 e
      refine ⟨i + 1, v, by simpa using a1, by simpa using a2, ?_, fun e => ?_, fun u => ?_⟩
      · rw [List.lookup_cons, show (W.T.fname n == x) = false from beq_eq_false_iff_ne.mpr fun q => hx q.symm]; exact a3
      · have hg' : ¬ g = n := fun q => hg q.symm
        simp only [putF, if_neg hg', a4, List.set_cons_succ]
      · simp only [L2.putF, if_neg hx, a5, List.set_cons_succ]
theorem FsR.none (hi : Finj W) : ∀ {ds : List (Nat × D)} {fs : List (Str × V)} {n : Nat}, FsR W ds fs → getF ds n = none →
    fs.lookup (W.T.fname n) = none ∧ (∀ e, putF n e ds = ds ++ [(n, e)]) ∧ ∀ u, L2.putF (W.T.fname n) u fs = fs ++ [(W.T.fname n, u)]
  | [], [], n, h, e => ⟨rfl, fun _ => rfl, fun _ => rfl⟩
  | [], _ :: _, n, h, e => by have := h.1; simp at this
  | (g, d0) :: r, [], n, h, e => by have := h.1; simp at this
  | (g, d0) :: r, (x, v0) :: fs, n, h, e => by
    obtain ⟨h0, h1⟩ := h.tail
    have h0 : W.T.fname g = x := h0
    by_cases hg : n = g
    · subst hg
      simp [getF] at e
    · have hx : ¬ x = W.T.fname n := fun q => hg (hi _ _ (q.symm.trans h0.symm))
      have hg' : ¬ g = n := fun q => hg q.symm
      simp only [getF, if_neg hg] at e
      obtain ⟨a1, a2, a3⟩ := FsR.none hi h1 e
      refine ⟨?_, fun e => ?_, fun u => ?_⟩
      · rw [List.lookup_cons, show (W.T.fname n == x) = false from beq_eq_false_iff_ne.mpr fun q => hx q.symm]; exact a1
      · simp only [putF, if_neg hg', a2, List.cons_append]
      · simp only [L2.putF, if_neg hx, a3, List.cons_append]
end
/-! ### the way down to a place -/
def S.go : S → List SV → S
  | s, [] => s
  | .lst s, .i _ :: r => s.go r
  | .tc a r, .i j :: q => ((S.tc a r).at j).go q
  | s, .f n :: q => (s.fld n).go q
  | _, _ => .sh
theorem S.sh_go : ∀ q : List SV, S.sh.go q = .sh
  | [] => rfl
  | .f n :: q => S.sh_go q
  | .i j :: q => rfl
inductive Via (W : Wd) (H : Hp) : V → List SV → V → Prop
  | nil {v : V} : Via W H v [] v
  | f {a C dx : Addr} {fs : List (Str × V)} {n : Nat} {u v : V} {q : List SV} : H a = some (.ins C dx fs) → (∃ c, C = W.cadr c) → fs.lookup (W.T.fname n) = some u → Via W H u q v → Via W H (.ref a) (.f n :: q) v
  | l {a : Addr} {vs : List V} {j : Nat} {u v : V} {q : List SV} : H a = some (.lst vs) → vs[j]? = some u → Via W H u q v → Via W H (.ref a) (.i j :: q) v
  | t {a : Addr} {vs : List V} {j : Nat} {u v : V} {q : List SV} : H a = some (.tup vs) → vs[j]? = some u → Via W H u q v → Via W H (.ref a) (.i j :: q) v
theorem Via.at_ {W : Wd} {H H' : Hp} (k : ∀ a o, H a = some o → H' a = some o) {v u : V} {q : List SV} (h : Via W H v q u) : Via W H' v q u := by
  induction h with
  | nil => exact .nil
  | f h1 h2 h3 _ ih => exact .f (k _ _ h1) h2 h3 ih
  | l h1 h2 _ ih => exact .l (k _ _ h1) h2 ih
  | t h1 h2 _ ih => exact .t (k _ _ h1) h2 ih
def isCont : D → Bool
  | .lst _ | .dic _ _ | .ins _ _ => true
  | _ => false
theorem R.of_ok {α : Type} {o : Option α} {a : α} (h : R.of o = .ok a) : o = some a := by
  cases o with
  | none => cases h
  | some b => cases h; rfl
theorem bind_inv {α β : Type} {x : R α} {f : α → R β} {b : β} (h : x.bind f = .ok b) : ∃ a, x = .ok a ∧ f a = .ok b := by
  cases x with
  | ok a => exact ⟨a, rfl, h⟩
  | ex c fs => cases h
  | bad => cases h
section
variable {W : Wd} {H H2 : Hp} {P P2 : Addr → Prop}
/-- a path into an owned value that ends at a container: the container is owned; it may be changed -/
theorem Ow.focus (hi : Finj W) : ∀ (q : List SV) {s : S} {d d' : D} {v : V} {F : Addr → Prop}, Ow W H P s d v F → getP q d = .ok d' → isCont d' = true → s.go q ≠ .sh → (∀ a, P a → ¬ F a) → (∀ a o, F a → H a = some o → ¬ isFix o) →
    ∃ v' F', Via W H v q v' ∧ Ow W H P (s.go q) d' v' F' ∧ (∀ b, F' b → F b) ∧
      ∀ (H2 : Hp) (P2 New : Addr → Prop) (d2 : D) (g : D → R D), Ow W H2 P2 (s.go q) d2 v' (fun b => F' b ∨ New b) → (∀ a o, ¬ F' a → H a = some o → H2 a = some o) → (∀ a, P a → P2 a) → (∀ a, New a → ¬ F a) →
        g d' = .ok d2 → ∃ d3, updP g q d = .ok d3 ∧ Ow W H2 P2 s d3 v (fun b => F b ∨ New b)
  | [], s, d, d', v, F, h, e, hc, hs, hp, hm => by
    cases e
    exact ⟨v, F, .nil, by cases s <;> exact h, fun _ q => q, fun H2 P2 New d2 g o k p n hg => ⟨d2, hg, by cases s <;> exact o⟩⟩
  | .f n :: q, s, d, d', v, F, h, e, hc, hs, hp, hm => by
    cases h with
    | sh h => exact absurd (S.sh_go _) hs
    | flat hn h =>
      cases d with
      | ins c fs => cases hn
      | _ => cases e
    | lst => cases e
    | dicK => cases e
    | dicT => cases e
    | tup => cases e
    | @obj s a dx c fs ds F FF hS h1 h2 h3 h4 h7 h5 h6 =>
      have e' : (R.of (getF ds n)).bind (getP q) = .ok d' := e
      obtain ⟨d1, e1, e2⟩ := bind_inv e'
      obtain ⟨i, u, a1, a2, a3, a4, a5⟩ := FsR.get hi (W := W) ⟨h3, h4⟩ (R.of_ok e1)
      have hgo : s.go (.f n :: q) = (s.fld n).go q := by cases s <;> rfl
      rw [hgo] at hs ⊢
      have o1 : Ow W H P (s.fld n) d1 u (FF i) := h7 i (n, d1) (W.T.fname n, u) a1 a2
      obtain ⟨v', F', b1, b2, b3, b4⟩ := Ow.focus hi q o1 e2 hc hs (fun x px fx => hp x px (h5 i x fx).1) (fun x o fx => hm x o (h5 i x fx).1)
      refine ⟨v', F', .f h1 ⟨c, rfl⟩ a3 b1, b2, fun b q => (h5 i b (b3 b q)).1, fun H2 P2 New d2 g o k p nw hg => ?_⟩
      obtain ⟨d3, c1, c2⟩ := b4 H2 P2 New d2 g o k p (fun x nx fx => nw x nx (h5 i x fx).1) hg
      refine ⟨.ins c (putF n d3 ds), ?_, ?_⟩
      · show (R.of (getF ds n)).bind _ = _
        rw [e1, bind_ok, c1, bind_ok]
      · rw [a4]
        have na : ¬ F' a := fun z => (h5 i a (b3 a z)).2 rfl
        have il : i < ds.length := (List.getElem?_eq_some_iff.mp a1).1
        have kp : Kp H H2 P := fun x o ex z => .inl (k x o (fun z' => by
          have fx := (h5 i x (b3 x z')).1
          rcases z with z | z
          · exact hp x z fx
          · exact hm x o fx ex z) ex)
        refine .obj (fs := fs) (dx := dx) (fun j b => FF j b ∨ (j = i ∧ New b)) hS (k _ _ na h1) (.inl h2) (by simpa using h3) (fun j e u he hu => ?_) (fun j e u he hu => ?_) (fun j b z => ?_) (fun j l b z z' => ?_)
        · by_cases hj : i = j
          · subst hj
            rw [List.getElem?_set_self il] at he
            rw [a2] at hu
            cases he; cases hu; rfl
          · rw [List.getElem?_set_ne hj] at he
            exact h4 j e u he hu
        · by_cases hj : i = j
          · subst hj
            rw [List.getElem?_set_self il] at he
            rw [a2] at hu
            cases he; cases hu
            exact c2.wide fun b z => z.elim .inl fun z => .inr ⟨rfl, z⟩
          · rw [List.getElem?_set_ne hj] at he
            exact ((h7 j e u he hu).keep kp p fun x o fx ex => k x o (fun z => hj (h6 i j x (b3 x z) fx)) ex).wide fun b z => .inl z
        · rcases z with z | ⟨_, z⟩
          · exact ⟨.inl (h5 j b z).1, (h5 j b z).2⟩
          · exact ⟨.inr z, fun q => nw b z (q ▸ h2)⟩
        · rcases z with z | ⟨rfl, z⟩ <;> rcases z' with z' | ⟨rfl, z'⟩
          · exact h6 j l b z z'
          · exact absurd (h5 j b z).1 (nw b z')
          · exact absurd (h5 l b z').1 (nw b z)
          · rfl
  | .i j :: q, s, d, d', v, F, h, e, hc, hs, hp, hm => by
    cases h with
    | sh h => exact absurd (S.sh_go _) hs
    | flat hn h =>
      cases h with
      | lst => cases hn
      | @tup a vs ds h1 h3 h4 =>
        exfalso
        have e' : (R.of ds[j]?).bind (getP q) = .ok d' := e
        obtain ⟨d1, e1, e2⟩ := bind_inv e'
        have nd := noMuts_get (show noMuts ds = true from hn) (R.of_ok e1)
        clear h4 hs hm h1 h3 e e' e1 hn
        induction q generalizing d1 with
        | nil => cases e2; cases d' <;> first | (cases nd; done) | cases hc
        | cons x r ih =>
          cases x with
          | f n => cases d1 <;> first | (cases e2; done) | cases nd
          | i l =>
            cases d1 with
            | tup ds2 =>
              obtain ⟨d3, e3, e4⟩ := bind_inv (show (R.of ds2[l]?).bind (getP r) = .ok d' from e2)
              exact ih d3 e4 (noMuts_get (show noMuts ds2 = true from nd) (R.of_ok e3))
            | lst => cases nd
            | _ => cases e2
      | _ => cases e
    | @lst s a vs ds F FF h1 h2 h3 h7 h5 h6 =>
      have e' : (R.of ds[j]?).bind (getP q) = .ok d' := e
      obtain ⟨d1, e1, e2⟩ := bind_inv e'
      have a1 := R.of_ok e1
      have il : j < ds.length := (List.getElem?_eq_some_iff.mp a1).1
      have ilv : j < vs.length := by rw [← h3]; exact il
      have a2 : vs[j]? = some vs[j] := by simp [ilv]
      have hgo : (S.lst s).go (.i j :: q) = s.go q := rfl
      rw [hgo] at hs ⊢
      have o1 := h7 j d1 vs[j] a1 a2
      obtain ⟨v', F', b1, b2, b3, b4⟩ := Ow.focus hi q o1 e2 hc hs (fun x px fx => hp x px (h5 j x fx).1) (fun x o fx => hm x o (h5 j x fx).1)
      refine ⟨v', F', .l h1 a2 b1, b2, fun b q => (h5 j b (b3 b q)).1, fun H2 P2 New d2 g o k p nw hg => ?_⟩
      obtain ⟨d3, c1, c2⟩ := b4 H2 P2 New d2 g o k p (fun x nx fx => nw x nx (h5 j x fx).1) hg
      refine ⟨.lst (ds.set j d3), ?_, ?_⟩
      · show (R.of ds[j]?).bind _ = _
        rw [e1, bind_ok, c1, bind_ok]
      · have na : ¬ F' a := fun z => (h5 j a (b3 a z)).2 rfl
        have kp : Kp H H2 P := fun x o ex z => .inl (k x o (fun z' => by
          have fx := (h5 j x (b3 x z')).1
          rcases z with z | z
          · exact hp x z fx
          · exact hm x o fx ex z) ex)
        refine .lst (vs := vs) (fun i b => FF i b ∨ (i = j ∧ New b)) (k _ _ na h1) (.inl h2) (by simpa using h3) (fun i e u he hu => ?_) (fun i b z => ?_) (fun i l b z z' => ?_)
        · by_cases hj : j = i
          · subst hj
            rw [List.getElem?_set_self il] at he
            rw [a2] at hu
            cases he; cases hu
            exact c2.wide fun b z => z.elim .inl fun z => .inr ⟨rfl, z⟩
          · rw [List.getElem?_set_ne hj] at he
            exact ((h7 i e u he hu).keep kp p fun x o fx ex => k x o (fun z => hj (h6 j i x (b3 x z) fx)) ex).wide fun b z => .inl z
        · rcases z with z | ⟨_, z⟩
          · exact ⟨.inl (h5 i b z).1, (h5 i b z).2⟩
          · exact ⟨.inr z, fun q => nw b z (q ▸ h2)⟩
        · rcases z with z | ⟨rfl, z⟩ <;> rcases z' with z' | ⟨rfl, z'⟩
          · exact h6 i l b z z'
          · exact absurd (h5 i b z).1 (nw b z')
          · exact absurd (h5 l b z').1 (nw b z)
          · rfl
    | dicK => cases e
    | dicT => cases e
    | obj => cases e
    | @tup s r a vs ds F FF h1 h3 h7 h5 h6 =>
      have e' : (R.of ds[j]?).bind (getP q) = .ok d' := e
      obtain ⟨d1, e1, e2⟩ := bind_inv e'
      have a1 := R.of_ok e1
      have il : j < ds.length := (List.getElem?_eq_some_iff.mp a1).1
      have ilv : j < vs.length := by rw [← h3]; exact il
      have a2 : vs[j]? = some vs[j] := by simp [ilv]
      have hgo : (S.tc s r).go (.i j :: q) = ((S.tc s r).at j).go q := rfl
      rw [hgo] at hs ⊢
      have o1 := h7 j d1 vs[j] a1 a2
      obtain ⟨v', F', b1, b2, b3, b4⟩ := Ow.focus hi q o1 e2 hc hs (fun x px fx => hp x px (h5 j x fx)) (fun x o fx => hm x o (h5 j x fx))
      refine ⟨v', F', .t h1 a2 b1, b2, fun b q => (h5 j b (b3 b q)), fun H2 P2 New d2 g o k p nw hg => ?_⟩
      obtain ⟨d3, c1, c2⟩ := b4 H2 P2 New d2 g o k p (fun x nx fx => nw x nx (h5 j x fx)) hg
      refine ⟨.tup (ds.set j d3), ?_, ?_⟩
      · show (R.of ds[j]?).bind _ = _
        rw [e1, bind_ok, c1, bind_ok]
      · have kp : Kp H H2 P := fun x o ex z => .inl (k x o (fun z' => by
          have fx := (h5 j x (b3 x z'))
          rcases z with z | z
          · exact hp x z fx
          · exact hm x o fx ex z) ex)
        have na : H2 a = some (.tup vs) := k _ _ (fun z => hm a _ (h5 j a (b3 a z)) h1 trivial) h1
        refine .tup (vs := vs) (fun i b => FF i b ∨ (i = j ∧ New b)) na (by simpa using h3) (fun i e u he hu => ?_) (fun i b z => ?_) (fun i l b z z' => ?_)
        · by_cases hj : j = i
          · subst hj
            rw [List.getElem?_set_self il] at he
            rw [a2] at hu
            cases he; cases hu
            exact c2.wide fun b z => z.elim .inl fun z => .inr ⟨rfl, z⟩
          · rw [List.getElem?_set_ne hj] at he
            exact ((h7 i e u he hu).keep kp p fun x o fx ex => k x o (fun z => hj (h6 j i x (b3 x z) fx)) ex).wide fun b z => .inl z
        · rcases z with z | ⟨_, z⟩
          · exact .inl (h5 i b z)
          · exact .inr z
        · rcases z with z | ⟨rfl, z⟩ <;> rcases z' with z' | ⟨rfl, z'⟩
          · exact h6 i l b z z'
          · exact absurd (h5 i b z) (nw b z')
          · exact absurd (h5 l b z') (nw b z)
          · rfl
end
end G
end
section
set_option Elab.async false
set_option linter.all false
set_option maxRecDepth 100000
set_option maxHeartbeats 4000000
namespace G
open PySem PySem.Spec PyProof.Rows L2
/-! ### the text and the reading's text side by side -/
def visB (sc : Scope) (x : Str) : Bool := (match sc.names.lookup x with
  | some .local | some .cell | some .free => true
  | _ => false) && (!(x == ("__debug__" : Str)) && !(x == ("__classdict__" : Str)))
def locB (sc : Scope) (x : Str) : Bool := match sc.names.lookup x with
  | some .local | some .cell => true
  | _ => false
def glB (sc : Scope) (x : Str) : Bool := (match sc.names.lookup x with
  | some .globalImplicit => true
  | _ => false) && (!(x == ("__debug__" : Str)) && !decide (x = ("__name__" : Str)))
def boE : BO → Operator
  | .add => .Add | .sub => .Sub | .mul => .Mult | .fdiv => .FloorDiv | .mod => .Mod | .pow => .Pow
def coE : CO → CmpOp
  | .eq => .Eq | .ne => .NotEq | .lt => .Lt | .le => .LtE | .gt => .Gt | .ge => .GtE | .isin => .In | .notin => .NotIn | .is => .Is | .isnot => .IsNot
def biN : BI → Str
  | .len => "len" | .int => "int" | .str => "str" | .list => "list" | .tuple => "tuple" | .dict => "dict" | .all => "all" | .any => "any" | .sum => "sum" | .abs => "abs" | .max => "max" | .min => "min" | .sorted => "sorted"
def miN : MI → Str
  | .split => "split" | .join => "join" | .strip => "strip" | .startswith => "startswith" | .replace => "replace" | .upper => "upper" | .get => "get" | .index => "index" | .count => "count"
def isStr : MI → Bool
  | .split | .join | .strip | .startswith => true
  | _ => false
def isRg : IT → Bool
  | .rng1 _ => true
  | .rng2 _ _ => true
  | _ => false
def noSup : PySem.Expr → Bool
  | .Call (.Name _ _) [] [] _ => false
  | _ => true
def noStar : PySem.Expr → Bool
  | .Starred _ _ => false
  | _ => true
def noSet : PySem.Expr → Bool
  | .Set _ _ _ => false
  | _ => true
def noSl : PySem.Expr → Bool
  | .Slice _ _ _ _ => false
  | _ => true
/-- a target's names and slots -/
def tgN (N : List Str) (sc : Scope) (i : Nat) (e : PySem.Expr) : Bool := match e with
  | .Name x _ => decide (N[i]? = some x) && locB sc x
  | _ => false
def tgNs (N : List Str) (sc : Scope) : List Nat → List PySem.Expr → Bool
  | [], [] => true
  | i :: is, e :: es => tgN N sc i e && tgNs N sc is es
  | _, _ => false
def tgB (N : List Str) (sc : Scope) (tu : Bool) (tg : List Nat) (e : PySem.Expr) : Bool := match tu with
  | false => (match tg with
    | [i] => tgN N sc i e
    | _ => false)
  | true => (match e with
    | .Tuple es _ _ => tgNs N sc tg es
    | _ => false)
def isTup : PySem.Expr → Bool
  | .Tuple _ _ _ => true
  | _ => false
def ownL (N : List Str) (tg : List Nat) : List (Str × Nat) := tg.map fun i => (N.getD i (Str.ofString ""), i)
def rngName : Str := "range"
def IL.len : IL → Nat
  | .nil => 0
  | .cons _ r => r.len + 1
def IKV.len : IKV → Nat
  | .nil => 0
  | .cons _ _ r => r.len + 1
def pthE : IE → Option (Nat × List Nat)
  | .v i => some (i, [])
  | .fld a f => (pthE a).map fun p => (p.1, f :: p.2)
  | _ => none
def isDit : IT → Bool
  | .items _ => true
  | .vals _ => true
  | .keys _ => true
  | _ => false
mutual
def chkE (T : Tab) (N : List Str) (sc : Scope) : IE → PySem.Expr → Bool
  | .v i, e => (match e with
    | .Name x _ => decide (N[i]? = some x) && visB sc x
    | _ => false)
  | .kn, e => (match e with
    | .Constant .none _ _ => true
    | _ => false)
  | .kb b, e => (match e with
    | .Constant (.bool c) _ _ => decide (b = c)
    | _ => false)
  | .ki i, e => (match e with
    | .Constant (.int j) _ _ => decide (i = j)
    | _ => false)
  | .ks x, e => (match e with
    | .Constant (.str z) _ _ => decide (z.cps.toList = x)
    | _ => false)
  | .g i, e => (match e with
    | .Name x _ => (decide (i < T.ngs) && decide (x = (T.gs i).1)) && glB sc x
    | _ => false)
  | .bin op a b, e => (match e with
    | .BinOp l o r _ => decide (o = boE op) && (chkE T N sc a l && chkE T N sc b r)
    | _ => false)
  | .neg a, e => (match e with
    | .UnaryOp .USub r _ => chkE T N sc a r
    | _ => false)
  | .not a, e => (match e with
    | .UnaryOp .Not r _ => chkE T N sc a r
    | _ => false)
  | .and a b, e => (match e with
    | .BoolOp .And (x :: y :: es) p => chkE T N sc a x && (match es with
      | [] => chkE T N sc b y
      | _ :: _ => chkE T N sc b (.BoolOp .And (y :: es) p))
    | _ => false)
  | .or a b, e => (match e with
    | .BoolOp .Or (x :: y :: es) p => chkE T N sc a x && (match es with
      | [] => chkE T N sc b y
      | _ :: _ => chkE T N sc b (.BoolOp .Or (y :: es) p))
    | _ => false)
  | .cmp op a b, e => (match e with
    | .Compare l [o] [r] _ => decide (o = coE op) && (chkE T N sc a l && chkE T N sc b r)
    | _ => false)
  | .cmp2 o1 o2 a b c, e => (match e with
    | .Compare l [o, o'] [r, q] _ => (decide (o = coE o1) && decide (o' = coE o2)) && (chkE T N sc a l && (chkE T N sc b r && chkE T N sc c q))
    | _ => false)
  | .ife c a b, e => (match e with
    | .IfExp t x y _ => chkE T N sc c t && (chkE T N sc a x && chkE T N sc b y)
    | _ => false)
  | .lst es, e => (match e with
    | .List xs _ => chkL T N sc es xs && decide (es.len ≤ 1000)
    | _ => false)
  | .tup es, e => (match e with
    | .Tuple xs _ _ => chkL T N sc es xs && decide (es.len ≤ 1000)
    | _ => false)
  | .dnew _, e => (match e with
    | .Dict [] [] _ => true
    | _ => false)
  | .dic kvs, e => (match e with
    | .Dict ks vs _ => chkKV T N sc kvs ks vs && decide (kvs.len ≤ 15 ∧ kvs.len ≠ 0)
    | _ => false)
  | .comp elt tu tg it cnd, e => (match e with
    | .ListComp x [⟨t, iter, ifs, 0⟩] scope _ => (blkC N sc scope (ownL N tg) && tgB N (relS scope sc) tu tg t) && (chkIt T N sc (isTup t) it iter && (chkC T N (relS scope sc) cnd ifs && (chkE T N (relS scope sc) elt x && tgB N scope tu tg t)))
    | _ => false)
  | .ix a i, e => (match e with
    | .Subscript x y _ => chkE T N sc a x && chkE T N sc i y
    | _ => false)
  | .sl a lo hi, e => (match e with
    | .Subscript x (.Slice l h none _) _ => chkE T N sc a x && (chkO T N sc lo l && chkO T N sc hi h)
    | _ => false)
  | .rev a, e => (match e with
    | .Subscript x (.Slice none none (some (.UnaryOp .USub (.Constant (.int i) _ _) _)) _) _ => decide (i = 1) && chkE T N sc a x
    | _ => false)
  | .fld a f, e => (match e with
    | .Attribute x n _ => ((decide (f < T.nfl) && decide (n = T.fname f)) && noSup x) && chkE T N sc a x
    | _ => false)
  | .call f es, e => (match e with
    | .Call (.Name x _) xs [] _ => ((T.fns.contains f && (T.mty f).isNone) && (decide (x = T.gname f) && glB sc x)) && chkL T N sc es xs
    | _ => false)
  | .mk c es, e => (match e with
    | .Call (.Name x _) xs [] _ => (decide (c < T.ncl) && (decide (x = T.cname c) && glB sc x)) && chkL T N sc es xs
    | _ => false)
  | .blt b es, e => (match e with
    | .Call (.Name x _) (y :: ys) [] _ => (decide (x = biN b) && glB sc x) && chkL T N sc es (y :: ys)
    | _ => false)
  | .mth m o es, e => (match e with
    | .Call (.Attribute x n apos) (y :: ys) [] cpos => ((decide (n = miN m) && (isStr m && noSup x)) && ((apos.endLine == cpos.line) && decide (ys.length < 20))) && (chkE T N sc o x && chkL T N sc es (y :: ys))
    | _ => false)
  | .isi a cs, e => (match e with
    | .Call (.Name x _) [y, .Name z _] [] _ => (match cs with
      | [t] => ((decide (x = ("isinstance" : Str)) && glB sc x) && (decide (t ≤ 5) && (decide (z = Str.ofString (tyN t)) && glB sc z))) && chkE T N sc a y
      | _ => false)
    | _ => false)
  | .lrg tu it, e => (match e with
    | .Call (.Name x _) [y] [] _ => ((decide (x = if tu then ("tuple" : Str) else "list") && glB sc x) && isRg it) && chkIt T N sc false it y
    | _ => false)
  | .lrv a, e => (match e with
    | .Call (.Name x _) [.Call (.Name y _) [z] [] _] [] _ => ((decide (x = ("list" : Str)) && glB sc x) && (decide (y = ("reversed" : Str)) && glB sc y)) && chkE T N sc a z
    | _ => false)
  | .nv, e => noStar e && (noSet e && noSl e)
def chkL (T : Tab) (N : List Str) (sc : Scope) : IL → List PySem.Expr → Bool
  | .nil, es => es.isEmpty
  | .cons e r, es => (match es with
    | x :: q => chkE T N sc e x && chkL T N sc r q
    | [] => false)
def chkKV (T : Tab) (N : List Str) (sc : Scope) : IKV → List (Option PySem.Expr) → List PySem.Expr → Bool
  | .nil, ks, vs => ks.isEmpty && vs.isEmpty
  | .cons k v r, ks, vs => (match ks, vs with
    | some x :: ks, y :: vs => chkE T N sc k x && (chkE T N sc v y && chkKV T N sc r ks vs)
    | _, _ => false)
def chkO (T : Tab) (N : List Str) (sc : Scope) : IO → Option PySem.Expr → Bool
  | .none, e => e.isNone
  | .some e, x => (match x with
    | some x => chkE T N sc e x
    | none => false)
def chkC (T : Tab) (N : List Str) (sc : Scope) : IO → List PySem.Expr → Bool
  | .none, e => e.isEmpty
  | .some e, x => (match x with
    | [x] => chkE T N sc e x
    | _ => false)
def chkIt (T : Tab) (N : List Str) (sc : Scope) (tup : Bool) : IT → PySem.Expr → Bool
  | .seq a, e => chkE T N sc a e
  | .rng1 a, e => (match e with
    | .Call (.Name x _) [y] [] _ => (decide (x = ("range" : Str)) && glB sc x) && chkE T N sc a y
    | _ => false)
  | .rng2 a b, e => (match e with
    | .Call (.Name x _) [y, z] [] _ => (decide (x = ("range" : Str)) && glB sc x) && (chkE T N sc a y && chkE T N sc b z)
    | _ => false)
  | .rng3 a b c, e => (match e with
    | .Call (.Name x _) [y, z, q] [] _ => (decide (x = ("range" : Str)) && glB sc x) && (chkE T N sc a y && (chkE T N sc b z && chkE T N sc c q))
    | _ => false)
  | .enum a, e => (match e with
    | .Call (.Name x _) [y] [] _ => (tup && (decide (x = ("enumerate" : Str)) && glB sc x)) && chkE T N sc a y
    | _ => false)
  | .zip a b, e => (match e with
    | .Call (.Name x _) [y, z] [] _ => (tup && (decide (x = ("zip" : Str)) && glB sc x)) && (chkE T N sc a y && chkE T N sc b z)
    | _ => false)
  | .rev a, e => (match e with
    | .Call (.Name x _) [y] [] _ => (decide (x = ("reversed" : Str)) && glB sc x) && chkE T N sc a y
    | _ => false)
  | .items e, x => (match x with
    | .Call (.Attribute y n apos) [] [] cpos => ((decide (n = ("items" : Str)) && tup) && (noSup y && (apos.endLine == cpos.line))) && ((pthE e).isSome && chkE T N sc e y)
    | _ => false)
  | .vals e, x => (match x with
    | .Call (.Attribute y n apos) [] [] cpos => (decide (n = ("values" : Str)) && (noSup y && (apos.endLine == cpos.line))) && ((pthE e).isSome && chkE T N sc e y)
    | _ => false)
  | .keys e, x => (pthE e).isSome && chkE T N sc e x
end
/-! ### slots that are read -/
mutual
def IE.vars : IE → List Nat
  | .v i => [i]
  | .bin _ a b => a.vars ++ b.vars
  | .neg a => a.vars
  | .not a => a.vars
  | .and a b => a.vars ++ b.vars
  | .or a b => a.vars ++ b.vars
  | .cmp _ a b => a.vars ++ b.vars
  | .cmp2 _ _ a b c => a.vars ++ (b.vars ++ c.vars)
  | .ife c a b => c.vars ++ (a.vars ++ b.vars)
  | .lst es => es.vars
  | .tup es => es.vars
  | .dic kvs => kvs.vars
  | .comp elt _ tg it cnd => it.vars ++ (elt.vars ++ cnd.vars).filter fun i => !tg.contains i
  | .ix a i => a.vars ++ i.vars
  | .sl a lo hi => a.vars ++ (lo.vars ++ hi.vars)
  | .rev a => a.vars
  | .fld a _ => a.vars
  | .call _ es => es.vars
  | .mk _ es => es.vars
  | .blt _ es => es.vars
  | .mth _ o es => o.vars ++ es.vars
  | .isi a _ => a.vars
  | .lrg _ it => it.vars
  | .lrv a => a.vars
  | _ => []
def IL.vars : IL → List Nat
  | .nil => []
  | .cons e r => e.vars ++ r.vars
def IKV.vars : IKV → List Nat
  | .nil => []
  | .cons k v r => k.vars ++ (v.vars ++ r.vars)
def IO.vars : IO → List Nat
  | .none => []
  | .some e => e.vars
def IT.vars : IT → List Nat
  | .seq e => e.vars
  | .rng1 a => a.vars
  | .rng2 a b => a.vars ++ b.vars
  | .rng3 a b c => a.vars ++ (b.vars ++ c.vars)
  | .enum e => e.vars
  | .zip a b => a.vars ++ b.vars
  | .rev e => e.vars
  | .items e => e.vars
  | .vals e => e.vars
  | .keys e => e.vars
end
mutual
/-- what an expression makes may be owned so -/
def fits (T : Tab) : IE → S → Bool
  | _, .sh => true
  | .lst es, .lst s => fitsL T es s
  | .tup es, .tc a r => fitsT T es (.tc a r)
  | .dnew _, .dic => true
  | .dic _, .dic => true
  | .comp elt _ _ _ _, .lst s => fits T elt s
  | .ife _ a b, s => fits T a s && fits T b s
  | .bin .add _ _, .lst .sh => true
  | .bin .mul _ _, .lst .sh => true
  | .sl _ _ _, .lst .sh => true
  | .rev _, .lst .sh => true
  | .lrg false _, .lst .sh => true
  | .lrv _, .lst .sh => true
  | .blt .list _, .lst .sh => true
  | .blt .dict _, .dic => true
  | .mth .split _ _, .lst .sh => true
  | .call f _, s => decide (T.ret f = s)
  | .mk c _, s => decide (T.cty c = s)
  | _, _ => false
def fitsL (T : Tab) : IL → S → Bool
  | .nil, _ => true
  | .cons e r, s => fits T e s && fitsL T r s
def fitsT (T : Tab) : IL → S → Bool
  | .nil, _ => true
  | .cons e r, .tc a q => fits T e a && fitsT T r q
  | _, _ => false
end
def isTc : S → Bool
  | .tc _ _ => true
  | _ => false
end G
end
section
set_option Elab.async false
set_option linter.all false
set_option maxRecDepth 100000
set_option maxHeartbeats 4000000
namespace G
open PySem PySem.Spec PyProof.Rows L2
/-! ### what a reading gives -/
def Ext (H H' : Hp) : Prop := ∀ a o, H a = some o → H' a = some o
theorem Ext.refl (H : Hp) : Ext H H := fun _ _ h => h
theorem Ext.trans {H H1 H2 : Hp} (a : Ext H H1) (b : Ext H1 H2) : Ext H H2 := fun x o h => b x o (a x o h)
theorem Ext.new {H : Hp} {p : Addr} {o : HO} (h : H p = none) : Ext H (upd H p o) := fun a u e => by
  rw [upd_ne (ne_of_none e h)]
  exact e
theorem Ext.free {H H' : Hp} (e : Ext H H') {p : Addr} (h : H' p = none) : H p = none := by
  cases q : H p with
  | none => rfl
  | some o => rw [e p o q] at h; cases h
theorem Ext.kp {H H' : Hp} {P : Addr → Prop} (e : Ext H H') : Kp H H' P := .of e
def Nw (P : Addr → Prop) (H : Hp) : Addr → Prop := fun a => P a ∨ H a = none
def Fresh (H H' : Hp) (F : Addr → Prop) : Prop := ∀ a, F a → H a = none ∧ ∃ o, H' a = some o ∧ ¬ isFix o
/-- from the heap H, with P to be shared: d comes, owned as s -/
def Res (W : Wd) (H : Hp) (P : Addr → Prop) (s : S) (d : D) (Q : VK) : Prop :=
  ∀ v H' F, Ext H H' → Fresh H H' F → Ow W H' (fun a => Nw P H a ∧ ¬ F a) s d v F → Q v H'
def XW (W : Wd) (E : XK) (c : Nat) (fs : List (Nat × D)) (H : Hp) : Prop := ∀ (d : Option Addr) (H' : Hp), Ext H H' →
  (match d with
    | none => fs = []
    | some a => ∃ us : List (Str × V), H a = none ∧ H' a = some (.xd us) ∧ FsR W fs us ∧ ∀ (i : Nat) d v, fs[i]? = some d → us[i]? = some v → Rp W H' (fun _ => True) d.2 v.2) → E (.ref (W.cadr c)) d H'
def Wp {α : Type} (W : Wd) (E : XK) (H : Hp) (x : R α) (k : α → Prop) : Prop := match x with
  | .ok a => k a
  | .ex c fs => XW W E c fs H
  | .bad => False
section
variable {W : Wd} {E : XK} {H H1 H2 : Hp} {P P' : Addr → Prop} {s : S} {d : D} {Q : VK} {α β : Type}
theorem XW.up {c : Nat} {fs : List (Nat × D)} (h : XW W E c fs H) (e : Ext H H1) : XW W E c fs H1 := fun d H' e' q => h d H' (e.trans e') (by
  cases d with
  | none => exact q
  | some a =>
    obtain ⟨us, h1, h2⟩ := q
    exact ⟨us, e.free h1, h2⟩)
theorem Wp.bind {x : R α} {f : α → R β} {k : β → Prop} (h : Wp W E H (x.bind f) k) : Wp W E H x fun a => Wp W E H (f a) k := by
  cases x <;> exact h
theorem Wp.imp {x : R α} {k k' : α → Prop} (h : Wp W E H x k) (hk : ∀ a, k a → k' a) : Wp W E H x k' := by
  cases x with
  | ok a => exact hk a h
  | ex c fs => exact h
  | bad => exact h
theorem Wp.up {x : R α} {k : α → Prop} (h : Wp W E H x k) (e : Ext H H1) : Wp W E H1 x k := by
  cases x with
  | ok a => exact h
  | ex c fs => exact XW.up h e
  | bad => exact h
theorem Wp.of {o : Option α} {k : α → Prop} (h : Wp W E H (R.of o) k) : ∃ a, o = some a ∧ k a := by
  cases o with
  | none => exact h.elim
  | some a => exact ⟨a, rfl, h⟩
theorem Res.up (q : Res W H P s d Q) (e : Ext H H1) : Res W H1 (Nw P H) s d Q := fun v H' F e1 f o => q v H' F (e.trans e1) (fun a fa => ⟨e.free (f a fa).1, (f a fa).2⟩)
  (o.mono fun a z => ⟨z.1.elim id fun z => .inr (e.free z), z.2⟩)
theorem Res.flat (q : Res W H P s d Q) {v : V} (n : noMut d = true) (r : Rp W H P d v) : Q v H := q v H (fun _ => False) (Ext.refl H) (fun _ z => z.elim) (.flat n (r.flat n))
/-- what is there already -/
theorem Res.old (q : Res W H P .sh d Q) {v : V} (r : Rp W H P d v) : Q v H := q v H (fun _ => False) (Ext.refl H) (fun _ z => z.elim) (.sh (r.mono fun a z => ⟨.inl z, fun z => z⟩))
theorem Rp.up {v : V} (r : Rp W H P d v) (e : Ext H H1) : Rp W H1 (Nw P H) d v := r.keep e.kp fun _ z => .inl z
theorem RpL.up {ds : List D} {vs : List V} (r : RpL W H P ds vs) (e : Ext H H1) : RpL W H1 (Nw P H) ds vs := r.keep e.kp fun _ z => .inl z
theorem Rp.ext {v : V} (r : Rp W H P d v) (e : Ext H H1) : Rp W H1 P d v := r.keep e.kp fun _ z => z
theorem RpL.ext {ds : List D} {vs : List V} (r : RpL W H P ds vs) (e : Ext H H1) : RpL W H1 P ds vs := r.keep e.kp fun _ z => z
def There (P : Addr → Prop) (H : Hp) : Addr → Prop := fun a => P a ∧ ∃ o, H a = some o
theorem rd_there {a : Addr} {u : HO} (h : L2.Rd H a u) : ∃ o, H a = some o := by
  rcases h with h | ⟨o, h⟩
  · exact ⟨_, h⟩
  · exact ⟨_, h⟩
/-- what is read stands in the heap -/
theorem Rp.there {v : V} (r : Rp W H P d v) : Rp W H (There P H) d v := by
  induction r with
  | non => exact .non
  | bl b => exact .bl b
  | int i => exact .int i
  | str x => exact .str x
  | lst h1 h2 h3 _ ih => exact .lst h1 ⟨h2, _, h1⟩ h3 ih
  | tup h1 h3 _ ih => exact .tup h1 h3 ih
  | dicK h1 h2 h3 h4 _ ih => exact .dicK h1 ⟨h2, rd_there h1⟩ h3 h4 ih
  | dicT h1 h2 h3 h4 _ ih => exact .dicT h1 ⟨h2, rd_there h1⟩ h3 h4 ih
  | ins h1 h2 h3 h4 _ ih => exact .ins h1 ⟨h2, _, h1⟩ h3 h4 ih
  | scr h => exact .scr h
/-- .. so it is apart from what is new -/
theorem Rp.apart {v : V} (r : Rp W H P d v) (e : Ext H H1) {F : Addr → Prop} (hf : ∀ a, F a → H a = none) : Rp W H1 (fun a => Nw P H a ∧ ¬ F a) d v :=
  r.there.keep e.kp fun a z => ⟨.inl z.1, fun fa => by
    obtain ⟨_, o, q⟩ := z
    rw [hf a fa] at q
    cases q⟩
theorem Ow.there {v : V} {F : Addr → Prop} (r : Ow W H P s d v F) : Ow W H (There P H) s d v F := by
  induction r with
  | sh h => exact .sh h.there
  | flat n h => exact .flat n h.there
  | lst FF h1 h2 h3 _ h5 h6 ih => exact .lst FF h1 h2 h3 ih h5 h6
  | dicK h1 h2 h3 h4 h5 => exact .dicK h1 h2 h3 h4 fun i d v e u => (h5 i d v e u).there
  | dicT h1 h2 h3 h4 h5 => exact .dicT h1 h2 h3 h4 fun i d v e u => (h5 i d v e u).there
  | tup FF h1 h3 _ h5 h6 ih => exact .tup FF h1 h3 ih h5 h6
  | obj FF hs h1 h2 h3 h4 _ h5 h6 ih => exact .obj FF hs h1 h2 h3 h4 ih h5 h6
def one (p : Addr) : Addr → Prop := fun a => a = p
/-- a new list of shared things -/
theorem Res.newL {ds : List D} {vs : List V} (q : Res W H P s (.lst ds) Q) (hs : s = .sh ∨ s = .lst .sh) (r : RpL W H P ds vs) {p : Addr} (hp : H p = none) : Q (.ref p) (upd H p (.lst vs)) := by
  rcases hs with rfl | rfl
  · refine q _ _ (fun _ => False) (Ext.new hp) (fun _ z => z.elim) (.sh (.lst upd_same ⟨.inr hp, fun z => z⟩ r.1 fun i d v e u => ?_))
    exact (r.2 i d v e u).keep (Ext.new hp).kp fun a z => ⟨.inl z, fun z => z⟩
  · refine q _ _ (one p) (Ext.new hp) (fun a z => ?_) (.lst (fun _ _ => False) upd_same rfl r.1 (fun i d v e u => .sh ?_) (fun _ _ z => z.elim) fun _ _ _ z => z.elim)
    · cases z; exact ⟨hp, _, upd_same, fun z => z⟩
    · exact (r.2 i d v e u).apart (Ext.new hp) fun a z => by cases z; exact hp
end
end G
end
section
set_option Elab.async false
set_option linter.all false
set_option maxRecDepth 100000
set_option maxHeartbeats 4000000
namespace G
open PySem PySem.Spec PyProof.Rows L2
theorem SZ_eq : SZ = sizeLine := by rw [sizeLine_eq]; rfl
theorem mk_app (a b : List Nat) : mk a ++ mk b = mk (a ++ b) := by
  show Str.append _ _ = _
  unfold Str.append mk
  simp
def sOk (s : S) : Prop := s = .sh ∨ s = .lst .sh
section
variable {X : Cx} {W : Wd} {E : XK}
theorem noMuts_app : ∀ xs ys : List D, noMuts xs = true → noMuts ys = true → noMuts (xs ++ ys) = true
  | [], _, _, h => h
  | x :: r, ys, h, h' => by
    obtain ⟨a1, a2⟩ := Bool.and_eq_true_iff.mp (show (noMut x && noMuts r) = true from h)
    exact Bool.and_eq_true_iff.mpr ⟨a1, noMuts_app r ys a2 h'⟩
theorem Res.newT {W : Wd} {H : Hp} {P : Addr → Prop} {s : S} {Q : VK} {ds : List D} {vs : List V} (q : Res W H P s (.tup ds) Q) (n : noMuts ds = true) (r : RpL W H P ds vs) {p : Addr} (hp : H p = none) : Q (.ref p) (upd H p (.tup vs)) := by
  refine q _ _ (fun _ => False) (Ext.new hp) (fun _ z => z.elim) (.flat n (.tup upd_same r.1 fun i d v e u => ?_))
  exact (r.2 i d v e u).apart (Ext.new hp) fun _ z => z.elim
theorem foldl_strs (a : Array Nat) : ∀ (k : Nat) (acc : Array Nat), ((List.replicate k a).foldl (· ++ ·) acc).toList = acc.toList ++ (List.replicate k a.toList).flatten
  | 0, acc => by simp
  | k + 1, acc => by
    rw [List.replicate_succ, List.foldl_cons, foldl_strs a k, List.replicate_succ, List.flatten_cons, Array.toList_append, List.append_assoc]
theorem strRep (k : Nat) (x : List Nat) : (⟨(List.replicate k (mk x).cps).foldl (· ++ ·) #[]⟩ : Str) = mk (List.replicate k x).flatten := by
  have h := foldl_strs (mk x).cps k #[]
  rw [show (mk x).cps.toList = x from mk_toList x] at h
  unfold mk
  congr 1
  apply Array.toList_inj.mp
  rw [show (mk x).cps = x.toArray from rfl] at h
  rw [h]
  simp
theorem flatRep_len {α : Type} (x : List α) : ∀ k : Nat, (List.replicate k x).flatten.length = x.length * k
  | 0 => by simp
  | k + 1 => by rw [List.replicate_succ, List.flatten_cons, List.length_append, flatRep_len x k, Nat.mul_succ, Nat.add_comm]
def rBin (W : Wd) (op : BO) (s : S) : R2 := fun x y H Q => ∃ P da db d, Rp W H P da x ∧ Rp W H P db y ∧ binD op da db = .ok d ∧ Res W H P s d Q
theorem op_bin (op : BO) {s : S} (hs : sOk s) : OpR X (binaryOp (boE op)) (rBin W op s) := by
  intro pins s0 σ H x y v u Q I rx ry h
  obtain ⟨P, da, db, d, r1, r2, e, q⟩ := h
  cases op with
  | add =>
    cases r1 with
    | int i =>
      cases r2 with
      | int j =>
        cases e
        exact op_add pins s0 σ H _ _ v u Q I rx ry ⟨i, j, rfl, rfl, q.flat rfl (.int _)⟩
      | _ => cases e
    | str a =>
      cases r2 with
      | str b =>
        simp only [binD, addD] at e
        split at e
        · rename_i hl
          cases e
          refine op_add_str pins s0 σ H _ _ v u Q I rx ry ⟨mk a, mk b, rfl, rfl, ?_, ?_⟩
          · rw [mk_len, mk_len, ← SZ_eq]; exact hl
          · rw [mk_app]; exact q.flat rfl (.str _)
        · cases e
      | _ => cases e
    | @lst a vs ds h1 h2 h3 h4 =>
      cases r2 with
      | @lst b us es g1 g2 g3 g4 =>
        simp only [binD, addD] at e
        split at e
        · rename_i hl
          cases e
          refine op_cat pins s0 σ H _ _ v u Q I rx ry ⟨a, b, vs, us, rfl, rfl, h1, g1, ?_, fun p hp => ?_⟩
          · rw [← h3, ← g3, ← SZ_eq]; exact hl
          · exact q.newL hs (RpL.append ⟨h3, h4⟩ ⟨g3, g4⟩) hp
        · cases e
      | _ => cases e
    | @tup a vs ds h1 h3 h4 =>
      cases r2 with
      | @tup b us es g1 g3 g4 =>
        simp only [binD, addD] at e
        split at e
        · cases e
        · rename_i hn
          split at e
          · rename_i hl
            cases e
            have n2 : (noMuts ds && noMuts es) = true := by
              cases hq : (noMuts ds && noMuts es) with
              | true => rfl
              | false => rw [hq] at hn; exact absurd rfl hn
            obtain ⟨m2, m3⟩ : noMuts ds = true ∧ noMuts es = true := Bool.and_eq_true_iff.mp n2
            refine op_catA pins s0 σ H _ _ v u Q I rx ry ⟨a, b, vs, us, rfl, rfl, .of h1, .of g1, ?_, fun z => ?_, fun _ z => ?_, fun _ _ p hp => q.newT (noMuts_app _ _ m2 m3) (RpL.append ⟨h3, h4⟩ ⟨g3, g4⟩) hp⟩
            · rw [← h3, ← g3, ← SZ_eq]; exact hl
            · have ee : ds = [] := by rw [z] at h3; exact List.length_eq_zero_iff.mp h3
              subst ee
              exact q.flat (show noMuts es = true from m3) (.tup g1 g3 g4)
            · have ee : es = [] := by rw [z] at g3; exact List.length_eq_zero_iff.mp g3
              subst ee
              rw [List.append_nil] at q
              exact q.flat (show noMuts ds = true from m2) (.tup h1 h3 h4)
          · cases e
      | _ => cases e
    | _ => cases e
  | sub =>
    cases r1 with
    | int i =>
      cases r2 with
      | int j =>
        cases e
        exact op_sub pins s0 σ H _ _ v u Q I rx ry ⟨i, j, rfl, rfl, q.flat rfl (.int _)⟩
      | _ => cases e
    | _ => cases e
  | mul =>
    cases r1 with
    | int i =>
      cases r2 with
      | int j =>
        simp only [binD, mulD] at e
        split at e
        · rename_i hl
          cases e
          exact op_mul pins s0 σ H _ _ v u Q I rx ry ⟨i, j, rfl, rfl, hl, q.flat rfl (.int _)⟩
        · cases e
      | _ => cases e
    | @lst a vs ds h1 h2 h3 h4 =>
      cases r2 with
      | int j =>
        simp only [binD, mulD] at e
        split at e
        · rename_i hl
          cases e
          refine op_rep pins s0 σ H _ _ v u Q I rx ry ⟨a, j, vs, rfl, rfl, h1, hl.1, hl.2.1, ?_, fun p hp => ?_⟩
          · rw [← h3, ← SZ_eq]; exact hl.2.2
          · have rr : ∀ k : Nat, RpL W H P (List.replicate k ds).flatten (List.replicate k vs).flatten := by
              intro k
              induction k with
              | zero => exact .nil
              | succ k ih =>
                rw [List.replicate_succ, List.replicate_succ, List.flatten_cons, List.flatten_cons]
                exact RpL.append ⟨h3, h4⟩ ih
            exact q.newL hs (rr _) hp
        · cases e
      | _ => cases e
    | str a =>
      cases r2 with
      | int j =>
        simp only [binD, mulD] at e
        split at e
        · rename_i hl
          cases e
          obtain ⟨t, rfl⟩ := rx
          obtain ⟨t', rfl⟩ := ry
          have fin : ∀ (z : Str) (k : Nat) (t2 : Tok), z = mk (repL a j) → EP X pins σ Q (.str z t2) { s0 with toks := k } := fun z k t2 ez => by
            subst ez
            exact ⟨.str _, H, I.tok k, ⟨_, rfl⟩, q.flat rfl (.str _)⟩
          have hsz : (mk a).length * j.toNat ≤ sizeLine := by rw [mk_len, ← SZ_eq]; exact hl.2.2
          have hlong : ¬ j < 1 → (j == 1 || (mk a).length == 0) = false → Builtin.Str.tooLong ((mk a).length * j.toNat) = false := fun _ _ => by
            unfold Builtin.Str.tooLong
            exact decide_eq_false (by omega)
          refine PySem.P.mul_str (by
            have h1 : ¬ j < -(2 ^ 63 : Int) := by omega
            have h2 : ¬ j ≥ 2 ^ 63 := by omega
            rw [decide_eq_false h1, decide_eq_false h2]; rfl) (fun h1 h2 => ?_) hlong ?_
          · have hs2 : ((mk a).length : Int) * j ≤ 16777216 := by
              have h3 : (((mk a).length * j.toNat : Nat) : Int) ≤ ((16777216 : Nat) : Int) := Int.ofNat_le.mpr (by rw [← sizeLine_eq]; exact hsz)
              rw [Int.natCast_mul, Int.toNat_of_nonneg (by omega)] at h3
              exact h3
            have hj : 0 < j := by omega
            have h4 := Int.le_ediv_of_mul_le (a := ((mk a).length : Int)) (b := 2 ^ 63 - 1) hj (Int.le_trans hs2 (by decide))
            exact Int.not_lt.mpr h4
          · split
            · rename_i hj
              refine ⟨?_, fin _ _ _ ?_⟩
              · decide
              · unfold repL
                rw [show j.toNat = 0 by omega]
                rfl
            · split
              · rename_i hj h1
                show EP X pins σ Q _ s0
                have e1 : a = repL a j := by
                  unfold repL
                  rw [Bool.or_eq_true] at h1
                  rcases h1 with h1 | h1
                  · rw [beq_iff_eq] at h1
                    subst h1
                    simp
                  · rw [beq_iff_eq, mk_len] at h1
                    have : a = [] := List.length_eq_zero_iff.mp h1
                    subst this
                    simp
                rw [e1]
                exact ⟨.str _, H, I, ⟨_, rfl⟩, q.flat rfl (.str _)⟩
              · refine ⟨?_, fin _ _ _ ?_⟩
                · rw [strRep, mk_len, flatRep_len, ← mk_len]; exact hsz
                · exact strRep _ _
        · cases e
      | _ => cases e
    | _ => cases e
  | fdiv =>
    cases r1 with
    | int i =>
      cases r2 with
      | int j =>
        simp only [binD] at e
        split at e
        · rename_i hl
          cases e
          exact op_fdiv pins s0 σ H _ _ v u Q I rx ry ⟨i, j, rfl, rfl, hl, q.flat rfl (.int _)⟩
        · cases e
      | _ => cases e
    | _ => cases e
  | mod =>
    cases r1 with
    | int i =>
      cases r2 with
      | int j =>
        simp only [binD] at e
        split at e
        · rename_i hl
          cases e
          exact op_mod pins s0 σ H _ _ v u Q I rx ry ⟨i, j, rfl, rfl, hl, q.flat rfl (.int _)⟩
        · cases e
      | _ => cases e
    | _ => cases e
  | pow =>
    cases r1 with
    | int i =>
      cases r2 with
      | int j =>
        simp only [binD] at e
        split at e
        · rename_i hl
          cases e
          exact op_pow pins s0 σ H _ _ v u Q I rx ry ⟨i, j, rfl, rfl, hl, q.flat rfl (.int _)⟩
        · cases e
      | _ => cases e
    | _ => cases e
end
end G
end
section
set_option Elab.async false
set_option linter.all false
set_option maxRecDepth 100000
set_option maxHeartbeats 4000000
namespace G
open PySem PySem.Spec PyProof.Rows L2
mutual
theorem lay_of : ∀ (n : Nat) (d : D), okD n d = true → (pd d).canLay0 = true ∧ (pd d).depth ≤ n
  | n, .non, _ => by cases n <;> exact ⟨rfl, by simp [pd, PyData.depth]⟩
  | n, .bl b, _ => by cases n <;> exact ⟨rfl, by simp [pd, PyData.depth]⟩
  | n, .int i, _ => by cases n <;> exact ⟨rfl, by simp [pd, PyData.depth]⟩
  | n, .str x, h => by
    have h' : (x.all fun c => decide (c < 128)) = true := by cases n <;> exact h
    refine ⟨?_, by simp [pd, PyData.depth]⟩
    show PyData.strOk (mk x) = true
    unfold PyData.strOk mk
    simp only [List.all_toArray]
    rw [List.all_eq_true] at h' ⊢
    intro c hc
    have := of_decide_eq_true (h' c hc)
    exact decide_eq_true (by omega)
  | 0, .lst _, h => by cases h
  | 0, .tup _, h => by cases h
  | n + 1, .lst xs, h => by
    obtain ⟨a, b⟩ := lay_ofs n xs h
    exact ⟨by simpa [pd, PyData.canLay0] using a, by simp [pd, PyData.depth]; omega⟩
  | n + 1, .tup xs, h => by
    obtain ⟨a, b⟩ := lay_ofs n xs h
    exact ⟨by simpa [pd, PyData.canLay0] using a, by simp [pd, PyData.depth]; omega⟩
  | n, .dic _ _, h => by cases n <;> cases h
  | n, .ins _ _, h => by cases n <;> cases h
  | n, .scr _, h => by cases n <;> cases h
  | n, .exc _ _, h => by cases n <;> cases h
theorem lay_ofs : ∀ (n : Nat) (ds : List D), okDs n ds = true → PyData.canLayAll0 (pds ds) = true ∧ PyData.depthAll (pds ds) ≤ n
  | n, [], _ => ⟨by simp [pds, PyData.canLayAll0], by simp [pds, PyData.depthAll]⟩
  | n, d :: r, h => by
    have h' : (okD n d && okDs n r) = true := h
    obtain ⟨h1, h2⟩ := Bool.and_eq_true_iff.mp h'
    obtain ⟨a, b⟩ := lay_of n d h1
    obtain ⟨a', b'⟩ := lay_ofs n r h2
    exact ⟨by simp [pds, PyData.canLayAll0, a, a'], by simp [pds, PyData.depthAll]; omega⟩
end
theorem shaped_of {n : Nat} {d : D} (h : okD n d = true) (hn : n ≤ 64) : SeqAt.shaped (pd d) = true := by
  obtain ⟨a, b⟩ := lay_of n d h
  unfold SeqAt.shaped
  rw [a, decide_eq_true (by omega : (pd d).depth ≤ 64)]
  rfl
section
variable {W : Wd} {H : Hp} {P : Addr → Prop}
mutual
theorem Rp.dp : ∀ {n : Nat} {d : D} {v : V}, okD n d = true → Rp W H P d v → Dp W.K H v (pd d)
  | n, .non, v, _, r => by cases r; exact .non
  | n, .bl b, v, _, r => by cases r; exact .bl b
  | n, .int i, v, _, r => by cases r; exact .int i
  | n, .str x, v, _, r => by cases r; exact .str (mk x)
  | 0, .lst _, _, h, _ => by cases h
  | 0, .tup _, _, h, _ => by cases h
  | n + 1, .lst xs, v, h, r => by
    cases r with
    | lst h1 h2 h3 h4 => exact .lst (.of h1) (RpL.dp (n := n) h ⟨h3, h4⟩)
  | n + 1, .tup xs, v, h, r => by
    cases r with
    | tup h1 h3 h4 => exact .tup (.of h1) (RpL.dp (n := n) h ⟨h3, h4⟩)
  | n, .dic _ _, _, h, _ => by cases n <;> cases h
  | n, .ins _ _, _, h, _ => by cases n <;> cases h
  | n, .scr _, _, h, _ => by cases n <;> cases h
  | n, .exc _ _, _, h, _ => by cases n <;> cases h
theorem RpL.dp : ∀ {n : Nat} {ds : List D} {vs : List V}, okDs n ds = true → RpL W H P ds vs → DpAll W.K H vs (pds ds)
  | n, [], vs, _, r => by rw [r.un0]; exact .nil
  | n, d :: ds, vs, h, r => by
    obtain ⟨v, q, rfl, r1, r2⟩ := r.un
    have h' : (okD n d && okDs n ds) = true := h
    obtain ⟨h1, h2⟩ := Bool.and_eq_true_iff.mp h'
    exact .cons (Rp.dp h1 r1) (RpL.dp h2 r2)
end
end
/-! ### comparisons -/
section
variable {X : Cx} {W : Wd} {E : XK}
theorem okTup {ds : List D} (h : okDs 20 ds = true) : okD 21 (.tup ds) = true := h
theorem okLst {ds : List D} (h : okDs 20 ds = true) : okD 21 (.lst ds) = true := h
/-- == tells a bool, both ways -/
theorem eq_go (hK : X.K = W.K) (hu : X.A.units + 65 < cLine) {P : Addr → Prop} {da db : D} {c : Bool} (neg : Bool) {pins : List (Addr × Obj)} {s0 : Shared} {σ : L2.St} {H : Hp} {x y : V} {v u : Value} {Q : VK} (I : Inv X pins σ H s0) (rx : RelV x v) (ry : RelV y u)
    (r1 : Rp W H P da x) (r2 : Rp W H P db y) (e : eqD da db = .ok c) (q : Q (.bl (if neg then !c else c)) H) : wpAny (model X.prog X.w) X.A (compareOp (if neg then .NotEq else .Eq) v u) (EP X pins σ Q) X.xe s0 := by
  have scal_case : ∀ (x y : V), scal x y = true → RelV x v → RelV y u → decide (x = y) = c → wpAny (model X.prog X.w) X.A (compareOp (if neg then .NotEq else .Eq) v u) (EP X pins σ Q) X.xe s0 := fun x y hs rx ry hd => by
    cases neg with
    | false => exact op_eq pins s0 σ H _ _ v u Q I rx ry ⟨hs, by rw [hd]; exact q⟩
    | true => exact op_ne pins s0 σ H _ _ v u Q I rx ry ⟨hs, by rw [hd]; exact q⟩
  have deep : ∀ (da db : D), okD 21 da = true → okD 21 db = true → Rp W H P da x → Rp W H P db y → PyData.eqv (pd da) (pd db) = c → wpAny (model X.prog X.w) X.A (compareOp (if neg then .NotEq else .Eq) v u) (EP X pins σ Q) X.xe s0 := fun da db o1 o2 r1 r2 hd => by
    cases neg with
    | false => exact op_eqD (by omega) pins s0 σ H _ _ v u Q I rx ry ⟨pd da, pd db, hK ▸ r1.dp o1, hK ▸ r2.dp o2, shaped_of o1 (by decide), shaped_of o2 (by decide), by rw [hd]; exact q⟩
    | true => exact op_neD (by omega) pins s0 σ H _ _ v u Q I rx ry ⟨pd da, pd db, hK ▸ r1.dp o1, hK ▸ r2.dp o2, shaped_of o1 (by decide), shaped_of o2 (by decide), by rw [hd]; exact q⟩
  cases r1 with
  | non => cases r2 <;> first
      | (cases e; done)
      | (cases e; exact scal_case _ _ rfl rx ry (by simp))
  | bl b => cases r2 <;> first
      | (cases e; done)
      | (cases e; exact scal_case _ _ rfl rx ry (by simp))
  | int i => cases r2 <;> first
      | (cases e; done)
      | (cases e; exact scal_case _ _ rfl rx ry (by simp))
  | str a =>
    cases r2 with
    | str b =>
      cases e
      refine scal_case _ _ rfl rx ry ?_
      by_cases h : a = b
      · rw [h]; simp
      · rw [decide_eq_false h]
        exact decide_eq_false fun z => h (mk_inj (by injection z))
    | int j => cases e; exact scal_case _ _ rfl rx ry (by simp)
    | non => cases e; exact scal_case _ _ rfl rx ry (by simp)
    | _ => cases e
  | @lst a vs ds h1 h2 h3 h4 =>
    have r1 : Rp W H P (.lst ds) (.ref a) := .lst h1 h2 h3 h4
    cases r2 with
    | @lst b us es g1 g2 g3 g4 =>
      have r2 : Rp W H P (.lst es) (.ref b) := .lst g1 g2 g3 g4
      simp only [eqD] at e
      split at e
      · rename_i ho
        obtain ⟨o1, o2⟩ := Bool.and_eq_true_iff.mp ho
        cases e
        exact deep _ _ (okLst o1) (okLst o2) r1 r2 (by simp [pd, PyData.eqv])
      · cases e
    | @tup b us es g1 g3 g4 =>
      have r2 : Rp W H P (.tup es) (.ref b) := .tup g1 g3 g4
      simp only [eqD] at e
      split at e
      · rename_i ho
        obtain ⟨o1, o2⟩ := Bool.and_eq_true_iff.mp ho
        cases e
        exact deep _ _ (okLst o1) (okTup o2) r1 r2 (by simp [pd, PyData.eqv])
      · cases e
    | _ => cases e
  | @tup a vs ds h1 h3 h4 =>
    have r1 : Rp W H P (.tup ds) (.ref a) := .tup h1 h3 h4
    cases r2 with
    | @lst b us es g1 g2 g3 g4 =>
      have r2 : Rp W H P (.lst es) (.ref b) := .lst g1 g2 g3 g4
      simp only [eqD] at e
      split at e
      · rename_i ho
        obtain ⟨o1, o2⟩ := Bool.and_eq_true_iff.mp ho
        cases e
        exact deep _ _ (okTup o1) (okLst o2) r1 r2 (by simp [pd, PyData.eqv])
      · cases e
    | @tup b us es g1 g3 g4 =>
      have r2 : Rp W H P (.tup es) (.ref b) := .tup g1 g3 g4
      simp only [eqD] at e
      split at e
      · rename_i ho
        obtain ⟨o1, o2⟩ := Bool.and_eq_true_iff.mp ho
        cases e
        exact deep _ _ (okTup o1) (okTup o2) r1 r2 (by simp [pd, PyData.eqv])
      · cases e
    | _ => cases e
  | dicK => cases r2 <;> cases e
  | dicT => cases r2 <;> cases e
  | ins => cases r2 <;> cases e
  | scr => cases r2 <;> cases e
end
end G
end
section
set_option Elab.async false
set_option linter.all false
set_option maxRecDepth 100000
set_option maxHeartbeats 4000000
namespace G
open PySem PySem.Spec PyProof.Rows L2
/-! ### keys -/
section
variable {W : Wd} {H : Hp} {P : Addr → Prop}
def PairR {κ : Type} (KR : DK → κ → Prop) (R : D → V → Prop) (ds : List (DK × D)) (kvs : List (κ × V)) : Prop :=
  ds.length = kvs.length ∧ (∀ (i : Nat) d v, ds[i]? = some d → kvs[i]? = some v → KR d.1 v.1) ∧ ∀ (i : Nat) d v, ds[i]? = some d → kvs[i]? = some v → R d.2 v.2
theorem PairR.un {κ : Type} {KR : DK → κ → Prop} {R : D → V → Prop} {d : DK × D} {ds : List (DK × D)} {kvs : List (κ × V)} (h : PairR KR R (d :: ds) kvs) : ∃ v r, kvs = v :: r ∧ KR d.1 v.1 ∧ R d.2 v.2 ∧ PairR KR R ds r := by
  obtain ⟨hl, h1, h2⟩ := h
  cases kvs with
  | nil => simp at hl
  | cons v r => exact ⟨v, r, rfl, h1 0 d v rfl rfl, h2 0 d v rfl rfl, by simpa using hl, fun i e u he hu => h1 (i + 1) e u (by simpa using he) (by simpa using hu), fun i e u he hu => h2 (i + 1) e u (by simpa using he) (by simpa using hu)⟩
theorem PairR.nil {κ : Type} {KR : DK → κ → Prop} {R : D → V → Prop} : PairR KR R [] ([] : List (κ × V)) := ⟨rfl, fun i d v h => by simp at h, fun i d v h => by simp at h⟩
theorem PairR.cons {κ : Type} {KR : DK → κ → Prop} {R : D → V → Prop} {d : DK × D} {v : κ × V} {ds : List (DK × D)} {kvs : List (κ × V)} (h1 : KR d.1 v.1) (h2 : R d.2 v.2) (t : PairR KR R ds kvs) : PairR KR R (d :: ds) (v :: kvs) := by
  refine ⟨by simp [t.1], fun i e u he hu => ?_, fun i e u he hu => ?_⟩
  · cases i with
    | zero => simp at he hu; rw [← he, ← hu]; exact h1
    | succ i => exact t.2.1 i e u (by simpa using he) (by simpa using hu)
  · cases i with
    | zero => simp at he hu; rw [← he, ← hu]; exact h2
    | succ i => exact t.2.2 i e u (by simpa using he) (by simpa using hu)
theorem PairR.un0 {κ : Type} {KR : DK → κ → Prop} {R : D → V → Prop} {kvs : List (κ × V)} (h : PairR KR R [] kvs) : kvs = [] := List.length_eq_zero_iff.mp h.1.symm
/-- two keys are one where their values are -/
def Inj1 {κ : Type} (KR : DK → κ → Prop) : Prop := ∀ a b k l, KR a k → KR b l → (k = l ↔ a = b)
theorem getK_cons (kv : DK × D) (r : List (DK × D)) (k : DK) : getK (kv :: r) k = if kv.1 = k then some kv.2 else getK r k := by
  unfold getK
  by_cases h : kv.1 = k
  · simp [List.find?_cons, h]
  · simp [List.find?_cons, h]
theorem valV_cons {κ : Type} [DecidableEq κ] (kv : κ × V) (r : List (κ × V)) (k : κ) : valV (kv :: r) k = if kv.1 = k then some kv.2 else valV r k := by
  by_cases h : kv.1 = k
  · rw [if_pos h, valV_pos h]
  · rw [if_neg h, valV_neg h]
theorem PairR.get {κ : Type} [DecidableEq κ] {KR : DK → κ → Prop} {R : D → V → Prop} (hi : Inj1 KR) {k : DK} {kk : κ} (hk : KR k kk) : ∀ {ds : List (DK × D)} {kvs : List (κ × V)}, PairR KR R ds kvs →
    (∀ d, getK ds k = some d → ∃ v, valV kvs kk = some v ∧ R d v) ∧ (getK ds k = none → valV kvs kk = none)
  | [], kvs, h => by rw [h.un0]; exact ⟨fun d z => (by cases z), fun _ => rfl⟩
  | d :: ds, kvs, h => by
    obtain ⟨v, r, rfl, h1, h2, h3⟩ := h.un
    have ih := PairR.get hi hk h3
    rw [getK_cons, valV_cons]
    by_cases e : d.1 = k
    · rw [if_pos e, if_pos ((hi _ _ _ _ h1 hk).mpr e)]
      exact ⟨fun d z => by cases z; exact ⟨_, rfl, h2⟩, fun z => by cases z⟩
    · rw [if_neg e, if_neg fun z => e ((hi _ _ _ _ h1 hk).mp z)]
      exact ih
theorem PairR.map {κ : Type} [DecidableEq κ] {KR : DK → κ → Prop} {R : D → V → Prop} (hi : Inj1 KR) {k : DK} {kk : κ} (hk : KR k kk) {d : D} {v : V} (hv : R d v) : ∀ {ds : List (DK × D)} {kvs : List (κ × V)}, PairR KR R ds kvs →
    PairR KR R (ds.map fun kv => if kv.1 = k then (kv.1, d) else kv) (kvs.map fun kv => if kv.1 = kk then (kv.1, v) else kv)
  | [], kvs, h => by rw [h.un0]; exact .nil
  | e :: ds, kvs, h => by
    obtain ⟨u, r, rfl, h1, h2, h3⟩ := h.un
    rw [List.map_cons, List.map_cons]
    refine PairR.cons ?_ ?_ (PairR.map hi hk hv h3)
    · by_cases q : e.1 = k
      · rw [if_pos q, if_pos ((hi _ _ _ _ h1 hk).mpr q)]; exact h1
      · rw [if_neg q, if_neg fun z => q ((hi _ _ _ _ h1 hk).mp z)]; exact h1
    · by_cases q : e.1 = k
      · rw [if_pos q, if_pos ((hi _ _ _ _ h1 hk).mpr q)]; exact hv
      · rw [if_neg q, if_neg fun z => q ((hi _ _ _ _ h1 hk).mp z)]; exact h2
theorem PairR.snoc {κ : Type} {KR : DK → κ → Prop} {R : D → V → Prop} {k : DK} {kk : κ} (hk : KR k kk) {d : D} {v : V} (hv : R d v) : ∀ {ds : List (DK × D)} {kvs : List (κ × V)}, PairR KR R ds kvs → PairR KR R (ds ++ [(k, d)]) (kvs ++ [(kk, v)])
  | [], kvs, h => by rw [h.un0]; exact .cons hk hv .nil
  | e :: ds, kvs, h => by
    obtain ⟨u, r, rfl, h1, h2, h3⟩ := h.un
    exact .cons h1 h2 (PairR.snoc hk hv h3)
theorem any_getK (k : DK) : ∀ ds : List (DK × D), (ds.any fun kv => decide (kv.1 = k)) = (getK ds k).isSome
  | [] => rfl
  | d :: r => by
    rw [List.any_cons, getK_cons, any_getK k r]
    by_cases e : d.1 = k
    · simp [e]
    · simp [e]
theorem PairR.put {κ : Type} [DecidableEq κ] {KR : DK → κ → Prop} {R : D → V → Prop} (hi : Inj1 KR) {k : DK} {kk : κ} (hk : KR k kk) {d : D} {v : V} (hv : R d v) {ds : List (DK × D)} {kvs : List (κ × V)} (h : PairR KR R ds kvs) :
    PairR KR R (putK ds k d) (L2.putK kvs kk v) := by
  obtain ⟨g1, g2⟩ := h.get hi hk
  unfold putK L2.putK
  rw [any_getK, L2.valV_any]
  cases e : getK ds k with
  | none =>
    rw [g2 e]
    exact h.snoc hk hv
  | some x =>
    obtain ⟨y, hy, _⟩ := g1 x e
    rw [hy]
    exact h.map hi hk hv
theorem injK : Inj1 KeyK := fun _ _ _ _ h h' => h.inj h'
theorem injT : Inj1 KeyT := fun _ _ _ _ h h' => h.inj h'
/-- a flat value as a key -/
theorem toK_flat {k : D} {kk : DK} {v : V} (e : toK false k = some kk) (r : Rp W H P k v) : ∃ q, KeyK kk q ∧ v = kV q := by
  cases r with
  | int i => cases e; exact ⟨_, .i i, rfl⟩
  | str x => cases e; exact ⟨_, .s x, rfl⟩
  | _ => cases e
theorem flatKs_go : ∀ {ds : List D} {vs : List V} {ks : List (Sum Int (List Nat))}, flatKs ds = some ks → RpL W H P ds vs → vs = (ks.map keyS).map kV
  | [], vs, ks, e, r => by cases e; rw [r.un0]; rfl
  | d :: ds, vs, ks, e, r => by
    obtain ⟨v, q, rfl, r1, r2⟩ := r.un
    unfold flatKs at e
    cases e1 : flatK d with
    | none => rw [e1] at e; cases e
    | some k =>
      cases e2 : flatKs ds with
      | none => rw [e1, e2] at e; cases e
      | some ks' =>
        rw [e1, e2] at e
        cases e
        rw [List.map_cons, List.map_cons, ← flatKs_go e2 r2]
        congr 1
        cases r1 with
        | int i => cases e1; rfl
        | str x => cases e1; rfl
        | _ => cases e1
theorem toK_tup {k : D} {kk : DK} {v : V} (e : toK true k = some kk) (r : Rp W H P k v) : ∃ q b, KeyT kk q ∧ v = .ref b ∧ H b = some (.tup (q.map kV)) := by
  cases r with
  | @tup a vs ds h1 h3 h4 =>
    obtain ⟨ks, e1, e2⟩ := Option.map_eq_some_iff.mp (show (flatKs ds).map DK.t = some kk from e)
    subst e2
    refine ⟨_, a, .t ks, rfl, ?_⟩
    rw [← flatKs_go e1 ⟨h3, h4⟩]
    exact h1
  | _ => cases e
/-- what a dict holds -/
theorem dic_get {t : Bool} {ds : List (DK × D)} {k : D} {kk : DK} {x y : V} (r : Rp W H P (.dic t ds) x) (rk : Rp W H P k y) (e : toK t k = some kk) :
    ∃ a o, x = .ref a ∧ DGet H a y o ∧ (∀ d, getK ds kk = some d → ∃ v, o = some v ∧ Rp W H P d v) ∧ (getK ds kk = none → o = none) := by
  cases r with
  | dicK h1 h2 h3 h4 h5 =>
    obtain ⟨q, kq, rfl⟩ := toK_flat e rk
    obtain ⟨g1, g2⟩ := PairR.get injK kq (show PairR KeyK (Rp W H P) ds _ from ⟨h3, h4, h5⟩)
    exact ⟨_, _, rfl, .inl ⟨_, q, h1, rfl, rfl⟩, g1, g2⟩
  | dicT h1 h2 h3 h4 h5 =>
    obtain ⟨q, b, kq, rfl, hb⟩ := toK_tup e rk
    obtain ⟨g1, g2⟩ := PairR.get injT kq (show PairR KeyT (Rp W H P) ds _ from ⟨h3, h4, h5⟩)
    exact ⟨_, _, rfl, .inr ⟨_, q, b, h1, rfl, hb, rfl⟩, g1, g2⟩
end
/-! ### any comparison -/
theorem eqV_eqv : ∀ {W : Wd} {H : Hp} {P : Addr → Prop} {a b : D} {x y : V}, flatD a = true → flatD b = true → Rp W H P a x → Rp W H P b y → eqV x y = PyData.eqv (pd a) (pd b) ∧ flatV x = true ∧ flatV y = true := by
  intro W H P a b x y f1 f2 r1 r2
  cases r1 <;> first
    | (cases f1; done)
    | (cases r2 <;> first
      | (cases f2; done)
      | (refine ⟨?_, rfl, rfl⟩; simp [eqV, pd, PyData.eqv, mk]))
theorem inV_any {W : Wd} {H : Hp} {P : Addr → Prop} {a : D} {x : V} (f1 : flatD a = true) (r1 : Rp W H P a x) : ∀ {ds : List D} {vs : List V}, ds.all flatD = true → RpL W H P ds vs → inV x vs = (ds.any fun y => PyData.eqv (pd y) (pd a)) ∧ vs.all flatV = true
  | [], vs, _, r => by rw [r.un0]; exact ⟨rfl, rfl⟩
  | d :: ds, vs, f, r => by
    obtain ⟨v, q, rfl, r2, r3⟩ := r.un
    obtain ⟨f2, f3⟩ := Bool.and_eq_true_iff.mp (show (flatD d && ds.all flatD) = true by simpa using f)
    obtain ⟨i1, i2⟩ := inV_any f1 r1 f3 r3
    obtain ⟨e1, e2, e3⟩ := eqV_eqv f2 f1 r2 r1
    refine ⟨?_, by simp [e2, i2]⟩
    unfold inV at i1 ⊢
    rw [List.any_cons, List.any_cons, e1, i1]
theorem eqv_any_pds (x : PyData) : ∀ ds : List D, ((pds ds).any fun z => PyData.eqv z x) = ds.any fun y => PyData.eqv (pd y) x
  | [] => rfl
  | d :: r => by rw [pds, List.any_cons, List.any_cons, eqv_any_pds x r]
section
variable {X : Cx} {W : Wd}
def rCmp (W : Wd) (op : CO) : R2 := fun x y H Q => ∃ P da db c, Rp W H P da x ∧ Rp W H P db y ∧ cmpD op da db = .ok c ∧ Q (.bl c) H
theorem inD_ok {x : D} {ys : List D} {c : Bool} (e : inD x ys = .ok c) : okD 20 x = true ∧ okDs 20 ys = true ∧ c = ys.any fun y => PyData.eqv (pd y) (pd x) := by
  unfold inD at e
  split at e
  · rename_i h
    obtain ⟨h1, h2⟩ := Bool.and_eq_true_iff.mp h
    cases e
    exact ⟨h1, h2, rfl⟩
  · cases e
theorem op_cmp (hK : X.K = W.K) (hu : X.A.units + 65 < cLine) (op : CO) : OpR X (compareOp (coE op)) (rCmp W op) := by
  intro pins s0 σ H x y v u Q I rx ry h
  obtain ⟨P, da, db, c, r1, r2, e, q⟩ := h
  have notin_inv : ∀ {r : R Bool}, (r.bind fun c => R.ok (!c)) = .ok c → ∃ c', r = .ok c' ∧ c = !c' := fun {r} h => by
    obtain ⟨c', e1, e2⟩ := bind_inv h
    cases e2
    exact ⟨c', e1, rfl⟩
  cases op with
  | eq => exact eq_go hK hu false I rx ry r1 r2 e q
  | ne =>
    obtain ⟨c', e1, rfl⟩ := notin_inv e
    exact eq_go hK hu true I rx ry r1 r2 e1 q
  | lt =>
    cases r1 with
    | int i =>
      cases r2 with
      | int j => cases e; exact op_lt pins s0 σ H _ _ v u Q I rx ry ⟨i, j, rfl, rfl, q⟩
      | _ => cases e
    | _ => cases r2 <;> cases e
  | le =>
    cases r1 with
    | int i =>
      cases r2 with
      | int j => cases e; exact op_le pins s0 σ H _ _ v u Q I rx ry ⟨i, j, rfl, rfl, q⟩
      | _ => cases e
    | _ => cases r2 <;> cases e
  | gt =>
    cases r1 with
    | int i =>
      cases r2 with
      | int j => cases e; exact op_gt pins s0 σ H _ _ v u Q I rx ry ⟨i, j, rfl, rfl, q⟩
      | _ => cases e
    | _ => cases r2 <;> cases e
  | ge =>
    cases r1 with
    | int i =>
      cases r2 with
      | int j => cases e; exact op_ge pins s0 σ H _ _ v u Q I rx ry ⟨i, j, rfl, rfl, q⟩
      | _ => cases e
    | _ => cases r2 <;> cases e
  | is =>
    cases r2 with
    | non =>
      refine op_isN pins s0 σ H _ _ v u Q I rx ry ⟨rfl, ?_⟩
      cases r1 <;> (cases e; simpa using q)
    | _ => cases da <;> cases e
  | isnot =>
    cases r2 with
    | non =>
      refine op_notN pins s0 σ H _ _ v u Q I rx ry ⟨rfl, ?_⟩
      cases r1 <;> (cases e; simpa using q)
    | _ => cases da <;> cases e
  | isin =>
    cases r2 with
    | @lst b us es g1 g2 g3 g4 =>
      have r2 : Rp W H P (.lst es) (.ref b) := .lst g1 g2 g3 g4
      have e' : inD da es = .ok c := by cases da <;> exact e
      obtain ⟨o1, o2, rfl⟩ := inD_ok e'
      refine op_inD (by omega) pins s0 σ H _ _ v u Q I rx ry ⟨pd da, pds es, hK ▸ r1.dp o1, hK ▸ r2.dp (okLst o2), shaped_of o1 (by decide), shaped_of (okLst o2) (by decide), ?_⟩
      rw [eqv_any_pds]; exact q
    | @tup b us es g1 g3 g4 =>
      have e' : (if flatD da && es.all flatD then inD da es else .bad) = .ok c := by cases da <;> exact e
      split at e'
      · rename_i hf
        obtain ⟨f1, f2⟩ := Bool.and_eq_true_iff.mp hf
        obtain ⟨o1, o2, rfl⟩ := inD_ok e'
        obtain ⟨i1, i2⟩ := inV_any f1 r1 f2 ⟨g3, g4⟩
        refine op_in_seq pins s0 σ H _ _ v u Q I rx ry ⟨b, us, rfl, .inr (.of g1), ?_, i2, ?_⟩
        · cases r1 <;> first | rfl | cases f1
        · show Q (.bl (inV x us)) H
          rw [i1]; exact q
      · cases e'
    | str z =>
      cases r1 with
      | str a =>
        match a, e with
        | [n], e =>
          cases e
          refine op_in_sign pins s0 σ H _ _ v u Q I rx ry ⟨n, mk z, rfl, rfl, ?_⟩
          rw [mk_toList]; exact q
        | [], e => cases e
        | _ :: _ :: _, e => cases e
      | _ => cases e
    | @dicK b kvs ds g1 g2 g3 g4 g5 =>
      have r2 : Rp W H P (.dic false ds) (.ref b) := .dicK g1 g2 g3 g4 g5
      have e' : ((R.of (toK false da)).bind fun k => R.ok (getK ds k).isSome) = .ok c := by cases da <;> exact e
      obtain ⟨kk, e1, e2⟩ := bind_inv e'
      cases e2
      obtain ⟨a, o, ea, g, h1, h2⟩ := dic_get r2 r1 (R.of_ok e1)
      cases ea
      obtain rfl : u = Value.ref b := ry
      refine d_in (by omega) I g rx fun s' I' => ⟨.bl o.isSome, H, I', rfl, ?_⟩
      cases hq : getK ds kk with
      | none => rw [h2 hq]; rw [hq] at q; exact q
      | some d => obtain ⟨v', e3, _⟩ := h1 d hq; rw [e3]; rw [hq] at q; exact q
    | @dicT b kvs ds g1 g2 g3 g4 g5 =>
      have r2 : Rp W H P (.dic true ds) (.ref b) := .dicT g1 g2 g3 g4 g5
      have e' : ((R.of (toK true da)).bind fun k => R.ok (getK ds k).isSome) = .ok c := by cases da <;> exact e
      obtain ⟨kk, e1, e2⟩ := bind_inv e'
      cases e2
      obtain ⟨a, o, ea, g, h1, h2⟩ := dic_get r2 r1 (R.of_ok e1)
      cases ea
      obtain rfl : u = Value.ref b := ry
      refine d_in (by omega) I g rx fun s' I' => ⟨.bl o.isSome, H, I', rfl, ?_⟩
      cases hq : getK ds kk with
      | none => rw [h2 hq]; rw [hq] at q; exact q
      | some d => obtain ⟨v', e3, _⟩ := h1 d hq; rw [e3]; rw [hq] at q; exact q
    | _ => cases r1 <;> first | (cases e; done) | (rename_i a; match a, e with | [], e => cases e | [_], e => cases e | _ :: _ :: _, e => cases e)
  | notin =>
    cases r2 with
    | @lst b us es g1 g2 g3 g4 =>
      have r2 : Rp W H P (.lst es) (.ref b) := .lst g1 g2 g3 g4
      have e' : ((inD da es).bind fun c => R.ok (!c)) = .ok c := by cases da <;> exact e
      obtain ⟨c', e1, rfl⟩ := notin_inv e'
      obtain ⟨o1, o2, rfl⟩ := inD_ok e1
      refine op_notInD (by omega) pins s0 σ H _ _ v u Q I rx ry ⟨pd da, pds es, hK ▸ r1.dp o1, hK ▸ r2.dp (okLst o2), shaped_of o1 (by decide), shaped_of (okLst o2) (by decide), ?_⟩
      rw [eqv_any_pds]; exact q
    | @tup b us es g1 g3 g4 =>
      have e' : (if flatD da && es.all flatD then (inD da es).bind fun c => R.ok (!c) else .bad) = .ok c := by cases da <;> exact e
      split at e'
      · rename_i hf
        obtain ⟨f1, f2⟩ := Bool.and_eq_true_iff.mp hf
        obtain ⟨c', e1, rfl⟩ := notin_inv e'
        obtain ⟨o1, o2, rfl⟩ := inD_ok e1
        obtain ⟨i1, i2⟩ := inV_any f1 r1 f2 ⟨g3, g4⟩
        refine op_notIn_seq pins s0 σ H _ _ v u Q I rx ry ⟨b, us, rfl, .inr (.of g1), ?_, i2, ?_⟩
        · cases r1 <;> first | rfl | cases f1
        · show Q (.bl (!inV x us)) H
          rw [i1]; exact q
      · cases e'
    | str z =>
      cases r1 with
      | str a =>
        match a, e with
        | [n], e =>
          cases e
          refine op_notIn_sign pins s0 σ H _ _ v u Q I rx ry ⟨n, mk z, rfl, rfl, ?_⟩
          rw [mk_toList]; exact q
        | [], e => cases e
        | _ :: _ :: _, e => cases e
      | _ => cases e
    | @dicK b kvs ds g1 g2 g3 g4 g5 =>
      have r2 : Rp W H P (.dic false ds) (.ref b) := .dicK g1 g2 g3 g4 g5
      have e' : ((R.of (toK false da)).bind fun k => R.ok (!(getK ds k).isSome)) = .ok c := by cases da <;> exact e
      obtain ⟨kk, e1, e2⟩ := bind_inv e'
      cases e2
      obtain ⟨a, o, ea, g, h1, h2⟩ := dic_get r2 r1 (R.of_ok e1)
      cases ea
      obtain rfl : u = Value.ref b := ry
      refine d_notIn (by omega) I g rx fun s' I' => ⟨.bl (!o.isSome), H, I', rfl, ?_⟩
      cases hq : getK ds kk with
      | none => rw [h2 hq]; rw [hq] at q; exact q
      | some d => obtain ⟨v', e3, _⟩ := h1 d hq; rw [e3]; rw [hq] at q; exact q
    | @dicT b kvs ds g1 g2 g3 g4 g5 =>
      have r2 : Rp W H P (.dic true ds) (.ref b) := .dicT g1 g2 g3 g4 g5
      have e' : ((R.of (toK true da)).bind fun k => R.ok (!(getK ds k).isSome)) = .ok c := by cases da <;> exact e
      obtain ⟨kk, e1, e2⟩ := bind_inv e'
      cases e2
      obtain ⟨a, o, ea, g, h1, h2⟩ := dic_get r2 r1 (R.of_ok e1)
      cases ea
      obtain rfl : u = Value.ref b := ry
      refine d_notIn (by omega) I g rx fun s' I' => ⟨.bl (!o.isSome), H, I', rfl, ?_⟩
      cases hq : getK ds kk with
      | none => rw [h2 hq]; rw [hq] at q; exact q
      | some d => obtain ⟨v', e3, _⟩ := h1 d hq; rw [e3]; rw [hq] at q; exact q
    | _ => cases r1 <;> first | (cases e; done) | (rename_i a; match a, e with | [], e => cases e | [_], e => cases e | _ :: _ :: _, e => cases e)
end
/-! ### pairs laid into a dict -/
theorem merge_rel {R : D → V → Prop} : ∀ {kds : List (DK × D)} {rs : List (Key × V)} {ds : List (DK × D)} {vs : List (Key × V)}, PairR KeyK R kds rs → PairR KeyK R ds vs → PairR KeyK R (kds.foldl (fun acc kv => putK acc kv.1 kv.2) ds) (mergeK vs rs)
  | [], rs, ds, vs, h, h' => by rw [h.un0]; exact h'
  | kd :: kds, rs, ds, vs, h, h' => by
    obtain ⟨v, r, rfl, h1, h2, h3⟩ := h.un
    have go := merge_rel (kds := kds) (rs := r) h3 (h'.put injK h1 h2)
    exact go
theorem pairs_rel {W : Wd} {H : Hp} {P : Addr → Prop} : ∀ {ds : List D} {kds : List (DK × D)} {vs : List V}, pairsD ds = some kds → RpL W H P ds vs →
    ∃ (ps : List Addr) (kvs : List (Key × V)), vs = ps.map V.ref ∧ Paired (fun p kv => H p = some (.tup [kV kv.1, kv.2])) ps kvs ∧ PairR KeyK (Rp W H P) kds kvs
  | [], kds, vs, h, r => by
    cases h
    exact ⟨[], [], r.un0, .nil, .nil⟩
  | d :: ds, kds, vs, h, r => by
    obtain ⟨v, q, rfl, r1, r2⟩ := r.un
    unfold pairsD at h
    cases h1 : pairD d with
    | none => rw [h1] at h; cases h
    | some kd =>
      cases h2 : pairsD ds with
      | none => rw [h1, h2] at h; cases h
      | some kr =>
        rw [h1, h2] at h
        cases h
        obtain ⟨ps, kvs, rfl, e2, e3⟩ := pairs_rel h2 r2
        unfold pairD at h1
        split at h1
        · rename_i x y
          cases h3 : toK false x with
          | none => rw [h3] at h1; cases h1
          | some kk =>
            rw [h3] at h1
            cases h1
            cases r1 with
            | tup g1 g2 g3 =>
              obtain ⟨u, q', rfl, z1, z2⟩ := RpL.un (show RpL W H P [x, y] _ from ⟨g2, g3⟩)
              obtain ⟨w, q'', rfl, z3, z4⟩ := z2.un
              obtain rfl := z4.un0
              obtain ⟨key, hk, rfl⟩ := toK_flat h3 z1
              exact ⟨_ :: ps, (key, w) :: kvs, rfl, .cons g1 e2, .cons hk z3 e3⟩
        · cases h1
end G
end
section
set_option Elab.async false
set_option linter.all false
set_option maxRecDepth 100000
set_option maxHeartbeats 4000000
namespace G
open PySem PySem.Spec PyProof.Rows L2
section
variable {W : Wd} {H : Hp} {P : Addr → Prop}
theorem RpL.at_ {ds : List D} {vs : List V} (r : RpL W H P ds vs) {k : Int} {d : D} (e : atI ds k = some d) : ∃ v, atI vs k = some v ∧ Rp W H P d v := by
  unfold atI at e ⊢
  rw [← r.1]
  cases h : ixN ds.length k with
  | none => rw [h] at e; cases e
  | some j =>
    rw [h] at e
    obtain ⟨v, e1, e2⟩ := r.get (show ds[j]? = some d from e)
    exact ⟨v, e1, e2⟩
theorem atI_map {α β : Type} (f : α → β) (xs : List α) (k : Int) : atI (xs.map f) k = (atI xs k).map f := by
  unfold atI
  rw [List.length_map]
  cases ixN xs.length k with
  | none => rfl
  | some j => simp
theorem RpL.cut {ds : List D} {vs : List V} (r : RpL W H P ds vs) (lo hi : Option Int) : RpL W H P (G.cut ds lo hi) (cutV vs lo hi) := by
  unfold G.cut cutV
  rw [r.1]
  exact (r.drop _).take _
theorem cut_map {α β : Type} (f : α → β) (xs : List α) (lo hi : Option Int) : (G.cut xs lo hi).map f = G.cut (xs.map f) lo hi := by
  unfold G.cut
  rw [List.length_map, List.map_take, List.map_drop]
theorem rpl_ints : ∀ ns : List Int, RpL W H P (ns.map D.int) (ns.map V.int)
  | [] => .nil
  | n :: r => .cons (.int n) (rpl_ints r)
theorem rpl_strs : ∀ ns : List (List Nat), RpL W H P (ns.map D.str) ((ns.map mk).map V.str)
  | [] => .nil
  | n :: r => .cons (.str n) (rpl_strs r)
theorem strs_of : ∀ {ds : List D} {zs : List (List Nat)}, strsOf ds = some zs → ds = zs.map D.str
  | [], zs, e => by cases e; rfl
  | d :: ds, zs, e => by
    cases d with
    | str x =>
      obtain ⟨q, e1, e2⟩ := Option.map_eq_some_iff.mp (show (strsOf ds).map (x :: ·) = some zs from e)
      rw [← e2, strs_of e1]; rfl
    | _ => cases e
theorem bls_of : ∀ {ds : List D} {zs : List Bool}, blsOf ds = some zs → ds = zs.map D.bl
  | [], zs, e => by cases e; rfl
  | d :: ds, zs, e => by
    cases d with
    | bl x =>
      obtain ⟨q, e1, e2⟩ := Option.map_eq_some_iff.mp (show (blsOf ds).map (x :: ·) = some zs from e)
      rw [← e2, bls_of e1]; rfl
    | _ => cases e
theorem ints_of : ∀ {ds : List D} {zs : List Int}, intsOf ds = some zs → ds = zs.map D.int
  | [], zs, e => by cases e; rfl
  | d :: ds, zs, e => by
    cases d with
    | int x =>
      obtain ⟨q, e1, e2⟩ := Option.map_eq_some_iff.mp (show (intsOf ds).map (x :: ·) = some zs from e)
      rw [← e2, ints_of e1]; rfl
    | _ => cases e
theorem rpl_strs_inv : ∀ {zs : List (List Nat)} {vs : List V}, RpL W H P (zs.map D.str) vs → vs = (zs.map mk).map V.str
  | [], vs, r => by rw [r.un0]; rfl
  | z :: zs, vs, r => by
    obtain ⟨v, q, rfl, r1, r2⟩ := r.un
    rw [rpl_strs_inv r2]
    cases r1
    rfl
theorem rpl_bls_inv : ∀ {zs : List Bool} {vs : List V}, RpL W H P (zs.map D.bl) vs → vs = zs.map V.bl
  | [], vs, r => by rw [r.un0]; rfl
  | z :: zs, vs, r => by
    obtain ⟨v, q, rfl, r1, r2⟩ := r.un
    rw [rpl_bls_inv r2]
    cases r1
    rfl
theorem rpl_ints_inv : ∀ {zs : List Int} {vs : List V}, RpL W H P (zs.map D.int) vs → vs = zs.map V.int
  | [], vs, r => by rw [r.un0]; rfl
  | z :: zs, vs, r => by
    obtain ⟨v, q, rfl, r1, r2⟩ := r.un
    rw [rpl_ints_inv r2]
    cases r1
    rfl
end
section
variable {X : Cx} {W : Wd}
def rIxD (W : Wd) : R2 := fun x y H Q => ∃ P da db d, Rp W H P da x ∧ Rp W H P db y ∧ ixD da db = .ok d ∧ Res W H P .sh d Q
theorem ix_any (hK : X.K = W.K) (hu : X.A.units + 65 < cLine) : IxR X (rIxD W) := by
  intro value slice pins s0 σ H x y v u Q I rx ry h hs
  obtain ⟨P, da, db, d, r1, r2, e, q⟩ := h
  cases r1 with
  | @lst a vs ds h1 h2 h3 h4 =>
    cases r2 with
    | int k =>
      obtain ⟨w, e1, e2⟩ := RpL.at_ ⟨h3, h4⟩ (R.of_ok e)
      exact ix_list value slice pins s0 σ H _ _ v u Q I rx ry ⟨a, vs, k, w, rfl, rfl, .of h1, e1, q.old e2⟩ hs
    | _ => cases e
  | @tup a vs ds h1 h3 h4 =>
    cases r2 with
    | int k =>
      obtain ⟨w, e1, e2⟩ := RpL.at_ ⟨h3, h4⟩ (R.of_ok e)
      exact ix_tup value slice pins s0 σ H _ _ v u Q I rx ry ⟨a, vs, k, w, rfl, rfl, .of h1, e1, q.old e2⟩ hs
    | _ => cases e
  | @scr a ns h =>
    cases r2 with
    | int k =>
      obtain ⟨n, e1, e2⟩ := bind_inv (show (R.of (atI ns k)).bind _ = _ from e)
      cases e2
      exact ix_list value slice pins s0 σ H _ _ v u Q I rx ry ⟨a, _, k, .int n, rfl, rfl, hK ▸ h.sq, by rw [atI_map, R.of_ok e1]; rfl, q.flat rfl (.int n)⟩ hs
    | _ => cases e
  | str z =>
    cases r2 with
    | int k =>
      simp only [ixD] at e
      split at e
      · rename_i hz
        obtain ⟨n, e1, e2⟩ := bind_inv e
        cases e2
        refine ix_str value slice pins s0 σ H _ _ v u Q I rx ry ⟨mk z, k, n, rfl, rfl, ?_, ?_, q.flat rfl (.str [n])⟩ hs
        · rw [mk_len, ← SZ_eq]; exact hz
        · rw [mk_toList]; exact R.of_ok e1
      · cases e
    | _ => cases e
  | @dicK a kvs ds g1 g2 g3 g4 g5 =>
    have rr : Rp W H P (.dic false ds) (.ref a) := .dicK g1 g2 g3 g4 g5
    obtain ⟨kk, e1, e2⟩ := bind_inv (show (R.of (toK false db)).bind (fun k => R.of (getK ds k)) = .ok d from by cases db <;> exact e)
    obtain ⟨b, o, ea, g, h1, h2⟩ := dic_get rr r2 (R.of_ok e1)
    cases ea
    obtain ⟨w, e3, e4⟩ := h1 d (R.of_ok e2)
    subst e3
    obtain rfl : v = Value.ref a := rx
    exact tail_any (dict_typeIs I g) PySem.F.slot_dict_getitem.lookup (d_getItem (by omega) I g ry fun w' s' I' rw' => ⟨w, H, I', rw', q.old e4⟩) hs
  | @dicT a kvs ds g1 g2 g3 g4 g5 =>
    have rr : Rp W H P (.dic true ds) (.ref a) := .dicT g1 g2 g3 g4 g5
    obtain ⟨kk, e1, e2⟩ := bind_inv (show (R.of (toK true db)).bind (fun k => R.of (getK ds k)) = .ok d from by cases db <;> exact e)
    obtain ⟨b, o, ea, g, h1, h2⟩ := dic_get rr r2 (R.of_ok e1)
    cases ea
    obtain ⟨w, e3, e4⟩ := h1 d (R.of_ok e2)
    subst e3
    obtain rfl : v = Value.ref a := rx
    exact tail_any (dict_typeIs I g) PySem.F.slot_dict_getitem.lookup (d_getItem (by omega) I g ry fun w' s' I' rw' => ⟨w, H, I', rw', q.old e4⟩) hs
  | _ => cases e
def rSlD (W : Wd) (s : S) : V → Option Int → Option Int → Hp → VK → Prop := fun x lo hi H Q => ∃ P da d, Rp W H P da x ∧ slD da lo hi = .ok d ∧ Res W H P s d Q
theorem sl_any (hK : X.K = W.K) {s : S} (hs : sOk s) : SlR X (rSlD W s) := by
  intro pins s0 σ H x v vl vu lo hi sl Q I rx hsl pl pu h
  obtain ⟨P, da, d, r1, e, q⟩ := h
  cases r1 with
  | @lst a vs ds h1 h2 h3 h4 =>
    cases e
    exact sl_list pins s0 σ H _ v vl vu lo hi sl Q I rx hsl pl pu ⟨a, vs, rfl, .of h1, fun p hp => q.newL hs (RpL.cut ⟨h3, h4⟩ lo hi) hp⟩
  | @scr a ns h =>
    cases e
    refine sl_list pins s0 σ H _ v vl vu lo hi sl Q I rx hsl pl pu ⟨a, _, rfl, hK ▸ h.sq, fun p hp => q.newL hs ?_ hp⟩
    rw [cut_map]
    exact RpL.cut (rpl_ints ns) lo hi
  | str z =>
    simp only [slD] at e
    split at e
    · rename_i hz
      cases e
      refine sl_str pins s0 σ H _ v vl vu lo hi sl Q I rx hsl pl pu ⟨mk z, rfl, by rw [mk_len, ← SZ_eq]; exact hz, ?_⟩
      have e2 : cutS (mk z) lo hi = mk (G.cut z lo hi) := by
        unfold cutS G.cut
        rw [mk_len, mk_toList]
        rfl
      rw [e2]
      exact q.flat rfl (.str _)
    · cases e
  | _ => cases e
/-! ### built-ins -/
def rBlt (W : Wd) (b : BI) (s : S) : List V → Hp → VK → Prop := fun xs H Q => ∃ P ds d, RpL W H P ds xs ∧ bltD b ds = .ok d ∧ Res W H P s d Q
theorem Res.newU {W : Wd} {H : Hp} {P : Addr → Prop} {Q : VK} {ds : List D} {vs : List V} (q : Res W H P .sh (.tup ds) Q) (r : RpL W H P ds vs) {p : Addr} (hp : H p = none) : Q (.ref p) (upd H p (.tup vs)) := by
  refine q _ _ (fun _ => False) (Ext.new hp) (fun _ z => z.elim) (.sh (.tup upd_same r.1 fun i d v e u => ?_))
  exact (r.2 i d v e u).apart (Ext.new hp) fun _ z => z.elim
theorem ints_val : ∀ {ns : List Int}, True := fun {_} => trivial
theorem fig_str (i : Int) : (Str.ofString (toString i)) = mk (intL i) := by
  unfold intL figL
  rw [← mk_of (Str.ofString (toString i))]
  congr 1
  by_cases h : i < 0
  · rw [if_pos h]
    obtain ⟨n, rfl⟩ : ∃ n : Nat, i = -((n + 1 : Nat) : Int) := ⟨i.natAbs - 1, by omega⟩
    have e : toString (-((n + 1 : Nat) : Int)) = "-" ++ toString ((n + 1 : Nat) : Int) := rfl
    rw [e]
    have e2 : (Str.ofString ("-" ++ toString ((n + 1 : Nat) : Int))).cps.toList = 45 :: (Str.ofString (toString ((n + 1 : Nat) : Int))).cps.toList := by
      unfold Str.ofString
      rw [List.toList_toArray, List.toList_toArray, cpsOfBytes_string, cpsOfBytes_string, String.toList_append, List.map_append]
      rfl
    rw [e2, show (Str.ofString (toString ((n + 1 : Nat) : Int))).cps.toList = TL.numL (n + 1) from TL.tl_num (n + 1)]
    congr 1
  · rw [if_neg h]
    obtain ⟨n, rfl⟩ : ∃ n : Nat, i = (n : Int) := ⟨i.natAbs, by omega⟩
    rw [show (Str.ofString (toString (n : Int))).cps.toList = TL.numL n from TL.tl_num n]
    simp
theorem log_ok {i : Int} (h : i.natAbs < 10 ^ 100) : i.natAbs.log2 < 1920 := by
  by_cases h0 : i.natAbs = 0
  · rw [h0]; decide
  · refine (Nat.log2_lt h0).mpr (Nat.lt_of_lt_of_le h ?_)
    refine Nat.le_trans (Nat.pow_le_pow_left (by decide : 10 ≤ 2 ^ 4) 100) ?_
    rw [← Nat.pow_mul]
    exact Nat.pow_le_pow_right (by decide) (by decide)
end
end G
end
section
set_option Elab.async false
set_option linter.all false
set_option maxRecDepth 100000
set_option maxHeartbeats 4000000
namespace G
open PySem PySem.Spec PyProof.Rows L2
/-! ### texts -/
theorem spl_splC (c : Nat) : ∀ (l acc : List Nat), TL.spl [c] 0 acc l = splC c acc l
  | [], acc => rfl
  | x :: r, acc => by
    unfold TL.spl splC
    have hp : (TL.pre [c] (x :: r) = true) ↔ x = c := by
      unfold TL.pre
      simp
    by_cases h : x = c
    · rw [if_pos (hp.mpr h), if_pos h]
      show acc :: TL.spl [c] 0 [] r = _
      rw [spl_splC c r []]
    · rw [if_neg fun z => h (hp.mp z), if_neg h]
      exact spl_splC c r _
theorem split_mk {x : List Nat} {c : Nat} (hc : c < 256) : Txt.split (mk x) (mk [c]) = (splC c [] x).map mk := by
  refine TL.map_tl_inj ?_
  rw [TL.split_spl _ _ (by simp [TL.tl, mk]) (TL.kind_ok (by simp [mk, hc])), List.map_map]
  have e : (TL.tl ∘ mk) = id := by
    funext z
    exact mk_toList z
  rw [e, List.map_id]
  exact spl_splC c x []
theorem joinL_C (y : List Nat) : ∀ xs : List (List Nat), TL.joinL y xs = joinC y xs
  | [] => rfl
  | [_] => rfl
  | x :: z :: r => by
    show x ++ (y ++ TL.joinL y (z :: r)) = x ++ y ++ joinC y (z :: r)
    rw [joinL_C y (z :: r), List.append_assoc]
theorem join_mk (y : List Nat) (xs : List (List Nat)) : Txt.join (mk y) (xs.map mk) = mk (joinC y xs) := by
  refine TL.ext_tl ?_
  rw [TL.join_eq, TL.tl_join, List.map_map]
  have e : (TL.tl ∘ mk) = id := by
    funext z
    exact mk_toList z
  rw [e, List.map_id]
  show TL.joinL (mk y).cps.toList xs = (mk (joinC y xs)).cps.toList
  rw [mk_toList, mk_toList]
  exact joinL_C y xs
theorem sumLen_mk : ∀ zs : List (List Nat), ((zs.map mk).map fun x => x.length).sum = sumLen zs
  | [] => rfl
  | z :: r => by
    rw [List.map_cons, List.map_cons, List.sum_cons, sumLen_mk r, mk_len]
    rfl
section
variable {X : Cx} {W : Wd}
def biV : BI → Value
  | .len => .builtin "len" | .int => .type "int" | .str => .type "str" | .list => .type "list" | .tuple => .type "tuple" | .dict => .type "dict" | .all => .builtin "all" | .any => .builtin "any" | .sum => .builtin "sum" | .abs => .builtin "abs"
  | .max => .builtin "max" | .min => .builtin "min" | .sorted => .builtin "sorted"
theorem RpL.one {H : Hp} {P : Addr → Prop} {d : D} {vs : List V} (r : RpL W H P [d] vs) : ∃ v, vs = [v] ∧ Rp W H P d v := by
  obtain ⟨v, q, rfl, r1, r2⟩ := r.un
  rw [r2.un0]
  exact ⟨v, rfl, r1⟩
theorem RpL.two {H : Hp} {P : Addr → Prop} {d e : D} {vs : List V} (r : RpL W H P [d, e] vs) : ∃ v u, vs = [v, u] ∧ Rp W H P d v ∧ Rp W H P e u := by
  obtain ⟨v, q, rfl, r1, r2⟩ := r.un
  obtain ⟨u, rfl, r3⟩ := r2.one
  exact ⟨v, u, rfl, r1, r3⟩
theorem paired_imp {α β : Type} {R R' : α → β → Prop} (f : ∀ a b, R a b → R' a b) : ∀ {xs : List α} {ys : List β}, Paired R xs ys → Paired R' xs ys
  | _, _, .nil => .nil
  | _, _, .cons h t => .cons (f _ _ h) (paired_imp f t)
theorem Res.newD {W : Wd} {H : Hp} {P : Addr → Prop} {s : S} {Q : VK} {ds : List (DK × D)} {kvs : List (Key × V)} (q : Res W H P s (.dic false ds) Q) (hs : s = .sh ∨ s = .dic) (r : PairR KeyK (Rp W H P) ds kvs) {p : Addr} (hp : H p = none) : Q (.ref p) (upd H p (.dK kvs)) := by
  have up : ∀ (F : Addr → Prop), (∀ a, F a → H a = none) → ∀ (i : Nat) d v, ds[i]? = some d → kvs[i]? = some v → Rp W (upd H p (.dK kvs)) (fun a => Nw P H a ∧ ¬ F a) d.2 v.2 := fun F hF i d v e u => (r.2.2 i d v e u).apart (Ext.new hp) hF
  rcases hs with rfl | rfl
  · exact q _ _ (fun _ => False) (Ext.new hp) (fun _ z => z.elim) (.sh (.dicK (.inl upd_same) ⟨.inr hp, fun z => z⟩ r.1 r.2.1 (up _ fun _ z => z.elim)))
  · refine q _ _ (one p) (Ext.new hp) (fun a z => ?_) (.dicK upd_same rfl r.1 r.2.1 (up _ fun a z => by cases z; exact hp))
    cases z
    exact ⟨hp, _, upd_same, fun z => z⟩
theorem call_blt (hK : X.K = W.K) (hc : X.calm = true) (b : BI) {s : S} (hs : s = .sh ∨ (s = .lst .sh ∧ b = .list) ∨ (s = .dic ∧ b = .dict)) : CallR X (biV b) (rBlt W b s) := by
  intro pins s0 σ H xs us Q I rx h
  obtain ⟨P, ds, d, r, e, q⟩ := h
  have sh : b ≠ .list → b ≠ .dict → s = .sh := fun n m => hs.elim id fun z => z.elim (fun z => absurd z.2 n) fun z => absurd z.2 m
  have shL : b = .list → s = .sh ∨ s = .lst .sh := fun n => hs.imp id fun z => z.elim (fun z => z.1) fun z => by rw [z.2] at n; cases n
  have shD : b = .dict → s = .sh ∨ s = .dic := fun n => hs.imp id fun z => z.elim (fun z => by rw [z.2] at n; cases n) fun z => z.1
  match b, ds, e with
  | .len, [.lst ys], e =>
    cases e
    obtain ⟨v, rfl, r1⟩ := r.one
    cases r1 with
    | lst h1 h2 h3 h4 => exact call_len pins s0 σ H _ us Q I rx ⟨_, _, rfl, .inl ⟨_, .of h1, rfl⟩, by rw [← h3]; exact q.flat rfl (.int _)⟩
  | .len, [.tup ys], e =>
    cases e
    obtain ⟨v, rfl, r1⟩ := r.one
    cases r1 with
    | tup h1 h3 h4 => exact call_len pins s0 σ H _ us Q I rx ⟨_, _, rfl, .inr ⟨_, .of h1, rfl⟩, by rw [← h3]; exact q.flat rfl (.int _)⟩
  | .len, [.scr ns], e =>
    cases e
    obtain ⟨v, rfl, r1⟩ := r.one
    cases r1 with
    | scr h => exact call_len pins s0 σ H _ us Q I rx ⟨_, _, rfl, .inl ⟨_, hK ▸ h.sq, rfl⟩, by rw [List.length_map]; exact q.flat rfl (.int _)⟩
  | .len, [.dic false kvs], e =>
    cases e
    obtain ⟨v, rfl, r1⟩ := r.one
    cases r1 with
    | dicK h1 h2 h3 h4 h5 =>
      obtain ⟨u, rfl, ru⟩ := vals1 rx
      cases ru
      exact d_len I h1 fun t s' I' => ⟨.int _, H, I', ⟨t, rfl⟩, by rw [← h3]; exact q.flat rfl (.int _)⟩
  | .len, [.str x], e =>
    simp only [bltD] at e
    split at e
    · rename_i hz
      cases e
      obtain ⟨v, rfl, r1⟩ := r.one
      cases r1
      exact call_len pins s0 σ H _ us Q I rx ⟨_, _, rfl, ⟨by rw [mk_len, ← SZ_eq]; exact hz, rfl⟩, by rw [mk_len]; exact q.flat rfl (.int _)⟩
    · cases e
  | .int, [.int i], e =>
    cases e
    obtain ⟨v, rfl, r1⟩ := r.one
    cases r1
    exact call_int1 pins s0 σ H _ us Q I rx (.inl ⟨i, rfl, q.flat rfl (.int i)⟩)
  | .int, [.bl k], e =>
    cases e
    obtain ⟨v, rfl, r1⟩ := r.one
    cases r1
    exact call_int1 pins s0 σ H _ us Q I rx (.inr ⟨k, rfl, q.flat rfl (.int _)⟩)
  | .int, [.str x], e =>
    simp only [bltD] at e
    split at e
    · rename_i hz
      obtain ⟨n, e1, e2⟩ := bind_inv e
      cases e2
      obtain ⟨v, rfl, r1⟩ := r.one
      cases r1
      exact call_int_str pins s0 σ H _ us Q I rx ⟨mk x, n, rfl, R.of_ok e1, by rw [mk_len]; exact hz, q.flat rfl (.int n)⟩
    · cases e
  | .str, [.int i], e =>
    simp only [bltD] at e
    split at e
    · rename_i hz
      cases e
      obtain ⟨v, rfl, r1⟩ := r.one
      cases r1
      refine call_str_int pins s0 σ H _ us Q I rx ⟨i, rfl, log_ok hz, ?_⟩
      rw [fig_str]
      exact q.flat rfl (.str _)
    · cases e
  | .list, [.lst ys], e =>
    cases e
    obtain ⟨v, rfl, r1⟩ := r.one
    cases r1 with
    | lst h1 h2 h3 h4 => exact call_list_of pins s0 σ H _ us Q I rx ⟨_, _, rfl, .inl (.of h1), fun l hl => q.newL (shL rfl) ⟨h3, h4⟩ hl⟩
  | .list, [.tup ys], e =>
    cases e
    obtain ⟨v, rfl, r1⟩ := r.one
    cases r1 with
    | tup h1 h3 h4 => exact call_list_of pins s0 σ H _ us Q I rx ⟨_, _, rfl, .inr (.of h1), fun l hl => q.newL (shL rfl) ⟨h3, h4⟩ hl⟩
  | .tuple, [.lst ys], e =>
    cases e
    obtain rfl := sh (by decide) (by decide)
    obtain ⟨v, rfl, r1⟩ := r.one
    cases r1 with
    | lst h1 h2 h3 h4 => exact call_tuple_of pins s0 σ H _ us Q I rx ⟨_, _, rfl, .inl ⟨.of h1, fun l hl => q.newU ⟨h3, h4⟩ hl⟩⟩
  | .tuple, [.tup ys], e =>
    cases e
    obtain rfl := sh (by decide) (by decide)
    obtain ⟨v, rfl, r1⟩ := r.one
    cases r1 with
    | tup h1 h3 h4 => exact call_tuple_of pins s0 σ H _ us Q I rx ⟨_, _, rfl, .inr ⟨.of h1, q.old (.tup h1 h3 h4)⟩⟩
  | .dict, [.lst ys], e =>
    obtain ⟨kds, e1, e2⟩ := bind_inv (show (R.of (pairsD ys)).bind _ = _ from e)
    cases e2
    obtain ⟨v, rfl, r1⟩ := r.one
    cases r1 with
    | lst h1 h2 h3 h4 =>
      obtain ⟨ps, kvs, rfl, q1, q2⟩ := pairs_rel (R.of_ok e1) (show RpL W H P ys _ from ⟨h3, h4⟩)
      exact call_dictP hc pins s0 σ H _ us Q I rx ⟨_, ps, kvs, rfl, .of h1, paired_imp (fun p kv z => .of z) q1, fun p hp => q.newD (shD rfl) (merge_rel q2 .nil) hp⟩
  | .dict, [.dic false kvs], e =>
    cases e
    obtain ⟨v, rfl, r1⟩ := r.one
    cases r1 with
    | dicK h1 h2 h3 h4 h5 => exact call_dictD pins s0 σ H _ us Q I rx ⟨_, _, rfl, h1, fun p hp => q.newD (shD rfl) ⟨h3, h4, h5⟩ hp⟩
  | .all, [.lst ys], e =>
    obtain ⟨bs, e1, e2⟩ := bind_inv (show (R.of (blsOf ys)).bind _ = _ from e)
    cases e2
    obtain ⟨v, rfl, r1⟩ := r.one
    cases r1 with
    | lst h1 h2 h3 h4 =>
      obtain rfl := bls_of (R.of_ok e1)
      obtain rfl := rpl_bls_inv (show RpL W H P _ _ from ⟨h3, h4⟩)
      exact cr_all hc pins s0 σ H _ us Q I rx ⟨_, bs, rfl, .of h1, q.flat rfl (.bl _)⟩
  | .any, [.lst ys], e =>
    obtain ⟨bs, e1, e2⟩ := bind_inv (show (R.of (blsOf ys)).bind _ = _ from e)
    cases e2
    obtain ⟨v, rfl, r1⟩ := r.one
    cases r1 with
    | lst h1 h2 h3 h4 =>
      obtain rfl := bls_of (R.of_ok e1)
      obtain rfl := rpl_bls_inv (show RpL W H P _ _ from ⟨h3, h4⟩)
      exact cr_any hc pins s0 σ H _ us Q I rx ⟨_, bs, rfl, .of h1, q.flat rfl (.bl _)⟩
  | .sum, [.lst ys], e =>
    obtain ⟨bs, e1, e2⟩ := bind_inv (show (R.of (intsOf ys)).bind _ = _ from e)
    cases e2
    obtain ⟨v, rfl, r1⟩ := r.one
    cases r1 with
    | lst h1 h2 h3 h4 =>
      obtain rfl := ints_of (R.of_ok e1)
      obtain rfl := rpl_ints_inv (show RpL W H P _ _ from ⟨h3, h4⟩)
      exact cr_sum hc pins s0 σ H _ us Q I rx ⟨_, bs, rfl, .of h1, q.flat rfl (.int _)⟩
  | .abs, [.int i], e =>
    cases e
    obtain ⟨v, rfl, r1⟩ := r.one
    cases r1
    exact call_abs pins s0 σ H _ us Q I rx ⟨i, rfl, q.flat rfl (.int _)⟩
  | .max, [.int i, .int j], e =>
    cases e
    obtain ⟨v, v', rfl, r1, r2⟩ := r.two
    cases r1
    cases r2
    exact call_max2 hc pins s0 σ H _ us Q I rx ⟨i, j, rfl, q.flat rfl (.int _)⟩
  | .min, [.int i, .int j], e =>
    cases e
    obtain ⟨v, v', rfl, r1, r2⟩ := r.two
    cases r1
    cases r2
    exact call_min2 hc pins s0 σ H _ us Q I rx ⟨i, j, rfl, q.flat rfl (.int _)⟩
/-! ### methods of texts -/
def miId : MI → String
  | .split => "str.split" | .join => "str.join" | .strip => "str.strip" | .startswith => "str.startswith" | .replace => "str.replace" | .upper => "str.upper" | .get => "dict.get" | .index => "list.index" | .count => "list.count"
def rMth (W : Wd) (m : MI) (s : S) : V → List V → Hp → VK → Prop := fun x xs H Q => ∃ P o ds d, Rp W H P o x ∧ RpL W H P ds xs ∧ mthD m o ds = .ok d ∧ Res W H P s d Q
theorem mt_any (hK : X.K = W.K) (m : MI) (hm : isStr m = true) {s : S} (hs : sOk s) : MtR X (miId m) (rMth W m s) := by
  intro pins s0 σ H x xs v us Q I rx rs h
  obtain ⟨P, o, ds, d, r1, r2, e, q⟩ := h
  match m, o, ds, e with
  | .split, .str z, [.str [c]], e =>
    simp only [mthD] at e
    split at e
    · rename_i hz
      cases e
      cases r1
      obtain ⟨v', rfl, r3⟩ := r2.one
      cases r3
      refine mt_split pins s0 σ H _ _ v us Q I rx rs ⟨mk z, mk [c], rfl, rfl, rfl, by rw [mk_len, ← SZ_eq]; exact hz.2, fun p hp => ?_⟩
      rw [split_mk hz.1]
      exact q.newL hs (rpl_strs _) hp
    · cases e
  | .join, .str y, [.lst ys], e =>
    obtain ⟨zs, e1, e2⟩ := bind_inv (show (R.of (strsOf ys)).bind _ = _ from e)
    split at e2
    · rename_i hz
      cases e2
      cases r1
      obtain ⟨v', rfl, r3⟩ := r2.one
      cases r3 with
      | lst h1 h2 h3 h4 =>
        obtain rfl := strs_of (R.of_ok e1)
        obtain rfl := rpl_strs_inv (show RpL W H P _ _ from ⟨h3, h4⟩)
        refine mt_join pins s0 σ H _ _ v us Q I rx rs ⟨mk y, _, zs.map mk, rfl, rfl, .inl (.of h1), ?_, ?_⟩
        · rw [sumLen_mk, List.length_map, mk_len, Nat.mul_comm]; exact hz
        · rw [join_mk]; exact q.flat rfl (.str _)
    · cases e2
  | .strip, .str z, [.str ks], e =>
    simp only [mthD] at e
    split at e
    · rename_i hz
      cases e
      cases r1
      obtain ⟨v', rfl, r3⟩ := r2.one
      cases r3
      refine mt_stripChars pins s0 σ H _ _ v us Q I rx rs ⟨mk z, mk ks, rfl, rfl, by rw [mk_len, ← SZ_eq]; exact hz, ?_⟩
      rw [← mk_of (Txt.stripChars (mk z) (mk ks))]
      exact q.flat rfl (.str _)
    · cases e
  | .startswith, .str z, [.str y], e =>
    cases e
    cases r1
    obtain ⟨v', rfl, r3⟩ := r2.one
    cases r3
    exact mt_startswith pins s0 σ H _ _ v us Q I rx rs ⟨mk z, mk y, rfl, rfl, q.flat rfl (.bl _)⟩
  | .get, _, _, _ => cases hm
end
end G
end
section
set_option Elab.async false
set_option linter.all false
set_option maxRecDepth 100000
set_option maxHeartbeats 4000000
namespace G
open PySem PySem.Spec PyProof.Rows L2
/-! ### what is walked -/
/-- what P tells stands still -/
def Later (P : Addr → Prop) (H1 H2 : Hp) : Prop := ∀ a o, H1 a = some o → (P a ∨ isFix o) → H2 a = some o
theorem Later.kp {P : Addr → Prop} {H1 H2 : Hp} (l : Later P H1 H2) : Kp H1 H2 P := fun a o e p => .inl (l a o e p)
theorem Ext.later {P : Addr → Prop} {H1 H2 : Hp} (l : Ext H1 H2) : Later P H1 H2 := fun a o e _ => l a o e
def ItOk (W : Wd) (P : Addr → Prop) (J : It) (ds : List D) (H1 : Hp) : Prop :=
  ∃ Y : Nat → Hp → V → Hp → Prop, Walk J ds.length (Later P H1) Y ∧ ∀ i H2 x H3 d, Later P H1 H2 → Y i H2 x H3 → ds[i]? = some d → Ext H2 H3 ∧ Rp W H3 P d x
section
variable {W : Wd} {H : Hp} {P : Addr → Prop}
theorem RpL.yat {ds : List D} {vs : List V} (r : RpL W H P ds vs) {i : Nat} {H2 : Hp} {x : V} {H3 : Hp} {d : D} (l : Later P H H2) (y : YAt vs i H2 x H3) (e : ds[i]? = some d) : Ext H2 H3 ∧ Rp W H3 P d x := by
  obtain ⟨rfl, y⟩ := y
  exact ⟨Ext.refl _, (r.2 i d x e y).keep l.kp fun _ z => z⟩
theorem it_list {a : Addr} {ds : List D} {vs : List V} (h : H a = some (.lst vs)) (hp : P a) (r : RpL W H P ds vs) : ItOk W P (Itl W.K a) ds H :=
  ⟨_, (by rw [r.1]; exact walk_list.mono (fun H' l => .of (l a _ h (.inl hp))) fun _ _ _ _ _ _ y => y), fun i H2 x H3 d l y e => r.yat l y e⟩
theorem it_tup {a : Addr} {ds : List D} {vs : List V} (h : H a = some (.tup vs)) (r : RpL W H P ds vs) : ItOk W P (Itt W.K a) ds H :=
  ⟨_, (by rw [r.1]; exact walk_tup.mono (fun H' l => .of (l a _ h (.inr trivial))) fun _ _ _ _ _ _ y => y), fun i H2 x H3 d l y e => r.yat l y e⟩
theorem it_scr {a : Addr} {ns : List Int} (h : Scr W.K H a (ns.map V.int)) : ItOk W P (Itl W.K a) (ns.map D.int) H := by
  refine ⟨_, ?_, fun i H2 x H3 d l y e => (rpl_ints ns).yat l y e⟩
  have w := walk_list (K := W.K) (a := a) (xs := ns.map V.int)
  rw [List.length_map] at w ⊢
  refine w.mono (fun H' l => ?_) fun _ _ _ _ _ _ y => y
  rcases h with ⟨o, h⟩ | h
  · exact .inl (.inr ⟨o, l a _ h (.inr trivial)⟩)
  · exact .inr h
theorem rngL_get {a c : Int} {n i : Nat} {d : D} (e : (rngL a c n)[i]? = some d) : d = .int (a + (i : Int) * c) := by
  unfold rngL at e
  rw [List.getElem?_map] at e
  cases h : (List.range n)[i]? with
  | none => rw [h] at e; cases e
  | some j =>
    rw [h] at e
    have hj : i = j := by
      obtain ⟨h1, h2⟩ := List.getElem?_eq_some_iff.mp h
      rw [List.getElem_range] at h2
      exact h2
    cases e
    rw [hj]
theorem it_rng {lo : Int} {n : Nat} : ItOk W P (Itr lo n) (rngL lo 1 n) H := by
  refine ⟨YFn fun i => .int (lo + i), ?_, fun i H2 x H3 d l y e => ?_⟩
  · rw [show (rngL lo 1 n).length = n by simp [rngL]]
    exact walk_range.mono (fun _ _ => trivial) fun _ _ _ _ _ _ y => y
  · obtain ⟨rfl, rfl⟩ := y
    rw [rngL_get e, Int.mul_one]
    exact ⟨Ext.refl _, .int _⟩
theorem it_rngC {lo c : Int} {n : Nat} : ItOk W P (Itc lo c n) (rngL lo c n) H := by
  refine ⟨YFn fun i => .int (lo + (i : Nat) * c), ?_, fun i H2 x H3 d l y e => ?_⟩
  · rw [show (rngL lo c n).length = n by simp [rngL]]
    exact walk_rangeC.mono (fun _ _ => trivial) fun _ _ _ _ _ _ y => y
  · obtain ⟨rfl, rfl⟩ := y
    rw [rngL_get e]
    exact ⟨Ext.refl _, .int _⟩
theorem it_rev {a : Addr} {ds : List D} {vs : List V} (h : H a = some (.lst vs)) (hp : P a) (r : RpL W H P ds vs) : ItOk W P (Itv W.K a vs.length) ds.reverse H := by
  refine ⟨fun i H x H' => H' = H ∧ vs[vs.length - 1 - i]? = some x, ?_, fun i H2 x H3 d l y e => ?_⟩
  · rw [List.length_reverse, r.1]
    exact walk_rev.mono (fun H' l => .of (l a _ h (.inl hp))) fun _ _ _ _ _ _ y => y
  · obtain ⟨rfl, y⟩ := y
    have hi : i < ds.length := by have := (List.getElem?_eq_some_iff.mp e).1; simpa using this
    rw [List.getElem?_reverse hi, r.1] at e
    exact ⟨Ext.refl _, (r.2 _ d x e y).keep l.kp fun _ z => z⟩
theorem pair_rp {H2 : Hp} {T : Addr} {x y : V} {d e : D} (hT : H2 T = none) (r1 : Rp W H2 P d x) (r2 : Rp W H2 P e y) : Ext H2 (upd H2 T (.tup [x, y])) ∧ Rp W (upd H2 T (.tup [x, y])) P (.tup [d, e]) (.ref T) := by
  refine ⟨Ext.new hT, ?_⟩
  have rr : RpL W (upd H2 T (.tup [x, y])) P [d, e] [x, y] := .cons (r1.ext (Ext.new hT)) (.cons (r2.ext (Ext.new hT)) .nil)
  exact .tup upd_same rr.1 rr.2
theorem enumL_len : ∀ (ds : List D) (k : Nat), (enumL k ds).length = ds.length
  | [], _ => rfl
  | d :: r, k => by simp [enumL, enumL_len r]
theorem enumL_get : ∀ {ds : List D} {k i : Nat} {d : D}, (enumL k ds)[i]? = some d → ∃ e, ds[i]? = some e ∧ d = .tup [.int (k + i : Nat), e]
  | [], _, _, _, h => by simp [enumL] at h
  | x :: r, k, 0, d, h => by simp [enumL] at h; exact ⟨x, rfl, h.symm⟩
  | x :: r, k, i + 1, d, h => by
    obtain ⟨e, h1, h2⟩ := enumL_get (ds := r) (k := k + 1) (i := i) (by simpa [enumL] using h)
    exact ⟨e, by simpa using h1, by rw [h2, show k + 1 + i = k + (i + 1) by omega]⟩
theorem it_enum {a : Addr} {ds : List D} {vs : List V} (hq : ∀ H', Later P H H' → SqL W.K H' a vs) (r : RpL W H P ds vs) : ItOk W P (Ite W.K a) (enumL 0 ds) H := by
  refine ⟨YPair (fun i => some (.int (i : Nat))) (fun i => vs[i]?), ?_, fun i H2 x H3 d l y e => ?_⟩
  · rw [enumL_len, r.1]
    exact walk_enum.mono hq fun _ _ _ _ _ _ y => y
  · obtain ⟨T, x1, y1, rfl, hT, rfl, e1, e2⟩ := y
    obtain ⟨d', e3, rfl⟩ := enumL_get e
    cases e1
    rw [Nat.zero_add]
    exact pair_rp hT (.int _) ((r.2 i d' y1 e3 e2).keep l.kp fun _ z => z)
theorem zipL_len : ∀ ds es : List D, (zipL ds es).length = min ds.length es.length
  | [], es => by simp [zipL]
  | d :: r, [] => by simp [zipL]
  | d :: r, e :: q => by simp [zipL, zipL_len r q]
theorem zipL_get : ∀ {ds es : List D} {i : Nat} {d : D}, (zipL ds es)[i]? = some d → ∃ x y, ds[i]? = some x ∧ es[i]? = some y ∧ d = .tup [x, y]
  | [], es, _, _, h => by simp [zipL] at h
  | d :: r, [], _, _, h => by simp [zipL] at h
  | x :: r, y :: q, 0, d, h => by simp [zipL] at h; exact ⟨x, y, rfl, rfl, h.symm⟩
  | x :: r, y :: q, i + 1, d, h => by
    obtain ⟨u, w, h1, h2, h3⟩ := zipL_get (ds := r) (es := q) (i := i) (by simpa [zipL] using h)
    exact ⟨u, w, by simpa using h1, by simpa using h2, h3⟩
theorem it_zip {a b : Addr} {ds es : List D} {vs us : List V} (h1 : H a = some (.lst vs)) (p1 : P a) (r1 : RpL W H P ds vs) (h2 : H b = some (.lst us)) (p2 : P b) (r2 : RpL W H P es us) : ItOk W P (Itz W.K a b) (zipL ds es) H := by
  refine ⟨YPair (fun i => vs[i]?) (fun i => us[i]?), ?_, fun i H2 x H3 d l y e => ?_⟩
  · rw [zipL_len, r1.1, r2.1]
    exact (walk_zip (xs := vs) (ys := us) rfl).mono (fun H' l => ⟨.of (l a _ h1 (.inl p1)), .of (l b _ h2 (.inl p2))⟩) fun _ _ _ _ _ _ y => y
  · obtain ⟨T, x1, y1, rfl, hT, rfl, e1, e2⟩ := y
    obtain ⟨u, w, e3, e4, rfl⟩ := zipL_get e
    exact pair_rp hT ((r1.2 i u x1 e3 e1).keep l.kp fun _ z => z) ((r2.2 i w y1 e4 e2).keep l.kp fun _ z => z)
end
/-! ### a walk over a list or a tuple -/
def iSeq (K : PySem.W.Frag) (tl : TE) : TI := fun σ H R => tl σ H fun x H1 => ∃ a, x = .ref a ∧ (((∃ xs, SqL K H1 a xs) ∧ R (Itl K a) H1) ∨ ((∃ xs, SqT K H1 a xs) ∧ R (Itt K a) H1))
theorem pi_seq {X : Cx} {tg l : PySem.Expr} {tl : TE} (hl : PE X l tl) : PI X tg l (iSeq X.K tl) where
  run pins s σ H R I h := by
    have key := hl.run pins s σ H (fun x H1 => ∃ a, x = .ref a ∧ (((∃ xs, SqL X.K H1 a xs) ∧ R (Itl X.K a) H1) ∨ ((∃ xs, SqT X.K H1 a xs) ∧ R (Itt X.K a) H1))) I h
    refine wpAny_mono key ?_ fun _ _ z => z
    rintro w sA ⟨v, HA, IA, rel, b, hv, cases2⟩
    rw [hv] at rel
    obtain rfl : w = .ref b := rel
    cases cases2 with
    | inl z =>
      obtain ⟨⟨ys, sq⟩, fin⟩ := z
      obtain ⟨its, _, pl, _⟩ := IA.list sq
      have tn := turn_list (P := X.prog) (w := X.w)
        (K := X.K) (tg := tg) b sA.heap.objs.size
      refine wpAny_pyIter_list pl.isList
        (pi_one IA _ tn
          ⟨_,
           Heap.get?_push_size _ rfl,
           rfl, rfl⟩
          fin)
    | inr z =>
      obtain ⟨⟨ys, sq⟩, fin⟩ := z
      obtain ⟨its, _, pl, _⟩ := IA.tuple sq
      have tn := turn_tuple (P := X.prog) (w := X.w)
        (K := X.K) (tg := tg) b sA.heap.objs.size
      have isT : sA.heap.IsTuple b its.toArray := pl
      refine wpAny_pyIter_tuple isT
        (pi_one IA _ tn
          ⟨_,
           Heap.get?_push_size _ rfl,
           rfl, rfl⟩
          fin)
end G
end
section
set_option Elab.async false
set_option linter.all false
set_option maxRecDepth 100000
set_option maxHeartbeats 4000000
namespace G
open PySem PySem.Spec PyProof.Rows L2
/-! ### what the text's top must hold -/
structure Facts (W : Wd) (mg : Str → Option Value) : Prop where
  finj : Finj W
  free : ∀ b : BI, mg (biN b) = none
  rng : mg ("range" : Str) = none
  enum : mg ("enumerate" : Str) = none
  zip : mg ("zip" : Str) = none
  rev : mg ("reversed" : Str) = none
  isi : mg ("isinstance" : Str) = none
  boo : mg ("bool" : Str) = none
  gs : ∀ i, i < W.T.ngs → ∃ t, mg (W.T.gs i).1 = some (.str (mk (W.T.gs i).2) t)
  cls : ∀ c, Cls W.K (W.cadr c)
  nat : ∀ c f, f < W.T.nfl → NoAttr W.K (W.cadr c) (W.T.fname f)
/-- a def's promise: it hands back what the reading tells -/
def spP (W : Wd) (C : Calls) (f : Nat) : Sp := fun vs H Q E => ∃ P ds, RpL W H P ds vs ∧ Wp W E H (C.p f ds) fun d => Res W H P (W.T.ret f) d Q
/-- .. of a def that writes its first parameter -/
def spM (W : Wd) (C : Calls) (f : Nat) (s : S) : Sp := fun vs H Q E => ∃ (P : Addr → Prop) (ds : List D) (d0 : D) (v0 : V) (us : List V) (G : Addr → Prop), vs = v0 :: us ∧ RpL W H P ds us ∧ Ow W H P s d0 v0 G ∧ (∀ a, P a → ¬ G a) ∧ (∀ a, G a → ∃ o, H a = some o ∧ ¬ isFix o) ∧
  ∃ r d1, C.m f d0 ds = .ok (r, d1) ∧ ∀ v H' G', (∀ a o, ¬ G a → H a = some o → H' a = some o) → (∀ a o, H a = some o → ∃ o', H' a = some o') → (∀ a, G' a → (G a ∨ H a = none) ∧ ∃ o, H' a = some o ∧ ¬ isFix o) →
    Ow W H' (fun a => Nw P H a ∧ ¬ G' a) s d1 v0 G' → (∀ P', Rp W H' P' r v) → noMut r = true → Q v H'
structure CallsOk (W : Wd) (prog : Program) (w : World) (mg : Str → Option Value) (base : Heap) (k : Nat) (C : Calls) : Prop where
  p : ∀ f, W.T.fns.contains f = true → W.T.mty f = none → ∃ a fd ps, mg (W.T.gname f) = some (.ref a) ∧ PySem.W.keepIn W.K (.ref a) = true ∧ Binds W.K fd ps [] ∧ FnOk prog w W.K mg base (L2.CX prog w) k a fd ps (spP W C f)
  m : ∀ f s, W.T.fns.contains f = true → W.T.mty f = some s → ∃ a fd ps, mg (W.T.gname f) = some (.ref a) ∧ PySem.W.keepIn W.K (.ref a) = true ∧ Binds W.K fd ps [] ∧ FnOk prog w W.K mg base (L2.CX prog w) k a fd ps (spM W C f s)
  i : ∀ c, c < W.T.ncl → ∃ a fd ps, Mk W.K (W.cadr c) a ∧ mg (W.T.cname c) = some (.ref (W.cadr c)) ∧ Binds W.K fd ps [] ∧ FnOk prog w W.K mg base (L2.CX prog w) k a fd ps (spM W C (W.T.init c) (W.T.cty c)) ∧ isOb (W.T.cty c) = true
  mx : ∀ f d ds c fs, C.m f d ds ≠ .ex c fs
structure Ctx (W : Wd) (C : Calls) (k : Nat) (X : Cx) (N : List Str) (sc : Scope) (E : XK) : Prop where
  K : X.K = W.K
  n : X.N = N
  nd : N.Nodup
  sc : X.env.scope = sc
  calm : X.calm = true
  room : Room (k + 1) X.A
  facts : Facts W X.mg
  calls : CallsOk W X.prog X.w X.mg X.base k C
  pass : Passes (L2.CX X.prog X.w) X E
/-! ### readings -/
def Sees (W : Wd) (H : Hp) (P : Addr → Prop) (env : Env) (σ : L2.St) (vs : List Nat) : Prop := env.length = σ.length ∧ ∀ i ∈ vs, ∀ d, env[i]? = some (some d) → ∃ v, σ[i]? = some (some v) ∧ Rp W H P d v
theorem Sees.l {W : Wd} {H : Hp} {P : Addr → Prop} {env : Env} {σ : L2.St} {vs us : List Nat} (h : Sees W H P env σ (vs ++ us)) : Sees W H P env σ vs := ⟨h.1, fun i hi => h.2 i (List.mem_append_left _ hi)⟩
theorem Sees.r {W : Wd} {H : Hp} {P : Addr → Prop} {env : Env} {σ : L2.St} {vs us : List Nat} (h : Sees W H P env σ (vs ++ us)) : Sees W H P env σ us := ⟨h.1, fun i hi => h.2 i (List.mem_append_right _ hi)⟩
theorem Sees.up {W : Wd} {H H1 : Hp} {P : Addr → Prop} {env : Env} {σ : L2.St} {vs : List Nat} (h : Sees W H P env σ vs) (e : Ext H H1) : Sees W H1 (Nw P H) env σ vs := ⟨h.1, fun i hi d he => by
  obtain ⟨v, h1, h2⟩ := h.2 i hi d he
  exact ⟨v, h1, h2.up e⟩⟩
theorem Sees.ext {W : Wd} {H H1 : Hp} {P : Addr → Prop} {env : Env} {σ : L2.St} {vs : List Nat} (h : Sees W H P env σ vs) (e : Ext H H1) : Sees W H1 P env σ vs := ⟨h.1, fun i hi d he => by
  obtain ⟨v, h1, h2⟩ := h.2 i hi d he
  exact ⟨v, h1, h2.ext e⟩⟩
section
variable (W : Wd) (C : Calls) (E : XK)
def den (e : IE) (s : S) : TE := fun σ H Q => ∃ env P, Sees W H P env σ e.vars ∧ Wp W E H (evE C W.T env e) fun d => Res W H P s d Q
def denT (e : IE) : TT := fun σ H Q => ∃ env P, Sees W H P env σ e.vars ∧ Wp W E H ((evE C W.T env e).bind truD) fun b => ∀ H', Ext H H' → Q b H'
/-- a list's things, each owned as told -/
def RpO (H H' : Hp) (P : Addr → Prop) (ss : Nat → S) (ds : List D) (vs : List V) (FF : Nat → Addr → Prop) : Prop :=
  ds.length = vs.length ∧ (∀ i, Fresh H H' (FF i)) ∧ (∀ i j a, FF i a → FF j a → i = j) ∧ ∀ (i : Nat) d v, ds[i]? = some d → vs[i]? = some v → Ow W H' (fun a => Nw P H a ∧ ∀ j, ¬ FF j a) (ss i) d v (FF i)
def denL (es : IL) (ss : Nat → S) : TA := fun σ H Q => ∃ env P, Sees W H P env σ es.vars ∧ Wp W E H (evL C W.T env es) fun ds => ∀ vs H' FF, Ext H H' → RpO W H H' P ss ds vs FF → Q vs H'
def denO (o : IO) : TO := fun σ H Q => ∃ env P, Sees W H P env σ o.vars ∧ Wp W E H (evO C W.T env o) fun x => ∀ H', Ext H H' → Q x H'
def denC (o : IO) : TT := fun σ H Q => ∃ env P, Sees W H P env σ o.vars ∧ Wp W E H (evC C W.T env o) fun b => ∀ H', Ext H H' → Q b H'
/-- a range needs nothing to stand still -/
def itP : IT → (Addr → Prop) → Addr → Prop
  | .rng1 _, _ => fun _ => False
  | .rng2 _ _, _ => fun _ => False
  | .rng3 _ _ _, _ => fun _ => False
  | _, P => P
theorem itP_le {it : IT} {P : Addr → Prop} {a : Addr} (h : itP it P a) : P a := by
  cases it <;> first
    | exact h
    | exact h.elim
def denIt (it : IT) : TI := fun σ H R => ∃ env P, Sees W H P env σ it.vars ∧ Wp W E H (evIt C W.T env it) fun ds => ∀ J H1, Ext H H1 → ItOk W (itP it (There (Nw P H) H1)) J ds H1 → R J H1
end
section
variable {W : Wd} {C : Calls} {E : XK}
theorem PE.imp {X : Cx} {e : PySem.Expr} {t t' : TE} (h : PE X e t) (hi : ∀ σ H Q, t' σ H Q → t σ H Q) : PE X e t' := ⟨fun pins s σ H Q I q => h.run pins s σ H Q I (hi σ H Q q)⟩
theorem PT.imp {X : Cx} {e : PySem.Expr} {t t' : TT} (h : PT X e t) (hi : ∀ σ H Q, t' σ H Q → t σ H Q) : PT X e t' := ⟨fun pins s σ H Q I q => h.run pins s σ H Q I (hi σ H Q q)⟩
theorem PW.imp {X : Cx} {e : PySem.Expr} {t t' : TT} (h : PW X e t) (hi : ∀ σ H Q, t' σ H Q → t σ H Q) : PW X e t' := ⟨fun wh pins s σ H Q I q => h.run wh pins s σ H Q I (hi σ H Q q)⟩
theorem PA.imp {X : Cx} {e : List PySem.Expr} {t t' : TA} (h : PA X e t) (hi : ∀ σ H Q, t' σ H Q → t σ H Q) : PA X e t' := ⟨fun pos pins s σ H Q I q => h.run pos pins s σ H Q I (hi σ H Q q)⟩
theorem PO.imp {X : Cx} {e : Option PySem.Expr} {t t' : TO} (h : PO X e t) (hi : ∀ σ H Q, t' σ H Q → t σ H Q) : PO X e t' := ⟨fun pins s σ H Q I q => h.run pins s σ H Q I (hi σ H Q q)⟩
theorem PI.imp {X : Cx} {tg e : PySem.Expr} {t t' : TI} (h : PI X tg e t) (hi : ∀ σ H Q, t' σ H Q → t σ H Q) : PI X tg e t' := ⟨fun pins s σ H Q I q => h.run pins s σ H Q I (hi σ H Q q)⟩
theorem PTs.imp {X : Cx} {e : List PySem.Expr} {t t' : TT} (h : PTs X e t) (hi : ∀ σ H Q, t' σ H Q → t σ H Q) : PTs X e t' := ⟨fun pins s σ H Q I q => h.run pins s σ H Q I (hi σ H Q q)⟩
/-- a part's reading from what is wanted of its value -/
theorem den_sh {H : Hp} {P : Addr → Prop} {env : Env} {σ : L2.St} {e : IE} {k : D → Prop} {Q : VK} (hS : Sees W H P env σ e.vars) (h : Wp W E H (evE C W.T env e) k) (hk : ∀ d, k d → ∀ v H1, Ext H H1 → Rp W H1 (Nw P H) d v → Q v H1) : den W C E e .sh σ H Q :=
  ⟨env, P, hS, h.imp fun d kd v H1 F e1 f o => hk d kd v H1 e1 (by
    cases o with
    | sh r => exact r.mono fun _ z => z.1
    | flat n r => exact r.mono fun _ z => z.1
    | obj FF hs => exact hs.elim)⟩
theorem den_T {H : Hp} {P : Addr → Prop} {env : Env} {σ : L2.St} {e : IE} {k : Bool → Prop} {Q : Bool → Hp → Prop} (hS : Sees W H P env σ e.vars) (h : Wp W E H ((evE C W.T env e).bind truD) k) (hk : ∀ b, k b → ∀ H1, Ext H H1 → Q b H1) : denT W C E e σ H Q :=
  ⟨env, P, hS, h.imp fun b kb H1 e1 => hk b kb H1 e1⟩
theorem Wp.ok_imp {α : Type} {H : Hp} {x : R α} {a : α} {k : α → Prop} (e : x = .ok a) (h : Wp W E H x k) : k a := by
  rw [e] at h; exact h
theorem truD_inv {d : D} {b : Bool} (h : truD d = .ok b) : d = .bl b := by
  cases d with
  | bl c => cases h; rfl
  | _ => cases h
theorem Wp.tru {H : Hp} {d : D} {k : Bool → Prop} (h : Wp W E H (truD d) k) : ∃ b, d = .bl b ∧ k b := by
  cases d with
  | bl c => exact ⟨c, rfl, h⟩
  | _ => exact h.elim
end
end G
end
section
set_option Elab.async false
set_option linter.all false
set_option maxRecDepth 100000
set_option maxHeartbeats 4000000
namespace G
open PySem PySem.Spec PyProof.Rows L2
def NoEx {α : Type} (x : R α) : Prop := ∀ c fs, x ≠ .ex c fs
theorem NoEx.ok {α : Type} (a : α) : NoEx (R.ok a) := fun _ _ h => nomatch h
theorem NoEx.bad {α : Type} : NoEx (R.bad : R α) := fun _ _ h => nomatch h
theorem NoEx.of {α : Type} (o : Option α) : NoEx (R.of o) := fun _ _ h => by cases o <;> cases h
theorem NoEx.bind {α β : Type} {x : R α} {f : α → R β} (h : NoEx x) (hf : ∀ a, NoEx (f a)) : NoEx (x.bind f) := fun c fs e => by
  cases x with
  | ok a => exact hf a c fs e
  | ex c' fs' => exact h c' fs' rfl
  | bad => cases e
theorem NoEx.ite {α : Type} {p : Prop} [Decidable p] {x y : R α} (h : NoEx x) (h' : NoEx y) : NoEx (if p then x else y) := by
  split
  · exact h
  · exact h'
theorem noex_bin (op : BO) (a b : D) : NoEx (binD op a b) := by
  unfold binD addD mulD
  (repeat' split) <;> first | exact .ok _ | exact .bad
theorem noex_eq (a b : D) : NoEx (eqD a b) := by
  unfold eqD
  (repeat' split) <;> first | exact .ok _ | exact .bad
theorem noex_in (a : D) (b : List D) : NoEx (inD a b) := by
  unfold inD
  (repeat' split) <;> first | exact .ok _ | exact .bad
theorem noex_cmp (op : CO) (a b : D) : NoEx (cmpD op a b) := by
  unfold cmpD
  (repeat' split) <;> first | exact .ok _ | exact .bad | exact noex_eq _ _ | exact noex_in _ _ | exact .bind (noex_eq _ _) fun _ => .ok _ | exact .bind (noex_in _ _) fun _ => .ok _ | exact .bind (.of _) fun _ => .ok _
theorem noex_ix (a b : D) : NoEx (ixD a b) := by
  unfold ixD
  (repeat' split) <;> first | exact .ok _ | exact .bad | exact .of _ | exact .bind (.of _) fun _ => .ok _ | exact .bind (.of _) fun _ => .of _
theorem noex_sl (a : D) (l h : Option Int) : NoEx (slD a l h) := by
  unfold slD
  (repeat' split) <;> first | exact .ok _ | exact .bad
theorem noex_fld (a : D) (f : Nat) : NoEx (fldD a f) := by
  unfold fldD
  (repeat' split) <;> first | exact .of _ | exact .bad
theorem noex_blt (b : BI) (ds : List D) : NoEx (bltD b ds) := by
  unfold bltD
  (repeat' split) <;> first | exact .ok _ | exact .bad | exact .bind (.of _) fun _ => .ok _
theorem noex_mth (b : MI) (o : D) (ds : List D) : NoEx (mthD b o ds) := by
  unfold mthD
  (repeat' split) <;> first | exact .ok _ | exact .bad | exact .bind (.of _) fun _ => .ok _ | exact .bind (.of _) fun _ => .ite (.ok _) .bad
theorem NoEx.got {α : Type} {W : Wd} {E : XK} {H : Hp} {x : R α} {k : α → Prop} (n : NoEx x) (h : Wp W E H x k) : ∃ a, x = .ok a ∧ k a := by
  cases x with
  | ok a => exact ⟨a, rfl, h⟩
  | ex c fs => exact absurd rfl (n c fs)
  | bad => exact h.elim
/-! ### heads of the text -/
section
variable {T : Tab} {N : List Str} {sc : Scope}
theorem chk_star : ∀ {ie : IE} {e : PySem.Expr}, chkE T N sc ie e = true → noStar e = true := fun {ie e} h => by
  cases e <;> first
    | rfl
    | (cases ie <;> simp [chkE, noStar] at h)
theorem chk_set : ∀ {ie : IE} {e : PySem.Expr}, chkE T N sc ie e = true → noSet e = true := fun {ie e} h => by
  cases e <;> first
    | rfl
    | (cases ie <;> simp [chkE, noSet] at h)
theorem chk_sl : ∀ {ie : IE} {e : PySem.Expr}, chkE T N sc ie e = true → noSl e = true := fun {ie e} h => by
  cases e <;> first
    | rfl
    | (cases ie <;> simp [chkE, noSl] at h)
theorem chkIt_set : ∀ {it : IT} {tup : Bool} {e : PySem.Expr}, chkIt T N sc tup it e = true → noSet e = true := fun {it tup e} h => by
  cases it with
  | seq a => exact chk_set (show chkE T N sc a e = true from h)
  | keys a =>
    have h : ((pthE a).isSome && chkE T N sc a e) = true := h
    rw [Bool.and_eq_true] at h
    exact chk_set h.2
  | _ => cases e <;> first
    | rfl
    | (simp [chkIt] at h)
theorem star_cons {e : PySem.Expr} (h : noStar e = true) (es : List PySem.Expr) (env : PySem.Env) : starEach (e :: es) env = (false, eval e env) :: starEach es env := by
  cases e <;> first
    | rfl
    | cases h
theorem fold_set {e : PySem.Expr} (h : noSet e = true) (env : PySem.Env) (x : Value) : foldedSetIterable e env x = pure x := by
  cases e <;> first
    | rfl
    | cases h
theorem marks_set {e : PySem.Expr} (h : noSet e = true) (op : CmpOp) : behindInMarks op e = false := by
  cases e <;> first
    | rfl
    | cases h
theorem sup_base {e : PySem.Expr} (h : noSup e = true) (n : Str) (env : PySem.Env) (whole : Sem Value) : attributeBase e n env whole = whole := by
  unfold attributeBase
  cases e with
  | Call f as ks pos =>
    cases f <;> first
      | rfl
      | (cases as <;> cases ks <;> first
        | rfl
        | cases h)
  | _ => rfl
end
end G
end
section
set_option Elab.async false
set_option linter.all false
set_option maxRecDepth 100000
set_option maxHeartbeats 4000000
namespace G
open PySem PySem.Spec PyProof.Rows L2
section
variable {W : Wd} {C : Calls} {E : XK} {k : Nat} {X : Cx} {N : List Str} {sc : Scope}
theorem Ctx.hu (c : Ctx W C k X N sc E) : X.A.units + 65 < cLine := by have := c.room.un; omega
theorem Ctx.room1 (c : Ctx W C k X N sc E) : Room k X.A := c.room.mono (Nat.le_succ _)
theorem vis_of (c : Ctx W C k X N sc E) {x : Str} (h : visB sc x = true) : Vis X.env.scope x ∧ (x == ("__debug__" : Str)) = false ∧ (x == ("__classdict__" : Str)) = false := by
  unfold visB at h
  obtain ⟨h1, h2⟩ := Bool.and_eq_true_iff.mp h
  obtain ⟨h2, h3⟩ := Bool.and_eq_true_iff.mp h2
  refine ⟨?_, by simpa using h2, by simpa using h3⟩
  unfold Vis
  rw [c.sc]
  split at h1 <;> first
    | exact .inl (by assumption)
    | exact .inr (.inl (by assumption))
    | exact .inr (.inr (by assumption))
    | cases h1
theorem gl_of (c : Ctx W C k X N sc E) {x : Str} (h : glB sc x = true) : Gl X x ∧ (x == ("__debug__" : Str)) = false ∧ x ≠ ("__name__" : Str) := by
  unfold glB at h
  obtain ⟨h1, h2⟩ := Bool.and_eq_true_iff.mp h
  obtain ⟨h2, h3⟩ := Bool.and_eq_true_iff.mp h2
  refine ⟨?_, by simpa using h2, by simpa using h3⟩
  show X.env.scope.names.lookup x = some .globalImplicit
  rw [c.sc]
  split at h1
  · assumption
  · cases h1
theorem onlySh {ie : IE} {s : S} (hf : fits W.T ie s = true) (h : ∀ s, s ≠ .sh → fits W.T ie s = false) : s = .sh := by
  by_cases hs : s = .sh
  · exact hs
  · rw [h s hs] at hf; cases hf
theorem sOk_of {ie : IE} {s : S} (hf : fits W.T ie s = true) (h : ∀ s, s ≠ .sh → s ≠ .lst .sh → fits W.T ie s = false) : sOk s := by
  by_cases hs : s = .sh
  · exact .inl hs
  · by_cases hl : s = .lst .sh
    · exact .inr hl
    · rw [h s hs hl] at hf; cases hf
/-! ### simple things -/
theorem se_v (c : Ctx W C k X N sc E) {i : Nat} {x : Str} {pos : Pos} (h1 : N[i]? = some x) (h2 : visB sc x = true) : PE X (.Name x pos) (den W C E (.v i) .sh) := by
  obtain ⟨v1, v2, v3⟩ := vis_of c h2
  refine PE.imp (pe_var (i := i) (by rw [c.n]; exact h1) v1 v2 v3) fun σ H Q ⟨env, P, hS, h⟩ => ?_
  have h : Wp W E H (getV env i) _ := h
  unfold getV at h
  split at h
  · rename_i d hd
    obtain ⟨v, e1, r⟩ := hS.2 i (by simp [IE.vars]) d hd
    exact ⟨v, e1, Res.old h r⟩
  · exact h.elim
theorem se_const {ie : IE} {e : PySem.Expr} {d : D} {v : V} (he : PE X e (tC v)) (hd : ∀ env, evE C W.T env ie = .ok d) (hn : noMut d = true) (r : ∀ H P, Rp W H P d v) {s : S} : PE X e (den W C E ie s) :=
  PE.imp he fun σ H Q ⟨env, P, hS, h⟩ => by
    rw [hd env] at h
    exact Res.flat h hn (r _ _)
theorem se_g (c : Ctx W C k X N sc E) {i : Nat} {x : Str} {pos : Pos} (h0 : i < W.T.ngs) (h1 : x = (W.T.gs i).1) (h2 : glB sc x = true) {s : S} : PE X (.Name x pos) (den W C E (.g i) s) := by
  subst h1
  obtain ⟨g1, g2, _⟩ := gl_of c h2
  obtain ⟨t, ht⟩ := c.facts.gs i h0
  exact se_const (pe_glob g1 ht (v := .str (mk (W.T.gs i).2)) ⟨t, rfl⟩ g2) (fun _ => rfl) rfl fun _ _ => .str _
theorem nw2 {H H1 : Hp} {P : Addr → Prop} (e : Ext H H1) {a : Addr} (z : Nw (Nw P H) H1 a) : Nw P H a := z.elim id fun z => .inr (e.free z)
/-- a part's reading, told from the heap at the whole's beginning -/
theorem den_n {H0 H : Hp} {P : Addr → Prop} {env : Env} {σ : L2.St} {e : IE} {k : D → Prop} {Q : VK} (e0 : Ext H0 H) (hS : Sees W H0 P env σ e.vars) (h : Wp W E H0 (evE C W.T env e) k) (hk : ∀ d, k d → ∀ v H1, Ext H0 H1 → Ext H H1 → Rp W H1 (Nw P H0) d v → Q v H1) : den W C E e .sh σ H Q :=
  den_sh (hS.up e0) (h.up e0) fun d kd v H1 e1 r => hk d kd v H1 (e0.trans e1) e1 (r.mono fun _ z => nw2 e0 z)
theorem den_o {H0 H : Hp} {P : Addr → Prop} {env : Env} {σ : L2.St} {e : IO} {k : Option Int → Prop} {Q : Option Int → Hp → Prop} (e0 : Ext H0 H) (hS : Sees W H0 P env σ e.vars) (h : Wp W E H0 (evO C W.T env e) k) (hk : ∀ d, k d → ∀ H1, Ext H0 H1 → Ext H H1 → Q d H1) : denO W C E e σ H Q :=
  ⟨env, _, hS.up e0, (h.up e0).imp fun d kd H1 e1 => hk d kd H1 (e0.trans e1) e1⟩
theorem den_t {H0 H : Hp} {P : Addr → Prop} {env : Env} {σ : L2.St} {e : IE} {k : Bool → Prop} {Q : Bool → Hp → Prop} (e0 : Ext H0 H) (hS : Sees W H0 P env σ e.vars) (h : Wp W E H0 ((evE C W.T env e).bind truD) k) (hk : ∀ d, k d → ∀ H1, Ext H0 H1 → Ext H H1 → Q d H1) : denT W C E e σ H Q :=
  ⟨env, _, hS.up e0, (h.up e0).imp fun d kd H1 e1 => hk d kd H1 (e0.trans e1) e1⟩
theorem Res.bl {H H1 : Hp} {P : Addr → Prop} {s : S} {b : Bool} {Q : VK} (q : Res W H P s (.bl b) Q) (e : Ext H H1) : Q (.bl b) H1 := (q.up e).flat rfl (.bl b)
/-- the same value, some steps on -/
theorem den_same {H H1 : Hp} {P : Addr → Prop} {env : Env} {σ : L2.St} {e : IE} {s : S} {Q : VK} (e1 : Ext H H1) (hS : Sees W H P env σ e.vars) (h : Wp W E H (evE C W.T env e) fun d => Res W H P s d Q) : den W C E e s σ H1 Q :=
  ⟨env, _, hS.up e1, (h.up e1).imp fun d q => Res.up q e1⟩
theorem se_bin {op : BO} {a b : IE} {l r : PySem.Expr} {pos : Pos} (ha : PE X l (den W C E a .sh)) (hb : PE X r (den W C E b .sh)) {s : S} (hs : sOk s) : PE X (.BinOp l (boE op) r pos) (den W C E (.bin op a b) s) :=
  PE.imp (pe_op (op_bin (W := W) op hs) ha hb) fun σ H Q ⟨env, P, hS, h⟩ => by
    have h : Wp W E H ((evE C W.T env a).bind fun x => (evE C W.T env b).bind fun y => binD op x y) _ := h
    refine den_n (Ext.refl H) (Sees.l hS) h.bind fun da ha v H1 e1 _ r1 => ?_
    refine den_n e1 (Sees.r hS) ha.bind fun db hb u H2 e2 e12 r2 => ?_
    obtain ⟨d, e, q⟩ := (noex_bin _ _ _).got hb
    exact ⟨Nw P H, da, db, d, r1.ext e12, r2, e, Res.up q e2⟩
theorem se_neg {a : IE} {l : PySem.Expr} {pos : Pos} (ha : PE X l (den W C E a .sh)) {s : S} : PE X (.UnaryOp .USub l pos) (den W C E (.neg a) s) :=
  PE.imp (pe_un un_neg ha) fun σ H Q ⟨env, P, hS, h⟩ => by
    have h : Wp W E H ((evE C W.T env a).bind fun x => match x with | .int i => R.ok (D.int (-i)) | _ => .bad) _ := h
    refine den_n (Ext.refl H) hS h.bind fun da ha v H1 e1 _ r1 => ?_
    cases r1 with
    | int i => exact ⟨i, rfl, (Res.up ha e1).flat rfl (.int _)⟩
    | _ => exact ha.elim
theorem se_not {a : IE} {l : PySem.Expr} {pos : Pos} (ha : PE X l (den W C E a .sh)) {s : S} : PE X (.UnaryOp .Not l pos) (den W C E (.not a) s) :=
  PE.imp (pe_not ha) fun σ H Q ⟨env, P, hS, h⟩ => by
    have h : Wp W E H ((evE C W.T env a).bind fun x => (truD x).bind fun b => R.ok (D.bl (!b))) _ := h
    refine den_n (Ext.refl H) hS h.bind fun da ha v H1 e1 _ r1 => ?_
    obtain ⟨b, rfl, q⟩ := Wp.tru ha.bind
    cases r1
    exact ⟨b, rfl, Res.bl q e1⟩
theorem se_and {a b : IE} {l r : PySem.Expr} {es : List PySem.Expr} {pos : Pos} {s : S} (ha : PE X l (den W C E a .sh)) (hb : PE X (.BoolOp .And (r :: es) pos) (den W C E b .sh)) (hs : s = .sh) : PE X (.BoolOp .And (l :: r :: es) pos) (den W C E (.and a b) s) :=
  PE.imp (pe_and ha hb) fun σ H Q ⟨env, P, hS, h⟩ => by
    subst hs
    have h : Wp W E H ((evE C W.T env a).bind fun x => (truD x).bind fun c => if c then evE C W.T env b else R.ok (D.bl false)) _ := h
    refine den_n (Ext.refl H) (Sees.l hS) h.bind fun da ha v H1 e1 _ r1 => ?_
    obtain ⟨c, rfl, q⟩ := Wp.tru ha.bind
    cases r1
    refine ⟨c, rfl, ?_⟩
    cases c with
    | true => exact den_same e1 (Sees.r hS) q
    | false => exact Res.bl q e1
theorem se_or {a b : IE} {l r : PySem.Expr} {es : List PySem.Expr} {pos : Pos} {s : S} (ha : PE X l (den W C E a .sh)) (hb : PE X (.BoolOp .Or (r :: es) pos) (den W C E b .sh)) (hs : s = .sh) : PE X (.BoolOp .Or (l :: r :: es) pos) (den W C E (.or a b) s) :=
  PE.imp (pe_or ha hb) fun σ H Q ⟨env, P, hS, h⟩ => by
    subst hs
    have h : Wp W E H ((evE C W.T env a).bind fun x => (truD x).bind fun c => if c then R.ok (D.bl true) else evE C W.T env b) _ := h
    refine den_n (Ext.refl H) (Sees.l hS) h.bind fun da ha v H1 e1 _ r1 => ?_
    obtain ⟨c, rfl, q⟩ := Wp.tru ha.bind
    cases r1
    refine ⟨c, rfl, ?_⟩
    cases c with
    | false => exact den_same e1 (Sees.r hS) q
    | true => exact Res.bl q e1
theorem se_cmp (c : Ctx W C k X N sc E) {op : CO} {a b : IE} {l r : PySem.Expr} {pos : Pos} (ha : PE X l (den W C E a .sh)) (hb : PE X r (den W C E b .sh)) (hm : noSet r = true) {s : S} : PE X (.Compare l [coE op] [r] pos) (den W C E (.cmp op a b) s) :=
  PE.imp (pe_cmpR (op_cmp c.K c.hu op) ha hb (marks_set hm _)) fun σ H Q ⟨env, P, hS, h⟩ => by
    have h : Wp W E H ((evE C W.T env a).bind fun x => (evE C W.T env b).bind fun y => (cmpD op x y).bind fun c => R.ok (D.bl c)) _ := h
    refine den_n (Ext.refl H) (Sees.l hS) h.bind fun da ha v H1 e1 _ r1 => ?_
    refine den_n e1 (Sees.r hS) ha.bind fun db hb u H2 e2 e12 r2 => ?_
    obtain ⟨d, e, q⟩ := (noex_cmp _ _ _).got hb.bind
    exact ⟨Nw P H, da, db, d, r1.ext e12, r2, e, Res.bl q e2⟩
theorem st_cmp (c : Ctx W C k X N sc E) {op : CO} {a b : IE} {l r : PySem.Expr} {pos : Pos} (ha : PE X l (den W C E a .sh)) (hb : PE X r (den W C E b .sh)) (hm : noSet r = true) : PT X (.Compare l [coE op] [r] pos) (denT W C E (.cmp op a b)) :=
  PT.imp (pt_cmpR (op_cmp c.K c.hu op) ha hb (marks_set hm _)) fun σ H Q ⟨env, P, hS, h⟩ => by
    have h : Wp W E H (((evE C W.T env a).bind fun x => (evE C W.T env b).bind fun y => (cmpD op x y).bind fun c => R.ok (D.bl c)).bind truD) _ := h
    refine den_n (Ext.refl H) (Sees.l hS) h.bind.bind fun da ha v H1 e1 _ r1 => ?_
    refine den_n e1 (Sees.r hS) (Wp.bind ha) fun db hb u H2 e2 e12 r2 => ?_
    obtain ⟨d, e, q⟩ := (noex_cmp _ _ _).got (Wp.bind hb)
    exact ⟨Nw P H, da, db, d, r1.ext e12, r2, e, d, rfl, q H2 e2⟩
theorem se_cmp2 (c : Ctx W C k X N sc E) {o1 o2 : CO} {a b d : IE} {l r q : PySem.Expr} {pos : Pos} (ha : PE X l (den W C E a .sh)) (hb : PE X r (den W C E b .sh)) (hd : PE X q (den W C E d .sh)) (hm : noSet q = true) {s : S} : PE X (.Compare l [coE o1, coE o2] [r, q] pos) (den W C E (.cmp2 o1 o2 a b d) s) :=
  PE.imp (pe_chain (op_cmp c.K c.hu o1) (op_cmp c.K c.hu o2) ha hb hd (marks_set hm _)) fun σ H Q ⟨env, P, hS, h⟩ => by
    have h : Wp W E H ((evE C W.T env a).bind fun x => (evE C W.T env b).bind fun y => (cmpD o1 x y).bind fun k => if k then (evE C W.T env d).bind fun z => (cmpD o2 y z).bind fun c => R.ok (D.bl c) else R.ok (D.bl false)) _ := h
    refine den_n (Ext.refl H) (Sees.l hS) h.bind fun da ha v H1 e1 _ r1 => ?_
    refine den_n e1 (Sees.l (Sees.r hS)) ha.bind fun db hb u H2 e2 e12 r2 => ?_
    obtain ⟨k1, e, q⟩ := (noex_cmp _ _ _).got hb.bind
    refine ⟨Nw P H, da, db, k1, r1.ext e12, r2, e, k1, rfl, ?_⟩
    cases k1 with
    | false => exact Res.bl q e2
    | true =>
      refine den_n e2 (Sees.r (Sees.r hS)) (Wp.bind q) fun dd hd t H3 e3 e23 r3 => ?_
      obtain ⟨k2, e', q'⟩ := (noex_cmp _ _ _).got (Wp.bind hd)
      exact ⟨Nw P H, db, dd, k2, r2.ext e23, r3, e', Res.bl q' e3⟩
theorem st_cmp2 (c : Ctx W C k X N sc E) {o1 o2 : CO} {a b d : IE} {l r q : PySem.Expr} {pos : Pos} (ha : PE X l (den W C E a .sh)) (hb : PE X r (den W C E b .sh)) (hd : PE X q (den W C E d .sh)) (hm : noSet q = true) : PT X (.Compare l [coE o1, coE o2] [r, q] pos) (denT W C E (.cmp2 o1 o2 a b d)) :=
  PT.imp (pt_chain (op_cmp c.K c.hu o1) (op_cmp c.K c.hu o2) ha hb hd (marks_set hm _)) fun σ H Q ⟨env, P, hS, h⟩ => by
    have h : Wp W E H (((evE C W.T env a).bind fun x => (evE C W.T env b).bind fun y => (cmpD o1 x y).bind fun k => if k then (evE C W.T env d).bind fun z => (cmpD o2 y z).bind fun c => R.ok (D.bl c) else R.ok (D.bl false)).bind truD) _ := h
    refine den_n (Ext.refl H) (Sees.l hS) h.bind.bind fun da ha v H1 e1 _ r1 => ?_
    refine den_n e1 (Sees.l (Sees.r hS)) (Wp.bind ha) fun db hb u H2 e2 e12 r2 => ?_
    obtain ⟨k1, e, q⟩ := (noex_cmp _ _ _).got (Wp.bind hb)
    refine ⟨Nw P H, da, db, k1, r1.ext e12, r2, e, k1, rfl, ?_⟩
    cases k1 with
    | false => exact ⟨false, rfl, q H2 e2⟩
    | true =>
      refine den_n e2 (Sees.r (Sees.r hS)) (Wp.bind q) fun dd hd t H3 e3 e23 r3 => ?_
      obtain ⟨k2, e', q'⟩ := (noex_cmp _ _ _).got (Wp.bind hd)
      exact ⟨Nw P H, db, dd, k2, r2.ext e23, r3, e', k2, rfl, q' H3 e3⟩
theorem se_ife {d a b : IE} {t l r : PySem.Expr} {pos : Pos} {s : S} (hd : PT X t (denT W C E d)) (ha : PE X l (den W C E a s)) (hb : PE X r (den W C E b s)) : PE X (.IfExp t l r pos) (den W C E (.ife d a b) s) :=
  PE.imp (pe_ifExp hd ha hb) fun σ H Q ⟨env, P, hS, h⟩ => by
    have h : Wp W E H ((evE C W.T env d).bind fun x => (truD x).bind fun k => if k then evE C W.T env a else evE C W.T env b) _ := h
    have h2 : Wp W E H ((evE C W.T env d).bind truD) fun k => Wp W E H (if k then evE C W.T env a else evE C W.T env b) fun d => Res W H P s d Q := by
      cases e : evE C W.T env d with
      | ok x => rw [e] at h; exact Wp.bind h
      | ex c fs => rw [e] at h; exact h
      | bad => rw [e] at h; exact h
    refine den_t (Ext.refl H) (Sees.l hS) h2 fun k hk H1 e1 _ => ?_
    cases k with
    | true => exact den_same e1 (Sees.l (Sees.r hS)) hk
    | false => exact den_same e1 (Sees.r (Sees.r hS)) hk
theorem se_ix (c : Ctx W C k X N sc E) {a i : IE} {l r : PySem.Expr} {pos : Pos} (ha : PE X l (den W C E a .sh)) (hi : PE X r (den W C E i .sh)) (hp : PlainIx r) : PE X (.Subscript l r pos) (den W C E (.ix a i) .sh) :=
  PE.imp (pe_ix (ix_any c.K c.hu) ha hi hp) fun σ H Q ⟨env, P, hS, h⟩ => by
    have h : Wp W E H ((evE C W.T env a).bind fun x => (evE C W.T env i).bind fun y => ixD x y) _ := h
    refine den_n (Ext.refl H) (Sees.l hS) h.bind fun da ha v H1 e1 _ r1 => ?_
    refine den_n e1 (Sees.r hS) ha.bind fun db hb u H2 e2 e12 r2 => ?_
    obtain ⟨d, e, q⟩ := (noex_ix _ _).got hb
    exact ⟨Nw P H, da, db, d, r1.ext e12, r2, e, Res.up q e2⟩
theorem se_sl (c : Ctx W C k X N sc E) {a : IE} {lo hi : IO} {l : PySem.Expr} {lo' hi' : Option PySem.Expr} {pos p2 : Pos} {s : S} (hs : sOk s) (ha : PE X l (den W C E a .sh)) (hl : PO X lo' (denO W C E lo)) (hh : PO X hi' (denO W C E hi)) : PE X (.Subscript l (.Slice lo' hi' none p2) pos) (den W C E (.sl a lo hi) s) :=
  PE.imp (pe_slice (sl_any (W := W) c.K hs) ha hl hh) fun σ H Q ⟨env, P, hS, h⟩ => by
    have h : Wp W E H ((evE C W.T env a).bind fun x => (evO C W.T env lo).bind fun l => (evO C W.T env hi).bind fun h => slD x l h) _ := h
    refine den_n (Ext.refl H) (Sees.l hS) h.bind fun da ha v H1 e1 _ r1 => ?_
    refine den_o e1 (Sees.l (Sees.r hS)) ha.bind fun l hl H2 e2 e12 => ?_
    refine den_o e2 (Sees.r (Sees.r hS)) hl.bind fun u hu H3 e3 e23 => ?_
    obtain ⟨d, e, q⟩ := (noex_sl _ _ _).got hu
    exact ⟨Nw P H, da, d, r1.ext (e12.trans e23), e, Res.up q e3⟩
theorem so_none : PO X none (denO W C E .none) := PO.imp po_none fun σ H Q ⟨env, P, hS, h⟩ => h H (Ext.refl H)
theorem so_some {a : IE} {l : PySem.Expr} (ha : PE X l (den W C E a .sh)) : PO X (some l) (denO W C E (.some a)) :=
  PO.imp (po_some ha) fun σ H Q ⟨env, P, hS, h⟩ => by
    have h : Wp W E H ((evE C W.T env a).bind fun x => match x with | .int i => R.ok (some i) | _ => .bad) _ := h
    refine den_n (Ext.refl H) hS h.bind fun da ha v H1 e1 _ r1 => ?_
    cases r1 with
    | int i => exact ⟨i, rfl, ha H1 e1⟩
    | _ => exact ha.elim
theorem se_rev (c : Ctx W C k X N sc E) {a : IE} {l : PySem.Expr} {j : Nat} {p1 p2 p3 pos : Pos} {s : S} (hs : sOk s) (ha : PE X l (den W C E a .sh)) : PE X (.Subscript l (.Slice none none (some (.UnaryOp .USub (.Constant (.int 1) j p1) p2)) p3) pos) (den W C E (.rev a) s) :=
  PE.imp (pe_revL ha) fun σ H Q ⟨env, P, hS, h⟩ => by
    have h : Wp W E H ((evE C W.T env a).bind fun x => match x with | .lst xs => R.ok (D.lst xs.reverse) | _ => .bad) _ := h
    refine den_n (Ext.refl H) hS h.bind fun da ha v H1 e1 _ r1 => ?_
    cases r1 with
    | lst h1 h2 h3 h4 => exact ⟨_, _, rfl, .of h1, fun p hp => (Res.up ha e1).newL hs (RpL.rev ⟨h3, h4⟩) hp⟩
    | _ => exact ha.elim
theorem se_fld (c : Ctx W C k X N sc E) {a : IE} {f : Nat} {l : PySem.Expr} {pos : Pos} (hf : f < W.T.nfl) (ha : PE X l (den W C E a .sh)) (hb : noSup l = true) : PE X (.Attribute l (W.T.fname f) pos) (den W C E (.fld a f) .sh) :=
  PE.imp (pe_fld ha (sup_base hb _ _ _)) fun σ H Q ⟨env, P, hS, h⟩ => by
    have h : Wp W E H ((evE C W.T env a).bind fun x => fldD x f) _ := h
    refine den_n (Ext.refl H) hS h.bind fun da ha v H1 e1 _ r1 => ?_
    obtain ⟨d, e, q⟩ := (noex_fld _ _).got ha
    cases r1 with
    | @ins p dx cl fs ds h1 h2 h3 h4 h5 =>
      obtain ⟨i, u, a1, a2, a3, _, _⟩ := FsR.get c.facts.finj (W := W) ⟨h3, h4⟩ (R.of_ok (show R.of (getF ds f) = .ok d from e))
      exact ⟨p, _, dx, fs, u, rfl, h1, c.K ▸ c.facts.cls cl, c.K ▸ c.facts.nat cl f hf, a3, (Res.up q e1).old (h5 i _ _ a1 a2)⟩
    | _ => cases e
end
end G
end
section
set_option Elab.async false
set_option linter.all false
set_option maxRecDepth 100000
set_option maxHeartbeats 4000000
namespace G
open PySem PySem.Spec PyProof.Rows L2
section
variable {W : Wd} {C : Calls} {E : XK} {k : Nat} {X : Cx} {N : List Str} {sc : Scope}
theorem Sees.apart {H H1 : Hp} {P : Addr → Prop} {env : Env} {σ : L2.St} {vs : List Nat} (h : Sees W H P env σ vs) (e : Ext H H1) {F : Addr → Prop} (hf : ∀ a, F a → H a = none) : Sees W H1 (fun a => Nw P H a ∧ ¬ F a) env σ vs := ⟨h.1, fun i hi d he => by
  obtain ⟨v, h1, h2⟩ := h.2 i hi d he
  exact ⟨v, h1, h2.apart e hf⟩⟩
/-! ### tests -/
theorem st_val {ie : IE} {x : PySem.Expr} (h : PE X x (den W C E ie .sh)) (he : ∀ whole, isTrue x X.env whole = (do let v ← whole; standAt x.pos; holding [v] (truthy v)) := by intro _; rfl) : PT X x (denT W C E ie) :=
  PT.imp (pt_val h he) fun σ H Q ⟨env, P, hS, h⟩ => den_sh hS h.bind fun d kd v H1 e1 r1 => by
    obtain ⟨b, rfl, q⟩ := Wp.tru kd
    cases r1
    exact ⟨b, rfl, q H1 e1⟩
theorem st_not {ie : IE} {x : PySem.Expr} {pos : Pos} (h : PT X x (denT W C E ie)) : PT X (.UnaryOp .Not x pos) (denT W C E (.not ie)) :=
  PT.imp (pt_not h) fun σ H Q ⟨env, P, hS, h⟩ => by
    have h : Wp W E H (((evE C W.T env ie).bind fun x => (truD x).bind fun b => R.ok (D.bl (!b))).bind truD) _ := h
    refine ⟨env, P, hS, ?_⟩
    have h2 : Wp W E H ((evE C W.T env ie).bind truD) fun b => ∀ H', Ext H H' → Q (!b) H' := by
      cases e : evE C W.T env ie with
      | ok x =>
        rw [e] at h
        show Wp W E H (truD x) _
        have h : Wp W E H (((truD x).bind fun b => R.ok (D.bl (!b))).bind truD) _ := h
        exact h.bind.bind
      | ex c fs => rw [e] at h; exact h
      | bad => rw [e] at h; exact h
    exact h2
/-- the outcome of two tests in a row -/
theorem wp_then {H : Hp} {a b : R D} {k : Bool → Prop} {f : Bool → R D} (h : Wp W E H ((a.bind fun x => (truD x).bind f).bind truD) k) : Wp W E H (a.bind truD) fun c => Wp W E H ((f c).bind truD) k := by
  cases a with
  | ok x =>
    have h : Wp W E H (((truD x).bind f).bind truD) k := h
    show Wp W E H (truD x) _
    cases e : truD x with
    | ok b => rw [e] at h; exact h
    | ex c fs => rw [e] at h; exact h
    | bad => rw [e] at h; exact h
  | ex c fs => exact h
  | bad => exact h
theorem sw_and {a b : IE} {l r : PySem.Expr} {es : List PySem.Expr} {pos : Pos} (ha : PT X l (denT W C E a)) (hb : PW X (.BoolOp .And (r :: es) pos) (denT W C E b)) : PW X (.BoolOp .And (l :: r :: es) pos) (denT W C E (.and a b)) :=
  PW.imp (pw_and ha hb) fun σ H Q ⟨env, P, hS, h⟩ => by
    have h : Wp W E H (((evE C W.T env a).bind fun x => (truD x).bind fun c => if c then evE C W.T env b else R.ok (D.bl false)).bind truD) _ := h
    refine den_t (Ext.refl H) (Sees.l hS) (wp_then (b := .bad) h) fun c hc H1 e1 _ => ?_
    cases c with
    | true => exact den_t e1 (Sees.r hS) hc fun d hd H2 e2 _ => hd H2 e2
    | false => exact hc H1 e1
theorem sw_or {a b : IE} {l r : PySem.Expr} {es : List PySem.Expr} {pos : Pos} (ha : PT X l (denT W C E a)) (hb : PW X (.BoolOp .Or (r :: es) pos) (denT W C E b)) : PW X (.BoolOp .Or (l :: r :: es) pos) (denT W C E (.or a b)) :=
  PW.imp (pw_or ha hb) fun σ H Q ⟨env, P, hS, h⟩ => by
    have h : Wp W E H (((evE C W.T env a).bind fun x => (truD x).bind fun c => if c then R.ok (D.bl true) else evE C W.T env b).bind truD) _ := h
    refine den_t (Ext.refl H) (Sees.l hS) (wp_then (b := .bad) h) fun c hc H1 e1 _ => ?_
    cases c with
    | false => exact den_t e1 (Sees.r hS) hc fun d hd H2 e2 _ => hd H2 e2
    | true => exact hc H1 e1
/-! ### lists of expressions -/
theorem RpO.shL {H H' : Hp} {P : Addr → Prop} {ds : List D} {vs : List V} {FF : Nat → Addr → Prop} {ss : Nat → S} (hs : ∀ i, ss i = .sh) (r : RpO W H H' P ss ds vs FF) : RpL W H' (Nw P H) ds vs :=
  ⟨r.1, fun i d v e u => by
    have o := r.2.2.2 i d v e u
    rw [hs i] at o
    cases o with
    | sh r => exact r.mono fun _ z => z.1
    | flat n r => exact r.mono fun _ z => z.1
    | obj FF hs => exact hs.elim⟩
theorem sl_nil {ss : Nat → S} : PA X [] (denL W C E .nil ss) :=
  PA.imp pa_nil fun σ H Q ⟨env, P, hS, h⟩ => h [] H (fun _ _ => False) (Ext.refl H) ⟨rfl, fun _ a z => z.elim, fun _ _ _ z => z.elim, fun i d v e => by simp at e⟩
def consF (F : Addr → Prop) (FF : Nat → Addr → Prop) : Nat → Addr → Prop
  | 0 => F
  | i + 1 => FF i
theorem sl_cons {x : PySem.Expr} {xs : List PySem.Expr} {e : IE} {r : IL} {ss : Nat → S} (hx : noStar x = true) (ha : PE X x (den W C E e (ss 0))) (hr : PA X xs (denL W C E r fun i => ss (i + 1))) : PA X (x :: xs) (denL W C E (.cons e r) ss) :=
  PA.imp (pa_cons ha hr (star_cons hx _ _)) fun σ H Q ⟨env, P, hS, h⟩ => by
    have h : Wp W E H ((evE C W.T env e).bind fun d => (evL C W.T env r).bind fun ds => R.ok (d :: ds)) _ := h
    refine ⟨env, P, Sees.l hS, h.bind.imp fun d hd v H1 F e1 f1 o1 => ?_⟩
    have hf : ∀ a, F a → H a = none := fun a z => (f1 a z).1
    refine ⟨env, fun a => Nw P H a ∧ ¬ F a, Sees.apart (Sees.r hS) e1 hf, (hd.bind.up e1).imp fun ds q us H2 FF e2 r2 => ?_⟩
    obtain ⟨hl, hF, hD, hO⟩ := r2
    refine q (v :: us) H2 (consF F FF) (e1.trans e2) ⟨by simp [hl], fun i a z => ?_, fun i j a z z' => ?_, fun i d' v' ed ev => ?_⟩
    · cases i with
      | zero =>
        obtain ⟨h1, o, h2, h3⟩ := f1 a z
        exact ⟨h1, o, e2 a o h2, h3⟩
      | succ i => exact ⟨e1.free (hF i a z).1, (hF i a z).2⟩
    · have clash : ∀ j, F a → FF j a → False := fun j z z' => by
        obtain ⟨_, o, h2, _⟩ := f1 a z
        rw [(hF j a z').1] at h2
        cases h2
      cases i with
      | zero =>
        cases j with
        | zero => rfl
        | succ j => exact (clash j z z').elim
      | succ i =>
        cases j with
        | zero => exact (clash i z' z).elim
        | succ j => rw [hD i j a z z']
    · cases i with
      | zero =>
        obtain rfl : d = d' := by simpa using ed
        obtain rfl : v = v' := by simpa using ev
        refine (o1.there.keep e2.kp (fun a z => ⟨z.1.1, fun j => ?_⟩) fun a o _ g => e2 a o g)
        cases j with
        | zero => exact z.1.2
        | succ j =>
          intro zj
          obtain ⟨_, o, g⟩ := z
          rw [(hF j a zj).1] at g
          cases g
      | succ i =>
        refine (hO i d' v' (by simpa using ed) (by simpa using ev)).mono fun a z => ⟨z.1.elim (fun z => z.1) fun z => .inr (e1.free z), fun j => ?_⟩
        cases j with
        | zero =>
          intro fa
          rcases z.1 with z | z
          · exact z.2 fa
          · obtain ⟨_, o, g, _⟩ := f1 a fa
            rw [z] at g
            cases g
        | succ j => exact z.2 j
theorem evL_len : ∀ {es : IL} {env : Env} {T : Tab} {ds : List D}, evL C T env es = .ok ds → ds.length = es.len
  | .nil, env, T, ds, h => by cases h; rfl
  | .cons e r, env, T, ds, h => by
    have h : (evE C T env e).bind (fun d => (evL C T env r).bind fun ds => R.ok (d :: ds)) = .ok ds := h
    cases h1 : evE C T env e with
    | ok d =>
      rw [h1] at h
      cases h2 : evL C T env r with
      | ok q =>
        rw [h2] at h
        have h : R.ok (d :: q) = R.ok ds := h
        cases h
        simp [IL.len, evL_len h2]
      | ex c fs => rw [h2] at h; cases h
      | bad => rw [h2] at h; cases h
    | ex c fs => rw [h1] at h; cases h
    | bad => rw [h1] at h; cases h
theorem Wp.keepEq {α : Type} {H : Hp} {x : R α} {k : α → Prop} (h : Wp W E H x k) : Wp W E H x fun a => x = .ok a ∧ k a := by
  cases x with
  | ok a => exact ⟨rfl, h⟩
  | ex c fs => exact h
  | bad => exact h
theorem thousand : 1000 ≤ sizeLine := by rw [sizeLine_eq]; omega
def allF (FF : Nat → Addr → Prop) : Addr → Prop := fun a => ∃ i, FF i a
theorem at_sh : ∀ i, S.at .sh i = .sh := fun _ => rfl
theorem se_tup {es : IL} {xs : List PySem.Expr} {s : S} {c : Nat} {pos : Pos} (hs : s = .sh ∨ isTc s = true) (hl : es.len ≤ 1000) (ha : PA X xs (denL W C E es s.at)) : PE X (.Tuple xs c pos) (den W C E (.tup es) s) :=
  PE.imp (pe_tup ha) fun σ H Q ⟨env, P, hS, h⟩ => by
    have h : Wp W E H ((evL C W.T env es).bind fun ds => R.ok (D.tup ds)) _ := h
    refine ⟨env, P, hS, h.bind.keepEq.imp fun ds ⟨hd, q⟩ vs H1 FF e1 r1 => ?_⟩
    have q : Res W H P s (.tup ds) Q := q
    refine ⟨by have := evL_len hd; have := r1.1; have := thousand; omega, fun p hp => ?_⟩
    have e2 : Ext H (upd H1 p (.tup vs)) := e1.trans (Ext.new hp)
    have hF := r1.2.1
    rcases hs with rfl | hs
    · have r2 := r1.shL at_sh
      refine (q _ _ (fun _ => False) e2 (fun _ z => z.elim) (.sh (.tup upd_same r2.1 fun i d v e u => ?_)))
      exact (r2.2 i d v e u).keep (Ext.new hp).kp fun a z => ⟨z, fun z => z⟩
    · cases s with
      | tc a r =>
        refine q _ _ (allF FF) e2 (fun a z => ?_) (.tup FF upd_same r1.1 (fun i d v e u => ?_) (fun i b z => ⟨i, z⟩) r1.2.2.1)
        · obtain ⟨i, z⟩ := z
          obtain ⟨h1, o, h2, h3⟩ := hF i a z
          exact ⟨h1, o, Ext.new hp a o h2, h3⟩
        · exact (r1.2.2.2 i d v e u).keep (Ext.new hp).kp (fun a z => ⟨z.1, fun ⟨j, zj⟩ => z.2 j zj⟩) fun a o _ g => Ext.new hp a o g
      | _ => cases hs
def eltS : S → S
  | .lst s => s
  | _ => .sh
theorem se_lst {es : IL} {xs : List PySem.Expr} {s : S} {pos : Pos} (hs : s = .sh ∨ ∃ t, s = .lst t) (hl : es.len ≤ 1000) (ha : PA X xs (denL W C E es fun _ => eltS s)) : PE X (.List xs pos) (den W C E (.lst es) s) :=
  PE.imp (pe_lst ha) fun σ H Q ⟨env, P, hS, h⟩ => by
    have h : Wp W E H ((evL C W.T env es).bind fun ds => R.ok (D.lst ds)) _ := h
    refine ⟨env, P, hS, h.bind.keepEq.imp fun ds ⟨hd, q⟩ vs H1 FF e1 r1 => ?_⟩
    have q : Res W H P s (.lst ds) Q := q
    refine ⟨by have := evL_len hd; have := r1.1; have := thousand; omega, fun p hp => ?_⟩
    have e2 : Ext H (upd H1 p (.lst vs)) := e1.trans (Ext.new hp)
    have hF := r1.2.1
    rcases hs with rfl | ⟨t, rfl⟩
    · have r2 := r1.shL fun _ => rfl
      refine (q _ _ (fun _ => False) e2 (fun _ z => z.elim) (.sh (.lst upd_same ⟨.inr (e1.free hp), fun z => z⟩ r2.1 fun i d v e u => ?_)))
      exact (r2.2 i d v e u).keep (Ext.new hp).kp fun a z => ⟨z, fun z => z⟩
    · refine q _ _ (fun a => a = p ∨ allF FF a) e2 (fun a z => ?_) (.lst FF upd_same (.inl rfl) r1.1 (fun i d v e u => ?_) (fun i b z => ⟨.inr ⟨i, z⟩, fun e => ?_⟩) r1.2.2.1)
      · rcases z with rfl | ⟨i, z⟩
        · exact ⟨e1.free hp, _, upd_same, fun z => z⟩
        · obtain ⟨h1, o, h2, h3⟩ := hF i a z
          exact ⟨h1, o, Ext.new hp a o h2, h3⟩
      · refine (r1.2.2.2 i d v e u).there.keep (Ext.new hp).kp (fun a z => ⟨z.1.1, fun z' => ?_⟩) fun a o _ g => Ext.new hp a o g
        rcases z' with rfl | ⟨j, zj⟩
        · obtain ⟨_, o, g⟩ := z
          rw [hp] at g
          cases g
        · exact z.1.2 j zj
      · subst e
        obtain ⟨_, o, g, _⟩ := hF i _ z
        rw [hp] at g
        cases g
/-! ### an empty dict -/
theorem se_dnew {t : Bool} {s : S} {pos : Pos} (hs : s = .sh ∨ s = .dic) : PE X (.Dict [] [] pos) (den W C E (.dnew t) s) := by
  have go : ∀ {H : Hp} {P : Addr → Prop} {Q : VK} {p : Addr} {o : HO}, (t = false ∧ o = .dK [] ∨ t = true ∧ o = .dT []) → Res W H P s (.dic t []) Q → H p = none → Q (.ref p) (upd H p o) := fun {H P Q p o} ho q hp => by
    have nf : ¬ isFix o := by rcases ho with ⟨_, rfl⟩ | ⟨_, rfl⟩ <;> exact fun z => z
    rcases hs with rfl | rfl
    · refine q _ _ (fun _ => False) (Ext.new hp) (fun _ z => z.elim) (.sh ?_)
      rcases ho with ⟨rfl, rfl⟩ | ⟨rfl, rfl⟩
      · exact .dicK (.inl upd_same) ⟨.inr hp, fun z => z⟩ rfl (fun i d v e => by simp at e) fun i d v e => by simp at e
      · exact .dicT (.inl upd_same) ⟨.inr hp, fun z => z⟩ rfl (fun i d v e => by simp at e) fun i d v e => by simp at e
    · refine q _ _ (one p) (Ext.new hp) (fun a z => ?_) ?_
      · cases z; exact ⟨hp, _, upd_same, nf⟩
      · rcases ho with ⟨rfl, rfl⟩ | ⟨rfl, rfl⟩
        · exact .dicK upd_same rfl rfl (fun i d v e => by simp at e) fun i d v e => by simp at e
        · exact .dicT upd_same rfl rfl (fun i d v e => by simp at e) fun i d v e => by simp at e
  cases t with
  | false => exact PE.imp pe_dnewK fun σ H Q ⟨env, P, hS, h⟩ p hp => go (.inl ⟨rfl, rfl⟩) h hp
  | true => exact PE.imp pe_dnewT fun σ H Q ⟨env, P, hS, h⟩ p hp => go (.inr ⟨rfl, rfl⟩) h hp
end
end G
end
section
set_option Elab.async false
set_option linter.all false
set_option maxRecDepth 100000
set_option maxHeartbeats 4000000
namespace G
open PySem PySem.Spec PyProof.Rows L2
section
variable {W : Wd} {C : Calls} {E : XK} {k : Nat} {X : Cx} {N : List Str} {sc : Scope}
/-! ### argument lists -/
theorem star_each : ∀ {es : List PySem.Expr}, es.all noStar = true → ∀ env, starEach es env = es.map fun e => (false, eval e env)
  | [], _, env => rfl
  | e :: es, h, env => by
    have h : (noStar e && es.all noStar) = true := h
    rw [Bool.and_eq_true] at h
    rw [star_cons h.1, star_each h.2, List.map_cons]
theorem star_any {es : List PySem.Expr} (h : es.all noStar = true) (pos : Pos) (env : PySem.Env) : (backTo pos (starEach es env)).any (·.1) = false := by
  rw [star_each h]
  simp [backTo]
theorem star_all {es : List PySem.Expr} (h : es.all noStar = true) (pos : Pos) (env : PySem.Env) : (backTo pos (starEach es env)).all (fun x => !x.1) = true := by
  rw [star_each h]
  simp [backTo]
theorem chkL_star {T : Tab} : ∀ {es : IL} {xs : List PySem.Expr}, chkL T N sc es xs = true → xs.all noStar = true
  | .nil, xs, h => by
    have h : xs.isEmpty = true := h
    cases xs with
    | nil => rfl
    | cons _ _ => cases h
  | .cons e r, xs, h => by
    cases xs with
    | nil => cases h
    | cons x q =>
      have h : (chkE T N sc e x && chkL T N sc r q) = true := h
      rw [Bool.and_eq_true] at h
      show (noStar x && q.all noStar) = true
      rw [chk_star h.1, chkL_star h.2]
      rfl
/-! ### calls -/
theorem den_sp {f : Nat} {es : IL} {s : S} (hs : s = .sh ∨ W.T.ret f = s) {σ : L2.St} {H : Hp} {Q : VK} (h : den W C E (.call f es) s σ H Q) : denL W C E es (fun _ => .sh) σ H fun vs H1 => spP W C f vs H1 Q E := by
  obtain ⟨env, P, hS, h⟩ := h
  have h : Wp W E H ((evL C W.T env es).bind fun ds => C.p f ds) _ := h
  refine ⟨env, P, hS, h.bind.imp fun ds hd vs H1 FF e1 r1 => ⟨Nw P H, ds, r1.shL fun _ => rfl, (hd.up e1).imp fun d q => ?_⟩⟩
  have q := Res.up q e1
  rcases hs with rfl | rfl
  · intro v H' F e f o
    refine q v H' (fun _ => False) e (fun _ z => z.elim) (.sh (o.share (fun a z => ⟨z.1, fun z => z⟩) fun a fa => ⟨.inr (f a fa).1, fun z => z⟩))
  · exact q
theorem chkL_nil {T : Tab} {es : IL} (h : chkL T N sc es [] = true) : es = .nil := by
  cases es with
  | nil => rfl
  | cons _ _ => cases h
theorem denL_imp {es : IL} {ss : Nat → S} {σ : L2.St} {H : Hp} {q q' : List V → Hp → Prop} (h : denL W C E es ss σ H q) (hi : ∀ vs H, q vs H → q' vs H) : denL W C E es ss σ H q' := by
  obtain ⟨env, P, hS, h⟩ := h
  exact ⟨env, P, hS, h.imp fun ds hd vs H' FF e r => hi _ _ (hd vs H' FF e r)⟩
theorem denL_nil {ss : Nat → S} {σ : L2.St} {H : Hp} {q : List V → Hp → Prop} (h : denL W C E .nil ss σ H q) : q [] H := by
  obtain ⟨env, P, hS, h⟩ := h
  exact h [] H (fun _ _ => False) (Ext.refl H) ⟨rfl, fun _ a z => z.elim, fun _ _ _ z => z.elim, fun i d v e => by simp at e⟩
theorem se_call (c : Ctx W C k X N sc E) {f : Nat} {es : IL} {x : Str} {xs : List PySem.Expr} {p pos : Pos} {s : S} (hs : s = .sh ∨ W.T.ret f = s) (hf : W.T.fns.contains f = true) (hm : W.T.mty f = none) (hx : x = W.T.gname f) (hg : glB sc x = true) (hk : chkL W.T N sc es xs = true)
    (ha : PA X xs (denL W C E es fun _ => .sh)) : PE X (.Call (.Name x p) xs [] pos) (den W C E (.call f es) s) := by
  subst hx
  obtain ⟨a, fd, ps, h1, h2, h3, h4⟩ := c.calls.p f hf hm
  obtain ⟨g1, g2, _⟩ := gl_of c hg
  have hp : Passes (L2.CX X.prog X.w) X E := c.pass
  have hxs := chkL_star hk
  cases xs with
  | nil =>
    obtain rfl := chkL_nil hk
    exact PE.imp (pe_call0 (sp := spP W C f) (c.K ▸ h4) c.room1 g1 h1 (c.K ▸ h2) (c.K ▸ h3) .nil hp g2) fun σ H Q h => denL_nil (den_sp hs h)
  | cons y ys =>
    have hxs : (noStar y && ys.all noStar) = true := hxs
    rw [Bool.and_eq_true] at hxs
    refine PE.imp (pe_call (c.K ▸ h4) c.room1 g1 h1 (c.K ▸ h2) (c.K ▸ h3) .nil hp ha g2 (star_cons hxs.1 _ _) (star_any hxs.2 _ _)) fun σ H Q h => denL_imp (den_sp hs h) fun vs H1 z => ?_
    rw [List.append_nil]
    exact z
/-! ### instances -/
theorem den_mk (mx : ∀ f d ds c fs, C.m f d ds ≠ .ex c fs) {cl : Nat} {es : IL} {s : S} (hs : s = .sh ∨ W.T.cty cl = s) (ho : isOb (W.T.cty cl) = true) {σ : L2.St} {H : Hp} {Q : VK} (h : den W C E (.mk cl es) s σ H Q) :
    denL W C E es (fun _ => .sh) σ H fun vs H1 => ∀ x dx, H1 x = none → H1 dx = none → dx ≠ x → spM W C (W.T.init cl) (W.T.cty cl) (.ref x :: vs) (upd (upd H1 dx (.own x)) x (.ins (W.cadr cl) dx [])) (fun v H2 => v = .non ∧ Q (.ref x) H2) E := by
  obtain ⟨env, P, hS, h⟩ := h
  have h : Wp W E H ((evL C W.T env es).bind fun ds => (C.m (W.T.init cl) (.ins cl []) ds).bind fun r => match r.1 with
    | .non => R.ok r.2
    | _ => R.bad) _ := h
  refine ⟨env, P, hS, h.bind.imp fun ds hd vs H1 FF e1 r1 x dx hx hdx hne => ?_⟩
  have r2 := r1.shL fun _ => rfl
  generalize hH : upd (upd H1 dx (.own x)) x (.ins (W.cadr cl) dx []) = H2
  have hx2 : H2 x = some (.ins (W.cadr cl) dx []) := by rw [← hH]; exact upd_same
  have e2 : Ext H1 H2 := by
    rw [← hH]
    exact Ext.trans (Ext.new hdx) (Ext.new (by rw [upd_ne hne.symm]; exact hx))
  have e0 := e1.trans e2
  refine ⟨fun a => Nw P H a ∧ ¬ one x a, ds, .ins cl [], .ref x, vs, one x, rfl, ⟨r2.1, fun i d v ed ev => ?_⟩, ?_, fun a z => z.2, fun a z => ?_, ?_⟩
  · refine (r2.2 i d v ed ev).there.keep e2.kp fun a z => ⟨z.1, fun e => ?_⟩
    obtain ⟨_, o, g⟩ := z
    cases e
    rw [hx] at g
    cases g
  · refine .obj (fun _ _ => False) ?_ hx2 rfl rfl (fun i d v e => by simp at e) (fun i d v e => by simp at e) (fun _ _ z => z.elim) fun _ _ _ z => z.elim
    cases hc : W.T.cty cl <;> first
      | trivial
      | (rw [hc] at ho; cases ho)
  · cases z
    exact ⟨_, hx2, fun z => z⟩
  · cases hm : C.m (W.T.init cl) (.ins cl []) ds with
    | ex c fs => exact absurd hm (mx _ _ _ _ _)
    | bad => rw [hm] at hd; exact hd.elim
    | ok rr =>
      obtain ⟨r, d1⟩ := rr
      rw [hm] at hd
      have hd : Wp W E H (match r with
        | .non => R.ok d1
        | _ => R.bad) fun d => Res W H P s d Q := hd
      cases r with
      | non =>
        have q : Res W H P s d1 Q := hd
        refine ⟨.non, d1, rfl, fun v H' G' fr _ hg o rv _ => ⟨by cases rv fun _ => False; rfl, ?_⟩⟩
        have hx0 : H x = none := e1.free hx
        have eH : Ext H H' := fun a u g => fr a u (fun z => by cases z; rw [hx0] at g; cases g) (e0 a u g)
        have fG : ∀ a, G' a → H a = none := fun a z => by
          rcases (hg a z).1 with z | z
          · cases z; exact hx0
          · exact e0.free z
        rcases hs with rfl | rfl
        · exact q _ _ (fun _ => False) eH (fun _ z => z.elim) (.sh (o.share (fun a z => ⟨z.1.elim (fun z => z.1) fun z => .inr (e0.free z), fun z => z⟩) fun a z => ⟨.inr (fG a z), fun z => z⟩))
        · exact q _ _ G' eH (fun a z => ⟨fG a z, (hg a z).2⟩) (o.mono fun a z => ⟨z.1.elim (fun z => z.1) fun z => .inr (e0.free z), z.2⟩)
      | _ => exact hd.elim
theorem se_mk (c : Ctx W C k X N sc E) {f : Nat} {es : IL} {x : Str} {xs : List PySem.Expr} {p pos : Pos} {s : S} (hs : s = .sh ∨ W.T.cty f = s) (hf : f < W.T.ncl) (hx : x = W.T.cname f) (hg : glB sc x = true) (hk : chkL W.T N sc es xs = true)
    (ha : PA X xs (denL W C E es fun _ => .sh)) : PE X (.Call (.Name x p) xs [] pos) (den W C E (.mk f es) s) := by
  subst hx
  obtain ⟨a, fd, ps, h1, h2, h3, h4, h5⟩ := c.calls.i f hf
  obtain ⟨g1, g2, _⟩ := gl_of c hg
  have hp : Passes (L2.CX X.prog X.w) X E := c.pass
  have hxs := chkL_star hk
  cases xs with
  | nil =>
    obtain rfl := chkL_nil hk
    exact PE.imp (pe_make0 (c.K ▸ h1) (c.K ▸ h4) c.room g1 h2 (c.K ▸ h3) .nil hp g2) fun σ H Q h => denL_nil (den_mk c.calls.mx hs h5 h)
  | cons y ys =>
    have hxs : (noStar y && ys.all noStar) = true := hxs
    rw [Bool.and_eq_true] at hxs
    refine PE.imp (pe_make (c.K ▸ h1) (c.K ▸ h4) c.room g1 h2 (c.K ▸ h3) .nil hp ha g2 (star_cons hxs.1 _ _) (star_any hxs.2 _ _)) fun σ H Q h => denL_imp (den_mk c.calls.mx hs h5 h) fun vs H1 z => ?_
    rw [List.append_nil]
    exact z
/-! ### built-ins -/
theorem den_blt {b : BI} {es : IL} {s : S} {σ : L2.St} {H : Hp} {Q : VK} (h : den W C E (.blt b es) s σ H Q) : denL W C E es (fun _ => .sh) σ H fun vs H1 => rBlt W b s vs H1 Q := by
  obtain ⟨env, P, hS, h⟩ := h
  have h : Wp W E H ((evL C W.T env es).bind fun ds => bltD b ds) _ := h
  refine ⟨env, P, hS, h.bind.imp fun ds hd vs H1 FF e1 r1 => ?_⟩
  obtain ⟨d, e, q⟩ := (noex_blt _ _).got hd
  exact ⟨Nw P H, ds, d, r1.shL fun _ => rfl, e, Res.up q e1⟩
theorem se_blt (c : Ctx W C k X N sc E) {b : BI} {es : IL} {x : Str} {y : PySem.Expr} {ys : List PySem.Expr} {p pos : Pos} {s : S} (hs : s = .sh ∨ (s = .lst .sh ∧ b = .list) ∨ (s = .dic ∧ b = .dict)) (hx : x = biN b) (hg : glB sc x = true) (hk : chkL W.T N sc es (y :: ys) = true)
    (ha : PA X (y :: ys) (denL W C E es fun _ => .sh)) : PE X (.Call (.Name x p) (y :: ys) [] pos) (den W C E (.blt b es) s) := by
  subst hx
  obtain ⟨g1, g2, g3⟩ := gl_of c hg
  have hxs : (noStar y && ys.all noStar) = true := chkL_star hk
  rw [Bool.and_eq_true] at hxs
  have hc : CallR X (biV b) (rBlt W b s) := call_blt c.K c.calm b hs
  have hm := c.facts.free b
  have hn : biN b ≠ "__name__" := g3
  cases b <;> first
    | exact PE.imp (pe_callB hc g1 hm rfl ha hn g2 (star_cons hxs.1 _ _) (star_any hxs.2 _ _)) fun σ H Q h => den_blt h
    | exact PE.imp (pe_callTy hc g1 hm rfl ha hn g2 (star_cons hxs.1 _ _) (star_any hxs.2 _ _)) fun σ H Q h => den_blt h
theorem mth_str {m : MI} (hm : isStr m = true) {o d : D} {ds : List D} (h : mthD m o ds = .ok d) : ∃ x, o = .str x := by
  cases m <;> cases o <;> first
    | exact ⟨_, rfl⟩
    | exact absurd hm (by decide)
    | (simp [mthD] at h)
theorem den_mth (hK : X.K = W.K) {m : MI} (hm : isStr m = true) {o : IE} {es : IL} {s : S} {σ : L2.St} {H : Hp} {Q : VK} (h : den W C E (.mth m o es) s σ H Q) : tBM X.K "str" (rMth W m s) (den W C E o .sh) (denL W C E es fun _ => .sh) σ H Q := by
  obtain ⟨env, P, hS, h⟩ := h
  have h : Wp W E H ((evE C W.T env o).bind fun x => (evL C W.T env es).noex.bind fun ds => mthD m x ds) _ := h
  refine den_n (Ext.refl H) (Sees.l hS) h.bind fun da ha v H1 e1 _ r1 => ?_
  cases hl : evL C W.T env es with
  | ok ds =>
    rw [hl] at ha
    obtain ⟨d, e, q⟩ := (noex_mth _ _ _).got (show Wp W E H (mthD m da ds) _ from ha)
    obtain ⟨x, rfl⟩ := mth_str hm e
    cases r1
    refine ⟨rfl, env, Nw P H, (Sees.r hS).up e1, ?_⟩
    rw [hl]
    exact fun vs H2 FF e2 r2 => ⟨Nw (Nw P H) H1, _, ds, d, .str x, r2.shL fun _ => rfl, e, (Res.up q e1).up e2⟩
  | ex c fs => rw [hl] at ha; exact ha.elim
  | bad => rw [hl] at ha; exact ha.elim
theorem se_mth (c : Ctx W C k X N sc E) {m : MI} {o : IE} {es : IL} {x y : PySem.Expr} {ys : List PySem.Expr} {apos cpos : Pos} {s : S} (hs : sOk s) (hm : isStr m = true) (hb : noSup x = true) (hl : (apos.endLine == cpos.line) = true) (h20 : ys.length < 20) (hk : chkL W.T N sc es (y :: ys) = true)
    (ho : PE X x (den W C E o .sh)) (ha : PA X (y :: ys) (denL W C E es fun _ => .sh)) : PE X (.Call (.Attribute x (miN m) apos) (y :: ys) [] cpos) (den W C E (.mth m o es) s) := by
  have hx := chkL_star hk
  have hxs : (noStar y && ys.all noStar) = true := hx
  rw [Bool.and_eq_true] at hxs
  have hc : MtR X (miId m) (rMth W m s) := mt_any c.K m hm hs
  have hfew : ((backTo cpos (starEach (y :: ys) X.env)).all (fun x => !x.1) && (backToKw cpos (keywordEach [] X.env)).all (fun x => x.1.isSome) && decide ((y :: ys).length + ([] : List Keyword).length + (if ([] : List Keyword).isEmpty then 0 else 1) < 30)) = true := by
    rw [star_all hx]
    simp [keywordEach, backToKw]
    omega
  cases m <;> first
    | exact absurd hm (by decide)
    | exact PE.imp (pe_bm F.plainAttrs_str F.slot_str_split F.type_str_split hc ho ha (sup_base hb _ _ _) hfew hl (star_cons hxs.1 _ _) (star_any hxs.2 _ _)) fun σ H Q h => den_mth c.K rfl h
    | exact PE.imp (pe_bm F.plainAttrs_str F.slot_str_join F.type_str_join hc ho ha (sup_base hb _ _ _) hfew hl (star_cons hxs.1 _ _) (star_any hxs.2 _ _)) fun σ H Q h => den_mth c.K rfl h
    | exact PE.imp (pe_bm F.plainAttrs_str F.slot_str_startswith F.type_str_startswith hc ho ha (sup_base hb _ _ _) hfew hl (star_cons hxs.1 _ _) (star_any hxs.2 _ _)) fun σ H Q h => den_mth c.K rfl h
    | exact PE.imp (pe_bm F.plainAttrs_str F.slot_str_strip F.type_str_strip hc ho ha (sup_base hb _ _ _) hfew hl (star_cons hxs.1 _ _) (star_any hxs.2 _ _)) fun σ H Q h => den_mth c.K rfl h
end
end G
end
section
set_option Elab.async false
set_option linter.all false
set_option maxRecDepth 100000
set_option maxHeartbeats 4000000
namespace G
open PySem PySem.Spec PyProof.Rows L2
/-! ### zip of two rows, each a list (false) or a tuple (true) -/
def sqK : Bool → PySem.W.Frag → Hp → Addr → List V → Prop
  | false => SqL
  | true => SqT
def itK (t : Bool) (h : Heap) (i a : Addr) (n : Nat) : Prop := match t with
  | false => h.IsListIter i a n
  | true => h.IsTupleIter i a n
def isK (t : Bool) (h : Heap) (a : Addr) (xs : Array Value) : Prop := match t with
  | false => h.IsList a xs
  | true => h.IsTuple a xs
def obK (t : Bool) (a : Addr) : Obj := match t with
  | false => { cls := .type "list_iterator", data := .fields #[.ref a, .int 0 0] }
  | true => { cls := .type "tuple_iterator", data := .fields #[.ref a, .int 0 0] }
theorem isK_keep {t : Bool} {h h' : Heap} {a : Addr} {xs : Array Value} (q : isK t h a xs) (k : ∀ o, h.get? a = some o → h'.get? a = some o) : isK t h' a xs := by
  cases t with
  | false => exact Heap.IsList.at q k
  | true => exact Heap.IsTuple.at q k
theorem itK_keep {t : Bool} {h h' : Heap} {i a : Addr} {n : Nat} (q : itK t h i a n) (k : ∀ o, h.get? i = some o → h'.get? i = some o) : itK t h' i a n := by
  cases t with
  | false => exact Heap.IsListIter.at q k
  | true => exact Heap.IsTupleIter.at q k
theorem itK_obj {t : Bool} {h : Heap} {i a : Addr} {n : Nat} (q : itK t h i a n) : ∃ o, h.get? i = some o ∧ ∀ v, o.data ≠ .cell v := by
  cases t with
  | false =>
    obtain ⟨o, e, _, d⟩ := q
    exact ⟨o, e, fun v z => by rw [d] at z; cases z⟩
  | true =>
    obtain ⟨o, e, _, d⟩ := q
    exact ⟨o, e, fun v z => by rw [d] at z; cases z⟩
theorem isK_lt {t : Bool} {h : Heap} {a : Addr} {xs : Array Value} (q : isK t h a xs) : a < h.objs.size := by
  cases t with
  | false =>
    obtain ⟨o, e, _⟩ := q
    exact Heap.lt_size e
  | true =>
    obtain ⟨o, e, _⟩ := q
    exact Heap.lt_size e
theorem sqK_at {X : Cx} {pins : List (Addr × Obj)} {σ : L2.St} {H : Hp} {s : Shared} (I : Inv X pins σ H s) {t : Bool} {a : Addr} {xs : List V} (q : sqK t X.K H a xs) : ∃ its : List Value, Vals xs its ∧ isK t s.heap a its.toArray := by
  cases t with
  | false =>
    obtain ⟨its, r, p, _⟩ := I.list q
    exact ⟨its, r, p.isList⟩
  | true =>
    obtain ⟨its, r, p, _⟩ := I.tuple q
    exact ⟨its, r, p⟩
theorem sqK_one {X : Cx} {pins : List (Addr × Obj)} {σ : L2.St} {H : Hp} {s : Shared} (I : Inv X pins σ H s) {t : Bool} {a : Addr} {xs ys : List V} (q : sqK t X.K H a xs) (q' : sqK t X.K H a ys) : xs = ys := by
  cases t with
  | false => exact I.list_inj q q'
  | true => exact I.tuple_inj q q'
theorem drawsK {prog : Program} {w : World} {A : Around} (t : Bool) (h0 : A.handled = none) (i a : Addr) (ne : a ≠ i) (xs : Array Value) :
    Draws prog w A i [i, a] xs.size (fun n v => xs[n]? = some v) (fun n h => itK t h i a n ∧ isK t h a xs) := by
  cases t with
  | false => exact Draws.list h0 i a ne xs
  | true => exact Draws.tuple h0 i a ne xs
theorem beginsK (t : Bool) (a : Addr) (xs : Array Value) : Begins (.ref a) (obK t a) fun h => isK t h a xs := by
  cases t with
  | false => exact begins_list a xs
  | true => exact begins_tuple a xs
theorem obK_it {t : Bool} {h : Heap} {i a : Addr} (e : h.get? i = some (obK t a)) : itK t h i a 0 := by
  cases t with
  | false => exact ⟨_, e, rfl, rfl⟩
  | true => exact ⟨_, e, rfl, rfl⟩
theorem neA {a b : Nat} (h : (a : Nat) ≠ b) : @Ne Addr a b := h
/-- the walk of zip: at each turn a new pair of what stands in the two rows -/
def ItzK (t u : Bool) (K : PySem.W.Frag) (a b : Addr) : It where
  go i H := ∃ xs ys : List V, (sqK t K H a xs ∧ sqK u K H b ys) ∧ ∃ x y : V, xs[i]? = some x ∧ ys[i]? = some y
  yld i H v H' := ∃ T x y, (v = .ref T ∧ H T = none ∧ H' = upd H T (.tup [x, y])) ∧ (∀ l, sqK t K H a l → l[i]? = some x) ∧ ∀ l, sqK u K H b l → l[i]? = some y
  stop i H := ∃ xs ys : List V, (sqK t K H a xs ∧ sqK u K H b ys) ∧ i = min xs.length ys.length
theorem sepK {z TI TO i j a b : Addr} (n : TI ≠ z ∧ TO ≠ z ∧ TI ≠ TO ∧ TI ≠ i ∧ TI ≠ j ∧ z ≠ i ∧ z ≠ j ∧ TO ≠ i ∧ TO ≠ j ∧ i ≠ j) (na : z ≠ a ∧ TO ≠ a ∧ j ≠ a) (nb : z ≠ b ∧ TO ≠ b ∧ i ≠ b) : ZipSep2 z TI TO i j [i, a] [j, b] := by
  obtain ⟨n1, n2, n3, n4, n5, n6, n7, n8, n9, n10⟩ := n
  constructor <;> simp_all [Ne.symm]
theorem sepA {a b n : Nat} (la : a < n) (lb : b < n) : ZipSep2 (n + 4) (n + 2) (n + 3) n (n + 1) [n, a] [n + 1, b] :=
  sepK ⟨neA (by omega), neA (by omega), neA (by omega), neA (by omega), neA (by omega), neA (by omega), neA (by omega), neA (by omega), neA (by omega), neA (by omega)⟩ ⟨neA (by omega), neA (by omega), neA (by omega)⟩ ⟨neA (by omega), neA (by omega), neA (by omega)⟩
section
variable {P : Program} {w : World} {K : PySem.W.Frag} {elts : List PySem.Expr} {kk : Nat} {tpos : Pos} {t u : Bool} {a b z TI TO i1 i2 : Addr}
theorem turn_zipK (ai : a ≠ i1) (bj : b ≠ i2) (D : ZipSep2 z TI TO i1 i2 [i1, a] [i2, b]) (oi : TO ≠ i1 ∧ TO ≠ i2) (zi : i1 ≠ z ∧ i2 ≠ z) :
    Turn P w K (.Tuple elts kk tpos) (ItzK t u K a b) [z, TI, TO, i1, i2] z (fun n h => IsZip h z TI TO .none ∧ IsTupOf2 h TI (.ref i1) (.ref i2) ∧ (∃ x y, IsTupOf2 h TO x y) ∧ itK t h i1 a n ∧ itK u h i2 b n) := by
  have each : ∀ {R : Addr → Prop}, R z → R TI → R TO → R i1 → R i2 → ∀ c ∈ [z, TI, TO, i1, i2], R c := by
    intro R r1 r2 r3 r4 r5 c hc
    simp only [List.mem_cons, List.not_mem_nil, or_false] at hc
    rcases hc with rfl | rfl | rfl | rfl | rfl <;> assumption
  refine ⟨List.mem_cons_self, fun n h st => ?_, fun n h h' st k => ?_, ?_, ?_, fun A n s Q E st h => wpAny_pyIter_zip st.1 h⟩
  · obtain ⟨c1, c2, ⟨x, y, c3⟩, c4, c5⟩ := st
    exact each ⟨_, c1, fun v q => nomatch q⟩ ⟨_, c2, fun v q => nomatch q⟩ ⟨_, c3, fun v q => nomatch q⟩ (itK_obj c4) (itK_obj c5)
  · obtain ⟨c1, c2, ⟨x, y, c3⟩, c4, c5⟩ := st
    have kk : ∀ c, c ∈ [z, TI, TO, i1, i2] → ∀ o, h.get? c = some o → h'.get? c = some o := k
    exact ⟨kk z (by simp) _ c1, kk TI (by simp) _ c2, ⟨x, y, kk TO (by simp) _ c3⟩, itK_keep c4 (kk i1 (by simp)), itK_keep c5 (kk i2 (by simp))⟩
  · intro X e1 e2 e3 hc n pins s σ H E I hf st hg
    cases e1
    cases e2
    cases e3
    obtain ⟨c1, c2, ⟨x0, y0, c3⟩, c4, c5⟩ := st
    obtain ⟨xs, ys, ⟨qx, qy⟩, x, y, gx, gy⟩ := hg
    obtain ⟨us, rx, px⟩ := sqK_at I qx
    obtain ⟨vs, ry, py⟩ := sqK_at I qy
    obtain ⟨ux, ex, rex⟩ := rx.get gx
    obtain ⟨uy, ey, rey⟩ := ry.get gy
    have lx : n < us.toArray.size := by
      have := (List.getElem?_eq_some_iff.mp ex).1
      simpa using this
    have ly : n < vs.toArray.size := by
      have := (List.getElem?_eq_some_iff.mp ey).1
      simpa using this
    have zs : z < s.heap.objs.size := Heap.lt_size c1
    refine wpAny_pyNext_zipD2_item D (drawsK (prog := X.prog) (w := X.w) (A := X.A.in1) t (I.ok.hd hc) i1 a ai us.toArray) (drawsK (prog := X.prog) (w := X.w) (A := X.A.in1) u (I.ok.hd hc) i2 b bj vs.toArray) c1 c2 c3 ⟨c4, px⟩ ⟨c5, py⟩ lx ly fun x1 x2 h1 tk p1 p2 d1 d2 d3 d4 d5 d6 d7 => ?_
    have w1 : x1 = ux := by
      have p1 : us.toArray[n]? = some x1 := p1
      rw [List.getElem?_toArray, ex] at p1
      exact (Option.some.inj p1).symm
    have w2 : x2 = uy := by
      have p2 : vs.toArray[n]? = some x2 := p2
      rw [List.getElem?_toArray, ey] at p2
      exact (Option.some.inj p2).symm
    subst w1
    subst w2
    refine ⟨_, rfl, wpAny_letOwnedTupleGo_zip d1 fun h2 f1 sb => ?_⟩
    have all : ∀ c o, c ∉ [z, TI, TO, i1, i2] → s.heap.get? c = some o → h2.get? c = some o := fun c o hb q => by
      simp only [List.mem_cons, List.not_mem_nil, or_false, not_or] at hb
      obtain ⟨b1, b2, b3, b4, b5⟩ := hb
      exact (sb.2 c b1).trans (d7 c o b1 b3 b4 b5 q)
    have top : h2.get? s.heap.objs.size = some { cls := .type "tuple", data := .seq #[x1, x2] } := (sb.2 _ (Nat.ne_of_gt zs)).trans d5
    have I2 := I.turnedNew (t' := tk) all hf (Nat.le_refl _) (ob := .tup [x, y]) ⟨by show 2 ≤ sizeLine; decide, [x1, x2], .cons rex (.cons rey .nil), _, top, rfl, _, rfl⟩
    refine ⟨.ref s.heap.objs.size, _, I2, rfl, ⟨_, x, y, ⟨rfl, I.hok.fresh (Nat.le_refl _), rfl⟩, fun l hl => sqK_one I hl qx ▸ gx, fun l hl => sqK_one I hl qy ▸ gy⟩, ⟨f1, ?_, ⟨x1, x2, ?_⟩, ?_, ?_⟩, ?_⟩
    · exact (sb.2 _ D.TIz).trans (d7 _ _ D.TIz D.TITO D.TIi1 D.TIi2 c2)
    · exact (sb.2 _ D.TOz).trans d2
    · exact itK_keep d3.1 fun o q => (sb.2 _ zi.1).trans q
    · exact itK_keep d4.1 fun o q => (sb.2 _ zi.2).trans q
    · have lt : ∀ {c o}, s.heap.get? c = some o → c ∈ [z, TI, TO, i1, i2] → upd H s.heap.objs.size (.tup [x, y]) c = none := fun e m => by
        rw [upd_ne (Nat.ne_of_lt (Heap.lt_size e))]
        exact (hf _ m).1
      obtain ⟨_, g4, _⟩ := itK_obj c4
      obtain ⟨_, g5, _⟩ := itK_obj c5
      exact each (lt c1 (by simp)) (lt c2 (by simp)) (lt c3 (by simp)) (lt g4 (by simp)) (lt g5 (by simp))
  · intro X e1 e2 e3 hc n pins s σ H E I hf st hg
    cases e1
    cases e2
    cases e3
    obtain ⟨c1, c2, ⟨x0, y0, c3⟩, c4, c5⟩ := st
    obtain ⟨xs, ys, ⟨qx, qy⟩, en⟩ := hg
    obtain ⟨us, rx, px⟩ := sqK_at I qx
    obtain ⟨vs, ry, py⟩ := sqK_at I qy
    have e1 : us.toArray.size = xs.length := by simp [rx.length]
    have e2 : vs.toArray.size = ys.length := by simp [ry.length]
    exact wpAny_pyNext_zipD2_end D (drawsK (prog := X.prog) (w := X.w) (A := X.A.in1) t (I.ok.hd hc) i1 a ai us.toArray) (drawsK (prog := X.prog) (w := X.w) (A := X.A.in1) u (I.ok.hd hc) i2 b bj vs.toArray) c1 c2 c3 ⟨c4, px⟩ ⟨c5, py⟩ (by omega) (by omega) (by omega)
      fun h1 tk k => ⟨rfl, I.turnedL (t' := tk) (ch := [z, TI, TO, i1, i2]) (fun c o hb q => by
        simp only [List.mem_cons, List.not_mem_nil, or_false, not_or] at hb
        obtain ⟨b1, b2, b3, b4, b5⟩ := hb
        exact k c o b1 b3 b4 b5 q) hf⟩
end
theorem walk_zipK {K : PySem.W.Frag} {t u : Bool} {a b : Addr} {xs ys : List V} : Walk (ItzK t u K a b) (min xs.length ys.length) (fun H => sqK t K H a xs ∧ sqK u K H b ys) (YPair (fun i => xs[i]?) (fun i => ys[i]?)) := by
  refine ⟨fun i H hi q => ⟨xs, ys, q, ?_⟩, fun H q => ⟨xs, ys, q, rfl⟩, fun i H v H' hi q y => ?_⟩
  · exact ⟨xs[i]'(by omega), ys[i]'(by omega), by simp, by simp⟩
  · obtain ⟨T, x, y, ⟨e1, e2, e3⟩, f, g⟩ := y
    exact ⟨T, x, y, e1, e2, e3, f xs q.1, g ys q.2⟩
theorem it_zipK {W : Wd} {H : Hp} {P : Addr → Prop} {t u : Bool} {a b : Addr} {ds es : List D} {vs us : List V} (h1 : ∀ H', Later P H H' → sqK t W.K H' a vs) (r1 : RpL W H P ds vs) (h2 : ∀ H', Later P H H' → sqK u W.K H' b us) (r2 : RpL W H P es us) : ItOk W P (ItzK t u W.K a b) (zipL ds es) H := by
  refine ⟨YPair (fun i => vs[i]?) (fun i => us[i]?), ?_, fun i H2 x H3 d l y e => ?_⟩
  · rw [zipL_len, r1.1, r2.1]
    exact walk_zipK.mono (fun H' l => ⟨h1 H' l, h2 H' l⟩) fun _ _ _ _ _ _ y => y
  · obtain ⟨T, x1, y1, rfl, hT, rfl, e1, e2⟩ := y
    obtain ⟨p, q, e3, e4, rfl⟩ := zipL_get e
    exact pair_rp hT ((r1.2 i p x1 e3 e1).keep l.kp fun _ z => z) ((r2.2 i q y1 e4 e2).keep l.kp fun _ z => z)
def iZipK (K : PySem.W.Frag) (ta : TA) : TI := fun σ H R => ta σ H fun vs H1 => ∃ t u a b, vs = [.ref a, .ref b] ∧ ∃ xs ys, (sqK t K H1 a xs ∧ sqK u K H1 b ys) ∧ R (ItzK t u K a b) H1
theorem pi_zipK {X : Cx} {e e2 : PySem.Expr} {ta : TA} {p pos tpos : Pos} {elts : List PySem.Expr} {kk : Nat} (hg : Gl X "zip") (hm : X.mg "zip" = none) (ha : PA X [e, e2] ta)
    (hs : starEach [e, e2] X.env = (false, eval e X.env) :: starEach [e2] X.env) (hp : (backTo pos (starEach [e2] X.env)).any (·.1) = false) :
    PI X (.Tuple elts kk tpos) (.Call (.Name "zip" p) [e, e2] [] pos) (iZipK X.K ta) where
  run pins s σ H R I h := by
    refine Call_ (ld_blt I hg hm PyProof.Rows.boot_zip (PyProof.Rows.callWith_type1 (thn (ha.run pos pins s σ H _ I h) fun vs s1 ⟨ws, H1, I1, r1, t, u, a, b, ew, xs, ys, ⟨qx, qy⟩, fin⟩ => ?_) hs hp))
    subst ew
    cases r1 with
    | cons ra rr =>
    cases rr with
    | cons rb rr =>
    cases rr
    cases ra
    cases rb
    obtain ⟨us, rx, px⟩ := sqK_at I1 qx
    obtain ⟨vs, ry, py⟩ := sqK_at I1 qy
    have la := isK_lt px
    have lb := isK_lt py
    generalize hn : s1.heap.objs.size = n at *
    refine zip_begins2 (beginsK t a us.toArray) (beginsK u b vs.toArray) px py fun h1 d1 d2 d3 d4 d5 d6 d7 => wpAny_pyIter_zip d1 ?_
    rw [hn] at d1 d2 d3 d4 d5 d6 ⊢
    refine ⟨n + 4, [n + 4, n + 2, n + 3, n, n + 1], _, _, H1, rfl, I1.kept (t' := s1.toks) d7, turn_zipK (Nat.ne_of_lt la) (Nat.ne_of_lt (Nat.lt_succ_of_lt lb)) (sepA la lb) ⟨neA (by omega), neA (by omega)⟩ ⟨neA (by omega), neA (by omega)⟩, ⟨d1, d2, ⟨_, _, d3⟩, obK_it d4, obK_it d5⟩, fun c hc => ?_, fin⟩
    have le : s1.heap.objs.size ≤ c := by
      simp only [List.mem_cons, List.not_mem_nil, or_false] at hc
      rw [hn]
      rcases hc with rfl | rfl | rfl | rfl | rfl
      · exact Nat.le_add_right n 4
      · exact Nat.le_add_right n 2
      · exact Nat.le_add_right n 3
      · exact Nat.le_refl _
      · exact Nat.le_add_right n 1
    exact I1.fpOk le (I1.hok.fresh le)
end G
end
section
set_option Elab.async false
set_option linter.all false
set_option maxRecDepth 100000
set_option maxHeartbeats 4000000
namespace G
open PySem PySem.Spec PyProof.Rows L2
/-! ### targets -/
def gNames : List Nat → TGs
  | [] => gNil
  | i :: is => gCons (gName i) (gNames is)
def gT (K : PySem.W.Frag) (tu : Bool) (tg : List Nat) : TG := match tu with
  | false => (match tg with
    | [i] => gName i
    | _ => fun _ _ _ _ => False)
  | true => gTup K tg.length (gNames tg)
theorem tgN_inv {N : List Str} {sc : Scope} {i : Nat} {e : PySem.Expr} (h : tgN N sc i e = true) : ∃ x p, e = .Name x p ∧ N[i]? = some x ∧ (sc.names.lookup x = some .local ∨ sc.names.lookup x = some .cell) := by
  unfold tgN at h
  split at h
  · rename_i x p
    rw [Bool.and_eq_true] at h
    refine ⟨x, p, rfl, by simpa using h.1, ?_⟩
    have h2 := h.2
    unfold locB at h2
    split at h2 <;> first
      | exact .inl (by assumption)
      | exact .inr (by assumption)
      | cases h2
  · cases h
section
variable {X : Cx} {N : List Str} {sc : Scope}
structure Tgs (X : Cx) (N : List Str) (sc : Scope) : Prop where
  n : X.N = N
  nd : N.Nodup
  calm : X.calm = true
  loc : ∀ x, sc.names.lookup x = some NameKind.local → X.env.scope.names.lookup x = some NameKind.local
  cel : ∀ x, sc.names.lookup x = some NameKind.cell → X.env.scope.names.lookup x = some NameKind.cell ∧ X.fn x = true
theorem tg_name (c : Tgs X N sc) {i : Nat} {x : Str} {p : Pos} (h1 : N[i]? = some x) (h2 : sc.names.lookup x = some .local ∨ sc.names.lookup x = some .cell) : PG X (.Name x p) (gName i) :=
  pg_name (by rw [c.n]; exact c.nd) (by rw [c.n]; exact h1) (h2.elim (fun h => .inl (c.loc x h)) fun h => .inr (c.cel x h).1) (h2.elim (fun h => .inr (c.loc x h)) fun h => .inl (c.cel x h).2)
theorem tg_names (c : Tgs X N sc) : ∀ {is : List Nat} {es : List PySem.Expr}, tgNs N sc is es = true → PGs X es (gNames is) ∧ (assignEach es X.env).length = is.length ∧ (assignEach es X.env).findIdx? (·.1) = none
  | [], [], _ => ⟨pgs_nil, rfl, rfl⟩
  | [], _ :: _, h => nomatch h
  | _ :: _, [], h => nomatch h
  | i :: is, e :: es, h => by
    have h : (tgN N sc i e && tgNs N sc is es) = true := h
    rw [Bool.and_eq_true] at h
    obtain ⟨x, p, rfl, h1, h2⟩ := tgN_inv h.1
    obtain ⟨a, b, d⟩ := tg_names c h.2
    refine ⟨pgs_cons (tg_name c h1 h2) a, ?_, ?_⟩
    · show (assignEach es X.env).length + 1 = _
      rw [b]
      rfl
    · show List.findIdx? (·.1) ((false, assign (.Name x p) X.env) :: assignEach es X.env) = none
      simp only [List.findIdx?_cons, Bool.false_eq_true, if_false]
      rw [d]
      rfl
theorem tg_any (c : Tgs X N sc) {tu : Bool} {tg : List Nat} {e : PySem.Expr} (h : tgB N sc tu tg e = true) : PG X e (gT X.K tu tg) := by
  cases tu with
  | false =>
    match tg, h with
    | [i], h =>
      obtain ⟨x, p, rfl, h1, h2⟩ := tgN_inv (show tgN N sc i e = true from h)
      exact tg_name c h1 h2
    | [], h => exact absurd h (by simp [tgB])
    | _ :: _ :: _, h => exact absurd h (by simp [tgB])
  | true =>
    cases e with
    | Tuple es k pos =>
      obtain ⟨a, b, d⟩ := tg_names c (show tgNs N sc tg es = true from h)
      exact pg_tup c.calm a b d
    | _ => exact absurd h (by simp [tgB])
end
/-- the slots after a target -/
def setVs : List Nat → List V → L2.St → L2.St
  | i :: is, v :: vs, σ => setVs is vs (σ.set i (some v))
  | _, _, σ => σ
theorem gNames_run : ∀ {is : List Nat} {vs : List V} {σ : L2.St} {H : Hp} {Q : L2.St → Hp → Prop}, is.length = vs.length → Q (setVs is vs σ) H → gNames is vs σ H Q
  | [], [], _, _, _, _, h => ⟨rfl, h⟩
  | i :: is, v :: vs, _, _, _, hl, h => ⟨v, vs, rfl, gNames_run (by simpa using hl) h⟩
theorem setAll_rel {W : Wd} {H : Hp} {P : Addr → Prop} : ∀ {is : List Nat} {ds : List D} {vs : List V} {env env1 : Env} {σ : L2.St}, setAll is ds env = some env1 → RpL W H P ds vs → env.length = σ.length →
    is.length = vs.length ∧ env1.length = (setVs is vs σ).length ∧ (setVs is vs σ).length = σ.length ∧ (∀ i, i ∉ is → (setVs is vs σ)[i]? = σ[i]? ∧ env1[i]? = env[i]?) ∧ (∀ i, i ∈ is → ∀ d, env1[i]? = some (some d) → ∃ v, (setVs is vs σ)[i]? = some (some v) ∧ Rp W H P d v)
  | [], ds, vs, env, env1, σ, h, r, hl => by
    cases ds with
    | nil =>
      cases h
      cases r.un0
      exact ⟨rfl, hl, rfl, fun i _ => ⟨rfl, rfl⟩, fun i z => by simp at z⟩
    | cons _ _ => cases h
  | j :: is, ds, vs, env, env1, σ, h, r, hl => by
    cases ds with
    | nil => cases h
    | cons d ds =>
      obtain ⟨v, us, rfl, r1, r2⟩ := r.un
      obtain ⟨a, b, c, e, f⟩ := setAll_rel (σ := σ.set j (some v)) (show setAll is ds (env.set j (some d)) = some env1 from h) r2 (by simp [hl])
      refine ⟨by simp [a], b, by rw [show setVs (j :: is) (v :: us) σ = setVs is us (σ.set j (some v)) from rfl, c, List.length_set], fun i hi => ?_, fun i hi d' ed => ?_⟩
      · obtain ⟨h1, h2⟩ := e i fun z => hi (List.mem_cons_of_mem _ z)
        have hj : j ≠ i := fun e => hi (by rw [e]; exact List.mem_cons_self)
        exact ⟨h1.trans (by rw [List.getElem?_set_ne hj]), h2.trans (by rw [List.getElem?_set_ne hj])⟩
      · by_cases hm : i ∈ is
        · exact f i hm d' ed
        · rcases List.mem_cons.mp hi with hi | hi
          · subst hi
            obtain ⟨h1, h2⟩ := e i hm
            rw [h2] at ed
            have hlt : i < env.length := by
              have := (List.getElem?_eq_some_iff.mp ed).1
              simpa using this
            rw [List.getElem?_set_self hlt] at ed
            cases ed
            exact ⟨v, h1.trans (List.getElem?_set_self (by rw [← hl]; exact hlt)), r1⟩
          · exact absurd hi hm
theorem setT_rel {W : Wd} {K : PySem.W.Frag} {H : Hp} {P : Addr → Prop} {tu : Bool} {tg : List Nat} {d : D} {v : V} {env env1 : Env} {σ : L2.St} (h : setT tu tg d env = some env1) (r : Rp W H P d v) (hl : env.length = σ.length) :
    ∃ σ1, (∀ Q : L2.St → Hp → Prop, Q σ1 H → gT K tu tg v σ H Q) ∧ env1.length = σ1.length ∧ σ1.length = σ.length ∧ (∀ i, i ∉ tg → σ1[i]? = σ[i]? ∧ env1[i]? = env[i]?) ∧ (∀ i, i ∈ tg → ∀ d, env1[i]? = some (some d) → ∃ v, σ1[i]? = some (some v) ∧ Rp W H P d v) := by
  cases tu with
  | false =>
    match tg, h with
    | [j], h =>
      have h : some (env.set j (some d)) = some env1 := h
      cases h
      obtain ⟨a, b, c, e, f⟩ := setAll_rel (is := [j]) (ds := [d]) (vs := [v]) (env := env) (σ := σ) rfl (.cons r .nil) hl
      exact ⟨_, fun Q q => q, b, c, e, f⟩
    | [], h => cases h
    | _ :: _ :: _, h => cases h
  | true =>
    cases d with
    | tup ds =>
      cases r with
      | tup h1 h3 h4 =>
        obtain ⟨a, b, c, e, f⟩ := setAll_rel (show setAll tg ds env = some env1 from h) ⟨h3, h4⟩ hl
        exact ⟨_, fun Q q => ⟨_, _, rfl, .of h1, a.symm, gNames_run a q⟩, b, c, e, f⟩
    | _ => cases h
/-- a reading after a target -/
theorem Sees.target {W : Wd} {H : Hp} {P : Addr → Prop} {tg : List Nat} {env env1 : Env} {σ σ1 : L2.St} {vs : List Nat} (s : Sees W H P env σ (vs.filter fun i => !tg.contains i)) (h1 : env1.length = σ1.length) (h2 : ∀ i, i ∉ tg → σ1[i]? = σ[i]? ∧ env1[i]? = env[i]?)
    (h3 : ∀ i, i ∈ tg → ∀ d, env1[i]? = some (some d) → ∃ v, σ1[i]? = some (some v) ∧ Rp W H P d v) : Sees W H P env1 σ1 vs :=
  ⟨h1, fun i hi d e => by
    by_cases hm : i ∈ tg
    · exact h3 i hm d e
    · obtain ⟨a, b⟩ := h2 i hm
      rw [b] at e
      rw [a]
      exact s.2 i (List.mem_filter.mpr ⟨hi, by simp [hm]⟩) d e⟩
section
variable {W : Wd} {C : Calls} {E : XK} {k : Nat} {X : Cx} {N : List Str} {sc : Scope}
/-! ### walks -/
theorem RpL.there {H : Hp} {P : Addr → Prop} {ds : List D} {vs : List V} (r : RpL W H P ds vs) : RpL W H (There P H) ds vs := ⟨r.1, fun i d v e u => (r.2 i d v e u).there⟩
theorem si_seq (c : Ctx W C k X N sc E) {a : IE} {tg e : PySem.Expr} (ha : PE X e (den W C E a .sh)) : PI X tg e (denIt W C E (.seq a)) :=
  PI.imp (pi_seq ha) fun σ H Rr ⟨env, P, hS, h⟩ => by
    have h : Wp W E H ((evE C W.T env a).bind fun x => match x with
      | .lst xs => R.ok xs
      | .tup xs => R.ok xs
      | .scr ns => R.ok (ns.map D.int)
      | _ => R.bad) _ := h
    refine den_n (Ext.refl H) hS h.bind fun da ha v H1 e1 _ r1 => ?_
    have r1 := r1.there
    rw [c.K]
    cases r1 with
    | lst h1 h2 h3 h4 => exact ⟨_, rfl, .inl ⟨⟨_, .of h1⟩, ha _ H1 e1 (it_list h1 h2 ⟨h3, h4⟩)⟩⟩
    | tup h1 h3 h4 => exact ⟨_, rfl, .inr ⟨⟨_, .of h1⟩, ha _ H1 e1 (it_tup h1 ⟨h3, h4⟩)⟩⟩
    | scr h1 => exact ⟨_, rfl, .inl ⟨⟨_, h1.sq⟩, ha _ H1 e1 (it_scr h1)⟩⟩
    | _ => exact ha.elim
theorem star_two {y z : PySem.Expr} (h1 : noStar y = true) (h2 : noStar z = true) (env : PySem.Env) : starEach [y, z] env = [(false, eval y env), (false, eval z env)] := by
  rw [star_cons h1, star_cons h2]
  rfl
theorem den_a1 {a : IE} {σ : L2.St} {H : Hp} {P : Addr → Prop} {env : Env} {k : D → Prop} {Q : List V → Hp → Prop} (hS : Sees W H P env σ a.vars) (h : Wp W E H (evE C W.T env a) k) (hk : ∀ d, k d → ∀ v H1, Ext H H1 → Rp W H1 (There (Nw P H) H1) d v → Q [v] H1) : denL W C E (.cons a .nil) (fun _ => .sh) σ H Q := by
  refine ⟨env, P, ⟨hS.1, fun i hi => hS.2 i (by simpa [IL.vars] using hi)⟩, ?_⟩
  show Wp W E H ((evE C W.T env a).bind fun d => R.ok [d]) _
  cases e : evE C W.T env a with
  | ok d =>
    rw [e] at h
    intro vs H' FF e1 r
    obtain ⟨v, rfl, r1⟩ := (r.shL fun _ => rfl).one
    exact hk d h v H' e1 r1.there
  | ex c fs => rw [e] at h; exact h
  | bad => rw [e] at h; exact h
theorem den_a2 {a b : IE} {σ : L2.St} {H : Hp} {P : Addr → Prop} {env : Env} {k : D → D → Prop} {Q : List V → Hp → Prop} (hS : Sees W H P env σ (a.vars ++ b.vars)) (h : Wp W E H (evE C W.T env a) fun x => Wp W E H (evE C W.T env b) fun y => k x y)
    (hk : ∀ d e, k d e → ∀ v u H1, Ext H H1 → Rp W H1 (There (Nw P H) H1) d v → Rp W H1 (There (Nw P H) H1) e u → Q [v, u] H1) : denL W C E (.cons a (.cons b .nil)) (fun _ => .sh) σ H Q := by
  refine ⟨env, P, ⟨hS.1, fun i hi => hS.2 i (by simpa [IL.vars] using hi)⟩, ?_⟩
  show Wp W E H ((evE C W.T env a).bind fun d => ((evE C W.T env b).bind fun e => R.ok [e]).bind fun ds => R.ok (d :: ds)) _
  cases e : evE C W.T env a with
  | ok d =>
    rw [e] at h
    have h : Wp W E H (evE C W.T env b) fun y => k d y := h
    show Wp W E H (((evE C W.T env b).bind fun e => R.ok [e]).bind fun ds => R.ok (d :: ds)) _
    cases e' : evE C W.T env b with
    | ok d' =>
      rw [e'] at h
      intro vs H' FF e1 r
      obtain ⟨v, u, rfl, r1, r2⟩ := (r.shL fun _ => rfl).two
      exact hk d d' h v u H' e1 r1.there r2.there
    | ex c fs => rw [e'] at h; exact h
    | bad => rw [e'] at h; exact h
  | ex c fs => rw [e] at h; exact h
  | bad => rw [e] at h; exact h
theorem small_of {n : Int} (h : small62 n = true) : -(2 ^ 62) ≤ n ∧ n < 2 ^ 62 := by simpa [small62] using h
theorem si_rng1 (c : Ctx W C k X N sc E) {a : IE} {tg y : PySem.Expr} {p pos : Pos} (hg : glB sc ("range" : Str) = true) (hy : noStar y = true) (ha : PA X [y] (denL W C E (.cons a .nil) fun _ => .sh)) : PI X tg (.Call (.Name "range" p) [y] [] pos) (denIt W C E (.rng1 a)) :=
  PI.imp (pi_range1 (gl_of c hg).1 c.facts.rng ha (star_cons hy [] _)) fun σ H Rr ⟨env, P, hS, h⟩ => by
    have h : Wp W E H ((evE C W.T env a).bind fun x => match x with
      | .int n => if small62 n then R.ok (rngL 0 1 n.toNat) else R.bad
      | _ => R.bad) _ := h
    refine den_a1 hS h.bind fun da ha v H1 e1 r1 => ?_
    cases r1 with
    | int n =>
      have ha : Wp W E H (if small62 n then R.ok (rngL 0 1 n.toNat) else R.bad) _ := ha
      split at ha
      · rename_i hs
        exact ⟨n, rfl, (small_of hs).1, (small_of hs).2, ha _ H1 e1 it_rng⟩
      · exact ha.elim
    | _ => exact ha.elim
theorem si_rng2 (c : Ctx W C k X N sc E) {a b : IE} {tg y z : PySem.Expr} {p pos : Pos} (hg : glB sc ("range" : Str) = true) (hy : noStar y = true) (hz : noStar z = true) (ha : PA X [y, z] (denL W C E (.cons a (.cons b .nil)) fun _ => .sh)) : PI X tg (.Call (.Name "range" p) [y, z] [] pos) (denIt W C E (.rng2 a b)) :=
  PI.imp (pi_range2 (gl_of c hg).1 c.facts.rng ha (star_two hy hz _) (star_cons hz [] _)) fun σ H Rr ⟨env, P, hS, h⟩ => by
    have h : Wp W E H ((evE C W.T env a).bind fun x => (evE C W.T env b).bind fun y => match x, y with
      | .int i, .int j => if small62 i && small62 j then R.ok (rngL i 1 (j - i).toNat) else R.bad
      | _, _ => R.bad) _ := h
    refine den_a2 hS (h.bind.imp fun x hx => hx.bind) fun da db ha v u H1 e1 r1 r2 => ?_
    cases r1 with
    | int i =>
      cases r2 with
      | int j =>
        have ha : Wp W E H (if small62 i && small62 j then R.ok (rngL i 1 (j - i).toNat) else R.bad) _ := ha
        split at ha
        · rename_i hs
          rw [Bool.and_eq_true] at hs
          exact ⟨i, j, rfl, ⟨(small_of hs.1).1, (small_of hs.1).2, small_of hs.2⟩, ha _ H1 e1 it_rng⟩
        · exact ha.elim
      | _ => exact ha.elim
    | _ => exact ha.elim
theorem si_enum (c : Ctx W C k X N sc E) {a : IE} {y : PySem.Expr} {elts : List PySem.Expr} {kk : Nat} {p pos tpos : Pos} (hg : glB sc ("enumerate" : Str) = true) (hy : noStar y = true) (ha : PA X [y] (denL W C E (.cons a .nil) fun _ => .sh)) : PI X (.Tuple elts kk tpos) (.Call (.Name "enumerate" p) [y] [] pos) (denIt W C E (.enum a)) :=
  PI.imp (pi_enum (gl_of c hg).1 c.facts.enum ha (star_cons hy [] _)) fun σ H Rr ⟨env, P, hS, h⟩ => by
    have h : Wp W E H ((evE C W.T env a).bind fun x => match x with
      | .lst xs => R.ok (enumL 0 xs)
      | .scr ns => R.ok (enumL 0 (ns.map D.int))
      | _ => R.bad) _ := h
    refine den_a1 hS h.bind fun da ha v H1 e1 r1 => ?_
    rw [c.K]
    cases r1 with
    | lst h1 h2 h3 h4 => exact ⟨_, _, rfl, .of h1, ha _ H1 e1 (it_enum (fun H' l => .of (l _ _ h1 (.inl h2))) ⟨h3, h4⟩)⟩
    | scr h1 =>
      exact ⟨_, _, rfl, h1.sq, ha _ H1 e1 (it_enum (fun H' l => by
        rcases h1 with ⟨o, h1⟩ | h1
        · exact .inl (.inr ⟨o, l _ _ h1 (.inr trivial)⟩)
        · exact .inr h1) (rpl_ints _))⟩
    | _ => exact ha.elim
theorem si_zip (c : Ctx W C k X N sc E) {a b : IE} {y z : PySem.Expr} {elts : List PySem.Expr} {kk : Nat} {p pos tpos : Pos} (hg : glB sc ("zip" : Str) = true) (hy : noStar y = true) (hz : noStar z = true) (ha : PA X [y, z] (denL W C E (.cons a (.cons b .nil)) fun _ => .sh)) : PI X (.Tuple elts kk tpos) (.Call (.Name "zip" p) [y, z] [] pos) (denIt W C E (.zip a b)) :=
  PI.imp (pi_zipK (gl_of c hg).1 c.facts.zip ha (star_cons hy _ _) (star_any (by simp [hz]) _ _)) fun σ H Rr ⟨env, P, hS, h⟩ => by
    have h : Wp W E H ((evE C W.T env a).bind fun x => (evE C W.T env b).bind fun y => match x, y with
      | .lst xs, .lst ys => R.ok (zipL xs ys)
      | .lst xs, .tup ys => R.ok (zipL xs ys)
      | .tup xs, .lst ys => R.ok (zipL xs ys)
      | .tup xs, .tup ys => R.ok (zipL xs ys)
      | _, _ => R.bad) _ := h
    refine den_a2 hS (h.bind.imp fun x hx => hx.bind) fun da db ha v u H1 e1 r1 r2 => ?_
    rw [c.K]
    cases r1 with
    | lst h1 h2 h3 h4 =>
      cases r2 with
      | lst g1 g2 g3 g4 => exact ⟨false, false, _, _, rfl, _, _, ⟨.of h1, .of g1⟩, ha _ H1 e1 (it_zipK (t := false) (u := false) (fun H' l => .of (l _ _ h1 (.inl h2))) ⟨h3, h4⟩ (fun H' l => .of (l _ _ g1 (.inl g2))) ⟨g3, g4⟩)⟩
      | tup g1 g3 g4 => exact ⟨false, true, _, _, rfl, _, _, ⟨.of h1, .of g1⟩, ha _ H1 e1 (it_zipK (t := false) (u := true) (fun H' l => .of (l _ _ h1 (.inl h2))) ⟨h3, h4⟩ (fun H' l => .of (l _ _ g1 (.inr trivial))) ⟨g3, g4⟩)⟩
      | _ => exact ha.elim
    | tup h1 h3 h4 =>
      cases r2 with
      | lst g1 g2 g3 g4 => exact ⟨true, false, _, _, rfl, _, _, ⟨.of h1, .of g1⟩, ha _ H1 e1 (it_zipK (t := true) (u := false) (fun H' l => .of (l _ _ h1 (.inr trivial))) ⟨h3, h4⟩ (fun H' l => .of (l _ _ g1 (.inl g2))) ⟨g3, g4⟩)⟩
      | tup g1 g3 g4 => exact ⟨true, true, _, _, rfl, _, _, ⟨.of h1, .of g1⟩, ha _ H1 e1 (it_zipK (t := true) (u := true) (fun H' l => .of (l _ _ h1 (.inr trivial))) ⟨h3, h4⟩ (fun H' l => .of (l _ _ g1 (.inr trivial))) ⟨g3, g4⟩)⟩
      | _ => exact ha.elim
    | _ => exact ha.elim
theorem si_rev (c : Ctx W C k X N sc E) {a : IE} {tg y : PySem.Expr} {p pos : Pos} (hg : glB sc ("reversed" : Str) = true) (hy : noStar y = true) (ha : PA X [y] (denL W C E (.cons a .nil) fun _ => .sh)) : PI X tg (.Call (.Name "reversed" p) [y] [] pos) (denIt W C E (.rev a)) :=
  PI.imp (pi_reversed (gl_of c hg).1 c.facts.rev ha (star_cons hy [] _)) fun σ H Rr ⟨env, P, hS, h⟩ => by
    have h : Wp W E H ((evE C W.T env a).bind fun x => match x with
      | .lst xs => R.ok xs.reverse
      | _ => R.bad) _ := h
    refine den_a1 hS h.bind fun da ha v H1 e1 r1 => ?_
    rw [c.K]
    cases r1 with
    | lst h1 h2 h3 h4 => exact ⟨_, _, rfl, .of h1, ha _ H1 e1 (it_rev h1 h2 ⟨h3, h4⟩)⟩
    | _ => exact ha.elim
end
end G
end
section
set_option Elab.async false
set_option linter.all false
set_option maxRecDepth 100000
set_option maxHeartbeats 4000000
namespace G
open PySem PySem.Spec PyProof.Rows L2
section
variable {W : Wd} {C : Calls} {E : XK} {k : Nat} {X : Cx} {N : List Str} {sc : Scope}
theorem RpL.three {H : Hp} {P : Addr → Prop} {d e f : D} {vs : List V} (r : RpL W H P [d, e, f] vs) : ∃ v u w, vs = [v, u, w] ∧ Rp W H P d v ∧ Rp W H P e u ∧ Rp W H P f w := by
  obtain ⟨v, q, rfl, r1, r2⟩ := r.un
  obtain ⟨u, w, rfl, r3, r4⟩ := r2.two
  exact ⟨v, u, w, rfl, r1, r3, r4⟩
theorem si_rng3 (c : Ctx W C k X N sc E) {a b d : IE} {tg y z q : PySem.Expr} {p pos : Pos} (hg : glB sc ("range" : Str) = true) (hy : noStar y = true) (hz : noStar z = true) (hq : noStar q = true) (ha : PA X [y, z, q] (denL W C E (.cons a (.cons b (.cons d .nil))) fun _ => .sh)) : PI X tg (.Call (.Name "range" p) [y, z, q] [] pos) (denIt W C E (.rng3 a b d)) :=
  PI.imp (pi_range3 (gl_of c hg).1 c.facts.rng ha (star_cons hy _ _) (star_any (by simp [hz, hq]) _ _)) fun σ H Rr ⟨env, P, hS, h⟩ => by
    have h : Wp W E H ((evE C W.T env a).bind fun x => (evE C W.T env b).bind fun y => (evE C W.T env d).bind fun z => match x, y, z with
      | .int i, .int j, .int k => if k ≠ 0 ∧ k.natAbs < 1073741824 ∧ Builtin.Range.small i j k = true ∧ 0 ≤ Builtin.Range.rangeSize i j k then R.ok (rngL i k (rngN i j k)) else R.bad
      | _, _, _ => R.bad) _ := h
    refine ⟨env, P, ⟨hS.1, fun i hi => hS.2 i (by simpa [IL.vars, IT.vars] using hi)⟩, ?_⟩
    have g : Wp W E H (evL C W.T env (.cons a (.cons b (.cons d .nil)))) fun ds => ∃ x y z, ds = [x, y, z] ∧ Wp W E H (match x, y, z with
      | .int i, .int j, .int k => if k ≠ 0 ∧ k.natAbs < 1073741824 ∧ Builtin.Range.small i j k = true ∧ 0 ≤ Builtin.Range.rangeSize i j k then R.ok (rngL i k (rngN i j k)) else R.bad
      | _, _, _ => R.bad) fun ds => ∀ J H1, Ext H H1 → ItOk W (itP (.rng3 a b d) (There (Nw P H) H1)) J ds H1 → Rr J H1 := by
      show Wp W E H ((evE C W.T env a).bind fun x => ((evE C W.T env b).bind fun y => ((evE C W.T env d).bind fun z => R.ok [z]).bind fun r => R.ok (y :: r)).bind fun r => R.ok (x :: r)) _
      cases e1 : evE C W.T env a with
      | ok x =>
        rw [e1] at h
        show Wp W E H (((evE C W.T env b).bind fun y => ((evE C W.T env d).bind fun z => R.ok [z]).bind fun r => R.ok (y :: r)).bind fun r => R.ok (x :: r)) _
        rw [bind_ok] at h
        cases e2 : evE C W.T env b with
        | ok y =>
          rw [e2, bind_ok] at h
          show Wp W E H ((((evE C W.T env d).bind fun z => R.ok [z]).bind fun r => R.ok (y :: r)).bind fun r => R.ok (x :: r)) _
          cases e3 : evE C W.T env d with
          | ok z =>
            rw [e3, bind_ok] at h
            exact ⟨x, y, z, rfl, h⟩
          | ex c fs => rw [e3] at h; exact h
          | bad => rw [e3] at h; exact h
        | ex c fs => rw [e2] at h; exact h
        | bad => rw [e2] at h; exact h
      | ex c fs => rw [e1] at h; exact h
      | bad => rw [e1] at h; exact h
    refine g.imp fun ds ⟨x, y, z, eds, hk⟩ vs H1 FF e1 r => ?_
    subst eds
    obtain ⟨v, u, w, rfl, r1, r2, r3⟩ := (r.shL fun _ => rfl).three
    cases r1 with
    | int i =>
      cases r2 with
      | int j =>
        cases r3 with
        | int l =>
          have hk : Wp W E H (if l ≠ 0 ∧ l.natAbs < 1073741824 ∧ Builtin.Range.small i j l = true ∧ 0 ≤ Builtin.Range.rangeSize i j l then R.ok (rngL i l (rngN i j l)) else R.bad) _ := hk
          split at hk
          · rename_i hs
            exact ⟨i, j, l, rngN i j l, rfl, ⟨hs.1, hs.2.1, hs.2.2.1, (Int.toNat_of_nonneg hs.2.2.2).symm⟩, hk _ H1 e1 it_rngC⟩
          · exact hk.elim
        | _ => exact hk.elim
      | _ => exact hk.elim
    | _ => exact hk.elim
/-! ### comprehensions -/
theorem compR_some {f : D → R (Option D)} : ∀ {ds : List D} {ys : List D}, compR f ds = .ok ys → ∃ os : List (Option D), os.length = ds.length ∧ (∀ (i : Nat) d, ds[i]? = some d → ∃ o, os[i]? = some o ∧ f d = .ok o) ∧ ys = os.filterMap id
  | [], ys, h => by cases h; exact ⟨[], rfl, fun i d e => by simp at e, rfl⟩
  | d :: r, ys, h => by
    have h : (f d).bind (fun o => (compR f r).bind fun ys => R.ok (match o with
      | some y => y :: ys
      | none => ys)) = .ok ys := h
    cases e1 : f d with
    | ok o =>
      rw [e1, bind_ok] at h
      cases e2 : compR f r with
      | ok q =>
        rw [e2, bind_ok] at h
        cases h
        obtain ⟨os, h1, h2, rfl⟩ := compR_some e2
        refine ⟨o :: os, by simp [h1], fun i d' ed => ?_, by cases o <;> rfl⟩
        cases i with
        | zero =>
          obtain rfl : d = d' := by simpa using ed
          exact ⟨o, rfl, e1⟩
        | succ i => exact h2 i d' (by simpa using ed)
      | ex c fs => rw [e2] at h; cases h
      | bad => rw [e2] at h; cases h
    | ex c fs => rw [e1] at h; cases h
    | bad => rw [e1] at h; cases h
theorem compR_noex {f : D → R (Option D)} (hf : ∀ d, NoEx (f d)) : ∀ ds : List D, NoEx (compR f ds)
  | [] => .ok _
  | d :: r => .bind (hf d) fun _ => .bind (compR_noex hf r) fun _ => .ok _
theorem R.noex_noex {α : Type} (x : R α) : NoEx x.noex := fun c fs e => by cases x <;> cases e
theorem noex_inv {α : Type} {x : R α} {a : α} (h : x.noex = .ok a) : x = .ok a := by
  cases x with
  | ok b => exact h
  | ex c fs => cases h
  | bad => cases h
/-- the new list as far as it goes -/
def Grow (W : Wd) (P : Addr → Prop) (H1 : Hp) (A : Addr) (s : S) (ys : List D) (H' : Hp) : Prop := Ext H1 H' ∧ ∃ (acc : List V) (FF : Nat → Addr → Prop), H' A = some (.lst acc) ∧ ys.length = acc.length ∧ (∀ i a, FF i a → H1 a = none ∧ a ≠ A ∧ ∃ o, H' a = some o ∧ ¬ isFix o) ∧
  (∀ i j a, FF i a → FF j a → i = j) ∧ ∀ (i : Nat) d v, ys[i]? = some d → acc[i]? = some v → Ow W H' (fun a => Nw P H1 a ∧ a ≠ A ∧ ∀ j, ¬ FF j a) s d v (FF i)
theorem Grow.ext {P : Addr → Prop} {H1 H2 H3 : Hp} {A : Addr} {s : S} {ys : List D} (g : Grow W P H1 A s ys H2) (e : Ext H2 H3) : Grow W P H1 A s ys H3 := by
  obtain ⟨e1, acc, FF, h1, h2, h3, h4, h5⟩ := g
  refine ⟨e1.trans e, acc, FF, e _ _ h1, h2, fun i a z => ?_, h4, fun i d v ed ev => (h5 i d v ed ev).keep e.kp (fun _ z => z) fun a o _ q => e a o q⟩
  obtain ⟨a1, a2, o, a3, a4⟩ := h3 i a z
  exact ⟨a1, a2, o, e a o a3, a4⟩
theorem Grow.len {P : Addr → Prop} {H1 H2 : Hp} {A : Addr} {s : S} {ys : List D} (g : Grow W P H1 A s ys H2) : ∃ acc, H2 A = some (.lst acc) ∧ acc.length = ys.length := by
  obtain ⟨e1, acc, FF, h1, h2, _⟩ := g
  exact ⟨acc, h1, h2.symm⟩
/-- one more -/
theorem Grow.push {P : Addr → Prop} {H1 H2 H4 H5 : Hp} {A : Addr} {s : S} {ys : List D} {y : D} {v : V} {F : Addr → Prop} {acc : List V} (g : Grow W P H1 A s ys H2) (hA : H1 A = none) (e : Ext H2 H4) (e' : Ext H4 H5) (ha : H5 A = some (.lst acc)) (hf : Fresh H4 H5 F)
    (o : Ow W H5 (fun a => Nw (There P H1) H4 a ∧ ¬ F a) s y v F) : Grow W P H1 A s (ys ++ [y]) (upd H5 A (.lst (acc ++ [v]))) := by
  obtain ⟨e1, acc', FF, h1, h2, h3, h4, h5⟩ := g
  have e25 := e.trans e'
  obtain rfl : acc' = acc := by
    have := e25 _ _ h1
    rw [ha] at this
    cases this
    rfl
  have nA : ∀ {a : Addr}, a ≠ A → upd H5 A (.lst (acc' ++ [v])) a = H5 a := fun h => upd_ne h
  have fA : ∀ a, F a → a ≠ A := fun a z q => by
    subst q
    have := (hf _ z).1
    rw [e _ _ h1] at this
    cases this
  have sep : ∀ j a, F a → FF j a → False := fun j a z z' => by
    obtain ⟨_, _, o, q, _⟩ := h3 j a z'
    have := (hf a z).1
    rw [e _ _ q] at this
    cases this
  have up : ∀ {P' : Addr → Prop}, (∀ a, P' a → a ≠ A) → Kp H5 (upd H5 A (.lst (acc' ++ [v]))) P' := fun hp a u eq hu => .inl (by
    rw [nA]
    · exact eq
    · rcases hu with hu | hu
      · exact hp a hu
      · intro z
        subst z
        rw [ha] at eq
        cases eq
        exact hu)
  refine ⟨fun a u q => ?_, acc' ++ [v], fun j a => if j = acc'.length then F a else FF j a ∧ j < acc'.length, upd_same, by simp [h2], fun i a z => ?_, fun i j a z z' => ?_, fun i d u ed eu => ?_⟩
  · rw [nA (ne_of_none q hA)]
    exact e25 a u (e1 a u q)
  · by_cases hi : i = acc'.length
    · simp only [hi, if_true] at z
      obtain ⟨q1, o, q2, q3⟩ := hf a z
      exact ⟨(e1.trans e).free q1, fA a z, o, by rw [nA (fA a z)]; exact q2, q3⟩
    · simp only [hi, if_false] at z
      obtain ⟨a1, a2, o, a3, a4⟩ := h3 i a z.1
      exact ⟨a1, a2, o, by rw [nA a2]; exact e25 a o a3, a4⟩
  · by_cases hi : i = acc'.length <;> by_cases hj : j = acc'.length
    · rw [hi, hj]
    · simp only [hi, if_true] at z
      simp only [hj, if_false] at z'
      exact (sep j a z z'.1).elim
    · simp only [hj, if_true] at z'
      simp only [hi, if_false] at z
      exact (sep i a z' z.1).elim
    · simp only [hi, if_false] at z
      simp only [hj, if_false] at z'
      exact h4 i j a z.1 z'.1
  · by_cases hi : i < acc'.length
    · have ne : i ≠ acc'.length := by omega
      rw [List.getElem?_append_left (by rw [h2]; exact hi)] at ed
      rw [List.getElem?_append_left hi] at eu
      have k1 := (h5 i d u ed eu).there.keep e25.kp (P' := fun a => (Nw P H1 a ∧ a ≠ A ∧ ∀ j, ¬ FF j a) ∧ ∃ o, H2 a = some o) (fun a z => z) fun a o _ q => e25 a o q
      have k2 : Ow W (upd H5 A (.lst (acc' ++ [v]))) (fun a => Nw P H1 a ∧ a ≠ A ∧ ∀ j, ¬ (if j = acc'.length then F a else FF j a ∧ j < acc'.length)) s d u (FF i) := by
        refine k1.keep (up fun a z => z.1.2.1) (fun a z => ⟨z.1.1, z.1.2.1, fun j => ?_⟩) fun a o z q => ?_
        · rw [nA (h3 i a z).2.1]
          exact q
        · obtain ⟨z, o, q⟩ := z
          by_cases hj : j = acc'.length
          · simp only [hj, if_true]
            intro fa
            have := (hf a fa).1
            rw [e _ _ q] at this
            cases this
          · simp only [hj, if_false]
            exact fun w => z.2.2 j w.1
      refine k2.wide fun a z => ?_
      simp only [ne, if_false]
      exact ⟨z, hi⟩
    · have hi2 : i = acc'.length := by
        have := (List.getElem?_eq_some_iff.mp eu).1
        simp at this
        omega
      subst hi2
      have ed2 : some y = some d := by rw [← ed, ← h2]; simp
      have eu2 : some v = some u := by rw [← eu]; simp
      cases ed2
      cases eu2
      have hAp : ∀ a, (Nw (There P H1) H4 a ∧ ¬ F a) → a ≠ A := fun a z q => by
        subst q
        rcases z.1 with ⟨_, o, w⟩ | w
        · rw [hA] at w; cases w
        · rw [e _ _ h1] at w; cases w
      have k2 : Ow W (upd H5 A (.lst (acc' ++ [v]))) (fun a => Nw P H1 a ∧ a ≠ A ∧ ∀ j, ¬ (if j = acc'.length then F a else FF j a ∧ j < acc'.length)) s y v F := by
        refine o.keep (up hAp) (fun a z => ⟨z.1.elim (fun z => .inl z.1) fun z => .inr ((e1.trans e).free z), hAp a z, fun j => ?_⟩) fun a w z q => ?_
        · rw [nA (fA a z)]
          exact q
        · by_cases hj : j = acc'.length
          · simp only [hj, if_true]
            exact z.2
          · simp only [hj, if_false]
            intro w
            obtain ⟨b1, _, o2, b2, _⟩ := h3 j a w.1
            rcases z.1 with ⟨_, o3, q⟩ | q
            · rw [b1] at q; cases q
            · rw [e _ _ b2] at q; cases q
      refine k2.wide fun a z => ?_
      simp only [if_true]
      exact z
end
end G
end
section
set_option Elab.async false
set_option linter.all false
set_option maxRecDepth 100000
set_option maxHeartbeats 4000000
namespace G
open PySem PySem.Spec PyProof.Rows L2
def E0 : XK := fun _ _ _ => False
section
variable {W : Wd} {C : Calls} {E : XK} {k : Nat} {X : Cx} {N : List Str} {sc : Scope}
theorem blk_ctx (c : Ctx W C k X N sc E) (s : Shared) (H : Hp) (scope : Scope) (A : Addr) (cl : List (Str × Addr)) (fp : List Addr) : Ctx W C k (X.blk s H scope (compEnvC scope cl A X.env) fp) N (relS scope sc) E0 where
  K := c.K
  n := c.n
  nd := c.nd
  sc := by
    show relS scope X.env.scope = _
    rw [c.sc]
  calm := c.calm
  room := c.room
  facts := c.facts
  calls := c.calls
  pass := fun pins σ H s e s' I h => by
    obtain ⟨_, _, _, _, _, _, _, _, _, _, _, _, z⟩ := h
    exact z.elim
theorem blk_tgs (c : Ctx W C k X N sc E) (s : Shared) (H : Hp) (scope : Scope) (A : Addr) (cl : List (Str × Addr)) (fp : List Addr) : Tgs (X.blk s H scope (compEnvC scope cl A X.env) fp) N scope where
  n := c.n
  nd := c.nd
  calm := c.calm
  loc := fun x h => lookup_relS_keep (by decide) h
  cel := fun x h => ⟨lookup_relS_keep (by decide) h, by
    show (scope.names.lookup x == some .cell) = true
    rw [h]
    rfl⟩
theorem sc_none {X : Cx} : PTs X [] (denC W C E .none) := ⟨fun pins s σ H Q I ⟨env, P, hS, h⟩ => pts_nil.run pins s σ H Q I (h H (Ext.refl H))⟩
theorem sc_some {X : Cx} {a : IE} {x : PySem.Expr} (h : PT X x (denT W C E a)) : PTs X [x] (denC W C E (.some a)) := ⟨fun pins s σ H Q I ⟨env, P, hS, hw⟩ => (pts_one h).run pins s σ H Q I ⟨env, P, hS, hw⟩⟩
theorem wipe_ext : ∀ {vs : List Nat} {σ1 σ2 : L2.St}, σ1.length = σ2.length → (∀ i, i ∉ vs → σ1[i]? = σ2[i]?) → wipe σ1 vs = wipe σ2 vs
  | [], σ1, σ2, hl, h => List.ext_getElem? fun i => h i (by simp)
  | v :: vs, σ1, σ2, hl, h => by
    refine List.ext_getElem? fun i => ?_
    show ((wipe σ1 vs).set v none)[i]? = ((wipe σ2 vs).set v none)[i]?
    by_cases hv : v = i
    · subst hv
      rw [List.getElem?_set, List.getElem?_set, wipe_length, wipe_length, hl, if_pos rfl, if_pos rfl]
    · rw [List.getElem?_set_ne hv, List.getElem?_set_ne hv]
      by_cases hm : i ∈ vs
      · have no : ∀ {σ : L2.St}, (wipe σ vs)[i]? = if i < σ.length then some none else none := fun {σ} => by
          cases e : (wipe σ vs)[i]? with
          | none =>
            have := List.getElem?_eq_none_iff.mp e
            rw [wipe_length] at this
            rw [if_neg (by omega)]
          | some o =>
            have := (List.getElem?_eq_some_iff.mp e).1
            rw [wipe_length] at this
            rw [if_pos this]
            cases o with
            | none => rfl
            | some x => exact absurd hm (wipe_some e).2
        rw [no, no, hl]
      · rw [wipe_out hm, wipe_out hm]
        exact h i (by simp [hm]; exact fun e => hv e.symm)
theorem ownL_snd (N : List Str) (tg : List Nat) : (ownL N tg).map (·.2) = tg := by simp [ownL, Function.comp_def]
theorem Sees.there {H : Hp} {P : Addr → Prop} {env : Env} {σ : L2.St} {vs : List Nat} (h : Sees W H P env σ vs) : Sees W H (There P H) env σ vs := ⟨h.1, fun i hi d he => by
  obtain ⟨v, h1, h2⟩ := h.2 i hi d he
  exact ⟨v, h1, h2.there⟩⟩
theorem Sees.wiped {H : Hp} {P : Addr → Prop} {env : Env} {σ : L2.St} {vs tg : List Nat} (h : Sees W H P env σ (vs.filter fun i => !tg.contains i)) : Sees W H P env (wipe σ tg) (vs.filter fun i => !tg.contains i) := ⟨by rw [wipe_length]; exact h.1, fun i hi d he => by
  obtain ⟨v, h1, h2⟩ := h.2 i hi d he
  have : i ∉ tg := by
    have := (List.mem_filter.mp hi).2
    simpa using this
  exact ⟨v, by rw [wipe_out this]; exact h1, h2⟩⟩
/-- one thing of a comprehension -/
def elF (C : Calls) (T : Tab) (env : Env) (elt : IE) (tu : Bool) (tg : List Nat) (cnd : IO) (d : D) : R (Option D) := match setT tu tg d env with
  | some env1 => ((evC C T env1 cnd).bind fun k => if k then (evE C T env1 elt).bind fun y => .ok (some y) else .ok none).noex
  | none => .bad
theorem elF_noex (T : Tab) (env : Env) (elt : IE) (tu : Bool) (tg : List Nat) (cnd : IO) (d : D) : NoEx (elF C T env elt tu tg cnd d) := by
  unfold elF
  split
  · exact R.noex_noex _
  · exact .bad
theorem elF_inv {T : Tab} {env : Env} {elt : IE} {tu : Bool} {tg : List Nat} {cnd : IO} {d : D} {o : Option D} (h : elF C T env elt tu tg cnd d = .ok o) :
    ∃ env1 b, setT tu tg d env = some env1 ∧ evC C T env1 cnd = .ok b ∧ (b = false ∧ o = none ∨ b = true ∧ ∃ y, evE C T env1 elt = .ok y ∧ o = some y) := by
  unfold elF at h
  split at h
  · rename_i env1 hs
    have h := noex_inv h
    refine ⟨env1, ?_⟩
    cases hb : evC C T env1 cnd with
    | ok b =>
      rw [hb, bind_ok] at h
      refine ⟨b, hs, rfl, ?_⟩
      cases b with
      | false => cases h; exact .inl ⟨rfl, rfl⟩
      | true =>
        refine .inr ⟨rfl, ?_⟩
        have h : (evE C T env1 elt).bind (fun y => R.ok (some y)) = .ok o := h
        cases hy : evE C T env1 elt with
        | ok y => rw [hy] at h; cases h; exact ⟨y, rfl, rfl⟩
        | ex c fs => rw [hy] at h; cases h
        | bad => rw [hy] at h; cases h
    | ex c fs => rw [hb] at h; cases h
    | bad => rw [hb] at h; cases h
  · cases h
/-- a comprehension's loop -/
theorem comp_core {K : PySem.W.Frag} {elt : IE} {tu : Bool} {tg : List Nat} {cnd : IO} {s s' : S} (hs : (s = .sh ∧ s' = .sh) ∨ s = .lst s') {σ : L2.St} {H : Hp} {Q : VK} {env : Env} {P : Addr → Prop} {ds : List D} (hS : Sees W H P env σ ((elt.vars ++ cnd.vars).filter fun i => !tg.contains i))
    (hd : Wp W E H ((compR (elF C W.T env elt tu tg cnd) ds).bind fun ys => if ds.length ≤ SZ then R.ok (D.lst ys) else R.bad) fun d => Res W H P s d Q) {J : It} {H1 : Hp} (e1 : Ext H H1) {PI : Addr → Prop} (hPI : ∀ a, PI a → There (Nw P H) H1 a) (hit : ItOk W PI J ds H1) (A : Addr) (hA : H1 A = none) :
    ∃ W' : Nat → Nat → Hp → Prop, (∃ m, W' 0 m (upd H1 A (.lst []))) ∧ ∀ i m H, W' i m H →
      (J.stop i H ∧ Q (.ref A) H) ∨ (J.go i H ∧ ∃ Nx : Hp → Prop, (∀ H', Nx H' → ∃ m', m' < m ∧ W' (i + 1) m' H') ∧ ∀ x H', J.yld i H x H' → gT K tu tg x (wipe σ tg) H' fun σ2 H2 => wipe σ2 tg = wipe σ tg ∧ denC W C E0 cnd σ2 H2 fun b H3 =>
        if b = true then den W C E0 elt s' σ2 H3 fun y H4 => ∃ acc, H4 A = some (.lst acc) ∧ acc.length < sizeLine ∧ Nx (upd H4 A (.lst (acc ++ [y]))) else Nx H3) := by
  obtain ⟨ys, hy, hd⟩ := (compR_noex (elF_noex (C := C) W.T env elt tu tg cnd) ds).got (Wp.bind hd)
  have hd : Wp W E H (if ds.length ≤ SZ then R.ok (D.lst ys) else R.bad) fun d => Res W H P s d Q := hd
  split at hd
  case isFalse => exact hd.elim
  rename_i hz
  have q : Res W H P s (.lst ys) Q := hd
  obtain ⟨os, ho1, ho2, rfl⟩ := compR_some hy
  obtain ⟨Y, wk, hit⟩ := hit
  refine lc_it wk (Qd := Q (.ref A)) (fun i H' => Grow W (Nw P H) H1 A s' ((os.take i).filterMap id) H') ?_ (fun i H' _ g => g.1.later) (fun i x H2 H3 hlt g y => ?_) fun H' g => ?_
  · exact ⟨Ext.new hA, [], fun _ _ => False, upd_same, by simp, fun _ _ z => z.elim, fun _ _ _ z => z.elim, fun i d v e => by simp at e⟩
  · have ed : ds[i]? = some ds[i] := by simp [hlt]
    obtain ⟨o, eo, ef⟩ := ho2 i _ ed
    obtain ⟨e3, rx⟩ := hit i H2 x H3 _ g.1.later y ed
    have rx := rx.mono (P' := There (Nw P H) H1) hPI
    obtain ⟨env1, b, hst, hb, hr⟩ := elF_inv ef
    obtain ⟨σ1, hrun, l1, l2, hout, hin⟩ := setT_rel (K := K) (σ := wipe σ tg) hst rx (by rw [wipe_length]; exact hS.1)
    have hw : wipe σ1 tg = wipe σ tg := wipe_ext (by rw [l2, wipe_length]) fun j hj => by rw [(hout j hj).1, wipe_out hj]
    have s3 : Sees W H3 (There (Nw P H) H1) env1 σ1 (elt.vars ++ cnd.vars) := (((hS.up e1).there.ext (g.1.trans e3)).wiped).target l1 hout hin
    have tk : (os.take (i + 1)).filterMap id = (os.take i).filterMap id ++ o.toList := by
      rw [List.take_add_one, eo, List.filterMap_append]
      cases o <;> rfl
    refine hrun _ ⟨hw, env1, There (Nw P H) H1, Sees.r s3, ?_⟩
    rw [hb]
    intro H4 e4
    rcases hr with ⟨rfl, rfl⟩ | ⟨rfl, y', hy', rfl⟩
    · show Grow W (Nw P H) H1 A s' ((os.take (i + 1)).filterMap id) H4
      rw [tk, Option.toList_none, List.append_nil]
      exact g.ext (e3.trans e4)
    · refine ⟨env1, There (Nw P H) H1, (Sees.l s3).ext e4, ?_⟩
      rw [hy']
      intro v H5 F e5 f5 o5
      obtain ⟨acc, ha, hl⟩ := (g.ext (e3.trans e4)).len
      refine ⟨acc, e5 _ _ ha, ?_, ?_⟩
      · rw [hl]
        have h1 := List.length_filterMap_le id (os.take i)
        rw [List.length_take] at h1
        rw [← SZ_eq]
        omega
      · rw [tk, Option.toList_some]
        exact g.push hA (e3.trans e4) e5 (e5 _ _ ha) f5 o5
  · rw [List.take_of_length_le (by omega)] at g
    obtain ⟨e2, acc, FF, h1, h2, h3, h4, h5⟩ := g
    have e12 := e1.trans e2
    rcases hs with ⟨rfl, rfl⟩ | rfl
    · refine q _ _ (fun _ => False) e12 (fun _ z => z.elim) (.sh (.lst h1 ⟨.inr (e1.free hA), fun z => z⟩ h2 fun i d v ed ev => ?_))
      cases h5 i d v ed ev with
      | sh r => exact r.mono fun a z => ⟨nw2 e1 z.1, fun z => z⟩
      | flat n r => exact r.flat n
      | obj FF hs => exact hs.elim
    · refine q _ _ (fun a => a = A ∨ allF FF a) e12 (fun a z => ?_) (.lst FF h1 (.inl rfl) h2 (fun i d v ed ev => ?_) (fun i b z => ⟨.inr ⟨i, z⟩, (h3 i b z).2.1⟩) h4)
      · rcases z with rfl | ⟨i, z⟩
        · exact ⟨e1.free hA, _, h1, fun z => z⟩
        · exact ⟨e1.free (h3 i a z).1, (h3 i a z).2.2⟩
      · refine (h5 i d v ed ev).mono fun a z => ⟨nw2 e1 z.1, fun z' => ?_⟩
        rcases z' with z' | ⟨j, z'⟩
        · exact z.2.1 z'
        · exact z.2.2 j z'
/-- a comprehension's reading from what is told of it -/
theorem comp_imp {K : PySem.W.Frag} {elt : IE} {tu : Bool} {tg : List Nat} {it : IT} {cnd : IO} {s s' : S} (hs : (s = .sh ∧ s' = .sh) ∨ s = .lst s') {σ : L2.St} {H : Hp} {Q : VK} (h : den W C E (.comp elt tu tg it cnd) s σ H Q) :
    tLc (denIt W C E it) (gT K tu tg) (denC W C E0 cnd) (den W C E0 elt s') ((ownL N tg).map (·.2)) σ H Q := by
  obtain ⟨env, P, hS, h⟩ := h
  rw [ownL_snd]
  have h : Wp W E H ((evIt C W.T env it).bind fun ds => (compR (elF C W.T env elt tu tg cnd) ds).bind fun ys => if ds.length ≤ SZ then R.ok (D.lst ys) else R.bad) fun d => Res W H P s d Q := h
  exact ⟨env, P, Sees.l hS, h.bind.imp fun ds hd J H1 e1 hit A hA => comp_core hs (Sees.r hS) hd e1 (fun a z => itP_le z) hit A hA⟩
theorem se_comp (c : Ctx W C k X N sc E) {elt : IE} {tu : Bool} {tg : List Nat} {it : IT} {cnd : IO} {x t iter : PySem.Expr} {ifs : List PySem.Expr} {scope : Scope} {pos : Pos} {s s' : S} (hs : (s = .sh ∧ s' = .sh) ∨ s = .lst s') (hb : blkC N sc scope (ownL N tg) = true) (htg : tgB N scope tu tg t = true)
    (hi : PI X t iter (denIt W C E it)) (hset : noSet iter = true) (hc : ∀ (s : Shared) (H : Hp) (A : Addr) (cl : List (Str × Addr)) (fp : List Addr), PTs (X.blk s H scope (compEnvC scope cl A X.env) fp) ifs (denC W C E0 cnd))
    (he : ∀ (s : Shared) (H : Hp) (A : Addr) (cl : List (Str × Addr)) (fp : List Addr), PE (X.blk s H scope (compEnvC scope cl A X.env) fp) x (den W C E0 elt s')) : PE X (.ListComp x [⟨t, iter, ifs, 0⟩] scope pos) (den W C E (.comp elt tu tg it cnd) s) := by
  have ok : BlkOk X.N X.env.scope scope (ownL N tg) := by
    rw [c.n, c.sc]
    exact blkOk_by hb
  exact PE.imp (pe_lc (g := gT X.K tu tg) c.calm (by rw [c.n]; exact c.nd) hi ok (fun s H A cl fp => tg_any (blk_tgs c s H scope A cl fp) htg) hc he (fold_set hset X.env)) fun σ H Q h => comp_imp hs h
/-- name = [..] on one line -/
theorem ss_comp (c : Ctx W C k X N sc E) {i : Nat} {y : Str} {py spos : Pos} {elt : IE} {tu : Bool} {tg : List Nat} {it : IT} {cnd : IO} {x t iter : PySem.Expr} {ifs : List PySem.Expr} {scope : Scope} {pos : Pos} {s s' : S} (hy : N[i]? = some y) (hyl : sc.names.lookup y = some .local)
    (hsw : swapsWith (.ListComp x [⟨t, iter, ifs, 0⟩] scope pos) (some (.Name y py)) spos.line X.env = pure true) (hs : (s = .sh ∧ s' = .sh) ∨ s = .lst s') (hb : blkC N sc scope (ownL N tg) = true) (htg : tgB N scope tu tg t = true)
    (hi : PI X t iter (denIt W C E it)) (hset : noSet iter = true) (hc : ∀ (s : Shared) (H : Hp) (A : Addr) (cl : List (Str × Addr)) (fp : List Addr), PTs (X.blk s H scope (compEnvC scope cl A X.env) fp) ifs (denC W C E0 cnd))
    (he : ∀ (s : Shared) (H : Hp) (A : Addr) (cl : List (Str × Addr)) (fp : List Addr), PE (X.blk s H scope (compEnvC scope cl A X.env) fp) x (den W C E0 elt s')) : PS X (.Assign [.Name y py] (.ListComp x [⟨t, iter, ifs, 0⟩] scope pos) spos) (tAsg (den W C E (.comp elt tu tg it cnd) s) (gName i)) := by
  have ok : BlkOk X.N X.env.scope scope (ownL N tg) := by
    rw [c.n, c.sc]
    exact blkOk_by hb
  have := ps_setLc (g := gT X.K tu tg) c.calm (by rw [c.n]; exact c.nd) (by rw [c.n]; exact hy) (by rw [c.sc]; exact hyl) hsw hi ok (fun s H A cl fp => tg_any (blk_tgs c s H scope A cl fp) htg) hc he (fold_set hset X.env)
  exact ⟨fun pins s0 σ H D I h => this.run pins s0 σ H D I (comp_imp hs h)⟩
end
end G
end
section
set_option Elab.async false
set_option linter.all false
set_option maxRecDepth 100000
set_option maxHeartbeats 4000000
namespace G
open PySem PySem.Spec PyProof.Rows L2
section
variable {W : Wd} {C : Calls} {E : XK} {k : Nat} {X : Cx} {N : List Str} {sc : Scope}
/-! ### isinstance -/
theorem tyOf_rp {K : PySem.W.Frag} (hK : K = W.K) {H : Hp} {P : Addr → Prop} {d : D} {x : V} {u : Nat} (r : Rp W H P d x) (h : tyD d = some u) : TyX K H x (.type (tyN u)) := by
  cases r with
  | non => cases h
  | bl b => cases h; exact .base (.bl b)
  | int i => cases h; exact .base (.int i)
  | str x => cases h; exact .base (.str _)
  | lst h1 _ _ _ => cases h; exact .base (.lst h1)
  | tup h1 _ _ => cases h; exact .base (.tup h1)
  | dicK h1 _ _ _ _ =>
    cases h
    rcases h1 with h1 | ⟨o, h1⟩
    · exact .base (.dK h1)
    · exact .fDict h1
  | dicT _ _ _ _ _ => cases h
  | ins _ _ _ _ _ => cases h
  | scr h1 =>
    cases h
    rcases h1 with ⟨o, h1⟩ | ⟨o, _, _, h1, h2, _⟩
    · exact .base (.frz h1)
    · exact .kList (by rw [hK]; exact h1) h2
theorem noex_isi (t : Nat) (d : D) : NoEx (isiD t d) := by
  unfold isiD
  split
  · exact .ok _
  · exact .bind (.of _) fun _ => .ok _
theorem kit_codes : ∀ u, u ≤ 5 → ∀ t, t ≤ 5 → kitB (tyN u) (tyN t) = some (decide (u = t) || (decide (u = 2) && decide (t = 0))) := by decide +kernel
theorem kit_none : ∀ t, t ≤ 5 → kitB "NoneType" (tyN t) = some false := by decide +kernel
theorem tyD_le {d : D} {u : Nat} (h : tyD d = some u) : u ≤ 5 := by
  cases d <;> simp [tyD] at h <;> first
    | omega
    | (rename_i t _; cases t <;> simp [tyD] at h <;> omega)
theorem ty_free (f : Facts W X.mg) : ∀ t, t ≤ 5 → X.mg (Str.ofString (tyN t)) = none
  | 0, _ => f.free .int
  | 1, _ => f.free .str
  | 2, _ => f.boo
  | 3, _ => f.free .tuple
  | 4, _ => f.free .list
  | 5, _ => f.free .dict
  | n + 6, h => by omega
theorem ty_boot : ∀ t, t ≤ 5 → bootBuiltins (Str.ofString (tyN t)) = some (.type (tyN t))
  | 0, _ => rfl
  | 1, _ => rfl
  | 2, _ => rfl
  | 3, _ => rfl
  | 4, _ => rfl
  | 5, _ => rfl
  | n + 6, h => by omega
theorem se_isi (c : Ctx W C k X N sc E) {a : IE} {t : Nat} {y : PySem.Expr} {p p2 pos : Pos} (ht : t ≤ 5) (hg : glB sc ("isinstance" : Str) = true) (hz : glB sc (Str.ofString (tyN t)) = true) (hy : noStar y = true) (ha : PE X y (den W C E a .sh)) {s : S} :
    PE X (.Call (.Name "isinstance" p) [y, .Name (Str.ofString (tyN t)) p2] [] pos) (den W C E (.isi a [t]) s) := by
  obtain ⟨g1, g2, g3⟩ := gl_of c hg
  obtain ⟨z1, z2, z3⟩ := gl_of c hz
  have hb : PE X (.Name (Str.ofString (tyN t)) p2) (tC (.ty (tyN t))) := pe_bltn z1 (ty_free c.facts t ht) (ty_boot t ht) rfl z3 z2
  refine PE.imp (pe_callB call_isi g1 c.facts.isi rfl (pa_cons ha (pa_cons hb pa_nil rfl) (star_cons hy _ _)) g3 g2 (star_cons hy _ _) rfl) fun σ H Q ⟨env, P, hS, h⟩ => ?_
  have h : Wp W E H ((evE C W.T env a).bind fun x => (isiD t x).bind fun b => R.ok (D.bl b)) _ := h
  refine den_n (Ext.refl H) hS h.bind fun da hd v H1 e1 _ r1 => ?_
  obtain ⟨b, eb, q⟩ := (noex_isi _ _).got hd.bind
  have q : Q (.bl b) H1 := Res.bl q e1
  by_cases hn : da = .non
  · subst hn
    cases r1
    cases eb
    exact ⟨.non, .ty (tyN t), .type "NoneType", .type (tyN t), false, rfl, .ty _, .base .non, kit_ty (kit_none t ht), q⟩
  · have eb : (R.of (tyD da)).bind (fun u => R.ok (decide (u = t) || (decide (u = 2) && decide (t = 0)))) = .ok b := by
      cases da <;> first
        | exact absurd rfl hn
        | exact eb
    obtain ⟨u, e2, e3⟩ := bind_inv eb
    cases e3
    have e2 := R.of_ok e2
    exact ⟨v, .ty (tyN t), .type (tyN u), .type (tyN t), _, rfl, .ty _, tyOf_rp c.K r1 e2, kit_ty (kit_codes u (tyD_le e2) t ht), q⟩
/-! ### a dict's display -/
def trK (W : Wd) (C : Calls) (E : XK) : IKV → List (TE × TE)
  | .nil => []
  | .cons k v r => (den W C E k .sh, den W C E v .sh) :: trK W C E r
theorem pairs_run : ∀ (kvs : IKV) {H0 H : Hp} {P : Addr → Prop} {env : Env} {σ : L2.St} {kk : List (DK × D) → Prop} {Q : List (V × V) → Hp → Prop}, Ext H0 H → Sees W H0 P env σ kvs.vars → Wp W E H0 (evKV C W.T env kvs) kk →
    (∀ kds, kk kds → ∀ (rs : List (Key × V)) H1, Ext H H1 → PairR KeyK (Rp W H1 (Nw P H0)) kds rs → Q (rs.map fun kv => (kV kv.1, kv.2)) H1) → tPairs (trK W C E kvs) σ H Q
  | .nil, H0, H, P, env, σ, kk, Q, e0, hS, h, hk => hk [] h [] H (Ext.refl H) .nil
  | .cons a b r, H0, H, P, env, σ, kk, Q, e0, hS, h, hk => by
    have h : Wp W E H0 ((evE C W.T env a).bind fun x => (R.of (toK false x)).bind fun k => (evE C W.T env b).bind fun y => (evKV C W.T env r).bind fun kvs => R.ok ((k, y) :: kvs)) kk := h
    refine den_n e0 (Sees.l hS) h.bind fun da ha x H1 e1 e1' r1 => ?_
    obtain ⟨key, hkey, ha⟩ := (Wp.bind ha).of
    refine den_n e1 (Sees.l (Sees.r hS)) (Wp.bind ha) fun db hb y H2 e2 e2' r2 => ?_
    refine pairs_run r e2 (Sees.r (Sees.r hS)) (Wp.bind hb) fun kds hkd rs H3 e3 pr => ?_
    obtain ⟨kq, kr, rfl⟩ := toK_flat hkey r1
    exact hk _ hkd ((kq, y) :: rs) H3 ((e1'.trans e2').trans e3) (.cons kr (r2.ext e3) pr)
theorem se_dic {kvs : IKV} {ks : List (Option PySem.Expr)} {vs : List PySem.Expr} {pos : Pos} {s : S} (hs : s = .sh ∨ s = .dic) (hp : PPs X pos ks vs (trK W C E kvs)) (hall : ks.all (·.isSome) = true) (hl : ks.length = vs.length) (h0 : ks ≠ []) (h15 : ks.length ≤ 15) : PE X (.Dict ks vs pos) (den W C E (.dic kvs) s) :=
  PE.imp (pe_disp hp hall hl h0 h15) fun σ H Q ⟨env, P, hS, h⟩ p hp => by
    have h : Wp W E H ((evKV C W.T env kvs).bind fun kvs => if kvs.length ≤ 15 then R.ok (D.dic false (kvs.foldl (fun acc kv => putK acc kv.1 kv.2) [])) else R.bad) _ := h
    have e1 : Ext H (upd H p (.dK [])) := Ext.new hp
    refine pairs_run kvs (Ext.refl _) (hS.there.ext e1) (h.bind.up e1) fun kds hk rs H1 e2 pr => ?_
    have hk : Wp W E H (if kds.length ≤ 15 then R.ok (D.dic false (kds.foldl (fun acc kv => putK acc kv.1 kv.2) [])) else R.bad) _ := hk
    split at hk
    case isFalse => exact hk.elim
    rename_i hz
    have q : Res W H P s (.dic false (kds.foldl (fun acc kv => putK acc kv.1 kv.2) [])) Q := hk
    have hp1 : H1 p = some (.dK []) := e2 _ _ upd_same
    refine ⟨hp1, rs, rfl, by rw [← pr.1]; exact hz, ?_⟩
    have mr := merge_rel pr (.nil : PairR KeyK _ [] [])
    have hne : ∀ a, Nw (There P H) (upd H p (.dK [])) a → a ≠ p := fun a z q => by
      subst q
      rcases z with ⟨_, o, w⟩ | w
      · rw [hp] at w; cases w
      · rw [upd_same] at w; cases w
    have kp : Kp H1 (upd H1 p (.dK (mergeK [] rs))) (Nw (There P H) (upd H p (.dK []))) := fun a u e z => .inl (by
      rw [upd_ne]
      · exact e
      · intro w
        subst w
        rcases z with z | z
        · exact hne _ z rfl
        · rw [hp1] at e
          cases e
          exact z)
    have e3 : Ext H (upd H1 p (.dK (mergeK [] rs))) := fun a u w => by
      rw [upd_ne (ne_of_none w hp)]
      exact (e1.trans e2) a u w
    have up : ∀ a, Nw (There P H) (upd H p (.dK [])) a → Nw P H a := fun a z => z.elim (fun z => .inl z.1) fun z => .inr (e1.free z)
    rcases hs with rfl | rfl
    · exact q _ _ (fun _ => False) e3 (fun _ z => z.elim) (.sh (.dicK (.inl upd_same) ⟨.inr hp, fun z => z⟩ mr.1 mr.2.1 fun i d v ed ev => (mr.2.2 i d v ed ev).keep kp fun a z => ⟨up a z, fun z => z⟩))
    · refine q _ _ (one p) e3 (fun a z => ?_) (.dicK upd_same rfl mr.1 mr.2.1 fun i d v ed ev => (mr.2.2 i d v ed ev).keep kp fun a z => ⟨up a z, hne a z⟩)
      cases z
      exact ⟨hp, _, upd_same, fun z => z⟩
end
end G
end
section
set_option Elab.async false
set_option linter.all false
set_option maxRecDepth 100000
set_option maxHeartbeats 4000000
namespace G
open PySem PySem.Spec PyProof.Rows L2
/-! ### a dict's walk -/
def tVf (W : Wd) (b : Nat) : List Nat → TE
  | [] => tVar b
  | f :: r => tFld W.K (tVf W b r) (W.T.fname f)
def iD (it : IT) (td : TE) : TI := match it with
  | .items _ => iItems td
  | .vals _ => iVals td
  | .keys _ => iKeys td
  | _ => fun _ _ _ => False
def itE : IT → IE
  | .items e => e
  | .vals e => e
  | .keys e => e
  | _ => .nv
section
variable {W : Wd} {C : Calls} {E : XK} {k : Nat} {X : Cx} {N : List Str} {sc : Scope}
theorem pth_fld {a : IE} {f b : Nat} {fs : List Nat} (h : pthE (.fld a f) = some (b, fs)) : ∃ r, pthE a = some (b, r) ∧ fs = f :: r := by
  have h : (pthE a).map (fun p => (p.1, f :: p.2)) = some (b, fs) := h
  cases e : pthE a with
  | none => rw [e] at h; cases h
  | some p => rw [e] at h; cases h; exact ⟨p.2, rfl, rfl⟩
theorem pe_vf (c : Ctx W C k X N sc E) : ∀ (e : IE) {b : Nat} {fs : List Nat} {x : PySem.Expr}, pthE e = some (b, fs) → chkE W.T N sc e x = true → PE X x (tVf W b fs) ∧ ∀ f ∈ fs, f < W.T.nfl
  | .v i, b, fs, x, hp, h => by
    cases hp
    unfold chkE at h
    split at h
    · rw [Bool.and_eq_true] at h
      obtain ⟨v1, v2, v3⟩ := vis_of c h.2
      exact ⟨pe_var (by rw [c.n]; exact of_decide_eq_true h.1) v1 v2 v3, fun f hf => by simp at hf⟩
    · cases h
  | .fld a f, b, fs, x, hp, h => by
    obtain ⟨r, hr, rfl⟩ := pth_fld hp
    unfold chkE at h
    split at h
    · rw [Bool.and_eq_true, Bool.and_eq_true, Bool.and_eq_true] at h
      obtain ⟨⟨⟨h1, h2⟩, h3⟩, h4⟩ := h
      have h2 := of_decide_eq_true h2
      subst h2
      obtain ⟨p1, p2⟩ := pe_vf c a hr h4
      have := pe_fld (X := X) (f := W.T.fname f) (pos := by assumption) p1 (sup_base h3 _ _ _)
      rw [c.K] at this
      refine ⟨this, fun g hg => ?_⟩
      rcases List.mem_cons.mp hg with rfl | hg
      · exact of_decide_eq_true h1
      · exact p2 g hg
    · cases h
theorem vf_run (fc : Facts W X.mg) {H : Hp} {P : Addr → Prop} {env : Env} {σ : L2.St} : ∀ (e : IE) {b : Nat} {fs : List Nat} {d : D}, pthE e = some (b, fs) → (∀ f ∈ fs, f < W.T.nfl) → Sees W H P env σ e.vars → evE C W.T env e = .ok d →
    ∃ v, Rp W H P d v ∧ ∀ (H1 : Hp) (Q : VK), (∀ a C dx fs, H a = some (.ins C dx fs) → H1 a = some (.ins C dx fs)) → Q v H1 → tVf W b fs σ H1 Q
  | .v i, b, fs, d, hp, hf, hS, h => by
    cases hp
    have h : getV env i = .ok d := h
    unfold getV at h
    split at h
    · rename_i d' hd
      cases h
      obtain ⟨v, e1, r⟩ := hS.2 i (by simp [IE.vars]) d hd
      exact ⟨v, r, fun H1 Q _ q => ⟨v, e1, q⟩⟩
    · cases h
  | .fld a f, b, fs, d, hp, hf, hS, h => by
    obtain ⟨r, hr, rfl⟩ := pth_fld hp
    obtain ⟨d0, e0, e1⟩ := bind_inv (show (evE C W.T env a).bind (fun x => fldD x f) = .ok d from h)
    obtain ⟨v0, r0, run⟩ := vf_run fc a hr (fun g hg => hf g (List.mem_cons_of_mem _ hg)) hS e0
    cases r0 with
    | @ins p dx cl gs ds h1 h2 h3 h4 h5 =>
      obtain ⟨i, u, a1, a2, a3, _, _⟩ := FsR.get fc.finj (W := W) ⟨h3, h4⟩ (R.of_ok (show R.of (getF ds f) = .ok d from e1))
      exact ⟨u, h5 i _ _ a1 a2, fun H1 Q ki q => run H1 _ ki ⟨p, _, dx, gs, u, rfl, ki _ _ _ _ h1, fc.cls cl, fc.nat cl f (hf f List.mem_cons_self), a3, q⟩⟩
    | _ => cases e1
theorem vf_noex (T : Tab) (env : Env) : ∀ (e : IE) {p : Nat × List Nat}, pthE e = some p → NoEx (evE C T env e)
  | .v i, p, h => fun c fs q => by
    have q : getV env i = .ex c fs := q
    unfold getV at q
    split at q <;> cases q
  | .fld a f, p, h => by
    obtain ⟨r, hr, _⟩ := pth_fld (b := p.1) (fs := p.2) h
    exact .bind (vf_noex T env a hr) fun x => noex_fld x f
theorem key_rp {H : Hp} {P : Addr → Prop} {k : DK} {q : Key} (h : KeyK k q) : Rp W H P k.toD (kV q) := by
  cases h with
  | i n => exact .int n
  | s x => exact .str x
theorem it_items {H : Hp} {P : Addr → Prop} {a : Addr} {o : Obj} {ds : List (DK × D)} {kvs : List (Key × V)} (h : H a = some (.frz o (.dK kvs))) (r : PairR KeyK (Rp W H P) ds kvs) : ItOk W P (Iti a o kvs) (ds.map fun kv => .tup [kv.1.toD, kv.2]) H := by
  refine ⟨_, by rw [List.length_map, r.1]; exact walk_items.mono (fun H' l => l a _ h (.inr trivial)) fun _ _ _ _ _ _ y => y, fun i H2 x H3 d l y e => ?_⟩
  obtain ⟨T, x1, y1, rfl, hT, rfl, e1, e2⟩ := y
  rw [List.getElem?_map] at e
  cases ed : ds[i]? with
  | none => rw [ed] at e; cases e
  | some kd =>
    rw [ed] at e
    cases e
    have e1 : (kvs[i]?.map fun kv => kV kv.1) = some x1 := e1
    have e2 : kvs[i]?.map Prod.snd = some y1 := e2
    cases ev : kvs[i]? with
    | none => rw [ev] at e1; cases e1
    | some kv =>
      rw [ev] at e1 e2
      cases e1
      cases e2
      exact pair_rp hT (key_rp (r.2.1 i _ _ ed ev)) ((r.2.2 i _ _ ed ev).keep l.kp fun _ z => z)
theorem it_vals {H : Hp} {P : Addr → Prop} {a : Addr} {o : Obj} {ds : List (DK × D)} {kvs : List (Key × V)} (h : H a = some (.frz o (.dK kvs))) (r : PairR KeyK (Rp W H P) ds kvs) : ItOk W P (Itd a o kvs) (ds.map fun kv => kv.2) H := by
  refine ⟨_, by rw [List.length_map, r.1]; exact walk_values.mono (fun H' l => l a _ h (.inr trivial)) fun _ _ _ _ _ _ y => y, fun i H2 x H3 d l y e => ?_⟩
  obtain ⟨rfl, q, ev⟩ := y
  rw [List.getElem?_map] at e
  cases ed : ds[i]? with
  | none => rw [ed] at e; cases e
  | some kd =>
    rw [ed] at e
    cases e
    exact ⟨Ext.refl _, (r.2.2 i _ _ ed ev).keep l.kp fun _ z => z⟩
theorem it_keys {H : Hp} {P : Addr → Prop} {a : Addr} {o : Obj} {ds : List (DK × D)} {kvs : List (Key × V)} (h : H a = some (.frz o (.dK kvs))) (r : PairR KeyK (Rp W H P) ds kvs) : ItOk W P (Itk a o kvs) (ds.map fun kv => kv.1.toD) H := by
  refine ⟨_, by rw [List.length_map, r.1]; exact walk_keys.mono (fun H' l => l a _ h (.inr trivial)) fun _ _ _ _ _ _ y => y, fun i H2 x H3 d l y e => ?_⟩
  obtain ⟨rfl, q, v, ev, rfl⟩ := y
  rw [List.getElem?_map] at e
  cases ed : ds[i]? with
  | none => rw [ed] at e; cases e
  | some kd =>
    rw [ed] at e
    cases e
    exact ⟨Ext.refl _, key_rp (r.2.1 i _ _ ed ev)⟩
/-- the dict that is walked; with it locked, the walk -/
theorem dict_src (fc : Facts W X.mg) {it : IT} {H : Hp} {P : Addr → Prop} {env : Env} {σ : L2.St} {b : Nat} {fs : List Nat} {ds : List D} (hit : isDit it = true) (hp : pthE (itE it) = some (b, fs)) (hf : ∀ f ∈ fs, f < W.T.nfl) (hS : Sees W H P env σ it.vars) (h : evIt C W.T env it = .ok ds) :
    ∃ (a : Addr) (kvs : List (Key × V)), L2.Rd H a (.dK kvs) ∧ ∀ (H1 : Hp) (o : Obj), Kp H H1 (fun _ => True) → (∀ a C dx fs, H a = some (.ins C dx fs) → H1 a = some (.ins C dx fs)) → H1 a = some (.frz o (.dK kvs)) →
      ∃ J, ItOk W (There P H1) J ds H1 ∧ ∀ R : It → Hp → Prop, R J H1 → iD it (tVf W b fs) σ H1 R := by
  have there : ∀ {kvs : List (DK × D)} {rs : List (Key × V)} {H1 : Hp}, Kp H H1 (fun _ => True) → PairR KeyK (Rp W H P) kvs rs → PairR KeyK (Rp W H1 (There P H1)) kvs rs := fun kp r =>
    ⟨r.1, r.2.1, fun i d v e u => ((r.2.2 i d v e u).keep (fun a o q z => kp a o q (.inl trivial)) fun _ z => z).there⟩
  cases it <;> first
    | exact absurd (show false = true from hit) Bool.false_ne_true
    | skip
  · rename_i e
    obtain ⟨d, e1, e2⟩ := bind_inv (show (evE C W.T env e).bind (fun x => match x with
      | .dic false kvs => R.ok (kvs.map fun kv => D.tup [kv.1.toD, kv.2])
      | _ => R.bad) = .ok ds from h)
    obtain ⟨v, rv, run⟩ := vf_run fc e hp hf hS e1
    cases rv with
    | @dicK a kvs dd h1 h2 h3 h4 h5 =>
      cases e2
      exact ⟨a, kvs, h1, fun H1 o kp ki hl => ⟨_, it_items hl (there kp ⟨h3, h4, h5⟩), fun R q => run H1 _ ki ⟨a, o, kvs, rfl, hl, q⟩⟩⟩
    | _ => cases e2
  · rename_i e
    obtain ⟨d, e1, e2⟩ := bind_inv (show (evE C W.T env e).bind (fun x => match x with
      | .dic false kvs => R.ok (kvs.map fun kv => kv.2)
      | _ => R.bad) = .ok ds from h)
    obtain ⟨v, rv, run⟩ := vf_run fc e hp hf hS e1
    cases rv with
    | @dicK a kvs dd h1 h2 h3 h4 h5 =>
      cases e2
      exact ⟨a, kvs, h1, fun H1 o kp ki hl => ⟨_, it_vals hl (there kp ⟨h3, h4, h5⟩), fun R q => run H1 _ ki ⟨a, o, kvs, rfl, hl, q⟩⟩⟩
    | _ => cases e2
  · rename_i e
    obtain ⟨d, e1, e2⟩ := bind_inv (show (evE C W.T env e).bind (fun x => match x with
      | .dic false kvs => R.ok (kvs.map fun kv => kv.1.toD)
      | _ => R.bad) = .ok ds from h)
    obtain ⟨v, rv, run⟩ := vf_run fc e hp hf hS e1
    cases rv with
    | @dicK a kvs dd h1 h2 h3 h4 h5 =>
      cases e2
      exact ⟨a, kvs, h1, fun H1 o kp ki hl => ⟨_, it_keys hl (there kp ⟨h3, h4, h5⟩), fun R q => run H1 _ ki ⟨a, o, rfl, .inl ⟨kvs, hl, q⟩⟩⟩⟩
    | _ => cases e2
/-- the text's side of it -/
theorem si_dict (c : Ctx W C k X N sc E) {it : IT} {t x : PySem.Expr} (hd : isDit it = true) (h : chkIt W.T N sc (isTup t) it x = true) : isDit it = true ∧ ∃ b fs, pthE (itE it) = some (b, fs) ∧ (∀ f ∈ fs, f < W.T.nfl) ∧ PI X t x (iD it (tVf W b fs)) := by
  cases it <;> first
    | exact absurd (show false = true from hd) Bool.false_ne_true
    | skip
  · rename_i e
    unfold chkIt at h
    split at h
    · rw [Bool.and_eq_true, Bool.and_eq_true, Bool.and_eq_true, Bool.and_eq_true, Bool.and_eq_true] at h
      obtain ⟨⟨⟨h1, h2⟩, h3, h4⟩, h5, h6⟩ := h
      have h1 := of_decide_eq_true h1
      subst h1
      obtain ⟨⟨b, fs⟩, hp⟩ := Option.isSome_iff_exists.mp h5
      obtain ⟨p1, p2⟩ := pe_vf c e hp h6
      refine ⟨rfl, b, fs, hp, p2, ?_⟩
      cases t <;> first
        | exact pi_items p1 (sup_base h3 _ _ _) h4
        | cases h2
    · cases h
  · rename_i e
    unfold chkIt at h
    split at h
    · rw [Bool.and_eq_true, Bool.and_eq_true, Bool.and_eq_true, Bool.and_eq_true] at h
      obtain ⟨⟨h1, h3, h4⟩, h5, h6⟩ := h
      have h1 := of_decide_eq_true h1
      subst h1
      obtain ⟨⟨b, fs⟩, hp⟩ := Option.isSome_iff_exists.mp h5
      obtain ⟨p1, p2⟩ := pe_vf c e hp h6
      exact ⟨rfl, b, fs, hp, p2, pi_values p1 (sup_base h3 _ _ _) h4⟩
    · cases h
  · rename_i e
    have h : ((pthE e).isSome && chkE W.T N sc e x) = true := h
    rw [Bool.and_eq_true] at h
    obtain ⟨h5, h6⟩ := h
    obtain ⟨⟨b, fs⟩, hp⟩ := Option.isSome_iff_exists.mp h5
    obtain ⟨p1, p2⟩ := pe_vf c e hp h6
    exact ⟨rfl, b, fs, hp, p2, pi_keys p1⟩
theorem noex_itD (T : Tab) (env : Env) {it : IT} {p : Nat × List Nat} (h : isDit it = true) (hp : pthE (itE it) = some p) : NoEx (evIt C T env it) := by
  cases it <;> first
    | exact absurd (show false = true from h) Bool.false_ne_true
    | (refine .bind (vf_noex T env _ hp) fun x => ?_; split <;> first | exact .ok _ | exact .bad)
/-- locking keeps a reading, unlocking gives it back -/
theorem kp_lock {H : Hp} {a : Addr} {od : Obj} {kvs : List (Key × V)} (h : H a = some (.dK kvs)) {P : Addr → Prop} : Kp H (upd H a (.frz od (.dK kvs))) P := fun x u e _ => by
  by_cases q : x = a
  · subst q
    rw [h] at e
    cases e
    exact .inr (.inl ⟨trivial, od, upd_same⟩)
  · exact .inl (by rw [upd_ne q]; exact e)
theorem kp_open {H : Hp} {a : Addr} {od : Obj} {kvs : List (Key × V)} (h : H a = some (.frz od (.dK kvs))) {P : Addr → Prop} : Kp H (upd H a (.dK kvs)) P := fun x u e _ => by
  by_cases q : x = a
  · subst q
    rw [h] at e
    cases e
    exact .inr (.inr ⟨od, .dK kvs, rfl, trivial, upd_same⟩)
  · exact .inl (by rw [upd_ne q]; exact e)
theorem Res.lock {H : Hp} {P : Addr → Prop} {s : S} {d : D} {Q : VK} {a : Addr} {od : Obj} {kvs : List (Key × V)} (q : Res W H P s d Q) (h : H a = some (.dK kvs)) : Res W (upd H a (.frz od (.dK kvs))) P s d fun v H' => H' a = some (.frz od (.dK kvs)) ∧ Q v (upd H' a (.dK kvs)) := fun v H' F e f o => by
  have ha : H' a = some (.frz od (.dK kvs)) := e _ _ upd_same
  have fre : ∀ x, upd H a (.frz od (.dK kvs)) x = none → H x = none ∧ x ≠ a := fun x w => by
    by_cases q : x = a
    · rw [q, upd_same] at w; cases w
    · rw [upd_ne q] at w; exact ⟨w, q⟩
  refine ⟨ha, q v _ F (fun x u w => ?_) (fun x z => ?_) (o.keep (kp_open ha) (fun x z => ⟨z.1.elim .inl fun w => .inr (fre x w).1, z.2⟩) fun x u z w => ?_)⟩
  · by_cases q : x = a
    · subst q
      rw [h] at w
      cases w
      exact upd_same
    · rw [upd_ne q]
      exact e x u (by rw [upd_ne q]; exact w)
  · obtain ⟨w1, u, w2, w3⟩ := f x z
    obtain ⟨w4, w5⟩ := fre x w1
    exact ⟨w4, u, by rw [upd_ne w5]; exact w2, w3⟩
  · rw [upd_ne (fre x (f x z).1).2]
    exact w
theorem se_compD (c : Ctx W C k X N sc E) {elt : IE} {tu : Bool} {tg : List Nat} {it : IT} {cnd : IO} {x t iter : PySem.Expr} {ifs : List PySem.Expr} {scope : Scope} {pos : Pos} {s s' : S} (hs : (s = .sh ∧ s' = .sh) ∨ s = .lst s') (hb : blkC N sc scope (ownL N tg) = true) (htg : tgB N scope tu tg t = true)
    (hd : isDit it = true) (hD : chkIt W.T N sc (isTup t) it iter = true) (hset : noSet iter = true) (hc : ∀ (s : Shared) (H : Hp) (A : Addr) (cl : List (Str × Addr)) (fp : List Addr), PTs (X.blk s H scope (compEnvC scope cl A X.env) fp) ifs (denC W C E0 cnd))
    (he : ∀ (s : Shared) (H : Hp) (A : Addr) (cl : List (Str × Addr)) (fp : List Addr), PE (X.blk s H scope (compEnvC scope cl A X.env) fp) x (den W C E0 elt s')) : PE X (.ListComp x [⟨t, iter, ifs, 0⟩] scope pos) (den W C E (.comp elt tu tg it cnd) s) := by
  have ok : BlkOk X.N X.env.scope scope (ownL N tg) := by
    rw [c.n, c.sc]
    exact blkOk_by hb
  obtain ⟨hk, b, fs, hp, hf, hi⟩ := si_dict c hd hD
  have T1 := pe_lc (pos := pos) (g := gT X.K tu tg) c.calm (by rw [c.n]; exact c.nd) hi ok (fun s H A cl fp => tg_any (blk_tgs c s H scope A cl fp) htg) hc he (fold_set hset X.env)
  refine ⟨fun pins s0 σ H Q I ⟨env, P, hS, h⟩ => ?_⟩
  have h : Wp W E H ((evIt C W.T env it).bind fun ds => (compR (elF C W.T env elt tu tg cnd) ds).bind fun ys => if ds.length ≤ SZ then R.ok (D.lst ys) else R.bad) fun d => Res W H P s d Q := h
  obtain ⟨ds, e1, h⟩ := (noex_itD (C := C) W.T env hk hp).got h.bind
  obtain ⟨a, kvs, hr, src⟩ := dict_src c.facts hk hp hf (Sees.l hS) e1
  have run : ∀ (H1 : Hp) (o : Obj) (Q1 : VK), Kp H H1 (fun _ => True) → (∀ a C dx fs, H a = some (.ins C dx fs) → H1 a = some (.ins C dx fs)) → H1 a = some (.frz o (.dK kvs)) →
      Wp W E0 H1 ((compR (elF C W.T env elt tu tg cnd) ds).bind fun ys => if ds.length ≤ SZ then R.ok (D.lst ys) else R.bad) (fun d => Res W H1 P s d Q1) → tLc (iD it (tVf W b fs)) (gT X.K tu tg) (denC W C E0 cnd) (den W C E0 elt s') ((ownL N tg).map (·.2)) σ H1 Q1 := fun H1 o Q1 kp ki hl hw => by
    obtain ⟨J, w1, w2⟩ := src H1 o kp ki hl
    rw [ownL_snd]
    refine w2 _ fun A hA => ?_
    exact comp_core hs ⟨hS.1, fun i hi d e => let ⟨v, g1, g2⟩ := (Sees.r hS).2 i hi d e; ⟨v, g1, g2.keep (fun a o q z => kp a o q (.inl trivial)) fun _ z => z⟩⟩ hw (Ext.refl H1) (fun x z => ⟨.inl z.1, z.2⟩) w1 A hA
  obtain ⟨dl, hdl, hres⟩ : ∃ dl, ((compR (elF C W.T env elt tu tg cnd) ds).bind fun ys => if ds.length ≤ SZ then R.ok (D.lst ys) else R.bad) = .ok dl ∧ Res W H P s dl Q := by
    have hn : NoEx ((compR (elF C W.T env elt tu tg cnd) ds).bind fun ys => if ds.length ≤ SZ then R.ok (D.lst ys) else R.bad) := .bind (compR_noex (elF_noex W.T env elt tu tg cnd) ds) fun _ => .ite (.ok _) .bad
    exact hn.got h
  rcases hr with hr | ⟨o, hr⟩
  · refine (pe_lock T1).run pins s0 σ H Q I ⟨a, .dK kvs, hr, trivial, fun od => run _ od _ (kp_lock hr) (fun x C dx fs e => ?_) upd_same ?_⟩
    · rw [upd_ne]
      · exact e
      · intro q
        rw [q, hr] at e
        cases e
    · rw [hdl]
      exact hres.lock hr
  · refine T1.run pins s0 σ H Q I (run H o Q (fun a u e z => .inl e) (fun _ _ _ _ e => e) hr ?_)
    rw [hdl]
    exact hres
end
end G
end
section
set_option Elab.async false
set_option linter.all false
set_option maxRecDepth 100000
set_option maxHeartbeats 4000000
namespace G
open PySem PySem.Spec PyProof.Rows L2
/-! ### list(reversed(a list)) -/
section
variable {pg : Program} {wo : World} {Ar : Around} {Ee : Value → Shared → Prop} {sh : Shared}
theorem rev_ext {R : Result → Shared → Prop} {it l : Addr} {xs : Array Value} (h0 : Ar.handled = none) (hi : sh.heap.IsRevIter it l ((xs.size : Int) - 1)) (hl : sh.heap.IsList l xs) (ne : l ≠ it) (hn : xs.size ≤ sizeLine)
    (S : Addr) (res : Value) (c0 : Nat) (hS : sh.heap.get? S = some { cls := .type "list", data := .seq #[] c0 }) (nSi : S ≠ it) (nSl : S ≠ l)
    (hR : ∀ hp tk acc c1, (∀ b o, b ≠ S → b ≠ it → sh.heap.get? b = some o → hp.get? b = some o) → hp.get? S = some { cls := .type "list", dict := none, data := .seq acc c1, slots := #[] } →
      ItemsOf (fun i v => xs[xs.size - 1 - i]? = some v) acc xs.size → R (.ok (.ret res)) { sh with heap := hp, toks := tk }) :
    wpAny (model pg wo) Ar.in1 (Builtin.List.listExtendWith (.ref S) (.ref it) res)
      (fun fin s1 => match fin with | .done f => R (.ok f) s1 | .again c1 => c1.quiet = true ∧ codeAny (model pg wo) Ar c1 R s1) (fun e s1 => R (.error e) s1) sh := by
  have Wk := (Walks.listRev (prog := pg) (w := wo) (A := Ar.in1) h0 it l ne xs).toS
  have nS : S ∉ [it, l] := by simp [nSi, nSl]
  have tI : sh.TypeIs (.ref it) "list_reverseiterator" := hi.typeIs
  have n1 : Builtin.List.listSameRef (.ref S) (.ref it) = false := by simp [Builtin.List.listSameRef, nSi]
  unfold Builtin.List.listExtendWith
  refine wpAny_bind (wpAny_typeOf tI ?_)
  rw [if_neg (by rw [n1]; decide)]
  refine wpAny_bind (wpAny_pyIter_revIter hi ?_)
  refine wpAny_bind (wpAny_holding ?_)
  unfold Builtin.List.listLengthHint
  refine wpAny_bind (wpAny_specialOf tI RT.nolen_lri ?_)
  refine wpAny_bind (wpAny_specialOf tI RT.hint_lri ?_)
  generalize hq : ("list_reverseiterator.__length_hint__" : String) = nm
  wp_delta
  rw [show splitId nm = some ("list_reverseiterator", "__length_hint__") from by subst hq; decide +kernel]
  subst hq
  refine wpAny_bind (wpAny_isInstance (b := true) tI (by rw [isSubtype_type]; kernel_rfl) ?_)
  refine wpAny_pure ?_
  rw [if_neg (by decide)]
  have z : ((xs.size : Nat) : Int) - 1 - ((0 : Nat) : Int) = (xs.size : Int) - 1 := by omega
  refine wpAny_pure ⟨plainId_quiet F.plain_extend_loop _, codeAny_extend_loopS Wk hn S nS res xs.size 0 _ #[] c0 rfl (Nat.zero_le _) ⟨Nat.zero_le _, by rw [z]; exact hi, hl⟩ hS (ItemsOf.nil _) fun s1 acc c1 mv g1 g2 => ?_⟩
  rw [Moved.eq_with mv]
  refine hR s1.heap s1.toks acc c1 (fun b o nb ni e => mv.heap b o (fun q => ?_) e) g1 g2
  simp only [List.mem_cons, List.not_mem_nil, or_false] at q
  rcases q with q | q
  · exact nb q
  · exact ni q
theorem rev_init {R : Result → Shared → Prop} {it l : Addr} {xs : Array Value} (h0 : Ar.handled = none) (hi : sh.heap.IsRevIter it l ((xs.size : Int) - 1)) (hl : sh.heap.IsList l xs) (ne : l ≠ it) (hn : xs.size ≤ sizeLine)
    (S : Addr) (hS : sh.heap.get? S = some { cls := .type "list", data := .seq #[] }) (nSi : S ≠ it) (nSl : S ≠ l)
    (hR : ∀ hp tk acc c1, (∀ b o, b ≠ S → b ≠ it → sh.heap.get? b = some o → hp.get? b = some o) → hp.get? S = some { cls := .type "list", dict := none, data := .seq acc c1, slots := #[] } →
      ItemsOf (fun i v => xs[xs.size - 1 - i]? = some v) acc xs.size → R (.ok (.ret .none)) { sh with heap := hp, toks := tk }) :
    wpAny (model pg wo) Ar.in1 (Builtin.«list.__init__» ⟨[.ref S, .ref it], []⟩)
      (fun fin s1 => match fin with | .done f => R (.ok f) s1 | .again c1 => c1.quiet = true ∧ codeAny (model pg wo) Ar c1 R s1) (fun e s1 => R (.error e) s1) sh := by
  show wpAny _ _ ((Builtin.List.listItems (.ref S)) >>= fun old => (Builtin.List.listUpdate (.ref S) fun _ => #[]) >>= fun _ => letGo old.toList.reverse >>= fun _ => Builtin.List.listExtendWith (.ref S) (.ref it) .none) _ _ sh
  refine wpAny_bind ?_
  unfold Builtin.List.listItems
  refine wpAny_bind (wpAny_seqItems hS rfl (wpAny_pure ?_))
  refine wpAny_bind (show wpAny _ _ (updateSeq S fun _ => #[]) _ _ sh from ?_)
  refine wpAny_updateSeq hS rfl ?_
  have g2 := Heap.get?_update_self (Obj.mapSeq fun _ => (#[] : Array Value)) hS rfl
  have ot : ∀ b o, b ≠ S → sh.heap.get? b = some o → (sh.heap.update S (Obj.mapSeq fun _ => (#[] : Array Value))).get? b = some o := fun b o nb e => (Heap.get?_update_other _ _ (Ne.symm nb)).trans e
  refine wpAny_bind (wpAny_letGo ?_)
  exact rev_ext h0 (hi.at fun o e => ot it o (Ne.symm nSi) e) (hl.at fun o e => ot l o (Ne.symm nSl) e) ne hn S .none _ g2 nSi nSl fun hp tk acc c1 k1 k2 k3 => hR hp tk acc c1 (fun b o nb ni e => k1 b o nb ni (ot b o nb e)) k2 k3
theorem rev_call {it l : Addr} {xs : Array Value} {Q : Value → Shared → Prop} (h0 : Ar.handled = none) (hi : sh.heap.IsRevIter it l ((xs.size : Int) - 1)) (hl : sh.heap.IsList l xs) (ne : l ≠ it) (hn : xs.size ≤ sizeLine)
    (hQ : ∀ hp tk acc c1, (∀ b o, b ≠ it → sh.heap.get? b = some o → hp.get? b = some o) → hp.get? sh.heap.objs.size = some { cls := .type "list", dict := none, data := .seq acc c1, slots := #[] } →
      ItemsOf (fun i v => xs[xs.size - 1 - i]? = some v) acc xs.size → Q (.ref sh.heap.objs.size) { sh with heap := hp, toks := tk }) :
    wpAny (model pg wo) Ar (call (.type "list") [.ref it]) Q Ee sh := by
  refine callType_codes (Q₁ := fun ob s1 => ob = .ref sh.heap.objs.size ∧ s1 = { sh with heap := sh.heap.push { cls := .type "list", data := .seq #[] } }) F.called_list (F.typeCall_list_1 _) F.entry_list_init (code_list_new _ ⟨rfl, rfl⟩) fun ob s1 h1 => ?_
  obtain ⟨rfl, rfl⟩ := h1
  have g : (sh.heap.push { cls := .type "list", data := .seq #[] }).get? sh.heap.objs.size = some { cls := .type "list", data := .seq #[] } := Heap.get?_push_size _ rfl
  obtain ⟨oi, ei, _⟩ := id hi
  obtain ⟨ol, el, _⟩ := id hl
  refine ⟨⟨_, g, rfl⟩, F.args_list_init_2 _ _, rev_init (Ar := Ar.in1) h0 (hi.at fun o e => Heap.get?_push_of_some _ e) (hl.push _) ne hn _ g (Nat.ne_of_gt (Heap.lt_size ei)) (Nat.ne_of_gt (Heap.lt_size el)) fun hp tk acc c1 k1 k2 k3 => ?_⟩
  exact ⟨rfl, hQ hp tk acc c1 (fun b o nb e => k1 b o (Nat.ne_of_lt (Heap.lt_size e)) nb (Heap.get?_push_of_some _ e)) k2 k3⟩
end
section
variable {X : Cx}
def tLrv (K : PySem.W.Frag) (te : TE) : TE := fun σ H Q => te σ H fun v H1 => ∃ (a : Addr) (xs : List V), v = .ref a ∧ SqL K H1 a xs ∧ ∀ q, H1 q = none → Q (.ref q) (upd H1 q (.lst xs.reverse))
theorem pe_lrv {e : PySem.Expr} {te : TE} {p p2 pos pos2 : Pos} (hc : X.calm = true) (hg : Gl X "list") (hm : X.mg "list" = none) (hg2 : Gl X "reversed") (hm2 : X.mg "reversed" = none) (he : PE X e te)
    (hs : starEach [e] X.env = (false, eval e X.env) :: starEach [] X.env)
    (hs2 : starEach [.Call (.Name "reversed" p2) [e] [] pos2] X.env = (false, eval (.Call (.Name "reversed" p2) [e] [] pos2) X.env) :: starEach [] X.env := by rfl) :
    PE X (.Call (.Name "list" p) [.Call (.Name "reversed" p2) [e] [] pos2] [] pos) (tLrv X.K te) := by
  refine ⟨fun pins st σ H Q I h => ?_⟩
  refine Call_ (ld_blt I hg hm boot_list (callWith_type1 (args_cons (Call_ (ld_blt I hg2 hm2 boot_reversed (callWith_type1 (args_cons (thn (he.run pins st σ H _ I h) fun u s1 ⟨v, H1, I1, r1, q1⟩ => args_nil ?_) hs) hs rfl))) hs2) hs2 rfl))
  obtain ⟨a, xs, rfl, hq, q⟩ := q1
  obtain rfl : u = Value.ref a := r1
  obtain ⟨its, rv, p1, hz⟩ := I1.list hq
  refine call_reversed_list p1.isList (args_nil ?_)
  obtain ⟨f0, f1, f2, f3, f4, f5⟩ := I1.fpOk (H' := H1) (b := s1.heap.objs.size) (Nat.le_refl _) (I1.hok.fresh (Nat.le_refl _))
  have I2 : Inv X pins σ H1 { s1 with heap := s1.heap.push (revObj a ((its.toArray.size : Int) - 1)) } := I1.kept (t' := s1.toks) fun b o e => Heap.get?_push_of_some _ e
  obtain ⟨ol, el, _⟩ := id p1.isList
  refine rev_call (sh := { s1 with heap := s1.heap.push (revObj a ((its.toArray.size : Int) - 1)) }) (I1.ok.hd hc) ⟨_, Heap.get?_push_size _ rfl, rfl, rfl⟩ (p1.isList.push _) (Nat.ne_of_lt (Heap.lt_size el)) (by rw [List.size_toArray, ← rv.length]; exact hz) fun hp tk acc c1 k1 k2 k3 => ?_
  have hz2 : s1.heap.objs.size ≤ (s1.heap.push (revObj a ((its.toArray.size : Int) - 1))).objs.size := by rw [Heap.size_push]; exact Nat.le_succ _
  refine ⟨.ref (s1.heap.push (revObj a ((its.toArray.size : Int) - 1))).objs.size, upd H1 (s1.heap.push (revObj a ((its.toArray.size : Int) - 1))).objs.size (.lst xs.reverse), I1.laid (t' := tk) (fun b o e => k1 b o (Nat.ne_of_lt (Heap.lt_size e)) (Heap.get?_push_of_some _ e)) hz2 (show ObjOk X.prog X.w _ _ _ (.lst xs.reverse) from ⟨by rw [List.length_reverse]; exact hz, acc.toList, c1, RT.vals_rev rv k3, ?_⟩), rfl, q _ (I1.hok.fresh hz2)⟩
  rw [Array.toArray_toList]
  exact k2
end
section
variable {W : Wd} {C : Calls} {k : Nat} {X : Cx} {N : List Str} {sc : Scope} {E : XK}
theorem se_lrv (c : Ctx W C k X N sc E) {a : IE} {l : PySem.Expr} {p p2 pos pos2 : Pos} {s : S} (hs : sOk s) (h1 : glB sc ("list" : Str) = true) (h2 : glB sc ("reversed" : Str) = true) (hl : noStar l = true) (ha : PE X l (den W C E a .sh)) : PE X (.Call (.Name "list" p) [.Call (.Name "reversed" p2) [l] [] pos2] [] pos) (den W C E (.lrv a) s) :=
  PE.imp (pe_lrv c.calm (gl_of c h1).1 (c.facts.free .list) (gl_of c h2).1 c.facts.rev ha (star_cons hl [] _)) fun σ H Q ⟨env, P, hS, h⟩ => by
    have h : Wp W E H ((evE C W.T env a).bind fun x => match x with | .lst xs => R.ok (D.lst xs.reverse) | _ => .bad) _ := h
    refine den_n (Ext.refl H) hS h.bind fun da ha v H1 e1 _ r1 => ?_
    cases r1 with
    | lst h1 h2 h3 h4 => exact ⟨_, _, rfl, .of h1, fun p hp => (Res.up ha e1).newL hs (RpL.rev ⟨h3, h4⟩) hp⟩
    | _ => exact ha.elim
theorem rg_len (a : Int) (n : Nat) : (rngL a 1 n).length = n := by simp [rngL]
theorem rpl_rg {H : Hp} {P : Addr → Prop} (a b : Int) : RpL W H P (rngL a 1 (b - a).toNat) (rgV a b) := by
  refine ⟨by rw [rg_len, rgV_length], fun i d v h1 h2 => ?_⟩
  unfold rngL at h1
  unfold rgV at h2
  rw [List.getElem?_map] at h1 h2
  cases e : (List.range (b - a).toNat)[i]? with
  | none => rw [e] at h1; cases h1
  | some j =>
    rw [e] at h1 h2
    cases h1
    cases h2
    show Rp W H P (.int (a + (j : Int) * 1)) (.int (a + (j : Int)))
    rw [Int.mul_one]
    exact .int _
theorem rg_ok {a b : Int} (ha : small62 a = true) (hb : small62 b = true) (h : (rngL a 1 (b - a).toNat).length ≤ SZ) : RgOk a b := by
  obtain ⟨a1, a2⟩ := small_of ha
  obtain ⟨b1, b2⟩ := small_of hb
  rw [rg_len] at h
  exact ⟨a1, a2, b1, b2, Nat.le_trans h (by decide)⟩
theorem den_imp {a : IE} {s : S} {σ : L2.St} {H : Hp} {Q Q' : VK} (h : den W C E a s σ H Q) (hq : ∀ v H1, Q v H1 → Q' v H1) : den W C E a s σ H Q' := by
  obtain ⟨env, P, hS, h⟩ := h
  exact ⟨env, P, hS, h.imp fun d q v H1 F e1 f o => hq v H1 (q v H1 F e1 f o)⟩
theorem lrg_1 {a : IE} {σ : L2.St} {H : Hp} {s : S} {Q : VK} {tu : Bool} (h : den W C E (.lrg tu (.rng1 a)) s σ H Q) : den W C E a .sh σ H fun x H1 => ∃ n, x = .int n ∧ RgOk 0 n ∧ ∃ P, RpL W H1 P (rngL 0 1 (n - 0).toNat) (rgV 0 n) ∧ Res W H1 P s (if tu then .tup (rngL 0 1 (n - 0).toNat) else .lst (rngL 0 1 (n - 0).toNat)) Q := by
  obtain ⟨env, P, hS, h⟩ := h
  have h : Wp W E H (((evE C W.T env a).bind fun x => match x with
    | .int n => if small62 n then R.ok (rngL 0 1 n.toNat) else R.bad
    | _ => R.bad).bind fun ds => if ds.length ≤ SZ then R.ok (if tu then D.tup ds else .lst ds) else .bad) _ := h
  refine den_n (Ext.refl H) hS h.bind.bind fun da ha v H1 e1 _ r1 => ?_
  cases r1 with
  | int n =>
    have ha : Wp W E H (if small62 n then R.ok (rngL 0 1 n.toNat) else R.bad) _ := ha
    split at ha
    · rename_i hs
      have ha : Wp W E H (if (rngL 0 1 n.toNat).length ≤ SZ then R.ok (if tu then D.tup (rngL 0 1 n.toNat) else .lst (rngL 0 1 n.toNat)) else .bad) _ := ha
      split at ha
      · rename_i hz
        have e : (n - 0).toNat = n.toNat := by rw [Int.sub_zero]
        refine ⟨n, rfl, rg_ok (by decide) hs (by rw [e]; exact hz), Nw P H, rpl_rg 0 n, ?_⟩
        rw [e]
        exact Res.up ha e1
      · exact ha.elim
    · exact ha.elim
  | _ => exact ha.elim
theorem lrg_2 {a b : IE} {σ : L2.St} {H : Hp} {s : S} {Q : VK} {tu : Bool} (h : den W C E (.lrg tu (.rng2 a b)) s σ H Q) : den W C E a .sh σ H fun x H1 => den W C E b .sh σ H1 fun y H2 => ∃ i j, x = .int i ∧ y = .int j ∧ RgOk i j ∧ ∃ P, RpL W H2 P (rngL i 1 (j - i).toNat) (rgV i j) ∧ Res W H2 P s (if tu then .tup (rngL i 1 (j - i).toNat) else .lst (rngL i 1 (j - i).toNat)) Q := by
  obtain ⟨env, P, hS, h⟩ := h
  have h : Wp W E H (((evE C W.T env a).bind fun x => (evE C W.T env b).bind fun y => match x, y with
    | .int i, .int j => if small62 i && small62 j then R.ok (rngL i 1 (j - i).toNat) else R.bad
    | _, _ => R.bad).bind fun ds => if ds.length ≤ SZ then R.ok (if tu then D.tup ds else .lst ds) else .bad) _ := h
  refine den_n (Ext.refl H) (Sees.l hS) h.bind.bind fun da ha v H1 e1 _ r1 => ?_
  refine den_n e1 (Sees.r hS) ha.bind fun db hb u H2 e2 e12 r2 => ?_
  cases r1 with
  | int i =>
    cases r2 with
    | int j =>
      have hb : Wp W E H (if small62 i && small62 j then R.ok (rngL i 1 (j - i).toNat) else R.bad) _ := hb
      split at hb
      · rename_i hs
        rw [Bool.and_eq_true] at hs
        have hb : Wp W E H (if (rngL i 1 (j - i).toNat).length ≤ SZ then R.ok (if tu then D.tup (rngL i 1 (j - i).toNat) else .lst (rngL i 1 (j - i).toNat)) else .bad) _ := hb
        split at hb
        · rename_i hz
          exact ⟨i, j, rfl, rfl, rg_ok hs.1 hs.2 hz, Nw P H, rpl_rg i j, Res.up hb e2⟩
        · exact hb.elim
      · exact hb.elim
    | _ => exact hb.elim
  | _ => cases r2 <;> exact hb.elim
theorem se_lrg1 (c : Ctx W C k X N sc E) {tu : Bool} {a : IE} {y : PySem.Expr} {p p2 pos pos2 : Pos} {s : S} (hs : s = .sh ∨ (s = .lst .sh ∧ tu = false)) (h1 : glB sc (if tu then ("tuple" : Str) else "list") = true) (h2 : glB sc ("range" : Str) = true) (hy : noStar y = true) (ha : PE X y (den W C E a .sh)) :
    PE X (.Call (.Name (if tu then ("tuple" : Str) else "list") p) [.Call (.Name "range" p2) [y] [] pos2] [] pos) (den W C E (.lrg tu (.rng1 a)) s) := by
  have pr := prg_1 (p := p2) (pos := pos2) (gl_of c h2).1 c.facts.rng ha (star_cons hy [] _)
  cases tu with
  | false =>
    refine PE.imp (pe_listRg c.calm (gl_of c h1).1 (c.facts.free .list) pr) fun σ H Q h => ?_
    refine den_imp (lrg_1 h) fun x H1 ⟨n, e, ok, P, r, q⟩ => ⟨n, e, ok, fun l hl => q.newL (hs.imp id fun z => z.1) r hl⟩
  | true =>
    obtain rfl := hs.elim id fun z => by cases z.2
    refine PE.imp (pe_tupRg c.calm (gl_of c h1).1 (c.facts.free .tuple) pr) fun σ H Q h => ?_
    exact den_imp (lrg_1 h) fun x H1 ⟨n, e, ok, P, r, q⟩ => ⟨n, e, ok, fun l hl => q.newU r hl⟩
theorem se_lrg2 (c : Ctx W C k X N sc E) {tu : Bool} {a b : IE} {y z : PySem.Expr} {p p2 pos pos2 : Pos} {s : S} (hs : s = .sh ∨ (s = .lst .sh ∧ tu = false)) (h1 : glB sc (if tu then ("tuple" : Str) else "list") = true) (h2 : glB sc ("range" : Str) = true) (hy : noStar y = true) (hz : noStar z = true) (ha : PE X y (den W C E a .sh)) (hb : PE X z (den W C E b .sh)) :
    PE X (.Call (.Name (if tu then ("tuple" : Str) else "list") p) [.Call (.Name "range" p2) [y, z] [] pos2] [] pos) (den W C E (.lrg tu (.rng2 a b)) s) := by
  have pr := prg_2 (p := p2) (pos := pos2) (gl_of c h2).1 c.facts.rng ha hb (star_cons hy _ _) (star_cons hz [] _) (star_any (by simpa using hz) _ _)
  cases tu with
  | false =>
    refine PE.imp (pe_listRg c.calm (gl_of c h1).1 (c.facts.free .list) pr) fun σ H Q h => ?_
    exact den_imp (lrg_2 h) fun x H1 g => den_imp g fun y H2 ⟨i, j, e1, e2, ok, P, r, q⟩ => ⟨i, j, e1, e2, ok, fun l hl => q.newL (hs.imp id fun z => z.1) r hl⟩
  | true =>
    obtain rfl := hs.elim id fun z => by cases z.2
    refine PE.imp (pe_tupRg c.calm (gl_of c h1).1 (c.facts.free .tuple) pr) fun σ H Q h => ?_
    exact den_imp (lrg_2 h) fun x H1 g => den_imp g fun y H2 ⟨i, j, e1, e2, ok, P, r, q⟩ => ⟨i, j, e1, e2, ok, fun l hl => q.newU r hl⟩
end
end G
end
section
set_option Elab.async false
set_option linter.all false
set_option maxRecDepth 100000
set_option maxHeartbeats 4000000
namespace G
open PySem PySem.Spec PyProof.Rows L2
section
variable {W : Wd} {C : Calls} {k : Nat}
theorem plain_sl {e : PySem.Expr} (h : noSl e = true) : PlainIx e := fun o i => by
  cases e <;> first
    | rfl
    | cases h
theorem fits_sh (T : Tab) (e : IE) : fits T e .sh = true := by
  cases e <;> simp [fits]
def fitsN (T : Tab) : IL → (Nat → S) → Prop
  | .nil, _ => True
  | .cons e r, ss => fits T e (ss 0) = true ∧ fitsN T r fun i => ss (i + 1)
theorem fitsN_sh (T : Tab) : ∀ es : IL, fitsN T es fun _ => .sh
  | .nil => trivial
  | .cons e r => ⟨fits_sh T e, fitsN_sh T r⟩
theorem fitsN_L (T : Tab) {s : S} : ∀ {es : IL}, fitsL T es s = true → fitsN T es fun _ => s
  | .nil, _ => trivial
  | .cons e r, h => by
    have h : (fits T e s && fitsL T r s) = true := by simpa [fitsL] using h
    rw [Bool.and_eq_true] at h
    exact ⟨h.1, fitsN_L T h.2⟩
theorem fitsN_T (T : Tab) : ∀ {es : IL} {s : S}, fitsT T es s = true → fitsN T es s.at
  | .nil, _, _ => trivial
  | .cons e r, s, h => by
    cases s with
    | tc a q =>
      have h : (fits T e a && fitsT T r q) = true := by simpa [fitsT] using h
      rw [Bool.and_eq_true] at h
      exact ⟨h.1, fitsN_T T h.2⟩
    | _ => simp [fitsT] at h
structure Snd (W : Wd) (C : Calls) (E : XK) (X : Cx) (ie : IE) (e : PySem.Expr) : Prop where
  pe : ∀ s, fits W.T ie s = true → PE X e (den W C E ie s)
  pt : PT X e (denT W C E ie)
  pw : ∀ op es p, e = .BoolOp op es p → PW X e (denT W C E ie)
def isTst : PySem.Expr → Bool
  | .UnaryOp .Not _ _ => true
  | .BoolOp _ _ _ => true
  | .IfExp _ _ _ _ => true
  | .Compare _ _ _ _ => true
  | _ => false
theorem Snd.sh {E : XK} {X : Cx} {ie : IE} {e : PySem.Expr} (h : Snd W C E X ie e) : PE X e (den W C E ie .sh) := h.pe .sh (fits_sh _ _)
theorem tst_plain {e : PySem.Expr} (h : isTst e = false) (env : PySem.Env) : ∀ whole, isTrue e env whole = (do let v ← whole; standAt e.pos; holding [v] (truthy v)) := fun whole => by
  cases e <;> first
    | rfl
    | cases h
    | (rename_i op _ _; cases op <;> first
      | rfl
      | cases h)
theorem Snd.val {E : XK} {X : Cx} {ie : IE} {e : PySem.Expr} (h : ∀ s, fits W.T ie s = true → PE X e (den W C E ie s)) (he : isTst e = false) : Snd W C E X ie e :=
  ⟨h, st_val (h .sh (fits_sh _ _)) (tst_plain he X.env), fun op es p q => by subst q; cases he⟩
theorem only {T : Tab} {ie : IE} {s : S} (hf : fits T ie s = true) (h : ∀ s, s ≠ .sh → fits T ie s = false) : s = .sh := by
  by_cases hs : s = .sh
  · exact hs
  · rw [h s hs] at hf; cases hf
theorem pt_ifE {X : Cx} {a b d : PySem.Expr} {pos : Pos} {ta tb td : TT} (hd : PT X d td) (ha : PT X a ta) (hb : PT X b tb) : PT X (.IfExp d a b pos) (fun σ H Q => td σ H fun c H1 => if c = true then ta σ H1 Q else tb σ H1 Q) := ⟨fun pins s σ H Q I h => by
  show wpAny _ _ (do if ← isTrue d X.env (eval d X.env) then isTrue a X.env (eval a X.env) else isTrue b X.env (eval b X.env)) _ _ _
  refine wpAny_bind (thn (hd.run pins s σ H _ I h) fun c s1 ⟨H1, I1, q1⟩ => ?_)
  cases c with
  | true => exact ha.run pins s1 σ H1 Q I1 q1
  | false => exact hb.run pins s1 σ H1 Q I1 q1⟩
theorem st_ife {E : XK} {X : Cx} {d a b : IE} {t l r : PySem.Expr} {pos : Pos} (hd : PT X t (denT W C E d)) (ha : PT X l (denT W C E a)) (hb : PT X r (denT W C E b)) : PT X (.IfExp t l r pos) (denT W C E (.ife d a b)) :=
  PT.imp (pt_ifE hd ha hb) fun σ H Q ⟨env, P, hS, h⟩ => by
    have h : Wp W E H (((evE C W.T env d).bind fun x => (truD x).bind fun k => if k then evE C W.T env a else evE C W.T env b).bind truD) _ := h
    refine den_t (Ext.refl H) (Sees.l hS) (wp_then (b := .bad) h) fun c hc H1 e1 _ => ?_
    cases c with
    | true => exact den_t e1 (Sees.l (Sees.r hS)) hc fun d hd H2 e2 _ => hd H2 e2
    | false => exact den_t e1 (Sees.r (Sees.r hS)) hc fun d hd H2 e2 _ => hd H2 e2
theorem chkKV_len {T : Tab} {N : List Str} {sc : Scope} : ∀ {kvs : IKV} {ks : List (Option PySem.Expr)} {vs : List PySem.Expr}, chkKV T N sc kvs ks vs = true → ks.all (·.isSome) = true ∧ ks.length = kvs.len ∧ vs.length = kvs.len
  | .nil, ks, vs, h => by
    have h : (ks.isEmpty && vs.isEmpty) = true := h
    cases ks with
    | nil =>
      cases vs with
      | nil => exact ⟨rfl, rfl, rfl⟩
      | cons _ _ => cases h
    | cons _ _ => cases h
  | .cons a b r, ks, vs, h => by
    match ks, vs, h with
    | some x :: ks, y :: vs, h =>
      have h : (chkE T N sc a x && (chkE T N sc b y && chkKV T N sc r ks vs)) = true := h
      rw [Bool.and_eq_true, Bool.and_eq_true] at h
      obtain ⟨h1, h2, h3⟩ := chkKV_len h.2.2
      exact ⟨by simpa using h1, by simp [IKV.len, h2], by simp [IKV.len, h3]⟩
    | none :: _, _, h => cases h
    | some _ :: _, [], h => cases h
    | [], _, h => cases h
theorem and2 {a b : Bool} (h : (a && b) = true) : a = true ∧ b = true := by simpa using h
mutual
theorem sndE : ∀ (ie : IE) {E : XK} {X : Cx} {N : List Str} {sc : Scope} {e : PySem.Expr}, Ctx W C k X N sc E → chkE W.T N sc ie e = true → Snd W C E X ie e
  | .v i, E, X, N, sc, e, c, h => by
    unfold chkE at h
    split at h
    · obtain ⟨h1, h2⟩ := and2 h
      refine .val (fun s hf => ?_) rfl
      obtain rfl := only hf fun s hs => by cases s <;> first
        | rfl
        | exact absurd rfl hs
      exact se_v c (by simpa using h1) h2
    · cases h
  | .kn, E, X, N, sc, e, c, h => by
    unfold chkE at h
    split at h
    · exact .val (fun s hf => se_const pe_non (fun _ => rfl) rfl fun _ _ => .non) rfl
    · cases h
  | .kb b, E, X, N, sc, e, c, h => by
    unfold chkE at h
    split at h
    · obtain rfl : b = _ := by simpa using h
      exact .val (fun s hf => se_const pe_bl (fun _ => rfl) rfl fun _ _ => .bl _) rfl
    · cases h
  | .ki i, E, X, N, sc, e, c, h => by
    unfold chkE at h
    split at h
    · obtain rfl : i = _ := by simpa using h
      exact .val (fun s hf => se_const pe_int (fun _ => rfl) rfl fun _ _ => .int _) rfl
    · cases h
  | .ks x, E, X, N, sc, e, c, h => by
    unfold chkE at h
    split at h
    · rename_i z _ _
      have hz : z.cps.toList = x := by simpa using h
      refine .val (fun s hf => se_const (d := .str x) pe_str (fun _ => rfl) rfl fun H P => ?_) rfl
      have := Rp.str (W := W) (H := H) (P := P) x
      rw [← hz, mk_of] at this
      exact hz ▸ this
    · cases h
  | .g i, E, X, N, sc, e, c, h => by
    unfold chkE at h
    split at h
    · obtain ⟨h1, h2⟩ := and2 h
      obtain ⟨h1, h3⟩ := and2 h1
      exact .val (fun s hf => se_g c (by simpa using h1) (by simpa using h3) h2) rfl
    · cases h
  | .bin op a b, E, X, N, sc, e, c, h => by
    unfold chkE at h
    split at h
    · obtain ⟨h1, h2⟩ := and2 h
      obtain ⟨h2, h3⟩ := and2 h2
      obtain rfl := of_decide_eq_true h1
      refine .val (fun s hf => se_bin (sndE a c h2).sh (sndE b c h3).sh ?_) rfl
      exact sOk_of (W := W) hf fun s n1 n2 => by
        cases s with
        | sh => exact absurd rfl n1
        | lst t => cases t <;> first
          | exact absurd rfl n2
          | (cases op <;> rfl)
        | _ => cases op <;> rfl
    · cases h
  | .neg a, E, X, N, sc, e, c, h => by
    unfold chkE at h
    split at h
    · exact .val (fun s hf => se_neg (sndE a c h).sh) rfl
    · cases h
  | .not a, E, X, N, sc, e, c, h => by
    unfold chkE at h
    split at h
    · exact ⟨fun s hf => se_not (sndE a c h).sh, st_not (sndE a c h).pt, fun op es p q => by cases q⟩
    · cases h
  | .and a b, E, X, N, sc, e, c, h => by
    unfold chkE at h
    split at h
    · rename_i x y es p
      obtain ⟨h1, h2⟩ := and2 h
      have sa := sndE a c h1
      have hb : PE X (.BoolOp .And (y :: es) p) (den W C E b .sh) ∧ PW X (.BoolOp .And (y :: es) p) (denT W C E b) := by
        cases es with
        | nil => exact ⟨pe_one (sndE b c h2).sh, pw_and1 (sndE b c h2).pt⟩
        | cons z zs => exact ⟨(sndE b c h2).sh, (sndE b c h2).pw _ _ _ rfl⟩
      have pw := sw_and (pos := p) sa.pt hb.2
      refine ⟨fun s hf => ?_, pw.pt, fun op es p q => by cases q; exact pw⟩
      obtain rfl := only hf fun s hs => by cases s <;> first
        | rfl
        | exact absurd rfl hs
      exact se_and sa.sh hb.1 rfl
    · cases h
  | .or a b, E, X, N, sc, e, c, h => by
    unfold chkE at h
    split at h
    · rename_i x y es p
      obtain ⟨h1, h2⟩ := and2 h
      have sa := sndE a c h1
      have hb : PE X (.BoolOp .Or (y :: es) p) (den W C E b .sh) ∧ PW X (.BoolOp .Or (y :: es) p) (denT W C E b) := by
        cases es with
        | nil => exact ⟨pe_one (sndE b c h2).sh, pw_or1 (sndE b c h2).pt⟩
        | cons z zs => exact ⟨(sndE b c h2).sh, (sndE b c h2).pw _ _ _ rfl⟩
      have pw := sw_or (pos := p) sa.pt hb.2
      refine ⟨fun s hf => ?_, pw.pt, fun op es p q => by cases q; exact pw⟩
      obtain rfl := only hf fun s hs => by cases s <;> first
        | rfl
        | exact absurd rfl hs
      exact se_or sa.sh hb.1 rfl
    · cases h
  | .cmp op a b, E, X, N, sc, e, c, h => by
    unfold chkE at h
    split at h
    · obtain ⟨h1, h2⟩ := and2 h
      obtain ⟨h2, h3⟩ := and2 h2
      obtain rfl := of_decide_eq_true h1
      exact ⟨fun s hf => se_cmp c (sndE a c h2).sh (sndE b c h3).sh (chk_set h3), st_cmp c (sndE a c h2).sh (sndE b c h3).sh (chk_set h3), fun op es p q => by cases q⟩
    · cases h
  | .cmp2 o1 o2 a b d, E, X, N, sc, e, c, h => by
    unfold chkE at h
    split at h
    · obtain ⟨h1, h2⟩ := and2 h
      obtain ⟨h1, h1'⟩ := and2 h1
      obtain ⟨h2, h3⟩ := and2 h2
      obtain ⟨h3, h4⟩ := and2 h3
      obtain rfl := of_decide_eq_true h1
      obtain rfl := of_decide_eq_true h1'
      exact ⟨fun s hf => se_cmp2 c (sndE a c h2).sh (sndE b c h3).sh (sndE d c h4).sh (chk_set h4), st_cmp2 c (sndE a c h2).sh (sndE b c h3).sh (sndE d c h4).sh (chk_set h4), fun op es p q => by cases q⟩
    · cases h
  | .ife d a b, E, X, N, sc, e, c, h => by
    unfold chkE at h
    split at h
    · obtain ⟨h1, h2⟩ := and2 h
      obtain ⟨h2, h3⟩ := and2 h2
      have sd := sndE d c h1
      have sa := sndE a c h2
      have sb := sndE b c h3
      refine ⟨fun s hf => ?_, st_ife sd.pt sa.pt sb.pt, fun op es p q => by cases q⟩
      have hf2 : fits W.T a s = true ∧ fits W.T b s = true := by
        by_cases hs : s = .sh
        · subst hs; exact ⟨fits_sh _ _, fits_sh _ _⟩
        · have hf : (fits W.T a s && fits W.T b s) = true := by
            cases s <;> first
              | exact absurd rfl hs
              | simpa [fits] using hf
          exact and2 hf
      exact se_ife sd.pt (sa.pe s hf2.1) (sb.pe s hf2.2)
    · cases h
  | .lst es, E, X, N, sc, e, c, h => by
    unfold chkE at h
    split at h
    · obtain ⟨h1, h2⟩ := and2 h
      refine .val (fun s hf => ?_) rfl
      cases s with
      | sh => exact se_lst (.inl rfl) (of_decide_eq_true h2) (sndL es c h1 (fitsN_sh _ _))
      | lst t => exact se_lst (.inr ⟨t, rfl⟩) (of_decide_eq_true h2) (sndL es c h1 (fitsN_L (s := t) _ (by simpa [fits] using hf)))
      | _ => simp [fits] at hf
    · cases h
  | .tup es, E, X, N, sc, e, c, h => by
    unfold chkE at h
    split at h
    · obtain ⟨h1, h2⟩ := and2 h
      refine .val (fun s hf => ?_) rfl
      cases s with
      | sh => exact se_tup (.inl rfl) (of_decide_eq_true h2) (sndL es c h1 (fitsN_sh _ _))
      | tc a r => exact se_tup (.inr rfl) (of_decide_eq_true h2) (sndL es c h1 (fitsN_T _ (by simpa [fits] using hf)))
      | _ => simp [fits] at hf
    · cases h
  | .dnew t, E, X, N, sc, e, c, h => by
    unfold chkE at h
    split at h
    · refine .val (fun s hf => se_dnew ?_) rfl
      cases s <;> first
        | exact .inl rfl
        | exact .inr rfl
        | simp [fits] at hf
    · cases h
  | .dic kvs, E, X, N, sc, e, c, h => by
    unfold chkE at h
    split at h
    · obtain ⟨h1, h2⟩ := and2 h
      obtain ⟨h3, h4⟩ := of_decide_eq_true h2
      obtain ⟨k1, k2, k3⟩ := chkKV_len h1
      refine .val (fun s hf => se_dic ?_ (sndK kvs c h1) k1 (k2.trans k3.symm) (fun z => ?_) (by rw [k2]; exact h3)) rfl
      · cases s <;> first
          | exact .inl rfl
          | exact .inr rfl
          | simp [fits] at hf
      · rw [z] at k2
        exact h4 k2.symm
    · cases h
  | .comp elt tu tg it cnd, E, X, N, sc, e, c, h => by
    unfold chkE at h
    split at h
    · rename_i x t iter ifs scope pos
      obtain ⟨h1, h2⟩ := and2 h
      obtain ⟨h1, _⟩ := and2 h1
      obtain ⟨h2, h3⟩ := and2 h2
      obtain ⟨h3, h4⟩ := and2 h3
      obtain ⟨h4, h5⟩ := and2 h4
      refine .val (fun s hf => ?_) rfl
      have go : ∀ s', ((s = .sh ∧ s' = .sh) ∨ s = .lst s') → fits W.T elt s' = true → PE X (.ListComp x [⟨t, iter, ifs, 0⟩] scope pos) (den W C E (.comp elt tu tg it cnd) s) := fun s' hs hf' =>
        (Bool.eq_false_or_eq_true (isDit it)).elim (fun hd => se_compD c hs h1 h5 hd h2 (chkIt_set h2) (fun s H A cl fp => sndC cnd (blk_ctx c s H scope A cl fp) h3) fun s H A cl fp => (sndE elt (blk_ctx c s H scope A cl fp) h4).pe s' hf')
          fun hd => se_comp c hs h1 h5 (sndI it c t hd h2) (chkIt_set h2) (fun s H A cl fp => sndC cnd (blk_ctx c s H scope A cl fp) h3) fun s H A cl fp => (sndE elt (blk_ctx c s H scope A cl fp) h4).pe s' hf'
      cases s with
      | sh => exact go .sh (.inl ⟨rfl, rfl⟩) (fits_sh _ _)
      | lst t => exact go t (.inr rfl) (by simpa [fits] using hf)
      | _ => simp [fits] at hf
    · cases h
  | .ix a i, E, X, N, sc, e, c, h => by
    unfold chkE at h
    split at h
    · obtain ⟨h1, h2⟩ := and2 h
      refine .val (fun s hf => ?_) rfl
      obtain rfl := only hf fun s hs => by cases s <;> first
        | rfl
        | exact absurd rfl hs
      exact se_ix c (sndE a c h1).sh (sndE i c h2).sh (plain_sl (chk_sl h2))
    · cases h
  | .sl a lo hi, E, X, N, sc, e, c, h => by
    unfold chkE at h
    split at h
    · obtain ⟨h1, h2⟩ := and2 h
      obtain ⟨h2, h3⟩ := and2 h2
      refine .val (fun s hf => ?_) rfl
      exact se_sl c (sOk_of (W := W) hf fun s n1 n2 => by
        cases s with
        | sh => exact absurd rfl n1
        | lst t => cases t <;> first
          | exact absurd rfl n2
          | rfl
        | _ => rfl) (sndE a c h1).sh (sndO lo c h2) (sndO hi c h3)
    · cases h
  | .rev a, E, X, N, sc, e, c, h => by
    unfold chkE at h
    split at h
    · obtain ⟨h1, h2⟩ := and2 h
      obtain rfl := of_decide_eq_true h1
      refine .val (fun s hf => ?_) rfl
      exact se_rev c (sOk_of (W := W) hf fun s n1 n2 => by
        cases s with
        | sh => exact absurd rfl n1
        | lst t => cases t <;> first
          | exact absurd rfl n2
          | rfl
        | _ => rfl) (sndE a c h2).sh
    · cases h
  | .fld a f, E, X, N, sc, e, c, h => by
    unfold chkE at h
    split at h
    · obtain ⟨h1, h2⟩ := and2 h
      obtain ⟨h1, h3⟩ := and2 h1
      obtain ⟨g1, g4⟩ := and2 h1
      obtain rfl := of_decide_eq_true g4
      refine .val (fun s hf => ?_) rfl
      obtain rfl := only hf fun s hs => by cases s <;> first
        | rfl
        | exact absurd rfl hs
      exact se_fld c (of_decide_eq_true g1) (sndE a c h2).sh h3
    · cases h
  | .call f es, E, X, N, sc, e, c, h => by
    unfold chkE at h
    split at h
    · obtain ⟨h1, h2⟩ := and2 h
      obtain ⟨h1, h3⟩ := and2 h1
      obtain ⟨h1, h4⟩ := and2 h1
      obtain ⟨h3, h5⟩ := and2 h3
      refine .val (fun s hf => se_call c ?_ h1 (by simpa using h4) (of_decide_eq_true h3) h5 h2 (sndL es c h2 (fitsN_sh _ _))) rfl
      by_cases hs : s = .sh
      · exact .inl hs
      · refine .inr ?_
        cases s <;> first
          | exact absurd rfl hs
          | simpa [fits] using hf
    · cases h
  | .mk f es, E, X, N, sc, e, c, h => by
    unfold chkE at h
    split at h
    · obtain ⟨h1, h2⟩ := and2 h
      obtain ⟨h1, h3⟩ := and2 h1
      obtain ⟨h3, h5⟩ := and2 h3
      refine .val (fun s hf => se_mk c ?_ (of_decide_eq_true h1) (of_decide_eq_true h3) h5 h2 (sndL es c h2 (fitsN_sh _ _))) rfl
      by_cases hs : s = .sh
      · exact .inl hs
      · refine .inr ?_
        cases s <;> first
          | exact absurd rfl hs
          | simpa [fits] using hf
    · cases h
  | .blt b es, E, X, N, sc, e, c, h => by
    unfold chkE at h
    split at h
    · obtain ⟨h1, h2⟩ := and2 h
      obtain ⟨h1, h3⟩ := and2 h1
      refine .val (fun s hf => se_blt c ?_ (of_decide_eq_true h1) h3 h2 (sndL es c h2 (fitsN_sh _ _))) rfl
      cases s with
      | sh => exact .inl rfl
      | lst t => cases t <;> first
        | (cases b <;> first
          | exact .inr (.inl ⟨rfl, rfl⟩)
          | simp [fits] at hf)
        | (simp [fits] at hf)
      | dic => cases b <;> first
        | exact .inr (.inr ⟨rfl, rfl⟩)
        | simp [fits] at hf
      | _ => simp [fits] at hf
    · cases h
  | .mth m o es, E, X, N, sc, e, c, h => by
    unfold chkE at h
    split at h
    · obtain ⟨h1, h2⟩ := and2 h
      obtain ⟨h1, h3⟩ := and2 h1
      obtain ⟨h3, h4⟩ := and2 h3
      obtain ⟨h1, h5⟩ := and2 h1
      obtain ⟨h5, h6⟩ := and2 h5
      obtain ⟨h2, h7⟩ := and2 h2
      obtain rfl := of_decide_eq_true h1
      refine .val (fun s hf => ?_) rfl
      exact se_mth c (sOk_of (W := W) hf fun s n1 n2 => by
        cases s with
        | sh => exact absurd rfl n1
        | lst t => cases t <;> first
          | exact absurd rfl n2
          | (cases m <;> rfl)
        | _ => cases m <;> rfl) h5 h6 h3 (of_decide_eq_true h4) h7 (sndE o c h2).sh (sndL es c h7 (fitsN_sh _ _))
    · cases h
  | .isi a cs, E, X, N, sc, e, c, h => by
    unfold chkE at h
    split at h
    · split at h
      · obtain ⟨h1, h2⟩ := and2 h
        obtain ⟨h1, h3⟩ := and2 h1
        obtain ⟨h1, h4⟩ := and2 h1
        obtain ⟨k3, h5⟩ := and2 h3
        obtain ⟨h5, h6⟩ := and2 h5
        have q1 := of_decide_eq_true h1
        have q2 := of_decide_eq_true h5
        subst q1 q2
        exact .val (fun s hf => se_isi c (of_decide_eq_true k3) h4 h6 (chk_star h2) (sndE a c h2).sh) rfl
      · cases h
    · cases h
  | .lrg tu it, E, X, N, sc, e, c, h => by
    unfold chkE at h
    split at h
    · obtain ⟨h1, h2⟩ := and2 h
      obtain ⟨h1, h3⟩ := and2 h1
      obtain ⟨h1, h4⟩ := and2 h1
      obtain rfl := of_decide_eq_true h1
      refine .val (fun s hf => ?_) rfl
      have hs : s = .sh ∨ (s = .lst .sh ∧ tu = false) := by
        cases s with
        | sh => exact .inl rfl
        | lst t => cases t <;> first
          | (cases tu <;> first
            | exact .inr ⟨rfl, rfl⟩
            | simp [fits] at hf)
          | simp [fits] at hf
        | _ => simp [fits] at hf
      cases it with
      | rng1 a =>
        unfold chkIt at h2
        split at h2
        · obtain ⟨g1, g2⟩ := and2 h2
          obtain ⟨g1, g3⟩ := and2 g1
          obtain rfl := of_decide_eq_true g1
          exact se_lrg1 c hs h4 g3 (chk_star g2) (sndE a c g2).sh
        · cases h2
      | rng2 a b =>
        unfold chkIt at h2
        split at h2
        · obtain ⟨g1, g2⟩ := and2 h2
          obtain ⟨g1, g3⟩ := and2 g1
          obtain ⟨g2, g4⟩ := and2 g2
          obtain rfl := of_decide_eq_true g1
          exact se_lrg2 c hs h4 g3 (chk_star g2) (chk_star g4) (sndE a c g2).sh (sndE b c g4).sh
        · cases h2
      | _ => cases h3
    · cases h
  | .lrv a, E, X, N, sc, e, c, h => by
    unfold chkE at h
    split at h
    · obtain ⟨h1, h2⟩ := and2 h
      obtain ⟨h1, h3⟩ := and2 h1
      obtain ⟨h1, h4⟩ := and2 h1
      obtain ⟨h3, h5⟩ := and2 h3
      obtain rfl := of_decide_eq_true h1
      obtain rfl := of_decide_eq_true h3
      refine .val (fun s hf => ?_) rfl
      exact se_lrv c (sOk_of (W := W) hf fun s n1 n2 => by
        cases s with
        | sh => exact absurd rfl n1
        | lst t => cases t <;> first
          | exact absurd rfl n2
          | rfl
        | _ => rfl) h4 h5 (chk_star h2) (sndE a c h2).sh
    · cases h
  | .nv, E, X, N, sc, e, c, h => ⟨fun s hf => ⟨fun pins s σ H Q I ⟨env, P, hS, h⟩ => h.elim⟩, ⟨fun pins s σ H Q I ⟨env, P, hS, h⟩ => h.elim⟩, fun op es p q => ⟨fun wh pins s σ H Q I ⟨env, P, hS, h⟩ => h.elim⟩⟩
theorem sndL : ∀ (es : IL) {E : XK} {X : Cx} {N : List Str} {sc : Scope} {xs : List PySem.Expr} {ss : Nat → S}, Ctx W C k X N sc E → chkL W.T N sc es xs = true → fitsN W.T es ss → PA X xs (denL W C E es ss)
  | .nil, E, X, N, sc, xs, ss, c, h, hf => by
    have h : xs.isEmpty = true := h
    cases xs with
    | nil => exact sl_nil
    | cons _ _ => cases h
  | .cons a r, E, X, N, sc, xs, ss, c, h, hf => by
    cases xs with
    | nil => cases h
    | cons x q =>
      obtain ⟨h1, h2⟩ := and2 (show (chkE W.T N sc a x && chkL W.T N sc r q) = true from h)
      exact sl_cons (chk_star h1) ((sndE a c h1).pe _ hf.1) (sndL r c h2 hf.2)
theorem sndK : ∀ (kvs : IKV) {E : XK} {X : Cx} {N : List Str} {sc : Scope} {ks : List (Option PySem.Expr)} {vs : List PySem.Expr} {pos : Pos}, Ctx W C k X N sc E → chkKV W.T N sc kvs ks vs = true → PPs X pos ks vs (trK W C E kvs)
  | .nil, E, X, N, sc, ks, vs, pos, c, h => by
    obtain ⟨h1, h2⟩ := and2 (show (ks.isEmpty && vs.isEmpty) = true from h)
    cases ks with
    | nil =>
      cases vs with
      | nil => exact pps_nil
      | cons _ _ => cases h2
    | cons _ _ => cases h1
  | .cons a b r, E, X, N, sc, ks, vs, pos, c, h => by
    match ks, vs, h with
    | some x :: ks, y :: vs, h =>
      obtain ⟨h1, h2⟩ := and2 (show (chkE W.T N sc a x && (chkE W.T N sc b y && chkKV W.T N sc r ks vs)) = true from h)
      obtain ⟨h2, h3⟩ := and2 h2
      exact pps_cons (sndE a c h1).sh (sndE b c h2).sh (sndK r c h3)
    | none :: _, _, h => cases h
    | some _ :: _, [], h => cases h
    | [], _, h => cases h
theorem sndO : ∀ (o : IO) {E : XK} {X : Cx} {N : List Str} {sc : Scope} {x : Option PySem.Expr}, Ctx W C k X N sc E → chkO W.T N sc o x = true → PO X x (denO W C E o)
  | .none, E, X, N, sc, x, c, h => by
    cases x with
    | none => exact so_none
    | some _ => cases h
  | .some a, E, X, N, sc, x, c, h => by
    cases x with
    | none => cases h
    | some y => exact so_some (sndE a c h).sh
theorem sndC : ∀ (o : IO) {E : XK} {X : Cx} {N : List Str} {sc : Scope} {xs : List PySem.Expr}, Ctx W C k X N sc E → chkC W.T N sc o xs = true → PTs X xs (denC W C E o)
  | .none, E, X, N, sc, xs, c, h => by
    cases xs with
    | nil => exact sc_none
    | cons _ _ => cases h
  | .some a, E, X, N, sc, xs, c, h => by
    match xs, h with
    | [x], h => exact sc_some (sndE a c h).pt
    | [], h => cases h
    | _ :: _ :: _, h => cases h
theorem sndI : ∀ (it : IT) {E : XK} {X : Cx} {N : List Str} {sc : Scope} {e : PySem.Expr} (_ : Ctx W C k X N sc E) (t : PySem.Expr), isDit it = false → chkIt W.T N sc (isTup t) it e = true → PI X t e (denIt W C E it)
  | .seq a, E, X, N, sc, e, c, t, _, h => si_seq c (sndE a c h).sh
  | .rng1 a, E, X, N, sc, e, c, t, hd, h => by
    unfold chkIt at h
    split at h
    · obtain ⟨h1, h2⟩ := and2 h
      obtain ⟨h1, h3⟩ := and2 h1
      obtain rfl := of_decide_eq_true h1
      exact si_rng1 c h3 (chk_star h2) (sl_cons (ss := fun _ => .sh) (chk_star h2) (sndE a c h2).sh sl_nil)
    · cases h
  | .rng2 a b, E, X, N, sc, e, c, t, hd, h => by
    unfold chkIt at h
    split at h
    · obtain ⟨h1, h2⟩ := and2 h
      obtain ⟨h1, h3⟩ := and2 h1
      obtain ⟨h2, h4⟩ := and2 h2
      obtain rfl := of_decide_eq_true h1
      exact si_rng2 c h3 (chk_star h2) (chk_star h4) (sl_cons (ss := fun _ => .sh) (chk_star h2) (sndE a c h2).sh (sl_cons (chk_star h4) (sndE b c h4).sh sl_nil))
    · cases h
  | .rng3 a b d, E, X, N, sc, e, c, t, hd, h => by
    unfold chkIt at h
    split at h
    · obtain ⟨h1, h2⟩ := and2 h
      obtain ⟨h1, h3⟩ := and2 h1
      obtain ⟨h2, h4⟩ := and2 h2
      obtain ⟨h4, h5⟩ := and2 h4
      obtain rfl := of_decide_eq_true h1
      exact si_rng3 c h3 (chk_star h2) (chk_star h4) (chk_star h5) (sl_cons (ss := fun _ => .sh) (chk_star h2) (sndE a c h2).sh (sl_cons (chk_star h4) (sndE b c h4).sh (sl_cons (chk_star h5) (sndE d c h5).sh sl_nil)))
    · cases h
  | .enum a, E, X, N, sc, e, c, t, hd, h => by
    unfold chkIt at h
    split at h
    · obtain ⟨h1, h2⟩ := and2 h
      obtain ⟨h0, h1⟩ := and2 h1
      obtain ⟨h1, h3⟩ := and2 h1
      obtain rfl := of_decide_eq_true h1
      cases t <;> first
        | exact si_enum c h3 (chk_star h2) (sl_cons (ss := fun _ => .sh) (chk_star h2) (sndE a c h2).sh sl_nil)
        | cases h0
    · cases h
  | .zip a b, E, X, N, sc, e, c, t, hd, h => by
    unfold chkIt at h
    split at h
    · obtain ⟨h1, h2⟩ := and2 h
      obtain ⟨h0, h1⟩ := and2 h1
      obtain ⟨h1, h3⟩ := and2 h1
      obtain ⟨h2, h4⟩ := and2 h2
      obtain rfl := of_decide_eq_true h1
      cases t <;> first
        | exact si_zip c h3 (chk_star h2) (chk_star h4) (sl_cons (ss := fun _ => .sh) (chk_star h2) (sndE a c h2).sh (sl_cons (chk_star h4) (sndE b c h4).sh sl_nil))
        | cases h0
    · cases h
  | .rev a, E, X, N, sc, e, c, t, hd, h => by
    unfold chkIt at h
    split at h
    · obtain ⟨h1, h2⟩ := and2 h
      obtain ⟨h1, h3⟩ := and2 h1
      obtain rfl := of_decide_eq_true h1
      exact si_rev c h3 (chk_star h2) (sl_cons (ss := fun _ => .sh) (chk_star h2) (sndE a c h2).sh sl_nil)
    · cases h
  | .items _, E, X, N, sc, e, c, t, hd, h => nomatch hd
  | .vals _, E, X, N, sc, e, c, t, hd, h => nomatch hd
  | .keys _, E, X, N, sc, e, c, t, hd, h => nomatch hd
end
end
end G
end
section
set_option Elab.async false
set_option linter.all false
set_option maxRecDepth 100000
set_option maxHeartbeats 4000000
namespace G
open PySem PySem.Spec PyProof.Rows L2
/-! ### what stands between two lines of a def -/
structure Bs where
  H0 : Hp
  P0 : Addr → Prop
  G0 : Addr → Prop
  v0 : V
  m : Bool
  HB : Hp
  OB : Addr → Prop
abbrev Fps := Nat → Addr → Prop
/-- what may be shared -/
def Shr (b : Bs) (F : Fps) : Addr → Prop := fun a => (b.P0 a ∨ b.H0 a = none) ∧ ∀ i, ¬ F i a
def gm (g : List S) (i : Nat) : S := g.getD i .sh
structure Good (W : Wd) (g : List S) (b : Bs) (env : Env) (σ : L2.St) (H : Hp) (F : Fps) : Prop where
  ext : ∀ a o, ¬ b.G0 a → b.H0 a = some o → H a = some o
  al : ∀ a o, b.H0 a = some o → ∃ o', H a = some o'
  dj : ∀ i j a, F i a → F j a → i = j
  nw : ∀ i a, F i a → ((i = 0 ∧ b.G0 a) ∨ b.H0 a = none) ∧ ∃ o, H a = some o ∧ ¬ isFix o
  pg : ∀ a, b.P0 a → ¬ b.G0 a
  len : env.length = σ.length
  sl : ∀ i d, env[i]? = some (some d) → ∃ v, σ[i]? = some (some v) ∧ Ow W H (Shr b F) (gm g i) d v (F i)
  mu : b.m = true → σ[0]? = some (some b.v0)
  pm : b.m = false → ∀ a, ¬ b.G0 a
  fr : ∀ a o, b.HB a = some o → ¬ b.OB a → H a = some o
  fo : ∀ i a, F i a → b.OB a ∨ b.HB a = none
  fl : ∀ a o, b.HB a = some o → ∃ o', H a = some o'
def setF (F : Fps) (i : Nat) (G : Addr → Prop) : Fps := fun j => if j = i then G else F j
theorem setF_same {F : Fps} {i : Nat} {G : Addr → Prop} : setF F i G i = G := by unfold setF; rw [if_pos rfl]
theorem setF_ne {F : Fps} {i j : Nat} {G : Addr → Prop} (h : j ≠ i) : setF F i G j = F j := by unfold setF; rw [if_neg h]
theorem gm_set {g : List S} {i j : Nat} {s : S} : gm (g.set i s) j = if i = j ∧ i < g.length then s else gm g j := by
  unfold gm
  rw [List.getD_eq_getElem?_getD, List.getD_eq_getElem?_getD, List.getElem?_set]
  by_cases h : i = j
  · subst h
    by_cases h2 : i < g.length
    · simp [h2]
    · simp [h2]
  · simp [h]
section
variable {W : Wd} {g : List S} {b : Bs} {env : Env} {σ : L2.St} {H H1 : Hp} {F : Fps}
theorem Ow.any {P : Addr → Prop} {s : S} {d : D} {v : V} {G : Addr → Prop} (o : Ow W H P s d v G) : Rp W H (fun _ => True) d v := o.share (fun _ _ => trivial) fun _ _ => trivial
theorem Ow.shd {P : Addr → Prop} {d : D} {v : V} {G : Addr → Prop} (o : Ow W H P .sh d v G) : Rp W H P d v := by
  cases o with
  | sh r => exact r
  | flat n r => exact r
  | obj FF hs => exact hs.elim
theorem Good.sees (h : Good W g b env σ H F) (vs : List Nat) : Sees W H (fun _ => True) env σ vs := ⟨h.len, fun i _ d e => by
  obtain ⟨v, h1, h2⟩ := h.sl i d e
  exact ⟨v, h1, h2.any⟩⟩
def shA (g : List S) (vs : List Nat) : Bool := vs.all fun i => decide (gm g i = .sh)
theorem Good.seesSh (h : Good W g b env σ H F) {vs : List Nat} (hs : shA g vs = true) : Sees W H (Shr b F) env σ vs := ⟨h.len, fun i hi d e => by
  obtain ⟨v, h1, h2⟩ := h.sl i d e
  have := of_decide_eq_true (List.all_eq_true.mp hs i hi)
  rw [this] at h2
  exact ⟨v, h1, h2.shd⟩⟩
theorem Good.up (h : Good W g b env σ H F) (e : Ext H H1) : Good W g b env σ H1 F :=
  ⟨fun a o n q => e a o (h.ext a o n q), fun a o q => let ⟨o', q'⟩ := h.al a o q; ⟨o', e a o' q'⟩, h.dj, fun i a z => let ⟨z1, o, z2, z3⟩ := h.nw i a z; ⟨z1, o, e a o z2, z3⟩, h.pg, h.len,
    fun i d q => let ⟨v, h1, h2⟩ := h.sl i d q; ⟨v, h1, h2.keep e.kp (fun _ z => z) fun a o _ w => e a o w⟩, h.mu, h.pm, fun a o q n => e a o (h.fr a o q n), h.fo, fun a o q => let ⟨o', q'⟩ := h.fl a o q; ⟨o', e a o' q'⟩⟩
/-- less is owned -/
def leG (m : Bool) (g g' : List S) : Prop := ∀ i, gm g' i = gm g i ∨ (gm g' i = .sh ∧ (m = false ∨ i ≠ 0))
theorem leG.refl (m : Bool) (g : List S) : leG m g g := fun _ => .inl rfl
theorem Good.weak {g' : List S} (h : Good W g b env σ H F) (l : leG b.m g g') : ∃ F', Good W g' b env σ H F' := by
  refine ⟨fun i a => F i a ∧ gm g' i = gm g i, h.ext, h.al, fun i j a z z' => h.dj i j a z.1 z'.1, fun i a z => h.nw i a z.1, h.pg, h.len, fun i d e => ?_, h.mu, h.pm, h.fr, fun i a z => h.fo i a z.1, h.fl⟩
  obtain ⟨v, h1, h2⟩ := h.sl i d e
  refine ⟨v, h1, ?_⟩
  have le : ∀ a, Shr b F a → Shr b (fun i a => F i a ∧ gm g' i = gm g i) a := fun a z => ⟨z.1, fun j w => z.2 j w.1⟩
  by_cases hg : gm g' i = gm g i
  · rw [hg]
    exact (h2.mono le).wide fun a z => ⟨z, rfl⟩
  · rcases l i with l | ⟨l, l2⟩
    · exact absurd l hg
    · rw [l]
      refine .sh (h2.share le fun a z => ⟨?_, fun j w => ?_⟩)
      · rcases (h.nw i a z).1 with ⟨i0, z0⟩ | z0
        · rcases l2 with l2 | l2
          · exact absurd z0 (h.pm l2 a)
          · exact absurd i0 l2
        · exact .inr z0
      · obtain rfl := h.dj i j a z w.1
        exact hg w.2
/-- a slot is given a new value -/
theorem Good.put (h : Good W g b env σ H F) (e : Ext H H1) {i : Nat} {s : S} {d : D} {v : V} {G : Addr → Prop} (hi : b.m = true → i ≠ 0) (hG : Fresh H H1 G) (ho : Ow W H1 (fun a => Nw (Shr b F) H a ∧ ¬ G a) s d v G) (hl : i < g.length) :
    Good W (g.set i s) b (env.set i (some d)) (σ.set i (some v)) H1 (setF F i G) := by
  have sep : ∀ j a, G a → F j a → False := fun j a z z' => by
    obtain ⟨_, o, q, _⟩ := h.nw j a z'
    rw [(hG a z).1] at q
    cases q
  have h0 : ∀ a, H a = none → b.H0 a = none := fun a q => by
    cases r : b.H0 a with
    | none => rfl
    | some o =>
      obtain ⟨o', q'⟩ := h.al a o r
      rw [q] at q'
      cases q'
  refine ⟨(h.up e).ext, (h.up e).al, fun j l a z z' => ?_, fun j a z => ?_, h.pg, by simp [h.len], fun j d' ed => ?_, fun q => ?_, h.pm, (h.up e).fr, fun j a z => ?_, (h.up e).fl⟩
  · by_cases hj : j = i <;> by_cases hl : l = i
    · rw [hj, hl]
    · rw [hj, setF_same] at z
      rw [setF_ne hl] at z'
      exact (sep l a z z').elim
    · rw [hl, setF_same] at z'
      rw [setF_ne hj] at z
      exact (sep j a z' z).elim
    · rw [setF_ne hj] at z
      rw [setF_ne hl] at z'
      exact h.dj j l a z z'
  · by_cases hj : j = i
    · subst hj
      rw [setF_same] at z
      exact ⟨.inr (h0 a (hG a z).1), (hG a z).2⟩
    · rw [setF_ne hj] at z
      exact (h.up e).nw j a z
  · by_cases hj : j = i
    · subst hj
      have hlt : j < env.length := by
        have := (List.getElem?_eq_some_iff.mp ed).1
        simpa using this
      rw [List.getElem?_set_self hlt] at ed
      cases ed
      refine ⟨v, List.getElem?_set_self (by rw [← h.len]; exact hlt), ?_⟩
      rw [gm_set, if_pos ⟨rfl, hl⟩, setF_same]
      refine ho.mono fun a z => ⟨?_, fun l w => ?_⟩
      · rcases z.1 with z | z
        · exact z.1
        · exact .inr (h0 a z)
      · by_cases hl : l = j
        · rw [hl, setF_same] at w
          exact z.2 w
        · rw [setF_ne hl] at w
          rcases z.1 with z | z
          · exact z.2 l w
          · obtain ⟨_, o, q, _⟩ := h.nw l a w
            rw [z] at q
            cases q
    · rw [List.getElem?_set_ne (fun q => hj q.symm)] at ed
      obtain ⟨u, h1, h2⟩ := h.sl j d' ed
      refine ⟨u, by rw [List.getElem?_set_ne (fun q => hj q.symm)]; exact h1, ?_⟩
      rw [gm_set, if_neg (fun q => hj q.1.symm), setF_ne hj]
      refine h2.there.keep e.kp (fun a z => ⟨z.1.1, fun l w => ?_⟩) fun a o _ q => e a o q
      by_cases hl : l = i
      · rw [hl, setF_same] at w
        obtain ⟨_, o, q⟩ := z
        rw [(hG a w).1] at q
        cases q
      · rw [setF_ne hl] at w
        exact z.1.2 l w
  · rw [List.getElem?_set_ne (fun z => hi q z)]
    exact h.mu q
  · by_cases hj : j = i
    · subst hj
      rw [setF_same] at z
      refine .inr ?_
      cases r : b.HB a with
      | none => rfl
      | some o =>
        obtain ⟨o', q⟩ := h.fl a o r
        rw [(hG a z).1] at q
        cases q
    · rw [setF_ne hj] at z
      exact h.fo j a z
/-- .. a flat one -/
theorem Good.putFlat (h : Good W g b env σ H F) (e : Ext H H1) {i : Nat} {s : S} {d : D} {v : V} (hi : b.m = true → i ≠ 0) (n : noMut d = true) (r : Rp W H1 (fun _ => True) d v) (hl : i < g.length) : Good W (g.set i s) b (env.set i (some d)) (σ.set i (some v)) H1 (setF F i fun _ => False) :=
  h.put e hi (fun _ z => z.elim) (.flat n (r.flat n)) hl
theorem Ow.flatten {P P' : Addr → Prop} {s : S} {d : D} {v : V} {G : Addr → Prop} (o : Ow W H P s d v G) (n : noMut d = true) : Rp W H P' d v := o.any.flat n
/-- what an owned slot holds is written -/
theorem Good.write (h : Good W g b env σ H F) {i : Nat} {d d3 : D} {v : V} {New : Addr → Prop} (hd : env[i]? = some (some d)) (hv : σ[i]? = some (some v)) (e : ∀ a o, ¬ F i a → H a = some o → H1 a = some o) (hk : ∀ a o, H a = some o → ∃ o', H1 a = some o') (hf : ∀ a, F i a → ∃ o, H1 a = some o ∧ ¬ isFix o)
    (hN : Fresh H H1 New) (ho : Ow W H1 (fun a => Nw (Shr b F) H a ∧ ¬ New a) (gm g i) d3 v (fun a => F i a ∨ New a)) : Good W g b (env.set i (some d3)) σ H1 (setF F i fun a => F i a ∨ New a) := by
  have sep : ∀ j a, New a → F j a → False := fun j a z z' => by
    obtain ⟨_, o, q, _⟩ := h.nw j a z'
    rw [(hN a z).1] at q
    cases q
  have h0 : ∀ a, H a = none → b.H0 a = none := fun a q => by
    cases r : b.H0 a with
    | none => rfl
    | some o =>
      obtain ⟨o', q'⟩ := h.al a o r
      rw [q] at q'
      cases q'
  have hlt : i < env.length := (List.getElem?_eq_some_iff.mp hd).1
  refine ⟨fun a o n q => ?_, fun a o q => ?_, fun j l a z z' => ?_, fun j a z => ?_, h.pg, by simp [h.len], fun j d' ed => ?_, h.mu, h.pm, fun a o q n => ?_, fun j a z => ?_, fun a o q => ?_⟩
  · refine e a o (fun z => ?_) (h.ext a o n q)
    rcases (h.nw i a z).1 with ⟨_, z⟩ | z
    · exact n z
    · rw [q] at z; cases z
  · obtain ⟨o', q'⟩ := h.al a o q
    exact hk a o' q'
  · by_cases hj : j = i <;> by_cases hl : l = i
    · rw [hj, hl]
    · rw [hj, setF_same] at z
      rw [setF_ne hl] at z'
      rcases z with z | z
      · exact (hl (h.dj l i a z' z)).elim
      · exact (sep l a z z').elim
    · rw [hl, setF_same] at z'
      rw [setF_ne hj] at z
      rcases z' with z' | z'
      · exact (hj (h.dj j i a z z')).elim
      · exact (sep j a z' z).elim
    · rw [setF_ne hj] at z
      rw [setF_ne hl] at z'
      exact h.dj j l a z z'
  · by_cases hj : j = i
    · subst hj
      rw [setF_same] at z
      rcases z with z | z
      · exact ⟨(h.nw j a z).1, hf a z⟩
      · exact ⟨.inr (h0 a (hN a z).1), (hN a z).2⟩
    · rw [setF_ne hj] at z
      obtain ⟨z1, o, z2, z3⟩ := h.nw j a z
      exact ⟨z1, o, e a o (fun w => hj (h.dj j i a z w)) z2, z3⟩
  · have le : ∀ a, (Nw (Shr b F) H a ∧ ¬ New a) → Shr b (setF F i fun a => F i a ∨ New a) a := fun a z => ⟨z.1.elim (fun z => z.1) fun z => .inr (h0 a z), fun l w => by
      have nf : ¬ F l a := fun w => by
        rcases z.1 with z | z
        · exact z.2 l w
        · obtain ⟨_, o, q, _⟩ := h.nw l a w
          rw [z] at q
          cases q
      by_cases hl : l = i
      · subst hl
        rw [setF_same] at w
        rcases w with w | w
        · exact nf w
        · exact z.2 w
      · rw [setF_ne hl] at w
        exact nf w⟩
    by_cases hj : j = i
    · subst hj
      rw [List.getElem?_set_self hlt] at ed
      cases ed
      refine ⟨v, hv, ?_⟩
      rw [setF_same]
      exact ho.mono le
    · rw [List.getElem?_set_ne (fun q => hj q.symm)] at ed
      obtain ⟨u, h1, h2⟩ := h.sl j d' ed
      refine ⟨u, h1, ?_⟩
      rw [setF_ne hj]
      refine h2.there.keep (P' := Shr b (setF F i fun a => F i a ∨ New a)) (fun a o q z => .inl (e a o (fun w => ?_) q)) (fun a z => le a ⟨.inl z.1, fun w => ?_⟩) fun a o w q => e a o (fun w' => hj (h.dj j i a w w')) q
      · rcases z with z | z
        · exact z.1.2 i w
        · obtain ⟨_, o', q', nf⟩ := h.nw i a w
          rw [q] at q'
          cases q'
          exact nf z
      · obtain ⟨_, o, q⟩ := z
        rw [(hN a w).1] at q
        cases q
  · refine e a o (fun w => ?_) (h.fr a o q n)
    rcases h.fo i a w with w | w
    · exact n w
    · rw [q] at w; cases w
  · by_cases hj : j = i
    · subst hj
      rw [setF_same] at z
      rcases z with z | z
      · exact h.fo j a z
      · refine .inr ?_
        cases r : b.HB a with
        | none => rfl
        | some o =>
          obtain ⟨o', q⟩ := h.fl a o r
          rw [(hN a z).1] at q
          cases q
    · rw [setF_ne hj] at z
      exact h.fo j a z
  · obtain ⟨o', q'⟩ := h.fl a o q
    exact hk a o' q'
/-- a new mark to look back to -/
def Bs.at (b : Bs) (H : Hp) (F : Fps) : Bs := { b with HB := H, OB := fun a => ∃ i, F i a }
theorem Good.mark (h : Good W g b env σ H F) : Good W g (b.at H F) env σ H F :=
  ⟨h.ext, h.al, h.dj, h.nw, h.pg, h.len, h.sl, h.mu, h.pm, fun a o q _ => q, fun i a z => .inl ⟨i, z⟩, fun a o q => ⟨o, q⟩⟩
theorem Good.back {g' : List S} {env' : Env} {σ' : L2.St} {H' : Hp} {F' : Fps} (h : Good W g b env σ H F) (h' : Good W g' (b.at H F) env' σ' H' F') : Good W g' b env' σ' H' F' := by
  refine ⟨h'.ext, h'.al, h'.dj, h'.nw, h'.pg, h'.len, h'.sl, h'.mu, h'.pm, fun a o q n => h'.fr a o (h.fr a o q n) fun ⟨i, z⟩ => ?_, fun i a z => ?_, fun a o q => ?_⟩
  · rcases h.fo i a z with w | w
    · exact n w
    · rw [q] at w
      cases w
  · rcases h'.fo i a z with ⟨j, w⟩ | w
    · exact h.fo j a w
    · refine .inr ?_
      cases r : b.HB a with
      | none => rfl
      | some o =>
        obtain ⟨o', q⟩ := h.fl a o r
        rw [show H a = none from w] at q
        cases q
  · obtain ⟨o', q'⟩ := h.fl a o q
    exact h'.fl a o' q'
end
end G
end
section
set_option Elab.async false
set_option linter.all false
set_option maxRecDepth 100000
set_option maxHeartbeats 4000000
namespace G
open PySem PySem.Spec PyProof.Rows L2
/-! ### paths -/
def rIxA (K : PySem.W.Frag) : R2 := fun x y H Q => rIxL K x y H Q ∨ rIxT K x y H Q
def tPr (W : Wd) (C : Calls) (E : XK) (b : Nat) : List Sel → TE
  | [] => tVar b
  | .fld f :: r => tFld W.K (tPr W C E b r) (W.T.fname f)
  | .idx e :: r => tOp (rIxA W.K) (tPr W C E b r) (den W C E e .sh)
def chkP (T : Tab) (N : List Str) (sc : Scope) (b : Nat) : List Sel → PySem.Expr → Bool
  | [], e => (match e with
    | .Name x _ => decide (N[b]? = some x) && visB sc x
    | _ => false)
  | .fld f :: r, e => (match e with
    | .Attribute x n _ => ((decide (f < T.nfl) && decide (n = T.fname f)) && noSup x) && chkP T N sc b r x
    | _ => false)
  | .idx i :: r, e => (match e with
    | .Subscript x y _ => chkP T N sc b r x && chkE T N sc i y
    | _ => false)
def pvars : List Sel → List Nat
  | [] => []
  | .fld _ :: r => pvars r
  | .idx e :: r => e.vars ++ pvars r
def idxS (s : S) (e : IE) : S := match s with
  | .lst t => t
  | .tc a q => (match e with
    | .ki j => if 0 ≤ j then (S.tc a q).at j.toNat else .sh
    | _ => .sh)
  | _ => .sh
def goS (s : S) : List Sel → S
  | [] => s
  | .fld f :: r => (goS s r).fld f
  | .idx e :: r => idxS (goS s r) e
def pfl (n : Nat) : List Sel → Prop
  | [] => True
  | .fld f :: r => f < n ∧ pfl n r
  | .idx _ :: r => pfl n r
theorem chkP_pfl {T : Tab} {N : List Str} {sc : Scope} {b : Nat} : ∀ (rs : List Sel) {e : PySem.Expr}, chkP T N sc b rs e = true → pfl T.nfl rs
  | [], e, h => trivial
  | .fld f :: r, e, h => by
    unfold chkP at h
    split at h
    · obtain ⟨h1, h2⟩ := and2 h
      obtain ⟨h1, h3⟩ := and2 h1
      obtain ⟨h1, h4⟩ := and2 h1
      exact ⟨of_decide_eq_true h1, chkP_pfl r h2⟩
    · cases h
  | .idx i :: r, e, h => by
    unfold chkP at h
    split at h
    · exact chkP_pfl r (and2 h).1
    · cases h
section
variable {W : Wd} {C : Calls} {E : XK} {k : Nat} {X : Cx} {N : List Str} {sc : Scope}
theorem path_pe (c : Ctx W C k X N sc E) {b : Nat} : ∀ (rs : List Sel) {e : PySem.Expr}, chkP W.T N sc b rs e = true → PE X e (tPr W C E b rs)
  | [], e, h => by
    unfold chkP at h
    split at h
    · obtain ⟨h1, h2⟩ := and2 h
      obtain ⟨v1, v2, v3⟩ := vis_of c h2
      exact pe_var (by rw [c.n]; exact of_decide_eq_true h1) v1 v2 v3
    · cases h
  | .fld f :: r, e, h => by
    unfold chkP at h
    split at h
    · obtain ⟨h1, h2⟩ := and2 h
      obtain ⟨h1, h3⟩ := and2 h1
      obtain ⟨h1, h4⟩ := and2 h1
      rw [of_decide_eq_true h4]
      have := pe_fld (X := X) (f := W.T.fname f) (pos := by assumption) (path_pe c r h2) (sup_base h3 _ _ _)
      rw [c.K] at this
      exact this
    · cases h
  | .idx i :: r, e, h => by
    unfold chkP at h
    split at h
    · obtain ⟨h1, h2⟩ := and2 h
      have hr : IxR X (rIxA W.K) := by
        rw [← c.K]
        exact ix_list.or ix_tup
      exact pe_ix hr (path_pe c r h1) (sndE i c h2).sh (plain_sl (chk_sl h2))
    · cases h
theorem getP_app : ∀ {q : List SV} {d0 d : D} {sv : SV}, getP q d0 = .ok d → getP (q ++ [sv]) d0 = getP [sv] d
  | [], d0, d, sv, h => by cases h; rfl
  | .f n :: q, d0, d, sv, h => by
    cases d0 with
    | ins c fs =>
      obtain ⟨x, e1, e2⟩ := bind_inv (show (R.of (getF fs n)).bind (getP q) = .ok d from h)
      show (R.of (getF fs n)).bind (getP (q ++ [sv])) = _
      rw [e1]
      exact getP_app e2
    | _ => cases h
  | .i j :: q, d0, d, sv, h => by
    cases d0 with
    | lst xs =>
      obtain ⟨x, e1, e2⟩ := bind_inv (show (R.of xs[j]?).bind (getP q) = .ok d from h)
      show (R.of xs[j]?).bind (getP (q ++ [sv])) = _
      rw [e1]
      exact getP_app e2
    | tup xs =>
      obtain ⟨x, e1, e2⟩ := bind_inv (show (R.of xs[j]?).bind (getP q) = .ok d from h)
      show (R.of xs[j]?).bind (getP (q ++ [sv])) = _
      rw [e1]
      exact getP_app e2
    | _ => cases h
theorem Via.snoc {H : Hp} {v w u : V} {q : List SV} {sv : SV} (h : Via W H v q w) (h2 : Via W H w [sv] u) : Via W H v (q ++ [sv]) u := by
  induction h with
  | nil => exact h2
  | f a b c _ ih => exact .f a b c (ih h2)
  | l a b _ ih => exact .l a b (ih h2)
  | t a b _ ih => exact .t a b (ih h2)
theorem Via.det {H : Hp} {v w : V} {q : List SV} (h : Via W H v q w) : ∀ {u : V}, Via W H v q u → w = u := by
  induction h with
  | nil => intro u h; cases h; rfl
  | f a b c _ ih =>
    intro u h
    cases h with
    | f a' b' c' h' =>
      rw [a] at a'
      cases a'
      rw [c] at c'
      cases c'
      exact ih h'
  | l a b _ ih =>
    intro u h
    cases h with
    | l a' b' h' =>
      rw [a] at a'
      cases a'
      rw [b] at b'
      cases b'
      exact ih h'
    | t a' _ _ => rw [a] at a'; cases a'
  | t a b _ ih =>
    intro u h
    cases h with
    | t a' b' h' =>
      rw [a] at a'
      cases a'
      rw [b] at b'
      cases b'
      exact ih h'
    | l a' _ _ => rw [a] at a'; cases a'
theorem Sees.upT {H H1 : Hp} {env : Env} {σ : L2.St} {vs : List Nat} (h : Sees W H (fun _ => True) env σ vs) (e : Ext H H1) : Sees W H1 (fun _ => True) env σ vs := h.ext e
theorem path_den (fc : Facts W X.mg) {H : Hp} {P : Addr → Prop} {env : Env} {σ : L2.St} {b : Nat} {v0 : V} {d0 : D} (hv : σ[b]? = some (some v0)) (r0 : Rp W H P d0 v0) : ∀ (rs : List Sel) {q : List SV} {d : D}, evP C W.T env rs d0 = .ok (q, d) → pfl W.T.nfl rs → Sees W H (fun _ => True) env σ (pvars rs) →
    ∃ v', Via W H v0 q v' ∧ Rp W H P d v' ∧ getP q d0 = .ok d ∧ ∀ (H1 : Hp) (Q : VK), Ext H H1 → (∀ H2, Ext H1 H2 → Q v' H2) → tPr W C E b rs σ H1 Q
  | [], q, d, h, hf, hS => by
    cases h
    exact ⟨v0, .nil, r0, rfl, fun H1 Q e q => ⟨v0, hv, q H1 (Ext.refl _)⟩⟩
  | .fld f :: r, q, d, h, hf, hS => by
    obtain ⟨⟨q', d'⟩, e1, h⟩ := bind_inv (show (evP C W.T env r d0).bind (fun z => (fldD z.2 f).bind fun d2 => R.ok (z.1 ++ [SV.f f], d2)) = .ok (q, d) from h)
    obtain ⟨d2, e2, h⟩ := bind_inv h
    cases h
    obtain ⟨w, w1, w2, w3, w4⟩ := path_den fc hv r0 r e1 hf.2 hS
    cases w2 with
    | @ins p dx cl fs ds h1 h2 h3 h4 h5 =>
      obtain ⟨i, u, a1, a2, a3, _, _⟩ := FsR.get fc.finj (W := W) ⟨h3, h4⟩ (R.of_ok (show R.of (getF ds f) = .ok d from e2))
      refine ⟨u, w1.snoc (.f h1 ⟨cl, rfl⟩ a3 .nil), h5 i _ _ a1 a2, ?_, fun H1 Q e q => w4 H1 _ e fun H2 e2 => ?_⟩
      · rw [getP_app w3]
        show (R.of (getF ds f)).bind (getP []) = _
        rw [show R.of (getF ds f) = .ok d from e2]
        rfl
      · exact ⟨p, _, dx, fs, u, rfl, (e.trans e2) _ _ h1, fc.cls cl, fc.nat cl f hf.1, a3, q H2 e2⟩
    | _ => cases e2
  | .idx e :: r, q, d, h, hf, hS => by
    obtain ⟨⟨q', d'⟩, e1, h⟩ := bind_inv (show (evP C W.T env r d0).bind (fun z => (evE C W.T env e).noex.bind fun x => match x with
      | .int k => (R.of (L2.ixN (lenD z.2) k)).bind fun j => (getP [.i j] z.2).bind fun d2 => R.ok (z.1 ++ [SV.i j], d2)
      | _ => R.bad) = .ok (q, d) from h)
    obtain ⟨x, e2, h⟩ := bind_inv h
    have e2 := noex_inv e2
    cases x with
    | int k =>
      obtain ⟨j, e3, h⟩ := bind_inv h
      obtain ⟨d2, e4, h⟩ := bind_inv h
      cases h
      obtain ⟨w, w1, w2, w3, w4⟩ := path_den fc hv r0 r e1 hf (Sees.r hS)
      have hj := R.of_ok e3
      cases w2 with
      | @lst a vs ds h1 h2 h3 h4 =>
        have e4 : (R.of ds[j]?).bind (getP []) = .ok d := e4
        obtain ⟨d3, e5, e6⟩ := bind_inv e4
        cases e6
        have e5 := R.of_ok e5
        obtain ⟨u, eu, ru⟩ := RpL.get (W := W) ⟨h3, h4⟩ e5
        refine ⟨u, w1.snoc (.l h1 eu .nil), ru, ?_, fun H1 Q e q => w4 H1 _ e fun H2 e2' => ?_⟩
        · rw [getP_app w3]
          exact e4
        · refine ⟨env, fun _ => True, (Sees.l hS).upT (e.trans e2'), ?_⟩
          rw [e2]
          intro y H3 F e3' f o
          cases o.shd
          refine .inl ⟨a, vs, k, u, rfl, rfl, .of (e3' _ _ ((e.trans e2') _ _ h1)), ?_, q H3 (e2'.trans e3')⟩
          unfold L2.atI
          rw [← h3, show L2.ixN ds.length k = some j from hj]
          exact eu
      | @tup a vs ds h1 h3 h4 =>
        have e4 : (R.of ds[j]?).bind (getP []) = .ok d := e4
        obtain ⟨d3, e5, e6⟩ := bind_inv e4
        cases e6
        have e5 := R.of_ok e5
        obtain ⟨u, eu, ru⟩ := RpL.get (W := W) ⟨h3, h4⟩ e5
        refine ⟨u, w1.snoc (.t h1 eu .nil), ru, ?_, fun H1 Q e q => w4 H1 _ e fun H2 e2' => ?_⟩
        · rw [getP_app w3]
          exact e4
        · refine ⟨env, fun _ => True, (Sees.l hS).upT (e.trans e2'), ?_⟩
          rw [e2]
          intro y H3 F e3' f o
          cases o.shd
          refine .inr ⟨a, vs, k, u, rfl, rfl, .of (e3' _ _ ((e.trans e2') _ _ h1)), ?_, q H3 (e2'.trans e3')⟩
          unfold L2.atI
          rw [← h3, show L2.ixN ds.length k = some j from hj]
          exact eu
      | _ => cases e4
    | _ => cases h
theorem S.go_app : ∀ (q : List SV) (s : S) (sv : SV), s.go (q ++ [sv]) = (s.go q).go [sv]
  | [], s, sv => by cases s <;> rfl
  | .f n :: q, s, sv => by
    have := S.go_app q (s.fld n) sv
    cases s <;> exact this
  | .i j :: q, s, sv => by
    cases s with
    | lst t => exact S.go_app q t sv
    | tc a r => exact S.go_app q _ sv
    | _ => exact (S.sh_go [sv]).symm
theorem go_goS {env : Env} {s : S} : ∀ (rs : List Sel) {q : List SV} {d d0 : D}, evP C W.T env rs d0 = .ok (q, d) → goS s rs ≠ .sh → s.go q = goS s rs
  | [], q, d, d0, h, hs => by cases h; cases s <;> rfl
  | .fld f :: r, q, d, d0, h, hs => by
    obtain ⟨⟨q', d'⟩, e1, h⟩ := bind_inv (show (evP C W.T env r d0).bind (fun z => (fldD z.2 f).bind fun d2 => R.ok (z.1 ++ [SV.f f], d2)) = .ok (q, d) from h)
    obtain ⟨d2, e2, h⟩ := bind_inv h
    cases h
    have hn : goS s r ≠ .sh := fun z => hs (by show (goS s r).fld f = .sh; rw [z]; rfl)
    rw [S.go_app, go_goS r e1 hn]
    show (goS s r).go [.f f] = (goS s r).fld f
    cases h : goS s r <;> (show S.go _ [] = _; cases h2 : S.fld _ f <;> rfl)
  | .idx e :: r, q, d, d0, h, hs => by
    obtain ⟨⟨q', d'⟩, e1, h⟩ := bind_inv (show (evP C W.T env r d0).bind (fun z => (evE C W.T env e).noex.bind fun x => match x with
      | .int k => (R.of (L2.ixN (lenD z.2) k)).bind fun j => (getP [.i j] z.2).bind fun d2 => R.ok (z.1 ++ [SV.i j], d2)
      | _ => R.bad) = .ok (q, d) from h)
    obtain ⟨x, e2, h⟩ := bind_inv h
    have e2 := noex_inv e2
    cases x with
    | int k =>
      obtain ⟨j, e3, h⟩ := bind_inv h
      obtain ⟨d2, e4, h⟩ := bind_inv h
      cases h
      have hj := R.of_ok e3
      have hs : idxS (goS s r) e ≠ .sh := hs
      have hn : goS s r ≠ .sh := fun z => hs (by rw [z]; rfl)
      rw [S.go_app, go_goS r e1 hn]
      show (goS s r).go [.i j] = idxS (goS s r) e
      cases h : goS s r with
      | lst t =>
        show S.go t [] = t
        cases t <;> rfl
      | tc a p =>
        rw [h] at hs
        cases e with
        | ki j' =>
          cases e2
          have hs : (if 0 ≤ k then (S.tc a p).at k.toNat else .sh) ≠ .sh := hs
          show (S.tc a p).go [.i j] = if 0 ≤ k then (S.tc a p).at k.toNat else .sh
          by_cases h0 : 0 ≤ k
          · rw [if_pos h0]
            have : j = k.toNat := by
              unfold L2.ixN at hj
              rw [if_pos h0] at hj
              split at hj <;> cases hj
              rfl
            rw [this]
            show S.go ((S.tc a p).at k.toNat) [] = _
            cases (S.tc a p).at k.toNat <;> rfl
          · rw [if_neg h0] at hs
            exact absurd rfl hs
        | _ => exact absurd rfl hs
      | _ => rw [h] at hs; exact absurd rfl hs
    | _ => cases h
/-! ### writes -/
theorem Good.mutate {g : List S} {b : Bs} {env : Env} {σ : L2.St} {H : Hp} {F : Fps} (fc : Facts W X.mg) (h : Good W g b env σ H F) {base : Nat} {d0 : D} (hd : env[base]? = some (some d0)) {rs : List Sel} {q : List SV} {d : D} (hp : evP C W.T env rs d0 = .ok (q, d)) (hc : isCont d = true) (hf : pfl W.T.nfl rs) (hs : goS (gm g base) rs ≠ .sh) : ∃ v' F', (∀ (H1 : Hp) (Q : VK), Ext H H1 → (∀ H2, Ext H1 H2 → Q v' H2) → tPr W C E base rs σ H1 Q) ∧ Ow W H (There (Shr b F) H) (goS (gm g base) rs) d v' F' ∧ (∀ a, F' a → F base a) ∧
      ∀ (H2 : Hp) (New : Addr → Prop) (a : Addr) (o : HO) (gg : D → R D) (d2 : D), Ext H H2 → Fresh H H2 New → F' a → ¬ isFix o → Ow W (upd H2 a o) (fun x => Nw (Shr b F) H x ∧ ¬ New x) (goS (gm g base) rs) d2 v' (fun x => F' x ∨ New x) → gg d = .ok d2 →
        ∃ env3, updE env base q gg = .ok env3 ∧ ∃ F3, Good W g b env3 σ (upd H2 a o) F3 := by
  obtain ⟨v0, hv, o0⟩ := h.sl base d0 hd
  obtain ⟨v1, w1, w2, w3, w4⟩ := path_den (C := C) (E := E) fc hv o0.any rs hp hf (h.sees _)
  have hgo := go_goS (W := W) rs hp hs
  obtain ⟨v', F', f1, f2, f3, f4⟩ := Ow.focus fc.finj q o0.there w3 hc (by rw [hgo]; exact hs) (fun a z w => z.1.2 base w) (fun a o z e => by
    obtain ⟨_, o', e', nf⟩ := h.nw base a z
    rw [e] at e'
    cases e'
    exact nf)
  obtain rfl : v1 = v' := w1.det f1
  rw [hgo] at f2 f4
  refine ⟨v1, F', w4, f2, f3, fun H2 New a o gg d2 e fr ha nf ow hg => ?_⟩
  have hNew : ∀ x, New x → x ≠ a := fun x z q => by
    subst q
    obtain ⟨_, o', e', _⟩ := h.nw base x (f3 x ha)
    rw [(fr x z).1] at e'
    cases e'
  have hH3 : ∀ x u, ¬ F' x → H x = some u → upd H2 a o x = some u := fun x u n eu => by
    rw [upd_ne (fun q => n (by rw [q]; exact ha))]
    exact e x u eu
  obtain ⟨d3, e3, o3⟩ := f4 (upd H2 a o) (fun x => Nw (Shr b F) H x ∧ ¬ New x) New d2 gg ow hH3 (fun x z => ⟨.inl z.1, fun w => by
    obtain ⟨_, u, q⟩ := z
    rw [(fr x w).1] at q
    cases q⟩) (fun x z w => by
    obtain ⟨_, o', e', _⟩ := h.nw base x w
    rw [(fr x z).1] at e'
    cases e') hg
  refine ⟨env.set base (some d3), ?_, _, h.write (New := New) hd hv (fun x u n eu => hH3 x u (fun z => n (f3 x z)) eu) (fun x u eu => ?_) (fun x z => ?_) (fun x z => ⟨(fr x z).1, ?_⟩) o3⟩
  · unfold updE
    show (getV env base).bind _ = _
    rw [show getV env base = .ok d0 by unfold getV; rw [hd], bind_ok, e3]
    rfl
  · by_cases q : x = a
    · exact ⟨o, by rw [q]; exact upd_same⟩
    · exact ⟨u, by rw [upd_ne q]; exact e x u eu⟩
  · by_cases q : x = a
    · exact ⟨o, by rw [q]; exact upd_same, nf⟩
    · obtain ⟨_, u, eu, nu⟩ := h.nw base x z
      exact ⟨u, by rw [upd_ne q]; exact e x u eu, nu⟩
  · obtain ⟨_, u, eu, nu⟩ := fr x z
    exact ⟨u, by rw [upd_ne (hNew x z)]; exact eu, nu⟩
end
end G
end
section
set_option Elab.async false
set_option linter.all false
set_option maxRecDepth 100000
set_option maxHeartbeats 4000000
namespace G
open PySem PySem.Spec PyProof.Rows L2
section
variable {W : Wd} {H H2 : Hp} {P P2 F' New : Addr → Prop}
/-! ### what is owned, written -/
/-- the heap changed at one owned place: what is not there stays -/
theorem kp_at {a : Addr} {o0 o : HO} (hPa : ¬ P2 a) (h0 : H2 a = some o0) (nf : ¬ isFix o0) : Kp H2 (upd H2 a o) P2 := fun x u e z => .inl (by
  rw [upd_ne]
  · exact e
  · intro q
    subst q
    rcases z with z | z
    · exact hPa z
    · rw [h0] at e
      cases e
      exact nf z)
theorem Ow.relst {a : Addr} {o0 : HO} {t : S} {ds2 : List D} {vs2 : List V} (FF2 : Nat → Addr → Prop) (hPa : ¬ P2 a) (h0 : H2 a = some o0) (nf : ¬ isFix o0) (hl : ds2.length = vs2.length) (he : ∀ (i : Nat) d v, ds2[i]? = some d → vs2[i]? = some v → Ow W H2 P2 t d v (FF2 i))
    (hs : ∀ i x, FF2 i x → (F' x ∨ New x) ∧ x ≠ a) (hd : ∀ i j x, FF2 i x → FF2 j x → i = j) (ha : F' a) : Ow W (upd H2 a (.lst vs2)) P2 (.lst t) (.lst ds2) (.ref a) (fun x => F' x ∨ New x) :=
  .lst FF2 upd_same (.inl ha) hl (fun i d v e u => (he i d v e u).keep (kp_at hPa h0 nf) (fun _ z => z) fun x o z q => by
    rw [upd_ne (hs i x z).2]
    exact q) hs hd
theorem ow_lst {t : S} {ds : List D} {v : V} (o : Ow W H P (.lst t) (.lst ds) v F') : ∃ (a : Addr) (vs : List V) (FF : Nat → Addr → Prop), v = .ref a ∧ H a = some (.lst vs) ∧ F' a ∧ ds.length = vs.length ∧ (∀ (i : Nat) d v, ds[i]? = some d → vs[i]? = some v → Ow W H P t d v (FF i)) ∧
    (∀ i b, FF i b → F' b ∧ b ≠ a) ∧ ∀ i j b, FF i b → FF j b → i = j := by
  cases o with
  | lst FF h1 h2 h3 h4 h5 h6 => exact ⟨_, _, FF, rfl, h1, h2, h3, h4, h5, h6⟩
  | flat n _ => cases n
/-- one owned thing more, or in another's place -/
theorem ow_put {t : S} {ds : List D} {v : V} (hP : ∀ x, F' x → ¬ P x) (hX : ∀ x, F' x → ∃ o, H x = some o) (o : Ow W H (There P H) (.lst t) (.lst ds) v F') : ∃ (a : Addr) (vs : List V), v = .ref a ∧ H a = some (.lst vs) ∧ F' a ∧ ds.length = vs.length ∧
    ∀ (H2 : Hp) (New : Addr → Prop) (y : V) (dy : D), Ext H H2 → Fresh H H2 New → Ow W H2 (fun x => Nw P H x ∧ ¬ New x) t dy y New →
      Ow W (upd H2 a (.lst (vs ++ [y]))) (fun x => Nw P H x ∧ ¬ New x) (.lst t) (.lst (ds ++ [dy])) v (fun x => F' x ∨ New x) ∧
      ∀ j, j < ds.length → Ow W (upd H2 a (.lst (vs.set j y))) (fun x => Nw P H x ∧ ¬ New x) (.lst t) (.lst (ds.set j dy)) v (fun x => F' x ∨ New x) := by
  obtain ⟨a, vs, FF, rfl, h1, h2, h3, h4, h5, h6⟩ := ow_lst o
  refine ⟨a, vs, rfl, h1, h2, h3, fun H2 New y dy e fr oy => ?_⟩
  have hPa : ¬ (Nw P H a ∧ ¬ New a) := fun z => z.1.elim (hP a h2) fun q => by rw [h1] at q; cases q
  have hNa : ∀ x, New x → x ≠ a := fun x z q => by
    subst q
    rw [(fr x z).1] at h1
    cases h1
  have old : ∀ (i : Nat) d v, ds[i]? = some d → vs[i]? = some v → Ow W H2 (fun x => Nw P H x ∧ ¬ New x) t d v (FF i) := fun i d v e1 e2 => by
    refine (h4 i d v e1 e2).keep e.kp (fun x z => ⟨.inl z.1, fun w => ?_⟩) fun x o _ q => e x o q
    obtain ⟨_, o, q⟩ := z
    rw [(fr x w).1] at q
    cases q
  have sep : ∀ j x, New x → FF j x → False := fun j x z w => by
    obtain ⟨o, q⟩ := hX x (h5 j x w).1
    rw [(fr x z).1] at q
    cases q
  have nf : ¬ isFix (.lst vs) := fun z => z
  have sub : ∀ (n i : Nat) (x : Addr), (if i = n then New x else FF i x) → (F' x ∨ New x) ∧ x ≠ a := fun n i x z => by
    by_cases hi : i = n
    · rw [if_pos hi] at z
      exact ⟨.inr z, hNa x z⟩
    · rw [if_neg hi] at z
      exact ⟨.inl (h5 i x z).1, (h5 i x z).2⟩
  have dis : ∀ (n i j : Nat) (x : Addr), (if i = n then New x else FF i x) → (if j = n then New x else FF j x) → i = j := fun n i j x z z' => by
    by_cases hi : i = n <;> by_cases hj : j = n
    · rw [hi, hj]
    · rw [if_pos hi] at z
      rw [if_neg hj] at z'
      exact (sep j x z z').elim
    · rw [if_pos hj] at z'
      rw [if_neg hi] at z
      exact (sep i x z' z).elim
    · rw [if_neg hi] at z
      rw [if_neg hj] at z'
      exact h6 i j x z z'
  refine ⟨Ow.relst (fun i x => if i = vs.length then New x else FF i x) hPa (e _ _ h1) nf (by simp [h3]) (fun i d u ed eu => ?_) (sub _) (dis _) h2, fun j hj => Ow.relst (fun i x => if i = j then New x else FF i x) hPa (e _ _ h1) nf (by simp [h3]) (fun i d u ed eu => ?_) (sub _) (dis _) h2⟩
  · by_cases hi : i = vs.length
    · subst hi
      simp only [if_true]
      have ed2 : some dy = some d := by rw [← ed, ← h3]; simp
      have eu2 : some y = some u := by rw [← eu]; simp
      cases ed2
      cases eu2
      exact oy
    · simp only [if_neg hi]
      have hlt : i < vs.length := by
        have := (List.getElem?_eq_some_iff.mp eu).1
        simp at this
        omega
      rw [List.getElem?_append_left (by omega)] at ed
      rw [List.getElem?_append_left hlt] at eu
      exact old i d u ed eu
  · by_cases hi : i = j
    · subst hi
      simp only [if_true]
      rw [List.getElem?_set_self hj] at ed
      rw [List.getElem?_set_self (by omega)] at eu
      cases ed
      cases eu
      exact oy
    · simp only [if_neg hi]
      rw [List.getElem?_set_ne (fun q => hi q.symm)] at ed
      rw [List.getElem?_set_ne (fun q => hi q.symm)] at eu
      exact old i d u ed eu
/-- all of a list of shared things anew -/
theorem ow_shl {ds : List D} {v : V} (hP : ∀ x, F' x → ¬ P x) (o : Ow W H (There P H) (.lst .sh) (.lst ds) v F') : ∃ (a : Addr) (vs : List V), v = .ref a ∧ H a = some (.lst vs) ∧ F' a ∧ RpL W H (There P H) ds vs ∧
    ∀ (H2 : Hp) (ds2 : List D) (vs2 : List V), Ext H H2 → RpL W H2 (Nw P H) ds2 vs2 → Ow W (upd H2 a (.lst vs2)) (fun x => Nw P H x ∧ ¬ (fun _ => False) x) (.lst .sh) (.lst ds2) v (fun x => F' x ∨ (fun _ => False) x) := by
  obtain ⟨a, vs, FF, rfl, h1, h2, h3, h4, h5, h6⟩ := ow_lst o
  refine ⟨a, vs, rfl, h1, h2, ⟨h3, fun i d v e u => (h4 i d v e u).shd⟩, fun H2 ds2 vs2 e r => ?_⟩
  exact Ow.relst (fun _ _ => False) (fun z => z.1.elim (hP a h2) fun q => by rw [h1] at q; cases q) (e _ _ h1) (fun z => z) r.1 (fun i d u ed eu => .sh ((r.2 i d u ed eu).mono fun x z => ⟨z, fun z => z⟩)) (fun _ _ z => z.elim) (fun _ _ _ z => z.elim) h2
theorem ow_nil {t : S} {ds : List D} {v : V} (hP : ∀ x, F' x → ¬ P x) (o : Ow W H (There P H) (.lst t) (.lst ds) v F') : ∃ (a : Addr) (vs : List V), v = .ref a ∧ H a = some (.lst vs) ∧ F' a ∧ ∀ (H2 : Hp), Ext H H2 → Ow W (upd H2 a (.lst [])) (fun x => Nw P H x ∧ ¬ (fun _ => False) x) (.lst t) (.lst []) v (fun x => F' x ∨ (fun _ => False) x) := by
  obtain ⟨a, vs, FF, rfl, h1, h2, h3, h4, h5, h6⟩ := ow_lst o
  refine ⟨a, vs, rfl, h1, h2, fun H2 e => ?_⟩
  exact Ow.relst (fun _ _ => False) (fun z => z.1.elim (hP a h2) fun q => by rw [h1] at q; cases q) (e _ _ h1) (fun z => z) rfl (fun i d u ed eu => by simp at ed) (fun _ _ z => z.elim) (fun _ _ _ z => z.elim) h2
/-- a dict of shared things -/
theorem ow_dic {t : Bool} {ds : List (DK × D)} {v : V} (hP : ∀ x, F' x → ¬ P x) (o : Ow W H (There P H) .dic (.dic t ds) v F') : ∃ a : Addr, v = .ref a ∧ F' a ∧
    ((t = false ∧ ∃ kvs, H a = some (.dK kvs) ∧ PairR KeyK (Rp W H (There P H)) ds kvs ∧ ∀ (H2 : Hp) ds2 kvs2, Ext H H2 → PairR KeyK (Rp W H2 (Nw P H)) ds2 kvs2 → Ow W (upd H2 a (.dK kvs2)) (fun x => Nw P H x ∧ ¬ (fun _ => False) x) .dic (.dic false ds2) v (fun x => F' x ∨ (fun _ => False) x)) ∨
     (t = true ∧ ∃ kvs, H a = some (.dT kvs) ∧ PairR KeyT (Rp W H (There P H)) ds kvs ∧ ∀ (H2 : Hp) ds2 kvs2, Ext H H2 → PairR KeyT (Rp W H2 (Nw P H)) ds2 kvs2 → Ow W (upd H2 a (.dT kvs2)) (fun x => Nw P H x ∧ ¬ (fun _ => False) x) .dic (.dic true ds2) v (fun x => F' x ∨ (fun _ => False) x))) := by
  cases o with
  | flat n _ => cases n
  | @dicK a kvs ds F h1 h2 h3 h4 h5 =>
    refine ⟨a, rfl, h2, .inl ⟨rfl, kvs, h1, ⟨h3, h4, h5⟩, fun H2 ds2 kvs2 e r => .dicK upd_same (.inl h2) r.1 r.2.1 fun i d u ed eu => ?_⟩⟩
    exact ((r.2.2 i d u ed eu).mono (P' := fun x => Nw P H x ∧ ¬ False) fun x z => ⟨z, fun z => z⟩).keep (kp_at (fun z => z.1.elim (hP a h2) fun q => by rw [h1] at q; cases q) (e _ _ h1) fun z => z) fun _ z => z
  | @dicT a kvs ds F h1 h2 h3 h4 h5 =>
    refine ⟨a, rfl, h2, .inr ⟨rfl, kvs, h1, ⟨h3, h4, h5⟩, fun H2 ds2 kvs2 e r => .dicT upd_same (.inl h2) r.1 r.2.1 fun i d u ed eu => ?_⟩⟩
    exact ((r.2.2 i d u ed eu).mono (P' := fun x => Nw P H x ∧ ¬ False) fun x z => ⟨z, fun z => z⟩).keep (kp_at (fun z => z.1.elim (hP a h2) fun q => by rw [h1] at q; cases q) (e _ _ h1) fun z => z) fun _ z => z
/-- a field of an owned object -/
theorem ow_fld (fi : Finj W) {s : S} {c : Nat} {ds : List (Nat × D)} {v : V} {n : Nat} (hs : isOb s = true) (hP : ∀ x, F' x → ¬ P x) (hX : ∀ x, F' x → ∃ o, H x = some o) (o : Ow W H (There P H) s (.ins c ds) v F') : ∃ (a dx : Addr) (fs : List (Str × V)), v = .ref a ∧ H a = some (.ins (W.cadr c) dx fs) ∧ F' a ∧ ds.length = fs.length ∧
    ∀ (H2 : Hp) (New : Addr → Prop) (y : V) (dy : D), Ext H H2 → Fresh H H2 New → Ow W H2 (fun x => Nw P H x ∧ ¬ New x) (s.fld n) dy y New →
      Ow W (upd H2 a (.ins (W.cadr c) dx (L2.putF (W.T.fname n) y fs))) (fun x => Nw P H x ∧ ¬ New x) s (.ins c (putF n dy ds)) v (fun x => F' x ∨ New x) := by
  cases o with
  | sh _ => cases hs
  | flat n _ => cases n
  | @obj _ a dx _ fs _ _ FF h0 h1 h2 h3 h4 h7 h5 h6 =>
    refine ⟨a, dx, fs, rfl, h1, h2, h3, fun H2 New y dy e fr oy => ?_⟩
    have hPa : ¬ (Nw P H a ∧ ¬ New a) := fun z => z.1.elim (hP a h2) fun q => by rw [h1] at q; cases q
    have hNa : ∀ x, New x → x ≠ a := fun x z q => by
      subst q
      rw [(fr x z).1] at h1
      cases h1
    have old : ∀ (i : Nat) d v, ds[i]? = some d → fs[i]? = some v → Ow W H2 (fun x => Nw P H x ∧ ¬ New x) (s.fld d.1) d.2 v.2 (FF i) := fun i d v e1 e2 => by
      refine (h7 i d v e1 e2).keep e.kp (fun x z => ⟨.inl z.1, fun w => ?_⟩) fun x o _ q => e x o q
      obtain ⟨_, o, q⟩ := z
      rw [(fr x w).1] at q
      cases q
    have sep : ∀ j x, New x → FF j x → False := fun j x z w => by
      obtain ⟨o, q⟩ := hX x (h5 j x w).1
      rw [(fr x z).1] at q
      cases q
    have nf : ¬ isFix (.ins (W.cadr c) dx fs) := fun z => z
    have sub : ∀ (n i : Nat) (x : Addr), (if i = n then New x else FF i x) → (F' x ∨ New x) ∧ x ≠ a := fun n i x z => by
      by_cases hi : i = n
      · rw [if_pos hi] at z
        exact ⟨.inr z, hNa x z⟩
      · rw [if_neg hi] at z
        exact ⟨.inl (h5 i x z).1, (h5 i x z).2⟩
    have dis : ∀ (n i j : Nat) (x : Addr), (if i = n then New x else FF i x) → (if j = n then New x else FF j x) → i = j := fun n i j x z z' => by
      by_cases hi : i = n <;> by_cases hj : j = n
      · rw [hi, hj]
      · rw [if_pos hi] at z
        rw [if_neg hj] at z'
        exact (sep j x z z').elim
      · rw [if_pos hj] at z'
        rw [if_neg hi] at z
        exact (sep i x z' z).elim
      · rw [if_neg hi] at z
        rw [if_neg hj] at z'
        exact h6 i j x z z'
    have up : ∀ {ss : S} {d : D} {u : V} {G : Addr → Prop} {o : HO}, (∀ x, G x → x ≠ a) → Ow W H2 (fun x => Nw P H x ∧ ¬ New x) ss d u G → Ow W (upd H2 a o) (fun x => Nw P H x ∧ ¬ New x) ss d u G := fun hG ow => ow.keep (kp_at hPa (e _ _ h1) nf) (fun _ z => z) fun x o z q => by
      rw [upd_ne (hG x z)]
      exact q
    cases hg : getF ds n with
    | none =>
      obtain ⟨a1, a2, a3⟩ := FsR.none fi (W := W) ⟨h3, h4⟩ hg
      rw [a2, a3]
      refine .obj (fun i x => if i = fs.length then New x else FF i x) h0 upd_same (.inl h2) (by simp [h3]) (fun i d u ed eu => ?_) (fun i d u ed eu => ?_) (sub _) (dis _)
      · by_cases hi : i = fs.length
        · subst hi
          have ed2 : some (n, dy) = some d := by rw [← ed, ← h3]; simp
          have eu2 : some (W.T.fname n, y) = some u := by rw [← eu]; simp
          cases ed2
          cases eu2
          rfl
        · have hlt : i < fs.length := by
            have := (List.getElem?_eq_some_iff.mp eu).1
            simp at this
            omega
          rw [List.getElem?_append_left (by omega)] at ed
          rw [List.getElem?_append_left hlt] at eu
          exact h4 i d u ed eu
      · by_cases hi : i = fs.length
        · subst hi
          simp only [if_true]
          have ed2 : some (n, dy) = some d := by rw [← ed, ← h3]; simp
          have eu2 : some (W.T.fname n, y) = some u := by rw [← eu]; simp
          cases ed2
          cases eu2
          exact up hNa oy
        · simp only [if_neg hi]
          have hlt : i < fs.length := by
            have := (List.getElem?_eq_some_iff.mp eu).1
            simp at this
            omega
          rw [List.getElem?_append_left (by omega)] at ed
          rw [List.getElem?_append_left hlt] at eu
          exact up (fun x z => (h5 i x z).2) (old i d u ed eu)
    | some d0 =>
      obtain ⟨i0, v0, a1, a2, a3, a4, a5⟩ := FsR.get fi (W := W) ⟨h3, h4⟩ hg
      have hlt : i0 < ds.length := (List.getElem?_eq_some_iff.mp a1).1
      rw [a4, a5]
      refine .obj (fun i x => if i = i0 then New x else FF i x) h0 upd_same (.inl h2) (by simp [h3]) (fun i d u ed eu => ?_) (fun i d u ed eu => ?_) (sub _) (dis _)
      · by_cases hi : i = i0
        · subst hi
          rw [List.getElem?_set_self hlt] at ed
          rw [List.getElem?_set_self (by omega)] at eu
          cases ed
          cases eu
          rfl
        · rw [List.getElem?_set_ne (fun q => hi q.symm)] at ed
          rw [List.getElem?_set_ne (fun q => hi q.symm)] at eu
          exact h4 i d u ed eu
      · by_cases hi : i = i0
        · subst hi
          simp only [if_true]
          rw [List.getElem?_set_self hlt] at ed
          rw [List.getElem?_set_self (by omega)] at eu
          cases ed
          cases eu
          exact up hNa oy
        · simp only [if_neg hi]
          rw [List.getElem?_set_ne (fun q => hi q.symm)] at ed
          rw [List.getElem?_set_ne (fun q => hi q.symm)] at eu
          exact up (fun x z => (h5 i x z).2) (old i d u ed eu)
end
end G
end
section
set_option Elab.async false
set_option linter.all false
set_option maxRecDepth 100000
set_option maxHeartbeats 4000000
namespace G
open PySem PySem.Spec PyProof.Rows L2
structure Fc where
  N : List Str
  sc : Scope
  mu : Option S
  ret : S
abbrev Gam := Option (List S)
section
variable (W : Wd) (C : Calls) (E : XK) (b : Bs) (F : Fc)
def RtP (rt : VK) (d : D) (e : Env) : Prop := match F.mu with
  | none => ∀ v H' G, Ext b.H0 H' → Fresh b.H0 H' G → Ow W H' (fun a => Nw b.P0 b.H0 a ∧ ¬ G a) F.ret d v G → rt v H'
  | some s => noMut d = true ∧ ∀ σ' H' F' g' v, Good W g' b e σ' H' F' → gm g' 0 = s → (∀ P, Rp W H' P d v) → rt v H'
/-- what must hold of the ends for what a line comes to -/
def Out (Dn : Ends) (gL og : Gam) : O → Prop
  | .nx e => (match og with
    | none => True
    | some g' => ∀ σ H Fp, Good W g' b e σ H Fp → Dn.nx σ H)
  | .bk e => (match gL with
    | none => True
    | some g' => ∀ σ H Fp, Good W g' b e σ H Fp → Dn.bk σ H)
  | .ct e => (match gL with
    | none => True
    | some g' => ∀ σ H Fp, Good W g' b e σ H Fp → Dn.ct σ H)
  | .rt d e => RtP W b F Dn.rt d e
  | .ex c fs => b.m = false ∧ XW W E c fs b.H0
  | .bad => False
def denS (g : List S) (gL og : Gam) (f : Env → O) : TS := fun Dn σ H => ∃ env Fp, Good W g b env σ H Fp ∧ Out W E b F Dn gL og (f env)
end
theorem PS.imp {X : Cx} {st : Stmt} {t t' : TS} (h : PS X st t) (hi : ∀ Dn σ H, t' Dn σ H → t Dn σ H) : PS X st t' := ⟨fun pins s σ H Dn I q => h.run pins s σ H Dn I (hi Dn σ H q)⟩
theorem PSs.imp {X : Cx} {st : List Stmt} {t t' : TS} (h : PSs X st t) (hi : ∀ Dn σ H, t' Dn σ H → t Dn σ H) : PSs X st t' := ⟨fun pins s σ H Dn I q => h.run pins s σ H Dn I (hi Dn σ H q)⟩
structure SCx (W : Wd) (C : Calls) (k : Nat) (X : Cx) (F : Fc) (E : XK) : Prop where
  c : Ctx W C k X F.N F.sc E
  t : Tgs X F.N F.sc
  hp : PassesOwn (model X.prog X.w) X.A X.env X.xe
  kind : F.sc.kind = .function
def okV (ow : Bool) (g : List S) (vs : List Nat) : Bool := ow || shA g vs
section
variable {W : Wd} {C : Calls} {E : XK} {k : Nat} {X : Cx} {b : Bs} {F : Fc} {g : List S} {env : Env} {σ : L2.St} {H H1 : Hp} {Fp : Fps} {Dn : Ends} {gL og : Gam}
theorem Good.ext0 (h : Good W g b env σ H Fp) (hm : b.m = false) : Ext b.H0 H := fun a o q => h.ext a o (h.pm hm a) q
theorem Good.h0 (h : Good W g b env σ H Fp) {a : Addr} (q : H a = none) : b.H0 a = none := by
  cases r : b.H0 a with
  | none => rfl
  | some o =>
    obtain ⟨o', q'⟩ := h.al a o r
    rw [q] at q'
    cases q'
theorem Good.nw_pa (h : Good W g b env σ H Fp) {a : Addr} (z : Nw (Shr b Fp) H a) : Shr b Fp a := z.elim id fun q => ⟨.inr (h.h0 q), fun i w => by
  obtain ⟨_, o, e, _⟩ := h.nw i a w
  rw [q] at e
  cases e⟩
theorem Out.wp {α : Type} {x : R α} {f : α → O} (h : Out W E b F Dn gL og (x.to f)) (hG : Good W g b env σ H Fp) : Wp W E H x fun a => Out W E b F Dn gL og (f a) := by
  cases x with
  | ok a => exact h
  | ex c fs => exact XW.up h.2 (hG.ext0 h.1)
  | bad => exact h
/-- a value to be kept, from what is wanted of it -/
theorem val_den {ow : Bool} {e : IE} {s : S} {kk : D → Prop} {Q : VK} (hG : Good W g b env σ H Fp) (hv : okV ow g e.vars = true) (h : Wp W E H (keep ow (evE C W.T env e)) kk)
    (hk : ∀ d, kk d → ∀ v H1 G, Ext H H1 → Fresh H H1 G → Ow W H1 (fun a => Nw (Shr b Fp) H a ∧ ¬ G a) s d v G → Q v H1) : den W C E e s σ H Q := by
  cases ow with
  | false =>
    refine ⟨env, Shr b Fp, hG.seesSh (by simpa [okV] using hv), ?_⟩
    have h : Wp W E H ((evE C W.T env e).bind fun d => R.ok d) kk := h
    exact h.bind.imp fun d kd v H1 G e f o => hk d kd v H1 G e f o
  | true =>
    refine ⟨env, fun _ => True, hG.sees _, ?_⟩
    have h : Wp W E H ((evE C W.T env e).bind fun d => if noMut d then R.ok d else R.bad) kk := h
    refine h.bind.imp fun d kd v H1 G e f o => ?_
    split at kd
    · rename_i hn
      exact hk d kd v H1 (fun _ => False) e (fun _ z => z.elim) (.flat hn (o.flatten hn))
    · exact kd.elim
theorem Ow.flatS {P P' : Addr → Prop} : ∀ {s : S} {d : D} {v : V} {G : Addr → Prop}, Ow W H P s d v G → flS s d = true → Ow W H P' s d v G
  | .lst s, d, v, G, o, n => by
    cases o with
    | flat n' r => exact .flat n' (r.flat n')
    | lst FF h1 h2 h3 h4 h5 h6 =>
      rename_i a vs ds
      have n : (ds.all fun d => flS s d) = true := n
      rw [List.all_eq_true] at n
      exact .lst FF h1 h2 h3 (fun i d v e u => (h4 i d v e u).flatS (n d (List.mem_of_getElem? e))) h5 h6
    | obj FF q => exact q.elim
  | .sh, d, v, G, o, n => .flat (by cases d <;> exact n) (o.flatten (by cases d <;> exact n))
  | .dic, d, v, G, o, n => .flat (by cases d <;> exact n) (o.flatten (by cases d <;> exact n))
  | .tn, d, v, G, o, n => .flat (by cases d <;> exact n) (o.flatten (by cases d <;> exact n))
  | .tc _ _, d, v, G, o, n => .flat (by cases d <;> exact n) (o.flatten (by cases d <;> exact n))
  | .on, d, v, G, o, n => .flat (by cases d <;> exact n) (o.flatten (by cases d <;> exact n))
  | .oc _ _ _, d, v, G, o, n => .flat (by cases d <;> exact n) (o.flatten (by cases d <;> exact n))
theorem val_denS {ow : Bool} {e : IE} {s : S} {kk : D → Prop} {Q : VK} (hG : Good W g b env σ H Fp) (hv : okV ow g e.vars = true) (h : Wp W E H (keepS s ow (evE C W.T env e)) kk)
    (hk : ∀ d, kk d → ∀ v H1 G, Ext H H1 → Fresh H H1 G → Ow W H1 (fun a => Nw (Shr b Fp) H a ∧ ¬ G a) s d v G → Q v H1) : den W C E e s σ H Q := by
  cases ow with
  | false =>
    refine ⟨env, Shr b Fp, hG.seesSh (by simpa [okV] using hv), ?_⟩
    have h : Wp W E H ((evE C W.T env e).bind fun d => R.ok d) kk := h
    exact h.bind.imp fun d kd v H1 G e f o => hk d kd v H1 G e f o
  | true =>
    refine ⟨env, fun _ => True, hG.sees _, ?_⟩
    have h : Wp W E H ((evE C W.T env e).bind fun d => if flS s d then R.ok d else R.bad) kk := h
    refine h.bind.imp fun d kd v H1 G e f o => ?_
    split at kd
    · rename_i hn
      exact hk d kd v H1 G e f (o.flatS hn)
    · exact kd.elim
def noComp : PySem.Expr → Bool
  | .ListComp _ _ _ _ => false
  | .SetComp _ _ _ _ => false
  | .DictComp _ _ _ _ _ => false
  | _ => true
theorem swaps_no {e : PySem.Expr} (h : noComp e = true) (t : Option PySem.Expr) (n : Nat) (env : PySem.Env) : swapsWith e t n env = pure false := by
  cases e <;> first
    | rfl
    | cases h
theorem swaps_sub (e o i : PySem.Expr) (p : Pos) (n : Nat) (env : PySem.Env) : swapsWith e (some (.Subscript o i p)) n env = pure false := by
  cases e <;> rfl
theorem swaps_fld (e o : PySem.Expr) (f : Str) (p : Pos) (n : Nat) (env : PySem.Env) : swapsWith e (some (.Attribute o f p)) n env = pure false := by
  cases e <;> rfl
def isMu (F : Fc) (i : Nat) : Bool := F.mu.isSome && decide (i = 0)
theorem notMu {i : Nat} (hm : b.m = F.mu.isSome) (h : isMu F i = false) : b.m = true → i ≠ 0 := fun q e => by
  unfold isMu at h
  rw [← hm, q, e] at h
  cases h
/-! ### a name is given a value -/
theorem asg_den {ow : Bool} {e : IE} {i : Nat} {s : S} (hm : b.m = F.mu.isSome) (hi : isMu F i = false) (hl : i < g.length) (hv : okV ow g e.vars = true) (h : denS W E b F g gL (some (g.set i s)) (evS C W.T (.asg i s e ow)) Dn σ H) : tAsg (den W C E e s) (gName i) Dn σ H := by
  obtain ⟨env, Fp, hG, hO⟩ := h
  have hO : Out W E b F Dn gL (some (g.set i s)) ((keepS s ow (evE C W.T env e)).to fun d => .nx (env.set i (some d))) := hO
  exact val_denS hG hv (hO.wp hG) fun d hd v H1 G e f o => hd _ _ _ (hG.put e (notMu hm hi) f o hl)
theorem ss_asg (c : SCx W C k X F E) {ow : Bool} {e : IE} {i : Nat} {s : S} {x : Str} {v : PySem.Expr} {p' pos : Pos} (hm : b.m = F.mu.isSome) (hi : isMu F i = false) (hl : i < g.length) (hx : tgN F.N F.sc i (.Name x p') = true) (hv : okV ow g e.vars = true) (hf : fits W.T e s = true) (he : chkE W.T F.N F.sc e v = true) (hn : noComp v = true) :
    PS X (.Assign [.Name x p'] v pos) (denS W E b F g gL (some (g.set i s)) (evS C W.T (.asg i s e ow))) := by
  obtain ⟨x', p2, e1, h1, h2⟩ := tgN_inv hx
  cases e1
  have lc : L2.Loc X.env.scope x ∧ (X.fn x = true ∨ X.env.scope.names.lookup x = some .local) := h2.elim (fun h => ⟨.inl (c.t.loc x h), .inr (c.t.loc x h)⟩) fun h => ⟨.inr (c.t.cel x h).1, .inl (c.t.cel x h).2⟩
  exact PS.imp (ps_set (by rw [c.c.n]; exact c.c.nd) (by rw [c.c.n]; exact h1) lc.1 ((sndE e c.c he).pe s hf) (swaps_no hn _ _ _) lc.2) fun Dn σ H h => asg_den hm hi hl hv h
/-- [..] given to a name: the same line -/
def lcOk (sc : Scope) (x : Str) (pl vl sl : Nat) (scope : Scope) : Bool := match sc.names.lookup x with
  | some .local => (pl == vl) && !(scope.names.any fun (n, k) => n == x && (k == .local || k == .cell))
  | some .cell => true
  | _ => false
theorem ss_asgLc (c : SCx W C k X F E) {ow : Bool} {elt : IE} {tu : Bool} {tg : List Nat} {it : IT} {cnd : IO} {i : Nat} {s : S} {x : Str} {v : PySem.Expr} {gens : List Comprehension} {scope : Scope} {pos p' spos : Pos} (hm : b.m = F.mu.isSome) (hi : isMu F i = false) (hl : i < g.length) (hx : tgN F.N F.sc i (.Name x p') = true)
    (hv : okV ow g (IE.comp elt tu tg it cnd).vars = true) (hf : fits W.T (.comp elt tu tg it cnd) s = true) (hdt : isDit it = false) (he : chkE W.T F.N F.sc (.comp elt tu tg it cnd) (.ListComp v gens scope pos) = true) (hn : lcOk F.sc x p'.line pos.line spos.line scope = true) :
    PS X (.Assign [.Name x p'] (.ListComp v gens scope pos) spos) (denS W E b F g gL (some (g.set i s)) (evS C W.T (.asg i s (.comp elt tu tg it cnd) ow))) := by
  obtain ⟨x', p2, e1, h1, h2⟩ := tgN_inv hx
  cases e1
  refine PS.imp ?_ fun Dn σ H h => asg_den hm hi hl hv h
  have hpe := (sndE _ c.c he).pe s hf
  have bk : X.env.blockKind = .function := by
    unfold Env.blockKind
    rw [c.c.sc, c.kind]
    rfl
  unfold lcOk at hn
  rcases h2 with h2 | h2
  · rw [h2] at hn
    obtain ⟨hn1, hn2⟩ := and2 hn
    unfold chkE at he
    split at he
    · rename_i hq
      cases hq
      rename_i t iter ifs
      obtain ⟨g1, g2⟩ := and2 he
      obtain ⟨g1, _⟩ := and2 g1
      obtain ⟨g2, g3⟩ := and2 g2
      obtain ⟨g3, g4⟩ := and2 g3
      obtain ⟨g4, g5⟩ := and2 g4
      have hsw : swapsWith (.ListComp v [⟨t, iter, ifs, 0⟩] scope pos) (some (.Name x p')) spos.line X.env = pure true := by
        show (pure (X.env.blockKind == .function && X.env.scope.names.lookup x == some .local && p'.line == pos.line && !(scope.names.any fun (n, k) => n == x && (k == .local || k == .cell))) : Sem Bool) = pure true
        rw [bk, c.c.sc, h2, hn1, hn2]
        rfl
      have go : ∀ s', ((s = .sh ∧ s' = .sh) ∨ s = .lst s') → fits W.T elt s' = true → PS X (.Assign [.Name x p'] (.ListComp v [⟨t, iter, ifs, 0⟩] scope pos) spos) (tAsg (den W C E (.comp elt tu tg it cnd) s) (gName i)) := fun s' hs hf' =>
        ss_comp c.c h1 h2 hsw hs g1 g5 (sndI it c.c t hdt g2) (chkIt_set g2) (fun s H A cl fp => sndC cnd (blk_ctx c.c s H scope A cl fp) g3) fun s H A cl fp => (sndE elt (blk_ctx c.c s H scope A cl fp) g4).pe s' hf'
      cases s with
      | sh => exact go .sh (.inl ⟨rfl, rfl⟩) (fits_sh _ _)
      | lst t => exact go t (.inr rfl) (by simpa [fits] using hf)
      | _ => simp [fits] at hf
    · cases he
  · refine ps_set (by rw [c.c.n]; exact c.c.nd) (by rw [c.c.n]; exact h1) (.inr (c.t.cel x h2).1) hpe ?_ (.inl (c.t.cel x h2).2)
    show (pure (X.env.blockKind == .function && X.env.scope.names.lookup x == some .local && p'.line == pos.line && !(scope.names.any fun (n, k) => n == x && (k == .local || k == .cell))) : Sem Bool) = pure false
    have hb : (some NameKind.cell == some NameKind.local) = false := rfl
    rw [c.c.sc, h2, hb, Bool.and_false, Bool.false_and, Bool.false_and]
/-! ### some names -/
def putG (g : List S) : List Nat → List S
  | [] => g
  | i :: is => putG (g.set i .sh) is
theorem Good.puts : ∀ {is : List Nat} {ds : List D} {vs : List V} {g : List S} {env env1 : Env} {σ : L2.St} {Fp : Fps} (h : Good W g b env σ H Fp) (hi : ∀ i ∈ is, b.m = true → i ≠ 0) (hl : ∀ i ∈ is, i < g.length), setAll is ds env = some env1 → RpL W H (fun a => b.P0 a ∨ b.H0 a = none) ds vs → (∀ d v (i : Nat), ds[i]? = some d → vs[i]? = some v → Rp W H (Shr b Fp) d v) →
    ∃ F', Good W (putG g is) b env1 (setVs is vs σ) H F'
  | [], ds, vs, g, env, env1, σ, Fp, h, hi, hl, hs, r, rr => by
    cases ds with
    | nil =>
      cases hs
      cases r.un0
      exact ⟨_, h⟩
    | cons _ _ => cases hs
  | i :: is, ds, vs, g, env, env1, σ, Fp, h, hi, hl, hs, r, rr => by
    cases ds with
    | nil => cases hs
    | cons d ds =>
      obtain ⟨v, us, rfl, r1, r2⟩ := r.un
      have r3 := rr d v 0 rfl rfl
      have h1 := h.put (Ext.refl H) (s := .sh) (d := d) (v := v) (G := fun _ => False) (hi i List.mem_cons_self) (fun _ z => z.elim) (.sh (r3.mono fun a z => ⟨.inl z, fun z => z⟩)) (hl i List.mem_cons_self)
      have go := Good.puts (is := is) (vs := us) h1 (fun j hj => hi j (List.mem_cons_of_mem _ hj)) (fun j hj => by simpa using hl j (List.mem_cons_of_mem _ hj)) (show setAll is ds (env.set i (some d)) = some env1 from hs) r2 fun d' v' j e u => (rr d' v' (j + 1) (by simpa using e) (by simpa using u)).mono fun a z => ⟨z.1, fun l w => by
        by_cases hli : l = i
        · rw [hli, setF_same] at w
          exact w
        · rw [setF_ne hli] at w
          exact z.2 l w⟩
      exact go
theorem putsOk (hm : b.m = F.mu.isSome) {is : List Nat} (h : (is.all fun i => !isMu F i && decide (i < g.length)) = true) : (∀ i ∈ is, b.m = true → i ≠ 0) ∧ ∀ i ∈ is, i < g.length :=
  ⟨fun i hi => notMu hm (by
    have := List.all_eq_true.mp h i hi
    have := (and2 this).1
    simpa using this), fun i hi => by
    have := List.all_eq_true.mp h i hi
    exact of_decide_eq_true (and2 this).2⟩
theorem Good.putsL (h : Good W g b env σ H Fp) {is : List Nat} {ds : List D} {vs : List V} {env1 : Env} (hi : ∀ i ∈ is, b.m = true → i ≠ 0) (hl : ∀ i ∈ is, i < g.length) (hs : setAll is ds env = some env1) (r : RpL W H (Shr b Fp) ds vs) : ∃ F', Good W (putG g is) b env1 (setVs is vs σ) H F' :=
  Good.puts h hi hl hs (r.1 |> fun l => ⟨l, fun i d v e u => (r.2 i d v e u).mono fun a z => z.1⟩) fun d v i e u => r.2 i d v e u
def gUn (t1 t2 : TG) : TG := fun v σ H Q => t1 v σ H Q ∨ t2 v σ H Q
theorem pg_un {e : PySem.Expr} {t1 t2 : TG} (h1 : PG X e t1) (h2 : PG X e t2) : PG X e (gUn t1 t2) := ⟨fun pins s σ H v u Q I r hw => hw.elim (h1.run pins s σ H v u Q I r) (h2.run pins s σ H v u Q I r)⟩
theorem ss_asgT (c : SCx W C k X F E) {ow : Bool} {e : IE} {is : List Nat} {es : List PySem.Expr} {kk : Nat} {v : PySem.Expr} {p' pos : Pos} (hm : b.m = F.mu.isSome) (hi : (is.all fun i => !isMu F i && decide (i < g.length)) = true) (hx : tgNs F.N F.sc is es = true) (hv : okV ow g e.vars = true) (he : chkE W.T F.N F.sc e v = true) (hn : noComp v = true)
    (hw : swappedStores [.Tuple es kk p'] v X.env = pure none) : PS X (.Assign [.Tuple es kk p'] v pos) (denS W E b F g gL (some (putG g is)) (evS C W.T (.asgT is e ow))) := by
  have hsw : swapsWithSole [.Tuple es kk p'] v pos.line X.env = pure false := swaps_no hn (some (.Tuple es kk p')) pos.line X.env
  obtain ⟨o1, o2⟩ := putsOk hm hi
  refine PS.imp (ps_asg (g := gUn (gT X.K true is) (gLst X.K is.length (gNames is))) (sndE e c.c he).sh (pg_un (tg_any c.t (show tgB F.N F.sc true is (.Tuple es kk p') = true from hx)) (pg_lst c.c.calm (tg_names c.t hx).1 (tg_names c.t hx).2.1 (tg_names c.t hx).2.2)) hsw hw rfl) fun Dn σ H h => ?_
  obtain ⟨env, Fp, hG, hO⟩ := h
  have hO : Out W E b F Dn gL (some (putG g is)) ((keep ow (evE C W.T env e)).to fun d => match d with
    | .tup ds => (R.of (setAll is ds env)).to .nx
    | .lst ds => (R.of (setAll is ds env)).to .nx
    | _ => .bad) := hO
  refine val_den hG hv (hO.wp hG) fun d hd v H1 G e f o => ?_
  have hG1 := hG.up e
  cases d with
  | tup ds =>
    have hd : Out W E b F Dn gL (some (putG g is)) ((R.of (setAll is ds env)).to .nx) := hd
    obtain ⟨env1, hs, hq⟩ := (hd.wp hG1).of
    have r := o.shd.mono (P' := Shr b Fp) fun a z => hG.nw_pa z.1
    cases r with
    | tup h1 h3 h4 =>
      obtain ⟨F', hG2⟩ := hG1.putsL o1 o2 hs ⟨h3, h4⟩
      obtain ⟨a, _⟩ := setAll_rel (σ := σ) hs (⟨h3, h4⟩ : RpL W H1 (Shr b Fp) ds _) hG1.len
      exact .inl ⟨_, _, rfl, .of h1, a.symm, gNames_run a (hq _ _ _ hG2)⟩
  | lst ds =>
    have hd : Out W E b F Dn gL (some (putG g is)) ((R.of (setAll is ds env)).to .nx) := hd
    obtain ⟨env1, hs, hq⟩ := (hd.wp hG1).of
    have r := o.shd.mono (P' := Shr b Fp) fun a z => hG.nw_pa z.1
    cases r with
    | lst h1 _ h3 h4 =>
      obtain ⟨F', hG2⟩ := hG1.putsL o1 o2 hs ⟨h3, h4⟩
      obtain ⟨a, _⟩ := setAll_rel (σ := σ) hs (⟨h3, h4⟩ : RpL W H1 (Shr b Fp) ds _) hG1.len
      exact .inr ⟨_, _, rfl, .inl (.inl h1), a.symm, gNames_run a (hq _ _ _ hG2)⟩
  | _ => exact hd.elim
/-! ### small lines -/
theorem ss_exp (c : SCx W C k X F E) {e : IE} {v : PySem.Expr} {pos : Pos} (he : chkE W.T F.N F.sc e v = true) (hn : noComp v = true) : PS X (.Expr v pos) (denS W E b F g gL (some g) (evS C W.T (.exp e))) :=
  PS.imp (ps_expr (sndE e c.c he).sh (swaps_no hn _ _ _)) fun Dn σ H ⟨env, Fp, hG, hO⟩ => by
    have hO : Out W E b F Dn gL (some g) ((evE C W.T env e).to fun _ => .nx env) := hO
    exact den_sh (hG.sees _) (hO.wp hG) fun d hd v H1 e r => hd _ _ _ (hG.up e)
theorem ss_pas {pos : Pos} : PS X (.Pass pos) (denS W E b F g gL (some g) (evS C W.T .pas)) :=
  PS.imp ps_pass fun Dn σ H ⟨env, Fp, hG, hO⟩ => hO _ _ _ hG
theorem ss_brk {pos : Pos} {g' : List S} (hl : leG b.m g g') : PS X (.Break pos) (denS W E b F g (some g') none (evS C W.T .brk)) :=
  PS.imp ps_break fun Dn σ H ⟨env, Fp, hG, hO⟩ => let ⟨F', hG'⟩ := hG.weak hl; hO _ _ _ hG'
theorem ss_ct {pos : Pos} {g' : List S} (hl : leG b.m g g') : PS X (.Continue pos) (denS W E b F g (some g') none (evS C W.T .ct)) :=
  PS.imp ps_continue fun Dn σ H ⟨env, Fp, hG, hO⟩ => let ⟨F', hG'⟩ := hG.weak hl; hO _ _ _ hG'
theorem ss_retN (hm : b.m = F.mu.isSome) (ht : ∀ s, F.mu = some s → gm g 0 = s) {pos : Pos} : PS X (.Return none pos) (denS W E b F g gL none (evS C W.T .retN)) :=
  PS.imp ps_retN fun Dn σ H ⟨env, Fp, hG, hO⟩ => by
    have hO : RtP W b F Dn.rt .non env := hO
    unfold RtP at hO
    cases hF : F.mu with
    | none =>
      rw [hF] at hO hm
      exact hO .non H (fun _ => False) (hG.ext0 hm) (fun _ z => z.elim) (.flat rfl .non)
    | some s =>
      rw [hF] at hO
      exact hO.2 σ H Fp g .non hG (ht s hF) fun _ => .non
/-- everything let go -/
theorem Good.letGo (hm : b.m = false) (h : Good W g b env σ H Fp) (vs : List Nat) : Sees W H (Nw b.P0 b.H0) env σ vs := ⟨h.len, fun i _ d e => by
  obtain ⟨v, h1, h2⟩ := h.sl i d e
  exact ⟨v, h1, h2.share (fun a z => z.1) fun a z => by
    rcases (h.nw i a z).1 with ⟨_, q⟩ | q
    · exact absurd q (h.pm hm a)
    · exact .inr q⟩⟩
theorem ss_ret (c : SCx W C k X F E) (hm : b.m = F.mu.isSome) (ht : ∀ s, F.mu = some s → gm g 0 = s) {e : IE} {v : PySem.Expr} {pos : Pos} (hf : F.mu = none → fits W.T e F.ret = true) (he : chkE W.T F.N F.sc e v = true) : PS X (.Return (some v) pos) (denS W E b F g gL none (evS C W.T (.ret e))) := by
  cases hF : F.mu with
  | none =>
    rw [hF] at hm
    refine PS.imp (ps_ret ((sndE e c.c he).pe F.ret (hf hF))) fun Dn σ H ⟨env, Fp, hG, hO⟩ => ?_
    have hO : Out W E b F Dn gL none ((evE C W.T env e).to fun d => .rt d env) := hO
    refine ⟨env, _, hG.letGo hm _, (hO.wp hG).imp fun d hd v H1 G e f o => ?_⟩
    have hd : RtP W b F Dn.rt d env := hd
    unfold RtP at hd
    rw [hF] at hd
    exact hd v H1 G ((hG.ext0 hm).trans e) (fun a z => ⟨hG.h0 (f a z).1, (f a z).2⟩) (o.mono fun a z => ⟨z.1.elim id fun q => .inr (hG.h0 q), z.2⟩)
  | some s =>
    refine PS.imp (ps_ret (sndE e c.c he).sh) fun Dn σ H ⟨env, Fp, hG, hO⟩ => ?_
    have hO : Out W E b F Dn gL none ((evE C W.T env e).to fun d => .rt d env) := hO
    refine den_sh (hG.sees _) (hO.wp hG) fun d hd v H1 e r => ?_
    have hd : RtP W b F Dn.rt d env := hd
    unfold RtP at hd
    rw [hF] at hd
    exact hd.2 σ H1 Fp g v (hG.up e) (ht s hF) fun P => (r.mono fun _ _ => trivial : Rp W H1 (fun _ => True) d v).flat hd.1
end
end G
end
section
set_option Elab.async false
set_option linter.all false
set_option maxRecDepth 100000
set_option maxHeartbeats 4000000
namespace G
open PySem PySem.Spec PyProof.Rows L2
section
variable {W : Wd} {C : Calls} {E : XK} {k : Nat} {X : Cx} {b : Bs} {F : Fc} {g : List S} {env : Env} {σ : L2.St} {H H1 : Hp} {Fp : Fps} {Dn : Ends} {gL og : Gam}
theorem noex_getV (env : Env) (i : Nat) : NoEx (getV env i) := by
  unfold getV
  split
  · exact .ok _
  · exact .bad
theorem getV_ok {env : Env} {i : Nat} {d : D} (h : getV env i = .ok d) : env[i]? = some (some d) := by
  unfold getV at h
  split at h
  · rename_i d' e
    cases h
    exact e
  · cases h
theorem noex_getP : ∀ (q : List SV) (d : D), NoEx (getP q d)
  | [], d => .ok _
  | .f n :: q, d => by
    cases d with
    | ins c fs => exact .bind (.of _) fun a => noex_getP q a
    | _ => exact .bad
  | .i j :: q, d => by
    cases d with
    | lst xs => exact .bind (.of _) fun a => noex_getP q a
    | tup xs => exact .bind (.of _) fun a => noex_getP q a
    | _ => exact .bad
theorem noex_evP (T : Tab) (env : Env) : ∀ (rs : List Sel) (d : D), NoEx (evP C T env rs d)
  | [], d => .ok _
  | .fld f :: r, d => .bind (noex_evP T env r d) fun z => .bind (noex_fld _ _) fun _ => .ok _
  | .idx e :: r, d => .bind (noex_evP T env r d) fun z => .bind (R.noex_noex _) fun x => by
    cases x with
    | int k => exact .bind (.of _) fun j => .bind (noex_getP _ _) fun _ => .ok _
    | _ => exact .bad
theorem updP_inv {gg : D → R D} : ∀ {q : List SV} {d0 d d3 : D}, getP q d0 = .ok d → updP gg q d0 = .ok d3 → ∃ d2, gg d = .ok d2
  | [], d0, d, d3, h, h2 => by cases h; exact ⟨d3, h2⟩
  | .f n :: q, d0, d, d3, h, h2 => by
    cases d0 with
    | ins c fs =>
      obtain ⟨x, e1, e2⟩ := bind_inv (show (R.of (getF fs n)).bind (getP q) = .ok d from h)
      obtain ⟨y, f1, f2⟩ := bind_inv (show (R.of (getF fs n)).bind (fun d => (updP gg q d).bind fun d2 => R.ok (D.ins c (putF n d2 fs))) = .ok d3 from h2)
      rw [e1] at f1
      cases f1
      obtain ⟨z, g1, _⟩ := bind_inv f2
      exact updP_inv e2 g1
    | _ => cases h
  | .i j :: q, d0, d, d3, h, h2 => by
    cases d0 with
    | lst xs =>
      obtain ⟨x, e1, e2⟩ := bind_inv (show (R.of xs[j]?).bind (getP q) = .ok d from h)
      obtain ⟨y, f1, f2⟩ := bind_inv (show (R.of xs[j]?).bind (fun d => (updP gg q d).bind fun d2 => R.ok (D.lst (xs.set j d2))) = .ok d3 from h2)
      rw [e1] at f1
      cases f1
      obtain ⟨z, g1, _⟩ := bind_inv f2
      exact updP_inv e2 g1
    | tup xs =>
      obtain ⟨x, e1, e2⟩ := bind_inv (show (R.of xs[j]?).bind (getP q) = .ok d from h)
      obtain ⟨y, f1, f2⟩ := bind_inv (show (R.of xs[j]?).bind (fun d => (updP gg q d).bind fun d2 => R.ok (D.tup (xs.set j d2))) = .ok d3 from h2)
      rw [e1] at f1
      cases f1
      obtain ⟨z, g1, _⟩ := bind_inv f2
      exact updP_inv e2 g1
    | _ => cases h
theorem evP_getP {T : Tab} {env : Env} : ∀ {rs : List Sel} {q : List SV} {d d0 : D}, evP C T env rs d0 = .ok (q, d) → getP q d0 = .ok d
  | [], q, d, d0, h => by cases h; rfl
  | .fld f :: r, q, d, d0, h => by
    obtain ⟨⟨q', d'⟩, e1, h⟩ := bind_inv (show (evP C T env r d0).bind (fun z => (fldD z.2 f).bind fun d2 => R.ok (z.1 ++ [SV.f f], d2)) = .ok (q, d) from h)
    obtain ⟨d2, e2, h⟩ := bind_inv h
    cases h
    rw [getP_app (evP_getP e1)]
    cases d' with
    | ins c fs =>
      show (R.of (getF fs f)).bind (getP []) = _
      rw [show R.of (getF fs f) = .ok d from e2]
      rfl
    | _ => cases e2
  | .idx e :: r, q, d, d0, h => by
    obtain ⟨⟨q', d'⟩, e1, h⟩ := bind_inv (show (evP C T env r d0).bind (fun z => (evE C T env e).noex.bind fun x => match x with
      | .int k => (R.of (L2.ixN (lenD z.2) k)).bind fun j => (getP [.i j] z.2).bind fun d2 => R.ok (z.1 ++ [SV.i j], d2)
      | _ => R.bad) = .ok (q, d) from h)
    obtain ⟨x, e2, h⟩ := bind_inv h
    cases x with
    | int k =>
      obtain ⟨j, e3, h⟩ := bind_inv h
      obtain ⟨d2, e4, h⟩ := bind_inv h
      cases h
      rw [getP_app (evP_getP e1)]
      exact e4
    | _ => cases h
theorem updE_inv {env env3 : Env} {i : Nat} {q : List SV} {d0 d : D} {gg : D → R D} (hd : env[i]? = some (some d0)) (hq : getP q d0 = .ok d) (h : updE env i q gg = .ok env3) : ∃ d2, gg d = .ok d2 := by
  unfold updE at h
  obtain ⟨x, e1, h⟩ := bind_inv h
  have := getV_ok e1
  rw [hd] at this
  cases this
  obtain ⟨y, e2, h⟩ := bind_inv h
  exact updP_inv hq e2
theorem noex_keep {ow : Bool} {x : R D} (h : NoEx x) : NoEx (keep ow x) := .bind h fun d => by
  cases ow with
  | false => exact .ok _
  | true =>
    show NoEx (if noMut d then R.ok d else R.bad)
    exact .ite (.ok _) .bad
theorem keep_noex {ow : Bool} {x : R D} {d : D} (h : keep ow x.noex = .ok d) : keep ow x = .ok d := by
  obtain ⟨y, e1, e2⟩ := bind_inv h
  have := noex_inv e1
  unfold keep
  rw [this]
  exact e2
theorem Out.got {α : Type} {x : R α} {f : α → O} (n : NoEx x) (h : Out W E b F Dn gL og (x.to f)) : ∃ a, x = .ok a ∧ Out W E b F Dn gL og (f a) := by
  cases x with
  | ok a => exact ⟨a, rfl, h⟩
  | ex c fs => exact absurd rfl (n c fs)
  | bad => exact h.elim
/-- one argument to be kept -/
theorem valL1 {ow : Bool} {e : IE} {s : S} {d : D} {Q : List V → Hp → Prop} (hG : Good W g b env σ H Fp) (hv : okV ow g e.vars = true) (h : keep ow (evE C W.T env e) = .ok d)
    (hk : ∀ v H1 G, Ext H H1 → Fresh H H1 G → Ow W H1 (fun a => Nw (Shr b Fp) H a ∧ ¬ G a) s d v G → Q [v] H1) : denL W C E (.cons e .nil) (fun _ => s) σ H Q := by
  obtain ⟨d', e1, e2⟩ := bind_inv h
  cases ow with
  | false =>
    cases e2
    refine ⟨env, Shr b Fp, ?_, ?_⟩
    · have := hG.seesSh (W := W) (show shA g e.vars = true by simpa [okV] using hv)
      exact ⟨this.1, fun i hi => this.2 i (by simpa [IL.vars] using hi)⟩
    show Wp W E H ((evE C W.T env e).bind fun d => R.ok [d]) _
    rw [e1]
    intro vs H' FF e r
    obtain ⟨hl, hF, _, hO⟩ := r
    match vs, hl with
    | [v], _ => exact hk v H' (FF 0) e (hF 0) ((hO 0 d v rfl rfl).mono fun a z => ⟨z.1, z.2 0⟩)
  | true =>
    have e2 : (if noMut d' then R.ok d' else R.bad) = .ok d := e2
    split at e2
    · rename_i hn
      cases e2
      refine ⟨env, fun _ => True, ?_, ?_⟩
      · have := hG.sees (W := W) e.vars
        exact ⟨this.1, fun i hi => this.2 i (by simpa [IL.vars] using hi)⟩
      show Wp W E H ((evE C W.T env e).bind fun d => R.ok [d]) _
      rw [e1]
      intro vs H' FF e r
      obtain ⟨hl, hF, _, hO⟩ := r
      match vs, hl with
      | [v], _ => exact hk v H' (fun _ => False) e (fun _ z => z.elim) (.flat hn ((hO 0 d v rfl rfl).flatten hn))
    · cases e2
/-! ### a method's call on what is owned -/
theorem meth_ps (c : SCx W C k X F E) {base : Nat} {rs : List Sel} {o y : PySem.Expr} {n : Str} {id : String} {apos cpos pos : Pos} {r : V → List V → Hp → VK → Prop} {t : TA} (slot : Slot "list" n id) (hty : typeOf (.builtin id) = pure (.type "method_descriptor")) (hm : MtR X id r)
    (hP : chkP W.T F.N F.sc base rs o = true) (hb : noSup o = true) (hl : (apos.endLine == cpos.line) = true) (hy : noStar y = true) (ha : PA X [y] t) : PS X (.Expr (.Call (.Attribute o n apos) [y] [] cpos) pos) (tDrop (tBM X.K "list" r (tPr W C E base rs) t)) := by
  have hx : [y].all noStar = true := by simp [hy]
  have hfew : ((backTo cpos (starEach [y] X.env)).all (fun x => !x.1) && (backToKw cpos (keywordEach [] X.env)).all (fun x => x.1.isSome) && decide (([y] : List PySem.Expr).length + ([] : List Keyword).length + (if ([] : List Keyword).isEmpty then 0 else 1) < 30)) = true := by
    rw [star_all hx]
    rfl
  exact ps_expr (pe_bm PySem.F.plainAttrs_list slot hty hm (path_pe c.c rs hP) ha (sup_base hb _ _ _) hfew hl (star_cons hy _ _) (star_any (by rfl) _ _)) rfl
theorem meth_ps2 (c : SCx W C k X F E) {base : Nat} {rs : List Sel} {o y z : PySem.Expr} {n : Str} {id : String} {apos cpos pos : Pos} {r : V → List V → Hp → VK → Prop} {t : TA} (slot : Slot "list" n id) (hty : typeOf (.builtin id) = pure (.type "method_descriptor")) (hm : MtR X id r)
    (hP : chkP W.T F.N F.sc base rs o = true) (hb : noSup o = true) (hl : (apos.endLine == cpos.line) = true) (hy : noStar y = true) (hz : noStar z = true) (ha : PA X [y, z] t) : PS X (.Expr (.Call (.Attribute o n apos) [y, z] [] cpos) pos) (tDrop (tBM X.K "list" r (tPr W C E base rs) t)) := by
  have hx : [y, z].all noStar = true := by simp [hy, hz]
  have hfew : ((backTo cpos (starEach [y, z] X.env)).all (fun x => !x.1) && (backToKw cpos (keywordEach [] X.env)).all (fun x => x.1.isSome) && decide (([y, z] : List PySem.Expr).length + ([] : List Keyword).length + (if ([] : List Keyword).isEmpty then 0 else 1) < 30)) = true := by
    rw [star_all hx]
    rfl
  exact ps_expr (pe_bm PySem.F.plainAttrs_list slot hty hm (path_pe c.c rs hP) ha (sup_base hb _ _ _) hfew hl (star_cons hy _ _) (star_any (by simp [hz]) _ _)) rfl
theorem meth_ps0 (c : SCx W C k X F E) {base : Nat} {rs : List Sel} {o : PySem.Expr} {n : Str} {id : String} {apos cpos pos : Pos} {r : V → List V → Hp → VK → Prop} (slot : Slot "list" n id) (hty : typeOf (.builtin id) = pure (.type "method_descriptor")) (hm : MtR X id r)
    (hP : chkP W.T F.N F.sc base rs o = true) (hb : noSup o = true) (hl : (apos.endLine == cpos.line) = true) : PS X (.Expr (.Call (.Attribute o n apos) [] [] cpos) pos) (tDrop (tBM0 X.K "list" r (tPr W C E base rs))) :=
  ps_expr (pe_bm0 PySem.F.plainAttrs_list slot hty hm (path_pe c.c rs hP) (sup_base hb _ _ _) hl) rfl
/-- the place that is written -/
theorem place (c : SCx W C k X F E) (hG : Good W g b env σ H Fp) {base : Nat} {d0 : D} (hd : getV env base = .ok d0) {rs : List Sel} {q : List SV} {d : D} (hp : evP C W.T env rs d0 = .ok (q, d)) (hc : isCont d = true) {o : PySem.Expr} (hP : chkP W.T F.N F.sc base rs o = true) (hs : goS (gm g base) rs ≠ .sh) :
    ∃ v' F', (∀ (H1 : Hp) (Q : VK), Ext H H1 → (∀ H2, Ext H1 H2 → Q v' H2) → tPr W C E base rs σ H1 Q) ∧ Ow W H (There (Shr b Fp) H) (goS (gm g base) rs) d v' F' ∧ (∀ a, F' a → ¬ Shr b Fp a) ∧ (∀ a, F' a → ∃ o, H a = some o) ∧
      ∀ (H2 : Hp) (New : Addr → Prop) (a : Addr) (o : HO) (gg : D → R D) (d2 : D) (env3 : Env), Ext H H2 → Fresh H H2 New → F' a → ¬ isFix o → Ow W (upd H2 a o) (fun x => Nw (Shr b Fp) H x ∧ ¬ New x) (goS (gm g base) rs) d2 v' (fun x => F' x ∨ New x) → gg d = .ok d2 → updE env base q gg = .ok env3 →
        ∃ F3, Good W g b env3 σ (upd H2 a o) F3 := by
  obtain ⟨v', F', w1, w2, w3, w4⟩ := hG.mutate (C := C) (E := E) c.c.facts (getV_ok hd) hp hc (chkP_pfl rs hP) hs
  refine ⟨v', F', w1, w2, fun a z y => y.2 base (w3 a z), fun a z => ?_, fun H2 New a o gg d2 env3 e fr ha nf ow hg hu => ?_⟩
  · obtain ⟨_, o, e, _⟩ := hG.nw base a (w3 a z)
    exact ⟨o, e⟩
  · obtain ⟨env3', e3, F3, hG3⟩ := w4 H2 New a o gg d2 e fr ha nf ow hg
    rw [hu] at e3
    cases e3
    exact ⟨F3, hG3⟩
theorem tyL {K : PySem.W.Frag} {a : Addr} {vs : List V} {H : Hp} (h : H a = some (.lst vs)) : tyV K "list" (.ref a) H := .inl ⟨rfl, vs, .of h⟩
theorem noex_updP {gg : D → R D} (hg : ∀ d, NoEx (gg d)) : ∀ (q : List SV) (d : D), NoEx (updP gg q d)
  | [], d => hg d
  | .f n :: q, d => by
    cases d with
    | ins c fs => exact .bind (.of _) fun a => .bind (noex_updP hg q a) fun _ => .ok _
    | _ => exact .bad
  | .i j :: q, d => by
    cases d with
    | lst xs => exact .bind (.of _) fun a => .bind (noex_updP hg q a) fun _ => .ok _
    | tup xs => exact .bind (.of _) fun a => .bind (noex_updP hg q a) fun _ => .ok _
    | _ => exact .bad
theorem noex_updE {gg : D → R D} (hg : ∀ d, NoEx (gg d)) (env : Env) (i : Nat) (q : List SV) : NoEx (updE env i q gg) := .bind (noex_getV _ _) fun _ => .bind (noex_updP hg _ _) fun _ => .ok _
theorem noex_gApp (y d : D) : NoEx (gApp y d) := by
  unfold gApp
  (repeat' split) <;> first | exact .ok _ | exact .bad
theorem noex_gExt (y d : D) : NoEx (gExt y d) := by
  unfold gExt
  (repeat' split) <;> first | exact .ok _ | exact .bad
theorem noex_gIns (k y d : D) : NoEx (gIns k y d) := by
  unfold gIns
  (repeat' split) <;> first | exact .ok _ | exact .bad
theorem noex_gClr (d : D) : NoEx (gClr d) := by
  unfold gClr
  (repeat' split) <;> first | exact .ok _ | exact .bad
theorem noex_gRvs (d : D) : NoEx (gRvs d) := by
  unfold gRvs
  (repeat' split) <;> first | exact .ok _ | exact .bad
theorem noex_gSet (k y d : D) : NoEx (gSet k y d) := by
  unfold gSet
  (repeat' split) <;> first | exact .ok _ | exact .bad | exact .bind (.of _) fun _ => .ok _ | exact .bind (.of _) fun _ => .bad | exact .bind (.of _) fun _ => .ite (.ok _) .bad
theorem noex_gFld (f : Nat) (y d : D) : NoEx (gFld f y d) := by
  unfold gFld
  (repeat' split) <;> first | exact .ok _ | exact .bad
theorem fresh_up {H H1 H2 : Hp} {G : Addr → Prop} (e : Ext H H1) (f : Fresh H1 H2 G) : Fresh H H2 G := fun a z => ⟨e.free (f a z).1, (f a z).2⟩
theorem nw_up {P : Addr → Prop} {H H1 : Hp} (e : Ext H H1) {a : Addr} (z : Nw P H1 a) : Nw P H a := z.elim .inl fun q => .inr (e.free q)
theorem ss_app (c : SCx W C k X F E) {p : Pth} {e : IE} {ow : Bool} {o y : PySem.Expr} {apos cpos pos : Pos} {t : S} (hP : chkP W.T F.N F.sc p.base p.sels o = true) (hb : noSup o = true) (hl : (apos.endLine == cpos.line) = true) (hv : okV ow g e.vars = true) (hf : fits W.T e t = true) (he : chkE W.T F.N F.sc e y = true)
    (ht : goS (gm g p.base) p.sels = .lst t) : PS X (.Expr (.Call (.Attribute o "append" apos) [y] [] cpos) pos) (denS W E b F g gL (some g) (evS C W.T (.app p e ow))) := by
  refine PS.imp (meth_ps c PySem.F.slot_list_append PySem.F.type_list_append mt_append hP hb hl (chk_star he) (sl_cons (ss := fun _ => t) (chk_star he) ((sndE e c.c he).pe t hf) sl_nil)) fun Dn σ H ⟨env, Fp, hG, hO⟩ => ?_
  have hO : Out W E b F Dn gL (some g) ((getV env p.base).to fun d0 => (evP C W.T env p.sels d0).to fun z => (keep ow (evE C W.T env e).noex).to fun d => (updE env p.base z.1 (gApp d)).to .nx) := hO
  obtain ⟨d0, h1, hO⟩ := hO.got (noex_getV _ _)
  obtain ⟨⟨q, d⟩, h2, hO⟩ := hO.got (noex_evP _ _ _ _)
  obtain ⟨dy, h3, hO⟩ := hO.got (noex_keep (R.noex_noex _))
  obtain ⟨env3, h4, hE⟩ := hO.got (noex_updE (noex_gApp dy) _ _ _)
  have h3 := keep_noex h3
  obtain ⟨d2, h5⟩ := updE_inv (getV_ok h1) (evP_getP h2) h4
  cases d with
  | lst ds =>
    have h5 : (if ds.length < SZ then R.ok (D.lst (ds ++ [dy])) else R.bad) = .ok d2 := h5
    split at h5
    case isFalse => cases h5
    rename_i hz
    cases h5
    obtain ⟨v', F', w1, w2, w3, w4, w5⟩ := place c hG h1 h2 rfl hP (by rw [ht]; exact fun z => nomatch z)
    rw [ht] at w2 w5
    obtain ⟨a, vs, rfl, ha, hFa, hlen, wr⟩ := ow_put w3 w4 w2
    refine w1 H _ (Ext.refl H) fun H2 e2 => ⟨tyL (e2 _ _ ha), valL1 (hG.up e2) hv h3 fun v H3 G e3 f3 o3 => ?_⟩
    refine ⟨a, vs, v, rfl, rfl, e3 _ _ (e2 _ _ ha), by rw [← hlen, ← SZ_eq]; exact hz, ?_⟩
    obtain ⟨F3, hG3⟩ := w5 H3 G a (.lst (vs ++ [v])) (gApp dy) _ env3 (e2.trans e3) (fresh_up e2 f3) hFa (fun z => z) (wr H3 G v dy (e2.trans e3) (fresh_up e2 f3) (o3.mono fun x z => ⟨nw_up e2 z.1, z.2⟩)).1 (by
      show (if ds.length < SZ then R.ok (D.lst (ds ++ [dy])) else R.bad) = _
      rw [if_pos hz]) h4
    exact hE _ _ _ hG3
  | _ => cases h5
/-- a whole list of shared things is put at its end -/
theorem ss_ext (c : SCx W C k X F E) {p : Pth} {e : IE} {o y : PySem.Expr} {apos cpos pos : Pos} (hP : chkP W.T F.N F.sc p.base p.sels o = true) (hb : noSup o = true) (hl : (apos.endLine == cpos.line) = true) (hv : shA g e.vars = true) (he : chkE W.T F.N F.sc e y = true)
    (ht : goS (gm g p.base) p.sels = .lst .sh) : PS X (.Expr (.Call (.Attribute o "extend" apos) [y] [] cpos) pos) (denS W E b F g gL (some g) (evS C W.T (.ext p e))) := by
  refine PS.imp (meth_ps c PySem.F.slot_list_extend PySem.F.type_list_extend mt_extend hP hb hl (chk_star he) (sl_cons (ss := fun _ => .sh) (chk_star he) (sndE e c.c he).sh sl_nil)) fun Dn σ H ⟨env, Fp, hG, hO⟩ => ?_
  have hO : Out W E b F Dn gL (some g) ((getV env p.base).to fun d0 => (evP C W.T env p.sels d0).to fun z => (evE C W.T env e).noex.to fun d => (updE env p.base z.1 (gExt d)).to .nx) := hO
  obtain ⟨d0, h1, hO⟩ := hO.got (noex_getV _ _)
  obtain ⟨⟨q, d⟩, h2, hO⟩ := hO.got (noex_evP _ _ _ _)
  obtain ⟨dy, h3, hO⟩ := hO.got (R.noex_noex _)
  obtain ⟨env3, h4, hE⟩ := hO.got (noex_updE (noex_gExt dy) _ _ _)
  have h3 := noex_inv h3
  obtain ⟨d2, h5⟩ := updE_inv (getV_ok h1) (evP_getP h2) h4
  cases d with
  | lst ds =>
    cases dy with
    | lst es =>
      have h5 : (if ds.length + es.length ≤ SZ then R.ok (D.lst (ds ++ es)) else R.bad) = .ok d2 := h5
      split at h5
      case isFalse => cases h5
      rename_i hz
      cases h5
      obtain ⟨v', F', w1, w2, w3, w4, w5⟩ := place c hG h1 h2 rfl hP (by rw [ht]; exact fun z => nomatch z)
      rw [ht] at w2 w5
      obtain ⟨a, vs, rfl, ha, hFa, rr, wr⟩ := ow_shl w3 w2
      refine w1 H _ (Ext.refl H) fun H2 e2 => ⟨tyL (e2 _ _ ha), valL1 (ow := false) (hG.up e2) (by simpa [okV] using hv) (show keep false (evE C W.T env e) = .ok (.lst es) by unfold keep; rw [h3]; rfl) fun v H3 G e3 f3 o3 => ?_⟩
      cases o3.shd with
      | @lst bb us _ g1 g2 g3 g4 =>
        have e23 := e2.trans e3
        refine ⟨a, bb, vs, us, rfl, rfl, e23 _ _ ha, g1, by rw [← rr.1, ← g3, ← SZ_eq]; exact hz, ?_⟩
        have r1 : RpL W H3 (Nw (Shr b Fp) H) ds vs := ⟨rr.1, fun i d v ed ev => ((rr.2 i d v ed ev).ext e23).mono fun x z => .inl z.1⟩
        have r2 : RpL W H3 (Nw (Shr b Fp) H) es us := ⟨g3, fun i d v ed ev => (g4 i d v ed ev).mono fun x z => nw_up e2 z.1⟩
        obtain ⟨F3, hG3⟩ := w5 H3 (fun _ => False) a (.lst (vs ++ us)) (gExt (.lst es)) _ env3 e23 (fun _ z => z.elim) hFa (fun z => z) (wr H3 (ds ++ es) (vs ++ us) e23 (r1.append r2)) (by
          show (if ds.length + es.length ≤ SZ then R.ok (D.lst (ds ++ es)) else R.bad) = _
          rw [if_pos hz]) h4
        exact hE _ _ _ hG3
    | _ => cases h5
  | _ => cases h5
theorem ss_rvs (c : SCx W C k X F E) {p : Pth} {o : PySem.Expr} {apos cpos pos : Pos} (hP : chkP W.T F.N F.sc p.base p.sels o = true) (hb : noSup o = true) (hl : (apos.endLine == cpos.line) = true)
    (ht : goS (gm g p.base) p.sels = .lst .sh) : PS X (.Expr (.Call (.Attribute o "reverse" apos) [] [] cpos) pos) (denS W E b F g gL (some g) (evS C W.T (.rvs p))) := by
  refine PS.imp (meth_ps0 c PySem.F.slot_list_reverse PySem.F.type_list_reverse mt_reverse hP hb hl) fun Dn σ H ⟨env, Fp, hG, hO⟩ => ?_
  have hO : Out W E b F Dn gL (some g) ((getV env p.base).to fun d0 => (evP C W.T env p.sels d0).to fun z => (updE env p.base z.1 gRvs).to .nx) := hO
  obtain ⟨d0, h1, hO⟩ := hO.got (noex_getV _ _)
  obtain ⟨⟨q, d⟩, h2, hO⟩ := hO.got (noex_evP _ _ _ _)
  obtain ⟨env3, h4, hE⟩ := hO.got (noex_updE noex_gRvs _ _ _)
  obtain ⟨d2, h5⟩ := updE_inv (getV_ok h1) (evP_getP h2) h4
  cases d with
  | lst ds =>
    cases h5
    obtain ⟨v', F', w1, w2, w3, w4, w5⟩ := place c hG h1 h2 rfl hP (by rw [ht]; exact fun z => nomatch z)
    rw [ht] at w2 w5
    obtain ⟨a, vs, rfl, ha, hFa, rr, wr⟩ := ow_shl w3 w2
    refine w1 H _ (Ext.refl H) fun H2 e2 => ⟨tyL (e2 _ _ ha), a, vs, rfl, rfl, e2 _ _ ha, ?_⟩
    have r1 : RpL W H2 (Nw (Shr b Fp) H) ds vs := ⟨rr.1, fun i d v ed ev => ((rr.2 i d v ed ev).ext e2).mono fun x z => .inl z.1⟩
    obtain ⟨F3, hG3⟩ := w5 H2 (fun _ => False) a (.lst vs.reverse) gRvs _ env3 e2 (fun _ z => z.elim) hFa (fun z => z) (wr H2 ds.reverse vs.reverse e2 r1.rev) rfl h4
    exact hE _ _ _ hG3
  | _ => cases h5
theorem ss_clr (c : SCx W C k X F E) {p : Pth} {o : PySem.Expr} {apos cpos pos : Pos} {t : S} (hP : chkP W.T F.N F.sc p.base p.sels o = true) (hb : noSup o = true) (hl : (apos.endLine == cpos.line) = true)
    (ht : goS (gm g p.base) p.sels = .lst t) : PS X (.Expr (.Call (.Attribute o "clear" apos) [] [] cpos) pos) (denS W E b F g gL (some g) (evS C W.T (.clr p))) := by
  refine PS.imp (meth_ps0 c PySem.F.slot_list_clear PySem.F.type_list_clear mt_clear hP hb hl) fun Dn σ H ⟨env, Fp, hG, hO⟩ => ?_
  have hO : Out W E b F Dn gL (some g) ((getV env p.base).to fun d0 => (evP C W.T env p.sels d0).to fun z => (updE env p.base z.1 gClr).to .nx) := hO
  obtain ⟨d0, h1, hO⟩ := hO.got (noex_getV _ _)
  obtain ⟨⟨q, d⟩, h2, hO⟩ := hO.got (noex_evP _ _ _ _)
  obtain ⟨env3, h4, hE⟩ := hO.got (noex_updE noex_gClr _ _ _)
  obtain ⟨d2, h5⟩ := updE_inv (getV_ok h1) (evP_getP h2) h4
  cases d with
  | lst ds =>
    cases h5
    obtain ⟨v', F', w1, w2, w3, w4, w5⟩ := place c hG h1 h2 rfl hP (by rw [ht]; exact fun z => nomatch z)
    rw [ht] at w2 w5
    obtain ⟨a, vs, rfl, ha, hFa, wr⟩ := ow_nil w3 w2
    refine w1 H _ (Ext.refl H) fun H2 e2 => ⟨tyL (e2 _ _ ha), a, vs, rfl, rfl, e2 _ _ ha, ?_⟩
    obtain ⟨F3, hG3⟩ := w5 H2 (fun _ => False) a (.lst []) gClr _ env3 e2 (fun _ z => z.elim) hFa (fun z => z) (wr H2 e2) rfl h4
    exact hE _ _ _ hG3
  | dic tt kvs =>
    obtain ⟨v', F', w1, w2, w3, w4, w5⟩ := place c hG h1 h2 rfl hP (by rw [ht]; exact fun z => nomatch z)
    rw [ht] at w2
    cases w2 with
    | flat n _ => cases n
  | _ => cases h5
end
end G
end
section
set_option Elab.async false
set_option linter.all false
set_option maxRecDepth 100000
set_option maxHeartbeats 4000000
namespace G
open PySem PySem.Spec PyProof.Rows L2
/-! ### t += u of tuples -/
section
variable {prog : Program} {w : World} {A : Around} {E : Value → Shared → Prop} {s : Shared}
theorem tup_noiadd : typeLookup (.type "tuple") (dunderI "add") = pure none := by
  show typeLookup (.type "tuple") "__iadd__" = pure none
  rw [typeLookup_type, builtinLookup_eq_fast]
  kernel_rfl
theorem iadd_tups {l b : Addr} {vs ws : List Value} {Q : Value → Shared → Prop} (hl : IsTup s.heap l vs.toArray) (hb : IsTup s.heap b ws.toArray) (h0 : vs = [] → Q (.ref b) s) (h1 : vs ≠ [] → ws = [] → Q (.ref l) s)
    (h2 : vs ≠ [] → ws ≠ [] → Q (.ref s.heap.objs.size) { s with heap := s.heap.push { cls := .type "tuple", data := .seq (vs ++ ws).toArray } }) (hz : vs.length + ws.length ≤ sizeLine) : wpAny (model prog w) A (inplaceOp .Add (.ref l) (.ref b)) Q E s := by
  obtain ⟨⟨c1, d1, t1, s1⟩, g1, e1, n1, f1⟩ := id hl
  obtain ⟨⟨c2, d2, t2, s2⟩, g2, e2, n2, f2⟩ := id hb
  simp only at e1 f1 e2 f2
  subst e1 f1 e2 f2
  refine wpAny_inplaceOp_concat (id := "tuple.__add__") ⟨_, g1, rfl⟩ ⟨_, g2, rfl⟩ tup_noiadd noFill_tuple_add seq_tuple_add ?_
  by_cases hv : vs = []
  · subst hv
    exact call_meets PySem.F.slot_tuple_add ⟨_, g1, rfl⟩ PySem.F.entry_tuple_add (PySem.F.args_tuple_add_2 _ _) (tuple_addW0 l b ([] : List Value).toArray ws.toArray n1 n2 d1 d2 s1 s2 (by simp)) ⟨g1, g2, h0 rfl⟩
  · by_cases hw : ws = []
    · subst hw
      exact call_meets PySem.F.slot_tuple_add ⟨_, g1, rfl⟩ PySem.F.entry_tuple_add (PySem.F.args_tuple_add_2 _ _) (tuple_addW1 l b vs.toArray ([] : List Value).toArray n1 n2 d1 d2 s1 s2 (by simpa using hv) (by simp)) ⟨g1, g2, h1 hv rfl⟩
    · refine call_meets PySem.F.slot_tuple_add ⟨_, g1, rfl⟩ PySem.F.entry_tuple_add (PySem.F.args_tuple_add_2 _ _) (tuple_addW2 l b vs.toArray ws.toArray n1 n2 d1 d2 s1 s2 (by simpa using hv) (by simpa using hw) (by simpa using hz)) ⟨g1, g2, ?_⟩
      have := h2 hv hw
      simpa using this
end
section
variable {X : Cx}
theorem iop_catA : OpR X (inplaceOp .Add) (rCatA X.K) := by
  intro pins st σ H x y v u Q I rx ry h
  obtain ⟨a, b, xs, ys, rfl, rfl, ha, hb, hz, q0, q1, q2⟩ := h
  cases rx
  cases ry
  obtain ⟨is, r1, p1, _⟩ := I.tuple ha
  obtain ⟨js, r2, p2, _⟩ := I.tuple hb
  refine iadd_tups p1 p2 (fun z => ⟨.ref b, H, I, rfl, q0 (r1.nil_iff.mp z)⟩) (fun z1 z2 => ⟨.ref a, H, I, rfl, q1 (fun w => z1 (r1.nil_iff.mpr w)) (r2.nil_iff.mp z2)⟩) (fun z1 z2 => ?_) (by rw [← r1.length, ← r2.length]; exact hz)
  refine ⟨.ref st.heap.objs.size, _, I.laid (t' := st.toks) (o := .tup (xs ++ ys)) (fun _ _ q => Heap.get?_push_of_some _ q) (Nat.le_refl _) ?_, rfl, q2 (fun w => z1 (r1.nil_iff.mpr w)) (fun w => z2 (r2.nil_iff.mpr w)) _ (I.hok.fresh (Nat.le_refl _))⟩
  exact ⟨by rw [List.length_append]; exact hz, _, r1.append r2, IsTup.new _ _⟩
def ipU (t u : TIp) : TIp := fun x y H Q => t x y H Q ∨ u x y H Q
theorem ip_un {op : Operator} {t u : TIp} (h1 : PIp X op t) (h2 : PIp X op u) : PIp X op (ipU t u) := fun pins s σ H x y v w Q I r1 r2 h => h.elim (h1 pins s σ H x y v w Q I r1 r2) (h2 pins s σ H x y v w Q I r1 r2)
theorem ip_addU : PIp X .Add (ipU (ipI fun i j => i + j) (rCatA X.K)) := ip_un ip_add iop_catA
end
end G
end
section
set_option Elab.async false
set_option linter.all false
set_option maxRecDepth 100000
set_option maxHeartbeats 4000000
namespace G
open PySem PySem.Spec PyProof.Rows L2
section
variable {W : Wd} {C : Calls} {E : XK} {k : Nat} {X : Cx} {b : Bs} {F : Fc} {g : List S} {env : Env} {σ : L2.St} {H H1 : Hp} {Fp : Fps} {Dn : Ends} {gL og : Gam}
theorem valL2 {ow : Bool} {i e : IE} {kk : Int} {d : D} {Q : List V → Hp → Prop} (hG : Good W g b env σ H Fp) (hv : okV ow g (i.vars ++ e.vars) = true) (hi : evE C W.T env i = .ok (.int kk)) (h : keep ow (evE C W.T env e) = .ok d)
    (hk : ∀ v H1, Ext H H1 → Rp W H1 (Nw (Shr b Fp) H) d v → Q [.int kk, v] H1) : denL W C E (.cons i (.cons e .nil)) (fun _ => .sh) σ H Q := by
  obtain ⟨d', e1, e2⟩ := bind_inv h
  have run : evL C W.T env (.cons i (.cons e .nil)) = .ok [.int kk, d'] := by
    show (evE C W.T env i).bind (fun x => ((evE C W.T env e).bind fun y => R.ok [y]).bind fun r => R.ok (x :: r)) = _
    rw [hi, e1]
    rfl
  cases ow with
  | false =>
    cases e2
    refine ⟨env, Shr b Fp, ?_, ?_⟩
    · have := hG.seesSh (W := W) (show shA g (i.vars ++ e.vars) = true by simpa [okV] using hv)
      exact ⟨this.1, fun j hj => this.2 j (by simpa [IL.vars] using hj)⟩
    rw [run]
    intro vs H' FF e r
    obtain ⟨v, u, rfl, r1, r2⟩ := (r.shL fun _ => rfl).two
    cases r1
    exact hk u H' e r2
  | true =>
    have e2 : (if noMut d' then R.ok d' else R.bad) = .ok d := e2
    split at e2
    · rename_i hn
      cases e2
      refine ⟨env, fun _ => True, ?_, ?_⟩
      · have := hG.sees (W := W) (i.vars ++ e.vars)
        exact ⟨this.1, fun j hj => this.2 j (by simpa [IL.vars] using hj)⟩
      rw [run]
      intro vs H' FF e r
      obtain ⟨v, u, rfl, r1, r2⟩ := (r.shL fun _ => rfl).two
      cases r1
      exact hk u H' e (r2.flat hn)
    · cases e2
theorem ss_insr (c : SCx W C k X F E) {p : Pth} {i e : IE} {ow : Bool} {o y z : PySem.Expr} {apos cpos pos : Pos} (hP : chkP W.T F.N F.sc p.base p.sels o = true) (hb : noSup o = true) (hl : (apos.endLine == cpos.line) = true) (hv : okV ow g (i.vars ++ e.vars) = true) (hi : chkE W.T F.N F.sc i y = true) (he : chkE W.T F.N F.sc e z = true)
    (ht : goS (gm g p.base) p.sels = .lst .sh) : PS X (.Expr (.Call (.Attribute o "insert" apos) [y, z] [] cpos) pos) (denS W E b F g gL (some g) (evS C W.T (.insr p i e ow))) := by
  refine PS.imp (meth_ps2 c PySem.F.slot_list_insert PySem.F.type_list_insert mt_insert hP hb hl (chk_star hi) (chk_star he) (sl_cons (ss := fun _ => .sh) (chk_star hi) (sndE i c.c hi).sh (sl_cons (chk_star he) (sndE e c.c he).sh sl_nil))) fun Dn σ H ⟨env, Fp, hG, hO⟩ => ?_
  have hO : Out W E b F Dn gL (some g) ((getV env p.base).to fun d0 => (evP C W.T env p.sels d0).to fun z => (evE C W.T env i).noex.to fun kk => (keep ow (evE C W.T env e).noex).to fun d => (updE env p.base z.1 (gIns kk d)).to .nx) := hO
  obtain ⟨d0, h1, hO⟩ := hO.got (noex_getV _ _)
  obtain ⟨⟨q, d⟩, h2, hO⟩ := hO.got (noex_evP _ _ _ _)
  obtain ⟨dk, h6, hO⟩ := hO.got (R.noex_noex _)
  obtain ⟨dy, h3, hO⟩ := hO.got (noex_keep (R.noex_noex _))
  obtain ⟨env3, h4, hE⟩ := hO.got (noex_updE (noex_gIns dk dy) _ _ _)
  have h3 := keep_noex h3
  have h6 := noex_inv h6
  obtain ⟨d2, h5⟩ := updE_inv (getV_ok h1) (evP_getP h2) h4
  cases d with
  | lst ds =>
    cases dk with
    | int kk =>
      have h5 : (if 0 ≤ kk ∧ kk < 2 ^ 63 ∧ ds.length < SZ then R.ok (D.lst (insAt ds kk dy)) else R.bad) = .ok d2 := h5
      split at h5
      case isFalse => cases h5
      rename_i hz
      cases h5
      obtain ⟨v', F', w1, w2, w3, w4, w5⟩ := place c hG h1 h2 rfl hP (by rw [ht]; exact fun z => nomatch z)
      rw [ht] at w2 w5
      obtain ⟨a, vs, rfl, ha, hFa, rr, wr⟩ := ow_shl w3 w2
      refine w1 H _ (Ext.refl H) fun H2 e2 => ⟨tyL (e2 _ _ ha), valL2 (hG.up e2) hv h6 h3 fun v H3 e3 r3 => ?_⟩
      have e23 := e2.trans e3
      refine ⟨a, vs, kk, v, rfl, rfl, e23 _ _ ha, by rw [← rr.1, ← SZ_eq]; exact hz.2.2, hz.1, hz.2.1, ?_⟩
      have r1 : RpL W H3 (Nw (Shr b Fp) H) ds vs := ⟨rr.1, fun i d v ed ev => ((rr.2 i d v ed ev).ext e23).mono fun x z => .inl z.1⟩
      have r2 : RpL W H3 (Nw (Shr b Fp) H) (insAt ds kk dy) (vs.take kk.toNat ++ [v] ++ vs.drop kk.toNat) := ((r1.take kk.toNat).append (.cons (r3.mono fun x z => nw_up e2 z) .nil)).append (r1.drop kk.toNat)
      obtain ⟨F3, hG3⟩ := w5 H3 (fun _ => False) a (.lst (vs.take kk.toNat ++ [v] ++ vs.drop kk.toNat)) (gIns (.int kk) dy) _ env3 e23 (fun _ z => z.elim) hFa (fun z => z) (wr H3 _ _ e23 r2) (by
        show (if 0 ≤ kk ∧ kk < 2 ^ 63 ∧ ds.length < SZ then R.ok (D.lst (insAt ds kk dy)) else R.bad) = _
        rw [if_pos hz]) h4
      exact hE _ _ _ hG3
    | _ => cases h5
  | _ => cases h5
/-! ### a thing's place, a key's, a field's -/
theorem ss_stiL (c : SCx W C k X F E) {p : Pth} {i e : IE} {ow : Bool} {o y v : PySem.Expr} {p' pos : Pos} {t : S} (hP : chkP W.T F.N F.sc p.base p.sels o = true) (hv : okV ow g e.vars = true) (hi : chkE W.T F.N F.sc i y = true) (he : chkE W.T F.N F.sc e v = true) (hf : fits W.T e t = true)
    (ht : goS (gm g p.base) p.sels = .lst t) : PS X (.Assign [.Subscript o y p'] v pos) (denS W E b F g gL (some g) (evS C W.T (.sti p i e ow))) := by
  have hsw : swapsWithSole [.Subscript o y p'] v pos.line X.env = pure false := swaps_sub v o y p' pos.line X.env
  refine PS.imp (ps_asg ((sndE e c.c he).pe t hf) (pg_sub (path_pe c.c p.sels hP) (sndE i c.c hi).sh set_list (fun v => by
    have hsl := chk_sl hi
    cases y <;> first
      | rfl
      | cases hsl)) hsw (by cases v <;> rfl) rfl) fun Dn σ H ⟨env, Fp, hG, hO⟩ => ?_
  have hO : Out W E b F Dn gL (some g) ((keep ow (evE C W.T env e).noex).to fun d => (getV env p.base).to fun d0 => (evP C W.T env p.sels d0).to fun z => (evE C W.T env i).noex.to fun kk => (updE env p.base z.1 (gSet kk d)).to .nx) := hO
  obtain ⟨dy, h3, hO⟩ := hO.got (noex_keep (R.noex_noex _))
  obtain ⟨d0, h1, hO⟩ := hO.got (noex_getV _ _)
  obtain ⟨⟨q, d⟩, h2, hO⟩ := hO.got (noex_evP _ _ _ _)
  obtain ⟨dk, h6, hO⟩ := hO.got (R.noex_noex _)
  obtain ⟨env3, h4, hE⟩ := hO.got (noex_updE (noex_gSet dk dy) _ _ _)
  have h3 := keep_noex h3
  have h6 := noex_inv h6
  obtain ⟨d2, h5⟩ := updE_inv (getV_ok h1) (evP_getP h2) h4
  cases d with
  | lst ds =>
    cases dk with
    | int kk =>
      obtain ⟨j, e5, e6⟩ := bind_inv (show (R.of (L2.ixN ds.length kk)).bind (fun j => R.ok (D.lst (ds.set j dy))) = .ok d2 from h5)
      cases e6
      obtain ⟨v', F', w1, w2, w3, w4, w5⟩ := place c hG h1 h2 rfl hP (by rw [ht]; exact fun z => nomatch z)
      rw [ht] at w2 w5
      obtain ⟨a, vs, rfl, ha, hFa, hlen, wr⟩ := ow_put w3 w4 w2
      have hx : Wp W E H (keep ow (evE C W.T env e)) fun d => d = dy := by rw [h3]; rfl
      refine val_den hG hv hx fun d hd v H1 G e1 f1 o1 => ?_
      subst hd
      refine w1 H1 _ e1 fun H2 e2 => ?_
      refine ⟨env, fun _ => True, (hG.sees _).upT (e1.trans e2), ?_⟩
      rw [h6]
      intro ky H3 Gk e3 fk ok
      cases ok.shd
      have e23 := (e1.trans e2).trans e3
      have hj := R.of_ok e5
      have hjl : j < ds.length := by
        unfold L2.ixN at hj
        (repeat' split at hj) <;> cases hj <;> omega
      refine ⟨a, vs, kk, j, rfl, rfl, e23 _ _ ha, by rw [← hlen]; exact hj, ?_⟩
      obtain ⟨F3, hG3⟩ := w5 H3 G a (.lst (vs.set j v)) (gSet (.int kk) d) _ env3 e23 (fun x z => ⟨(f1 x z).1, let ⟨u, q1, q2⟩ := (f1 x z).2; ⟨u, (e2.trans e3) _ _ q1, q2⟩⟩) hFa (fun z => z) ((wr H3 G v d e23 (fun x z => ⟨(f1 x z).1, let ⟨u, q1, q2⟩ := (f1 x z).2; ⟨u, (e2.trans e3) _ _ q1, q2⟩⟩) (o1.keep (e2.trans e3).kp (fun _ z => z) fun x u _ q => (e2.trans e3) x u q)).2 j hjl) (by
        show (R.of (L2.ixN ds.length kk)).bind (fun j => R.ok (D.lst (ds.set j d))) = _
        rw [e5]
        rfl) h4
      exact hE _ _ _ hG3
    | _ => cases h5
  | dic tt kvs =>
    obtain ⟨v', F', w1, w2, w3, w4, w5⟩ := place c hG h1 h2 rfl hP (by rw [ht]; exact fun z => nomatch z)
    rw [ht] at w2
    cases w2 with
    | flat n _ => cases n
  | _ => cases h5
theorem ss_stiD (c : SCx W C k X F E) {p : Pth} {i e : IE} {ow : Bool} {o y v : PySem.Expr} {p' pos : Pos} (hP : chkP W.T F.N F.sc p.base p.sels o = true) (hv : okV ow g e.vars = true) (hi : chkE W.T F.N F.sc i y = true) (he : chkE W.T F.N F.sc e v = true)
    (ht : goS (gm g p.base) p.sels = .dic) : PS X (.Assign [.Subscript o y p'] v pos) (denS W E b F g gL (some g) (evS C W.T (.sti p i e ow))) := by
  refine PS.imp (ps_dput (by have := c.c.hu; omega) (path_pe c.c p.sels hP) (sndE i c.c hi).sh (sndE e c.c he).sh (swaps_sub v o y p' pos.line X.env)) fun Dn σ H ⟨env, Fp, hG, hO⟩ => ?_
  have hO : Out W E b F Dn gL (some g) ((keep ow (evE C W.T env e).noex).to fun d => (getV env p.base).to fun d0 => (evP C W.T env p.sels d0).to fun z => (evE C W.T env i).noex.to fun kk => (updE env p.base z.1 (gSet kk d)).to .nx) := hO
  obtain ⟨dy, h3, hO⟩ := hO.got (noex_keep (R.noex_noex _))
  obtain ⟨d0, h1, hO⟩ := hO.got (noex_getV _ _)
  obtain ⟨⟨q, d⟩, h2, hO⟩ := hO.got (noex_evP _ _ _ _)
  obtain ⟨dk, h6, hO⟩ := hO.got (R.noex_noex _)
  obtain ⟨env3, h4, hE⟩ := hO.got (noex_updE (noex_gSet dk dy) _ _ _)
  have h3 := keep_noex h3
  have h6 := noex_inv h6
  obtain ⟨d2, h5⟩ := updE_inv (getV_ok h1) (evP_getP h2) h4
  have hx : Wp W E H (keep ow (evE C W.T env e)) fun d => d = dy := by rw [h3]; rfl
  cases d with
  | dic tt ds =>
    obtain ⟨key, e5, e6⟩ := bind_inv (show (R.of (toK tt dk)).bind (fun k => if ds.length < SZ then R.ok (D.dic tt (putK ds k dy)) else R.bad) = .ok d2 from h5)
    split at e6
    case isFalse => cases e6
    rename_i hz
    cases e6
    have hkey := R.of_ok e5
    have hgs : gSet dk dy (.dic tt ds) = .ok (.dic tt (putK ds key dy)) := by
      show (R.of (toK tt dk)).bind (fun k => if ds.length < SZ then R.ok (D.dic tt (putK ds k dy)) else R.bad) = _
      rw [e5, bind_ok, if_pos hz]
    obtain ⟨v', F', w1, w2, w3, w4, w5⟩ := place c hG h1 h2 rfl hP (by rw [ht]; exact fun z => nomatch z)
    rw [ht] at w2 w5
    obtain ⟨a, rfl, hFa, hdic⟩ := ow_dic w3 w2
    refine val_den hG hv hx fun d hd v H1 G e1 f1 o1 => ?_
    subst hd
    refine w1 H1 _ e1 fun H2 e2 => ?_
    refine ⟨env, fun _ => True, (hG.sees _).upT (e1.trans e2), ?_⟩
    rw [h6]
    intro ky H3 Gk e3 fk ok
    have rk := ok.shd
    have e23 := (e1.trans e2).trans e3
    have rv : Rp W H3 (Nw (Shr b Fp) H) d v := (o1.shd.ext (e2.trans e3)).mono fun x z => z.1
    rcases hdic with ⟨rfl, kvs, ha, pr, wr⟩ | ⟨rfl, kvs, ha, pr, wr⟩
    · obtain ⟨kq, kr, rfl⟩ := toK_flat hkey rk
      have pr3 : PairR KeyK (Rp W H3 (Nw (Shr b Fp) H)) ds kvs := ⟨pr.1, pr.2.1, fun i d v ed ev => ((pr.2.2 i d v ed ev).ext e23).mono fun x z => .inl z.1⟩
      refine ⟨a, _, rfl, .k (e23 _ _ ha) (by rw [← pr.1, ← SZ_eq]; exact hz), ?_⟩
      obtain ⟨F3, hG3⟩ := w5 H3 (fun _ => False) a (.dK (L2.putK kvs kq v)) (gSet dk d) _ env3 e23 (fun _ z => z.elim) hFa (fun z => z) (wr H3 _ _ e23 (pr3.put injK kr rv)) hgs h4
      exact hE _ _ _ hG3
    · obtain ⟨kq, bb, kr, rfl, hbb⟩ := toK_tup hkey rk
      have pr3 : PairR KeyT (Rp W H3 (Nw (Shr b Fp) H)) ds kvs := ⟨pr.1, pr.2.1, fun i d v ed ev => ((pr.2.2 i d v ed ev).ext e23).mono fun x z => .inl z.1⟩
      refine ⟨a, _, rfl, .t (e23 _ _ ha) hbb (by rw [← pr.1, ← SZ_eq]; exact hz), ?_⟩
      obtain ⟨F3, hG3⟩ := w5 H3 (fun _ => False) a (.dT (L2.putK kvs kq v)) (gSet dk d) _ env3 e23 (fun _ z => z.elim) hFa (fun z => z) (wr H3 _ _ e23 (pr3.put injT kr rv)) hgs h4
      exact hE _ _ _ hG3
  | lst ds =>
    obtain ⟨v', F', w1, w2, w3, w4, w5⟩ := place c hG h1 h2 rfl hP (by rw [ht]; exact fun z => nomatch z)
    rw [ht] at w2
    cases w2 with
    | flat n _ => cases n
  | _ => cases h5
theorem ss_stf (c : SCx W C k X F E) {p : Pth} {f : Nat} {e : IE} {ow : Bool} {o v : PySem.Expr} {p' pos : Pos} (hP : chkP W.T F.N F.sc p.base p.sels o = true) (hv : okV ow g e.vars = true) (hfl : f < W.T.nfl) (he : chkE W.T F.N F.sc e v = true)
    (hs : isOb (goS (gm g p.base) p.sels) = true) (hf : fits W.T e ((goS (gm g p.base) p.sels).fld f) = true) : PS X (.Assign [.Attribute o (W.T.fname f) p'] v pos) (denS W E b F g gL (some g) (evS C W.T (.stf p f e ow))) := by
  refine PS.imp (ps_fld (path_pe c.c p.sels hP) ((sndE e c.c he).pe _ hf) (swaps_fld v o _ p' pos.line X.env)) fun Dn σ H ⟨env, Fp, hG, hO⟩ => ?_
  have hO : Out W E b F Dn gL (some g) ((keep ow (evE C W.T env e).noex).to fun d => (getV env p.base).to fun d0 => (evP C W.T env p.sels d0).to fun z => (updE env p.base z.1 (gFld f d)).to .nx) := hO
  obtain ⟨dy, h3, hO⟩ := hO.got (noex_keep (R.noex_noex _))
  obtain ⟨d0, h1, hO⟩ := hO.got (noex_getV _ _)
  obtain ⟨⟨q, d⟩, h2, hO⟩ := hO.got (noex_evP _ _ _ _)
  obtain ⟨env3, h4, hE⟩ := hO.got (noex_updE (noex_gFld f dy) _ _ _)
  have h3 := keep_noex h3
  obtain ⟨d2, h5⟩ := updE_inv (getV_ok h1) (evP_getP h2) h4
  have hx : Wp W E H (keep ow (evE C W.T env e)) fun d => d = dy := by rw [h3]; rfl
  cases d with
  | ins cl ds =>
    have h5 : (if ds.length < 1000 then R.ok (D.ins cl (putF f dy ds)) else R.bad) = .ok d2 := h5
    split at h5
    case isFalse => cases h5
    rename_i hz
    cases h5
    obtain ⟨v', F', w1, w2, w3, w4, w5⟩ := place c hG h1 h2 rfl hP (fun z => by rw [z] at hs; cases hs)
    obtain ⟨a, dx, fs, rfl, ha, hFa, hlen, wr⟩ := ow_fld c.c.facts.finj (n := f) hs w3 w4 w2
    refine val_den hG hv hx fun d hd v H1 G e1 f1 o1 => ?_
    subst hd
    refine w1 H1 _ e1 fun H2 e2 => ?_
    have e12 := e1.trans e2
    have fr : Fresh H H2 G := fun x z => ⟨(f1 x z).1, let ⟨u, q1, q2⟩ := (f1 x z).2; ⟨u, e2 _ _ q1, q2⟩⟩
    refine ⟨a, W.cadr cl, dx, fs, rfl, e12 _ _ ha, by rw [c.c.K]; exact c.c.facts.cls cl, by rw [c.c.K]; exact c.c.facts.nat cl f hfl, by rw [← hlen]; exact hz, ?_⟩
    obtain ⟨F3, hG3⟩ := w5 H2 G a (.ins (W.cadr cl) dx (L2.putF (W.T.fname f) v fs)) (gFld f d) _ env3 e12 fr hFa (fun z => z) (wr H2 G v d e12 fr (o1.keep e2.kp (fun _ z => z) fun x u _ q => e2 x u q)) (by
      show (if ds.length < 1000 then R.ok (D.ins cl (putF f d ds)) else R.bad) = _
      rw [if_pos hz]) h4
    exact hE _ _ _ hG3
  | _ => cases h5
/-! ### x += n -/
theorem ss_aug (c : SCx W C k X F E) {i : Nat} {op : BO} {e : IE} {x : Str} {v : PySem.Expr} {p' pos : Pos} (hm : b.m = F.mu.isSome) (hi : isMu F i = false) (hl : i < g.length) (hx : tgN F.N F.sc i (.Name x p') = true) (hs : gm g i = .sh) (ho : op = .add ∨ op = .sub) (he : chkE W.T F.N F.sc e v = true) :
    PS X (.AugAssign (.Name x p') (boE op) v pos) (denS W E b F g gL (some g) (evS C W.T (.aug i op e))) := by
  obtain ⟨x', p2, e1, h1, h2⟩ := tgN_inv hx
  cases e1
  have lc : L2.Loc X.env.scope x ∧ (X.fn x = true ∨ X.env.scope.names.lookup x = some .local) := h2.elim (fun h => ⟨.inl (c.t.loc x h), .inr (c.t.loc x h)⟩) fun h => ⟨.inr (c.t.cel x h).1, .inl (c.t.cel x h).2⟩
  have gs : g.set i .sh = g := by
    refine List.ext_getElem? fun j => ?_
    by_cases hj : i = j
    · subst hj
      rw [List.getElem?_set_self hl]
      unfold gm at hs
      rw [List.getD_eq_getElem?_getD] at hs
      have : g[i]? = some g[i] := by simp [hl]
      rw [this] at hs ⊢
      simpa using hs.symm
    · rw [List.getElem?_set_ne hj]
  have go : ∀ (f : Int → Int → Int), op = .sub → PIp X (boE op) (ipI f) → (∀ (env : Env) (a b : Int), augR op i env a b = O.nx (env.set i (some (D.int (f a b))))) → PS X (.AugAssign (.Name x p') (boE op) v pos) (denS W E b F g gL (some g) (evS C W.T (.aug i op e))) := fun f hsub hp hf => by
    subst hsub
    refine PS.imp (ps_aug (i := i) (by rw [c.c.n]; exact c.c.nd) (by rw [c.c.n]; exact h1) lc.1 (sndE e c.c he).sh hp lc.2) fun Dn σ H ⟨env, Fp, hG, hO⟩ => ?_
    have hO : Out W E b F Dn gL (some g) ((getV env i).to fun x => (evE C W.T env e).to fun y => match x, y with
      | .int a, .int b => augR .sub i env a b
      | .tup a, .tup b => augT .sub i env a b
      | _, _ => .bad) := hO
    obtain ⟨d0, q1, hO⟩ := hO.got (noex_getV _ _)
    obtain ⟨v0, q2, q3⟩ := hG.sl i d0 (getV_ok q1)
    refine ⟨v0, q2, den_sh (hG.sees _) (hO.wp hG) fun d hd u H1 e1 r1 => ?_⟩
    have r0 := q3.any
    cases r0 with
    | int a =>
      cases r1 with
      | int bb =>
        have hd : Out W E b F Dn gL (some g) (augR .sub i env a bb) := hd
        rw [hf env a bb] at hd
        have := (hG.up e1).putFlat (Ext.refl _) (s := .sh) (d := .int (f a bb)) (v := .int (f a bb)) (notMu hm hi) rfl (.int _) hl
        rw [gs] at this
        exact ⟨a, bb, rfl, rfl, hd _ _ _ this⟩
      | _ => exact hd.elim
    | tup _ _ _ => cases r1 <;> exact (show False from hd).elim
    | _ => exact hd.elim
  have go2 : PS X (.AugAssign (.Name x p') (boE .add) v pos) (denS W E b F g gL (some g) (evS C W.T (.aug i .add e))) := by
    refine PS.imp (ps_aug (i := i) (by rw [c.c.n]; exact c.c.nd) (by rw [c.c.n]; exact h1) lc.1 (sndE e c.c he).sh ip_addU lc.2) fun Dn σ H ⟨env, Fp, hG, hO⟩ => ?_
    have hO : Out W E b F Dn gL (some g) ((getV env i).to fun x => (evE C W.T env e).to fun y => match x, y with
      | .int a, .int b => augR .add i env a b
      | .tup a, .tup b => augT .add i env a b
      | _, _ => .bad) := hO
    obtain ⟨d0, q1, hO⟩ := hO.got (noex_getV _ _)
    obtain ⟨v0, q2, q3⟩ := hG.sl i d0 (getV_ok q1)
    refine ⟨v0, q2, den_sh (hG.sees _) (hO.wp hG) fun d hd u H1 e1 r1 => ?_⟩
    have r0 := q3.any
    cases r0 with
    | int a =>
      cases r1 with
      | int bb =>
        have hd : Out W E b F Dn gL (some g) (augR .add i env a bb) := hd
        have := (hG.up e1).putFlat (Ext.refl _) (s := .sh) (d := .int (a + bb)) (v := .int (a + bb)) (notMu hm hi) rfl (.int _) hl
        rw [gs] at this
        exact .inl ⟨a, bb, rfl, rfl, hd _ _ _ this⟩
      | _ => exact hd.elim
    | @tup a1 vs ds k1 k3 k4 =>
      cases r1 with
      | @tup b1 us es g1 g3 g4 =>
        have hd : Out W E b F Dn gL (some g) ((addD (.tup ds) (.tup es)).to fun d => .nx (env.set i (some d))) := hd
        simp only [addD] at hd
        split at hd
        · exact hd.elim
        · rename_i hn
          split at hd
          · rename_i hz
            have n2 : (noMuts ds && noMuts es) = true := by
              cases hq : (noMuts ds && noMuts es) with
              | true => rfl
              | false => rw [hq] at hn; exact absurd rfl hn
            obtain ⟨m2, m3⟩ : noMuts ds = true ∧ noMuts es = true := Bool.and_eq_true_iff.mp n2
            have hd : Out W E b F Dn gL (some g) (.nx (env.set i (some (.tup (ds ++ es))))) := hd
            have rA : RpL W H1 (fun _ => True) ds vs := ⟨k3, fun n dd vv z1 z2 => ((k4 n dd vv z1 z2).ext e1).mono fun _ _ => trivial⟩
            have rB : RpL W H1 (fun _ => True) es us := ⟨g3, fun n dd vv z1 z2 => (g4 n dd vv z1 z2).mono fun _ _ => trivial⟩
            refine .inr ⟨a1, b1, vs, us, rfl, rfl, .of (e1 _ _ k1), .of g1, by rw [← k3, ← g3, ← SZ_eq]; exact hz, fun z => ?_, fun _ z => ?_, fun _ _ p hp => ?_⟩
            · have ee : ds = [] := by rw [z] at k3; exact List.length_eq_zero_iff.mp k3
              subst ee
              have := (hG.up e1).putFlat (Ext.refl _) (s := .sh) (d := .tup ([] ++ es)) (v := .ref b1) (notMu hm hi) (by rw [List.nil_append]; exact m3) (by rw [List.nil_append]; exact .tup g1 rB.1 rB.2) hl
              rw [gs] at this
              exact hd _ _ _ this
            · have ee : es = [] := by rw [z] at g3; exact List.length_eq_zero_iff.mp g3
              subst ee
              have := (hG.up e1).putFlat (Ext.refl _) (s := .sh) (d := .tup (ds ++ [])) (v := .ref a1) (notMu hm hi) (by rw [List.append_nil]; exact m2) (by rw [List.append_nil]; exact .tup (e1 _ _ k1) rA.1 rA.2) hl
              rw [gs] at this
              exact hd _ _ _ this
            · have e2 : Ext H1 (upd H1 p (.tup (vs ++ us))) := Ext.new hp
              have rC := (rA.append rB).ext e2
              have := ((hG.up e1).up e2).putFlat (Ext.refl _) (s := .sh) (d := .tup (ds ++ es)) (v := .ref p) (notMu hm hi) (noMuts_app _ _ m2 m3) (.tup upd_same rC.1 rC.2) hl
              rw [gs] at this
              exact hd _ _ _ this
          · exact hd.elim
      | _ => exact hd.elim
    | _ => exact hd.elim
  rcases ho with rfl | rfl
  · exact go2
  · exact go (fun i j => i - j) rfl ip_sub fun _ _ _ => rfl
end
end G
end
section
set_option Elab.async false
set_option linter.all false
set_option maxRecDepth 100000
set_option maxHeartbeats 4000000
namespace G
open PySem PySem.Spec PyProof.Rows L2
section
variable {W : Wd} {C : Calls} {E : XK} {k : Nat} {X : Cx} {b : Bs} {F : Fc} {g : List S} {env : Env} {σ : L2.St} {H H1 : Hp} {Fp : Fps} {Dn : Ends} {gL og : Gam}
/-- what an owned slot holds is written by a def -/
theorem Good.write2 (h : Good W g b env σ H Fp) {i : Nat} {d d3 : D} {v : V} {G' : Addr → Prop} (hd : env[i]? = some (some d)) (hv : σ[i]? = some (some v)) (e : ∀ a o, ¬ Fp i a → H a = some o → H1 a = some o) (hk : ∀ a o, H a = some o → ∃ o', H1 a = some o')
    (hG : ∀ a, G' a → (Fp i a ∨ H a = none) ∧ ∃ o, H1 a = some o ∧ ¬ isFix o) (ho : Ow W H1 (fun a => Nw (Shr b Fp) H a ∧ ¬ G' a) (gm g i) d3 v G') : Good W g b (env.set i (some d3)) σ H1 (setF Fp i G') := by
  have ap : ∀ j a, j ≠ i → G' a → ¬ Fp j a := fun j a hj z w => by
    rcases (hG a z).1 with q | q
    · exact hj (h.dj j i a w q)
    · obtain ⟨_, o, e', _⟩ := h.nw j a w
      rw [q] at e'
      cases e'
  have hlt : i < env.length := (List.getElem?_eq_some_iff.mp hd).1
  refine ⟨fun a o n q => ?_, fun a o q => ?_, fun j l a z z' => ?_, fun j a z => ?_, h.pg, by simp [h.len], fun j d' ed => ?_, h.mu, h.pm, fun a o q n => ?_, fun j a z => ?_, fun a o q => ?_⟩
  · refine e a o (fun z => ?_) (h.ext a o n q)
    rcases (h.nw i a z).1 with ⟨_, z⟩ | z
    · exact n z
    · rw [q] at z; cases z
  · obtain ⟨o', q'⟩ := h.al a o q
    exact hk a o' q'
  · by_cases hj : j = i <;> by_cases hl : l = i
    · rw [hj, hl]
    · rw [hj, setF_same] at z
      rw [setF_ne hl] at z'
      exact (ap l a hl z z').elim
    · rw [hl, setF_same] at z'
      rw [setF_ne hj] at z
      exact (ap j a hj z' z).elim
    · rw [setF_ne hj] at z
      rw [setF_ne hl] at z'
      exact h.dj j l a z z'
  · by_cases hj : j = i
    · subst hj
      rw [setF_same] at z
      refine ⟨?_, (hG a z).2⟩
      rcases (hG a z).1 with q | q
      · exact (h.nw j a q).1
      · exact .inr (h.h0 q)
    · rw [setF_ne hj] at z
      obtain ⟨z1, o, z2, z3⟩ := h.nw j a z
      exact ⟨z1, o, e a o (fun w => hj (h.dj j i a z w)) z2, z3⟩
  · by_cases hj : j = i
    · subst hj
      rw [List.getElem?_set_self hlt] at ed
      cases ed
      refine ⟨v, hv, ?_⟩
      rw [setF_same]
      refine ho.mono fun a z => ⟨?_, fun l w => ?_⟩
      · rcases z.1 with z | z
        · exact z.1
        · exact .inr (h.h0 z)
      · by_cases hl : l = j
        · rw [hl, setF_same] at w
          exact z.2 w
        · rw [setF_ne hl] at w
          exact (h.nw_pa z.1).2 l w
    · rw [List.getElem?_set_ne (fun q => hj q.symm)] at ed
      obtain ⟨u, h1, h2⟩ := h.sl j d' ed
      refine ⟨u, h1, ?_⟩
      rw [setF_ne hj]
      refine h2.there.keep (P' := Shr b (setF Fp i G')) (fun a o q z => .inl (e a o (fun w => ?_) q)) (fun a z => ⟨z.1.1, fun l w => ?_⟩) fun a o w q => e a o (fun w' => hj (h.dj j i a w w')) q
      · rcases z with z | z
        · exact z.1.2 i w
        · obtain ⟨_, o', q', nf⟩ := h.nw i a w
          rw [q] at q'
          cases q'
          exact nf z
      · by_cases hl : l = i
        · rw [hl, setF_same] at w
          rcases (hG a w).1 with q | q
          · exact z.1.2 i q
          · obtain ⟨_, o, q'⟩ := z
            rw [q] at q'
            cases q'
        · rw [setF_ne hl] at w
          exact z.1.2 l w
  · refine e a o (fun w => ?_) (h.fr a o q n)
    rcases h.fo i a w with w | w
    · exact n w
    · rw [q] at w; cases w
  · by_cases hj : j = i
    · subst hj
      rw [setF_same] at z
      rcases (hG a z).1 with q | q
      · exact h.fo j a q
      · refine .inr ?_
        cases r : b.HB a with
        | none => rfl
        | some o =>
          obtain ⟨o', q'⟩ := h.fl a o r
          rw [q] at q'
          cases q'
    · rw [setF_ne hj] at z
      exact h.fo j a z
  · obtain ⟨o', q'⟩ := h.fl a o q
    exact hk a o' q'
theorem noex_keepL {ow : Bool} {x : R (List D)} (h : NoEx x) : NoEx (keepL ow x) := .bind h fun d => by
  cases ow with
  | false => exact .ok _
  | true =>
    show NoEx (if noMuts d then R.ok d else R.bad)
    exact .ite (.ok _) .bad
theorem keepL_noex {ow : Bool} {x : R (List D)} {d : List D} (h : keepL ow x.noex = .ok d) : keepL ow x = .ok d := by
  obtain ⟨y, e1, e2⟩ := bind_inv h
  have := noex_inv e1
  unfold keepL
  rw [this]
  exact e2
/-- arguments to be kept -/
theorem valLs {ow : Bool} {es : IL} {ds : List D} {Q : List V → Hp → Prop} (hG : Good W g b env σ H Fp) (hv : okV ow g es.vars = true) (h : keepL ow (evL C W.T env es) = .ok ds)
    (hk : ∀ vs H1, Ext H H1 → RpL W H1 (Nw (Shr b Fp) H) ds vs → Q vs H1) : denL W C E es (fun _ => .sh) σ H Q := by
  obtain ⟨d', e1, e2⟩ := bind_inv h
  cases ow with
  | false =>
    cases e2
    refine ⟨env, Shr b Fp, hG.seesSh (by simpa [okV] using hv), ?_⟩
    rw [e1]
    exact fun vs H' FF e r => hk vs H' e (r.shL fun _ => rfl)
  | true =>
    have e2 : (if noMuts d' then R.ok d' else R.bad) = .ok ds := e2
    split at e2
    · rename_i hn
      cases e2
      refine ⟨env, fun _ => True, hG.sees _, ?_⟩
      rw [e1]
      intro vs H' FF e r
      have r := r.shL fun _ => rfl
      exact hk vs H' e ⟨r.1, fun i d v ed ev => (r.2 i d v ed ev).flat (noMuts_get hn ed)⟩
    · cases e2
/-- f(x, ..) that writes what x holds -/
theorem mc_den {f i : Nat} {es : IL} {ow : Bool} {s : S} {d0 r d1 : D} {ds : List D} {Q : VK} (hG : Good W g b env σ H Fp) (hd : getV env i = .ok d0) (hs : gm g i = s) (hv : okV ow g es.vars = true) (h : keepL ow (evL C W.T env es) = .ok ds) (hm : C.m f d0 ds = .ok (r, d1))
    (hk : ∀ v H' F', Good W g b (env.set i (some d1)) σ H' F' → (∀ P, Rp W H' P r v) → noMut r = true → Q v H') : tCall (spM W C f s) [] E (tCons (tVar i) (denL W C E es fun _ => .sh)) σ H Q := by
  obtain ⟨v0, hv0, o0⟩ := hG.sl i d0 (getV_ok hd)
  refine ⟨v0, hv0, valLs hG hv h fun vs H2 e2 r2 => ?_⟩
  have hG2 := hG.up e2
  obtain ⟨v1, hv1, o1⟩ := hG2.sl i d0 (getV_ok hd)
  rw [hv0] at hv1
  cases hv1
  rw [hs] at o1
  show spM W C f s ((v0 :: vs) ++ []) H2 Q E
  rw [List.append_nil]
  refine ⟨Shr b Fp, ds, d0, v0, vs, Fp i, rfl, ⟨r2.1, fun j d v ed ev => (r2.2 j d v ed ev).mono fun a z => hG.nw_pa z⟩, o1, fun a z => z.2 i, fun a z => (hG2.nw i a z).2, r, d1, hm, fun v H' G' fr al hg ow' rv hn => ?_⟩
  exact hk v H' _ (hG2.write2 (getV_ok hd) hv0 fr al hg (by rw [hs]; exact ow')) rv hn
theorem call_m (c : SCx W C k X F E) {f i : Nat} {es : IL} {s : S} {x y : Str} {p p2 pos : Pos} {ys : List PySem.Expr} (hf : W.T.fns.contains f = true) (hm : W.T.mty f = some s) (hx : x = W.T.gname f) (hg : glB F.sc x = true) (hy : F.N[i]? = some y) (hyv : visB F.sc y = true) (hk : chkL W.T F.N F.sc es ys = true) :
    PE X (.Call (.Name x p) (.Name y p2 :: ys) [] pos) (tCall (spM W C f s) [] E (tCons (tVar i) (denL W C E es fun _ => .sh))) := by
  subst hx
  obtain ⟨a, fd, ps, h1, h2, h3, h4⟩ := c.c.calls.m f s hf hm
  obtain ⟨g1, g2, _⟩ := gl_of c.c hg
  obtain ⟨v1, v2, v3⟩ := vis_of c.c hyv
  have hp : Passes (L2.CX X.prog X.w) X E := c.c.pass
  have ha : PA X (.Name y p2 :: ys) (tCons (tVar i) (denL W C E es fun _ => .sh)) := pa_cons (pe_var (by rw [c.c.n]; exact hy) v1 v2 v3) (sndL es c.c hk (fitsN_sh _ _)) (star_cons rfl _ _)
  exact pe_call (c.c.K ▸ h4) c.c.room1 g1 h1 (c.c.K ▸ h2) (c.c.K ▸ h3) .nil hp ha g2 (star_cons rfl _ _) (star_any (chkL_star hk) _ _)
structure MOk (W : Wd) (F : Fc) (g : List S) (f i : Nat) (es : IL) (ow : Bool) (s : S) (x y : Str) (ys : List PySem.Expr) : Prop where
  qf : W.T.fns.contains f = true
  qm : W.T.mty f = some s
  qx : x = W.T.gname f
  qg : glB F.sc x = true
  qy : F.N[i]? = some y
  qv : visB F.sc y = true
  ql : chkL W.T F.N F.sc es ys = true
  qs : gm g i = s
  qo : okV ow g es.vars = true
/-- the parts of such a call -/
theorem mc_got (mx : ∀ f d ds c fs, C.m f d ds ≠ .ex c fs) {f i : Nat} {es : IL} {ow : Bool} {kk : D × D → O} (h : Out W E b F Dn gL og ((getV env i).to fun d0 => (keepL ow (evL C W.T env es).noex).to fun ds => (C.m f d0 ds).to kk)) :
    ∃ d0 ds r d1, getV env i = .ok d0 ∧ keepL ow (evL C W.T env es) = .ok ds ∧ C.m f d0 ds = .ok (r, d1) ∧ Out W E b F Dn gL og (kk (r, d1)) := by
  obtain ⟨d0, h1, h⟩ := h.got (noex_getV _ _)
  obtain ⟨ds, h2, h⟩ := h.got (noex_keepL (R.noex_noex _))
  obtain ⟨⟨r, d1⟩, h3, h⟩ := h.got (fun c fs => mx _ _ _ _ _)
  exact ⟨d0, ds, r, d1, h1, keepL_noex h2, h3, h⟩
theorem ss_mc (c : SCx W C k X F E) {f i : Nat} {es : IL} {ow : Bool} {s : S} {x y : Str} {p p2 cpos pos : Pos} {ys : List PySem.Expr} (m : MOk W F g f i es ow s x y ys) : PS X (.Expr (.Call (.Name x p) (.Name y p2 :: ys) [] cpos) pos) (denS W E b F g gL (some g) (evS C W.T (.mc none f i es ow))) :=
  PS.imp (ps_expr (call_m c m.qf m.qm m.qx m.qg m.qy m.qv m.ql) rfl) fun Dn σ H ⟨env, Fp, hG, hO⟩ => by
    obtain ⟨d0, ds, r, d1, h1, h2, h3, h4⟩ := mc_got c.c.calls.mx (kk := fun q => .nx (putR none q.1 (env.set i (some q.2)))) hO
    exact mc_den hG h1 m.qs m.qo h2 h3 fun v H' F' hG' rv hn => h4 _ _ _ hG'
theorem set_sh {g : List S} {i : Nat} (hl : i < g.length) (hs : gm g i = .sh) : g.set i .sh = g := by
  refine List.ext_getElem? fun j => ?_
  by_cases hj : i = j
  · subst hj
    rw [List.getElem?_set_self hl]
    unfold gm at hs
    rw [List.getD_eq_getElem?_getD] at hs
    have : g[i]? = some g[i] := by simp [hl]
    rw [this] at hs ⊢
    simpa using hs.symm
  · rw [List.getElem?_set_ne hj]
theorem ss_mcSet (c : SCx W C k X F E) {j f i : Nat} {es : IL} {ow : Bool} {s : S} {x y z : Str} {p p2 p' cpos pos : Pos} {ys : List PySem.Expr} (hm : b.m = F.mu.isSome) (hi : isMu F j = false) (hl : j < g.length) (hx : tgN F.N F.sc j (.Name z p') = true) (m : MOk W F g f i es ow s x y ys) :
    PS X (.Assign [.Name z p'] (.Call (.Name x p) (.Name y p2 :: ys) [] cpos) pos) (denS W E b F g gL (some (g.set j .sh)) (evS C W.T (.mc (some j) f i es ow))) := by
  obtain ⟨x', p3, e1, h1, h2⟩ := tgN_inv hx
  cases e1
  have lc : L2.Loc X.env.scope z ∧ (X.fn z = true ∨ X.env.scope.names.lookup z = some .local) := h2.elim (fun h => ⟨.inl (c.t.loc z h), .inr (c.t.loc z h)⟩) fun h => ⟨.inr (c.t.cel z h).1, .inl (c.t.cel z h).2⟩
  exact PS.imp (ps_set (by rw [c.c.n]; exact c.c.nd) (by rw [c.c.n]; exact h1) lc.1 (call_m c m.qf m.qm m.qx m.qg m.qy m.qv m.ql) rfl lc.2) fun Dn σ H ⟨env, Fp, hG, hO⟩ => by
    obtain ⟨d0, ds, r, d1, h1, h2, h3, h4⟩ := mc_got c.c.calls.mx (kk := fun q => .nx (putR (some j) q.1 (env.set i (some q.2)))) hO
    exact mc_den hG h1 m.qs m.qo h2 h3 fun v H' F' hG' rv hn => h4 _ _ _ (hG'.putFlat (Ext.refl _) (s := .sh) (notMu hm hi) hn (rv _) hl)
theorem ss_mcr (c : SCx W C k X F E) {f i : Nat} {es : IL} {ow : Bool} {s : S} {x y : Str} {p p2 cpos pos : Pos} {ys : List PySem.Expr} (hm : b.m = F.mu.isSome) (ht : ∀ s, F.mu = some s → gm g 0 = s) (m : MOk W F g f i es ow s x y ys) :
    PS X (.Return (some (.Call (.Name x p) (.Name y p2 :: ys) [] cpos)) pos) (denS W E b F g gL none (evS C W.T (.mcr f i es ow))) :=
  PS.imp (ps_ret (call_m c m.qf m.qm m.qx m.qg m.qy m.qv m.ql)) fun Dn σ H ⟨env, Fp, hG, hO⟩ => by
    obtain ⟨d0, ds, r, d1, h1, h2, h3, h4⟩ := mc_got c.c.calls.mx (kk := fun q => .rt q.1 (env.set i (some q.2))) hO
    refine mc_den hG h1 m.qs m.qo h2 h3 fun v H' F' hG' rv hn => ?_
    have h4 : RtP W b F Dn.rt r (env.set i (some d1)) := h4
    unfold RtP at h4
    cases hF : F.mu with
    | none =>
      rw [hF] at h4 hm
      exact h4 v H' (fun _ => False) (hG'.ext0 hm) (fun _ z => z.elim) (.flat hn (rv _))
    | some t =>
      rw [hF] at h4
      exact h4.2 σ H' F' g v hG' (ht t hF) rv
/-! ### if -/
theorem ss_ife (c : SCx W C k X F E) {e : IE} {x y : ISs} {v : PySem.Expr} {A B : List Stmt} {pos : Pos} (he : chkE W.T F.N F.sc e v = true) {oa ob : Gam} (ha : PSs X A (denS W E b F g gL oa (evSs C W.T x))) (hb : PSs X B (denS W E b F g gL ob (evSs C W.T y)))
    (la : ∀ ga, oa = some ga → ∃ g', og = some g' ∧ leG b.m ga g') (lb : ∀ gb, ob = some gb → ∃ g', og = some g' ∧ leG b.m gb g') : PS X (.If v A B pos) (denS W E b F g gL og (evS C W.T (.ife e x y))) := by
  have wk : ∀ {oa : Gam} {Dn : Ends} {r : O}, (∀ ga, oa = some ga → ∃ g', og = some g' ∧ leG b.m ga g') → Out W E b F Dn gL og r → Out W E b F Dn gL oa r := fun {oa Dn r} l h => by
    cases r with
    | nx e =>
      cases oa with
      | none => trivial
      | some ga =>
        obtain ⟨g', e1, l'⟩ := l ga rfl
        subst e1
        intro σ H Fp hG
        obtain ⟨F', hG'⟩ := hG.weak l'
        exact h σ H F' hG'
    | bk e => exact h
    | ct e => exact h
    | rt d e => exact h
    | ex cc fs => exact h
    | bad => exact h
  refine PS.imp (ps_if (sndE e c.c he).pt ha hb) fun Dn σ H ⟨env, Fp, hG, hO⟩ => ?_
  have hO : Out W E b F Dn gL og (((evE C W.T env e).bind truD).to fun k => if k then evSs C W.T x env else evSs C W.T y env) := hO
  refine ⟨env, fun _ => True, hG.sees _, (hO.wp hG).imp fun k hk H' e1 => ?_⟩
  cases k with
  | true => exact ⟨env, Fp, hG.up e1, wk la hk⟩
  | false => exact ⟨env, Fp, hG.up e1, wk lb hk⟩
/-! ### loops -/
theorem ss_whl (c : SCx W C k X F E) {e : IE} {x : ISs} {v : PySem.Expr} {A : List Stmt} {pos : Pos} (he : chkE W.T F.N F.sc e v = true) {oa : Gam} (ha : PSs X A (denS W E b F g (some g) oa (evSs C W.T x))) (la : ∀ ga, oa = some ga → leG b.m ga g) :
    PS X (.While v A [] pos) (denS W E b F g gL (some g) (evS C W.T (.whl e x))) := by
  refine PS.imp (ps_while c.hp (sndE e c.c he).pt ha) fun Dn σ H ⟨env, Fp, hG, hO⟩ => ?_
  have hO : Out W E b F Dn gL (some g) (whlO (fun env => (evE C W.T env e).bind truD) (evSs C W.T x) FUEL env) := hO
  refine ⟨fun m σ H => ∃ env Fp, Good W g b env σ H Fp ∧ Out W E b F Dn gL (some g) (whlO (fun env => (evE C W.T env e).bind truD) (evSs C W.T x) m env), ⟨FUEL, env, Fp, hG, hO⟩, ?_⟩
  rintro m σ H ⟨env, Fp, hG, hO⟩
  cases m with
  | zero => exact hO.elim
  | succ m =>
    refine ⟨env, fun _ => True, hG.sees _, ?_⟩
    have hO : Out W E b F Dn gL (some g) (match (evE C W.T env e).bind truD with
      | .ok true => (match evSs C W.T x env with
        | .nx e' => whlO (fun env => (evE C W.T env e).bind truD) (evSs C W.T x) m e'
        | .ct e' => whlO (fun env => (evE C W.T env e).bind truD) (evSs C W.T x) m e'
        | .bk e' => .nx e'
        | .rt d e' => .rt d e'
        | .ex c fs => .ex c fs
        | .bad => .bad)
      | .ok false => .nx env
      | .ex c fs => .ex c fs
      | .bad => .bad) := hO
    cases hc : (evE C W.T env e).bind truD with
    | ex cc fs => rw [hc] at hO; exact XW.up hO.2 (hG.ext0 hO.1)
    | bad => rw [hc] at hO; exact hO.elim
    | ok kk =>
      rw [hc] at hO
      intro H' e1
      cases kk with
      | false => exact hO _ _ _ (hG.up e1)
      | true =>
        refine ⟨fun σ H => ∃ env Fp, Good W g b env σ H Fp ∧ Out W E b F Dn gL (some g) (whlO (fun env => (evE C W.T env e).bind truD) (evSs C W.T x) m env), fun σ' H' h => ⟨m, Nat.lt_succ_self m, h⟩, env, Fp, hG.up e1, ?_⟩
        dsimp only at hO
        cases hb : evSs C W.T x env with
        | nx e' =>
          rw [hb] at hO
          cases oa with
          | none => trivial
          | some ga =>
            intro σ H Fp hG
            obtain ⟨F', hG'⟩ := hG.weak (la ga rfl)
            exact ⟨e', F', hG', hO⟩
        | ct e' =>
          rw [hb] at hO
          exact fun σ H Fp hG => ⟨e', Fp, hG, hO⟩
        | bk e' => rw [hb] at hO; exact hO
        | rt d e' => rw [hb] at hO; exact hO
        | ex cc fs => rw [hb] at hO; exact hO
        | bad => rw [hb] at hO; exact hO
end
end G
end
section
set_option Elab.async false
set_option linter.all false
set_option maxRecDepth 100000
set_option maxHeartbeats 4000000
namespace G
open PySem PySem.Spec PyProof.Rows L2
def isRng : IT → Bool
  | .rng1 _ => true
  | .rng2 _ _ => true
  | .rng3 _ _ _ => true
  | _ => false
section
variable {W : Wd} {C : Calls} {E : XK} {k : Nat} {X : Cx} {b : Bs} {F : Fc} {g : List S} {env : Env} {σ : L2.St} {H H1 : Hp} {Fp : Fps} {Dn : Ends} {gL og : Gam}
theorem putG_sh : ∀ {is : List Nat} {g : List S}, (∀ i ∈ is, i < g.length ∧ gm g i = .sh) → putG g is = g
  | [], g, h => rfl
  | i :: is, g, h => by
    have hi := h i List.mem_cons_self
    have e : g.set i .sh = g := set_sh hi.1 hi.2
    show putG (g.set i .sh) is = g
    rw [e]
    exact putG_sh fun j hj => h j (List.mem_cons_of_mem _ hj)
theorem Good.target (h : Good W g b env σ H Fp) {K : PySem.W.Frag} {tu : Bool} {tg : List Nat} {d : D} {v : V} {env1 : Env} (hi : ∀ i ∈ tg, b.m = true → i ≠ 0) (hl : ∀ i ∈ tg, i < g.length) (hs : setT tu tg d env = some env1) (r : Rp W H (Shr b Fp) d v) :
    ∃ σ1 F', (∀ Q : L2.St → Hp → Prop, Q σ1 H → gT K tu tg v σ H Q) ∧ Good W (putG g tg) b env1 σ1 H F' := by
  cases tu with
  | false =>
    match tg, hi, hl, hs with
    | [j], hi, hl, hs =>
      obtain ⟨F', hG⟩ := h.putsL (is := [j]) (ds := [d]) (vs := [v]) (env1 := env1) hi hl hs (.cons r .nil)
      exact ⟨_, F', fun Q q => q, hG⟩
    | [], hi, hl, hs => cases hs
    | _ :: _ :: _, hi, hl, hs => cases hs
  | true =>
    cases d with
    | tup ds =>
      cases r with
      | tup h1 h3 h4 =>
        obtain ⟨F', hG⟩ := h.putsL (is := tg) (ds := ds) (env1 := env1) hi hl hs ⟨h3, h4⟩
        obtain ⟨a, _⟩ := setAll_rel (σ := σ) (show setAll tg ds env = some env1 from hs) (⟨h3, h4⟩ : RpL W H (Shr b Fp) ds _) h.len
        exact ⟨_, F', fun Q q => ⟨_, _, rfl, .of h1, a.symm, gNames_run a q⟩, hG⟩
    | _ => cases hs
theorem tgsOk (hm : b.m = F.mu.isSome) {tg : List Nat} (h : (tg.all fun i => !isMu F i && (decide (i < g.length) && decide (gm g i = .sh))) = true) : (∀ i ∈ tg, b.m = true → i ≠ 0) ∧ (∀ i ∈ tg, i < g.length) ∧ putG g tg = g := by
  have all := List.all_eq_true.mp h
  refine ⟨fun i hi => notMu hm (by simpa using (and2 (all i hi)).1), fun i hi => of_decide_eq_true (and2 (and2 (all i hi)).2).1, putG_sh fun i hi => ⟨of_decide_eq_true (and2 (and2 (all i hi)).2).1, of_decide_eq_true (and2 (and2 (all i hi)).2).2⟩⟩
theorem RtP.back {H' : Hp} (hG : Good W g b env σ H Fp) {rt : VK} {d : D} {e : Env} (h : RtP W b F rt d e) : RtP W (b.at H Fp) F rt d e := by
  unfold RtP at h ⊢
  cases hF : F.mu with
  | none => rw [hF] at h; exact h
  | some s => rw [hF] at h; exact ⟨h.1, fun σ' H' F' g' v hG' hs rv => h.2 σ' H' F' g' v (hG.back hG') hs rv⟩
theorem ss_for (c : SCx W C k X F E) {tu : Bool} {tg : List Nat} {it : IT} {x : ISs} {t iter : PySem.Expr} {A : List Stmt} {pos : Pos} (hm : b.m = F.mu.isSome) (hdt : isDit it = false) (hi : chkIt W.T F.N F.sc (isTup t) it iter = true) (ht : tgB F.N F.sc tu tg t = true) (hsrc : isRng it = true ∨ shA g it.vars = true)
    (htg : (tg.all fun i => !isMu F i && (decide (i < g.length) && decide (gm g i = .sh))) = true) {oa : Gam} (ha : ∀ b' : Bs, b'.m = F.mu.isSome → PSs X A (denS W E b' F g (some g) oa (evSs C W.T x))) (la : ∀ ga, oa = some ga → leG b.m ga g) :
    PS X (.For t iter A [] pos) (denS W E b F g gL (some g) (evS C W.T (.for tu tg it x))) := by
  obtain ⟨o1, o2, o3⟩ := tgsOk hm htg
  have hb : PSs X A (fun D σ H => ∃ b', b'.m = F.mu.isSome ∧ denS W E b' F g (some g) oa (evSs C W.T x) D σ H) := ⟨fun pins s σ H D I ⟨b', hm', h⟩ => (ha b' hm').run pins s σ H D I h⟩
  refine PS.imp (ps_for (g := gT X.K tu tg) c.hp c.c.calm (sndI it c.c t hdt hi) (tg_any c.t ht) hb (fold_set (chkIt_set hi) X.env)) fun Dn σ H ⟨env, Fp, hG, hO⟩ => ?_
  have hO : Out W E b F Dn gL (some g) ((evIt C W.T env it).to fun ds => forO tu tg (evSs C W.T x) ds env) := hO
  -- the source is read
  have src : ∃ P, Sees W H P env σ it.vars ∧ ∀ H1 a, itP it (There (Nw P H) H1) a → (Shr b Fp a ∨ H a = none) ∧ ∃ o, H1 a = some o := by
    rcases hsrc with hr | hs
    · refine ⟨fun _ => True, hG.sees _, fun H1 a z => ?_⟩
      cases it <;> first
        | exact z.elim
        | cases hr
    · exact ⟨Shr b Fp, hG.seesSh hs, fun H1 a z => itP_le z⟩
  obtain ⟨P, hS, hP⟩ := src
  refine ⟨env, P, hS, (hO.wp hG).imp fun ds hd J H1 e1 hit => ?_⟩
  obtain ⟨Y, wk, hit⟩ := hit
  have hG1 := hG.up e1
  have hPn : ∀ a, itP it (There (Nw P H) H1) a → ∀ i, ¬ Fp i a := fun a z i w => by
    rcases (hP H1 a z).1 with q | q
    · exact q.2 i w
    · obtain ⟨_, o, e, _⟩ := hG.nw i a w
      rw [q] at e
      cases e
  refine for_it wk (g := gT X.K tu tg) (tb := fun D σ H => ∃ b', b'.m = F.mu.isSome ∧ denS W E b' F g (some g) oa (evSs C W.T x) D σ H) (D := Dn) (fun i σ' H' => ∃ env' F', Good W g (b.at H1 Fp) env' σ' H' F' ∧ Out W E b F Dn gL (some g) (forO tu tg (evSs C W.T x) (ds.drop i) env')) ⟨env, Fp, hG1.mark, by simpa using hd⟩ (fun i σ' H' _ ⟨env', F', hG', _⟩ a o q z => ?_) (fun i v σ2 H2 H3 hlt ⟨env', F', hG2, hO2⟩ y => ?_) fun σ2 H2 ⟨env', F', hG2, hO2⟩ => ?_
  · refine hG'.fr a o q fun ⟨j, w⟩ => ?_
    rcases z with z | z
    · exact hPn a z j w
    · obtain ⟨_, u, e, nf⟩ := hG1.nw j a w
      rw [q] at e
      cases e
      exact nf z
  · have ed : ds[i]? = some ds[i] := by simp [hlt]
    have later : Later (itP it (There (Nw P H) H1)) H1 H2 := fun a o q z => hG2.fr a o q fun ⟨j, w⟩ => by
      rcases z with z | z
      · exact hPn a z j w
      · obtain ⟨_, u, e, nf⟩ := hG1.nw j a w
        rw [q] at e
        cases e
        exact nf z
    obtain ⟨e3, rx⟩ := hit i H2 v H3 _ later y ed
    have hG3 := hG2.up e3
    have rx : Rp W H3 (Shr (b.at H1 Fp) F') ds[i] v := rx.mono fun a z => ⟨(hP H1 a z).1.elim (fun q => q.1) fun q => .inr (hG.h0 q), fun j w => by
      rcases hG2.fo j a w with ⟨l, q⟩ | q
      · exact hPn a z l q
      · obtain ⟨o, q'⟩ := (hP H1 a z).2
        rw [show H1 a = none from q] at q'
        cases q'⟩
    rw [List.drop_eq_getElem_cons hlt] at hO2
    unfold forO at hO2
    cases hst : setT tu tg ds[i] env' with
    | none => rw [hst] at hO2; exact hO2.elim
    | some env1 =>
      rw [hst] at hO2
      obtain ⟨σ1, F1, hrun, hG4⟩ := hG3.target (K := X.K) o1 o2 hst rx
      rw [o3] at hG4
      refine hrun _ ⟨b.at H1 Fp, hm, env1, F1, hG4, ?_⟩
      dsimp only at hO2
      cases hr : evSs C W.T x env1 with
      | nx e =>
        rw [hr] at hO2
        cases oa with
        | none => trivial
        | some ga =>
          intro σ5 H5 F5 hG5
          obtain ⟨F6, hG6⟩ := hG5.weak (la ga rfl)
          exact ⟨e, F6, hG6, hO2⟩
      | ct e =>
        rw [hr] at hO2
        exact fun σ5 H5 F5 hG5 => ⟨e, F5, hG5, hO2⟩
      | bk e =>
        rw [hr] at hO2
        exact fun σ5 H5 F5 hG5 => hO2 σ5 H5 F5 (hG1.back hG5)
      | rt d e =>
        rw [hr] at hO2
        exact RtP.back (H' := H1) hG1 hO2
      | ex cc fs => rw [hr] at hO2; exact hO2
      | bad => rw [hr] at hO2; exact hO2
  · rw [List.drop_length] at hO2
    exact hO2 _ _ _ (hG1.back hG2)
/-! ### lines in a row -/
theorem ss_nil : PSs X [] (denS W E b F g gL (some g) (evSs C W.T .nil)) :=
  PSs.imp pss_nil fun Dn σ H ⟨env, Fp, hG, hO⟩ => hO _ _ _ hG
theorem ss_cons {s : IS} {r : ISs} {st : Stmt} {rest : List Stmt} {g1 : List S} (h1 : PS X st (denS W E b F g gL (some g1) (evS C W.T s))) (h2 : PSs X rest (denS W E b F g1 gL og (evSs C W.T r))) : PSs X (st :: rest) (denS W E b F g gL og (evSs C W.T (.cons s r))) :=
  PSs.imp (pss_cons h1 h2) fun Dn σ H ⟨env, Fp, hG, hO⟩ => by
    refine ⟨env, Fp, hG, ?_⟩
    have hO : Out W E b F Dn gL og ((evS C W.T s env).seq fun e => evSs C W.T r e) := hO
    cases hr : evS C W.T s env with
    | nx e =>
      rw [hr] at hO
      exact fun σ' H' F' hG' => ⟨e, F', hG', hO⟩
    | bk e => rw [hr] at hO; exact hO
    | ct e => rw [hr] at hO; exact hO
    | rt d e => rw [hr] at hO; exact hO
    | ex cc fs => rw [hr] at hO; exact hO
    | bad => rw [hr] at hO; exact hO
theorem ss_end {s : IS} {st : Stmt} (h1 : PS X st (denS W E b F g gL none (evS C W.T s))) : PSs X [st] (denS W E b F g gL none (evSs C W.T (.cons s .nil))) :=
  PSs.imp (pss_one h1) fun Dn σ H ⟨env, Fp, hG, hO⟩ => by
    refine ⟨env, Fp, hG, ?_⟩
    have hO : Out W E b F Dn gL none ((evS C W.T s env).seq fun e => evSs C W.T .nil e) := hO
    cases hr : evS C W.T s env with
    | nx e => trivial
    | bk e => rw [hr] at hO; exact hO
    | ct e => rw [hr] at hO; exact hO
    | rt d e => rw [hr] at hO; exact hO
    | ex cc fs => rw [hr] at hO; exact hO
    | bad => rw [hr] at hO; exact hO
theorem ss_shr {i : Nat} {r : ISs} {sts : List Stmt} (hi : b.m = true → i ≠ 0) (h : PSs X sts (denS W E b F (g.set i .sh) gL og (evSs C W.T r))) : PSs X sts (denS W E b F g gL og (evSs C W.T (.cons (.shr i) r))) :=
  PSs.imp h fun Dn σ H ⟨env, Fp, hG, hO⟩ => by
    obtain ⟨F', hG'⟩ := hG.weak (g' := g.set i .sh) fun j => by
      rw [gm_set]
      by_cases hj : i = j ∧ i < g.length
      · rw [if_pos hj]
        refine .inr ⟨rfl, ?_⟩
        cases hm : b.m with
        | false => exact .inl rfl
        | true => exact .inr fun z => hi hm (hj.1.trans z)
      · rw [if_neg hj]
        exact .inl rfl
    exact ⟨env, F', hG', hO⟩
end
end G
end
section
set_option Elab.async false
set_option linter.all false
set_option maxRecDepth 100000
set_option maxHeartbeats 4000000
namespace G
open PySem PySem.Spec PyProof.Rows L2
/-! ### a, b, c = x, y, z -/
def parB (F : Fc) (is : List Nat) (ts vs : List PySem.Expr) : Bool := match is, ts, vs with
  | [i, j, l], [.Name x px, .Name y py, .Name z pz], [a, b, d] => ((tgN F.N F.sc i (.Name x px) && (tgN F.N F.sc j (.Name y py) && tgN F.N F.sc l (.Name z pz))) && ((F.sc.names.lookup x == some .local) && ((F.sc.names.lookup y == some .local) && (F.sc.names.lookup z == some .local)))) &&
      (((py.line == px.line && pz.line == px.line) && (!decide (x = y) && (!decide (x = z) && !decide (y = z)))) && ((noStar a && (noStar b && noStar d)) && (![a, b, d].all (foldedForSure 8) && ![a, b, d].all (constantsAlone 8))))
  | _, _, _ => false
section
variable {W : Wd} {C : Calls} {E : XK} {k : Nat} {X : Cx} {b : Bs} {F : Fc} {g : List S} {env : Env} {σ : L2.St} {H H1 : Hp} {Fp : Fps} {Dn : Ends} {gL og : Gam}
theorem swapped_3 {x y z : Str} {px py pz kp vp : Pos} {kt kv : Nat} {a c d : PySem.Expr} {env : PySem.Env} (hb : env.blockKind = .function) (hx : env.scope.names.lookup x = some .local) (hy : env.scope.names.lookup y = some .local) (hz : env.scope.names.lookup z = some .local)
    (l1 : py.line = px.line) (l2 : pz.line = px.line) (n1 : x ≠ y) (n2 : x ≠ z) (n3 : y ≠ z) (s1 : noStar a = true) (s2 : noStar c = true) (s3 : noStar d = true) (f : [a, c, d].all (foldedForSure 8) = false) (co : [a, c, d].all (constantsAlone 8) = false) :
    swappedStores [.Tuple [.Name x px, .Name y py, .Name z pz] kt kp] (.Tuple [a, c, d] kv vp) env = pure (some [x, y, z]) := by
  have k1 : (env.kindOf x == some .local) = true := by unfold Env.kindOf; rw [hx]; rfl
  have k2 : (env.kindOf y == some .local) = true := by unfold Env.kindOf; rw [hy]; rfl
  have k3 : (env.kindOf z == some .local) = true := by unfold Env.kindOf; rw [hz]; rfl
  have sb : ∀ e : PySem.Expr, (match e with | .Starred .. => true | _ => false) = !noStar e := fun e => by cases e <;> rfl
  have st : ([a, c, d].any fun e => match e with | .Starred .. => true | _ => false) = false := by
    simp only [List.any_cons, List.any_nil, sb, s1, s2, s3]
    rfl
  have m1 : (y == x) = false := beq_eq_false_iff_ne.mpr (Ne.symm n1)
  have m2 : (z == x) = false := beq_eq_false_iff_ne.mpr (Ne.symm n2)
  have m3 : (z == y) = false := beq_eq_false_iff_ne.mpr (Ne.symm n3)
  unfold swappedStores
  simp only [List.length_cons, List.length_nil, hb, st, f, co, k1, k2, k3, List.head?, Option.map, Option.getD, PySem.Expr.pos, l1, l2]
  rw [if_neg (by decide)]
  rw [if_neg (fun q => Bool.noConfusion (q.symm.trans st))]
  have ed : [x, y, z].eraseDups.length = 3 := by
    have e1 : [x, y, z].eraseDups = x :: ([y, z].filter fun b => !b == x).eraseDups := List.eraseDups_cons
    have e2 : ([y, z].filter fun b => !b == x) = [y, z] := by simp [n1.symm, n2.symm]
    have e3 : [y, z].eraseDups = y :: ([z].filter fun b => !b == y).eraseDups := List.eraseDups_cons
    have e4 : ([z].filter fun b => !b == y) = [z] := by simp [n3.symm]
    rw [e1, e2, e3, e4]
    rfl
  have K1 : env.kindOf x = some .local := hx
  have K2 : env.kindOf y = some .local := hy
  have K3 : env.kindOf z = some .local := hz
  have fm : ([PySem.Expr.Name x px, .Name y py, .Name z pz].filterMap fun e => match e with
    | .Name id pos => if (env.kindOf id == some NameKind.local && pos.line == px.line) = true then some id else none
    | _ => none) = [x, y, z] := by simp [List.filterMap_cons, K1, K2, K3, l1, l2]
  refine (if_neg fun q => ?_).trans (Eq.trans ?_ (congrArg (fun l => pure (some l)) fm))
  · have h1 := congrArg (fun l : List Str => (l.length != 0 + 1 + 1 + 1 || l.eraseDups.length != l.length)) fm
    have h2 : ([x, y, z].length != 0 + 1 + 1 + 1 || [x, y, z].eraseDups.length != [x, y, z].length) = false := by rw [ed]; rfl
    exact Bool.noConfusion (q.symm.trans (Eq.trans h1 h2))
  · rfl
theorem notB {b : Bool} (h : (!b) = true) : b = false := by cases b with
  | false => rfl
  | true => cases h
theorem parB_un {is : List Nat} {ts vs : List PySem.Expr} (h : parB F is ts vs = true) : ∃ i j l x y z px py pz a d e, is = [i, j, l] ∧ ts = [.Name x px, .Name y py, .Name z pz] ∧ vs = [a, d, e] ∧ tgNs F.N F.sc is ts = true ∧ F.N[i]? = some x ∧ F.N[j]? = some y ∧ F.N[l]? = some z ∧
    F.sc.names.lookup x = some .local ∧ F.sc.names.lookup y = some .local ∧ F.sc.names.lookup z = some .local ∧ py.line = px.line ∧ pz.line = px.line ∧ x ≠ y ∧ x ≠ z ∧ y ≠ z ∧ noStar a = true ∧ noStar d = true ∧ noStar e = true ∧ [a, d, e].all (foldedForSure 8) = false ∧ [a, d, e].all (constantsAlone 8) = false := by
  unfold parB at h
  split at h
  · rename_i i j l x px y py z pz a d e
    obtain ⟨h1, h2⟩ := and2 h
    obtain ⟨h1, h3⟩ := and2 h1
    obtain ⟨h4, h5⟩ := and2 h1
    obtain ⟨h5, h6⟩ := and2 h5
    obtain ⟨h7, h8⟩ := and2 h3
    obtain ⟨h8, h9⟩ := and2 h8
    obtain ⟨h10, h11⟩ := and2 h2
    obtain ⟨h12, h13⟩ := and2 h10
    obtain ⟨h14, h15⟩ := and2 h12
    obtain ⟨h16, h17⟩ := and2 h13
    obtain ⟨h17, h18⟩ := and2 h17
    obtain ⟨h19, h20⟩ := and2 h11
    obtain ⟨h21, h22⟩ := and2 h19
    obtain ⟨h22, h23⟩ := and2 h22
    obtain ⟨h24, h25⟩ := and2 h20
    refine ⟨i, j, l, x, y, z, px, py, pz, a, d, e, rfl, rfl, rfl, ?_, of_decide_eq_true (and2 h4).1, of_decide_eq_true (and2 h5).1, of_decide_eq_true (and2 h6).1, eq_of_beq h7, eq_of_beq h8, eq_of_beq h9, eq_of_beq h14, eq_of_beq h15, by simpa using h16, by simpa using h17, by simpa using h18, h21, h22, h23, notB h24, notB h25⟩
    show (tgN F.N F.sc i (.Name x px) && (tgN F.N F.sc j (.Name y py) && (tgN F.N F.sc l (.Name z pz) && true))) = true
    rw [h4, h5, h6]
    rfl
  · cases h
theorem noex_noex {α : Type} (x : R α) : NoEx x.noex := fun c fs e => by cases x <;> cases e
theorem ss_par (c : SCx W C k X F E) {ow : Bool} {es : IL} {is : List Nat} {ts vs : List PySem.Expr} {kt kv : Nat} {kp vp pos : Pos} (hm : b.m = F.mu.isSome) (hi : (is.all fun i => !isMu F i && decide (i < g.length)) = true) (hp : parB F is ts vs = true) (hv : okV ow g es.vars = true) (he : chkL W.T F.N F.sc es vs = true) (hd : is.Nodup) :
    PS X (.Assign [.Tuple ts kt kp] (.Tuple vs kv vp) pos) (denS W E b F g gL (some (putG g is)) (evS C W.T (.par is es ow))) := by
  obtain ⟨i, j, l, x, y, z, px, py, pz, a, d, e, rfl, rfl, rfl, t1, n1, n2, n3, lx, ly, lz, q1, q2, u1, u2, u3, s1, s2, s3, f1, f2⟩ := parB_un hp
  obtain ⟨o1, o2⟩ := putsOk hm hi
  have bk : X.env.blockKind = .function := by
    unfold Env.blockKind
    rw [c.c.sc, c.kind]
    rfl
  have lx' : X.env.scope.names.lookup x = some .local := by rw [c.c.sc]; exact lx
  have ly' : X.env.scope.names.lookup y = some .local := by rw [c.c.sc]; exact ly
  have lz' : X.env.scope.names.lookup z = some .local := by rw [c.c.sc]; exact lz
  have hsw : swapsWithSole [.Tuple [.Name x px, .Name y py, .Name z pz] kt kp] (.Tuple [a, d, e] kv vp) pos.line X.env = pure false := swaps_no (e := .Tuple [a, d, e] kv vp) rfl (some (.Tuple [.Name x px, .Name y py, .Name z pz] kt kp)) pos.line X.env
  simp only [List.nodup_cons, List.mem_cons, List.not_mem_nil, or_false, not_or] at hd
  refine PS.imp (ps_par3 c.c.calm (by rw [c.c.n]; exact c.c.nd) (by rw [c.c.n]; exact n1) (by rw [c.c.n]; exact n2) (by rw [c.c.n]; exact n3) hd.1.1 hd.1.2 hd.2.1 lx' ly' lz' (sndL es c.c he (fitsN_sh _ _)) (swapped_3 bk lx' ly' lz' q1 q2 u1 u2 u3 s1 s2 s3 f1 f2) hsw) fun Dn σ H h => ?_
  obtain ⟨env, Fp, hG, hO⟩ := h
  have hO : Out W E b F Dn gL (some (putG g [i, j, l])) ((keepL ow (evL C W.T env es).noex).to fun ds => (R.of (setAll [i, j, l] ds env)).to .nx) := hO
  obtain ⟨ds, ed, hO2⟩ := hO.got (noex_keepL (noex_noex _))
  refine valLs hG hv (keepL_noex ed) fun us H1 e1 r => ?_
  have hG1 := hG.up e1
  obtain ⟨env1, hs, hq⟩ := (hO2.wp hG1).of
  have r' : RpL W H1 (Shr b Fp) ds us := ⟨r.1, fun n dd vv z1 z2 => (r.2 n dd vv z1 z2).mono fun a z => hG.nw_pa z⟩
  obtain ⟨F', hG2⟩ := hG1.putsL o1 o2 hs r'
  match ds, hs, r'.1 with
  | [d1, d2, d3], hs, hl =>
    match us, hl with
    | [v1, v2, v3], _ => exact ⟨v1, v2, v3, rfl, hq _ _ _ hG2⟩
end
end G
end
section
set_option Elab.async false
set_option linter.all false
set_option maxRecDepth 100000
set_option maxHeartbeats 4000000
namespace G
open PySem PySem.Spec PyProof.Rows L2
/-! ### the lines checked -/
def leB (m : Bool) (g g' : List S) : Bool := decide (g.length = g'.length) && (List.range g.length).all fun i => decide (gm g' i = gm g i) || (decide (gm g' i = .sh) && (!m || decide (i ≠ 0)))
theorem gm_out {g : List S} {i : Nat} (h : g.length ≤ i) : gm g i = .sh := by
  unfold gm
  rw [List.getD_eq_getElem?_getD, List.getElem?_eq_none h]
  rfl
theorem leB_ok {m : Bool} {g g' : List S} (h : leB m g g' = true) : leG m g g' := fun i => by
  obtain ⟨h1, h2⟩ := and2 h
  have h1 := of_decide_eq_true h1
  by_cases hi : i < g.length
  · have := List.all_eq_true.mp h2 i (List.mem_range.mpr hi)
    rcases Bool.or_eq_true_iff.mp this with h3 | h3
    · exact .inl (of_decide_eq_true h3)
    · obtain ⟨h4, h5⟩ := and2 h3
      refine .inr ⟨of_decide_eq_true h4, ?_⟩
      rcases Bool.or_eq_true_iff.mp h5 with h6 | h6
      · exact .inl (by simpa using h6)
      · exact .inr (of_decide_eq_true h6)
  · rw [gm_out (by omega), gm_out (by omega)]
    exact .inl rfl
def joinG : Gam → Gam → Gam
  | none, x => x
  | some a, none => some a
  | some a, some b => some (List.zipWith (fun x y => if x = y then x else .sh) a b)
def leO (m : Bool) (oa og : Gam) : Bool := match oa with
  | none => true
  | some ga => (match og with
    | none => false
    | some g' => leB m ga g')
theorem leO_ok {m : Bool} {oa og : Gam} (h : leO m oa og = true) : ∀ ga, oa = some ga → ∃ g', og = some g' ∧ leG m ga g' := fun ga e => by
  subst e
  unfold leO at h
  cases og with
  | none => cases h
  | some g' => exact ⟨g', rfl, leB_ok h⟩
def retB (F : Fc) (g : List S) : Bool := match F.mu with
  | none => true
  | some s => decide (gm g 0 = s)
def retE (T : Tab) (F : Fc) (g : List S) (e : IE) : Bool := match F.mu with
  | none => fits T e F.ret
  | some _ => true
def retV (F : Fc) (g : List S) (e : IE) : Bool := match F.mu, e with
  | none, .v i => decide (gm g i = F.ret)
  | _, _ => false
def valB (F : Fc) (e : IE) (x : Str) (pl sl : Nat) (v : PySem.Expr) : Bool := match v with
  | .ListComp _ _ scope pos => (match e with
    | .comp _ _ _ it _ => !isDit it && lcOk F.sc x pl pos.line sl scope
    | _ => false)
  | v => noComp v
def noTup : PySem.Expr → Bool
  | .Tuple _ _ _ => false
  | _ => true
def mB (T : Tab) (F : Fc) (g : List S) (f i : Nat) (es : IL) (ow : Bool) (x y : Str) (ys : List PySem.Expr) : Bool :=
  ((T.fns.contains f && decide (T.mty f = some (gm g i))) && (decide (x = T.gname f) && glB F.sc x)) && ((decide (F.N[i]? = some y) && visB F.sc y) && (chkL T F.N F.sc es ys && okV ow g es.vars))
def slotB (F : Fc) (g : List S) (i : Nat) : Bool := !isMu F i && decide (i < g.length)
def rightIf (c : Bool) (og : Gam) : Option Gam := if c = true then some og else none
mutual
def chkS (T : Tab) (F : Fc) (gL : Gam) (g : List S) : IS → Stmt → Option Gam
  | .asg i s e ow, st => (match st with
    | .Assign [.Name x p'] v pos => rightIf ((slotB F g i && tgN F.N F.sc i (.Name x p')) && ((okV ow g e.vars && fits T e s) && (chkE T F.N F.sc e v && valB F e x p'.line pos.line v))) (some (g.set i s))
    | _ => none)
  | .asgT is e ow, st => (match st with
    | .Assign [.Tuple es _ _] v _ => rightIf (((is.all fun i => slotB F g i) && tgNs F.N F.sc is es) && ((okV ow g e.vars && chkE T F.N F.sc e v) && (noComp v && noTup v))) (some (putG g is))
    | _ => none)
  | .par is es ow, st => (match st with
    | .Assign [.Tuple ts _ _] (.Tuple vs _ _) _ => rightIf (((is.all fun i => slotB F g i) && parB F is ts vs) && ((okV ow g es.vars && chkL T F.N F.sc es vs) && decide is.Nodup)) (some (putG g is))
    | _ => none)
  | .aug i op e, st => (match st with
    | .AugAssign (.Name x p') o v _ => rightIf ((slotB F g i && tgN F.N F.sc i (.Name x p')) && ((decide (gm g i = .sh) && decide (op = .add ∨ op = .sub)) && (decide (o = boE op) && chkE T F.N F.sc e v))) (some g)
    | _ => none)
  | .shr _, _ => none
  | .app p e ow, st => (match st with
    | .Expr (.Call (.Attribute o n apos) [y] [] cpos) _ => (match goS (gm g p.base) p.sels with
      | .lst t => rightIf (((decide (n = ("append" : Str)) && chkP T F.N F.sc p.base p.sels o) && (noSup o && (apos.endLine == cpos.line))) && ((okV ow g e.vars && fits T e t) && chkE T F.N F.sc e y)) (some g)
      | _ => none)
    | _ => none)
  | .ext p e, st => (match st with
    | .Expr (.Call (.Attribute o n apos) [y] [] cpos) _ => rightIf (((decide (n = ("extend" : Str)) && chkP T F.N F.sc p.base p.sels o) && (noSup o && (apos.endLine == cpos.line))) && ((shA g e.vars && decide (goS (gm g p.base) p.sels = .lst .sh)) && chkE T F.N F.sc e y)) (some g)
    | _ => none)
  | .insr p i e ow, st => (match st with
    | .Expr (.Call (.Attribute o n apos) [y, z] [] cpos) _ => rightIf (((decide (n = ("insert" : Str)) && chkP T F.N F.sc p.base p.sels o) && (noSup o && (apos.endLine == cpos.line))) && ((okV ow g (i.vars ++ e.vars) && decide (goS (gm g p.base) p.sels = .lst .sh)) && (chkE T F.N F.sc i y && chkE T F.N F.sc e z))) (some g)
    | _ => none)
  | .clr p, st => (match st with
    | .Expr (.Call (.Attribute o n apos) [] [] cpos) _ => (match goS (gm g p.base) p.sels with
      | .lst t => rightIf ((decide (n = ("clear" : Str)) && chkP T F.N F.sc p.base p.sels o) && (noSup o && (apos.endLine == cpos.line))) (some g)
      | _ => none)
    | _ => none)
  | .rvs p, st => (match st with
    | .Expr (.Call (.Attribute o n apos) [] [] cpos) _ => rightIf ((decide (n = ("reverse" : Str)) && chkP T F.N F.sc p.base p.sels o) && ((noSup o && (apos.endLine == cpos.line)) && decide (goS (gm g p.base) p.sels = .lst .sh))) (some g)
    | _ => none)
  | .sti p i e ow, st => (match st with
    | .Assign [.Subscript o y _] v _ => (match goS (gm g p.base) p.sels with
      | .lst t => rightIf ((chkP T F.N F.sc p.base p.sels o && okV ow g e.vars) && ((chkE T F.N F.sc i y && chkE T F.N F.sc e v) && fits T e t)) (some g)
      | .dic => rightIf ((chkP T F.N F.sc p.base p.sels o && okV ow g e.vars) && (chkE T F.N F.sc i y && chkE T F.N F.sc e v)) (some g)
      | _ => none)
    | _ => none)
  | .stf p f e ow, st => (match st with
    | .Assign [.Attribute o n _] v _ => rightIf (((chkP T F.N F.sc p.base p.sels o && okV ow g e.vars) && (decide (f < T.nfl) && decide (n = T.fname f))) && (chkE T F.N F.sc e v && (isOb (goS (gm g p.base) p.sels) && fits T e ((goS (gm g p.base) p.sels).fld f)))) (some g)
    | _ => none)
  | .exp e, st => (match st with
    | .Expr v _ => rightIf (chkE T F.N F.sc e v && noComp v) (some g)
    | _ => none)
  | .mc none f i es ow, st => (match st with
    | .Expr (.Call (.Name x _) (.Name y _ :: ys) [] _) _ => rightIf (mB T F g f i es ow x y ys) (some g)
    | _ => none)
  | .mc (some j) f i es ow, st => (match st with
    | .Assign [.Name z p'] (.Call (.Name x _) (.Name y _ :: ys) [] _) _ => rightIf (mB T F g f i es ow x y ys && (slotB F g j && tgN F.N F.sc j (.Name z p'))) (some (g.set j .sh))
    | _ => none)
  | .mcr f i es ow, st => (match st with
    | .Return (some (.Call (.Name x _) (.Name y _ :: ys) [] _)) _ => rightIf (mB T F g f i es ow x y ys && retB F g) none
    | _ => none)
  | .ifm _ _ _ _ _ _ _, _ => none
  | .for tu tg it b, st => (match st with
    | .For t iter A [] _ => (match chkSs T F (some g) g b A with
      | some oa => rightIf ((((!isDit it && chkIt T F.N F.sc (isTup t) it iter) && tgB F.N F.sc tu tg t) && ((isRng it || shA g it.vars) && (tg.all fun i => !isMu F i && (decide (i < g.length) && decide (gm g i = .sh))))) && leO F.mu.isSome oa (some g)) (some g)
      | none => none)
    | _ => none)
  | .whl c b, st => (match st with
    | .While v A [] _ => (match chkSs T F (some g) g b A with
      | some oa => rightIf (chkE T F.N F.sc c v && leO F.mu.isSome oa (some g)) (some g)
      | none => none)
    | _ => none)
  | .ife c a b, st => (match st with
    | .If v A B _ => (match chkSs T F gL g a A, chkSs T F gL g b B with
      | some oa, some ob => rightIf (chkE T F.N F.sc c v && (leO F.mu.isSome oa (joinG oa ob) && leO F.mu.isSome ob (joinG oa ob))) (joinG oa ob)
      | _, _ => none)
    | _ => none)
  | .ret e, st => (match st with
    | .Return (some v) _ => rightIf ((chkE T F.N F.sc e v && retB F g) && (retE T F g e || retV F g e)) none
    | _ => none)
  | .retN, st => (match st with
    | .Return none _ => rightIf (retB F g) none
    | _ => none)
  | .brk, st => (match st with
    | .Break _ => (match gL with
      | some g' => rightIf (leB F.mu.isSome g g') none
      | none => none)
    | _ => none)
  | .ct, st => (match st with
    | .Continue _ => (match gL with
      | some g' => rightIf (leB F.mu.isSome g g') none
      | none => none)
    | _ => none)
  | .pas, st => (match st with
    | .Pass _ => some (some g)
    | _ => none)
  | .rse _ _, _ => none
  | .tre _ _ _ _, _ => none
  | .nv, _ => some none
def chkSs (T : Tab) (F : Fc) (gL : Gam) (g : List S) : ISs → List Stmt → Option Gam
  | .nil, sts => (match sts with
    | [] => some (some g)
    | _ => none)
  | .cons (.shr i) r, sts => if isMu F i = true then none else chkSs T F gL (g.set i .sh) r sts
  | .cons s r, sts => (match sts with
    | [] => none
    | st :: rest => (match chkS T F gL g s st with
      | none => none
      | some (some g1) => chkSs T F gL g1 r rest
      | some none => (match r, rest with
        | .nil, [] => some none
        | _, _ => none)))
end
theorem chkSs_cons {T : Tab} {F : Fc} {gL : Gam} {g : List S} {s : IS} {r : ISs} {sts : List Stmt} (hs : ∀ i, s ≠ .shr i) : chkSs T F gL g (.cons s r) sts = (match sts with
    | [] => none
    | st :: rest => (match chkS T F gL g s st with
      | none => none
      | some (some g1) => chkSs T F gL g1 r rest
      | some none => (match r, rest with
        | .nil, [] => some none
        | _, _ => none))) := by
  cases s <;> first
    | exact absurd rfl (hs _)
    | rfl
theorem right_inv {c : Bool} {og o : Gam} (h : rightIf c o = some og) : c = true ∧ o = og := by
  unfold rightIf at h
  split at h
  · rename_i hc
    cases h
    exact ⟨hc, rfl⟩
  · cases h
section
variable {W : Wd} {C : Calls} {E : XK} {k : Nat} {X : Cx} {F : Fc}
theorem mB_ok {g : List S} {f i : Nat} {es : IL} {ow : Bool} {x y : Str} {ys : List PySem.Expr} (h : mB W.T F g f i es ow x y ys = true) : MOk W F g f i es ow (gm g i) x y ys := by
  obtain ⟨h1, h2⟩ := and2 h
  obtain ⟨h1, h3⟩ := and2 h1
  obtain ⟨h1, h4⟩ := and2 h1
  obtain ⟨h3, h5⟩ := and2 h3
  obtain ⟨h2, h6⟩ := and2 h2
  obtain ⟨h2, h7⟩ := and2 h2
  obtain ⟨h6, h8⟩ := and2 h6
  exact ⟨h1, of_decide_eq_true h4, of_decide_eq_true h3, h5, of_decide_eq_true h2, h7, h6, rfl, h8⟩
theorem retB_ok {g : List S} (h : retB F g = true) : ∀ s, F.mu = some s → gm g 0 = s := fun s e => by
  unfold retB at h
  rw [e] at h
  exact of_decide_eq_true h
theorem swapped_none {es : List PySem.Expr} {kk : Nat} {p : Pos} {v : PySem.Expr} (h : noTup v = true) (env : PySem.Env) : swappedStores [.Tuple es kk p] v env = pure none := by
  cases v <;> first
    | rfl
    | cases h
theorem ss_retV (c : SCx W C k X F E) {b : Bs} {g : List S} {gL : Gam} (hm : b.m = F.mu.isSome) {i : Nat} {v : PySem.Expr} {pos : Pos} (hr : retV F g (.v i) = true) (he : chkE W.T F.N F.sc (.v i) v = true) : PS X (.Return (some v) pos) (denS W E b F g gL none (evS C W.T (.ret (.v i)))) := by
  unfold retV at hr
  cases hF : F.mu with
  | some s => rw [hF] at hr; cases hr
  | none =>
    rw [hF] at hr hm
    have hr : gm g i = F.ret := of_decide_eq_true hr
    unfold chkE at he
    split at he
    · obtain ⟨h1, h2⟩ := and2 he
      obtain ⟨v1, v2, v3⟩ := vis_of c.c h2
      refine PS.imp (ps_ret (pe_var (i := i) (by rw [c.c.n]; exact of_decide_eq_true h1) v1 v2 v3)) fun Dn σ H ⟨env, Fp, hG, hO⟩ => ?_
      have hO : Out W E b F Dn gL none ((getV env i).to fun d => .rt d env) := hO
      obtain ⟨d, e1, hd⟩ := hO.got (noex_getV _ _)
      obtain ⟨u, e2, o⟩ := hG.sl i d (getV_ok e1)
      have hd : RtP W b F Dn.rt d env := hd
      unfold RtP at hd
      rw [hF] at hd
      rw [hr] at o
      refine ⟨u, e2, hd u H (Fp i) (hG.ext0 hm) (fun a z => ⟨?_, (hG.nw i a z).2⟩) (o.mono fun a z => ⟨z.1, z.2 i⟩)⟩
      rcases (hG.nw i a z).1 with ⟨_, q⟩ | q
      · exact absurd q (hG.pm hm a)
      · exact q
    · cases he
mutual
theorem sndS : ∀ (s : IS) {st : Stmt} {g : List S} {gL og : Gam}, SCx W C k X F E → chkS W.T F gL g s st = some og → ∀ b : Bs, b.m = F.mu.isSome → PS X st (denS W E b F g gL og (evS C W.T s))
  | .asg i s e ow, st, g, gL, og, c, h, b, hm => by
    unfold chkS at h
    split at h
    · obtain ⟨hq, rfl⟩ := right_inv h
      obtain ⟨a1, a2⟩ := and2 hq
      obtain ⟨a3, a4⟩ := and2 a1
      obtain ⟨a5, a6⟩ := and2 a2
      obtain ⟨a7, a8⟩ := and2 a5
      obtain ⟨a9, a10⟩ := and2 a6
      obtain ⟨a11, a12⟩ := and2 a3
      have a13 : isMu F i = false := by simpa using a11
      unfold valB at a10
      split at a10
      · cases e with
        | comp elt tu tg it cnd =>
          obtain ⟨b1, b2⟩ := and2 a10
          exact ss_asgLc c hm a13 (of_decide_eq_true a12) a4 a7 a8 (by simpa using b1) a9 b2
        | _ => cases a10
      · exact ss_asg c hm a13 (of_decide_eq_true a12) a4 a7 a8 a9 a10
    · cases h
  | .asgT is e ow, st, g, gL, og, c, h, b, hm => by
    unfold chkS at h
    split at h
    · obtain ⟨hq, rfl⟩ := right_inv h; have h := hq
      obtain ⟨h1, h2⟩ := and2 h
      obtain ⟨h1, h3⟩ := and2 h1
      obtain ⟨h2, h4⟩ := and2 h2
      obtain ⟨h2, h5⟩ := and2 h2
      obtain ⟨h4, h6⟩ := and2 h4
      exact ss_asgT c hm h1 h3 h2 h5 h4 (swapped_none h6 _)
    · cases h
  | .par is es ow, st, g, gL, og, c, h, b, hm => by
    unfold chkS at h
    split at h
    · obtain ⟨hq, rfl⟩ := right_inv h
      obtain ⟨h1, h2⟩ := and2 hq
      obtain ⟨h1, h3⟩ := and2 h1
      obtain ⟨h2, h4⟩ := and2 h2
      obtain ⟨h2, h5⟩ := and2 h2
      exact ss_par c hm h1 h3 h2 h5 (of_decide_eq_true h4)
    · cases h
  | .aug i op e, st, g, gL, og, c, h, b, hm => by
    unfold chkS at h
    split at h
    · obtain ⟨hq, rfl⟩ := right_inv h
      obtain ⟨a1, a2⟩ := and2 hq
      obtain ⟨a3, a4⟩ := and2 a1
      obtain ⟨a5, a6⟩ := and2 a2
      obtain ⟨a7, a8⟩ := and2 a5
      obtain ⟨a9, a10⟩ := and2 a6
      obtain ⟨a11, a12⟩ := and2 a3
      have a13 : isMu F i = false := by simpa using a11
      have a14 := of_decide_eq_true a9
      subst a14
      exact ss_aug c hm a13 (of_decide_eq_true a12) a4 (of_decide_eq_true a7) (of_decide_eq_true a8) a10
    · cases h
  | .shr _, st, g, gL, og, c, h, b, hm => by
    unfold chkS at h
    cases h
  | .app p e ow, st, g, gL, og, c, h, b, hm => by
    unfold chkS at h
    split at h
    · split at h
      · rename_i t ht
        obtain ⟨hq, rfl⟩ := right_inv h; have h := hq
        obtain ⟨h1, h2⟩ := and2 h
        obtain ⟨h1, h3⟩ := and2 h1
        obtain ⟨h1, h4⟩ := and2 h1
        obtain ⟨h3, h5⟩ := and2 h3
        obtain ⟨h2, h6⟩ := and2 h2
        obtain ⟨h2, h7⟩ := and2 h2
        obtain rfl := of_decide_eq_true h1
        exact ss_app c h4 h3 h5 h2 h7 h6 ht
      · cases h
    · cases h
  | .ext p e, st, g, gL, og, c, h, b, hm => by
    unfold chkS at h
    split at h
    · obtain ⟨hq, rfl⟩ := right_inv h; have h := hq
      obtain ⟨h1, h2⟩ := and2 h
      obtain ⟨h1, h3⟩ := and2 h1
      obtain ⟨h1, h4⟩ := and2 h1
      obtain ⟨h3, h5⟩ := and2 h3
      obtain ⟨h2, h6⟩ := and2 h2
      obtain ⟨h2, h7⟩ := and2 h2
      obtain rfl := of_decide_eq_true h1
      exact ss_ext c h4 h3 h5 h2 h6 (of_decide_eq_true h7)
    · cases h
  | .insr p i e ow, st, g, gL, og, c, h, b, hm => by
    unfold chkS at h
    split at h
    · obtain ⟨hq, rfl⟩ := right_inv h; have h := hq
      obtain ⟨h1, h2⟩ := and2 h
      obtain ⟨h1, h3⟩ := and2 h1
      obtain ⟨h1, h4⟩ := and2 h1
      obtain ⟨h3, h5⟩ := and2 h3
      obtain ⟨h2, h6⟩ := and2 h2
      obtain ⟨h2, h7⟩ := and2 h2
      obtain ⟨h6, h8⟩ := and2 h6
      obtain rfl := of_decide_eq_true h1
      exact ss_insr c h4 h3 h5 h2 h6 h8 (of_decide_eq_true h7)
    · cases h
  | .clr p, st, g, gL, og, c, h, b, hm => by
    unfold chkS at h
    split at h
    · split at h
      · rename_i t ht
        obtain ⟨hq, rfl⟩ := right_inv h; have h := hq
        obtain ⟨h1, h3⟩ := and2 h
        obtain ⟨h1, h4⟩ := and2 h1
        obtain ⟨h3, h5⟩ := and2 h3
        obtain rfl := of_decide_eq_true h1
        exact ss_clr c h4 h3 h5 ht
      · cases h
    · cases h
  | .rvs p, st, g, gL, og, c, h, b, hm => by
    unfold chkS at h
    split at h
    · obtain ⟨hq, rfl⟩ := right_inv h; have h := hq
      obtain ⟨h1, h3⟩ := and2 h
      obtain ⟨h1, h4⟩ := and2 h1
      obtain ⟨h3, h6⟩ := and2 h3
      obtain ⟨h3, h5⟩ := and2 h3
      obtain rfl := of_decide_eq_true h1
      exact ss_rvs c h4 h3 h5 (of_decide_eq_true h6)
    · cases h
  | .sti p i e ow, st, g, gL, og, c, h, b, hm => by
    unfold chkS at h
    split at h
    · split at h
      · rename_i t ht
        obtain ⟨hq, rfl⟩ := right_inv h; have h := hq
        obtain ⟨h1, h2⟩ := and2 h
        obtain ⟨h1, h3⟩ := and2 h1
        obtain ⟨h2, h4⟩ := and2 h2
        obtain ⟨h2, h5⟩ := and2 h2
        exact ss_stiL c h1 h3 h2 h5 h4 ht
      · rename_i ht
        obtain ⟨hq, rfl⟩ := right_inv h; have h := hq
        obtain ⟨h1, h2⟩ := and2 h
        obtain ⟨h1, h3⟩ := and2 h1
        obtain ⟨h2, h5⟩ := and2 h2
        exact ss_stiD c h1 h3 h2 h5 ht
      · cases h
    · cases h
  | .stf p f e ow, st, g, gL, og, c, h, b, hm => by
    unfold chkS at h
    split at h
    · obtain ⟨hq, rfl⟩ := right_inv h
      obtain ⟨a1, a2⟩ := and2 hq
      obtain ⟨a3, a4⟩ := and2 a1
      obtain ⟨a5, a6⟩ := and2 a3
      obtain ⟨a7, a8⟩ := and2 a4
      obtain ⟨a9, a10⟩ := and2 a2
      obtain ⟨a11, a12⟩ := and2 a10
      have a13 := of_decide_eq_true a8
      subst a13
      exact ss_stf c a5 a6 (of_decide_eq_true a7) a9 a11 a12
    · cases h
  | .exp e, st, g, gL, og, c, h, b, hm => by
    unfold chkS at h
    split at h
    · obtain ⟨hq, rfl⟩ := right_inv h; have h := hq
      obtain ⟨h1, h2⟩ := and2 h
      exact ss_exp c h1 h2
    · cases h
  | .mc none f i es ow, st, g, gL, og, c, h, b, hm => by
    unfold chkS at h
    split at h
    · obtain ⟨hq, rfl⟩ := right_inv h; have h := hq
      exact ss_mc c (mB_ok h)
    · cases h
  | .mc (some j) f i es ow, st, g, gL, og, c, h, b, hm => by
    unfold chkS at h
    split at h
    · obtain ⟨hq, rfl⟩ := right_inv h; have h := hq
      obtain ⟨h1, h2⟩ := and2 h
      obtain ⟨h2, h3⟩ := and2 h2
      obtain ⟨h2, h4⟩ := and2 h2
      exact ss_mcSet c hm (by simpa using h2) (of_decide_eq_true h4) h3 (mB_ok h1)
    · cases h
  | .mcr f i es ow, st, g, gL, og, c, h, b, hm => by
    unfold chkS at h
    split at h
    · obtain ⟨hq, rfl⟩ := right_inv h; have h := hq
      obtain ⟨h1, h2⟩ := and2 h
      exact ss_mcr c hm (retB_ok h2) (mB_ok h1)
    · cases h
  | .ifm _ _ _ _ _ _ _, st, g, gL, og, c, h, b, hm => by
    unfold chkS at h
    cases h
  | .for tu tg it x, st, g, gL, og, c, h, b, hm => by
    unfold chkS at h
    split at h
    · split at h
      · rename_i oa hb
        obtain ⟨hq, rfl⟩ := right_inv h; have h := hq
        obtain ⟨h1, h2⟩ := and2 h
        obtain ⟨h1, h3⟩ := and2 h1
        obtain ⟨h1, h4⟩ := and2 h1
        obtain ⟨h3, h5⟩ := and2 h3
        obtain ⟨h0, h1⟩ := and2 h1
        exact ss_for c hm (by simpa using h0) h1 h4 (Bool.or_eq_true_iff.mp h3) h5 (fun b' hm' => sndSs x c hb b' hm') fun ga e => by
          obtain ⟨g', e1, l⟩ := leO_ok h2 ga e
          cases e1
          rw [hm]
          exact l
      · cases h
    · cases h
  | .whl e x, st, g, gL, og, c, h, b, hm => by
    unfold chkS at h
    split at h
    · split at h
      · rename_i oa hb
        obtain ⟨hq, rfl⟩ := right_inv h; have h := hq
        obtain ⟨h1, h2⟩ := and2 h
        exact ss_whl c h1 (sndSs x c hb b hm) fun ga e => by
          obtain ⟨g', e1, l⟩ := leO_ok h2 ga e
          cases e1
          rw [hm]
          exact l
      · cases h
    · cases h
  | .ife e x y, st, g, gL, og, c, h, b, hm => by
    unfold chkS at h
    split at h
    · split at h
      · rename_i oa ob ha hb
        obtain ⟨hq, rfl⟩ := right_inv h; have h := hq
        obtain ⟨h1, h2⟩ := and2 h
        obtain ⟨h2, h3⟩ := and2 h2
        exact ss_ife c h1 (sndSs x c ha b hm) (sndSs y c hb b hm) (by rw [hm]; exact leO_ok h2) (by rw [hm]; exact leO_ok h3)
      · cases h
    · cases h
  | .ret e, st, g, gL, og, c, h, b, hm => by
    unfold chkS at h
    split at h
    · obtain ⟨hq, rfl⟩ := right_inv h; have h := hq
      obtain ⟨h1, h2⟩ := and2 h
      obtain ⟨h1, h3⟩ := and2 h1
      rcases Bool.or_eq_true_iff.mp h2 with h2 | h2
      · exact ss_ret c hm (retB_ok h3) (fun q => by
          unfold retE at h2
          rw [q] at h2
          exact h2) h1
      · cases e with
        | v i => exact ss_retV c hm h2 h1
        | _ =>
          unfold retV at h2
          cases hF : F.mu <;> (rw [hF] at h2; cases h2)
    · cases h
  | .retN, st, g, gL, og, c, h, b, hm => by
    unfold chkS at h
    split at h
    · obtain ⟨hq, rfl⟩ := right_inv h; have h := hq
      exact ss_retN hm (retB_ok h)
    · cases h
  | .brk, st, g, gL, og, c, h, b, hm => by
    unfold chkS at h
    split at h
    · split at h
      · obtain ⟨hq, rfl⟩ := right_inv h; have h := hq
        exact ss_brk (by rw [hm]; exact leB_ok h)
      · cases h
    · cases h
  | .ct, st, g, gL, og, c, h, b, hm => by
    unfold chkS at h
    split at h
    · split at h
      · obtain ⟨hq, rfl⟩ := right_inv h; have h := hq
        exact ss_ct (by rw [hm]; exact leB_ok h)
      · cases h
    · cases h
  | .pas, st, g, gL, og, c, h, b, hm => by
    unfold chkS at h
    split at h
    · cases h
      exact ss_pas
    · cases h
  | .rse _ _, st, g, gL, og, c, h, b, hm => by
    unfold chkS at h
    cases h
  | .tre _ _ _ _, st, g, gL, og, c, h, b, hm => by
    unfold chkS at h
    cases h
  | .nv, st, g, gL, og, c, h, b, hm => PS.imp ps_never fun Dn σ H ⟨env, Fp, hG, hO⟩ => hO.elim
theorem sndSs : ∀ (ss : ISs) {sts : List Stmt} {g : List S} {gL og : Gam}, SCx W C k X F E → chkSs W.T F gL g ss sts = some og → ∀ b : Bs, b.m = F.mu.isSome → PSs X sts (denS W E b F g gL og (evSs C W.T ss))
  | .nil, sts, g, gL, og, c, h, b, hm => by
    unfold chkSs at h
    split at h
    · cases h
      exact ss_nil
    · cases h
  | .cons s r, sts, g, gL, og, c, h, b, hm => by
    by_cases hs : ∃ i, s = .shr i
    · obtain ⟨i, rfl⟩ := hs
      unfold chkSs at h
      split at h
      · cases h
      · rename_i hi
        exact ss_shr (notMu hm (by simpa using hi)) (sndSs r c h b hm)
    · rw [chkSs_cons fun i q => hs ⟨i, q⟩] at h
      cases sts with
      | nil => cases h
      | cons st rest =>
        dsimp only at h
        split at h
        · cases h
        · rename_i g1 h1
          exact ss_cons (sndS s c h1 b hm) (sndSs r c h b hm)
        · rename_i h1
          split at h
          · cases h
            exact ss_end (sndS s c h1 b hm)
          · cases h
end
end
end G
end
section
set_option Elab.async false
set_option linter.all false
set_option maxRecDepth 100000
set_option maxHeartbeats 4000000
namespace G
open PySem PySem.Spec PyProof.Rows L2
/-! ### a def kept -/
structure Dd where
  at_ : Str × Option Str
  name : Str
  qual : Str
  st : Stmt
  ps : List Str
  N : List Str
def scopeB (N ps : List Str) (sc : Scope) : Bool := ((match sc.kind with
  | .function => true
  | _ => false) && ((!sc.isCoroutine && !sc.isGenerator) && decide N.Nodup)) && ((decide (N.take ps.length = ps) && ps.all fun x => (match sc.names.lookup x with
  | some .local => true
  | some .cell => true
  | _ => false)) && sc.names.all fun y => (match y.2 with
  | .free => false
  | _ => true))
theorem scope_ok {N ps : List Str} {sc : Scope} (h : scopeB N ps sc = true) : FnScope N ps sc := by
  obtain ⟨h1, h2⟩ := and2 h
  obtain ⟨h1, h3⟩ := and2 h1
  obtain ⟨h3, h4⟩ := and2 h3
  obtain ⟨h3, h5⟩ := and2 h3
  obtain ⟨h2, h6⟩ := and2 h2
  obtain ⟨h2, h7⟩ := and2 h2
  refine ⟨?_, by simpa using h3, by simpa using h5, of_decide_eq_true h4, of_decide_eq_true h2, fun x hx => ?_, fun y hy e => ?_⟩
  · split at h1
    · assumption
    · cases h1
  · have := List.all_eq_true.mp h7 x hx
    split at this
    · exact .inl (by assumption)
    · exact .inr (by assumption)
    · cases this
  · have := List.all_eq_true.mp h6 y hy
    rw [e] at this
    cases this
def fcOf (d : Dd) (fn : Fn) : Fc := ⟨d.N, defScope d.st, fn.mu, fn.ret⟩
def g0Of (d : Dd) (fn : Fn) : List S := match fn.mu with
  | none => List.replicate d.N.length .sh
  | some s => s :: List.replicate (d.N.length - 1) .sh
def endB (F : Fc) (og : Gam) : Bool := match og with
  | none => true
  | some g => retB F g
/-- all that is looked at of a def -/
def ddB (T : Tab) (d : Dd) (fn : Fn) : Bool := (scopeB d.N d.ps (defScope d.st) && (decide (fn.np = d.ps.length) && decide (fn.ns = d.N.length))) && ((!fn.xs && decide (fn.mu ≠ some .sh)) && (match chkSs T (fcOf d fn) none (g0Of d fn) fn.body (defBody d.st) with
  | some og => endB (fcOf d fn) og
  | none => false))
theorem ddB_ok {T : Tab} {d : Dd} {fn : Fn} (h : ddB T d fn = true) : FnScope d.N d.ps (defScope d.st) ∧ fn.np = d.ps.length ∧ fn.ns = d.N.length ∧ fn.xs = false ∧ fn.mu ≠ some .sh ∧ ∃ og, chkSs T (fcOf d fn) none (g0Of d fn) fn.body (defBody d.st) = some og ∧ endB (fcOf d fn) og = true := by
  obtain ⟨h1, h2⟩ := and2 h
  obtain ⟨h1, h3⟩ := and2 h1
  obtain ⟨h3, h4⟩ := and2 h3
  obtain ⟨h2, h5⟩ := and2 h2
  obtain ⟨h2, h6⟩ := and2 h2
  refine ⟨scope_ok h1, of_decide_eq_true h3, of_decide_eq_true h4, by simpa using h2, of_decide_eq_true h6, ?_⟩
  split at h5
  · exact ⟨_, by assumption, h5⟩
  · cases h5
/-- a def as it stands behind the top -/
structure Std (K : PySem.W.Frag) (d : Dd) (a : Addr) (fd : FuncData) : Prop where
  f : FunD K d.name d.qual (defArgs d.st) (defBody d.st) (defScope d.st) [] [] a fd
  b : Binds K fd d.ps []
section
variable {W : Wd} {C : Calls} {k : Nat} {P : Program} {w : World} {mg : Str → Option Value} {base : Heap}
theorem gm_rep {n i : Nat} : gm (List.replicate n .sh) i = .sh := by
  unfold gm
  rw [List.getD_eq_getElem?_getD, List.getElem?_replicate]
  split <;> rfl
theorem start_len {N : List Str} {vs : List V} (h : vs.length ≤ N.length) : (L2.start N vs).length = N.length := by
  unfold L2.start
  rw [List.length_append, List.length_map, List.length_replicate]
  omega
theorem startE_get {n : Nat} {ds : List D} {i : Nat} {d : D} (h : (startE n ds)[i]? = some (some d)) : ds[i]? = some d := by
  unfold startE at h
  by_cases hi : i < ds.length
  · rw [List.getElem?_append_left (by simpa using hi), List.getElem?_map] at h
    cases e : ds[i]? with
    | none => rw [e] at h; cases h
    | some a => rw [e] at h; cases h; rfl
  · rw [List.getElem?_append_right (by simpa using hi), List.getElem?_replicate] at h
    split at h <;> cases h
theorem start_get {N : List Str} {vs : List V} {i : Nat} {v : V} (h : vs[i]? = some v) : (L2.start N vs)[i]? = some (some v) := by
  unfold L2.start
  rw [List.getElem?_append_left (by simpa using (List.getElem?_eq_some_iff.mp h).1), List.getElem?_map, h]
  rfl
theorem scx (calls : CallsOk W P w mg base k C) (facts : Facts W mg) {d : Dd} (S : FnScope d.N d.ps (defScope d.st)) {fn : Fn} {a : Addr} {cdv : Value} {A : Around} {outer : List PySem.Env} {s : Shared} {H : Hp} {E : XK} (hr : Room (k + 1) (A.deeper (envOfC d.qual (defScope d.st) s.heap.objs.size a cdv))) :
    SCx W C k (cxOf (L2.CX P w) P w W.K mg base d.N d.qual (defScope d.st) a cdv A outer s H E).nox (fcOf d fn) G.E0 where
  c := {
    K := rfl
    n := rfl
    nd := S.nd
    sc := rfl
    calm := rfl
    room := hr
    facts := facts
    calls := calls
    pass := fun pins σ H s e s' I h => by
      obtain ⟨_, _, _, _, _, _, _, _, _, _, _, _, z⟩ := h
      exact z.elim }
  t := {
    n := rfl
    nd := S.nd
    calm := rfl
    loc := fun x h => h
    cel := fun x h => ⟨h, rfl⟩ }
  hp := PassesOwn.never
  kind := S.kind
/-- one def, its calls kept -/
theorem fnP_ok (G : Prog) (hT : G.tab = W.T) (calls : CallsOk W P w mg base k C) (facts : Facts W mg) {d : Dd} {fn : Fn} {a : Addr} {fd : FuncData} (st : Std W.K d a fd) (hB : ddB W.T d fn = true) (hm : fn.mu = none) {f : Nat} (hr : W.T.ret f = fn.ret) {C' : Calls} (hC : ∀ ds, C'.p f ds = callP C W.T fn ds) :
    FnOk P w W.K mg base (L2.CX P w) (k + 2) a fd d.ps (spP W C' f) := by
  obtain ⟨Sc, hnp, hns, hxs, _, og, hch, hend⟩ := ddB_ok hB
  have lens : ∀ {vs : List V} {H : Hp} {Q : VK} {E : XK}, spP W C' f vs H Q E → vs.length = d.ps.length := fun {vs H Q E} h => by
    obtain ⟨P', ds, r, hw⟩ := h
    rw [hC] at hw
    unfold callP at hw
    split at hw
    · rename_i hc
      have := (and2 hc).2
      have : ds.length = fn.np := by simpa using this
      rw [← r.1, this, hnp]
    · exact hw.elim
  refine st.f.ok Sc (fun vs H Q E h => lens h) fun cdv A outer s H vs Q E hroom h => ?_
  have hvl := lens h
  obtain ⟨P', ds, r, hw⟩ := h
  rw [hC] at hw
  unfold callP at hw
  split at hw
  case isFalse => exact hw.elim
  rename_i hc
  have hdl : ds.length = fn.np := by simpa using (and2 hc).2
  refine ⟨_, PSs.nox (sndSs fn.body (scx calls facts Sc hroom) hch ⟨H, P', fun _ => False, .non, false, H, fun _ => False⟩ (by show false = fn.mu.isSome; rw [hm]; rfl)), ?_⟩
  have hpl : d.ps.length ≤ d.N.length := by have := congrArg List.length Sc.pre; rw [List.length_take] at this; omega
  unfold denS
  refine ⟨startE fn.ns ds, fun _ _ => False, ⟨fun a o _ q => q, fun a o q => ⟨o, q⟩, fun _ _ _ z => False.elim z, fun _ _ z => False.elim z, fun _ _ z => z, ?_, fun i d0 e => ?_, (fun z => nomatch z), fun _ _ z => z, fun a o q _ => q, fun _ _ z => False.elim z, fun a o q => ⟨o, q⟩⟩, ?_⟩
  · rw [start_len (by omega)]
    unfold startE
    rw [List.length_append, List.length_map, List.length_replicate, hns]
    omega
  · have e := startE_get e
    obtain ⟨v, hv, rv⟩ := r.get e
    refine ⟨v, start_get hv, ?_⟩
    have : gm (g0Of d fn) i = .sh := by
      unfold g0Of
      rw [hm]
      exact gm_rep
    rw [this]
    exact .sh (rv.mono fun a z => ⟨.inl z, fun _ z => z⟩)
  · cases ho : evSs C W.T fn.body (startE fn.ns ds) with
    | nx e =>
      rw [ho] at hw
      have hw : Res W H P' (W.T.ret f) .non Q := hw
      cases og with
      | none => trivial
      | some g' => exact fun σ H' Fp hG => hw .non H' (fun _ => False) (hG.ext0 rfl) (fun _ z => z.elim) (.flat rfl .non)
    | bk e => rw [ho] at hw; exact hw.elim
    | ct e => rw [ho] at hw; exact hw.elim
    | rt dd e =>
      rw [ho] at hw
      have hw : Res W H P' (W.T.ret f) dd Q := hw
      show RtP W _ (fcOf d fn) Q dd e
      unfold RtP fcOf
      rw [hm]
      rw [hr] at hw
      exact fun v H' G' e1 f1 o1 => hw v H' G' e1 f1 o1
    | ex cc fs =>
      rw [ho] at hw
      have hw : Wp W E H (if fn.xs then R.ex cc fs else R.bad) fun d => Res W H P' (W.T.ret f) d Q := hw
      rw [hxs] at hw
      exact hw.elim
    | bad => rw [ho] at hw; exact hw.elim
theorem fnM_ok (G : Prog) (hT : G.tab = W.T) (calls : CallsOk W P w mg base k C) (facts : Facts W mg) {d : Dd} {fn : Fn} {a : Addr} {fd : FuncData} (st : Std W.K d a fd) (hB : ddB W.T d fn = true) {s0 : S} (hm : fn.mu = some s0) {f : Nat} {C' : Calls} (hC : ∀ d0 ds, C'.m f d0 ds = callM C W.T fn d0 ds) :
    FnOk P w W.K mg base (L2.CX P w) (k + 2) a fd d.ps (spM W C' f s0) := by
  obtain ⟨Sc, hnp, hns, hxs, hsh, og, hch, hend⟩ := ddB_ok hB
  have hc' : ∀ {d0 : D} {ds : List D} {q : D × D}, C'.m f d0 ds = .ok q → ds.length + 1 = fn.np := fun {d0 ds q} h => by
    rw [hC] at h
    unfold callM at h
    split at h
    · rename_i hc
      simpa using (and2 hc).2
    · cases h
  have lens : ∀ {vs : List V} {H : Hp} {Q : VK} {E : XK}, spM W C' f s0 vs H Q E → vs.length = d.ps.length := fun {vs H Q E} h => by
    obtain ⟨P', ds, d0, v0, us, G0, rfl, r, _, _, _, rr, d1, h1, _⟩ := h
    rw [List.length_cons, ← r.1, hc' h1, hnp]
  refine st.f.ok Sc (fun vs H Q E h => lens h) fun cdv A outer s H vs Q E hroom h => ?_
  have hvl := lens h
  obtain ⟨P', ds, d0, v0, us, G0, rfl, r, ow, pg, gn, rr, d1, h1, kk⟩ := h
  have hdl := hc' h1
  refine ⟨_, PSs.nox (sndSs fn.body (scx calls facts Sc hroom) hch ⟨H, P', G0, v0, true, H, G0⟩ (by show true = fn.mu.isSome; rw [hm]; rfl)), ?_⟩
  have hpl : d.ps.length ≤ d.N.length := by have := congrArg List.length Sc.pre; rw [List.length_take] at this; omega
  have rl := r.1
  have hvl2 : us.length + 1 = d.ps.length := hvl
  have hF : ∀ {i : Nat} {a : Addr}, (if i = 0 then G0 a else False) → i = 0 ∧ G0 a := fun {i a} z => by
    by_cases hi : i = 0
    · rw [if_pos hi] at z; exact ⟨hi, z⟩
    · rw [if_neg hi] at z; exact z.elim
  have fin : ∀ {e : Env} {σ' : L2.St} {H' : Hp} {F' : Fps} {g' : List S} {v : V} {x : D}, getV e 0 = .ok d1 → x = rr → Good W g' ⟨H, P', G0, v0, true, H, G0⟩ e σ' H' F' → gm g' 0 = s0 → (∀ P, Rp W H' P x v) → noMut x = true → Q v H' := fun {e σ' H' F' g' v x} hv hx hG hs rv hn => by
    subst hx
    obtain ⟨v1, e1, o1⟩ := hG.sl 0 d1 (getV_ok hv)
    have := hG.mu rfl
    rw [e1] at this
    cases this
    rw [hs] at o1
    refine kk v H' (F' 0) (fun a o n q => hG.ext a o n q) hG.al (fun a z => ?_) (o1.mono fun a z => ⟨z.1, z.2 0⟩) rv hn
    obtain ⟨z1, z2⟩ := hG.nw 0 a z
    exact ⟨z1.elim (fun z => .inl z.2) .inr, z2⟩
  unfold denS
  refine ⟨startE fn.ns (d0 :: ds), fun i a => if i = 0 then G0 a else False, ⟨fun a o _ q => q, fun a o q => ⟨o, q⟩, fun i j a z z' => (hF z).1.trans (hF z').1.symm, fun i a z => ⟨.inl (hF z), gn a (hF z).2⟩, pg, ?_, fun i dd e => ?_, fun _ => start_get rfl, fun z => (nomatch z), fun a o q _ => q, fun i a z => .inl (hF z).2, fun a o q => ⟨o, q⟩⟩, ?_⟩
  · rw [start_len (by rw [List.length_cons]; omega)]
    unfold startE
    rw [List.length_append, List.length_map, List.length_replicate, hns, List.length_cons]
    omega
  · have e := startE_get e
    cases i with
    | zero =>
      cases e
      refine ⟨v0, start_get rfl, ?_⟩
      have : gm (g0Of d fn) 0 = s0 := by
        unfold g0Of
        rw [hm]
        rfl
      rw [this]
      exact (ow.mono fun a z => ⟨.inl z, fun i w => pg a z (hF w).2⟩).wide fun a z => by rw [if_pos rfl]; exact z
    | succ i =>
      obtain ⟨v, hv, rv⟩ := r.get (show ds[i]? = some dd by simpa using e)
      refine ⟨v, start_get (by simpa using hv), ?_⟩
      have : gm (g0Of d fn) (i + 1) = .sh := by
        unfold g0Of
        rw [hm]
        unfold gm
        rw [List.getD_eq_getElem?_getD, List.getElem?_cons_succ, List.getElem?_replicate]
        split <;> rfl
      rw [this]
      exact .sh (rv.mono fun a z => ⟨.inl z, fun j w => pg a z (hF w).2⟩)
  · rw [hC] at h1
    unfold callM at h1
    split at h1
    case isFalse => cases h1
    cases ho : evSs C W.T fn.body (startE fn.ns (d0 :: ds)) with
    | nx e =>
      rw [ho] at h1
      obtain ⟨dz, hz1, hz2⟩ := bind_inv (show (getV e 0).bind (fun d => R.ok (D.non, d)) = .ok (rr, d1) from h1)
      cases hz2
      cases og with
      | none => trivial
      | some g' =>
        intro σ H' Fp hG
        refine fin (x := .non) hz1 rfl hG ?_ (fun _ => .non) rfl
        unfold endB at hend
        exact retB_ok hend s0 hm
    | bk e => rw [ho] at h1; cases h1
    | ct e => rw [ho] at h1; cases h1
    | rt dd e =>
      rw [ho] at h1
      have h1 : (if noMut dd then (getV e 0).bind fun d => R.ok (dd, d) else R.bad) = .ok (rr, d1) := h1
      split at h1
      case isFalse => cases h1
      rename_i hn
      obtain ⟨dz, hz1, hz2⟩ := bind_inv h1
      cases hz2
      show RtP W _ (fcOf d fn) Q rr e
      unfold RtP fcOf
      rw [hm]
      exact ⟨hn, fun σ' H' F' g' v hG hs rv => fin hz1 rfl hG hs rv hn⟩
    | ex cc fs => rw [ho] at h1; cases h1
    | bad => rw [ho] at h1; cases h1
end
end G
end
section
set_option Elab.async false
set_option linter.all false
set_option maxRecDepth 100000
set_option maxHeartbeats 4000000
namespace G
open PySem PySem.Spec PyProof.Rows L2
section
variable {W : Wd} {P : Program} {w : World} {mg : Str → Option Value} {base : Heap}
/-- a text's defs as they stand -/
structure Txts (W : Wd) (G : Prog) (mg : Str → Option Value) (dd : Nat → Dd) (ad : Nat → Addr) (l : List Nat) : Prop where
  tab : G.tab = W.T
  fn : ∀ f ∈ l, ∃ fn fd, G.fn f = some fn ∧ ddB W.T (dd f) fn = true ∧ W.T.ret f = fn.ret ∧ W.T.mty f = fn.mu ∧ Std W.K (dd f) (ad f) fd
  le : ∀ f ∈ W.T.fns, f ∈ l
  glo : ∀ f ∈ W.T.fns, mg (W.T.gname f) = some (.ref (ad f))
  cls : ∀ c, c < W.T.ncl → W.T.init c ∈ l ∧ Mk W.K (W.cadr c) (ad (W.T.init c)) ∧ mg (W.T.cname c) = some (.ref (W.cadr c)) ∧ W.T.mty (W.T.init c) = some (W.T.cty c) ∧ isOb (W.T.cty c) = true
theorem callM_noex (C : Calls) (T : Tab) (fn : Fn) (d : D) (ds : List D) : NoEx (callM C T fn d ds) := by
  unfold callM
  split
  · split
    · exact .bind (noex_getV _ _) fun _ => .ok _
    · split
      · exact .bind (noex_getV _ _) fun _ => .ok _
      · exact .bad
    · exact .bad
  · exact .bad
theorem run_mx (G : Prog) : ∀ (n : Nat) (f : Nat) (d : D) (ds : List D), NoEx ((run G n).m f d ds)
  | 0, f, d, ds => .bad
  | n + 1, f, d, ds => by
    show NoEx (match G.fn f with
      | some fn => callM (run G n) G.tab fn d ds
      | none => .bad)
    split
    · exact callM_noex _ _ _ _ _
    · exact .bad
theorem fns_ok {G : Prog} {dd : Nat → Dd} {ad : Nat → Addr} {m : List Nat} (facts : Facts W mg) (t : Txts W G mg dd ad m) : ∀ n, CallsOk W P w mg base (2 * n) (run G n)
  | 0 => by
    refine ⟨fun f hf hm => ?_, fun f s hf hm => ?_, fun c hc => ?_, fun f d ds c fs => run_mx G 0 f d ds c fs⟩
    · obtain ⟨fn, fd, h1, h2, h3, h4, h5⟩ := t.fn f (t.le f (by simpa using hf))
      exact ⟨ad f, fd, (dd f).ps, t.glo f (by simpa using hf), h5.f.kp, h5.b, ⟨fun vs H Q E ⟨P', ds, r, h⟩ => h.elim, fun A outer s H args us vs Q E _ _ _ _ ⟨P', ds, r, h⟩ => h.elim⟩⟩
    · obtain ⟨fn, fd, h1, h2, h3, h4, h5⟩ := t.fn f (t.le f (by simpa using hf))
      exact ⟨ad f, fd, (dd f).ps, t.glo f (by simpa using hf), h5.f.kp, h5.b, ⟨fun vs H Q E ⟨P', ds, d0, v0, us, G0, _, _, _, _, _, r, d1, h, _⟩ => (nomatch h), fun A outer s H args us vs Q E _ _ _ _ ⟨P', ds, d0, v0, us, G0, _, _, _, _, _, r, d1, h, _⟩ => (nomatch h)⟩⟩
    · obtain ⟨h1, h2, h3, h4, h5⟩ := t.cls c hc
      obtain ⟨fn, fd, g1, g2, g3, g4, g5⟩ := t.fn _ h1
      exact ⟨ad _, fd, (dd _).ps, h2, h3, g5.b, ⟨fun vs H Q E ⟨P', ds, d0, v0, us, G0, _, _, _, _, _, r, d1, h, _⟩ => (nomatch h), fun A outer s H args us vs Q E _ _ _ _ ⟨P', ds, d0, v0, us, G0, _, _, _, _, _, r, d1, h, _⟩ => (nomatch h)⟩, h5⟩
  | n + 1 => by
    have ih := fns_ok facts t n
    have hp : ∀ {f : Nat} {fn : Fn}, G.fn f = some fn → ∀ ds, (run G (n + 1)).p f ds = callP (run G n) W.T fn ds := fun {f fn} h ds => by
      show (match G.fn f with
        | some fn => callP (run G n) G.tab fn ds
        | none => .bad) = _
      rw [h, t.tab]
    have hm : ∀ {f : Nat} {fn : Fn}, G.fn f = some fn → ∀ d ds, (run G (n + 1)).m f d ds = callM (run G n) W.T fn d ds := fun {f fn} h d ds => by
      show (match G.fn f with
        | some fn => callM (run G n) G.tab fn d ds
        | none => .bad) = _
      rw [h, t.tab]
    refine ⟨fun f hf h0 => ?_, fun f s hf h0 => ?_, fun c hc => ?_, fun f d ds c fs => run_mx G _ f d ds c fs⟩
    · obtain ⟨fn, fd, h1, h2, h3, h4, h5⟩ := t.fn f (t.le f (by simpa using hf))
      exact ⟨ad f, fd, (dd f).ps, t.glo f (by simpa using hf), h5.f.kp, h5.b, fnP_ok G t.tab ih facts h5 h2 (h4.symm.trans h0) h3 (hp h1)⟩
    · obtain ⟨fn, fd, h1, h2, h3, h4, h5⟩ := t.fn f (t.le f (by simpa using hf))
      exact ⟨ad f, fd, (dd f).ps, t.glo f (by simpa using hf), h5.f.kp, h5.b, fnM_ok G t.tab ih facts h5 h2 (h4.symm.trans h0) (hm h1)⟩
    · obtain ⟨h1, h2, h3, h4, h5⟩ := t.cls c hc
      obtain ⟨fn, fd, g1, g2, g3, g4, g5⟩ := t.fn _ h1
      exact ⟨ad _, fd, (dd _).ps, h2, h3, g5.b, fnM_ok G t.tab ih facts g5 g2 (g4.symm.trans h4) (hm g1), h5⟩
def AllL (p : Nat → Prop) : List Nat → Prop
  | [] => True
  | a :: r => p a ∧ AllL p r
theorem AllL.mem {p : Nat → Prop} : ∀ {l : List Nat}, AllL p l → ∀ a ∈ l, p a
  | [], _, a, h => by simp at h
  | b :: r, h, a, ha => (List.mem_cons.mp ha).elim (fun e => by rw [e]; exact h.1) fun q => AllL.mem h.2 a q
theorem nmF_inj {l : List Str} (h1 : l.Nodup) (h2 : (l.all fun x => decide (x.cps.size ≠ 1)) = true) : ∀ a b, nmF l a = nmF l b → a = b := fun a b e => by
  unfold nmF at e
  rw [List.getD_eq_getElem?_getD, List.getD_eq_getElem?_getD] at e
  have big : ∀ {i : Nat} {x : Str}, l[i]? = some x → ∀ j, x ≠ mk [1114112 + j] := fun {i x} hx j q => by
    have := of_decide_eq_true (List.all_eq_true.mp h2 x (List.mem_of_getElem? hx))
    rw [q] at this
    exact this rfl
  cases ha : l[a]? with
  | none =>
    cases hb : l[b]? with
    | none =>
      rw [ha, hb] at e
      have := mk_inj (show mk [1114112 + a] = mk [1114112 + b] from e)
      simp at this
      exact this
    | some y => rw [ha, hb] at e; exact absurd e.symm (big hb a)
  | some x =>
    cases hb : l[b]? with
    | none => rw [ha, hb] at e; exact absurd e (big ha b)
    | some y =>
      rw [ha, hb] at e
      have e : x = y := e
      subst e
      exact L2.nodup_ix h1 ha hb
/-- the law's promise, from what its reading tells -/
theorem law_sp {G : Prog} {f n : Nat} {H : Hp} {a : Addr} {ns : List Int} (hO : Only H) (hS : SqL W.K H a (ns.map V.int)) (h : (run G n).p f [.scr ns] = .ok (.bl true)) {E : XK} : spP W (run G n) f [.ref a] H (fun v _ => v = .bl true) E := by
  refine ⟨fun _ => False, [.scr ns], .cons (.scr ?_) .nil, ?_⟩
  · rcases hS with hS | hS
    · rcases hS with q | ⟨o, q⟩
      · rcases hO a with z | ⟨o, xs, z⟩
        · rw [q] at z; cases z
        · rw [q] at z; cases z
      · exact .inl ⟨o, q⟩
    · exact .inr hS
  · rw [h]
    intro v H' F e f o
    have := o.any
    cases this
    rfl
end
/-- the law walked, its air told by the world -/
theorem walk_w {l : PySem.W.OpenLaw} {m lev : Nat} {pg : Program} {lo : List Str} {XX : (Str → Option Value) → Heap → Prop} {Y : World → Heap → Prop} {d : DefRec} {CX : World → CXT} {par : Str} (h1 : l.most = some m) (h2 : m ≤ sizeLine) (h3 : d.params.defaults = []) (h4 : Room lev callerA)
    (hw : ∀ (w : World) (g : Str → Option Value) (f : Addr) (hp : Heap), Y w hp → hp.Ns mainGlobals g → g d.name = some (.ref f) →
      ∃ K fd sp, PySem.W.Frag.In K hp ∧ (∀ s u, BindsTo s fd ⟨[u], []⟩ [(par, u)]) ∧ (∀ H a (ns : List Int), ns.length ≤ m → Only H → SqL K H a (ns.map V.int) → sp [V.ref a] H (fun v _ => v = .bl true) fun _ _ _ => False) ∧
        ∀ b, PySem.W.Frag.In K b → b.Ns mainGlobals g → FnOk l.prog w K g b (CX w) lev f fd [par] sp)
    (he : ∀ w H s e s', CX w [] H s (fun _ _ _ => False) e s' → False) : PySem.W.WalkO pg lo XX Y l.row.toRowW d [] (fun f vs => PySem.call f vs) := by
  apply Att.attach_call h1 h3
  intro w sa sb g gb f o pm cd doc a vs ns top y ho hd hcd hf hobj hin hlen hgens
  obtain ⟨K, fd, sp, kin, kb, ksp, kf⟩ := hw w g f _ y top.T.g hf
  refine law_call kin top.T.g top.T.b top.T.builtins top.T.nolimit hgens hobj hin ?_ h4 kf kb ?_ ?_
  · exact Nat.le_trans hlen h2
  · exact fun H only hs => ksp H a ns hlen only hs
  · exact fun H e s' => he w H sb e s'
end G
end
section
set_option Elab.async false
set_option linter.all false
set_option maxRecDepth 100000
set_option maxHeartbeats 1000000
namespace G
open PySem PyProof
/-! ### plain lemmas about the reading -/
@[simp] theorem ok_ite {α : Type} {p : Prop} [Decidable p] (a b : α) : (if p then R.ok a else R.ok b) = R.ok (if p then a else b) := by split <;> rfl
@[simp] theorem bl_ite {p : Prop} [Decidable p] (a b : Bool) : (if p then D.bl a else D.bl b) = D.bl (if p then a else b) := by split <;> rfl
theorem eqD_str (a b : List Nat) : eqD (.str a) (.str b) = .ok (decide (a = b)) := rfl
theorem eqD_int (a b : Int) : eqD (.int a) (.int b) = .ok (decide (a = b)) := rfl
theorem eqD_bl (a b : Bool) : eqD (.bl a) (.bl b) = .ok (decide (a = b)) := rfl
theorem splC_go {c : Nat} : ∀ (x acc r : List Nat), c ∉ x → splC c acc (x ++ r) = splC c (acc ++ x) r
  | [], acc, r, _ => by simp
  | y :: x, acc, r, h => by
    have hy : y ≠ c := fun q => h (by rw [q]; exact List.mem_cons_self)
    show (if y = c then _ else splC c (acc ++ [y]) (x ++ r)) = _
    rw [if_neg hy, splC_go x _ r fun z => h (List.mem_cons_of_mem _ z), List.append_assoc, List.singleton_append]
/-- joined, then split -/
theorem splC_join {c : Nat} : ∀ {xs : List (List Nat)}, xs ≠ [] → (∀ x ∈ xs, c ∉ x) → splC c [] (joinC [c] xs) = xs
  | [], h, _ => absurd rfl h
  | [x], _, h => by
    have := splC_go x [] [] (h x List.mem_cons_self)
    simp only [List.append_nil, List.nil_append] at this
    show splC c [] x = [x]
    rw [this]
    rfl
  | x :: y :: r, _, h => by
    show splC c [] (x ++ [c] ++ joinC [c] (y :: r)) = _
    rw [List.append_assoc, splC_go x [] _ (h x List.mem_cons_self)]
    show (if c = c then ([] ++ x) :: splC c [] (joinC [c] (y :: r)) else _) = _
    rw [if_pos rfl, splC_join (by simp) fun z hz => h z (List.mem_cons_of_mem _ hz)]
    rfl
theorem compR_fm {f : D → R (Option D)} {h : D → Option D} : ∀ {ds : List D}, (∀ d ∈ ds, f d = .ok (h d)) → compR f ds = .ok (ds.filterMap h)
  | [], _ => rfl
  | d :: r, hd => by
    show (f d).bind _ = _
    rw [hd d List.mem_cons_self, bind_ok, compR_fm fun e he => hd e (List.mem_cons_of_mem _ he), bind_ok]
    cases e : h d <;> simp [e]
theorem compR_map {f : D → R (Option D)} {h : D → D} {ds : List D} (hd : ∀ d ∈ ds, f d = .ok (some (h d))) : compR f ds = .ok (ds.map h) := by
  rw [compR_fm (h := fun d => some (h d)) hd]
  simp
/-- a for whose turns all go on -/
theorem forO_inv {tu : Bool} {tg : List Nat} {b : Env → O} (I : Nat → Env → Prop) : ∀ {ds : List D} {n : Nat} {env : Env}, I n env → (∀ i d env, ds[i]? = some d → I (n + i) env → ∃ e1 e2, setT tu tg d env = some e1 ∧ (b e1 = .nx e2 ∨ b e1 = .ct e2) ∧ I (n + i + 1) e2) → ∃ e, forO tu tg b ds env = .nx e ∧ I (n + ds.length) e
  | [], n, env, h, _ => ⟨env, rfl, h⟩
  | d :: r, n, env, h, hs => by
    obtain ⟨e1, e2, h1, h2, h3⟩ := hs 0 d env rfl h
    obtain ⟨e, h4, h5⟩ := forO_inv (tu := tu) (tg := tg) (b := b) I (ds := r) (n := n + 1) (env := e2) h3 fun i d env hi hI => by
      obtain ⟨e1, e2, g1, g2, g3⟩ := hs (i + 1) d env (by simpa using hi) (by rw [← Nat.add_assoc, Nat.add_right_comm]; exact hI)
      exact ⟨e1, e2, g1, g2, by rw [show n + 1 + i + 1 = n + (i + 1) + 1 by omega]; exact g3⟩
    refine ⟨e, ?_, by rw [List.length_cons, show n + (r.length + 1) = n + 1 + r.length by omega]; exact h5⟩
    unfold forO
    rw [h1]
    rcases h2 with h2 | h2 <;> (dsimp only; rw [h2]; exact h4)
/-! ### texts -/
theorem takeWhile_all {p : Nat → Bool} : ∀ {x : List Nat}, (∀ c ∈ x, p c = true) → x.takeWhile p = x
  | [], _ => rfl
  | a :: r, h => by rw [List.takeWhile_cons, if_pos (h a List.mem_cons_self), takeWhile_all fun c hc => h c (List.mem_cons_of_mem _ hc)]
theorem strip_nil {ks x : List Nat} (h : ∀ c ∈ x, c ∈ ks) : stripC ks x = [] := by
  have hp : ∀ c ∈ x, ks.toArray.contains c = true := fun c hc => by simpa using h c hc
  unfold stripC Txt.stripChars Txt.stripBy
  split
  · rename_i hs
    unfold stripSame stripLo at hs
    simp [takeWhile_all hp] at hs
    simp [hs.1]
  · unfold stripped stripLo stripHi Builtin.Str.strSub
    simp [takeWhile_all hp, Str.length]
theorem strsOf_map : ∀ xs : List (List Nat), strsOf (xs.map .str) = some xs
  | [] => rfl
  | x :: r => by
    show (strsOf (r.map .str)).map (x :: ·) = _
    rw [strsOf_map r]
    rfl
theorem sumLen_le {m : Nat} : ∀ {xs : List (List Nat)}, (∀ x ∈ xs, x.length ≤ m) → sumLen xs ≤ xs.length * m
  | [], _ => by simp [sumLen]
  | x :: r, h => by
    have h1 := h x List.mem_cons_self
    have h2 := sumLen_le (xs := r) fun y hy => h y (List.mem_cons_of_mem _ hy)
    rw [List.length_cons, Nat.add_mul]
    show x.length + sumLen r ≤ _
    omega
theorem joinC_len {y : List Nat} : ∀ xs : List (List Nat), (joinC y xs).length ≤ sumLen xs + y.length * xs.length
  | [] => by simp [joinC]
  | [x] => by simp [joinC, sumLen]
  | x :: z :: r => by
    have h := joinC_len (y := y) (z :: r)
    show (x ++ y ++ joinC y (z :: r)).length ≤ x.length + sumLen (z :: r) + y.length * ((z :: r).length + 1)
    rw [List.length_append, List.length_append, Nat.mul_add]
    omega
theorem join_ok {y : List Nat} {xs : List (List Nat)} (h : sumLen xs + y.length * xs.length ≤ SZ) : mthD .join (.str y) [.lst (xs.map .str)] = .ok (.str (joinC y xs)) := by
  show (R.of (strsOf (xs.map .str))).bind (fun zs => if sumLen zs + y.length * zs.length ≤ SZ then R.ok (D.str (joinC y zs)) else R.bad) = _
  rw [strsOf_map]
  show (if sumLen xs + y.length * xs.length ≤ SZ then R.ok (D.str (joinC y xs)) else R.bad) = _
  rw [if_pos h]
theorem split_ok {x : List Nat} {c : Nat} (hc : c < 256) (h : x.length + 2 ≤ SZ) : mthD .split (.str x) [.str [c]] = .ok (.lst ((splC c [] x).map .str)) := by
  show (if c < 256 ∧ x.length + 2 ≤ SZ then R.ok (D.lst ((splC c [] x).map .str)) else R.bad) = _
  rw [if_pos ⟨hc, h⟩]
theorem blsOf_map {α : Type} (f : α → Bool) : ∀ l : List α, blsOf (l.map fun a => D.bl (f a)) = some (l.map f)
  | [] => rfl
  | a :: r => by
    show (blsOf (r.map fun a => D.bl (f a))).map (f a :: ·) = _
    rw [blsOf_map f r]
    rfl
theorem all_ok {α : Type} (f : α → Bool) (l : List α) : bltD .all [.lst (l.map fun a => D.bl (f a))] = .ok (.bl (l.all f)) := by
  show (R.of (blsOf (l.map fun a => D.bl (f a)))).bind (fun bs => R.ok (D.bl (bs.all id))) = _
  rw [blsOf_map]
  show R.ok (D.bl ((l.map f).all id)) = _
  rw [List.all_map]
  rfl
theorem ev_for {C : Calls} {T : Tab} {tu : Bool} {tg : List Nat} {it : IT} {b r : ISs} {env e : Env} {ds : List D} (h : evIt C T env it = .ok ds) (h1 : forO tu tg (evSs C T b) ds env = .nx e) : evSs C T (.cons (.for tu tg it b) r) env = evSs C T r e := by
  show (((evIt C T env it).to fun ds => forO tu tg (evSs C T b) ds env).seq fun e => evSs C T r e) = _
  rw [h]
  show ((forO tu tg (evSs C T b) ds env).seq fun e => evSs C T r e) = _
  rw [h1]
  rfl
theorem ev_nx {C : Calls} {T : Tab} {s : IS} {r : ISs} {env e : Env} (h : evS C T s env = .nx e) : evSs C T (.cons s r) env = evSs C T r e := by
  show ((evS C T s env).seq fun e => evSs C T r e) = _
  rw [h]
  rfl
theorem callP_rt {C : Calls} {T : Tab} {fn : Fn} {ds : List D} {d : D} {e : Env} (h1 : fn.mu = none) (h2 : ds.length = fn.np) (h : evSs C T fn.body (startE fn.ns ds) = .rt d e) : callP C T fn ds = .ok d := by
  unfold callP
  rw [h1, h2, h]
  simp
theorem atI_nat {α : Type} {xs : List α} {n : Nat} {d : α} (h : xs[n]? = some d) : L2.atI xs (n : Int) = some d := by
  have hl : n < xs.length := (List.getElem?_eq_some_iff.mp h).1
  have e : L2.ixN xs.length (n : Int) = some n := by
    unfold L2.ixN
    rw [if_pos (by omega), if_pos (by omega)]
    rfl
  unfold L2.atI
  rw [e]
  exact h
theorem ix_lst {xs : List D} {n : Nat} {d : D} (h : xs[n]? = some d) : ixD (.lst xs) (.int (n : Int)) = .ok d := by
  show R.of (L2.atI xs (n : Int)) = _
  rw [atI_nat h]
  rfl
theorem ix_tup {xs : List D} {n : Nat} {d : D} (h : xs[n]? = some d) : ixD (.tup xs) (.int (n : Int)) = .ok d := by
  show R.of (L2.atI xs (n : Int)) = _
  rw [atI_nat h]
  rfl
/-! ### comparisons, each as it is met -/
@[simp] theorem c_lt (a b : Int) : cmpD .lt (.int a) (.int b) = .ok (decide (a < b)) := Eq.trans rfl rfl
@[simp] theorem c_le (a b : Int) : cmpD .le (.int a) (.int b) = .ok (decide (a ≤ b)) := Eq.trans rfl rfl
@[simp] theorem c_gt (a b : Int) : cmpD .gt (.int a) (.int b) = .ok (decide (b < a)) := Eq.trans rfl rfl
@[simp] theorem c_ge (a b : Int) : cmpD .ge (.int a) (.int b) = .ok (decide (b ≤ a)) := Eq.trans rfl rfl
@[simp] theorem c_eqi (a b : Int) : cmpD .eq (.int a) (.int b) = .ok (decide (a = b)) := Eq.trans rfl rfl
@[simp] theorem c_nei (a b : Int) : cmpD .ne (.int a) (.int b) = .ok (!decide (a = b)) := Eq.trans rfl rfl
@[simp] theorem c_eqs (a b : List Nat) : cmpD .eq (.str a) (.str b) = .ok (decide (a = b)) := Eq.trans rfl rfl
@[simp] theorem c_nes (a b : List Nat) : cmpD .ne (.str a) (.str b) = .ok (!decide (a = b)) := Eq.trans rfl rfl
@[simp] theorem c_eqb (a b : Bool) : cmpD .eq (.bl a) (.bl b) = .ok (decide (a = b)) := Eq.trans rfl rfl
@[simp] theorem c_neb (a b : Bool) : cmpD .ne (.bl a) (.bl b) = .ok (!decide (a = b)) := Eq.trans rfl rfl
@[simp] theorem c_is (d : D) : cmpD .is d .non = .ok (match d with | .non => true | _ => false) := by cases d <;> rfl
@[simp] theorem c_isnot (d : D) : cmpD .isnot d .non = .ok (match d with | .non => false | _ => true) := by cases d <;> rfl
@[simp] theorem b_lenL (xs : List D) : bltD .len [.lst xs] = .ok (.int xs.length) := Eq.trans rfl rfl
@[simp] theorem b_lenT (xs : List D) : bltD .len [.tup xs] = .ok (.int xs.length) := Eq.trans rfl rfl
@[simp] theorem b_lenD (xs : List (DK × D)) : bltD .len [.dic false xs] = .ok (.int xs.length) := Eq.trans rfl rfl
@[simp] theorem b_lenI (xs : List Int) : bltD .len [.scr xs] = .ok (.int xs.length) := Eq.trans rfl rfl
@[simp] theorem b_lenS (x : List Nat) (h : x.length ≤ SZ) : bltD .len [.str x] = .ok (.int x.length) := by
  show (if x.length ≤ SZ then R.ok (D.int x.length) else R.bad) = _
  rw [if_pos h]
@[simp] theorem b_tup (xs : List D) : bltD .tuple [.lst xs] = .ok (.tup xs) := Eq.trans rfl rfl
@[simp] theorem b_tup2 (xs : List D) : bltD .tuple [.tup xs] = .ok (.tup xs) := Eq.trans rfl rfl
@[simp] theorem b_lst (xs : List D) : bltD .list [.lst xs] = .ok (.lst xs) := Eq.trans rfl rfl
@[simp] theorem b_lst2 (xs : List D) : bltD .list [.tup xs] = .ok (.lst xs) := Eq.trans rfl rfl
@[simp] theorem c_inK (x : List Nat) (kvs : List (DK × D)) : cmpD .isin (.str x) (.dic false kvs) = .ok (getK kvs (.s x)).isSome := Eq.trans rfl rfl
@[simp] theorem c_ninK (x : List Nat) (kvs : List (DK × D)) : cmpD .notin (.str x) (.dic false kvs) = .ok (!(getK kvs (.s x)).isSome) := Eq.trans rfl rfl
end G
end
section
set_option Elab.async false
set_option linter.all false
set_option maxRecDepth 100000
set_option maxHeartbeats 1000000
namespace G
open PySem PyProof
abbrev St := List Nat
/-! ### one step after the other: the reading as rewriting -/
@[simp] theorem bind_ok' {α β : Type} (a : α) (f : α → R β) : (R.ok a).bind f = f a := Eq.trans (b := f a) rfl rfl
@[simp] theorem to_ok {α : Type} (a : α) (f : α → O) : (R.ok a).to f = f a := Eq.trans rfl rfl
@[simp] theorem bind_ite {α β : Type} {p : Prop} [Decidable p] (a b : R α) (f : α → R β) : (if p then a else b).bind f = if p then a.bind f else b.bind f := by split <;> rfl
@[simp] theorem to_ite {α : Type} {p : Prop} [Decidable p] (a b : R α) (f : α → O) : (if p then a else b).to f = if p then a.to f else b.to f := by split <;> rfl
@[simp] theorem noex_ok {α : Type} (a : α) : (R.ok a).noex = .ok a := Eq.trans rfl rfl
@[simp] theorem of_some {α : Type} (a : α) : R.of (some a) = .ok a := Eq.trans rfl rfl
@[simp] theorem keep_f (x : R D) : keep false x = x := by cases x <;> rfl
@[simp] theorem keepL_f (x : R (List D)) : keepL false x = x := by cases x <;> rfl
@[simp] theorem keep_t (d : D) : keep true (.ok d) = if noMut d then .ok d else .bad := Eq.trans rfl rfl
@[simp] theorem keepL_t (d : List D) : keepL true (.ok d) = if noMuts d then .ok d else .bad := Eq.trans rfl rfl
@[simp] theorem keepS_f (s : S) (x : R D) : keepS s false x = x := by cases x <;> rfl
@[simp] theorem keepS_t (s : S) (d : D) : keepS s true (.ok d) = if flS s d then .ok d else .bad := Eq.trans rfl rfl
@[simp] theorem flS_sh (d : D) : flS .sh d = noMut d := by cases d <;> rfl
@[simp] theorem flS_l (s : S) (ds : List D) : flS (.lst s) (.lst ds) = ds.all fun d => flS s d := Eq.trans rfl rfl
@[simp] theorem startE_eq (n : Nat) (ds : List D) : startE n ds = ds.map some ++ List.replicate (n - ds.length) none := Eq.trans rfl rfl
@[simp] theorem getV_0 (d : D) (r : Env) : getV (some d :: r) 0 = .ok d := Eq.trans rfl rfl
@[simp] theorem getV_s (o : Option D) (r : Env) (n : Nat) : getV (o :: r) (n + 1) = getV r n := Eq.trans rfl rfl
section
variable {C : Calls} {T : Tab} {env : Env}
@[simp ↓] theorem x_v (i : Nat) : evE C T env (.v i) = getV env i := Eq.trans rfl rfl
@[simp ↓] theorem x_kn : evE C T env .kn = .ok .non := Eq.trans rfl rfl
@[simp ↓] theorem x_kb (b : Bool) : evE C T env (.kb b) = .ok (.bl b) := Eq.trans rfl rfl
@[simp ↓] theorem x_ki (i : Int) : evE C T env (.ki i) = .ok (.int i) := Eq.trans rfl rfl
@[simp ↓] theorem x_ks (x : List Nat) : evE C T env (.ks x) = .ok (.str x) := Eq.trans rfl rfl
@[simp ↓] theorem x_g (i : Nat) : evE C T env (.g i) = .ok (.str (T.gs i).2) := Eq.trans rfl rfl
@[simp ↓] theorem x_bin (op : BO) (a b : IE) : evE C T env (.bin op a b) = (evE C T env a).bind fun x => (evE C T env b).bind fun y => binD op x y := Eq.trans rfl rfl
def negD : D → R D
  | .int i => .ok (.int (-i))
  | _ => .bad
@[simp] theorem negD_i (i : Int) : negD (.int i) = .ok (.int (-i)) := Eq.trans rfl rfl
@[simp ↓] theorem x_neg (a : IE) : evE C T env (.neg a) = (evE C T env a).bind negD := Eq.trans rfl rfl
@[simp ↓] theorem x_not (a : IE) : evE C T env (.not a) = (evE C T env a).bind fun x => (truD x).bind fun b => .ok (.bl (!b)) := Eq.trans rfl rfl
def andE (C : Calls) (T : Tab) (env : Env) (b : IE) : D → R D
  | .bl c => if c then evE C T env b else .ok (.bl false)
  | _ => .bad
def orE (C : Calls) (T : Tab) (env : Env) (b : IE) : D → R D
  | .bl c => if c then .ok (.bl true) else evE C T env b
  | _ => .bad
@[simp] theorem andE_b (b : IE) (c : Bool) : andE C T env b (.bl c) = if c then evE C T env b else .ok (.bl false) := Eq.trans rfl rfl
@[simp] theorem orE_b (b : IE) (c : Bool) : orE C T env b (.bl c) = if c then .ok (.bl true) else evE C T env b := Eq.trans rfl rfl
theorem andE_eq (b : IE) : andE C T env b = fun x => (truD x).bind fun c => if c then evE C T env b else .ok (.bl false) := by
  funext x
  cases x <;> rfl
theorem orE_eq (b : IE) : orE C T env b = fun x => (truD x).bind fun c => if c then .ok (.bl true) else evE C T env b := by
  funext x
  cases x <;> rfl
@[simp ↓] theorem x_and (a b : IE) : evE C T env (.and a b) = (evE C T env a).bind (andE C T env b) := by rw [andE_eq]; rfl
@[simp ↓] theorem x_or (a b : IE) : evE C T env (.or a b) = (evE C T env a).bind (orE C T env b) := by rw [orE_eq]; rfl
@[simp ↓] theorem x_cmp (op : CO) (a b : IE) : evE C T env (.cmp op a b) = (evE C T env a).bind fun x => (evE C T env b).bind fun y => (cmpD op x y).bind fun c => .ok (.bl c) := Eq.trans rfl rfl
def cm2E (C : Calls) (T : Tab) (env : Env) (o2 : CO) (y : D) (c : IE) (k : Bool) : R D := if k then (evE C T env c).bind fun z => (cmpD o2 y z).bind fun c => .ok (.bl c) else .ok (.bl false)
@[simp] theorem cm2E_e (o2 : CO) (y : D) (c : IE) (k : Bool) : cm2E C T env o2 y c k = if k then (evE C T env c).bind fun z => (cmpD o2 y z).bind fun c => .ok (.bl c) else .ok (.bl false) := Eq.trans rfl rfl
@[simp ↓] theorem x_cmp2 (o1 o2 : CO) (a b c : IE) : evE C T env (.cmp2 o1 o2 a b c) = (evE C T env a).bind fun x => (evE C T env b).bind fun y => (cmpD o1 x y).bind (cm2E C T env o2 y c) := Eq.trans rfl rfl
def ifeE (C : Calls) (T : Tab) (env : Env) (a b : IE) : D → R D
  | .bl k => if k then evE C T env a else evE C T env b
  | _ => .bad
@[simp] theorem ifeE_b (a b : IE) (k : Bool) : ifeE C T env a b (.bl k) = if k then evE C T env a else evE C T env b := Eq.trans rfl rfl
theorem ifeE_eq (a b : IE) : ifeE C T env a b = fun x => (truD x).bind fun k => if k then evE C T env a else evE C T env b := by
  funext x
  cases x <;> rfl
@[simp ↓] theorem x_ife (c a b : IE) : evE C T env (.ife c a b) = (evE C T env c).bind (ifeE C T env a b) := by rw [ifeE_eq]; rfl
@[simp ↓] theorem x_lst (es : IL) : evE C T env (.lst es) = (evL C T env es).bind fun ds => .ok (.lst ds) := Eq.trans rfl rfl
@[simp ↓] theorem x_tup (es : IL) : evE C T env (.tup es) = (evL C T env es).bind fun ds => .ok (.tup ds) := Eq.trans rfl rfl
@[simp ↓] theorem x_dnew (t : Bool) : evE C T env (.dnew t) = .ok (.dic t []) := Eq.trans rfl rfl
@[simp ↓] theorem x_dic (kvs : IKV) : evE C T env (.dic kvs) = (evKV C T env kvs).bind fun kvs => if kvs.length ≤ 15 then .ok (.dic false (kvs.foldl (fun acc kv => putK acc kv.1 kv.2) [])) else .bad := Eq.trans rfl rfl
/-- a comprehension's turn -/
def turn (C : Calls) (T : Tab) (env : Env) (elt : IE) (tu : Bool) (tg : List Nat) (cnd : IO) (d : D) : R (Option D) := match setT tu tg d env with
      | some env1 => ((evC C T env1 cnd).bind fun k => if k then (evE C T env1 elt).bind fun y => .ok (some y) else .ok none).noex
      | none => .bad
@[simp ↓] theorem x_comp (elt : IE) (tu : Bool) (tg : List Nat) (it : IT) (cnd : IO) : evE C T env (.comp elt tu tg it cnd) = (evIt C T env it).bind fun ds => (compR (turn C T env elt tu tg cnd) ds).bind fun ys => if ds.length ≤ SZ then .ok (.lst ys) else .bad := Eq.trans rfl rfl
@[simp ↓] theorem x_ix (a i : IE) : evE C T env (.ix a i) = (evE C T env a).bind fun x => (evE C T env i).bind fun y => ixD x y := Eq.trans rfl rfl
@[simp ↓] theorem x_sl (a : IE) (lo hi : IO) : evE C T env (.sl a lo hi) = (evE C T env a).bind fun x => (evO C T env lo).bind fun l => (evO C T env hi).bind fun h => slD x l h := Eq.trans rfl rfl
@[simp] theorem turn_f (elt : IE) (i : Nat) (cnd : IO) (d : D) : turn C T env elt false [i] cnd d = ((evC C T (env.set i (some d)) cnd).bind fun k => if k then (evE C T (env.set i (some d)) elt).bind fun y => .ok (some y) else .ok none).noex := Eq.trans rfl rfl
@[simp] theorem turn_t2 (elt : IE) (i j : Nat) (cnd : IO) (a b : D) : turn C T env elt true [i, j] cnd (.tup [a, b]) = ((evC C T ((env.set i (some a)).set j (some b)) cnd).bind fun k => if k then (evE C T ((env.set i (some a)).set j (some b)) elt).bind fun y => .ok (some y) else .ok none).noex := Eq.trans rfl rfl
@[simp] theorem turn_t3 (elt : IE) (i j l : Nat) (cnd : IO) (a b c : D) : turn C T env elt true [i, j, l] cnd (.tup [a, b, c]) = ((evC C T (((env.set i (some a)).set j (some b)).set l (some c)) cnd).bind fun k => if k then (evE C T (((env.set i (some a)).set j (some b)).set l (some c)) elt).bind fun y => .ok (some y) else .ok none).noex := Eq.trans rfl rfl
@[simp] theorem turn_t4 (elt : IE) (i j l m : Nat) (cnd : IO) (a b c d : D) : turn C T env elt true [i, j, l, m] cnd (.tup [a, b, c, d]) = ((evC C T ((((env.set i (some a)).set j (some b)).set l (some c)).set m (some d)) cnd).bind fun k => if k then (evE C T ((((env.set i (some a)).set j (some b)).set l (some c)).set m (some d)) elt).bind fun y => .ok (some y) else .ok none).noex := Eq.trans rfl rfl
def consO (o : Option D) (ys : List D) : List D := match o with
    | some y => y :: ys
    | none => ys
@[simp] theorem consO_s (y : D) (ys : List D) : consO (some y) ys = y :: ys := Eq.trans rfl rfl
@[simp] theorem consO_n (ys : List D) : consO none ys = ys := Eq.trans rfl rfl
@[simp] theorem compR_n (f : D → R (Option D)) : compR f [] = .ok [] := Eq.trans rfl rfl
@[simp] theorem compR_c (f : D → R (Option D)) (d : D) (r : List D) : compR f (d :: r) = (f d).bind fun o => (compR f r).bind fun ys => .ok (consO o ys) := Eq.trans rfl rfl
def revD : D → R D
  | .lst xs => .ok (.lst xs.reverse)
  | _ => .bad
@[simp] theorem revD_l (xs : List D) : revD (.lst xs) = .ok (.lst xs.reverse) := Eq.trans rfl rfl
@[simp ↓] theorem x_rev (a : IE) : evE C T env (.rev a) = (evE C T env a).bind revD := Eq.trans rfl rfl
@[simp ↓] theorem x_fld (a : IE) (f : Nat) : evE C T env (.fld a f) = (evE C T env a).bind fun x => fldD x f := Eq.trans rfl rfl
@[simp ↓] theorem x_call (f : Nat) (es : IL) : evE C T env (.call f es) = (evL C T env es).bind fun ds => C.p f ds := Eq.trans rfl rfl
def mkD : D × D → R D
  | (.non, d) => .ok d
  | _ => .bad
@[simp] theorem mkD_n (d : D) : mkD (.non, d) = .ok d := Eq.trans rfl rfl
theorem mkD_eq : mkD = fun r => match r.1 with
    | .non => .ok r.2
    | _ => .bad := by
  funext ⟨a, b⟩
  cases a <;> rfl
@[simp ↓] theorem x_mk (c : Nat) (es : IL) : evE C T env (.mk c es) = (evL C T env es).bind fun ds => (C.m (T.init c) (.ins c []) ds).bind mkD := by rw [mkD_eq]; rfl
@[simp ↓] theorem x_blt (b : BI) (es : IL) : evE C T env (.blt b es) = (evL C T env es).bind fun ds => bltD b ds := Eq.trans rfl rfl
@[simp ↓] theorem x_mth (m : MI) (o : IE) (es : IL) : evE C T env (.mth m o es) = (evE C T env o).bind fun x => (evL C T env es).noex.bind fun ds => mthD m x ds := Eq.trans rfl rfl
@[simp ↓] theorem x_isi (a : IE) (t : Nat) : evE C T env (.isi a [t]) = (evE C T env a).bind fun x => (isiD t x).bind fun b => .ok (.bl b) := Eq.trans rfl rfl
@[simp ↓] theorem x_lrg (tu : Bool) (it : IT) : evE C T env (.lrg tu it) = (evIt C T env it).bind fun ds => if ds.length ≤ SZ then .ok (if tu then .tup ds else .lst ds) else .bad := Eq.trans rfl rfl
@[simp ↓] theorem x_lrv (a : IE) : evE C T env (.lrv a) = (evE C T env a).bind revD := Eq.trans rfl rfl
@[simp ↓] theorem x_nil : evL C T env .nil = .ok [] := Eq.trans rfl rfl
@[simp ↓] theorem x_cons (e : IE) (r : IL) : evL C T env (.cons e r) = (evE C T env e).bind fun d => (evL C T env r).bind fun ds => .ok (d :: ds) := Eq.trans rfl rfl
@[simp ↓] theorem x_kvn : evKV C T env .nil = .ok [] := Eq.trans rfl rfl
@[simp ↓] theorem x_kvc (k v : IE) (r : IKV) : evKV C T env (.cons k v r) = (evE C T env k).bind fun x => (R.of (toK false x)).bind fun k => (evE C T env v).bind fun y => (evKV C T env r).bind fun kvs => .ok ((k, y) :: kvs) := Eq.trans rfl rfl
def optD : D → R (Option Int)
  | .int i => .ok (some i)
  | _ => .bad
@[simp] theorem optD_i (i : Int) : optD (.int i) = .ok (some i) := Eq.trans rfl rfl
@[simp ↓] theorem x_on : evO C T env .none = .ok none := Eq.trans rfl rfl
@[simp ↓] theorem x_os (e : IE) : evO C T env (.some e) = (evE C T env e).bind optD := Eq.trans rfl rfl
@[simp ↓] theorem x_cn : evC C T env .none = .ok true := Eq.trans rfl rfl
@[simp ↓] theorem x_cs (e : IE) : evC C T env (.some e) = (evE C T env e).bind truD := Eq.trans rfl rfl
def seqD : D → R (List D)
  | .lst xs => .ok xs
  | .tup xs => .ok xs
  | .scr ns => .ok (ns.map .int)
  | _ => .bad
@[simp] theorem seqD_l (xs : List D) : seqD (.lst xs) = .ok xs := Eq.trans rfl rfl
@[simp] theorem seqD_t (xs : List D) : seqD (.tup xs) = .ok xs := Eq.trans rfl rfl
@[simp] theorem seqD_s (xs : List Int) : seqD (.scr xs) = .ok (xs.map .int) := Eq.trans rfl rfl
@[simp ↓] theorem x_seq (e : IE) : evIt C T env (.seq e) = (evE C T env e).bind seqD := Eq.trans rfl rfl
def rng1D : D → R (List D)
  | .int n => if small62 n then .ok (rngL 0 1 n.toNat) else .bad
  | _ => .bad
theorem rng1_n (n : Nat) (h : n < 2 ^ 62) : rng1D (.int n) = .ok ((List.range n).map fun (i : Nat) => .int (i : Int)) := by
  show (if small62 n then R.ok (rngL 0 1 (Int.toNat n)) else R.bad) = _
  have h : small62 (n : Int) = true := by simp [small62]; omega
  rw [if_pos h]
  simp [rngL]
@[simp ↓] theorem x_r1 (a : IE) : evIt C T env (.rng1 a) = (evE C T env a).bind rng1D := Eq.trans rfl rfl
def rng2D : D → D → R (List D)
  | .int i, .int j => if small62 i && small62 j then .ok (rngL i 1 (j - i).toNat) else .bad
  | _, _ => .bad
theorem rng2_n (m n : Nat) (hm : m < 2 ^ 62) (h : n < 2 ^ 62) : rng2D (.int m) (.int n) = .ok ((List.range' m (n - m)).map fun (i : Nat) => .int (i : Int)) := by
  show (if small62 m && small62 n then R.ok (rngL m 1 (Int.toNat ((n : Int) - m))) else R.bad) = _
  have h : small62 (n : Int) = true := by simp [small62]; omega
  have h' : small62 (m : Int) = true := by simp [small62]; omega
  have e : ((n : Int) - m).toNat = n - m := by omega
  rw [h, h', if_pos (by decide), e]
  simp [rngL, List.range'_eq_map_range]
@[simp ↓] theorem x_r2 (a b : IE) : evIt C T env (.rng2 a b) = (evE C T env a).bind fun x => (evE C T env b).bind fun y => rng2D x y := Eq.trans rfl rfl
def rng3D : D → D → D → R (List D)
  | .int i, .int j, .int k => if k ≠ 0 ∧ k.natAbs < 1073741824 ∧ Builtin.Range.small i j k = true ∧ 0 ≤ Builtin.Range.rangeSize i j k then .ok (rngL i k (rngN i j k)) else .bad
  | _, _, _ => .bad
@[simp ↓] theorem x_r3 (a b c : IE) : evIt C T env (.rng3 a b c) = (evE C T env a).bind fun x => (evE C T env b).bind fun y => (evE C T env c).bind fun z => rng3D x y z := Eq.trans rfl rfl
def enumD : D → R (List D)
  | .lst xs => .ok (enumL 0 xs)
  | .scr ns => .ok (enumL 0 (ns.map .int))
  | _ => .bad
@[simp] theorem enumD_l (xs : List D) : enumD (.lst xs) = .ok (enumL 0 xs) := Eq.trans rfl rfl
@[simp] theorem enumD_s (xs : List Int) : enumD (.scr xs) = .ok (enumL 0 (xs.map .int)) := Eq.trans rfl rfl
@[simp ↓] theorem x_en (e : IE) : evIt C T env (.enum e) = (evE C T env e).bind enumD := Eq.trans rfl rfl
def zipD : D → D → R (List D)
  | .lst xs, .lst ys => .ok (zipL xs ys)
  | .lst xs, .tup ys => .ok (zipL xs ys)
  | .tup xs, .lst ys => .ok (zipL xs ys)
  | .tup xs, .tup ys => .ok (zipL xs ys)
  | _, _ => .bad
@[simp] theorem zipD_l (xs ys : List D) : zipD (.lst xs) (.lst ys) = .ok (zipL xs ys) := Eq.trans rfl rfl
@[simp] theorem zipD_t (xs ys : List D) : zipD (.tup xs) (.lst ys) = .ok (zipL xs ys) := Eq.trans rfl rfl
@[simp] theorem zipD_lt (xs ys : List D) : zipD (.lst xs) (.tup ys) = .ok (zipL xs ys) := Eq.trans rfl rfl
@[simp] theorem zipD_tt (xs ys : List D) : zipD (.tup xs) (.tup ys) = .ok (zipL xs ys) := Eq.trans rfl rfl
@[simp ↓] theorem x_zip (a b : IE) : evIt C T env (.zip a b) = (evE C T env a).bind fun x => (evE C T env b).bind fun y => zipD x y := Eq.trans rfl rfl
def revI : D → R (List D)
  | .lst xs => .ok xs.reverse
  | _ => .bad
@[simp] theorem revI_l (xs : List D) : revI (.lst xs) = .ok xs.reverse := Eq.trans rfl rfl
@[simp ↓] theorem x_revI (e : IE) : evIt C T env (.rev e) = (evE C T env e).bind revI := Eq.trans rfl rfl
def itemsD : D → R (List D)
  | .dic false kvs => .ok (kvs.map fun kv => .tup [kv.1.toD, kv.2])
  | _ => .bad
def valsD : D → R (List D)
  | .dic false kvs => .ok (kvs.map fun kv => kv.2)
  | _ => .bad
def keysD : D → R (List D)
  | .dic false kvs => .ok (kvs.map fun kv => kv.1.toD)
  | _ => .bad
@[simp] theorem itemsD_d (kvs : List (DK × D)) : itemsD (.dic false kvs) = .ok (kvs.map fun kv => .tup [kv.1.toD, kv.2]) := Eq.trans rfl rfl
@[simp] theorem valsD_d (kvs : List (DK × D)) : valsD (.dic false kvs) = .ok (kvs.map fun kv => kv.2) := Eq.trans rfl rfl
@[simp] theorem keysD_d (kvs : List (DK × D)) : keysD (.dic false kvs) = .ok (kvs.map fun kv => kv.1.toD) := Eq.trans rfl rfl
theorem itemsD_eq : itemsD = fun x => match x with
    | .dic false kvs => .ok (kvs.map fun kv => .tup [kv.1.toD, kv.2])
    | _ => .bad := by
  funext x
  cases x <;> rfl
theorem valsD_eq : valsD = fun x => match x with
    | .dic false kvs => .ok (kvs.map fun kv => kv.2)
    | _ => .bad := by
  funext x
  cases x <;> rfl
theorem keysD_eq : keysD = fun x => match x with
    | .dic false kvs => .ok (kvs.map fun kv => kv.1.toD)
    | _ => .bad := by
  funext x
  cases x <;> rfl
@[simp ↓] theorem x_it (e : IE) : evIt C T env (.items e) = (evE C T env e).bind itemsD := by rw [itemsD_eq]; rfl
@[simp ↓] theorem x_va (e : IE) : evIt C T env (.vals e) = (evE C T env e).bind valsD := by rw [valsD_eq]; rfl
@[simp ↓] theorem x_ke (e : IE) : evIt C T env (.keys e) = (evE C T env e).bind keysD := by rw [keysD_eq]; rfl
/-! lines -/
@[simp ↓] theorem s_nil : evSs C T .nil env = .nx env := Eq.trans rfl rfl
/-- the lines behind -/
def seqS (C : Calls) (T : Tab) (r : ISs) (o : O) : O := o.seq fun e => evSs C T r e
@[simp] theorem seqS_nx (r : ISs) : seqS C T r (.nx env) = evSs C T r env := Eq.trans rfl rfl
@[simp] theorem seqS_rt (r : ISs) (d : D) : seqS C T r (.rt d env) = .rt d env := Eq.trans rfl rfl
@[simp] theorem seqS_bk (r : ISs) : seqS C T r (.bk env) = .bk env := Eq.trans rfl rfl
@[simp] theorem seqS_ct (r : ISs) : seqS C T r (.ct env) = .ct env := Eq.trans rfl rfl
@[simp] theorem seqS_ite {p : Prop} [Decidable p] (r : ISs) (a b : O) : seqS C T r (if p then a else b) = if p then seqS C T r a else seqS C T r b := by split <;> rfl
@[simp ↓] theorem s_cons (s : IS) (r : ISs) : evSs C T (.cons s r) env = seqS C T r (evS C T s env) := Eq.trans rfl rfl
@[simp ↓] theorem s_asg (i : Nat) (s : S) (e : IE) (ow : Bool) : evS C T (.asg i s e ow) env = (keepS s ow (evE C T env e)).to fun d => .nx (env.set i (some d)) := Eq.trans rfl rfl
def tupO (is : List Nat) (env : Env) : D → O
  | .tup ds => (R.of (setAll is ds env)).to .nx
  | .lst ds => (R.of (setAll is ds env)).to .nx
  | _ => .bad
@[simp] theorem tupO_l (is : List Nat) (ds : List D) : tupO is env (.lst ds) = (R.of (setAll is ds env)).to .nx := Eq.trans rfl rfl
@[simp] theorem tupO_t (is : List Nat) (ds : List D) : tupO is env (.tup ds) = (R.of (setAll is ds env)).to .nx := Eq.trans rfl rfl
theorem tupO_eq (is : List Nat) : tupO is env = fun d => match d with
    | .tup ds => (R.of (setAll is ds env)).to .nx
    | .lst ds => (R.of (setAll is ds env)).to .nx
    | _ => .bad := by
  funext x
  cases x <;> rfl
@[simp ↓] theorem s_asgT (is : List Nat) (e : IE) (ow : Bool) : evS C T (.asgT is e ow) env = (keep ow (evE C T env e)).to (tupO is env) := by rw [tupO_eq]; rfl
@[simp ↓] theorem s_par (is : List Nat) (es : IL) (ow : Bool) : evS C T (.par is es ow) env = (keepL ow (evL C T env es).noex).to fun ds => (R.of (setAll is ds env)).to .nx := Eq.trans rfl rfl
def augO (op : BO) (i : Nat) (env : Env) : D → D → O
  | .int a, .int b => augR op i env a b
  | .tup a, .tup b => augT op i env a b
  | _, _ => .bad
@[simp] theorem augO_t (i : Nat) (env : Env) (a b : List D) : augO .add i env (.tup a) (.tup b) = (binD .add (.tup a) (.tup b)).to fun d => .nx (env.set i (some d)) := Eq.trans rfl rfl
@[simp] theorem augO_a (i : Nat) (a b : Int) : augO .add i env (.int a) (.int b) = .nx (env.set i (some (.int (a + b)))) := Eq.trans rfl rfl
@[simp] theorem augO_s (i : Nat) (a b : Int) : augO .sub i env (.int a) (.int b) = .nx (env.set i (some (.int (a - b)))) := Eq.trans rfl rfl
@[simp ↓] theorem s_aug (i : Nat) (op : BO) (e : IE) : evS C T (.aug i op e) env = (getV env i).to fun x => (evE C T env e).to fun y => augO op i env x y := Eq.trans rfl rfl
@[simp ↓] theorem s_shr (i : Nat) : evS C T (.shr i) env = .nx env := Eq.trans rfl rfl
@[simp ↓] theorem s_app (p : Pth) (e : IE) (ow : Bool) : evS C T (.app p e ow) env = (getV env p.base).to fun d0 => (evP C T env p.sels d0).to fun z => (keep ow (evE C T env e).noex).to fun d => (updE env p.base z.1 (gApp d)).to .nx := Eq.trans rfl rfl
@[simp ↓] theorem s_ext (p : Pth) (e : IE) : evS C T (.ext p e) env = (getV env p.base).to fun d0 => (evP C T env p.sels d0).to fun z => (evE C T env e).noex.to fun d => (updE env p.base z.1 (gExt d)).to .nx := Eq.trans rfl rfl
@[simp ↓] theorem s_ins (p : Pth) (i e : IE) (ow : Bool) : evS C T (.insr p i e ow) env = (getV env p.base).to fun d0 => (evP C T env p.sels d0).to fun z => (evE C T env i).noex.to fun k => (keep ow (evE C T env e).noex).to fun d => (updE env p.base z.1 (gIns k d)).to .nx := Eq.trans rfl rfl
@[simp ↓] theorem s_clr (p : Pth) : evS C T (.clr p) env = (getV env p.base).to fun d0 => (evP C T env p.sels d0).to fun z => (updE env p.base z.1 gClr).to .nx := Eq.trans rfl rfl
@[simp ↓] theorem s_rvs (p : Pth) : evS C T (.rvs p) env = (getV env p.base).to fun d0 => (evP C T env p.sels d0).to fun z => (updE env p.base z.1 gRvs).to .nx := Eq.trans rfl rfl
@[simp ↓] theorem s_sti (p : Pth) (i e : IE) (ow : Bool) : evS C T (.sti p i e ow) env = (keep ow (evE C T env e).noex).to fun d => (getV env p.base).to fun d0 => (evP C T env p.sels d0).to fun z => (evE C T env i).noex.to fun k => (updE env p.base z.1 (gSet k d)).to .nx := Eq.trans rfl rfl
@[simp ↓] theorem s_stf (p : Pth) (f : Nat) (e : IE) (ow : Bool) : evS C T (.stf p f e ow) env = (keep ow (evE C T env e).noex).to fun d => (getV env p.base).to fun d0 => (evP C T env p.sels d0).to fun z => (updE env p.base z.1 (gFld f d)).to .nx := Eq.trans rfl rfl
@[simp ↓] theorem s_exp (e : IE) : evS C T (.exp e) env = (evE C T env e).to fun _ => .nx env := Eq.trans rfl rfl
@[simp ↓] theorem s_mc (r : Option Nat) (f i : Nat) (es : IL) (ow : Bool) : evS C T (.mc r f i es ow) env = (getV env i).to fun d0 => (keepL ow (evL C T env es).noex).to fun ds => (C.m f d0 ds).to fun q => .nx (putR r q.1 (env.set i (some q.2))) := Eq.trans rfl rfl
@[simp ↓] theorem s_mcr (f i : Nat) (es : IL) (ow : Bool) : evS C T (.mcr f i es ow) env = (getV env i).to fun d0 => (keepL ow (evL C T env es).noex).to fun ds => (C.m f d0 ds).to fun q => .rt q.1 (env.set i (some q.2)) := Eq.trans rfl rfl
theorem s_ifm (neg : Bool) (f i : Nat) (es : IL) (ow : Bool) (a b : ISs) : evS C T (.ifm neg f i es ow a b) env = (getV env i).to fun d0 => (keepL ow (evL C T env es).noex).to fun ds => (C.m f d0 ds).to fun q => (truD q.1).to fun c =>
      if c != neg then evSs C T a (env.set i (some q.2)) else evSs C T b (env.set i (some q.2)) := rfl
@[simp ↓] theorem s_for (tu : Bool) (tg : List Nat) (it : IT) (b : ISs) : evS C T (.for tu tg it b) env = (evIt C T env it).to fun ds => forO tu tg (evSs C T b) ds env := Eq.trans rfl rfl
def cndE (C : Calls) (T : Tab) (c : IE) (env : Env) : R Bool := (evE C T env c).bind truD
@[simp ↓] theorem s_whl (c : IE) (b : ISs) : evS C T (.whl c b) env = whlO (cndE C T c) (evSs C T b) FUEL env := Eq.trans rfl rfl
def iteS (C : Calls) (T : Tab) (env : Env) (a b : ISs) : D → O
  | .bl k => if k then evSs C T a env else evSs C T b env
  | _ => .bad
@[simp] theorem iteS_b (a b : ISs) (k : Bool) : iteS C T env a b (.bl k) = if k then evSs C T a env else evSs C T b env := Eq.trans rfl rfl
@[simp ↓] theorem s_ife (c : IE) (a b : ISs) : evS C T (.ife c a b) env = (evE C T env c).to (iteS C T env a b) := by
  have e : iteS C T env a b = fun x => (truD x).to fun k => if k then evSs C T a env else evSs C T b env := by
    funext x
    cases x <;> rfl
  rw [e]
  show ((evE C T env c).bind truD).to _ = _
  cases evE C T env c <;> rfl
@[simp ↓] theorem s_ret (e : IE) : evS C T (.ret e) env = (evE C T env e).to fun d => .rt d env := Eq.trans rfl rfl
@[simp ↓] theorem s_retN : evS C T .retN env = .rt .non env := Eq.trans rfl rfl
@[simp ↓] theorem s_brk : evS C T .brk env = .bk env := Eq.trans rfl rfl
@[simp ↓] theorem s_ct : evS C T .ct env = .ct env := Eq.trans rfl rfl
@[simp ↓] theorem s_pas : evS C T .pas env = .nx env := Eq.trans rfl rfl
/-! places -/
@[simp ↓] theorem p_nil (d : D) : evP C T env [] d = .ok ([], d) := Eq.trans rfl rfl
@[simp ↓] theorem p_fld (f : Nat) (r : List Sel) (d0 : D) : evP C T env (.fld f :: r) d0 = (evP C T env r d0).bind fun z => (fldD z.2 f).bind fun d2 => .ok (z.1 ++ [.f f], d2) := Eq.trans rfl rfl
def idxD (z : List SV × D) : D → R (List SV × D)
  | .int k => (R.of (L2.ixN (lenD z.2) k)).bind fun j => (getP [.i j] z.2).bind fun d2 => .ok (z.1 ++ [.i j], d2)
  | _ => .bad
@[simp] theorem idxD_i (z : List SV × D) (k : Int) : idxD z (.int k) = (R.of (L2.ixN (lenD z.2) k)).bind fun j => (getP [.i j] z.2).bind fun d2 => .ok (z.1 ++ [.i j], d2) := Eq.trans rfl rfl
@[simp ↓] theorem p_idx (e : IE) (r : List Sel) (d0 : D) : evP C T env (.idx e :: r) d0 = (evP C T env r d0).bind fun z => (evE C T env e).noex.bind (idxD z) := Eq.trans rfl rfl
end
@[simp ↓] theorem up_nil (g : D → R D) (d : D) : updP g [] d = g d := Eq.trans rfl rfl
@[simp ↓] theorem up_f (g : D → R D) (n c : Nat) (r : List SV) (fs : List (Nat × D)) : updP g (.f n :: r) (.ins c fs) = (R.of (getF fs n)).bind fun d => (updP g r d).bind fun d2 => .ok (.ins c (putF n d2 fs)) := Eq.trans rfl rfl
@[simp ↓] theorem up_i (g : D → R D) (j : Nat) (r : List SV) (xs : List D) : updP g (.i j :: r) (.lst xs) = (R.of xs[j]?).bind fun d => (updP g r d).bind fun d2 => .ok (.lst (xs.set j d2)) := Eq.trans rfl rfl
@[simp ↓] theorem up_it (g : D → R D) (j : Nat) (r : List SV) (xs : List D) : updP g (.i j :: r) (.tup xs) = (R.of xs[j]?).bind fun d => (updP g r d).bind fun d2 => .ok (.tup (xs.set j d2)) := Eq.trans rfl rfl
@[simp] theorem truD_b (b : Bool) : truD (.bl b) = .ok b := Eq.trans rfl rfl
@[simp] theorem fldD_i (c : Nat) (fs : List (Nat × D)) (f : Nat) : fldD (.ins c fs) f = R.of (getF fs f) := Eq.trans rfl rfl
@[simp] theorem updE_eq (env : Env) (b : Nat) (q : List SV) (g : D → R D) : updE env b q g = (getV env b).bind fun d => (updP g q d).bind fun d2 => .ok (env.set b (some d2)) := Eq.trans rfl rfl
@[simp] theorem getF_c (g : Nat) (d : D) (r : List (Nat × D)) (f : Nat) : getF ((g, d) :: r) f = if f = g then some d else getF r f := Eq.trans rfl rfl
@[simp] theorem putF_c (f g : Nat) (v d : D) (r : List (Nat × D)) : putF f v ((g, d) :: r) = if g = f then (g, v) :: r else (g, d) :: putF f v r := Eq.trans rfl rfl
@[simp] theorem putF_n (f : Nat) (v : D) : putF f v [] = [(f, v)] := Eq.trans rfl rfl
@[simp] theorem noex_ite {α : Type} {p : Prop} [Decidable p] (a b : R α) : (if p then a else b).noex = if p then a.noex else b.noex := by split <;> rfl
@[simp] theorem noMut_s (x : St) : noMut (.str x) = true := Eq.trans rfl rfl
@[simp] theorem noMut_i (x : Int) : noMut (.int x) = true := Eq.trans rfl rfl
@[simp] theorem noMut_b (x : Bool) : noMut (.bl x) = true := Eq.trans rfl rfl
@[simp] theorem noMut_n : noMut .non = true := Eq.trans rfl rfl
@[simp] theorem noMut_t (xs : List D) : noMut (.tup xs) = noMuts xs := Eq.trans rfl rfl
@[simp] theorem noMuts_n : noMuts [] = true := Eq.trans rfl rfl
@[simp] theorem noMuts_c (d : D) (xs : List D) : noMuts (d :: xs) = (noMut d && noMuts xs) := Eq.trans rfl rfl
@[simp] theorem gSet_d (t : Bool) (i y : D) (kvs : List (DK × D)) : gSet i y (.dic t kvs) = (R.of (toK t i)).bind fun k => if kvs.length < SZ then .ok (.dic t (putK kvs k y)) else .bad := Eq.trans rfl rfl
@[simp] theorem gClr_l (xs : List D) : gClr (.lst xs) = .ok (.lst []) := Eq.trans rfl rfl
@[simp] theorem gRvs_l (xs : List D) : gRvs (.lst xs) = .ok (.lst xs.reverse) := Eq.trans rfl rfl
@[simp] theorem add_i (a b : Int) : binD .add (.int a) (.int b) = .ok (.int (a + b)) := Eq.trans rfl rfl
@[simp] theorem sub_i (a b : Int) : binD .sub (.int a) (.int b) = .ok (.int (a - b)) := Eq.trans rfl rfl
@[simp] theorem putR_n (d : D) (env : Env) : putR none d env = env := Eq.trans rfl rfl
@[simp] theorem putR_s (i : Nat) (d : D) (env : Env) : putR (some i) d env = env.set i (some d) := Eq.trans rfl rfl
@[simp] theorem toK_s (x : St) : toK false (.str x) = some (.s x) := Eq.trans rfl rfl
@[simp] theorem toK_i (x : Int) : toK false (.int x) = some (.i x) := Eq.trans rfl rfl
@[simp] theorem setT_f (i : Nat) (d : D) (env : Env) : setT false [i] d env = some (env.set i (some d)) := Eq.trans rfl rfl
@[simp] theorem setT_t (tg : List Nat) (ds : List D) (env : Env) : setT true tg (.tup ds) env = setAll tg ds env := Eq.trans rfl rfl
@[simp] theorem setAll_n (env : Env) : setAll [] [] env = some env := Eq.trans rfl rfl
@[simp] theorem setAll_c (i : Nat) (is : List Nat) (d : D) (ds : List D) (env : Env) : setAll (i :: is) (d :: ds) env = setAll is ds (env.set i (some d)) := Eq.trans rfl rfl
@[simp] theorem gApp_l (y : D) (xs : List D) (h : xs.length < SZ) : gApp y (.lst xs) = .ok (.lst (xs ++ [y])) := by
  show (if xs.length < SZ then R.ok (D.lst (xs ++ [y])) else R.bad) = _
  rw [if_pos h]
@[simp] theorem gExt_l (ys xs : List D) (h : xs.length + ys.length ≤ SZ) : gExt (.lst ys) (.lst xs) = .ok (.lst (xs ++ ys)) := by
  show (if xs.length + ys.length ≤ SZ then R.ok (D.lst (xs ++ ys)) else R.bad) = _
  rw [if_pos h]
/-! ### what a call ends in -/
@[irreducible] def Wq (o : O) (Q : O → Prop) : Prop := Q o
theorem Wq_eq {o : O} {Q : O → Prop} : Wq o Q = Q o := by unfold Wq; rfl
/-- a def's end -/
def End (Q : D → Prop) : O → Prop
  | .nx _ => Q .non
  | .rt d _ => Q d
  | _ => False
/-- a writing def's end -/
def EndM (Q : D → D → Prop) : O → Prop
  | .nx e => ∃ d, e[0]? = some (some d) ∧ Q .non d
  | .rt r e => noMut r = true ∧ ∃ d, e[0]? = some (some d) ∧ Q r d
  | _ => False
/-- a turn's end -/
def Turn (N : Env → Prop) (B : Env → Prop) (Q : O → Prop) : O → Prop
  | .nx e => N e
  | .ct e => N e
  | .bk e => B e
  | .rt d e => Q (.rt d e)
  | _ => False
@[simp] theorem wp_end_rt (d : D) (e : Env) (Q : D → Prop) : Wq (.rt d e) (End Q) ↔ Q d := by rw [Wq_eq]; exact Iff.rfl
@[simp] theorem wp_end_nx (e : Env) (Q : D → Prop) : Wq (.nx e) (End Q) ↔ Q .non := by rw [Wq_eq]; exact Iff.rfl
@[simp] theorem wp_em_rt (d : D) (e : Env) (Q : D → D → Prop) : Wq (.rt d e) (EndM Q) ↔ (noMut d = true ∧ ∃ c, e[0]? = some (some c) ∧ Q d c) := by rw [Wq_eq]; exact Iff.rfl
@[simp] theorem wp_em_nx (e : Env) (Q : D → D → Prop) : Wq (.nx e) (EndM Q) ↔ ∃ c, e[0]? = some (some c) ∧ Q .non c := by rw [Wq_eq]; exact Iff.rfl
@[simp] theorem wp_t_nx (e : Env) (N B : Env → Prop) (Q : O → Prop) : Wq (.nx e) (Turn N B Q) ↔ N e := by rw [Wq_eq]; exact Iff.rfl
@[simp] theorem wp_t_ct (e : Env) (N B : Env → Prop) (Q : O → Prop) : Wq (.ct e) (Turn N B Q) ↔ N e := by rw [Wq_eq]; exact Iff.rfl
@[simp] theorem wp_t_bk (e : Env) (N B : Env → Prop) (Q : O → Prop) : Wq (.bk e) (Turn N B Q) ↔ B e := by rw [Wq_eq]; exact Iff.rfl
@[simp] theorem wp_t_rt (d : D) (e : Env) (N B : Env → Prop) (Q : O → Prop) : Wq (.rt d e) (Turn N B Q) ↔ Wq (.rt d e) Q := by rw [Wq_eq, Wq_eq]; exact Iff.rfl
theorem wp_ite {p : Prop} [Decidable p] {a b : O} {Q : O → Prop} (h1 : p → Wq a Q) (h2 : ¬ p → Wq b Q) : Wq (if p then a else b) Q := by
  by_cases h : p
  · rw [if_pos h]; exact h1 h
  · rw [if_neg h]; exact h2 h
theorem cal_p {C : Calls} {T : Tab} {fn : Fn} {ds : List D} {Q : D → Prop} (h1 : fn.mu = none) (h2 : ds.length = fn.np) (h : Wq (evSs C T fn.body (startE fn.ns ds)) (End Q)) : ∃ d, callP C T fn ds = .ok d ∧ Q d := by
  unfold callP
  rw [h1, h2]
  simp only [Option.isNone_none, BEq.rfl, Bool.and_self, if_true]
  rw [Wq_eq] at h
  generalize evSs C T fn.body (startE fn.ns ds) = o at h
  cases o <;> first | exact ⟨_, rfl, h⟩ | exact h.elim
theorem cal_pe {C : Calls} {T : Tab} {fn : Fn} {ds : List D} {d : D} (h1 : fn.mu = none) (h2 : ds.length = fn.np) (h : Wq (evSs C T fn.body (startE fn.ns ds)) (End (· = d))) : callP C T fn ds = .ok d := by
  obtain ⟨d', e, rfl⟩ := cal_p h1 h2 h
  exact e
theorem cal_m {C : Calls} {T : Tab} {fn : Fn} {d0 : D} {ds : List D} {s : S} {Q : D → D → Prop} (h1 : fn.mu = some s) (h2 : ds.length + 1 = fn.np) (h : Wq (evSs C T fn.body (startE fn.ns (d0 :: ds))) (EndM Q)) : ∃ r d, callM C T fn d0 ds = .ok (r, d) ∧ Q r d := by
  unfold callM
  rw [h1, h2]
  simp only [Option.isSome_some, BEq.rfl, Bool.and_self, if_true]
  rw [Wq_eq] at h
  generalize evSs C T fn.body (startE fn.ns (d0 :: ds)) = o at h
  cases o with
  | nx e =>
    obtain ⟨d, h3, h4⟩ := h
    refine ⟨.non, d, ?_, h4⟩
    simp [getV, h3, bind_ok]
  | rt r e =>
    obtain ⟨h0, d, h3, h4⟩ := h
    refine ⟨r, d, ?_, h4⟩
    simp [getV, h3, bind_ok, h0]
  | _ => exact h.elim
theorem cal_me {C : Calls} {T : Tab} {fn : Fn} {d0 : D} {ds : List D} {s : S} {r d : D} (h1 : fn.mu = some s) (h2 : ds.length + 1 = fn.np) (h : Wq (evSs C T fn.body (startE fn.ns (d0 :: ds))) (EndM fun a b => a = r ∧ b = d)) : callM C T fn d0 ds = .ok (r, d) := by
  obtain ⟨_, _, e, rfl, rfl⟩ := cal_m h1 h2 h
  exact e
theorem run_p {P : Prog} {k f : Nat} {fn : Fn} {ds : List D} {d : D} (h0 : P.fn f = some fn) (h1 : fn.mu = none) (h2 : ds.length = fn.np) (h : Wq (evSs (run P k) P.tab fn.body (startE fn.ns ds)) (End (· = d))) : (run P (k + 1)).p f ds = .ok d := by
  unfold run
  simp only [h0]
  exact cal_pe h1 h2 h
theorem run_px {P : Prog} {k f : Nat} {fn : Fn} {ds : List D} {Q : D → Prop} (h0 : P.fn f = some fn) (h1 : fn.mu = none) (h2 : ds.length = fn.np) (h : Wq (evSs (run P k) P.tab fn.body (startE fn.ns ds)) (End Q)) : ∃ d, (run P (k + 1)).p f ds = .ok d ∧ Q d := by
  unfold run
  simp only [h0]
  exact cal_p h1 h2 h
theorem run_m {P : Prog} {k f : Nat} {fn : Fn} {d0 : D} {ds : List D} {s : S} {r d : D} (h0 : P.fn f = some fn) (h1 : fn.mu = some s) (h2 : ds.length + 1 = fn.np) (h : Wq (evSs (run P k) P.tab fn.body (startE fn.ns (d0 :: ds))) (EndM fun a b => a = r ∧ b = d)) : (run P (k + 1)).m f d0 ds = .ok (r, d) := by
  unfold run
  simp only [h0]
  exact cal_me h1 h2 h
/-- a for over a list of coded things -/
theorem wp_for {α : Type} {tu : Bool} {tg : List Nat} {b : Env → O} {enc : α → D} {xs : List α} {env : Env} {C : Calls} {T : Tab} {rs : ISs} {Q : O → Prop} (I : Nat → Env → Prop) (h0 : I 0 env)
    (hs : ∀ i (h : i < xs.length) e, I i e → ∃ e1, setT tu tg (enc xs[i]) e = some e1 ∧ Wq (b e1) (Turn (I (i + 1)) (fun e => Wq (evSs C T rs e) Q) Q)) (hk : ∀ e, I xs.length e → Wq (evSs C T rs e) Q) : Wq (seqS C T rs (forO tu tg b (xs.map enc) env)) Q := by
  have go : ∀ (n : Nat) (env : Env), n ≤ xs.length → I n env → Wq (seqS C T rs (forO tu tg b ((xs.drop n).map enc) env)) Q := by
    intro n
    induction hm : xs.length - n generalizing n with
    | zero =>
      intro env hn hI
      have : n = xs.length := by omega
      subst this
      simp only [List.drop_length, List.map_nil]
      exact hk env hI
    | succ m ih =>
      intro env hn hI
      have hn : n < xs.length := by omega
      rw [List.drop_eq_getElem_cons hn, List.map_cons]
      obtain ⟨e1, g1, g2⟩ := hs n hn env hI
      unfold forO
      rw [g1]
      dsimp only
      rw [Wq_eq] at g2
      generalize b e1 = o at g2
      cases o with
      | nx e => exact ih (n + 1) (by omega) e (by omega) g2
      | ct e => exact ih (n + 1) (by omega) e (by omega) g2
      | bk e => exact g2
      | rt d e => rw [Wq_eq]; exact g2
      | ex c fs => exact g2.elim
      | bad => exact g2.elim
  exact go 0 env (Nat.zero_le _) h0
/-- a while by a measure -/
theorem wp_whl {c : Env → R Bool} {b : Env → O} {C : Calls} {T : Tab} {rs : ISs} {Q : O → Prop} (I : Nat → Env → Prop)
    (hs : ∀ m e, I m e → (c e = .ok true ∧ Wq (b e) (Turn (fun e' => ∃ m', m' < m ∧ I m' e') (fun e => Wq (evSs C T rs e) Q) Q)) ∨ (c e = .ok false ∧ Wq (evSs C T rs e) Q)) :
    ∀ (n : Nat) {env : Env} {m : Nat}, I m env → m < n → Wq (seqS C T rs (whlO c b n env)) Q
  | 0, env, m, h, hn => by omega
  | n + 1, env, m, h, hn => by
    unfold whlO
    rcases hs m env h with ⟨g1, g2⟩ | ⟨g1, g2⟩
    · rw [g1]
      dsimp only
      rw [Wq_eq] at g2
      generalize b env = o at g2
      cases o with
      | nx e => obtain ⟨m', hm, hI⟩ := g2; exact wp_whl I hs n hI (by omega)
      | ct e => obtain ⟨m', hm, hI⟩ := g2; exact wp_whl I hs n hI (by omega)
      | bk e => exact g2
      | rt d e => rw [Wq_eq]; exact g2
      | ex c fs => exact g2.elim
      | bad => exact g2.elim
    · rw [g1]
      exact g2
/-! ### coded lists -/
theorem comp_map {α : Type} {F : D → R (Option D)} {enc h : α → D} {xs : List α} (H : ∀ a ∈ xs, F (enc a) = .ok (some (h a))) : compR F (xs.map enc) = .ok (xs.map h) := by
  induction xs with
  | nil => rfl
  | cons a r ih =>
    rw [List.map_cons]
    show (F (enc a)).bind _ = _
    rw [H a List.mem_cons_self, bind_ok, ih fun b hb => H b (List.mem_cons_of_mem _ hb)]
    rfl
theorem comp_fil {α : Type} {F : D → R (Option D)} {enc h : α → D} {p : α → Bool} {xs : List α} (H : ∀ a ∈ xs, F (enc a) = .ok (if p a then some (h a) else none)) : compR F (xs.map enc) = .ok ((xs.filter p).map h) := by
  induction xs with
  | nil => rfl
  | cons a r ih =>
    rw [List.map_cons]
    show (F (enc a)).bind _ = _
    rw [H a List.mem_cons_self, bind_ok, ih fun b hb => H b (List.mem_cons_of_mem _ hb)]
    cases e : p a <;> simp [e]
theorem comp_ex {α : Type} {F : D → R (Option D)} {enc : α → D} {P : α → D → Prop} {xs : List α} (H : ∀ a ∈ xs, ∃ d, F (enc a) = .ok (some d) ∧ P a d) : ∃ ds, compR F (xs.map enc) = .ok ds ∧ ds.length = xs.length ∧ ∀ i (h : i < xs.length) (h' : i < ds.length), P xs[i] ds[i] := by
  induction xs with
  | nil => exact ⟨[], rfl, rfl, fun i h => absurd h (Nat.not_lt_zero _)⟩
  | cons a r ih =>
    obtain ⟨d, h1, h2⟩ := H a List.mem_cons_self
    obtain ⟨ds, h3, h4, h5⟩ := ih fun b hb => H b (List.mem_cons_of_mem _ hb)
    refine ⟨d :: ds, ?_, by simp [h4], fun i h h' => ?_⟩
    · rw [List.map_cons]
      show (F (enc a)).bind _ = _
      rw [h1, bind_ok, h3]
      rfl
    · cases i with
      | zero => exact h2
      | succ i => exact h5 i (by simpa using h) (by simpa using h')
theorem enum_map {α : Type} {enc : α → D} : ∀ (xs : List α) (k : Nat), enumL k (xs.map enc) = (xs.zipIdx k).map fun p => .tup [.int p.2, enc p.1]
  | [], _ => rfl
  | a :: r, k => by
    rw [List.map_cons, List.zipIdx_cons, List.map_cons]
    show D.tup [.int k, enc a] :: enumL (k + 1) (r.map enc) = _
    rw [enum_map r]
theorem zip_map {α β : Type} {e1 : α → D} {e2 : β → D} : ∀ (xs : List α) (ys : List β), zipL (xs.map e1) (ys.map e2) = (xs.zip ys).map fun p => .tup [e1 p.1, e2 p.2]
  | [], _ => by simp [zipL]
  | _ :: _, [] => by simp [zipL]
  | a :: r, b :: q => by
    rw [List.map_cons, List.map_cons, List.zip_cons_cons, List.map_cons]
    show D.tup [e1 a, e2 b] :: zipL (r.map e1) (q.map e2) = _
    rw [zip_map r q]
theorem ix_map {α : Type} {enc : α → D} {xs : List α} {n : Nat} (h : n < xs.length) : ixD (.lst (xs.map enc)) (.int (n : Int)) = .ok (enc xs[n]) := ix_lst (by simp [h])
theorem ixt_map {α : Type} {enc : α → D} {xs : List α} {n : Nat} (h : n < xs.length) : ixD (.tup (xs.map enc)) (.int (n : Int)) = .ok (enc xs[n]) := ix_tup (by simp [h])
/-- xs[k] by a whole number that is none below nought -/
theorem ix_mapI {α : Type} {enc : α → D} {xs : List α} {k : Int} (h0 : 0 ≤ k) (h : k < xs.length) : ixD (.lst (xs.map enc)) (.int k) = .ok (enc (xs[k.toNat]'(by omega))) := by
  obtain ⟨n, rfl⟩ := Int.eq_ofNat_of_zero_le h0
  exact ix_map (by simpa using h)
theorem ixt_mapI {α : Type} {enc : α → D} {xs : List α} {k : Int} (h0 : 0 ≤ k) (h : k < xs.length) : ixD (.tup (xs.map enc)) (.int k) = .ok (enc (xs[k.toNat]'(by omega))) := by
  obtain ⟨n, rfl⟩ := Int.eq_ofNat_of_zero_le h0
  exact ixt_map (by simpa using h)
theorem ix_last {α : Type} {enc : α → D} {xs : List α} (h : xs ≠ []) : ixD (.lst (xs.map enc)) (.int (-1)) = .ok (enc (xs.getLast h)) := by
  have hl : 0 < xs.length := List.length_pos_iff.mpr h
  have e : L2.ixN xs.length (-1) = some (xs.length - 1) := by
    unfold L2.ixN
    rw [if_neg (by omega), if_pos (by omega)]
    congr 1
    omega
  show R.of (L2.atI (xs.map enc) (-1)) = _
  unfold L2.atI
  rw [List.length_map, e]
  show R.of (xs.map enc)[xs.length - 1]? = _
  rw [List.getElem?_map, ← List.getLast?_eq_getElem?, List.getLast?_eq_some_getLast h]
  rfl
theorem sl_map {α : Type} {enc : α → D} (xs : List α) (lo hi : Option Int) : slD (.lst (xs.map enc)) lo hi = .ok (.lst ((cut xs lo hi).map enc)) := by
  show R.ok (D.lst (cut (xs.map enc) lo hi)) = _
  unfold cut
  rw [List.length_map, List.map_take, List.map_drop]
theorem cut_nn {α : Type} (xs : List α) (a b : Nat) : cut xs (some (a : Int)) (some (b : Int)) = (xs.drop a).take (b - a) := by
  unfold cut
  rw [HT.sIx_nat, HT.sIx_nat]
  by_cases h1 : a ≤ xs.length
  · rw [Nat.min_eq_left h1]
    by_cases h2 : b ≤ xs.length
    · rw [Nat.min_eq_left h2]
    · rw [Nat.min_eq_right (by omega)]
      rw [List.take_of_length_le (by simp), List.take_of_length_le (by simp; omega)]
  · rw [Nat.min_eq_right (by omega : xs.length ≤ a), List.drop_length, List.drop_of_length_le (by omega)]
    simp
theorem cut_n {α : Type} (xs : List α) (a : Nat) : cut xs (some (a : Int)) none = xs.drop a := by
  unfold cut
  rw [HT.sIx_nat, HT.sIx_none]
  by_cases h1 : a ≤ xs.length
  · rw [Nat.min_eq_left h1, List.take_of_length_le (by simp)]
  · rw [Nat.min_eq_right (by omega : xs.length ≤ a), List.drop_length, List.drop_of_length_le (by omega)]
    simp
theorem cut_b {α : Type} (xs : List α) (b : Nat) : cut xs none (some (b : Int)) = xs.take b := by
  have := cut_nn xs 0 b
  simpa [cut, HT.sIx] using this
/-! ### likeness -/
mutual
/-- no truth against a number -/
def alignD : D → D → Bool
  | .bl _, .int _ | .int _, .bl _ => false
  | .lst xs, .lst ys => alignL xs ys
  | .tup xs, .tup ys => alignL xs ys
  | _, _ => true
def alignL : List D → List D → Bool
  | x :: xs, y :: ys => alignD x y && alignL xs ys
  | _, _ => true
end
mutual
theorem eqv_iff : ∀ {a b : D} {n : Nat}, okD n a = true → okD n b = true → alignD a b = true → (PyData.eqv (pd a) (pd b) = true ↔ a = b)
  | .lst xs, b, n, h1, h2, h3 => by
    cases b with
    | lst ys =>
      cases n with
      | zero => simp [okD] at h1
      | succ n =>
        have := eqvs_iff (n := n) (xs := xs) (ys := ys) (by simpa [okD] using h1) (by simpa [okD] using h2) (by simpa [alignD] using h3)
        simpa [pd, PyData.eqv] using this
    | _ => simp_all [pd, PyData.eqv, okD, alignD]
  | .tup xs, b, n, h1, h2, h3 => by
    cases b with
    | tup ys =>
      cases n with
      | zero => simp [okD] at h1
      | succ n =>
        have := eqvs_iff (n := n) (xs := xs) (ys := ys) (by simpa [okD] using h1) (by simpa [okD] using h2) (by simpa [alignD] using h3)
        simpa [pd, PyData.eqv] using this
    | _ => simp_all [pd, PyData.eqv, okD, alignD]
  | .non, b, n, h1, h2, h3 => by cases b <;> simp_all [pd, PyData.eqv, okD, alignD]
  | .bl x, b, n, h1, h2, h3 => by cases b <;> simp_all [pd, PyData.eqv, okD, alignD]
  | .int x, b, n, h1, h2, h3 => by cases b <;> simp_all [pd, PyData.eqv, okD, alignD]
  | .str x, b, n, h1, h2, h3 => by
    cases b with
    | str y => simp [pd, PyData.eqv]
    | _ => simp_all [pd, PyData.eqv, okD, alignD]
  | .dic t kvs, b, n, h1, h2, h3 => by simp [okD] at h1
  | .ins c fs, b, n, h1, h2, h3 => by simp [okD] at h1
  | .scr ns, b, n, h1, h2, h3 => by simp [okD] at h1
  | .exc c fs, b, n, h1, h2, h3 => by simp [okD] at h1
theorem eqvs_iff : ∀ {xs ys : List D} {n : Nat}, okDs n xs = true → okDs n ys = true → alignL xs ys = true → (PyData.eqvAll (pds xs) (pds ys) = true ↔ xs = ys)
  | [], [], _, _, _, _ => by simp [pds, PyData.eqvAll]
  | [], _ :: _, _, _, _, _ => by simp [pds, PyData.eqvAll]
  | _ :: _, [], _, _, _, _ => by simp [pds, PyData.eqvAll]
  | x :: xs, y :: ys, n, h1, h2, h3 => by
    simp only [okDs, Bool.and_eq_true] at h1 h2
    simp only [alignL, Bool.and_eq_true] at h3
    have e1 := eqv_iff h1.1 h2.1 h3.1
    have e2 := eqvs_iff h1.2 h2.2 h3.2
    simp [pds, PyData.eqvAll, e1, e2]
end
end G
end
section
set_option Elab.async false
set_option linter.all false
set_option maxRecDepth 100000
set_option maxHeartbeats 1000000
namespace G
open PySem PyProof
/-! ### what is known of fewer slots holds of more -/
def leE : Env → Env → Prop
  | [], [] => True
  | a :: r, b :: q => (a = none ∨ a = b) ∧ leE r q
  | _, _ => False
theorem leE_refl : ∀ e : Env, leE e e
  | [] => trivial
  | _ :: r => ⟨.inr rfl, leE_refl r⟩
@[simp] theorem leE_n : leE [] [] = True := rfl
@[simp] theorem leE_cn (b : Option D) (r q : Env) : leE (none :: r) (b :: q) = leE r q := by
  show ((none = none ∨ none = b) ∧ leE r q) = _
  simp
@[simp] theorem leE_cs (a : D) (b : Option D) (r q : Env) : leE (some a :: r) (b :: q) = (b = some a ∧ leE r q) := by
  show ((some a = none ∨ some a = b) ∧ leE r q) = _
  simp [eq_comm]
def leR {α : Type} (x y : R α) : Prop := x = .bad ∨ y = x
theorem leR_refl {α : Type} (x : R α) : leR x x := .inr rfl
theorem leR_bad {α : Type} (x : R α) : leR .bad x := .inl rfl
theorem leR_bind {α β : Type} {x y : R α} {f g : α → R β} (h : leR x y) (h2 : ∀ a, leR (f a) (g a)) : leR (x.bind f) (y.bind g) := by
  rcases h with h | h
  · subst h; exact .inl rfl
  · subst h
    cases y with
    | ok a => exact h2 a
    | ex c fs => exact .inr rfl
    | bad => exact .inl rfl
theorem leR_noex {α : Type} {x y : R α} (h : leR x y) : leR x.noex y.noex := by
  rcases h with h | h
  · subst h; exact .inl rfl
  · subst h; exact .inr rfl
theorem leE_get : ∀ {e f : Env}, leE e f → ∀ i, leR (getV e i) (getV f i)
  | [], [], _, i => .inr rfl
  | a :: r, b :: q, h, 0 => by
    rcases h.1 with h | h
    · subst h; exact .inl rfl
    · subst h; cases a with
      | none => exact .inl rfl
      | some d => exact .inr rfl
  | a :: r, b :: q, h, i + 1 => leE_get (e := r) (f := q) h.2 i
  | [], _ :: _, h, _ => h.elim
  | _ :: _, [], h, _ => h.elim
theorem leE_set : ∀ {e f : Env}, leE e f → ∀ i d, leE (e.set i (some d)) (f.set i (some d))
  | [], [], _, i, d => trivial
  | a :: r, b :: q, h, 0, d => ⟨.inr rfl, h.2⟩
  | a :: r, b :: q, h, i + 1, d => ⟨h.1, leE_set (e := r) (f := q) h.2 i d⟩
  | [], _ :: _, h, _, _ => h.elim
  | _ :: _, [], h, _, _ => h.elim
def leOuE : Option Env → Option Env → Prop
  | some e, some f => leE e f
  | none, none => True
  | _, _ => False
theorem leE_setAll : ∀ (is : List Nat) (ds : List D) {e f : Env}, leE e f → leOuE (setAll is ds e) (setAll is ds f)
  | [], [], _, _, h => h
  | i :: is, d :: ds, _, _, h => leE_setAll is ds (leE_set h i d)
  | [], _ :: _, _, _, h => trivial
  | _ :: _, [], _, _, h => trivial
theorem leE_setT {tu : Bool} {tg : List Nat} {d : D} {e f : Env} (h : leE e f) : leOuE (setT tu tg d e) (setT tu tg d f) := by
  unfold setT
  cases tu with
  | false => cases tg with
    | nil => trivial
    | cons i r => cases r with
      | nil => exact leE_set h i d
      | cons _ _ => trivial
  | true => cases d <;> first | exact leE_setAll _ _ h | trivial
theorem leR_comp {f g : D → R (Option D)} (h : ∀ d, leR (f d) (g d)) : ∀ ds, leR (compR f ds) (compR g ds)
  | [] => .inr rfl
  | d :: r => leR_bind (h d) fun o => leR_bind (leR_comp h r) fun ys => .inr rfl
section
variable {C : Calls} {T : Tab}
mutual
theorem mE {e f : Env} (h : leE e f) : ∀ x : IE, leR (evE C T e x) (evE C T f x)
  | .v i => leE_get h i
  | .kn | .kb _ | .ki _ | .ks _ | .g _ | .dnew _ | .nv => .inr rfl
  | .bin op a b => leR_bind (mE h a) fun _ => leR_bind (mE h b) fun _ => .inr rfl
  | .neg a => leR_bind (mE h a) fun _ => .inr rfl
  | .not a => leR_bind (mE h a) fun _ => .inr rfl
  | .and a b => leR_bind (mE h a) fun _ => leR_bind (leR_refl _) fun c => by
      cases c
      · exact .inr rfl
      · exact mE h b
  | .or a b => leR_bind (mE h a) fun _ => leR_bind (leR_refl _) fun c => by
      cases c
      · exact mE h b
      · exact .inr rfl
  | .cmp op a b => leR_bind (mE h a) fun _ => leR_bind (mE h b) fun _ => .inr rfl
  | .cmp2 o1 o2 a b c => leR_bind (mE h a) fun _ => leR_bind (mE h b) fun _ => leR_bind (leR_refl _) fun k => by
      cases k
      · exact .inr rfl
      · exact leR_bind (mE h c) fun _ => .inr rfl
  | .ife c a b => leR_bind (mE h c) fun _ => leR_bind (leR_refl _) fun k => by
      cases k
      · exact mE h b
      · exact mE h a
  | .lst es => leR_bind (mL h es) fun _ => .inr rfl
  | .tup es => leR_bind (mL h es) fun _ => .inr rfl
  | .dic kvs => leR_bind (mKV h kvs) fun _ => .inr rfl
  | .comp elt tu tg it cnd => leR_bind (mIt h it) fun ds => leR_bind (leR_comp (fun d => by
      have q := leE_setT (tu := tu) (tg := tg) (d := d) h
      generalize setT tu tg d e = o1 at q
      generalize setT tu tg d f = o2 at q
      cases o1 <;> cases o2
      · exact .inr rfl
      · exact q.elim
      · exact q.elim
      · exact leR_noex (leR_bind (mC q cnd) fun k => by
          cases k
          · exact .inr rfl
          · exact leR_bind (mE q elt) fun _ => .inr rfl)) ds) fun _ => .inr rfl
  | .ix a i => leR_bind (mE h a) fun _ => leR_bind (mE h i) fun _ => .inr rfl
  | .sl a lo hi => leR_bind (mE h a) fun _ => leR_bind (mO h lo) fun _ => leR_bind (mO h hi) fun _ => .inr rfl
  | .rev a => leR_bind (mE h a) fun _ => .inr rfl
  | .fld a g => leR_bind (mE h a) fun _ => .inr rfl
  | .call g es => leR_bind (mL h es) fun _ => .inr rfl
  | .mk c es => leR_bind (mL h es) fun _ => .inr rfl
  | .blt b es => leR_bind (mL h es) fun _ => .inr rfl
  | .mth m o es => leR_bind (mE h o) fun _ => leR_bind (leR_noex (mL h es)) fun _ => .inr rfl
  | .isi a cs => leR_bind (mE h a) fun _ => .inr rfl
  | .lrg _ it => leR_bind (mIt h it) fun _ => .inr rfl
  | .lrv a => leR_bind (mE h a) fun _ => .inr rfl
theorem mL {e f : Env} (h : leE e f) : ∀ x : IL, leR (evL C T e x) (evL C T f x)
  | .nil => .inr rfl
  | .cons a r => leR_bind (mE h a) fun _ => leR_bind (mL h r) fun _ => .inr rfl
theorem mKV {e f : Env} (h : leE e f) : ∀ x : IKV, leR (evKV C T e x) (evKV C T f x)
  | .nil => .inr rfl
  | .cons k v r => leR_bind (mE h k) fun _ => leR_bind (leR_refl _) fun _ => leR_bind (mE h v) fun _ => leR_bind (mKV h r) fun _ => .inr rfl
theorem mO {e f : Env} (h : leE e f) : ∀ x : IO, leR (evO C T e x) (evO C T f x)
  | .none => .inr rfl
  | .some a => leR_bind (mE h a) fun _ => .inr rfl
theorem mC {e f : Env} (h : leE e f) : ∀ x : IO, leR (evC C T e x) (evC C T f x)
  | .none => .inr rfl
  | .some a => leR_bind (mE h a) fun _ => .inr rfl
theorem mIt {e f : Env} (h : leE e f) : ∀ x : IT, leR (evIt C T e x) (evIt C T f x)
  | .seq a => leR_bind (mE h a) fun _ => .inr rfl
  | .rng1 a => leR_bind (mE h a) fun _ => .inr rfl
  | .rng2 a b => leR_bind (mE h a) fun _ => leR_bind (mE h b) fun _ => .inr rfl
  | .rng3 a b c => leR_bind (mE h a) fun _ => leR_bind (mE h b) fun _ => leR_bind (mE h c) fun _ => .inr rfl
  | .enum a => leR_bind (mE h a) fun _ => .inr rfl
  | .zip a b => leR_bind (mE h a) fun _ => leR_bind (mE h b) fun _ => .inr rfl
  | .rev a => leR_bind (mE h a) fun _ => .inr rfl
  | .items a => leR_bind (mE h a) fun _ => .inr rfl
  | .vals a => leR_bind (mE h a) fun _ => .inr rfl
  | .keys a => leR_bind (mE h a) fun _ => .inr rfl
end
theorem mP {e f : Env} (h : leE e f) (d0 : D) : ∀ s : List Sel, leR (evP C T e s d0) (evP C T f s d0)
  | [] => .inr rfl
  | .fld g :: r => leR_bind (mP h d0 r) fun _ => .inr rfl
  | .idx x :: r => leR_bind (mP h d0 r) fun _ => leR_bind (leR_noex (mE h x)) fun _ => .inr rfl
/-! lines -/
def leOu : O → O → Prop
  | .bad, _ => True
  | .nx e, .nx f => leE e f
  | .bk e, .bk f => leE e f
  | .ct e, .ct f => leE e f
  | .rt d e, .rt d2 f => d = d2 ∧ leE e f
  | .ex c fs, .ex c2 fs2 => c = c2 ∧ fs = fs2
  | _, _ => False
theorem leO_bad (o : O) : leOu .bad o := trivial
theorem leO_to {α : Type} {x y : R α} {f g : α → O} (h : leR x y) (h2 : ∀ a, leOu (f a) (g a)) : leOu (x.to f) (y.to g) := by
  rcases h with h | h
  · subst h; trivial
  · subst h
    cases y with
    | ok a => exact h2 a
    | ex c fs => exact ⟨rfl, rfl⟩
    | bad => trivial
theorem leO_seq {x y : O} {f g : Env → O} (h : leOu x y) (h2 : ∀ a b, leE a b → leOu (f a) (g b)) : leOu (x.seq f) (y.seq g) := by
  cases x <;> cases y <;> first | trivial | exact h.elim | exact h2 _ _ h | exact h
theorem leR_keep {ow : Bool} {x y : R D} (h : leR x y) : leR (keep ow x) (keep ow y) := leR_bind h fun _ => .inr rfl
theorem leR_keepS {s : S} {ow : Bool} {x y : R D} (h : leR x y) : leR (keepS s ow x) (keepS s ow y) := leR_bind h fun _ => .inr rfl
theorem leR_keepL {ow : Bool} {x y : R (List D)} (h : leR x y) : leR (keepL ow x) (keepL ow y) := leR_bind h fun _ => .inr rfl
theorem leO_upd {e f : Env} (h : leE e f) (b : Nat) (q : List SV) (g : D → R D) : leOu ((updE e b q g).to .nx) ((updE f b q g).to .nx) := by
  unfold updE
  rcases leE_get h b with k | k
  · rw [k]; trivial
  · rw [k]
    cases getV e b with
    | ok d =>
      rw [bind_ok', bind_ok']
      cases updP g q d with
      | ok d2 => exact leE_set h b d2
      | ex c fs => exact ⟨rfl, rfl⟩
      | bad => trivial
    | ex c fs => exact ⟨rfl, rfl⟩
    | bad => trivial
theorem leO_setAll {e f : Env} (h : leE e f) (is : List Nat) (ds : List D) : leOu ((R.of (setAll is ds e)).to .nx) ((R.of (setAll is ds f)).to .nx) := by
  have q := leE_setAll is ds h
  generalize setAll is ds e = o1 at q
  generalize setAll is ds f = o2 at q
  cases o1 <;> cases o2
  · trivial
  · exact q.elim
  · exact q.elim
  · exact q
theorem leO_for {tu : Bool} {tg : List Nat} {b : Env → O} (hb : ∀ e f, leE e f → leOu (b e) (b f)) : ∀ (ds : List D) {e f : Env}, leE e f → leOu (forO tu tg b ds e) (forO tu tg b ds f)
  | [], _, _, h => h
  | d :: r, e, f, h => by
    have q := leE_setT (tu := tu) (tg := tg) (d := d) h
    unfold forO
    generalize setT tu tg d e = o1 at q
    generalize setT tu tg d f = o2 at q
    cases o1 <;> cases o2
    · trivial
    · exact q.elim
    · exact q.elim
    · rename_i e1 f1
      have q2 := hb e1 f1 q
      dsimp only
      generalize b e1 = p1 at q2
      generalize b f1 = p2 at q2
      cases p1 <;> cases p2 <;> first | trivial | exact q2.elim | exact leO_for hb r q2 | exact q2
theorem leO_whl {c : Env → R Bool} {b : Env → O} (hc : ∀ e f, leE e f → leR (c e) (c f)) (hb : ∀ e f, leE e f → leOu (b e) (b f)) : ∀ (n : Nat) {e f : Env}, leE e f → leOu (whlO c b n e) (whlO c b n f)
  | 0, _, _, _ => trivial
  | n + 1, e, f, h => by
    unfold whlO
    rcases hc e f h with k | k
    · rw [k]; trivial
    · rw [k]
      cases c e with
      | ok t => cases t with
        | true =>
          dsimp only
          have q2 := hb e f h
          generalize b e = p1 at q2
          generalize b f = p2 at q2
          cases p1 <;> cases p2 <;> first | trivial | exact q2.elim | exact leO_whl hc hb n q2 | exact q2
        | false => exact h
      | ex c fs => exact ⟨rfl, rfl⟩
      | bad => trivial
theorem leO_aug {op : BO} {i : Nat} {e f : Env} (h : leE e f) (x y : D) : leOu (match x, y with
    | .int a, .int b => augR op i e a b
    | .tup a, .tup b => augT op i e a b
    | _, _ => .bad) (match x, y with
    | .int a, .int b => augR op i f a b
    | .tup a, .tup b => augT op i f a b
    | _, _ => .bad) := by
  cases x <;> cases y <;> first | trivial | (cases op <;> first | trivial | exact leE_set h i _ | exact leO_to (leR_refl _) fun d => leE_set h i d)
theorem leE_putR {e f : Env} (h : leE e f) (r : Option Nat) (d : D) : leE (putR r d e) (putR r d f) := by
  cases r with
  | none => exact h
  | some j => exact leE_set h j d
mutual
theorem mS : ∀ (s : IS) {e f : Env}, leE e f → leOu (evS C T s e) (evS C T s f)
  | .asg i s x ow, e, f, h => leO_to (leR_keepS (mE h x)) fun d => leE_set h i d
  | .asgT is x ow, e, f, h => leO_to (leR_keep (mE h x)) fun d => by
      cases d <;> first | exact leO_setAll h is _ | trivial
  | .par is es ow, e, f, h => leO_to (leR_keepL (leR_noex (mL h es))) fun d => leO_setAll h is d
  | .aug i op x, e, f, h => leO_to (leE_get h i) fun a => leO_to (mE h x) fun b => leO_aug h a b
  | .shr _, e, f, h => h
  | .app p x ow, e, f, h => leO_to (leE_get h p.base) fun d0 => leO_to (mP h d0 p.sels) fun z => leO_to (leR_keep (leR_noex (mE h x))) fun d => leO_upd h _ _ _
  | .ext p x, e, f, h => leO_to (leE_get h p.base) fun d0 => leO_to (mP h d0 p.sels) fun z => leO_to (leR_noex (mE h x)) fun d => leO_upd h _ _ _
  | .insr p i x ow, e, f, h => leO_to (leE_get h p.base) fun d0 => leO_to (mP h d0 p.sels) fun z => leO_to (leR_noex (mE h i)) fun k => leO_to (leR_keep (leR_noex (mE h x))) fun d => leO_upd h _ _ _
  | .clr p, e, f, h => leO_to (leE_get h p.base) fun d0 => leO_to (mP h d0 p.sels) fun z => leO_upd h _ _ _
  | .rvs p, e, f, h => leO_to (leE_get h p.base) fun d0 => leO_to (mP h d0 p.sels) fun z => leO_upd h _ _ _
  | .sti p i x ow, e, f, h => leO_to (leR_keep (leR_noex (mE h x))) fun d => leO_to (leE_get h p.base) fun d0 => leO_to (mP h d0 p.sels) fun z => leO_to (leR_noex (mE h i)) fun k => leO_upd h _ _ _
  | .stf p g x ow, e, f, h => leO_to (leR_keep (leR_noex (mE h x))) fun d => leO_to (leE_get h p.base) fun d0 => leO_to (mP h d0 p.sels) fun z => leO_upd h _ _ _
  | .exp x, e, f, h => leO_to (mE h x) fun _ => h
  | .mc r g i es ow, e, f, h => leO_to (leE_get h i) fun d0 => leO_to (leR_keepL (leR_noex (mL h es))) fun ds => leO_to (leR_refl _) fun q => leE_putR (leE_set h i _) r _
  | .mcr g i es ow, e, f, h => leO_to (leE_get h i) fun d0 => leO_to (leR_keepL (leR_noex (mL h es))) fun ds => leO_to (leR_refl _) fun q => ⟨rfl, leE_set h i _⟩
  | .ifm neg g i es ow a b, e, f, h => leO_to (leE_get h i) fun d0 => leO_to (leR_keepL (leR_noex (mL h es))) fun ds => leO_to (leR_refl _) fun q => leO_to (leR_refl _) fun c => by
      show leOu (if c != neg then _ else _) (if c != neg then _ else _)
      split
      · exact mSs a (leE_set h i _)
      · exact mSs b (leE_set h i _)
  | .for tu tg it b, e, f, h => leO_to (mIt h it) fun ds => leO_for (fun _ _ q => mSs b q) ds h
  | .whl c b, e, f, h => leO_whl (fun _ _ q => leR_bind (mE q c) fun _ => .inr rfl) (fun _ _ q => mSs b q) FUEL h
  | .ife c a b, e, f, h => leO_to (leR_bind (mE h c) fun _ => .inr rfl) fun k => by
      cases k
      · exact mSs b h
      · exact mSs a h
  | .ret x, e, f, h => leO_to (mE h x) fun d => ⟨rfl, h⟩
  | .retN, e, f, h => ⟨rfl, h⟩
  | .brk, e, f, h => h
  | .ct, e, f, h => h
  | .pas, e, f, h => h
  | .rse _ _, _, _, _ => trivial
  | .tre _ _ _ _, _, _, _ => trivial
  | .nv, _, _, _ => trivial
theorem mSs : ∀ (s : ISs) {e f : Env}, leE e f → leOu (evSs C T s e) (evSs C T s f)
  | .nil, e, f, h => h
  | .cons s r, e, f, h => leO_seq (mS s h) fun _ _ q => mSs r q
end
end
/-- what holds of an end known of fewer slots holds of one of more -/
def Mq (Q : O → Prop) : Prop := ∀ o p, leOu o p → Q o → Q p
theorem leE_0 {e f : Env} {d : D} (h : leE e f) (q : e[0]? = some (some d)) : f[0]? = some (some d) := by
  cases e with
  | nil => simp at q
  | cons a r => cases f with
    | nil => exact h.elim
    | cons b t =>
      simp at q
      subst q
      rcases h.1 with h | h
      · cases h
      · simp [← h]
theorem Mq_end (Q : D → Prop) : Mq (End Q) := by
  intro o p h q
  cases o <;> cases p <;> first | exact q.elim | exact h.elim | exact q | (obtain ⟨rfl, _⟩ := h; exact q)
theorem Mq_em (Q : D → D → Prop) : Mq (EndM Q) := by
  intro o p h q
  cases o <;> cases p <;> first | exact q.elim | exact h.elim | skip
  · obtain ⟨d, q1, q2⟩ := q
    exact ⟨d, leE_0 h q1, q2⟩
  · obtain ⟨rfl, h⟩ := h
    obtain ⟨q0, d, q1, q2⟩ := q
    exact ⟨q0, d, leE_0 h q1, q2⟩
theorem leE_trans : ∀ {a b c : Env}, leE a b → leE b c → leE a c
  | [], [], [], _, _ => trivial
  | a :: r, b :: s, c :: t, h1, h2 => ⟨by
      rcases h1.1 with h | h
      · exact .inl h
      · rcases h2.1 with k | k
        · exact .inl (h.trans k)
        · exact .inr (h.trans k), leE_trans h1.2 h2.2⟩
  | [], [], _ :: _, _, h => h.elim
  | [], _ :: _, _, h, _ => h.elim
  | _ :: _, [], _, h, _ => h.elim
  | _ :: _, _ :: _, [], _, h => h.elim
theorem Mq_turn {N B : Env → Prop} {Q : O → Prop} (hN : ∀ e f, leE e f → N e → N f) (hB : ∀ e f, leE e f → B e → B f) (hQ : Mq Q) : Mq (Turn N B Q) := by
  intro o p h q
  cases o <;> cases p <;> first | exact q.elim | exact h.elim | exact hN _ _ h q | exact hB _ _ h q | exact hQ _ _ h q
/-- fewer slots will do -/
theorem wq_less {C : Calls} {T : Tab} {rs : ISs} {e f : Env} {Q : O → Prop} (hQ : Mq Q) (h : leE e f) (w : Wq (evSs C T rs e) Q) : Wq (evSs C T rs f) Q := by
  rw [Wq_eq] at w ⊢
  exact hQ _ _ (mSs rs h) w
/-- a for over coded things: the state between turns told by few slots -/
theorem wp_forF {α σ : Type} {tu : Bool} {tg : List Nat} {bd rs : ISs} {enc : α → D} {xs : List α} {env : Env} {C : Calls} {T : Tab} {Q : O → Prop} (F : σ → Env) (I : Nat → σ → Prop) (J : σ → Prop) (s0 : σ) (hQ : Mq Q) (h0 : I 0 s0) (hl : leE (F s0) env)
    (hs : ∀ i (h : i < xs.length) s, I i s → ∃ e1, setT tu tg (enc xs[i]) (F s) = some e1 ∧ Wq (evSs C T bd e1) (Turn (fun e => ∃ s', leE (F s') e ∧ I (i + 1) s') (fun e => ∃ s', leE (F s') e ∧ J s') Q))
    (hk : ∀ s, I xs.length s → Wq (evSs C T rs (F s)) Q) (hj : ∀ s, J s → Wq (evSs C T rs (F s)) Q) : Wq (seqS C T rs (forO tu tg (evSs C T bd) (xs.map enc) env)) Q := by
  refine wp_for (fun i e => ∃ s, leE (F s) e ∧ I i s) ⟨s0, hl, h0⟩ (fun i hi e he => ?_) fun e he => ?_
  · obtain ⟨s, g1, g2⟩ := he
    obtain ⟨e1, g3, g4⟩ := hs i hi s g2
    have q := leE_setT (tu := tu) (tg := tg) (d := enc xs[i]) g1
    rw [g3] at q
    generalize hh : setT tu tg (enc xs[i]) e = o at q
    cases o with
    | none => exact q.elim
    | some e2 =>
      refine ⟨e2, rfl, wq_less ?_ q ?_⟩
      · refine Mq_turn (fun e f h he => ?_) (fun e f h he => wq_less hQ h he) hQ
        obtain ⟨s', k1, k2⟩ := he
        exact ⟨s', leE_trans k1 h, k2⟩
      · rw [Wq_eq] at g4 ⊢
        generalize evSs C T bd e1 = o at g4
        cases o <;> first | exact g4 | skip
        obtain ⟨s', k1, k2⟩ := g4
        exact wq_less hQ k1 (hj s' k2)
  · obtain ⟨s, g1, g2⟩ := he
    exact wq_less hQ g1 (hk s g2)
/-- the same without a break -/
theorem wp_forN {α σ : Type} {tu : Bool} {tg : List Nat} {bd rs : ISs} {enc : α → D} {xs : List α} {env : Env} {C : Calls} {T : Tab} {Q : O → Prop} (F : σ → Env) (I : Nat → σ → Prop) (s0 : σ) (hQ : Mq Q) (h0 : I 0 s0) (hl : leE (F s0) env)
    (hs : ∀ i (h : i < xs.length) s, I i s → ∃ e1, setT tu tg (enc xs[i]) (F s) = some e1 ∧ Wq (evSs C T bd e1) (Turn (fun e => ∃ s', leE (F s') e ∧ I (i + 1) s') (fun _ => False) Q))
    (hk : ∀ s, I xs.length s → Wq (evSs C T rs (F s)) Q) : Wq (seqS C T rs (forO tu tg (evSs C T bd) (xs.map enc) env)) Q := by
  refine wp_forF F I (fun _ => False) s0 hQ h0 hl (fun i hi s g => ?_) hk (fun _ h => h.elim)
  obtain ⟨e1, g3, g4⟩ := hs i hi s g
  refine ⟨e1, g3, ?_⟩
  rw [Wq_eq] at g4 ⊢
  generalize evSs C T bd e1 = o at g4
  cases o <;> first | exact g4 | exact g4.elim
/-- a for that folds -/
theorem wp_fold {α σ : Type} {tu : Bool} {tg : List Nat} {bd rs : ISs} {enc : α → D} {xs : List α} {env : Env} {C : Calls} {T : Tab} {Q : O → Prop} (F : σ → Env) (st : σ → α → σ) (s0 : σ) (hQ : Mq Q) (hl : leE (F s0) env)
    (hs : ∀ i (h : i < xs.length) s, s = (xs.take i).foldl st s0 → ∃ e1, setT tu tg (enc xs[i]) (F s) = some e1 ∧ Wq (evSs C T bd e1) (Turn (fun e => leE (F (st s xs[i])) e) (fun _ => False) Q))
    (hk : Wq (evSs C T rs (F (xs.foldl st s0))) Q) : Wq (seqS C T rs (forO tu tg (evSs C T bd) (xs.map enc) env)) Q := by
  refine wp_forN F (fun i s => s = (xs.take i).foldl st s0) s0 hQ (by simp) hl (fun i hi s g => ?_) fun s g => ?_
  · obtain ⟨e1, g3, g4⟩ := hs i hi s g
    refine ⟨e1, g3, ?_⟩
    have e : ∀ e, leE (F (st s xs[i])) e → ∃ s', leE (F s') e ∧ s' = (xs.take (i + 1)).foldl st s0 := fun e h => ⟨_, h, by rw [List.take_succ_eq_append_getElem hi, List.foldl_append, ← g]; rfl⟩
    rw [Wq_eq] at g4 ⊢
    generalize evSs C T bd e1 = o at g4
    cases o <;> first | exact g4 | exact e _ g4
  · rw [List.take_length] at g
    rw [g]
    exact hk
/-- a for that looks for the first thing of a kind -/
theorem wp_find {α : Type} {tu : Bool} {tg : List Nat} {bd rs : ISs} {enc : α → D} {xs : List α} {env : Env} {C : Calls} {T : Tab} {Q : O → Prop} (F : Env) (p : α → Bool) (hQ : Mq Q) (hl : leE F env)
    (hs : ∀ a ∈ xs, ∃ e1, setT tu tg (enc a) F = some e1 ∧ (p a = false → Wq (evSs C T bd e1) (Turn (fun e => leE F e) (fun _ => False) Q)) ∧ (xs.find? p = some a → p a = true → Wq (evSs C T bd e1) (Turn (fun _ => False) (fun e => Wq (evSs C T rs e) Q) Q)))
    (hk : xs.find? p = none → Wq (evSs C T rs F) Q) : Wq (seqS C T rs (forO tu tg (evSs C T bd) (xs.map enc) env)) Q := by
  have key : ∀ (ys : List α), (∀ a ∈ ys, a ∈ xs) → (xs.find? p = ys.find? p) → ∀ env, leE F env → Wq (seqS C T rs (forO tu tg (evSs C T bd) (ys.map enc) env)) Q := by
    intro ys
    induction ys with
    | nil =>
      intro _ h2 env hl
      exact wq_less hQ hl (hk h2)
    | cons a r ih =>
      intro h1 h2 env hl
      obtain ⟨e1, g1, g2, g3⟩ := hs a (h1 a List.mem_cons_self)
      have q := leE_setT (tu := tu) (tg := tg) (d := enc a) hl
      rw [g1] at q
      rw [List.map_cons]
      unfold forO
      generalize hh : setT tu tg (enc a) env = o at q
      cases o with
      | none => exact q.elim
      | some e2 =>
        dsimp only
        have m := mSs (C := C) (T := T) bd q
        cases hp : p a with
        | false =>
          have g2 := g2 hp
          rw [Wq_eq] at g2
          generalize evSs C T bd e1 = o1 at g2 m
          generalize evSs C T bd e2 = o2 at m
          have ih := ih (fun b hb => h1 b (List.mem_cons_of_mem _ hb)) (by rw [h2, List.find?_cons_of_neg (by simp [hp])])
          cases o1 <;> cases o2 <;> first | exact g2.elim | exact m.elim | skip
          · exact ih _ (leE_trans g2 m)
          · exact ih _ (leE_trans g2 m)
          · rw [Wq_eq]
            exact hQ _ _ m g2
        | true =>
          have g3 := g3 (by rw [h2, List.find?_cons_of_pos hp]) hp
          rw [Wq_eq] at g3
          generalize evSs C T bd e1 = o1 at g3 m
          generalize evSs C T bd e2 = o2 at m
          cases o1 <;> cases o2 <;> first | exact g3.elim | exact m.elim | skip
          · exact wq_less hQ m g3
          · rw [Wq_eq]
            exact hQ _ _ m g3
  exact key xs (fun _ h => h) rfl env hl

/-! lines behind lines -/
def ISs.app : ISs → ISs → ISs
  | .nil, b => b
  | .cons s r, b => .cons s (r.app b)
theorem app_n (b : ISs) : ISs.app .nil b = b := Eq.trans rfl rfl
theorem app_c (s : IS) (r b : ISs) : ISs.app (.cons s r) b = .cons s (r.app b) := Eq.trans rfl rfl
theorem evSs_app {C : Calls} {T : Tab} : ∀ (a b : ISs) (env : Env), evSs C T (a.app b) env = (evSs C T a env).seq fun e => evSs C T b e
  | .nil, b, env => rfl
  | .cons s r, b, env => by
    show (evS C T s env).seq (fun e => evSs C T (r.app b) e) = ((evS C T s env).seq fun e => evSs C T r e).seq fun e => evSs C T b e
    cases evS C T s env <;> first | rfl | exact evSs_app r b _
theorem seqS_nl {C : Calls} {T : Tab} (o : O) : seqS C T .nil o = o := by cases o <;> rfl
theorem seqS_sq {C : Calls} {T : Tab} (r r2 : ISs) (o : O) : seqS C T r (seqS C T r2 o) = seqS C T (r2.app r) o := by
  cases o <;> first | rfl | exact (evSs_app r2 r _).symm
theorem wq_nx {C : Calls} {T : Tab} {s : IS} {r : ISs} {env e : Env} {Q : O → Prop} (h : evS C T s env = .nx e) (w : Wq (evSs C T r e) Q) : Wq (evSs C T (.cons s r) env) Q := by
  rw [ev_nx h]
  exact w
theorem Wq_nl {C : Calls} {T : Tab} {o : O} {Q : O → Prop} (h : Wq (seqS C T .nil o) Q) : Wq o Q := by
  rw [seqS_nl] at h
  exact h
theorem Mq_tF {F : Env} {Q : O → Prop} (hQ : Mq Q) : Mq (Turn (fun e => leE F e) (fun _ => False) Q) := Mq_turn (fun _ _ h he => leE_trans he h) (fun _ _ _ he => he) hQ
theorem Mq_tI {σ : Type} {F : σ → Env} {I : σ → Prop} {Q : O → Prop} (hQ : Mq Q) : Mq (Turn (fun e => ∃ s, leE (F s) e ∧ I s) (fun _ => False) Q) := Mq_turn (fun _ _ h ⟨s, h1, h2⟩ => ⟨s, leE_trans h1 h, h2⟩) (fun _ _ _ he => he) hQ
theorem ite_and (X Y : Bool) : (if X = true then Y else false) = (X && Y) := by cases X <;> rfl
theorem ite_or (X Y : Bool) : (if X = true then true else Y) = (X || Y) := by cases X <;> rfl
theorem ix_t6 (a b c d e f g : D) (r : List D) : ixD (.tup (a :: b :: c :: d :: e :: f :: g :: r)) (.int 6) = .ok g := ix_tup (n := 6) rfl
theorem ix_t7 (a b c d e f g h : D) (r : List D) : ixD (.tup (a :: b :: c :: d :: e :: f :: g :: h :: r)) (.int 7) = .ok h := ix_tup (n := 7) rfl
theorem ix_l4 (a b c d e : D) (r : List D) : ixD (.lst (a :: b :: c :: d :: e :: r)) (.int 4) = .ok e := ix_lst (n := 4) rfl
end G
end
section
set_option Elab.async false
set_option linter.all false
set_option maxRecDepth 100000
set_option maxHeartbeats 0
namespace G
open PySem PySem.Spec PyProof.Rows L2
abbrev f_BadHall_init : Nat := 0
abbrev f_width_of : Nat := 1
abbrev f_is_name : Nat := 2
abbrev f_number_of : Nat := 3
abbrev f_signed_of : Nat := 4
abbrev f_is_item : Nat := 5
abbrev f_words_of : Nat := 6
abbrev f_Hall_init : Nat := 7
abbrev f_first_due : Nat := 8
abbrev f_all_names : Nat := 9
abbrev f_lacking : Nat := 10
abbrev f_spots_of : Nat := 11
abbrev f_shape_row : Nat := 12
abbrev f_mark_row : Nat := 13
abbrev f_point_row : Nat := 14
abbrev f_faces_due : Nat := 15
abbrev f_letter_row : Nat := 16
abbrev f_gap_row : Nat := 17
abbrev f_class_row : Nat := 18
abbrev f_feature_row : Nat := 19
abbrev f_parted : Nat := 20
abbrev f_rule_parts : Nat := 21
abbrev f_item_lacks : Nat := 22
abbrev f_rule_row : Nat := 23
abbrev f_hall_row : Nat := 24
abbrev f_read_hall : Nat := 25
abbrev f_law_cell_at : Nat := 26
abbrev f_law_mixed : Nat := 27
abbrev f_law_names_by : Nat := 28
abbrev f_law_shapes_by : Nat := 29
abbrev f_law_spot_by : Nat := 30
abbrev f_law_marks_by : Nat := 31
abbrev f_law_points_by : Nat := 32
abbrev f_law_letters_by : Nat := 33
abbrev f_law_classes_by : Nat := 34
abbrev f_law_items_by : Nat := 35
abbrev f_law_rules_by : Nat := 36
abbrev f_law_hall_by : Nat := 37
abbrev f_law_pair_text : Nat := 38
abbrev f_law_rule_text : Nat := 39
abbrev f_law_hall_text : Nat := 40
abbrev f_law_whole : Nat := 41
abbrev f_law_cells_by : Nat := 42
abbrev f_law : Nat := 43
def i_width_of : Fn := ⟨2, 4, (.cons (.ret (.blt .sum (.cons (.comp (.ix (.fld (.v 0) 0) (.v 2)) true [2, 3] (.seq (.v 1)) (.some (.cmp .notin (.v 2) (.fld (.v 0) 1)))) .nil))) .nil), [], none, .sh, false⟩
def i_is_name : Fn := ⟨1, 1, (.cons (.ret (.and (.cmp2 .le .le (.ki 1) (.blt .len (.cons (.v 0) .nil)) (.ki 12)) (.cmp .eq (.mth .strip (.v 0) (.cons (.g 1) .nil)) (.ks [])))) .nil), [], none, .sh, false⟩
def i_number_of : Fn := ⟨1, 1, (.cons (.ife (.or (.not (.cmp2 .le .le (.ki 1) (.blt .len (.cons (.v 0) .nil)) (.ki 5))) (.cmp .ne (.mth .strip (.v 0) (.cons (.g 0) .nil)) (.ks []))) (.cons (.ret .kn) .nil) .nil) (.cons (.ife (.and (.cmp .eq (.ix (.v 0) (.ki 0)) (.ks [48])) (.cmp .ne (.v 0) (.ks [48]))) (.cons (.ret .kn) .nil) .nil) (.cons (.ret (.blt .int (.cons (.v 0) .nil))) .nil))), [], none, .sh, false⟩
def i_signed_of : Fn := ⟨1, 2, (.cons (.ife (.cmp .ne (.sl (.v 0) .none (.some (.ki 1))) (.ks [45])) (.cons (.ret (.call f_number_of (.cons (.v 0) .nil))) .nil) .nil) (.cons (.asg 1 .sh (.call f_number_of (.cons (.sl (.v 0) (.some (.ki 1)) .none) .nil)) false) (.cons (.ife (.or (.cmp .is (.v 1) .kn) (.cmp .eq (.v 1) (.ki 0))) (.cons (.ret .kn) .nil) .nil) (.cons (.ret (.neg (.v 1))) .nil)))), [], none, .sh, false⟩
def i_is_item : Fn := ⟨1, 1, (.cons (.ife (.cmp .eq (.sl (.v 0) .none (.some (.ki 1))) (.ks [64])) (.cons (.ret (.call f_is_name (.cons (.sl (.v 0) (.some (.ki 1)) .none) .nil))) .nil) .nil) (.cons (.ret (.call f_is_name (.cons (.v 0) .nil))) .nil)), [], none, .sh, false⟩
def i_words_of : Fn := ⟨1, 2, (.cons (.ret (.comp (.v 1) false [1] (.seq (.mth .split (.v 0) (.cons (.ks [32]) .nil))) (.some (.cmp .ne (.v 1) (.ks []))))) .nil), [], none, .sh, false⟩
def i_Hall_init : Fn := ⟨1, 1, (.cons (.stf ⟨0, []⟩ 0 (.dnew false) false) (.cons (.stf ⟨0, []⟩ 1 (.dnew false) false) (.cons (.stf ⟨0, []⟩ 2 (.dnew true) false) (.cons (.stf ⟨0, []⟩ 3 (.dnew false) false) (.cons (.stf ⟨0, []⟩ 4 (.lst .nil) false) (.cons (.stf ⟨0, []⟩ 5 (.dnew false) false) (.cons (.stf ⟨0, []⟩ 6 (.dnew false) false) (.cons (.stf ⟨0, []⟩ 7 (.lst .nil) false) .nil)))))))), [], (some (.oc 0 .dic (.oc 1 .dic (.oc 2 .dic (.oc 3 .dic (.oc 4 (.lst .sh) (.oc 5 .dic (.oc 6 .dic (.oc 7 (.lst .sh) .on))))))))), .sh, false⟩
def i_first_due : Fn := ⟨3, 3, (.cons (.ife (.v 0) (.cons (.ret (.ks [116, 119, 105, 99, 101])) .nil) .nil) (.cons (.ife (.v 1) (.cons (.ret (.ks [110, 97, 109, 101])) .nil) .nil) (.cons (.ife (.v 2) (.cons (.ret (.ks [109, 97, 110, 121])) .nil) .nil) (.cons (.ret (.ks [])) .nil)))), [], none, .sh, false⟩
def i_all_names : Fn := ⟨1, 2, (.cons (.ret (.blt .all (.cons (.comp (.call f_is_name (.cons (.v 1) .nil)) false [1] (.seq (.v 0)) .none) .nil))) .nil), [], none, .sh, false⟩
def i_lacking : Fn := ⟨2, 3, (.cons (.for false [2] (.seq (.v 0)) (.cons (.ife (.cmp .notin (.v 2) (.v 1)) (.cons (.ret (.kb true)) .nil) .nil) .nil)) (.cons (.ret (.kb false)) .nil)), [], none, .sh, false⟩
def i_spots_of : Fn := ⟨1, 4, (.cons (.asg 1 .sh (.comp (.call f_signed_of (.cons (.v 2) .nil)) false [2] (.seq (.v 0)) .none) false) (.cons (.ife (.cmp .isin .kn (.v 1)) (.cons (.ret .kn) .nil) .nil) (.cons (.ret (.comp (.tup (.cons (.ix (.v 1) (.v 3)) (.cons (.ix (.v 1) (.bin .add (.v 3) (.ki 1))) .nil))) false [3] (.rng3 (.ki 0) (.blt .len (.cons (.v 1) .nil)) (.ki 2)) .none)) .nil))), [], none, .sh, false⟩
def i_shape_row : Fn := ⟨2, 3, (.cons (.ife (.or (.cmp .ne (.blt .len (.cons (.v 1) .nil)) (.ki 2)) (.or (.not (.call f_is_name (.cons (.ix (.v 1) (.ki 0)) .nil))) (.cmp .is (.call f_number_of (.cons (.ix (.v 1) (.ki 1)) .nil)) .kn))) (.cons (.ret (.ks [114, 111, 119])) .nil) .nil) (.cons (.asg 2 .sh (.call f_first_due (.cons (.cmp .isin (.ix (.v 1) (.ki 0)) (.fld (.v 0) 0)) (.cons (.kb false) (.cons (.cmp .ge (.blt .len (.cons (.fld (.v 0) 0) .nil)) (.ki 60)) .nil)))) true) (.cons (.ife (.cmp .eq (.v 2) (.ks [])) (.cons (.sti ⟨0, [.fld 0]⟩ (.ix (.v 1) (.ki 0)) (.call f_number_of (.cons (.ix (.v 1) (.ki 1)) .nil)) false) .nil) .nil) (.cons (.ret (.v 2)) .nil)))), [], (some (.oc 0 .dic (.oc 1 .dic (.oc 2 .dic (.oc 3 .dic (.oc 4 (.lst .sh) (.oc 5 .dic (.oc 6 .dic (.oc 7 (.lst .sh) .on))))))))), .sh, false⟩
def i_mark_row : Fn := ⟨2, 4, (.cons (.ife (.or (.cmp .ne (.blt .len (.cons (.v 1) .nil)) (.ki 6)) (.or (.not (.call f_is_name (.cons (.ix (.v 1) (.ki 0)) .nil))) (.cmp .notin (.ix (.v 1) (.ki 1)) (.tup (.cons (.ks [97, 98, 111, 118, 101]) (.cons (.ks [98, 101, 108, 111, 119]) .nil)))))) (.cons (.ret (.ks [114, 111, 119])) .nil) .nil) (.cons (.asg 2 .sh (.call f_spots_of (.cons (.sl (.v 1) (.some (.ki 2)) .none) .nil)) false) (.cons (.ife (.cmp .is (.v 2) .kn) (.cons (.ret (.ks [114, 111, 119])) .nil) .nil) (.cons (.asg 3 .sh (.call f_first_due (.cons (.cmp .isin (.ix (.v 1) (.ki 0)) (.fld (.v 0) 1)) (.cons (.cmp .notin (.ix (.v 1) (.ki 0)) (.fld (.v 0) 0)) (.cons (.kb false) .nil)))) true) (.cons (.ife (.cmp .eq (.v 3) (.ks [])) (.cons (.sti ⟨0, [.fld 1]⟩ (.ix (.v 1) (.ki 0)) (.tup (.cons (.ix (.v 1) (.ki 1)) (.cons (.ix (.v 2) (.ki 0)) (.cons (.ix (.v 2) (.ki 1)) .nil)))) false) .nil) .nil) (.cons (.ret (.v 3)) .nil)))))), [], (some (.oc 0 .dic (.oc 1 .dic (.oc 2 .dic (.oc 3 .dic (.oc 4 (.lst .sh) (.oc 5 .dic (.oc 6 .dic (.oc 7 (.lst .sh) .on))))))))), .sh, false⟩
def i_point_row : Fn := ⟨2, 4, (.cons (.ife (.or (.cmp .ne (.blt .len (.cons (.v 1) .nil)) (.ki 4)) (.or (.not (.call f_is_name (.cons (.ix (.v 1) (.ki 0)) .nil))) (.cmp .notin (.ix (.v 1) (.ki 1)) (.tup (.cons (.ks [97, 98, 111, 118, 101]) (.cons (.ks [98, 101, 108, 111, 119]) .nil)))))) (.cons (.ret (.ks [114, 111, 119])) .nil) .nil) (.cons (.asg 2 .sh (.call f_spots_of (.cons (.sl (.v 1) (.some (.ki 2)) .none) .nil)) false) (.cons (.ife (.cmp .is (.v 2) .kn) (.cons (.ret (.ks [114, 111, 119])) .nil) .nil) (.cons (.asg 3 .sh (.call f_first_due (.cons (.cmp .isin (.tup (.cons (.ix (.v 1) (.ki 0)) (.cons (.ix (.v 1) (.ki 1)) .nil))) (.fld (.v 0) 2)) (.cons (.cmp .notin (.ix (.v 1) (.ki 0)) (.fld (.v 0) 0)) (.cons (.kb false) .nil)))) true) (.cons (.ife (.cmp .eq (.v 3) (.ks [])) (.cons (.sti ⟨0, [.fld 2]⟩ (.tup (.cons (.ix (.v 1) (.ki 0)) (.cons (.ix (.v 1) (.ki 1)) .nil))) (.ix (.v 2) (.ki 0)) false) .nil) .nil) (.cons (.ret (.v 3)) .nil)))))), [], (some (.oc 0 .dic (.oc 1 .dic (.oc 2 .dic (.oc 3 .dic (.oc 4 (.lst .sh) (.oc 5 .dic (.oc 6 .dic (.oc 7 (.lst .sh) .on))))))))), .sh, false⟩
def i_faces_due : Fn := ⟨1, 1, (.cons (.ife (.or (.cmp .eq (.v 0) (.ks [110, 111, 110, 101])) (.cmp .eq (.v 0) (.ks [99, 108, 101, 97, 114]))) (.cons (.ret (.ki 1)) .nil) .nil) (.cons (.ife (.cmp .eq (.v 0) (.ks [98, 97, 99, 107])) (.cons (.ret (.ki 2)) .nil) .nil) (.cons (.ife (.cmp .eq (.v 0) (.ks [98, 111, 116, 104])) (.cons (.ret (.ki 4)) .nil) .nil) (.cons (.ret (.ki 0)) .nil)))), [], none, .sh, false⟩
def i_letter_row : Fn := ⟨2, 3, (.cons (.ife (.or (.cmp .lt (.blt .len (.cons (.v 1) .nil)) (.ki 4)) (.or (.not (.call f_is_name (.cons (.ix (.v 1) (.ki 0)) .nil))) (.cmp .notin (.ix (.v 1) (.ki 2)) (.tup (.cons (.ks [108, 101, 102, 116]) (.cons (.ks [114, 105, 103, 104, 116]) (.cons (.ks [101, 105, 116, 104, 101, 114]) .nil))))))) (.cons (.ret (.ks [114, 111, 119])) .nil) .nil) (.cons (.ife (.or (.cmp .ne (.blt .len (.cons (.v 1) .nil)) (.bin .add (.ki 3) (.call f_faces_due (.cons (.ix (.v 1) (.ki 1)) .nil)))) (.not (.call f_all_names (.cons (.sl (.v 1) (.some (.ki 3)) .none) .nil)))) (.cons (.ret (.ks [114, 111, 119])) .nil) .nil) (.cons (.asg 2 .sh (.call f_first_due (.cons (.cmp .isin (.ix (.v 1) (.ki 0)) (.fld (.v 0) 3)) (.cons (.call f_lacking (.cons (.sl (.v 1) (.some (.ki 3)) .none) (.cons (.fld (.v 0) 0) .nil))) (.cons (.cmp .ge (.blt .len (.cons (.fld (.v 0) 3) .nil)) (.ki 24)) .nil)))) true) (.cons (.ife (.cmp .eq (.v 2) (.ks [])) (.cons (.sti ⟨0, [.fld 3]⟩ (.ix (.v 1) (.ki 0)) (.tup (.cons (.ix (.v 1) (.ki 1)) (.cons (.ix (.v 1) (.ki 2)) (.cons (.blt .tuple (.cons (.sl (.v 1) (.some (.ki 3)) .none) .nil)) .nil)))) false) .nil) .nil) (.cons (.ret (.v 2)) .nil))))), [], (some (.oc 0 .dic (.oc 1 .dic (.oc 2 .dic (.oc 3 .dic (.oc 4 (.lst .sh) (.oc 5 .dic (.oc 6 .dic (.oc 7 (.lst .sh) .on))))))))), .sh, false⟩
def i_gap_row : Fn := ⟨2, 3, (.cons (.ife (.or (.cmp .ne (.blt .len (.cons (.v 1) .nil)) (.ki 1)) (.not (.call f_is_name (.cons (.ix (.v 1) (.ki 0)) .nil)))) (.cons (.ret (.ks [114, 111, 119])) .nil) .nil) (.cons (.asg 2 .sh (.call f_first_due (.cons (.cmp .isin (.ix (.v 1) (.ki 0)) (.fld (.v 0) 4)) (.cons (.cmp .notin (.ix (.v 1) (.ki 0)) (.fld (.v 0) 3)) (.cons (.kb false) .nil)))) true) (.cons (.ife (.cmp .eq (.v 2) (.ks [])) (.cons (.app ⟨0, [.fld 4]⟩ (.ix (.v 1) (.ki 0)) false) .nil) .nil) (.cons (.ret (.v 2)) .nil)))), [], (some (.oc 0 .dic (.oc 1 .dic (.oc 2 .dic (.oc 3 .dic (.oc 4 (.lst .sh) (.oc 5 .dic (.oc 6 .dic (.oc 7 (.lst .sh) .on))))))))), .sh, false⟩
def i_class_row : Fn := ⟨2, 3, (.cons (.ife (.or (.not (.cmp2 .le .le (.ki 2) (.blt .len (.cons (.v 1) .nil)) (.ki 21))) (.not (.call f_all_names (.cons (.v 1) .nil)))) (.cons (.ret (.ks [114, 111, 119])) .nil) .nil) (.cons (.asg 2 .sh (.call f_first_due (.cons (.cmp .isin (.ix (.v 1) (.ki 0)) (.fld (.v 0) 5)) (.cons (.call f_lacking (.cons (.sl (.v 1) (.some (.ki 1)) .none) (.cons (.fld (.v 0) 0) .nil))) (.cons (.cmp .ge (.blt .len (.cons (.fld (.v 0) 5) .nil)) (.ki 20)) .nil)))) true) (.cons (.ife (.cmp .eq (.v 2) (.ks [])) (.cons (.sti ⟨0, [.fld 5]⟩ (.ix (.v 1) (.ki 0)) (.blt .tuple (.cons (.sl (.v 1) (.some (.ki 1)) .none) .nil)) false) .nil) .nil) (.cons (.ret (.v 2)) .nil)))), [], (some (.oc 0 .dic (.oc 1 .dic (.oc 2 .dic (.oc 3 .dic (.oc 4 (.lst .sh) (.oc 5 .dic (.oc 6 .dic (.oc 7 (.lst .sh) .on))))))))), .sh, false⟩
def i_feature_row : Fn := ⟨2, 3, (.cons (.ife (.or (.cmp .ne (.blt .len (.cons (.v 1) .nil)) (.ki 2)) (.or (.not (.call f_is_name (.cons (.ix (.v 1) (.ki 0)) .nil))) (.cmp .notin (.ix (.v 1) (.ki 1)) (.tup (.cons (.ks [111, 110]) (.cons (.ks [111, 102, 102]) .nil)))))) (.cons (.ret (.ks [114, 111, 119])) .nil) .nil) (.cons (.asg 2 .sh (.call f_first_due (.cons (.cmp .isin (.ix (.v 1) (.ki 0)) (.fld (.v 0) 6)) (.cons (.kb false) (.cons (.cmp .ge (.blt .len (.cons (.fld (.v 0) 6) .nil)) (.ki 10)) .nil)))) true) (.cons (.ife (.cmp .eq (.v 2) (.ks [])) (.cons (.sti ⟨0, [.fld 6]⟩ (.ix (.v 1) (.ki 0)) (.cmp .eq (.ix (.v 1) (.ki 1)) (.ks [111, 110])) false) .nil) .nil) (.cons (.ret (.v 2)) .nil)))), [], (some (.oc 0 .dic (.oc 1 .dic (.oc 2 .dic (.oc 3 .dic (.oc 4 (.lst .sh) (.oc 5 .dic (.oc 6 .dic (.oc 7 (.lst .sh) .on))))))))), .sh, false⟩
def i_parted : Fn := ⟨1, 7, (.cons (.asg 1 .sh (.comp (.v 5) true [5, 6] (.enum (.v 0)) (.some (.cmp .isin (.v 6) (.tup (.cons (.ks [47]) (.cons (.ks [62]) .nil)))))) false) (.cons (.ife (.cmp .ne (.comp (.ix (.v 0) (.v 5)) false [5] (.seq (.v 1)) .none) (.lst (.cons (.ks [47]) (.cons (.ks [47]) (.cons (.ks [62]) .nil))))) (.cons (.ret .kn) .nil) .nil) (.cons (.asgT [2, 3, 4] (.v 1) false) (.cons (.ret (.lst (.cons (.sl (.v 0) .none (.some (.v 2))) (.cons (.sl (.v 0) (.some (.bin .add (.v 2) (.ki 1))) (.some (.v 3))) (.cons (.sl (.v 0) (.some (.bin .add (.v 3) (.ki 1))) (.some (.v 4))) (.cons (.sl (.v 0) (.some (.bin .add (.v 4) (.ki 1))) .none) .nil)))))) .nil)))), [], none, .sh, false⟩
def i_rule_parts : Fn := ⟨1, 3, (.cons (.asg 1 .sh (.call f_parted (.cons (.v 0) .nil)) false) (.cons (.ife (.or (.cmp .is (.v 1) .kn) (.or (.cmp .gt (.blt .len (.cons (.ix (.v 1) (.ki 0)) .nil)) (.ki 3)) (.not (.cmp2 .le .le (.ki 1) (.blt .len (.cons (.ix (.v 1) (.ki 1)) .nil)) (.ki 4))))) (.cons (.ret .kn) .nil) .nil) (.cons (.ife (.or (.cmp .gt (.blt .len (.cons (.ix (.v 1) (.ki 2)) .nil)) (.ki 3)) (.or (.not (.cmp2 .le .le (.ki 1) (.blt .len (.cons (.ix (.v 1) (.ki 3)) .nil)) (.ki 3))) (.not (.call f_all_names (.cons (.ix (.v 1) (.ki 3)) .nil))))) (.cons (.ret .kn) .nil) .nil) (.cons (.ife (.not (.blt .all (.cons (.comp (.call f_is_item (.cons (.v 2) .nil)) false [2] (.seq (.bin .add (.bin .add (.ix (.v 1) (.ki 0)) (.ix (.v 1) (.ki 1))) (.ix (.v 1) (.ki 2)))) .none) .nil))) (.cons (.ret .kn) .nil) .nil) (.cons (.ret (.v 1)) .nil))))), [], none, .sh, false⟩
def i_item_lacks : Fn := ⟨2, 2, (.cons (.ife (.cmp .eq (.ix (.v 1) (.ki 0)) (.ks [64])) (.cons (.ret (.cmp .notin (.sl (.v 1) (.some (.ki 1)) .none) (.fld (.v 0) 5))) .nil) .nil) (.cons (.ret (.cmp .notin (.v 1) (.fld (.v 0) 0))) .nil)), [], none, .sh, false⟩
def i_rule_row : Fn := ⟨2, 9, (.cons (.ife (.or (.cmp .lt (.blt .len (.cons (.v 1) .nil)) (.ki 2)) (.not (.call f_all_names (.cons (.sl (.v 1) .none (.some (.ki 2))) .nil)))) (.cons (.ret (.ks [114, 111, 119])) .nil) .nil) (.cons (.asg 2 .sh (.call f_rule_parts (.cons (.sl (.v 1) (.some (.ki 2)) .none) .nil)) false) (.cons (.ife (.cmp .is (.v 2) .kn) (.cons (.ret (.ks [114, 111, 119])) .nil) .nil) (.cons (.asg 3 .sh (.or (.cmp .notin (.ix (.v 1) (.ki 1)) (.fld (.v 0) 6)) (.call f_lacking (.cons (.ix (.v 2) (.ki 3)) (.cons (.fld (.v 0) 0) .nil)))) true) (.cons (.for false [4] (.seq (.bin .add (.bin .add (.ix (.v 2) (.ki 0)) (.ix (.v 2) (.ki 1))) (.ix (.v 2) (.ki 2)))) (.cons (.asg 3 .sh (.or (.v 3) (.call f_item_lacks (.cons (.v 0) (.cons (.v 4) .nil)))) true) .nil)) (.cons (.asg 5 .sh (.cmp .isin (.ix (.v 1) (.ki 0)) (.comp (.ix (.v 7) (.ki 0)) false [7] (.seq (.fld (.v 0) 7)) .none)) true) (.cons (.asg 6 .sh (.call f_first_due (.cons (.v 5) (.cons (.v 3) (.cons (.cmp .ge (.blt .len (.cons (.fld (.v 0) 7) .nil)) (.ki 30)) .nil)))) true) (.cons (.ife (.cmp .eq (.v 6) (.ks [])) (.cons (.app ⟨0, [.fld 7]⟩ (.bin .add (.tup (.cons (.ix (.v 1) (.ki 0)) (.cons (.ix (.v 1) (.ki 1)) .nil))) (.blt .tuple (.cons (.comp (.blt .tuple (.cons (.v 8) .nil)) false [8] (.seq (.v 2)) .none) .nil))) false) .nil) .nil) (.cons (.ret (.v 6)) .nil))))))))), [], (some (.oc 0 .dic (.oc 1 .dic (.oc 2 .dic (.oc 3 .dic (.oc 4 (.lst .sh) (.oc 5 .dic (.oc 6 .dic (.oc 7 (.lst .sh) .on))))))))), .sh, false⟩
def i_hall_row : Fn := ⟨3, 3, (.cons (.ife (.cmp .eq (.v 1) (.ks [115, 104, 97, 112, 101])) (.cons (.mcr f_shape_row 0 (.cons (.v 2) .nil) false) .nil) .nil) (.cons (.ife (.cmp .eq (.v 1) (.ks [109, 97, 114, 107])) (.cons (.mcr f_mark_row 0 (.cons (.v 2) .nil) false) .nil) .nil) (.cons (.ife (.cmp .eq (.v 1) (.ks [112, 111, 105, 110, 116])) (.cons (.mcr f_point_row 0 (.cons (.v 2) .nil) false) .nil) .nil) (.cons (.ife (.cmp .eq (.v 1) (.ks [108, 101, 116, 116, 101, 114])) (.cons (.mcr f_letter_row 0 (.cons (.v 2) .nil) false) .nil) .nil) (.cons (.ife (.cmp .eq (.v 1) (.ks [103, 97, 112])) (.cons (.mcr f_gap_row 0 (.cons (.v 2) .nil) false) .nil) .nil) (.cons (.ife (.cmp .eq (.v 1) (.ks [99, 108, 97, 115, 115])) (.cons (.mcr f_class_row 0 (.cons (.v 2) .nil) false) .nil) .nil) (.cons (.ife (.cmp .eq (.v 1) (.ks [102, 101, 97, 116, 117, 114, 101])) (.cons (.mcr f_feature_row 0 (.cons (.v 2) .nil) false) .nil) .nil) (.cons (.ife (.cmp .eq (.v 1) (.ks [114, 117, 108, 101])) (.cons (.mcr f_rule_row 0 (.cons (.v 2) .nil) false) .nil) .nil) (.cons (.ret (.ks [114, 111, 119])) .nil))))))))), [], (some (.oc 0 .dic (.oc 1 .dic (.oc 2 .dic (.oc 3 .dic (.oc 4 (.lst .sh) (.oc 5 .dic (.oc 6 .dic (.oc 7 (.lst .sh) .on))))))))), .sh, false⟩
def i_read_hall : Fn := ⟨1, 6, (.cons (.asg 1 (.oc 0 .dic (.oc 1 .dic (.oc 2 .dic (.oc 3 .dic (.oc 4 (.lst .sh) (.oc 5 .dic (.oc 6 .dic (.oc 7 (.lst .sh) .on)))))))) (.mk 0 .nil) false) (.cons (.for true [2, 3] (.enum (.mth .split (.v 0) (.cons (.ks [10]) .nil))) (.cons (.asg 4 .sh (.call f_words_of (.cons (.v 3) .nil)) false) (.cons (.ife (.cmp .gt (.blt .len (.cons (.v 4) .nil)) (.ki 0)) (.cons (.mc (some 5) f_hall_row 1 (.cons (.ix (.v 4) (.ki 0)) (.cons (.sl (.v 4) (.some (.ki 1)) .none) .nil)) false) (.cons (.ife (.cmp .ne (.v 5) (.ks [])) (.cons .nv .nil) .nil) .nil)) .nil) .nil))) (.cons (.ret (.v 1)) .nil))), [], none, .sh, false⟩
def i_law_cell_at : Fn := ⟨2, 2, (.cons (.ife (.cmp .lt (.v 1) (.blt .len (.cons (.v 0) .nil))) (.cons (.ret (.ix (.v 0) (.v 1))) .nil) .nil) (.cons (.ret (.ki 0)) .nil)), [], none, .sh, false⟩
def i_law_mixed : Fn := ⟨2, 2, (.cons (.ret (.bin .mod (.bin .mul (.bin .mul (.bin .add (.bin .mod (.v 0) (.ki 2305843009213693951)) (.ki 1)) (.bin .add (.bin .mul (.v 1) (.v 1)) (.ki 48271))) (.ki 40692)) (.ki 2147483399))) .nil), [], none, .sh, false⟩
def i_law_names_by : Fn := ⟨2, 8, (.cons (.asg 2 .sh (.ks [97, 98, 99, 100, 101, 102, 103, 104, 105, 106, 107, 108, 109, 110, 111, 112, 113, 114, 115, 116, 117, 118, 119, 120, 121, 122]) false) (.cons (.asg 3 .sh (.bin .mod (.bin .fdiv (.v 0) (.ki 4)) (.ki 26)) false) (.cons (.ife (.and (.cmp .eq (.bin .mod (.v 0) (.ki 4)) (.ki 0)) (.cmp .lt (.v 1) (.ki 13))) (.cons (.ret (.comp (.bin .mul (.ix (.v 2) (.v 3)) (.bin .sub (.v 1) (.v 7))) false [7] (.rng1 (.v 1)) .none)) .nil) .nil) (.cons (.asg 4 .sh (.bin .mod (.bin .fdiv (.v 0) (.ki 104)) (.ki 12)) false) (.cons (.asg 5 .sh (.bin .mod (.bin .fdiv (.v 0) (.ki 1248)) (.bin .add (.v 4) (.ki 1))) false) (.cons (.asg 6 .sh (.mth .join (.ks []) (.cons (.comp (.ix (.bin .add (.v 2) (.ks [48, 49, 50, 51, 52, 53, 54, 55, 56, 57])) (.bin .mod (.bin .add (.bin .fdiv (.v 0) (.ki 16224)) (.bin .mul (.ki 7) (.v 7))) (.ki 36))) false [7] (.rng1 (.v 4)) .none) .nil)) false) (.cons (.ret (.comp (.bin .add (.bin .add (.sl (.v 6) .none (.some (.v 5))) (.ix (.v 2) (.bin .mod (.bin .add (.v 3) (.bin .mul (.ki 5) (.v 7))) (.ki 26)))) (.sl (.v 6) (.some (.v 5)) .none)) false [7] (.rng1 (.v 1)) .none)) .nil))))))), [], none, .sh, false⟩
def i_law_shapes_by : Fn := ⟨1, 8, (.cons (.asg 1 .sh (.call f_law_mixed (.cons (.v 0) (.cons (.ki 1) .nil))) false) (.cons (.asg 2 .sh (.call f_law_names_by (.cons (.bin .fdiv (.v 1) (.ki 13)) (.cons (.bin .add (.ki 4) (.bin .mod (.v 1) (.ki 13))) .nil))) false) (.cons (.asg 3 (.lst .sh) (.lst .nil) false) (.cons (.for false [4] (.rng1 (.blt .len (.cons (.v 2) .nil))) (.cons (.asg 5 .sh (.call f_law_mixed (.cons (.v 0) (.cons (.bin .add (.v 4) (.ki 10)) .nil))) false) (.cons (.app ⟨3, []⟩ (.ix (.lst (.cons (.ki 0) (.cons (.bin .mod (.bin .fdiv (.v 5) (.ki 4)) (.ki 20)) (.cons (.bin .mod (.bin .fdiv (.v 5) (.ki 4)) (.ki 1000)) (.cons (.bin .mod (.bin .fdiv (.v 5) (.ki 4)) (.ki 99999)) .nil))))) (.bin .mod (.v 5) (.ki 4))) false) .nil))) (.cons (.ret (.comp (.tup (.cons (.v 6) (.cons (.v 7) .nil))) true [6, 7] (.zip (.v 2) (.v 3)) .none)) .nil))))), [], none, .sh, false⟩
def i_law_spot_by : Fn := ⟨1, 1, (.cons (.ret (.tup (.cons (.bin .sub (.bin .mod (.v 0) (.ki 41)) (.ki 20)) (.cons (.ix (.lst (.cons (.ki 0) (.cons (.bin .mod (.bin .fdiv (.v 0) (.ki 41)) (.ki 99999)) (.cons (.neg (.bin .mod (.bin .fdiv (.v 0) (.ki 41)) (.ki 99999))) .nil)))) (.bin .mod (.bin .fdiv (.v 0) (.ki 7)) (.ki 3))) .nil)))) .nil), [], none, .sh, false⟩
def i_law_marks_by : Fn := ⟨2, 6, (.cons (.asg 2 (.lst .sh) (.lst .nil) false) (.cons (.for false [3] (.rng1 (.blt .len (.cons (.v 1) .nil))) (.cons (.asg 4 .sh (.call f_law_mixed (.cons (.v 0) (.cons (.bin .add (.v 3) (.ki 40)) .nil))) false) (.cons (.ife (.cmp .eq (.bin .mod (.v 4) (.ki 4)) (.ki 1)) (.cons (.asg 5 .sh (.ix (.lst (.cons (.ks [97, 98, 111, 118, 101]) (.cons (.ks [98, 101, 108, 111, 119]) .nil))) (.bin .mod (.bin .fdiv (.v 4) (.ki 4)) (.ki 2))) false) (.cons (.app ⟨2, []⟩ (.tup (.cons (.ix (.ix (.v 1) (.v 3)) (.ki 0)) (.cons (.v 5) (.cons (.call f_law_spot_by (.cons (.bin .fdiv (.v 4) (.ki 8)) .nil)) (.cons (.call f_law_spot_by (.cons (.bin .fdiv (.v 4) (.ki 8000)) .nil)) .nil))))) false) .nil)) .nil) .nil))) (.cons (.ret (.v 2)) .nil))), [], none, .sh, false⟩
def i_law_points_by : Fn := ⟨2, 6, (.cons (.asg 2 (.lst .sh) (.lst .nil) false) (.cons (.for false [3] (.rng1 (.blt .len (.cons (.v 1) .nil))) (.cons (.asg 4 .sh (.call f_law_mixed (.cons (.v 0) (.cons (.bin .add (.v 3) (.ki 70)) .nil))) false) (.cons (.for false [5] (.seq (.sl (.lst (.cons (.ks [97, 98, 111, 118, 101]) (.cons (.ks [98, 101, 108, 111, 119]) .nil))) (.some (.bin .mod (.v 4) (.ki 2))) .none)) (.cons (.ife (.cmp .gt (.bin .mod (.bin .fdiv (.v 4) (.ki 2)) (.ki 3)) (.ki 0)) (.cons (.app ⟨2, []⟩ (.tup (.cons (.ix (.ix (.v 1) (.v 3)) (.ki 0)) (.cons (.v 5) (.cons (.call f_law_spot_by (.cons (.bin .fdiv (.v 4) (.ki 6)) .nil)) .nil)))) false) .nil) .nil) .nil)) .nil))) (.cons (.ret (.v 2)) .nil))), [], none, .sh, false⟩
def i_law_letters_by : Fn := ⟨2, 11, (.cons (.asg 2 .sh (.call f_law_mixed (.cons (.v 0) (.cons (.ki 2) .nil))) false) (.cons (.asg 3 .sh (.call f_law_names_by (.cons (.bin .fdiv (.v 2) (.ki 6)) (.cons (.bin .add (.ki 1) (.bin .mod (.v 2) (.ki 6))) .nil))) false) (.cons (.asg 4 (.lst .sh) (.lst .nil) false) (.cons (.for false [5] (.rng1 (.blt .len (.cons (.v 3) .nil))) (.cons (.asg 6 .sh (.call f_law_mixed (.cons (.v 0) (.cons (.bin .add (.v 5) (.ki 100)) .nil))) false) (.cons (.asg 7 .sh (.ix (.lst (.cons (.ks [98, 111, 116, 104]) (.cons (.ks [98, 97, 99, 107]) (.cons (.ks [110, 111, 110, 101]) (.cons (.ks [98, 111, 116, 104]) (.cons (.ks [99, 108, 101, 97, 114]) (.cons (.ks [98, 111, 116, 104]) .nil))))))) (.bin .mod (.v 6) (.ki 6))) false) (.cons (.asg 8 .sh (.ix (.dic (.cons (.ks [98, 111, 116, 104]) (.ki 4) (.cons (.ks [98, 97, 99, 107]) (.ki 2) (.cons (.ks [110, 111, 110, 101]) (.ki 1) (.cons (.ks [99, 108, 101, 97, 114]) (.ki 1) .nil))))) (.v 7)) false) (.cons (.asg 9 .sh (.blt .tuple (.cons (.comp (.ix (.ix (.v 1) (.bin .mod (.bin .fdiv (.v 6) (.bin .add (.bin .mul (.bin .mul (.v 10) (.v 10)) (.ki 31)) (.ki 7))) (.blt .len (.cons (.v 1) .nil)))) (.ki 0)) false [10] (.rng1 (.v 8)) .none) .nil)) false) (.cons (.app ⟨4, []⟩ (.tup (.cons (.ix (.v 3) (.v 5)) (.cons (.v 7) (.cons (.ix (.lst (.cons (.ks [108, 101, 102, 116]) (.cons (.ks [114, 105, 103, 104, 116]) (.cons (.ks [101, 105, 116, 104, 101, 114]) .nil)))) (.bin .mod (.bin .fdiv (.v 6) (.ki 6)) (.ki 3))) (.cons (.v 9) .nil))))) false) .nil)))))) (.cons (.ret (.v 4)) .nil))))), [], none, .sh, false⟩
def i_law_classes_by : Fn := ⟨2, 9, (.cons (.asg 2 .sh (.call f_law_mixed (.cons (.v 0) (.cons (.ki 3) .nil))) false) (.cons (.asg 3 (.lst .sh) (.lst .nil) false) (.cons (.for true [4, 5] (.enum (.call f_law_names_by (.cons (.bin .fdiv (.v 2) (.ki 4)) (.cons (.bin .add (.ki 1) (.bin .mod (.v 2) (.ki 3))) .nil)))) (.cons (.asg 6 .sh (.call f_law_mixed (.cons (.v 0) (.cons (.bin .add (.v 4) (.ki 130)) .nil))) false) (.cons (.asg 7 .sh (.comp (.ix (.ix (.v 1) (.bin .mod (.bin .fdiv (.v 6) (.bin .add (.bin .mul (.v 8) (.ki 13)) (.ki 5))) (.blt .len (.cons (.v 1) .nil)))) (.ki 0)) false [8] (.rng1 (.bin .add (.ki 1) (.bin .mod (.v 6) (.ki 5)))) .none) false) (.cons (.app ⟨3, []⟩ (.tup (.cons (.v 5) (.cons (.blt .tuple (.cons (.v 7) .nil)) .nil))) false) .nil)))) (.cons (.ret (.v 3)) .nil)))), [], none, .sh, false⟩
def i_law_items_by : Fn := ⟨5, 9, (.cons (.asg 5 (.lst .sh) (.lst .nil) false) (.cons (.for false [6] (.rng1 (.v 1)) (.cons (.asg 7 .sh (.bin .fdiv (.v 0) (.bin .add (.bin .mul (.bin .mul (.v 6) (.v 6)) (.ki 17)) (.ki 3))) false) (.cons (.ife (.cmp .eq (.bin .mod (.v 7) (.ki 3)) (.ki 0)) (.cons (.app ⟨5, []⟩ (.bin .add (.ks [64]) (.ix (.ix (.v 4) (.bin .mod (.bin .fdiv (.v 7) (.ki 3)) (.blt .len (.cons (.v 4) .nil)))) (.ki 0))) false) .nil) (.cons (.ife (.cmp .eq (.bin .mod (.v 7) (.ki 3)) (.ki 1)) (.cons (.asg 8 .sh (.ix (.ix (.v 3) (.bin .mod (.bin .fdiv (.v 7) (.ki 3)) (.blt .len (.cons (.v 3) .nil)))) (.ki 3)) false) (.cons (.app ⟨5, []⟩ (.ix (.v 8) (.bin .mod (.bin .fdiv (.v 7) (.ki 50)) (.blt .len (.cons (.v 8) .nil)))) false) .nil)) (.cons (.app ⟨5, []⟩ (.ix (.ix (.v 2) (.bin .mod (.bin .fdiv (.v 7) (.ki 3)) (.blt .len (.cons (.v 2) .nil)))) (.ki 0)) false) .nil)) .nil)) .nil))) (.cons (.ret (.blt .tuple (.cons (.v 5) .nil))) .nil))), [], none, .sh, false⟩
def i_law_rules_by : Fn := ⟨6, 18, (.cons (.asg 6 (.lst .sh) (.lst .nil) false) (.cons (.for true [7, 8] (.enum (.call f_law_names_by (.cons (.call f_law_mixed (.cons (.v 0) (.cons (.ki 4) .nil))) (.cons (.v 1) .nil)))) (.cons (.asg 9 .sh (.call f_law_mixed (.cons (.v 0) (.cons (.bin .add (.v 7) (.ki 160)) .nil))) false) (.cons (.asg 10 .sh (.call f_law_mixed (.cons (.v 0) (.cons (.bin .add (.v 7) (.ki 190)) .nil))) false) (.cons (.asg 11 .sh (.lst (.cons (.ix (.lst (.cons (.ki 0) (.cons (.ki 0) (.cons (.ki 0) (.cons (.ki 1) (.cons (.ki 2) (.cons (.ki 3) .nil))))))) (.bin .mod (.v 9) (.ki 6))) (.cons (.ix (.lst (.cons (.ki 1) (.cons (.ki 2) (.cons (.ki 1) (.cons (.ki 2) (.cons (.ki 3) (.cons (.ki 4) (.cons (.ki 1) .nil)))))))) (.bin .mod (.bin .fdiv (.v 9) (.ki 6)) (.ki 7))) (.cons (.ix (.lst (.cons (.ki 0) (.cons (.ki 0) (.cons (.ki 0) (.cons (.ki 1) (.cons (.ki 2) (.cons (.ki 3) .nil))))))) (.bin .mod (.bin .fdiv (.v 9) (.ki 42)) (.ki 6))) .nil)))) false) (.cons (.asg 12 .sh (.call f_law_items_by (.cons (.v 10) (.cons (.ix (.v 11) (.ki 0)) (.cons (.v 2) (.cons (.v 3) (.cons (.v 4) .nil)))))) false) (.cons (.asg 13 .sh (.call f_law_items_by (.cons (.bin .add (.bin .fdiv (.v 10) (.ki 11)) (.bin .mul (.ki 5) (.v 7))) (.cons (.ix (.v 11) (.ki 1)) (.cons (.v 2) (.cons (.v 3) (.cons (.v 4) .nil)))))) false) (.cons (.asg 14 .sh (.call f_law_items_by (.cons (.bin .add (.bin .fdiv (.v 10) (.ki 101)) (.ki 3)) (.cons (.ix (.v 11) (.ki 2)) (.cons (.v 2) (.cons (.v 3) (.cons (.v 4) .nil)))))) false) (.cons (.asg 15 .sh (.ix (.lst (.cons (.ki 1) (.cons (.ki 1) (.cons (.ki 1) (.cons (.ki 2) (.cons (.bin .add (.ki 2) (.blt .int (.cons (.cmp .eq (.v 7) (.ki 0)) .nil))) .nil)))))) (.bin .mod (.bin .fdiv (.v 9) (.ki 252)) (.ki 5))) false) (.cons (.asg 16 .sh (.blt .tuple (.cons (.comp (.ix (.ix (.v 2) (.bin .mod (.bin .fdiv (.v 9) (.bin .add (.bin .mul (.v 17) (.ki 7)) (.ki 3))) (.blt .len (.cons (.v 2) .nil)))) (.ki 0)) false [17] (.rng1 (.v 15)) .none) .nil)) false) (.cons (.app ⟨6, []⟩ (.tup (.cons (.v 8) (.cons (.ix (.ix (.v 5) (.bin .mod (.bin .fdiv (.v 9) (.ki 1260)) (.blt .len (.cons (.v 5) .nil)))) (.ki 0)) (.cons (.v 12) (.cons (.v 13) (.cons (.v 14) (.cons (.v 16) .nil))))))) false) .nil)))))))))) (.cons (.ret (.v 6)) .nil))), [], none, .sh, false⟩
def i_law_hall_by : Fn := ⟨2, 15, (.cons (.asg 2 .sh (.call f_law_cell_at (.cons (.v 0) (.cons (.ki 0) .nil))) false) (.cons (.asg 3 .sh (.call f_law_shapes_by (.cons (.v 2) .nil)) false) (.cons (.asg 4 .sh (.call f_law_letters_by (.cons (.call f_law_cell_at (.cons (.v 0) (.cons (.ki 1) .nil))) (.cons (.v 3) .nil))) false) (.cons (.asg 5 .sh (.call f_law_classes_by (.cons (.call f_law_cell_at (.cons (.v 0) (.cons (.ki 2) .nil))) (.cons (.v 3) .nil))) false) (.cons (.asg 6 .sh (.call f_law_mixed (.cons (.call f_law_cell_at (.cons (.v 0) (.cons (.ki 2) .nil))) (.cons (.ki 5) .nil))) false) (.cons (.asg 7 .sh (.comp (.tup (.cons (.v 13) (.cons (.cmp .gt (.bin .mod (.bin .fdiv (.v 6) (.bin .add (.v 12) (.ki 5))) (.ki 4)) (.ki 0)) .nil))) true [12, 13] (.enum (.call f_law_names_by (.cons (.bin .fdiv (.v 6) (.ki 3)) (.cons (.bin .add (.ki 1) (.bin .mod (.v 6) (.ki 3))) .nil)))) .none) false) (.cons (.asg 8 .sh (.call f_law_rules_by (.cons (.call f_law_cell_at (.cons (.v 0) (.cons (.ki 3) .nil))) (.cons (.v 1) (.cons (.v 3) (.cons (.v 4) (.cons (.v 5) (.cons (.v 7) .nil))))))) false) (.cons (.asg 9 .sh (.comp (.ix (.v 14) (.ki 0)) true [12, 14] (.enum (.v 4)) (.some (.cmp .eq (.bin .mod (.bin .fdiv (.v 6) (.bin .add (.bin .mul (.ki 7) (.v 12)) (.ki 9))) (.ki 4)) (.ki 0)))) false) (.cons (.asg 10 .sh (.call f_law_marks_by (.cons (.v 2) (.cons (.v 3) .nil))) false) (.cons (.asg 11 .sh (.call f_law_points_by (.cons (.v 2) (.cons (.v 3) .nil))) false) (.cons (.ret (.tup (.cons (.v 3) (.cons (.v 10) (.cons (.v 11) (.cons (.v 4) (.cons (.v 9) (.cons (.v 5) (.cons (.v 7) (.cons (.v 8) .nil)))))))))) .nil))))))))))), [], none, .sh, false⟩
def i_law_pair_text : Fn := ⟨1, 1, (.cons (.ret (.bin .add (.bin .add (.blt .str (.cons (.ix (.v 0) (.ki 0)) .nil)) (.ks [32])) (.blt .str (.cons (.ix (.v 0) (.ki 1)) .nil)))) .nil), [], none, .sh, false⟩
def i_law_rule_text : Fn := ⟨1, 2, (.cons (.asg 1 .sh (.bin .add (.bin .add (.bin .add (.lst (.cons (.ks [114, 117, 108, 101]) (.cons (.ix (.v 0) (.ki 0)) (.cons (.ix (.v 0) (.ki 1)) .nil)))) (.blt .list (.cons (.ix (.v 0) (.ki 2)) .nil))) (.lst (.cons (.ks [47]) .nil))) (.blt .list (.cons (.ix (.v 0) (.ki 3)) .nil))) false) (.cons (.ret (.mth .join (.ks [32]) (.cons (.bin .add (.bin .add (.bin .add (.bin .add (.v 1) (.lst (.cons (.ks [47]) .nil))) (.blt .list (.cons (.ix (.v 0) (.ki 4)) .nil))) (.lst (.cons (.ks [62]) .nil))) (.blt .list (.cons (.ix (.v 0) (.ki 5)) .nil))) .nil))) .nil)), [], none, .sh, false⟩
def i_law_hall_text : Fn := ⟨1, 15, (.cons (.asg 1 (.lst .sh) (.comp (.bin .add (.bin .add (.bin .add (.ks [115, 104, 97, 112, 101, 32]) (.v 2)) (.ks [32])) (.blt .str (.cons (.v 10) .nil))) true [2, 10] (.seq (.ix (.v 0) (.ki 0))) .none) false) (.cons (.for true [2, 3, 4, 5] (.seq (.ix (.v 0) (.ki 1))) (.cons (.asg 6 .sh (.bin .add (.bin .add (.call f_law_pair_text (.cons (.v 4) .nil)) (.ks [32])) (.call f_law_pair_text (.cons (.v 5) .nil))) false) (.cons (.app ⟨1, []⟩ (.bin .add (.bin .add (.bin .add (.bin .add (.bin .add (.ks [109, 97, 114, 107, 32]) (.v 2)) (.ks [32])) (.v 3)) (.ks [32])) (.v 6)) false) .nil))) (.cons (.asg 1 (.lst .sh) (.bin .add (.v 1) (.comp (.bin .add (.bin .add (.bin .add (.bin .add (.bin .add (.ks [112, 111, 105, 110, 116, 32]) (.v 2)) (.ks [32])) (.v 3)) (.ks [32])) (.call f_law_pair_text (.cons (.v 11) .nil))) true [2, 3, 11] (.seq (.ix (.v 0) (.ki 2))) .none)) true) (.cons (.for true [2, 7, 8, 9] (.seq (.ix (.v 0) (.ki 3))) (.cons (.app ⟨1, []⟩ (.mth .join (.ks [32]) (.cons (.bin .add (.lst (.cons (.ks [108, 101, 116, 116, 101, 114]) (.cons (.v 2) (.cons (.v 7) (.cons (.v 8) .nil))))) (.blt .list (.cons (.v 9) .nil))) .nil)) false) .nil)) (.cons (.shr 1) (.cons (.asg 1 .sh (.bin .add (.v 1) (.comp (.bin .add (.ks [103, 97, 112, 32]) (.v 2)) false [2] (.seq (.ix (.v 0) (.ki 4))) .none)) false) (.cons (.asg 1 .sh (.bin .add (.v 1) (.comp (.mth .join (.ks [32]) (.cons (.bin .add (.lst (.cons (.ks [99, 108, 97, 115, 115]) (.cons (.v 2) .nil))) (.blt .list (.cons (.v 12) .nil))) .nil)) true [2, 12] (.seq (.ix (.v 0) (.ki 5))) .none)) false) (.cons (.asg 1 .sh (.bin .add (.v 1) (.comp (.bin .add (.bin .add (.bin .add (.ks [102, 101, 97, 116, 117, 114, 101, 32]) (.v 2)) (.ks [32])) (.ix (.lst (.cons (.ks [111, 102, 102]) (.cons (.ks [111, 110]) .nil))) (.blt .int (.cons (.v 13) .nil)))) true [2, 13] (.seq (.ix (.v 0) (.ki 6))) .none)) false) (.cons (.ret (.mth .join (.ks [10]) (.cons (.bin .add (.v 1) (.comp (.call f_law_rule_text (.cons (.v 14) .nil)) false [14] (.seq (.ix (.v 0) (.ki 7))) .none)) .nil))) .nil))))))))), [], none, .sh, false⟩
def i_law_whole : Fn := ⟨1, 1, (.cons (.ret (.and (.isi (.v 0) [0]) (.not (.isi (.v 0) [2])))) .nil), [], none, .sh, false⟩
def i_law_cells_by : Fn := ⟨3, 9, (.cons (.asg 3 (.lst .sh) (.lst .nil) false) (.cons (.asg 4 .sh (.ki 0) false) (.cons (.for true [5, 6] (.enum (.sl (.v 0) (.some (.v 1)) (.some (.bin .add (.v 1) (.ki 50))))) (.cons (.asg 7 .sh (.call f_law_mixed (.cons (.v 6) (.cons (.bin .add (.v 5) (.ki 400)) .nil))) false) (.cons (.asg 8 .sh (.ix (.lst (.cons (.ki 0) (.cons (.ki 1) (.cons (.ki 1) (.cons (.ki 1) (.cons (.ki 2) (.cons (.ki 2) (.cons (.ki 3) (.cons (.ki 4) .nil))))))))) (.bin .mod (.v 7) (.ki 8))) false) (.cons (.ife (.cmp .eq (.v 4) (.ki 0)) (.cons (.asg 8 .sh (.blt .max (.cons (.ki 1) (.cons (.v 8) .nil))) false) .nil) .nil) (.cons (.app ⟨3, []⟩ (.tup (.cons (.ix (.ix (.v 2) (.bin .mod (.bin .fdiv (.v 7) (.ki 8)) (.blt .len (.cons (.v 2) .nil)))) (.ki 0)) (.cons (.lrg true (.rng2 (.v 4) (.bin .add (.v 4) (.v 8)))) .nil))) false) (.cons (.asg 4 .sh (.bin .add (.v 4) (.v 8)) false) .nil)))))) (.cons (.ret (.v 3)) .nil)))), [], none, .sh, false⟩
def i_law : Fn := ⟨1, 11, (.cons (.asg 1 .sh (.call f_law_hall_by (.cons (.v 0) (.cons (.ki 0) .nil))) false) (.cons (.asg 2 .sh (.call f_read_hall (.cons (.call f_law_hall_text (.cons (.v 1) .nil)) .nil)) false) (.cons (.asg 3 .sh (.blt .dict (.cons (.ix (.v 1) (.ki 0)) .nil)) false) (.cons (.asg 4 .sh (.comp (.ix (.v 10) (.ki 0)) false [10] (.seq (.ix (.v 1) (.ki 1))) .none) false) (.cons (.asg 5 .sh (.call f_law_cells_by (.cons (.v 0) (.cons (.ki 5) (.cons (.ix (.v 1) (.ki 0)) .nil)))) false) (.cons (.asg 6 .sh (.ki 0) false) (.cons (.for false [7] (.rng1 (.bin .add (.blt .len (.cons (.v 5) .nil)) (.ki 1))) (.cons (.asg 8 .sh (.sl (.v 5) .none (.some (.v 7))) false) (.cons (.asg 9 .sh (.call f_width_of (.cons (.v 2) (.cons (.v 8) .nil))) false) (.cons (.ife (.or (.not (.call f_law_whole (.cons (.v 9) .nil))) (.or (.cmp .ne (.v 9) (.v 6)) (.cmp .ne (.v 8) (.sl (.v 5) .none (.some (.v 7)))))) (.cons (.ret (.kb false)) .nil) .nil) (.cons (.ife (.and (.cmp .lt (.v 7) (.blt .len (.cons (.v 5) .nil))) (.cmp .notin (.ix (.ix (.v 5) (.v 7)) (.ki 0)) (.v 4))) (.cons (.asg 6 .sh (.bin .add (.v 6) (.ix (.v 3) (.ix (.ix (.v 5) (.v 7)) (.ki 0)))) false) .nil) .nil) .nil))))) (.cons (.ret (.kb true)) .nil)))))))), [], none, .sh, false⟩
def tNames : List Str := ["shapes", "marks", "points", "letters", "gaps", "classes", "features", "rules", "place", "word", "hall", "settings", "way"]
def tG : Nat → Str
  | 1 => "width_of"
  | 2 => "is_name"
  | 3 => "number_of"
  | 4 => "signed_of"
  | 5 => "is_item"
  | 6 => "words_of"
  | 8 => "first_due"
  | 9 => "all_names"
  | 10 => "lacking"
  | 11 => "spots_of"
  | 12 => "shape_row"
  | 13 => "mark_row"
  | 14 => "point_row"
  | 15 => "faces_due"
  | 16 => "letter_row"
  | 17 => "gap_row"
  | 18 => "class_row"
  | 19 => "feature_row"
  | 20 => "parted"
  | 21 => "rule_parts"
  | 22 => "item_lacks"
  | 23 => "rule_row"
  | 24 => "hall_row"
  | 25 => "read_hall"
  | 26 => "_law_cell_at"
  | 27 => "_law_mixed"
  | 28 => "_law_names_by"
  | 29 => "_law_shapes_by"
  | 30 => "_law_spot_by"
  | 31 => "_law_marks_by"
  | 32 => "_law_points_by"
  | 33 => "_law_letters_by"
  | 34 => "_law_classes_by"
  | 35 => "_law_items_by"
  | 36 => "_law_rules_by"
  | 37 => "_law_hall_by"
  | 38 => "_law_pair_text"
  | 39 => "_law_rule_text"
  | 40 => "_law_hall_text"
  | 41 => "_law_whole"
  | 42 => "_law_cells_by"
  | 43 => "law"
  | _ => "?"
def tR : Nat → S
  | _ => .sh
def tM : Nat → Option S
  | 7 => some (.oc 0 .dic (.oc 1 .dic (.oc 2 .dic (.oc 3 .dic (.oc 4 (.lst .sh) (.oc 5 .dic (.oc 6 .dic (.oc 7 (.lst .sh) .on))))))))
  | 12 => some (.oc 0 .dic (.oc 1 .dic (.oc 2 .dic (.oc 3 .dic (.oc 4 (.lst .sh) (.oc 5 .dic (.oc 6 .dic (.oc 7 (.lst .sh) .on))))))))
  | 13 => some (.oc 0 .dic (.oc 1 .dic (.oc 2 .dic (.oc 3 .dic (.oc 4 (.lst .sh) (.oc 5 .dic (.oc 6 .dic (.oc 7 (.lst .sh) .on))))))))
  | 14 => some (.oc 0 .dic (.oc 1 .dic (.oc 2 .dic (.oc 3 .dic (.oc 4 (.lst .sh) (.oc 5 .dic (.oc 6 .dic (.oc 7 (.lst .sh) .on))))))))
  | 16 => some (.oc 0 .dic (.oc 1 .dic (.oc 2 .dic (.oc 3 .dic (.oc 4 (.lst .sh) (.oc 5 .dic (.oc 6 .dic (.oc 7 (.lst .sh) .on))))))))
  | 17 => some (.oc 0 .dic (.oc 1 .dic (.oc 2 .dic (.oc 3 .dic (.oc 4 (.lst .sh) (.oc 5 .dic (.oc 6 .dic (.oc 7 (.lst .sh) .on))))))))
  | 18 => some (.oc 0 .dic (.oc 1 .dic (.oc 2 .dic (.oc 3 .dic (.oc 4 (.lst .sh) (.oc 5 .dic (.oc 6 .dic (.oc 7 (.lst .sh) .on))))))))
  | 19 => some (.oc 0 .dic (.oc 1 .dic (.oc 2 .dic (.oc 3 .dic (.oc 4 (.lst .sh) (.oc 5 .dic (.oc 6 .dic (.oc 7 (.lst .sh) .on))))))))
  | 23 => some (.oc 0 .dic (.oc 1 .dic (.oc 2 .dic (.oc 3 .dic (.oc 4 (.lst .sh) (.oc 5 .dic (.oc 6 .dic (.oc 7 (.lst .sh) .on))))))))
  | 24 => some (.oc 0 .dic (.oc 1 .dic (.oc 2 .dic (.oc 3 .dic (.oc 4 (.lst .sh) (.oc 5 .dic (.oc 6 .dic (.oc 7 (.lst .sh) .on))))))))
  | _ => none
def tS : Nat → Str × List Nat
  | 0 => ("FIGURES", [48, 49, 50, 51, 52, 53, 54, 55, 56, 57])
  | 1 => ("SIGNS", [97, 98, 99, 100, 101, 102, 103, 104, 105, 106, 107, 108, 109, 110, 111, 112, 113, 114, 115, 116, 117, 118, 119, 120, 121, 122, 48, 49, 50, 51, 52, 53, 54, 55, 56, 57])
  | _ => ("?", [])
def tab : Tab := ⟨nmF tNames, fun _ => "Hall", tG, tS, fun _ => 7, tR, fun _ => .oc 0 .dic (.oc 1 .dic (.oc 2 .dic (.oc 3 .dic (.oc 4 (.lst .sh) (.oc 5 .dic (.oc 6 .dic (.oc 7 (.lst .sh) .on))))))), 2, 13, tM, [1, 2, 3, 4, 5, 6, 8, 9, 10, 11, 12, 13, 14, 15, 16, 17, 18, 19, 20, 21, 22, 23, 24, 25, 26, 27, 28, 29, 30, 31, 32, 33, 34, 35, 36, 37, 38, 39, 40, 41, 42, 43], 1⟩
def prg : Prog := ⟨tab, fun f => match f with
  | 1 => some i_width_of
  | 2 => some i_is_name
  | 3 => some i_number_of
  | 4 => some i_signed_of
  | 5 => some i_is_item
  | 6 => some i_words_of
  | 7 => some i_Hall_init
  | 8 => some i_first_due
  | 9 => some i_all_names
  | 10 => some i_lacking
  | 11 => some i_spots_of
  | 12 => some i_shape_row
  | 13 => some i_mark_row
  | 14 => some i_point_row
  | 15 => some i_faces_due
  | 16 => some i_letter_row
  | 17 => some i_gap_row
  | 18 => some i_class_row
  | 19 => some i_feature_row
  | 20 => some i_parted
  | 21 => some i_rule_parts
  | 22 => some i_item_lacks
  | 23 => some i_rule_row
  | 24 => some i_hall_row
  | 25 => some i_read_hall
  | 26 => some i_law_cell_at
  | 27 => some i_law_mixed
  | 28 => some i_law_names_by
  | 29 => some i_law_shapes_by
  | 30 => some i_law_spot_by
  | 31 => some i_law_marks_by
  | 32 => some i_law_points_by
  | 33 => some i_law_letters_by
  | 34 => some i_law_classes_by
  | 35 => some i_law_items_by
  | 36 => some i_law_rules_by
  | 37 => some i_law_hall_by
  | 38 => some i_law_pair_text
  | 39 => some i_law_rule_text
  | 40 => some i_law_hall_text
  | 41 => some i_law_whole
  | 42 => some i_law_cells_by
  | 43 => some i_law
  | _ => none⟩
abbrev gi_FIGURES : Nat := 0
abbrev gi_SIGNS : Nat := 1
end G
end
section
set_option Elab.async false
set_option linter.all false
set_option maxRecDepth 100000
set_option maxHeartbeats 1000000
namespace G
open PySem PyProof
theorem tw_len {p : Nat → Bool} : ∀ {x : List Nat}, x.length ≤ (x.takeWhile p).length → ∀ c ∈ x, p c = true
  | [], _, c, h => by cases h
  | a :: r, h, c, hc => by
    rw [List.takeWhile_cons] at h
    by_cases ha : p a = true
    · rw [if_pos ha] at h
      rcases List.mem_cons.mp hc with rfl | hc
      · exact ha
      · exact tw_len (by simpa using h) c hc
    · rw [if_neg ha] at h
      simp at h
theorem tw_le {p : Nat → Bool} : ∀ x : List Nat, (x.takeWhile p).length ≤ x.length
  | [] => Nat.le_refl _
  | a :: r => by
    rw [List.takeWhile_cons]
    split
    · simpa using tw_le r
    · simp
theorem tw_take {p : Nat → Bool} : ∀ x : List Nat, x.take (x.takeWhile p).length = x.takeWhile p
  | [] => rfl
  | a :: r => by
    rw [List.takeWhile_cons]
    split
    · simpa using tw_take r
    · simp
theorem tw_mem {p : Nat → Bool} : ∀ {x : List Nat}, ∀ c ∈ x.takeWhile p, p c = true
  | [], c, h => by cases h
  | a :: r, c, hc => by
    rw [List.takeWhile_cons] at hc
    by_cases ha : p a = true
    · rw [if_pos ha] at hc
      rcases List.mem_cons.mp hc with rfl | hc
      · exact ha
      · exact tw_mem c hc
    · rw [if_neg ha] at hc
      cases hc
theorem strip_all {ks x : List Nat} (h : stripC ks x = []) : ∀ c ∈ x, c ∈ ks := by
  unfold stripC Txt.stripChars Txt.stripBy at h
  split at h
  · have : x = [] := by simpa using h
    subst this
    intro c hc
    cases hc
  · have h' : stripHi ks.toArray.contains true ⟨x.toArray⟩ (stripLo ks.toArray.contains true ⟨x.toArray⟩) ≤ stripLo ks.toArray.contains true ⟨x.toArray⟩ := by
      have h := congrArg List.length h
      simp only [stripped, Builtin.Str.strSub, Array.length_toList, Array.size_extract, List.length_nil] at h
      have : stripHi ks.toArray.contains true ⟨x.toArray⟩ (stripLo ks.toArray.contains true ⟨x.toArray⟩) ≤ x.toArray.size := by simp [stripHi, Str.length]
      change min _ x.toArray.size - _ = 0 at h
      omega
    simp only [stripHi, stripLo, if_true, Str.length, List.size_toArray] at h'
    generalize hp : (ks.toArray.contains : Nat → Bool) = p at h'
    have hl : (x.takeWhile p).length ≤ x.length := tw_le x
    have g : ∀ c ∈ (x.drop (x.takeWhile p).length).reverse, p c = true := tw_len (by simp; omega)
    intro c hc
    have hpc : p c = true := by
      rw [← List.take_append_drop (x.takeWhile p).length x] at hc
      rcases List.mem_append.mp hc with hc | hc
      · exact tw_mem (x := x) c (by rwa [tw_take] at hc)
      · exact g c (List.mem_reverse.mpr hc)
    rw [← hp] at hpc
    simpa using hpc
theorem strip_iff {ks x : List Nat} : stripC ks x = [] ↔ ∀ c ∈ x, c ∈ ks := ⟨strip_all, strip_nil⟩
def SIGNS : List Nat := [97, 98, 99, 100, 101, 102, 103, 104, 105, 106, 107, 108, 109, 110, 111, 112, 113, 114, 115, 116, 117, 118, 119, 120, 121, 122, 48, 49, 50, 51, 52, 53, 54, 55, 56, 57]
def FIGS : List Nat := [48, 49, 50, 51, 52, 53, 54, 55, 56, 57]
theorem gs0 : (prg.tab.gs gi_FIGURES).2 = FIGS := rfl
theorem gs1 : (prg.tab.gs gi_SIGNS).2 = SIGNS := rfl
/-! ### names and numbers -/
def isName (x : St) : Bool := decide (1 ≤ x.length) && decide (x.length ≤ 12) && x.all fun c => SIGNS.contains c
theorem isName_iff {x : St} : isName x = true ↔ 1 ≤ x.length ∧ x.length ≤ 12 ∧ ∀ c ∈ x, c ∈ SIGNS := by simp [isName, and_assoc]
theorem e_is_name {k : Nat} {x : St} (h : x.length ≤ SZ) : (run prg (k + 1)).p f_is_name [.str x] = .ok (.bl (isName x)) := by
  refine run_p (fn := i_is_name) rfl rfl rfl ?_
  simp [i_is_name, h, mthD, gs1, strip_iff, isName]
  rw [Bool.eq_iff_iff]
  simp
  omega
def isFigs (x : St) : Bool := x.all fun c => FIGS.contains c
theorem isFigs_iff {x : St} : isFigs x = true ↔ ∀ c ∈ x, c ∈ FIGS := by simp [isFigs]
theorem strip_figs {x : St} : (stripC FIGS x = []) = (isFigs x = true) := propext (strip_iff.trans isFigs_iff.symm)
/-- a written number's worth -/
def numOf (x : St) : Option Int := if 1 ≤ x.length ∧ x.length ≤ 5 ∧ isFigs x = true ∧ (x.head? = some 48 → x = [48]) then some (NumText.digitsVal x : Nat) else none
def optI : Option Int → D
  | some n => .int n
  | none => .non
@[simp] theorem optI_s (n : Int) : optI (some n) = .int n := rfl
@[simp] theorem optI_n : optI none = .non := rfl
theorem ixs_h {x : St} {c : Nat} (h : x.head? = some c) (hz : x.length ≤ SZ) : ixD (.str x) (.int 0) = .ok (.str [c]) := by
  cases x with
  | nil => cases h
  | cons a r =>
    cases h
    show (if (c :: r).length ≤ SZ then (R.of (L2.atI (c :: r) 0)).bind fun c => R.ok (D.str [c]) else R.bad) = _
    rw [if_pos hz]
    simp [L2.atI, L2.ixN, R.of, bind_ok]
theorem figs_text {x : St} (h : isFigs x = true) (h1 : x ≠ []) (h2 : x.length ≤ 5) : intText? ⟨x.toArray⟩ = some ((NumText.digitsVal x : Nat) : Int) := by
  have a : NumText.AllDigits x := fun c hc => by
    have := isFigs_iff.mp h c hc
    simp [FIGS] at this
    omega
  have := PySem.intText_digits (x := ⟨x.toArray⟩) (by simpa using a) (by simpa using h1) (by show x.toArray.size ≤ 4300; simp; omega)
  simpa using this
theorem int_figs {x : St} (h : isFigs x = true) (h1 : 1 ≤ x.length) (h2 : x.length ≤ 5) : bltD .int [.str x] = .ok (.int (NumText.digitsVal x : Nat)) := by
  show (if x.length ≤ 640 then (R.of (intText? ⟨x.toArray⟩)).bind fun n => R.ok (D.int n) else R.bad) = _
  rw [if_pos (by omega), figs_text h (by intro q; subst q; simp at h1) h2]
  rfl
theorem e_number_of {k : Nat} {x : St} (h : x.length ≤ SZ) : (run prg (k + 1)).p f_number_of [.str x] = .ok (optI (numOf x)) := by
  refine run_p (fn := i_number_of) rfl rfl rfl ?_
  have g1 : (1 : Int) ≤ x.length ↔ 1 ≤ x.length := by omega
  have g2 : (x.length : Int) ≤ 5 ↔ x.length ≤ 5 := by omega
  unfold numOf
  by_cases h1 : 1 ≤ x.length
  · by_cases h2 : x.length ≤ 5
    · cases h3 : isFigs x with
      | false => simp [i_number_of, h, mthD, gs0, strip_figs, g1, g2, h1, h2, h3]
      | true =>
        obtain ⟨c, hc⟩ : ∃ c, x.head? = some c := by
          cases x with
          | nil => simp at h1
          | cons a r => exact ⟨a, rfl⟩
        have h9 := int_figs h3 h1 h2
        by_cases h48 : c = 48
        · by_cases hx : x = [48]
          · simp [i_number_of, h, mthD, gs0, strip_figs, g1, g2, h1, h2, h3, ixs_h hc h, hc, h48, h9, if_pos hx]
          · simp [i_number_of, h, mthD, gs0, strip_figs, g1, g2, h1, h2, h3, ixs_h hc h, hc, h48, hx]
        · simp [i_number_of, h, mthD, gs0, strip_figs, g1, g2, h1, h2, h3, ixs_h hc h, hc, h48, h9]
    · simp [i_number_of, h, mthD, gs0, strip_figs, g1, g2, h1, h2]
  · simp [i_number_of, h, mthD, gs0, strip_figs, g1, g2, h1]
/-- a number, maybe below nought -/
def sgnOf (x : St) : Option Int := if x.head? = some 45 then (match numOf x.tail with
    | some n => if n = 0 then none else some (-n)
    | none => none) else numOf x
theorem sls_1 {x : St} (h : x.length ≤ SZ) : slD (.str x) none (some 1) = .ok (.str (x.take 1)) := by
  show (if x.length ≤ SZ then R.ok (D.str (cut x none (some ((1 : Nat) : Int)))) else R.bad) = _
  rw [if_pos h, cut_b]
theorem sls_d {x : St} (h : x.length ≤ SZ) : slD (.str x) (some 1) none = .ok (.str x.tail) := by
  show (if x.length ≤ SZ then R.ok (D.str (cut x (some ((1 : Nat) : Int)) none)) else R.bad) = _
  rw [if_pos h, cut_n, List.drop_one]
theorem take1 {x : St} {c : Nat} : (x.take 1 = [c]) = (x.head? = some c) := by
  cases x <;> simp
theorem e_signed_of {k : Nat} {x : St} (h : x.length ≤ SZ) : (run prg (k + 2)).p f_signed_of [.str x] = .ok (optI (sgnOf x)) := by
  refine run_p (fn := i_signed_of) rfl rfl rfl ?_
  have h' : x.tail.length ≤ SZ := by simp; omega
  unfold sgnOf
  by_cases h1 : x.head? = some 45
  · cases e : numOf x.tail with
    | none => simp [i_signed_of, sls_1, sls_d, h, take1, h1, e_number_of h', e]
    | some n =>
      by_cases hn : n = 0 <;> simp [i_signed_of, sls_1, sls_d, h, take1, h1, e_number_of h', e, hn]
  · simp [i_signed_of, sls_1, sls_d, h, take1, h1, e_number_of h]
def isItem (x : St) : Bool := if x.head? = some 64 then isName x.tail else isName x
theorem e_is_item {k : Nat} {x : St} (h : x.length ≤ SZ) : (run prg (k + 2)).p f_is_item [.str x] = .ok (.bl (isItem x)) := by
  refine run_p (fn := i_is_item) rfl rfl rfl ?_
  have h' : x.tail.length ≤ SZ := by simp; omega
  unfold isItem
  by_cases h1 : x.head? = some 64 <;> simp [i_is_item, sls_1, sls_d, h, take1, e_is_name h', e_is_name h, h1]
def wordsOf (x : St) : List St := (splC 32 [] x).filter (· ≠ [])
theorem splC_len {c : Nat} : ∀ (x acc : St), (splC c acc x).length ≤ x.length + 1
  | [], acc => by simp [splC]
  | a :: r, acc => by
    show (if a = c then acc :: splC c [] r else splC c (acc ++ [a]) r).length ≤ _
    split
    · simpa using splC_len r []
    · have := splC_len (c := c) r (acc ++ [a])
      simp only [List.length_cons]
      omega
theorem e_words_of {k : Nat} {x : St} (h : x.length + 2 ≤ SZ) : (run prg (k + 1)).p f_words_of [.str x] = .ok (.lst ((wordsOf x).map .str)) := by
  refine run_p (fn := i_words_of) rfl rfl rfl ?_
  have h1 := splC_len (c := 32) x []
  have h2 : (splC 32 [] x).length ≤ SZ := by omega
  simp [i_words_of, split_ok, h]
  rw [comp_fil (h := D.str) (p := fun w => decide (w ≠ [])) fun w _ => ?_]
  · simp [wordsOf, h2]
  · by_cases hw : w = [] <;> simp [turn, hw]
def allNames (ws : List St) : Bool := ws.all isName
theorem e_all_names {k : Nat} {ws : List St} (h : ∀ w ∈ ws, w.length ≤ SZ) (hl : ws.length ≤ SZ) : (run prg (k + 2)).p f_all_names [.lst (ws.map .str)] = .ok (.bl (allNames ws)) := by
  refine run_p (fn := i_all_names) rfl rfl rfl ?_
  simp [i_all_names]
  rw [comp_map (h := fun w => .bl (isName w)) fun w hw => ?_]
  · simp [hl, all_ok, allNames]
  · simp [turn, e_is_name (h w hw)]
end G
end
section
set_option Elab.async false
set_option linter.all false
set_option maxRecDepth 100000
set_option maxHeartbeats 1000000
namespace G
open PySem PyProof
/-! ### halls as data -/
structure Rl where
  ti : St
  fe : St
  be : List St
  co : List St
  af : List St
  to : List St
  deriving DecidableEq
structure Hl where
  sh : List (St × Int) := []
  ma : List (St × St × (Int × Int) × (Int × Int)) := []
  po : List ((St × St) × (Int × Int)) := []
  le : List (St × St × St × List St) := []
  ga : List St := []
  cl : List (St × List St) := []
  fe : List (St × Bool) := []
  ru : List Rl := []
def eP (p : Int × Int) : D := .tup [.int p.1, .int p.2]
def eSs (l : List St) : D := .tup (l.map .str)
def kSh (p : St × Int) : DK × D := (.s p.1, .int p.2)
def kMa (p : St × St × (Int × Int) × (Int × Int)) : DK × D := (.s p.1, .tup [.str p.2.1, eP p.2.2.1, eP p.2.2.2])
def kPo (p : (St × St) × (Int × Int)) : DK × D := (.t [.inr p.1.1, .inr p.1.2], eP p.2)
def kLe (p : St × St × St × List St) : DK × D := (.s p.1, .tup [.str p.2.1, .str p.2.2.1, eSs p.2.2.2])
def kCl (p : St × List St) : DK × D := (.s p.1, eSs p.2)
def kFe (p : St × Bool) : DK × D := (.s p.1, .bl p.2)
def eRl (r : Rl) : D := .tup [.str r.ti, .str r.fe, eSs r.be, eSs r.co, eSs r.af, eSs r.to]
def hallD (h : Hl) : D := .ins 0 [(0, .dic false (h.sh.map kSh)), (1, .dic false (h.ma.map kMa)), (2, .dic true (h.po.map kPo)), (3, .dic false (h.le.map kLe)), (4, .lst (h.ga.map .str)), (5, .dic false (h.cl.map kCl)), (6, .dic false (h.fe.map kFe)), (7, .lst (h.ru.map eRl))]
@[simp] theorem fld0 (h : Hl) : fldD (hallD h) 0 = .ok (.dic false (h.sh.map kSh)) := rfl
@[simp] theorem fld1 (h : Hl) : fldD (hallD h) 1 = .ok (.dic false (h.ma.map kMa)) := rfl
@[simp] theorem fld2 (h : Hl) : fldD (hallD h) 2 = .ok (.dic true (h.po.map kPo)) := rfl
@[simp] theorem fld3 (h : Hl) : fldD (hallD h) 3 = .ok (.dic false (h.le.map kLe)) := rfl
@[simp] theorem fld4 (h : Hl) : fldD (hallD h) 4 = .ok (.lst (h.ga.map .str)) := rfl
@[simp] theorem fld5 (h : Hl) : fldD (hallD h) 5 = .ok (.dic false (h.cl.map kCl)) := rfl
@[simp] theorem fld6 (h : Hl) : fldD (hallD h) 6 = .ok (.dic false (h.fe.map kFe)) := rfl
@[simp] theorem fld7 (h : Hl) : fldD (hallD h) 7 = .ok (.lst (h.ru.map eRl)) := rfl
/-! named things -/
def look {α β : Type} [DecidableEq α] (l : List (α × β)) (x : α) : Option β := (l.find? fun p => decide (p.1 = x)).map (·.2)
def has {α β : Type} [DecidableEq α] (l : List (α × β)) (x : α) : Bool := l.any fun p => decide (p.1 = x)
theorem has_iff {α β : Type} [DecidableEq α] {l : List (α × β)} {x : α} : has l x = true ↔ x ∈ l.map Prod.fst := by
  simp only [has, List.any_eq_true, decide_eq_true_eq, List.mem_map]
theorem look_some {α β : Type} [DecidableEq α] {l : List (α × β)} {x : α} {b : β} (h : look l x = some b) : (x, b) ∈ l := by
  unfold look at h
  cases e : l.find? fun p => decide (p.1 = x) with
  | none => rw [e] at h; cases h
  | some p =>
    rw [e] at h
    cases h
    have h1 := List.find?_some e
    have h2 := List.mem_of_find?_eq_some e
    simp at h1
    subst h1
    exact h2
theorem look_isSome {α β : Type} [DecidableEq α] {l : List (α × β)} {x : α} : (look l x).isSome = has l x := by
  rw [Bool.eq_iff_iff]
  unfold look has
  rw [Option.isSome_map, List.find?_isSome]
  simp [List.any_eq_true]
theorem look_mem {α β : Type} [DecidableEq α] {l : List (α × β)} {x : α} {b : β} (hn : (l.map Prod.fst).Nodup) (h : (x, b) ∈ l) : look l x = some b := by
  induction l with
  | nil => cases h
  | cons p r ih =>
    simp only [List.map_cons, List.nodup_cons] at hn
    unfold look
    rw [List.find?_cons]
    by_cases e : p.1 = x
    · simp only [e, decide_true, Option.map_some]
      rcases List.mem_cons.mp h with h | h
      · rw [← h]
      · exact absurd (List.mem_map.mpr ⟨_, h, rfl⟩) (e ▸ hn.1)
    · simp only [e, decide_false]
      rcases List.mem_cons.mp h with h | h
      · exact absurd (by rw [← h]) e
      · exact ih hn.2 h
theorem getK_map {α β : Type} [DecidableEq α] {f : α × β → DK × D} {key : α → DK} {val : β → D} (hf : ∀ p, f p = (key p.1, val p.2)) (hk : ∀ a b, key a = key b ↔ a = b) (l : List (α × β)) (x : α) : getK (l.map f) (key x) = (look l x).map val := by
  unfold getK look
  rw [List.find?_map]
  have : ((fun kv : DK × D => decide (kv.1 = key x)) ∘ f) = fun p : α × β => decide (p.1 = x) := by
    funext p
    simp [hf, hk]
  rw [this]
  cases l.find? fun p => decide (p.1 = x) with
  | none => rfl
  | some p => simp [hf]
theorem putK_new {kvs : List (DK × D)} {k : DK} {v : D} (h : getK kvs k = none) : putK kvs k v = kvs ++ [(k, v)] := by
  unfold putK
  rw [if_neg]
  intro q
  unfold getK at h
  rw [Option.map_eq_none_iff, List.find?_eq_none] at h
  obtain ⟨a, ha, hb⟩ := List.any_eq_true.mp q
  exact h a ha hb
def vSh (n : Int) : D := .int n
def vMa (p : St × (Int × Int) × (Int × Int)) : D := .tup [.str p.1, eP p.2.1, eP p.2.2]
def vLe (p : St × St × List St) : D := .tup [.str p.1, .str p.2.1, eSs p.2.2]
theorem keySi (a b : St) : DK.s a = DK.s b ↔ a = b := by simp
def keyP (a : St × St) : DK := .t [.inr a.1, .inr a.2]
theorem keyPi (a b : St × St) : keyP a = keyP b ↔ a = b := by
  obtain ⟨a1, a2⟩ := a
  obtain ⟨b1, b2⟩ := b
  simp [keyP]
theorem gSh (l : List (St × Int)) (x : St) : getK (l.map kSh) (.s x) = (look l x).map .int := getK_map (key := .s) (val := .int) (fun _ => rfl) keySi l x
theorem gMa (l : List (St × St × (Int × Int) × (Int × Int))) (x : St) : getK (l.map kMa) (.s x) = (look l x).map vMa := getK_map (key := .s) (val := vMa) (fun _ => rfl) keySi l x
theorem gPo (l : List ((St × St) × (Int × Int))) (x : St × St) : getK (l.map kPo) (keyP x) = (look l x).map eP := getK_map (key := keyP) (val := eP) (fun _ => rfl) keyPi l x
theorem gLe (l : List (St × St × St × List St)) (x : St) : getK (l.map kLe) (.s x) = (look l x).map vLe := getK_map (key := .s) (val := vLe) (fun _ => rfl) keySi l x
theorem gCl (l : List (St × List St)) (x : St) : getK (l.map kCl) (.s x) = (look l x).map eSs := getK_map (key := .s) (val := eSs) (fun _ => rfl) keySi l x
theorem gFe (l : List (St × Bool)) (x : St) : getK (l.map kFe) (.s x) = (look l x).map .bl := getK_map (key := .s) (val := .bl) (fun _ => rfl) keySi l x
theorem look_none {α β : Type} [DecidableEq α] {l : List (α × β)} {x : α} (h : has l x = false) : look l x = none := by
  have := look_isSome (l := l) (x := x)
  rw [h] at this
  cases e : look l x with
  | none => rfl
  | some b => rw [e] at this; cases this
/-! ### words -/
abbrev asc (x : St) : Prop := (x.all fun c => decide (c < 128)) = true
theorem ok_str {n : Nat} {x : St} (h : asc x) : okD n (.str x) = true := by
  cases n <;> exact h
theorem oks_str {n : Nat} {xs : List St} (h : ∀ x ∈ xs, asc x) : okDs n (xs.map .str) = true := by
  induction xs with
  | nil => cases n <;> rfl
  | cons a r ih =>
    simp only [List.map_cons, okDs, Bool.and_eq_true]
    exact ⟨ok_str (h a List.mem_cons_self), ih fun x hx => h x (List.mem_cons_of_mem _ hx)⟩
theorem inD_str {x : St} {ys : List St} (hx : asc x) (hy : ∀ y ∈ ys, asc y) : inD (.str x) (ys.map .str) = .ok (ys.contains x) := by
  unfold inD
  rw [ok_str hx, oks_str hy]
  simp only [Bool.and_self, if_true, R.ok.injEq]
  rw [Bool.eq_iff_iff]
  simp only [List.any_map, List.any_eq_true, Function.comp, List.contains_iff_mem]
  constructor
  · rintro ⟨y, h1, h2⟩
    simp [pd, PyData.eqv] at h2
    exact h2 ▸ h1
  · intro h
    exact ⟨x, h, by simp [pd, PyData.eqv]⟩
theorem c_inT {x : St} {ys : List St} (hx : asc x) (hy : ∀ y ∈ ys, asc y) : cmpD .isin (.str x) (.tup (ys.map .str)) = .ok (ys.contains x) := by
  show (if flatD (.str x) && (ys.map D.str).all flatD then inD (.str x) (ys.map D.str) else R.bad) = _
  rw [if_pos (by simp [flatD]), inD_str hx hy]
theorem c_ninT {x : St} {ys : List St} (hx : asc x) (hy : ∀ y ∈ ys, asc y) : cmpD .notin (.str x) (.tup (ys.map .str)) = .ok (!ys.contains x) := by
  show (if flatD (.str x) && (ys.map D.str).all flatD then (inD (.str x) (ys.map D.str)).bind (fun c => R.ok (!c)) else R.bad) = _
  rw [if_pos (by simp [flatD]), inD_str hx hy]
  rfl
theorem c_inL {x : St} {ys : List St} (hx : asc x) (hy : ∀ y ∈ ys, asc y) : cmpD .isin (.str x) (.lst (ys.map .str)) = .ok (ys.contains x) := inD_str hx hy
theorem c_ninL {x : St} {ys : List St} (hx : asc x) (hy : ∀ y ∈ ys, asc y) : cmpD .notin (.str x) (.lst (ys.map .str)) = .ok (!ys.contains x) := by
  show (inD (.str x) (ys.map D.str)).bind (fun c => R.ok (!c)) = _
  rw [inD_str hx hy]
  rfl
abbrev wAbove : St := [97, 98, 111, 118, 101]
abbrev wBelow : St := [98, 101, 108, 111, 119]
abbrev wLeft : St := [108, 101, 102, 116]
abbrev wRight : St := [114, 105, 103, 104, 116]
abbrev wEither : St := [101, 105, 116, 104, 101, 114]
abbrev wNone : St := [110, 111, 110, 101]
abbrev wClear : St := [99, 108, 101, 97, 114]
abbrev wBack : St := [98, 97, 99, 107]
abbrev wBoth : St := [98, 111, 116, 104]
abbrev wOn : St := [111, 110]
abbrev wOff : St := [111, 102, 102]
abbrev wRow : St := [114, 111, 119]
abbrev wTwice : St := [116, 119, 105, 99, 101]
abbrev wNameW : St := [110, 97, 109, 101]
abbrev wMany : St := [109, 97, 110, 121]
def dueF (a b c : Bool) : St := if a then wTwice else if b then wNameW else if c then wMany else []
theorem e_first_due {k : Nat} {a b c : Bool} : (run prg (k + 1)).p f_first_due [.bl a, .bl b, .bl c] = .ok (.str (dueF a b c)) := by
  refine run_p (fn := i_first_due) rfl rfl rfl ?_
  cases a <;> cases b <;> cases c <;> simp [i_first_due, startE, getV, dueF]
/-- words as they may be met -/
def WOk (w : St) : Prop := w.length + 2 ≤ SZ ∧ asc w
@[simp] theorem ix_l0 (a : D) (r : List D) : ixD (.lst (a :: r)) (.int 0) = .ok a := ix_lst (n := 0) rfl
@[simp] theorem ix_l1 (a b : D) (r : List D) : ixD (.lst (a :: b :: r)) (.int 1) = .ok b := ix_lst (n := 1) rfl
@[simp] theorem ix_l2 (a b c : D) (r : List D) : ixD (.lst (a :: b :: c :: r)) (.int 2) = .ok c := ix_lst (n := 2) rfl
@[simp] theorem ix_l3 (a b c d : D) (r : List D) : ixD (.lst (a :: b :: c :: d :: r)) (.int 3) = .ok d := ix_lst (n := 3) rfl
@[simp] theorem ix_t0 (a : D) (r : List D) : ixD (.tup (a :: r)) (.int 0) = .ok a := ix_tup (n := 0) rfl
@[simp] theorem ix_t1 (a b : D) (r : List D) : ixD (.tup (a :: b :: r)) (.int 1) = .ok b := ix_tup (n := 1) rfl
@[simp] theorem ix_t2 (a b c : D) (r : List D) : ixD (.tup (a :: b :: c :: r)) (.int 2) = .ok c := ix_tup (n := 2) rfl
@[simp] theorem ix_t3 (a b c d : D) (r : List D) : ixD (.tup (a :: b :: c :: d :: r)) (.int 3) = .ok d := ix_tup (n := 3) rfl
@[simp] theorem ix_t4 (a b c d e : D) (r : List D) : ixD (.tup (a :: b :: c :: d :: e :: r)) (.int 4) = .ok e := ix_tup (n := 4) rfl
@[simp] theorem ix_t5 (a b c d e f : D) (r : List D) : ixD (.tup (a :: b :: c :: d :: e :: f :: r)) (.int 5) = .ok f := ix_tup (n := 5) rfl
@[simp] theorem slL_k (xs : List D) (n : Nat) : slD (.lst xs) (some (n : Int)) none = .ok (.lst (xs.drop n)) := by
  show R.ok (D.lst (cut xs _ none)) = _
  rw [cut_n]
theorem due_nil {a b c : Bool} : dueF a b c = [] ↔ a = false ∧ b = false ∧ c = false := by cases a <;> cases b <;> cases c <;> simp [dueF]
@[simp] theorem c_hSh (l : List (St × Int)) (x : St) : (getK (l.map kSh) (.s x)).isSome = has l x := by rw [gSh, Option.isSome_map, look_isSome]
@[simp] theorem c_hMa (l : List (St × St × (Int × Int) × (Int × Int))) (x : St) : (getK (l.map kMa) (.s x)).isSome = has l x := by rw [gMa, Option.isSome_map, look_isSome]
@[simp] theorem c_hLe (l : List (St × St × St × List St)) (x : St) : (getK (l.map kLe) (.s x)).isSome = has l x := by rw [gLe, Option.isSome_map, look_isSome]
@[simp] theorem c_hCl (l : List (St × List St)) (x : St) : (getK (l.map kCl) (.s x)).isSome = has l x := by rw [gCl, Option.isSome_map, look_isSome]
@[simp] theorem c_hFe (l : List (St × Bool)) (x : St) : (getK (l.map kFe) (.s x)).isSome = has l x := by rw [gFe, Option.isSome_map, look_isSome]
@[simp] theorem c_hPo (l : List ((St × St) × (Int × Int))) (x y : St) : cmpD .isin (.tup [.str x, .str y]) (.dic true (l.map kPo)) = .ok (has l (x, y)) := by
  show R.ok (getK (l.map kPo) (keyP (x, y))).isSome = _
  rw [gPo, Option.isSome_map, look_isSome]
theorem nSh {l : List (St × Int)} {x : St} (h : has l x = false) : getK (l.map kSh) (.s x) = none := by rw [gSh, look_none h]; rfl
theorem nMa {l : List (St × St × (Int × Int) × (Int × Int))} {x : St} (h : has l x = false) : getK (l.map kMa) (.s x) = none := by rw [gMa, look_none h]; rfl
theorem nLe {l : List (St × St × St × List St)} {x : St} (h : has l x = false) : getK (l.map kLe) (.s x) = none := by rw [gLe, look_none h]; rfl
theorem nCl {l : List (St × List St)} {x : St} (h : has l x = false) : getK (l.map kCl) (.s x) = none := by rw [gCl, look_none h]; rfl
theorem nFe {l : List (St × Bool)} {x : St} (h : has l x = false) : getK (l.map kFe) (.s x) = none := by rw [gFe, look_none h]; rfl
theorem nPo {l : List ((St × St) × (Int × Int))} {x : St × St} (h : has l x = false) : getK (l.map kPo) (.t [.inr x.1, .inr x.2]) = none := by
  have := gPo l x
  rw [look_none h] at this
  exact this
theorem WOk.sz {w : St} (h : WOk w) : w.length ≤ SZ := by have := h.1; omega
/-- a shape's row -/
def shapeF (h : Hl) (ws : List St) : St × Hl := match ws with
  | [a, b] => if isName a then (match numOf b with
      | some n => (dueF (has h.sh a) false (decide (60 ≤ h.sh.length)), if dueF (has h.sh a) false (decide (60 ≤ h.sh.length)) = [] then { h with sh := h.sh ++ [(a, n)] } else h)
      | none => (wRow, h)) else (wRow, h)
  | _ => (wRow, h)
theorem e_shape_row {k : Nat} {h : Hl} {ws : List St} (hw : ∀ w ∈ ws, WOk w) (hz : h.sh.length < SZ) : (run prg (k + 2)).m f_shape_row (hallD h) [.lst (ws.map .str)] = .ok (.str (shapeF h ws).1, hallD (shapeF h ws).2) := by
  refine run_m (fn := i_shape_row) rfl rfl rfl ?_
  match ws, hw with
  | [a, b], hw =>
    have ha := (hw a (by simp)).sz
    have hb := (hw b (by simp)).sz
    have g1 : (60 : Int) ≤ h.sh.length ↔ 60 ≤ h.sh.length := by omega
    cases ea : isName a with
    | false => simp [i_shape_row, e_is_name ha, ea, shapeF]
    | true =>
      cases eb : numOf b with
      | none => simp [i_shape_row, e_is_name ha, e_number_of hb, ea, eb, shapeF]
      | some n =>
        by_cases hd : dueF (has h.sh a) false (decide (60 ≤ h.sh.length)) = []
        · have hh := nSh (due_nil.mp hd).1
          simp [i_shape_row, e_is_name ha, e_number_of hb, ea, eb, e_first_due, g1, hd, hallD, gSet, hz, putK_new hh, shapeF, kSh]
        · simp [i_shape_row, e_is_name ha, e_number_of hb, ea, eb, e_first_due, g1, hd, shapeF]
  | [], hw => simp [i_shape_row, shapeF]
  | [a], hw => simp [i_shape_row, shapeF]
  | a :: b :: c :: r, hw =>
    have : ¬ ((r.length : Int) + 1 + 1 + 1 = 2) := by omega
    simp [i_shape_row, shapeF, this]
/-- numbers two by two -/
def spot2 (a b : St) : Option (Int × Int) := match sgnOf a, sgnOf b with
  | some x, some y => some (x, y)
  | _, _ => none
def optL {α : Type} (f : α → D) : Option α → D
  | some x => f x
  | none => .non
@[simp] theorem optL_s {α : Type} (f : α → D) (x : α) : optL f (some x) = f x := rfl
@[simp] theorem optL_n {α : Type} (f : α → D) : optL f none = .non := rfl
theorem in_non : ∀ ns : List (Option Int), cmpD .isin .non (.lst (ns.map optI)) = .ok (ns.any (·.isNone)) := by
  intro ns
  have h : okDs 20 (ns.map optI) = true := by
    induction ns with
    | nil => rfl
    | cons a r ih =>
      show (okD 20 (optI a) && okDs 20 (r.map optI)) = true
      rw [ih]
      cases a <;> rfl
  show inD .non (ns.map optI) = _
  unfold inD
  rw [h]
  simp only [okD, Bool.and_self, if_true, List.any_map]
  congr 2
  funext a
  cases a <;> rfl
theorem r3_2 : rng3D (.int 0) (.int 2) (.int 2) = .ok [.int 0] := by rfl
theorem r3_4 : rng3D (.int 0) (.int 4) (.int 2) = .ok [.int 0, .int 2] := by rfl
theorem in2 (a b : Option Int) : cmpD .isin .non (.lst [optI a, optI b]) = .ok (a.isNone || b.isNone) := by simpa using in_non [a, b]
theorem in4 (a b c d : Option Int) : cmpD .isin .non (.lst [optI a, optI b, optI c, optI d]) = .ok (a.isNone || (b.isNone || (c.isNone || d.isNone))) := by simpa using in_non [a, b, c, d]
theorem e_spots2 {k : Nat} {a b : St} (ha : a.length ≤ SZ) (hb : b.length ≤ SZ) : (run prg (k + 3)).p f_spots_of [.lst [.str a, .str b]] = .ok (optL (fun p => .lst [eP p]) (spot2 a b)) := by
  refine run_p (fn := i_spots_of) rfl rfl rfl ?_
  simp [i_spots_of, e_signed_of ha, e_signed_of hb, SZ, in2, spot2]
  cases ea : sgnOf a <;> cases eb : sgnOf b <;> simp [r3_2, eP]
theorem e_spots4 {k : Nat} {a b c d : St} (ha : a.length ≤ SZ) (hb : b.length ≤ SZ) (hc : c.length ≤ SZ) (hd : d.length ≤ SZ) : (run prg (k + 3)).p f_spots_of [.lst [.str a, .str b, .str c, .str d]] = .ok (match spot2 a b, spot2 c d with
    | some p, some q => .lst [eP p, eP q]
    | _, _ => .non) := by
  refine run_p (fn := i_spots_of) rfl rfl rfl ?_
  simp [i_spots_of, e_signed_of ha, e_signed_of hb, e_signed_of hc, e_signed_of hd, SZ, in4, spot2]
  cases ea : sgnOf a <;> cases eb : sgnOf b <;> cases ec : sgnOf c <;> cases ed : sgnOf d <;> simp [r3_4, eP]
def sideB (x : St) : Bool := [wAbove, wBelow].contains x
theorem c_side {x : St} (h : asc x) : cmpD .notin (.str x) (.tup [.str wAbove, .str wBelow]) = .ok (!sideB x) := c_ninT (ys := [wAbove, wBelow]) h (by decide)
/-- a mark's row -/
def markF (h : Hl) (ws : List St) : St × Hl := match ws with
  | [a, s, x, y, z, t] => if isName a && sideB s then (match spot2 x y, spot2 z t with
      | some p, some q => (dueF (has h.ma a) (!has h.sh a) false, if dueF (has h.ma a) (!has h.sh a) false = [] then { h with ma := h.ma ++ [(a, s, p, q)] } else h)
      | _, _ => (wRow, h)) else (wRow, h)
  | _ => (wRow, h)
theorem e_mark_row {k : Nat} {h : Hl} {ws : List St} (hw : ∀ w ∈ ws, WOk w) (hz' : h.ma.length < SZ) : (run prg (k + 4)).m f_mark_row (hallD h) [.lst (ws.map .str)] = .ok (.str (markF h ws).1, hallD (markF h ws).2) := by
  refine run_m (fn := i_mark_row) rfl rfl rfl ?_
  match ws, hw with
  | [a, s, x, y, z, t], hw =>
    have ha := (hw a (by simp)).sz
    have hs := (hw s (by simp)).2
    have hx := (hw x (by simp)).sz
    have hy := (hw y (by simp)).sz
    have hz := (hw z (by simp)).sz
    have ht := (hw t (by simp)).sz
    have sl : slD (.lst [.str a, .str s, .str x, .str y, .str z, .str t]) (some 2) none = .ok (.lst [.str x, .str y, .str z, .str t]) := rfl
    cases ea : isName a with
    | false => simp [i_mark_row, e_is_name ha, ea, markF]
    | true =>
      cases es : sideB s with
      | false => simp [i_mark_row, e_is_name ha, ea, c_side hs, es, markF]
      | true =>
        cases e1 : spot2 x y with
        | none => simp [i_mark_row, e_is_name ha, ea, c_side hs, es, sl, e_spots4 hx hy hz ht, e1, markF]
        | some p =>
          cases e2 : spot2 z t with
          | none => simp [i_mark_row, e_is_name ha, ea, c_side hs, es, sl, e_spots4 hx hy hz ht, e1, e2, markF]
          | some q =>
            by_cases hd : dueF (has h.ma a) (!has h.sh a) false = []
            · have hh := nMa (due_nil.mp hd).1
              simp [i_mark_row, e_is_name ha, ea, c_side hs, es, sl, e_spots4 hx hy hz ht, e1, e2, e_first_due, hd, hallD, hz', putK_new hh, markF, kMa, eP]
            · simp [i_mark_row, e_is_name ha, ea, c_side hs, es, sl, e_spots4 hx hy hz ht, e1, e2, e_first_due, hd, markF]
  | [], hw => simp [i_mark_row, markF]
  | [a], hw => simp [i_mark_row, markF]
  | [a, b], hw => simp [i_mark_row, markF]
  | [a, b, c], hw => simp [i_mark_row, markF]
  | [a, b, c, d], hw => simp [i_mark_row, markF]
  | [a, b, c, d, e], hw => simp [i_mark_row, markF]
  | a :: b :: c :: d :: e :: f :: g :: r, hw =>
    have : ¬ ((r.length : Int) + 1 + 1 + 1 + 1 + 1 + 1 + 1 = 6) := by omega
    simp [i_mark_row, markF, this]
@[simp] theorem toK_t2 (x y : St) : toK true (.tup [.str x, .str y]) = some (.t [.inr x, .inr y]) := rfl
/-- a point's row -/
def pointF (h : Hl) (ws : List St) : St × Hl := match ws with
  | [a, s, x, y] => if isName a && sideB s then (match spot2 x y with
      | some p => (dueF (has h.po (a, s)) (!has h.sh a) false, if dueF (has h.po (a, s)) (!has h.sh a) false = [] then { h with po := h.po ++ [((a, s), p)] } else h)
      | _ => (wRow, h)) else (wRow, h)
  | _ => (wRow, h)
theorem e_point_row {k : Nat} {h : Hl} {ws : List St} (hw : ∀ w ∈ ws, WOk w) (hz' : h.po.length < SZ) : (run prg (k + 4)).m f_point_row (hallD h) [.lst (ws.map .str)] = .ok (.str (pointF h ws).1, hallD (pointF h ws).2) := by
  refine run_m (fn := i_point_row) rfl rfl rfl ?_
  match ws, hw with
  | [a, s, x, y], hw =>
    have ha := (hw a (by simp)).sz
    have hs := (hw s (by simp)).2
    have hx := (hw x (by simp)).sz
    have hy := (hw y (by simp)).sz
    have sl : slD (.lst [.str a, .str s, .str x, .str y]) (some 2) none = .ok (.lst [.str x, .str y]) := rfl
    cases ea : isName a with
    | false => simp [i_point_row, e_is_name ha, ea, pointF]
    | true =>
      cases es : sideB s with
      | false => simp [i_point_row, e_is_name ha, ea, c_side hs, es, pointF]
      | true =>
        cases e1 : spot2 x y with
        | none => simp [i_point_row, e_is_name ha, ea, c_side hs, es, sl, e_spots2 hx hy, e1, pointF]
        | some p =>
          by_cases hd : dueF (has h.po (a, s)) (!has h.sh a) false = []
          · have hh := nPo (due_nil.mp hd).1
            simp only at hh
            simp [i_point_row, e_is_name ha, ea, c_side hs, es, sl, e_spots2 hx hy, e1, e_first_due, hd, hallD, hz', putK_new hh, pointF, kPo, eP]
          · simp [i_point_row, e_is_name ha, ea, c_side hs, es, sl, e_spots2 hx hy, e1, e_first_due, hd, pointF]
  | [], hw => simp [i_point_row, pointF]
  | [a], hw => simp [i_point_row, pointF]
  | [a, b], hw => simp [i_point_row, pointF]
  | [a, b, c], hw => simp [i_point_row, pointF]
  | a :: b :: c :: d :: e :: r, hw =>
    have : ¬ ((r.length : Int) + 1 + 1 + 1 + 1 + 1 = 4) := by omega
    simp [i_point_row, pointF, this]
end G
end
section
set_option Elab.async false
set_option linter.all false
set_option maxRecDepth 100000
set_option maxHeartbeats 1000000
namespace G
open PySem PyProof
theorem eqvs_strs : ∀ {xs ys : List St}, PyData.eqvAll (pds (xs.map .str)) (pds (ys.map .str)) = decide (xs = ys)
  | [], [] => by simp [pds, PyData.eqvAll]
  | [], _ :: _ => by simp [pds, PyData.eqvAll]
  | _ :: _, [] => by simp [pds, PyData.eqvAll]
  | x :: xs, y :: ys => by
    have := eqvs_strs (xs := xs) (ys := ys)
    simp only [List.map_cons, pds, PyData.eqvAll, this]
    rw [Bool.eq_iff_iff]
    simp [pd, PyData.eqv]
theorem eq_strs {xs ys : List St} (hx : ∀ x ∈ xs, asc x) (hy : ∀ y ∈ ys, asc y) : eqD (.lst (xs.map .str)) (.lst (ys.map .str)) = .ok (decide (xs = ys)) := by
  show (if okDs 20 (xs.map .str) && okDs 20 (ys.map .str) then R.ok (PyData.eqvAll (pds (xs.map .str)) (pds (ys.map .str))) else R.bad) = _
  rw [oks_str hx, oks_str hy, eqvs_strs]
  rfl
theorem c_eqL {xs ys : List St} (hx : ∀ x ∈ xs, asc x) (hy : ∀ y ∈ ys, asc y) : cmpD .eq (.lst (xs.map .str)) (.lst (ys.map .str)) = .ok (decide (xs = ys)) := eq_strs hx hy
theorem c_neL {xs ys : List St} (hx : ∀ x ∈ xs, asc x) (hy : ∀ y ∈ ys, asc y) : cmpD .ne (.lst (xs.map .str)) (.lst (ys.map .str)) = .ok (!decide (xs = ys)) := by
  show (eqD _ _).bind (fun c => R.ok (!c)) = _
  rw [eq_strs hx hy]
  rfl
/-! ### the rows of letters, gaps, classes, features -/
@[simp] theorem sl_1 (a : D) (r : List D) : slD (.lst (a :: r)) (some 1) none = .ok (.lst r) := slL_k (a :: r) 1
theorem e_lacking {k : Nat} {ws : List St} {l : List (St × Int)} : (run prg (k + 1)).p f_lacking [.lst (ws.map .str), .dic false (l.map kSh)] = .ok (.bl (ws.any fun w => !has l w)) := by
  refine run_p (fn := i_lacking) rfl rfl rfl ?_
  simp [i_lacking]
  refine wp_for (enc := D.str) (fun i e => (∃ x, e = [some (.lst (ws.map .str)), some (.dic false (l.map kSh)), x]) ∧ ∀ j (h : j < ws.length), j < i → has l ws[j] = true) ⟨⟨_, rfl⟩, fun j h q => absurd q (Nat.not_lt_zero j)⟩ (fun i hi e he => ?_) fun e he => ?_
  · obtain ⟨⟨x, rfl⟩, hh⟩ := he
    refine ⟨_, setT_f _ _ _, ?_⟩
    cases eh : has l ws[i] with
    | true =>
      simp [eh]
      intro j hj q
      rcases Nat.lt_or_eq_of_le (Nat.lt_succ_iff.mp q) with q | q
      · exact hh j hj q
      · subst q; exact eh
    | false =>
      simp [eh]
      exact ⟨ws[i], List.getElem_mem _, eh⟩
  · obtain ⟨⟨x, rfl⟩, hh⟩ := he
    simp
    intro w hw
    obtain ⟨j, hj, rfl⟩ := List.getElem_of_mem hw
    exact hh j hj hj
def joinN (j : St) : Nat := if j = wNone ∨ j = wClear then 1 else if j = wBack then 2 else if j = wBoth then 4 else 0
theorem e_faces_due {k : Nat} {j : St} : (run prg (k + 1)).p f_faces_due [.str j] = .ok (.int (joinN j)) := by
  refine run_p (fn := i_faces_due) rfl rfl rfl ?_
  unfold joinN
  by_cases h1 : j = wNone ∨ j = wClear
  · rcases h1 with h1 | h1 <;> simp [i_faces_due, h1]
  · obtain ⟨h2, h3⟩ := not_or.mp h1
    by_cases h4 : j = wBack
    · simp [i_faces_due, h4]
    · by_cases h5 : j = wBoth <;> simp [i_faces_due, h2, h3, h4, h5]
def wayB (x : St) : Bool := [wLeft, wRight, wEither].contains x
theorem c_way {x : St} (h : asc x) : cmpD .notin (.str x) (.tup [.str wLeft, .str wRight, .str wEither]) = .ok (!wayB x) := c_ninT (ys := [wLeft, wRight, wEither]) h (by decide)
def onB (x : St) : Bool := [wOn, wOff].contains x
theorem c_on {x : St} (h : asc x) : cmpD .notin (.str x) (.tup [.str wOn, .str wOff]) = .ok (!onB x) := c_ninT (ys := [wOn, wOff]) h (by decide)
/-- a letter's row -/
def letterF (h : Hl) (ws : List St) : St × Hl := match ws with
  | a :: j :: w :: x :: fs => if isName a && wayB w && (decide (fs.length + 1 = joinN j) && allNames (x :: fs)) then
      (dueF (has h.le a) ((x :: fs).any fun f => !has h.sh f) (decide (24 ≤ h.le.length)),
        if dueF (has h.le a) ((x :: fs).any fun f => !has h.sh f) (decide (24 ≤ h.le.length)) = [] then { h with le := h.le ++ [(a, j, w, x :: fs)] } else h) else (wRow, h)
  | _ => (wRow, h)
theorem e_letter_row {k : Nat} {h : Hl} {ws : List St} (hw : ∀ w ∈ ws, WOk w) (hl : ws.length ≤ SZ) (hz' : h.le.length < SZ) : (run prg (k + 3)).m f_letter_row (hallD h) [.lst (ws.map .str)] = .ok (.str (letterF h ws).1, hallD (letterF h ws).2) := by
  refine run_m (fn := i_letter_row) rfl rfl rfl ?_
  match ws, hw, hl with
  | a :: j :: w :: x :: fs, hw, hl =>
    have ha := (hw a (by simp)).sz
    have hwa := (hw w (by simp)).2
    have g0 : ¬ ((fs.length : Int) + 1 + 1 + 1 + 1 < 4) := by omega
    have g1 : ((fs.length : Int) + 1 + 1 + 1 + 1 = 3 + (joinN j : Int)) ↔ fs.length + 1 = joinN j := by omega
    have g2 : (24 : Int) ≤ h.le.length ↔ 24 ≤ h.le.length := by omega
    have sl : slD (.lst (.str a :: .str j :: .str w :: .str x :: fs.map .str)) (some 3) none = .ok (.lst ((x :: fs).map .str)) := by
      have := slL_k (.str a :: .str j :: .str w :: .str x :: fs.map .str) 3
      simpa using this
    have an : (run prg (k + 2)).p f_all_names [.lst ((x :: fs).map .str)] = .ok (.bl (allNames (x :: fs))) := e_all_names (k := k) (fun v hv => (hw v (List.mem_cons_of_mem _ (List.mem_cons_of_mem _ (List.mem_cons_of_mem _ hv)))).sz) (by simp at hl ⊢; omega)
    have lk := e_lacking (k := k + 1) (ws := x :: fs) (l := h.sh)
    cases ea : isName a with
    | false => simp [i_letter_row, g0, e_is_name ha, ea, letterF]
    | true =>
      cases es : wayB w with
      | false => simp [i_letter_row, g0, e_is_name ha, ea, c_way hwa, es, letterF]
      | true =>
        by_cases ej : fs.length + 1 = joinN j
        · cases en : allNames (x :: fs) with
          | false =>
            rw [en] at an
            simp only [i_letter_row] 
            simp [g0, e_is_name ha, ea, c_way hwa, es, e_faces_due, g1, ej, sl, letterF, en]
            simp at an
            simp [an]
          | true =>
            rw [en] at an
            simp at an lk
            have g3 : ¬ ((joinN j : Int) + 1 + 1 + 1 < 4) := by omega
            have g5 : ¬ (3 + (joinN j : Int) < 4) := by omega
            have g4 : (joinN j : Int) + 1 + 1 + 1 = 3 + (joinN j : Int) := by omega
            by_cases hd : dueF (has h.le a) ((x :: fs).any fun f => !has h.sh f) (decide (24 ≤ h.le.length)) = []
            · have hh := nLe (due_nil.mp hd).1
              simp at hd
              simp [i_letter_row, g0, g3, g4, g5, e_is_name ha, ea, c_way hwa, es, e_faces_due, g1, ej, sl, en, an, lk, e_first_due, g2, hd, hallD, hz', putK_new hh, letterF, kLe, eSs]
            · simp at hd
              simp [i_letter_row, g0, g3, g4, g5, e_is_name ha, ea, c_way hwa, es, e_faces_due, g1, ej, sl, en, an, lk, e_first_due, g2, hd, letterF]
        · simp [i_letter_row, g0, e_is_name ha, ea, c_way hwa, es, e_faces_due, g1, ej, sl, letterF]
  | [], hw, hl => simp [i_letter_row, letterF]
  | [a], hw, hl => simp [i_letter_row, letterF]
  | [a, b], hw, hl => simp [i_letter_row, letterF]
  | [a, b, c], hw, hl => simp [i_letter_row, letterF]
def gapF (h : Hl) (ws : List St) : St × Hl := match ws with
  | [a] => if isName a then (dueF (h.ga.contains a) (!has h.le a) false, if dueF (h.ga.contains a) (!has h.le a) false = [] then { h with ga := h.ga ++ [a] } else h) else (wRow, h)
  | _ => (wRow, h)
theorem isName_asc {x : St} (h : isName x = true) : asc x := by
  obtain ⟨_, _, h⟩ := isName_iff.mp h
  show (x.all fun c => decide (c < 128)) = true
  rw [List.all_eq_true]
  intro c hc
  have := h c hc
  have g : ∀ c ∈ SIGNS, c < 128 := by decide
  simpa using g c this
theorem e_gap_row {k : Nat} {h : Hl} {ws : List St} (hw : ∀ w ∈ ws, WOk w) (hz' : h.ga.length < SZ) (hg : ∀ g ∈ h.ga, isName g = true) : (run prg (k + 2)).m f_gap_row (hallD h) [.lst (ws.map .str)] = .ok (.str (gapF h ws).1, hallD (gapF h ws).2) := by
  refine run_m (fn := i_gap_row) rfl rfl rfl ?_
  match ws, hw with
  | [a], hw =>
    have ha := (hw a (by simp)).sz
    have ci := c_inL (hw a (by simp)).2 fun y hy => isName_asc (hg y hy)
    cases ea : isName a with
    | false => simp [i_gap_row, e_is_name ha, ea, gapF]
    | true =>
      by_cases hd : dueF (h.ga.contains a) (!has h.le a) false = []
      · simp at hd
        simp [i_gap_row, e_is_name ha, ea, ci, e_first_due, hd, hallD, hz', gapF]
      · simp at hd
        simp [i_gap_row, e_is_name ha, ea, ci, e_first_due, hd, gapF]
  | [], hw => simp [i_gap_row, gapF]
  | a :: b :: r, hw =>
    have : ¬ ((r.length : Int) + 1 + 1 = 1) := by omega
    simp [i_gap_row, gapF, this]
def classF (h : Hl) (ws : List St) : St × Hl := match ws with
  | a :: x :: fs => if decide (fs.length ≤ 19) && allNames (a :: x :: fs) then
      (dueF (has h.cl a) ((x :: fs).any fun f => !has h.sh f) (decide (20 ≤ h.cl.length)),
        if dueF (has h.cl a) ((x :: fs).any fun f => !has h.sh f) (decide (20 ≤ h.cl.length)) = [] then { h with cl := h.cl ++ [(a, x :: fs)] } else h) else (wRow, h)
  | _ => (wRow, h)
theorem e_class_row {k : Nat} {h : Hl} {ws : List St} (hw : ∀ w ∈ ws, WOk w) (hl : ws.length ≤ SZ) (hz' : h.cl.length < SZ) : (run prg (k + 3)).m f_class_row (hallD h) [.lst (ws.map .str)] = .ok (.str (classF h ws).1, hallD (classF h ws).2) := by
  refine run_m (fn := i_class_row) rfl rfl rfl ?_
  match ws, hw, hl with
  | a :: x :: fs, hw, hl =>
    have g0 : (2 : Int) ≤ (fs.length : Int) + 1 + 1 := by omega
    have g1 : ((fs.length : Int) + 1 + 1 ≤ 21) ↔ fs.length ≤ 19 := by omega
    have g2 : (20 : Int) ≤ h.cl.length ↔ 20 ≤ h.cl.length := by omega
    have sl : slD (.lst (.str a :: .str x :: fs.map .str)) (some 1) none = .ok (.lst ((x :: fs).map .str)) := by
      have := slL_k (.str a :: .str x :: fs.map .str) 1
      simpa using this
    have an : (run prg (k + 2)).p f_all_names [.lst ((a :: x :: fs).map .str)] = .ok (.bl (allNames (a :: x :: fs))) := e_all_names (k := k) (fun v hv => (hw v hv).sz) hl
    have lk := e_lacking (k := k + 1) (ws := x :: fs) (l := h.sh)
    by_cases ej : fs.length ≤ 19
    · cases en : allNames (a :: x :: fs) with
      | false =>
        rw [en] at an
        simp at an
        simp [i_class_row, g0, g1, ej, an, classF, en]
      | true =>
        rw [en] at an
        simp at an lk
        by_cases hd : dueF (has h.cl a) ((x :: fs).any fun f => !has h.sh f) (decide (20 ≤ h.cl.length)) = []
        · have hh := nCl (due_nil.mp hd).1
          simp at hd
          simp [i_class_row, g0, g1, ej, an, en, sl, lk, e_first_due, g2, hd, hallD, hz', putK_new hh, classF, kCl, eSs]
        · simp at hd
          simp [i_class_row, g0, g1, ej, an, en, sl, lk, e_first_due, g2, hd, classF]
    · simp [i_class_row, g0, g1, ej, classF]
  | [], hw, hl => simp [i_class_row, classF]
  | [a], hw, hl => simp [i_class_row, classF]
def featF (h : Hl) (ws : List St) : St × Hl := match ws with
  | [a, b] => if isName a && onB b then (dueF (has h.fe a) false (decide (10 ≤ h.fe.length)), if dueF (has h.fe a) false (decide (10 ≤ h.fe.length)) = [] then { h with fe := h.fe ++ [(a, decide (b = wOn))] } else h) else (wRow, h)
  | _ => (wRow, h)
theorem e_feature_row {k : Nat} {h : Hl} {ws : List St} (hw : ∀ w ∈ ws, WOk w) (hz' : h.fe.length < SZ) : (run prg (k + 2)).m f_feature_row (hallD h) [.lst (ws.map .str)] = .ok (.str (featF h ws).1, hallD (featF h ws).2) := by
  refine run_m (fn := i_feature_row) rfl rfl rfl ?_
  match ws, hw with
  | [a, b], hw =>
    have ha := (hw a (by simp)).sz
    have hb := (hw b (by simp)).2
    have g1 : (10 : Int) ≤ h.fe.length ↔ 10 ≤ h.fe.length := by omega
    cases ea : isName a with
    | false => simp [i_feature_row, e_is_name ha, ea, featF]
    | true =>
      cases eb : onB b with
      | false => simp [i_feature_row, e_is_name ha, c_on hb, ea, eb, featF]
      | true =>
        by_cases hd : dueF (has h.fe a) false (decide (10 ≤ h.fe.length)) = []
        · have hh := nFe (due_nil.mp hd).1
          simp [i_feature_row, e_is_name ha, c_on hb, ea, eb, e_first_due, g1, hd, hallD, hz', putK_new hh, featF, kFe]
        · simp [i_feature_row, e_is_name ha, c_on hb, ea, eb, e_first_due, g1, hd, featF]
  | [], hw => simp [i_feature_row, featF]
  | [a], hw => simp [i_feature_row, featF]
  | a :: b :: c :: r, hw =>
    have : ¬ ((r.length : Int) + 1 + 1 + 1 = 2) := by omega
    simp [i_feature_row, featF, this]
abbrev wShape : St := [115, 104, 97, 112, 101]
abbrev wMark : St := [109, 97, 114, 107]
abbrev wPoint : St := [112, 111, 105, 110, 116]
abbrev wLetter : St := [108, 101, 116, 116, 101, 114]
abbrev wGap : St := [103, 97, 112]
abbrev wClass : St := [99, 108, 97, 115, 115]
abbrev wFeature : St := [102, 101, 97, 116, 117, 114, 101]
abbrev wRule : St := [114, 117, 108, 101]
end G
end
section
set_option Elab.async false
set_option linter.all false
set_option maxRecDepth 100000
set_option maxHeartbeats 1000000
namespace G
open PySem PyProof
local macro_rules | `(tactic| simp_arith [$ls,*]) => `(tactic| simp (disch := first | assumption | omega | (simp only [SZ, List.length_map, List.length_append, List.length_cons, List.length_nil, List.length_take, List.length_drop, List.length_range, List.length_zipIdx, List.length_reverse, List.length_replicate, List.length_zip]; omega)) only [ok_ite, bl_ite, c_lt, c_le, c_gt, c_ge, c_eqi, c_nei, c_eqs, c_nes, c_eqb, c_neb, c_is, c_isnot, b_lenL, b_lenT, b_lenD, b_lenI, b_tup, b_tup2, b_lst, b_lst2, c_inK, c_ninK, bind_ok', to_ok, bind_ite, to_ite, noex_ok, of_some, keep_f, keepL_f, keep_t, keepL_t, keepS_f, keepS_t, flS_sh, flS_l, getV_0, getV_s, ↓x_v, ↓x_kn, ↓x_kb, ↓x_ki, ↓x_ks, ↓x_g, ↓x_bin, negD_i, ↓x_neg, ↓x_not, andE_b, orE_b, ↓x_and, ↓x_or, ↓x_cmp, cm2E_e, ↓x_cmp2, ifeE_b, ↓x_ife, ↓x_lst, ↓x_tup, ↓x_dnew, ↓x_dic, ↓x_comp, ↓x_ix, ↓x_sl, turn_f, turn_t2, turn_t3, turn_t4, consO_s, consO_n, compR_n, compR_c, revD_l, ↓x_rev, ↓x_fld, ↓x_call, mkD_n, ↓x_mk, ↓x_blt, ↓x_mth, ↓x_isi, ↓x_lrg, ↓x_lrv, ↓x_nil, ↓x_cons, ↓x_kvn, ↓x_kvc, optD_i, ↓x_on, ↓x_os, ↓x_cn, ↓x_cs, seqD_l, seqD_t, seqD_s, ↓x_seq, ↓x_r1, ↓x_r2, ↓x_r3, enumD_l, enumD_s, ↓x_en, zipD_l, ↓x_zip, revI_l, ↓x_revI, itemsD_d, valsD_d, keysD_d, ↓x_it, ↓x_va, ↓x_ke, ↓s_nil, seqS_nx, seqS_rt, seqS_bk, seqS_ct, seqS_ite, ↓s_cons, ↓s_asg, tupO_l, tupO_t, ↓s_asgT, ↓s_par, augO_t, augO_a, augO_s, ↓s_aug, ↓s_shr, ↓s_app, ↓s_ext, ↓s_ins, ↓s_clr, ↓s_rvs, ↓s_sti, ↓s_stf, ↓s_exp, ↓s_mc, ↓s_mcr, ↓s_for, ↓s_whl, iteS_b, ↓s_ife, ↓s_ret, ↓s_retN, ↓s_brk, ↓s_ct, ↓s_pas, ↓p_nil, ↓p_fld, idxD_i, ↓p_idx, ↓up_nil, ↓up_f, ↓up_i, ↓up_it, truD_b, fldD_i, updE_eq, getF_c, putF_c, putF_n, noex_ite, noMut_i, noMut_b, noMut_n, noMut_t, noMuts_n, noMuts_c, gSet_d, gClr_l, gRvs_l, add_i, sub_i, putR_n, putR_s, toK_s, toK_i, setT_f, setT_t, setAll_n, setAll_c, wp_end_rt, wp_end_nx, wp_em_rt, wp_em_nx, wp_t_nx, wp_t_ct, wp_t_bk, wp_t_rt, noMut_s, b_lenS, gApp_l, gExt_l, List.set_cons_succ, List.set_cons_zero, List.map_cons, List.map_nil, List.cons_append, List.nil_append, List.length_map, List.length_cons, List.length_nil, List.length_range, List.length_zipIdx, if_true, if_false, Bool.false_eq_true, decide_true, decide_false, Bool.not_true, Bool.not_false, Bool.and_true, Bool.true_and, Bool.and_false, Bool.false_and, Bool.or_true, Bool.true_or, Bool.or_false, Bool.false_or, Bool.and_self, Bool.or_self, beq_self_eq_true, leE_n, leE_cn, leE_cs, and_true, true_and, and_self, Nat.add_zero, Nat.zero_add, Int.natCast_add, Int.cast_ofNat_Int, Option.some.injEq, List.getElem_range, List.getElem_zipIdx, List.all_nil, List.all_cons, ix_l0, ix_l1, ix_l2, ix_l3, ix_l4, ix_t0, ix_t1, ix_t2, ix_t3, ix_t4, ix_t5, ite_and, ite_or, seqS_nl, seqS_sq, app_n, app_c, ix_t6, ix_t7, reduceCtorEq, not_true_eq_false, not_false_eq_true, eq_self, ne_eq, $ls,*])
local macro_rules | `(tactic| simp_arith! [$i:ident]) => `(tactic| (refine run_p (fn := $i) rfl rfl rfl ?_; simp only [$i:ident, startE_eq, List.map_cons, List.map_nil, List.length_cons, List.length_nil, List.cons_append, List.nil_append, Nat.reduceAdd, Nat.reduceSub, List.replicate_succ, List.replicate_zero]))
local macro_rules | `(tactic| simp_all_arith [$i:ident]) => `(tactic| (refine run_px (fn := $i) rfl rfl rfl ?_; simp only [$i:ident, startE_eq, List.map_cons, List.map_nil, List.length_cons, List.length_nil, List.cons_append, List.nil_append, Nat.reduceAdd, Nat.reduceSub, List.replicate_succ, List.replicate_zero]))
local macro_rules | `(tactic| simp_all_arith! [$i:ident]) => `(tactic| (refine run_m (fn := $i) rfl rfl rfl ?_; simp only [$i:ident, startE_eq, List.map_cons, List.map_nil, List.length_cons, List.length_nil, List.cons_append, List.nil_append, Nat.reduceAdd, Nat.reduceSub, List.replicate_succ, List.replicate_zero]))
/-! ### rows of rules -/
def strB (x : St) : Bool := [[47], [62]].contains x
def signsL (ws : List St) : List (St × Nat) := ws.zipIdx.filter fun p => strB p.1
abbrev Q4 := List St × List St × List St × List St
def cutAt (ws : List St) (i j l : Nat) : Q4 := (ws.take i, (ws.drop (i + 1)).take (j - (i + 1)), (ws.drop (j + 1)).take (l - (j + 1)), ws.drop (l + 1))
def partF (ws : List St) : Option Q4 := match signsL ws with
  | [(x, i), (y, j), (z, l)] => if x = [47] ∧ y = [47] ∧ z = [62] then some (cutAt ws i j l) else none
  | _ => none
abbrev eLs (l : List St) : D := .lst (l.map .str)
def eQ4 (p : Q4) : D := .lst [eLs p.1, eLs p.2.1, eLs p.2.2.1, eLs p.2.2.2]
theorem sl_map0 {α : Type} {enc : α → D} (xs : List α) (b : Nat) : slD (.lst (xs.map enc)) none (some (b : Int)) = .ok (.lst ((xs.take b).map enc)) := by rw [sl_map, cut_b]
theorem sl_map1 {α : Type} {enc : α → D} (xs : List α) (a : Nat) : slD (.lst (xs.map enc)) (some (a : Int)) none = .ok (.lst ((xs.drop a).map enc)) := by rw [sl_map, cut_n]
theorem sl_map2 {α : Type} {enc : α → D} (xs : List α) (a b : Nat) : slD (.lst (xs.map enc)) (some (a : Int)) (some (b : Int)) = .ok (.lst (((xs.drop a).take (b - a)).map enc)) := by rw [sl_map, cut_nn]
theorem sl_p1 {α : Type} {enc : α → D} (xs : List α) (a : Nat) : slD (.lst (xs.map enc)) (some ((a : Int) + 1)) none = .ok (.lst ((xs.drop (a + 1)).map enc)) := sl_map1 xs (a + 1)
theorem sl_p2 {α : Type} {enc : α → D} (xs : List α) (a b : Nat) : slD (.lst (xs.map enc)) (some ((a : Int) + 1)) (some (b : Int)) = .ok (.lst (((xs.drop (a + 1)).take (b - (a + 1))).map enc)) := sl_map2 xs (a + 1) b
theorem e_parted {k : Nat} {ws : List St} (hw : ∀ w ∈ ws, asc w) (hl : ws.length ≤ SZ) : (run prg (k + 1)).p f_parted [.lst (ws.map .str)] = .ok (optL eQ4 (partF ws)) := by
  simp_arith! [i_parted]
  simp_arith [enum_map, hl]
  rw [comp_fil (h := fun p : St × Nat => .int p.2) (p := fun p => strB p.1) fun p hp => ?_]
  · have hs : (signsL ws).length ≤ SZ := Nat.le_trans (List.length_filter_le _ _) (by simpa using hl)
    have ha : ∀ p ∈ signsL ws, ws[p.2]? = some p.1 := fun p hp => by
      have := (List.mem_filter.mp hp).1
      simpa [List.mem_zipIdx_iff_getElem?] using this
    have hb : ∀ w ∈ (signsL ws).map Prod.fst, asc w := fun w hq => by
      obtain ⟨p, hp, rfl⟩ := List.mem_map.mp hq
      exact hw _ (List.mem_of_getElem? (ha p hp))
    change Wq (seqS _ _ _ ((((R.ok ((signsL ws).map fun p => D.int p.2)).bind _)).to _)) _
    simp_arith []
    rw [comp_map (h := fun p : St × Nat => .str p.1) fun p hp => ?_]
    · have e : ((signsL ws).map fun p => D.str p.1) = ((signsL ws).map Prod.fst).map .str := by rw [List.map_map]; rfl
      have cn : cmpD .ne (.lst (((signsL ws).map Prod.fst).map .str)) (.lst [.str [47], .str [47], .str [62]]) = .ok (!decide ((signsL ws).map Prod.fst = [[47], [47], [62]])) := c_neL (ys := [[47], [47], [62]]) hb (by decide)
      simp_arith [hs, e, cn]
      unfold partF
      by_cases hc : (signsL ws).map Prod.fst = [[47], [47], [62]]
      · match hg : signsL ws, hc with
        | [(x, i), (y, j), (z, l)], hc =>
          simp only [List.map_cons, List.map_nil, List.cons.injEq, and_true] at hc
          obtain ⟨rfl, rfl, rfl⟩ := hc
          simp_arith [hg, sl_map0, sl_p1, sl_p2, optL_s]
          rfl
      · simp_arith [hc]
        match hg : signsL ws, hc with
        | [(x, i), (y, j), (z, l)], hc =>
          have : ¬ (x = [47] ∧ y = [47] ∧ z = [62]) := by simpa using hc
          simp [this]
        | [], hc => rfl
        | [_], hc => rfl
        | [_, _], hc => rfl
        | _ :: _ :: _ :: _ :: _, hc => rfl
    · have hq := ha p hp
      obtain ⟨hq1, hq2⟩ := List.getElem?_eq_some_iff.mp hq
      simp_arith [ix_map hq1, hq2]
  · have hp2 : p.1 ∈ ws := by
      have := List.fst_mem_of_mem_zipIdx hp
      simpa using this
    have ci : cmpD .isin (.str p.1) (.tup [.str [47], .str [62]]) = .ok (strB p.1) := c_inT (ys := [[47], [62]]) (hw _ hp2) (by decide)
    cases e : strB p.1 <;> simp_arith [ci, e]
theorem mem_cutAt {ws : List St} {i j l : Nat} {w : St} (h : w ∈ (cutAt ws i j l).1 ∨ w ∈ (cutAt ws i j l).2.1 ∨ w ∈ (cutAt ws i j l).2.2.1 ∨ w ∈ (cutAt ws i j l).2.2.2) : w ∈ ws := by
  unfold cutAt at h
  rcases h with h | h | h | h
  · exact List.mem_of_mem_take h
  · exact List.mem_of_mem_drop (List.mem_of_mem_take h)
  · exact List.mem_of_mem_drop (List.mem_of_mem_take h)
  · exact List.mem_of_mem_drop h
theorem partF_mem {ws : List St} {p : Q4} (h : partF ws = some p) {w : St} (hw : w ∈ p.1 ∨ w ∈ p.2.1 ∨ w ∈ p.2.2.1 ∨ w ∈ p.2.2.2) : w ∈ ws := by
  unfold partF at h
  split at h
  · split at h
    · cases h
      exact mem_cutAt hw
    · cases h
  · cases h
theorem partF_len {ws : List St} {p : Q4} (h : partF ws = some p) : p.1.length ≤ ws.length ∧ p.2.1.length ≤ ws.length ∧ p.2.2.1.length ≤ ws.length ∧ p.2.2.2.length ≤ ws.length := by
  unfold partF at h
  split at h
  · split at h
    · cases h
      simp [cutAt]
      omega
    · cases h
  · cases h
def partsOk (p : Q4) : Bool := decide (p.1.length ≤ 3) && (decide (1 ≤ p.2.1.length) && decide (p.2.1.length ≤ 4)) && (decide (p.2.2.1.length ≤ 3) && ((decide (1 ≤ p.2.2.2.length) && decide (p.2.2.2.length ≤ 3)) && allNames p.2.2.2)) && (p.1 ++ p.2.1 ++ p.2.2.1).all isItem
def rpartF (ws : List St) : Option Q4 := match partF ws with
  | some p => if partsOk p then some p else none
  | none => none
theorem add_ls {x y : List St} (h : x.length + y.length ≤ SZ) : binD .add (.lst (x.map .str)) (.lst (y.map .str)) = .ok (.lst ((x ++ y).map .str)) := by
  show (if (x.map D.str).length + (y.map D.str).length ≤ SZ then R.ok (D.lst (x.map D.str ++ y.map D.str)) else R.bad) = _
  rw [if_pos (by simpa using h), List.map_append]
theorem gt3 (n : Nat) : ((3 : Int) < (n : Int)) ↔ ¬ n ≤ 3 := by omega
theorem le1 (n : Nat) : ((1 : Int) ≤ (n : Int)) ↔ 1 ≤ n := by omega
theorem le4 (n : Nat) : ((n : Int) ≤ 4) ↔ n ≤ 4 := by omega
theorem le3 (n : Nat) : ((n : Int) ≤ 3) ↔ n ≤ 3 := by omega
theorem e_rule_parts {k : Nat} {ws : List St} (hw : ∀ w ∈ ws, WOk w) (hl : ws.length ≤ 1000000) : (run prg (k + 3)).p f_rule_parts [.lst (ws.map .str)] = .ok (optL eQ4 (rpartF ws)) := by
  simp_arith! [i_rule_parts]
  have e1 := e_parted (k := k + 1) (ws := ws) (fun w h => (hw w h).2) (by simp [SZ]; omega)
  unfold rpartF
  cases hp : partF ws with
  | none =>
    rw [hp] at e1
    simp_arith [e1, optL_n]
  | some p =>
    rw [hp] at e1
    obtain ⟨l1, l2, l3, l4⟩ := partF_len hp
    have m := fun w => partF_mem (w := w) hp
    obtain ⟨a, b, c, d⟩ := p
    simp only at l1 l2 l3 l4 m
    have an : (run prg (k + 1 + 1)).p f_all_names [.lst (d.map .str)] = .ok (.bl (allNames d)) := e_all_names (k := k) (fun w h => (hw w (m w (by simp [h]))).sz) (by simp [SZ]; omega)
    have c1 := add_ls (x := a) (y := b) (by simp [SZ]; omega)
    have c2 := add_ls (x := a ++ b) (y := c) (by simp [SZ]; omega)
    have c3 : ∀ x y z : Option D, compR (turn (run prg (k + 2)) prg.tab [x, y, z] (.call f_is_item (.cons (.v 2) .nil)) false [2] .none) ((a ++ b ++ c).map .str) = .ok ((a ++ b ++ c).map fun w => .bl (isItem w)) := fun x y z => comp_map fun w h => by
      have hz : w ∈ ws := m w (by simp only [List.mem_append] at h; rcases h with (h | h) | h <;> simp [h])
      simp_arith [e_is_item (k := k) (hw w hz).sz]
    have hz : (a ++ b ++ c).length ≤ SZ := by simp [SZ]; omega
    show Wq _ (End (· = optL eQ4 (if partsOk (a, b, c, d) then some (a, b, c, d) else none)))
    unfold partsOk
    simp_arith [e1, optL_s, eQ4, eLs, gt3, le1, le4, le3]
    by_cases g1 : a.length ≤ 3
    · by_cases g2 : 1 ≤ b.length
      · by_cases g3 : b.length ≤ 4
        · by_cases g4 : c.length ≤ 3
          · by_cases g5 : 1 ≤ d.length
            · by_cases g6 : d.length ≤ 3
              · cases g7 : allNames d with
                | true =>
                  cases g8 : (a ++ b ++ c).all isItem with
                  | true => simp_arith [g1, g2, g3, g4, g5, g6, g7, g8, an, c1, c2, c3, hz, all_ok, optL_s, eQ4, eLs]
                  | false => simp_arith [g1, g2, g3, g4, g5, g6, g7, g8, an, c1, c2, c3, hz, all_ok, optL_n]
                | false => simp_arith [g1, g2, g3, g4, g5, g6, g7, an, optL_n]
              · simp_arith [g1, g2, g3, g4, g5, g6, optL_n]
            · simp_arith [g1, g2, g3, g4, g5, optL_n]
          · simp_arith [g1, g2, g3, g4, optL_n]
        · simp_arith [g1, g2, g3, optL_n]
      · simp_arith [g1, g2, optL_n]
    · simp_arith [g1, optL_n]

def itemLacks (h : Hl) (x : St) : Bool := if x.head? = some 64 then !has h.cl x.tail else !has h.sh x
theorem item_ne {x : St} (h : isItem x = true) : ∃ c, x.head? = some c := by
  cases x with
  | nil => simp [isItem, isName] at h
  | cons a r => exact ⟨a, rfl⟩
theorem e_item_lacks {k : Nat} {h : Hl} {x : St} (hi : isItem x = true) (hz : x.length ≤ SZ) : (run prg (k + 1)).p f_item_lacks [hallD h, .str x] = .ok (.bl (itemLacks h x)) := by
  simp_arith! [i_item_lacks]
  obtain ⟨c, hc⟩ := item_ne hi
  unfold itemLacks
  by_cases h64 : c = 64
  · subst h64
    simp_arith [ixs_h hc hz, hc, fld5, sls_d hz, c_hCl]
  · have : ¬ ([c] = [64]) := by simpa using h64
    have : ¬ (some c = some 64) := by simpa using h64
    simp_arith [ixs_h hc hz, hc, fld0, c_hSh, List.cons.injEq, h64]
theorem noMuts_str (l : List St) : noMuts (l.map .str) = true := by
  induction l with
  | nil => rfl
  | cons a r ih => simpa [noMuts, noMut] using ih
theorem add_tup {x y : List D} (h2 : noMuts x = true) (h3 : noMuts y = true) (hl : x.length + y.length ≤ SZ) : binD .add (.tup x) (.tup y) = .ok (.tup (x ++ y)) := by
  show (if !(noMuts x && noMuts y) then R.bad else if x.length + y.length ≤ SZ then R.ok (D.tup (x ++ y)) else R.bad) = _
  rw [h2, h3, if_neg (by decide), if_pos hl]
def ruleLk (h : Hl) (f : St) (p : Q4) : Bool := (!has h.fe f || p.2.2.2.any fun w => !has h.sh w) || (p.1 ++ p.2.1 ++ p.2.2.1).any (itemLacks h)
def ruleF (h : Hl) (ws : List St) : St × Hl := match ws with
  | a :: f :: r => if isName a && isName f then (match rpartF r with
      | some p => (dueF ((h.ru.map Rl.ti).contains a) (ruleLk h f p) (decide (30 ≤ h.ru.length)),
        if dueF ((h.ru.map Rl.ti).contains a) (ruleLk h f p) (decide (30 ≤ h.ru.length)) = [] then { h with ru := h.ru ++ [⟨a, f, p.1, p.2.1, p.2.2.1, p.2.2.2⟩] } else h)
      | none => (wRow, h)) else (wRow, h)
  | _ => (wRow, h)
theorem rpart_some {ws : List St} {p : Q4} (h : rpartF ws = some p) : partF ws = some p ∧ partsOk p = true := by
  unfold rpartF at h
  split at h
  · split at h
    · cases h; exact ⟨by assumption, by assumption⟩
    · cases h
  · cases h
theorem partsOk_iff {p : Q4} : partsOk p = true ↔ p.1.length ≤ 3 ∧ 1 ≤ p.2.1.length ∧ p.2.1.length ≤ 4 ∧ p.2.2.1.length ≤ 3 ∧ 1 ≤ p.2.2.2.length ∧ p.2.2.2.length ≤ 3 ∧ allNames p.2.2.2 = true ∧ ∀ x ∈ p.1 ++ p.2.1 ++ p.2.2.1, isItem x = true := by
  simp only [partsOk, Bool.and_eq_true, decide_eq_true_eq, List.all_eq_true]
  constructor
  · rintro ⟨⟨⟨a, b, c⟩, d, ⟨e, f⟩, g⟩, i⟩
    exact ⟨a, b, c, d, e, f, g, i⟩
  · rintro ⟨a, b, c, d, e, f, g, i⟩
    exact ⟨⟨⟨a, b, c⟩, d, ⟨e, f⟩, g⟩, i⟩
theorem e_rule_row {k : Nat} {h : Hl} {ws : List St} (hw : ∀ w ∈ ws, WOk w) (hl : ws.length ≤ 1000000) (hz' : h.ru.length < SZ) (hn : ∀ r ∈ h.ru, isName r.ti = true) : (run prg (k + 4)).m f_rule_row (hallD h) [.lst (ws.map .str)] = .ok (.str (ruleF h ws).1, hallD (ruleF h ws).2) := by
  simp_all_arith! [i_rule_row]
  match ws, hw, hl with
  | [], _, _ => simp_arith [ruleF]; simp
  | [a], _, _ => simp_arith [ruleF]; simp
  | a :: f :: r, hw, hl =>
    have ha := hw a (by simp)
    have hf := hw f (by simp)
    have hr : ∀ w ∈ r, WOk w := fun w h => hw w (by simp [h])
    have g0 : ¬ ((r.length : Int) + 1 + 1 < 2) := by omega
    have s1 : slD (.lst (.str a :: .str f :: r.map .str)) none (some 2) = .ok (.lst [.str a, .str f]) := sl_map0 (enc := D.str) (a :: f :: r) 2
    have s2 : slD (.lst (.str a :: .str f :: r.map .str)) (some 2) none = .ok (.lst (r.map .str)) := sl_map1 (enc := D.str) (a :: f :: r) 2
    have an : (run prg (k + 1 + 2)).p f_all_names [.lst [.str a, .str f]] = .ok (.bl (isName a && isName f)) := by
      have := e_all_names (k := k + 1) (ws := [a, f]) (by intro w hw; simp at hw; rcases hw with rfl | rfl <;> first | exact ha.sz | exact hf.sz) (by simp [SZ])
      simpa [allNames] using this
    cases hnm : isName a && isName f with
    | false =>
      have er : ruleF h (a :: f :: r) = (wRow, h) := by simp only [ruleF, hnm]; rfl
      rw [hnm] at an
      rw [er]
      simp_arith [g0, s1, an]
      simp
    | true =>
      rw [hnm] at an
      have rp := e_rule_parts (k := k) hr (by simp at hl; omega)
      cases hp : rpartF r with
      | none =>
        rw [hp] at rp
        have er : ruleF h (a :: f :: r) = (wRow, h) := by simp only [ruleF, hnm, hp]; rfl
        rw [er]
        simp_arith [g0, s1, s2, an, rp, optL_n]
        simp
      | some p =>
        rw [hp] at rp
        obtain ⟨q1, q2⟩ := rpart_some hp
        obtain ⟨o1, o2, o3, o4, o5, o6, o7, o8⟩ := partsOk_iff.mp q2
        have m := fun w => partF_mem (w := w) q1
        have er : ruleF h (a :: f :: r) = (dueF ((h.ru.map Rl.ti).contains a) (ruleLk h f p) (decide (30 ≤ h.ru.length)),
          if dueF ((h.ru.map Rl.ti).contains a) (ruleLk h f p) (decide (30 ≤ h.ru.length)) = [] then { h with ru := h.ru ++ [⟨a, f, p.1, p.2.1, p.2.2.1, p.2.2.2⟩] } else h) := by simp only [ruleF, hnm, hp]; rfl
        rw [er]
        clear er
        have elk : ruleLk h f p = ((!has h.fe f || p.2.2.2.any fun w => !has h.sh w) || (p.1 ++ p.2.1 ++ p.2.2.1).any (itemLacks h)) := rfl
        generalize ruleLk h f p = LK at elk ⊢
        obtain ⟨b, c, d, e⟩ := p
        simp only at o1 o2 o3 o4 o5 o6 o7 o8 m elk ⊢
        have c1 := add_ls (x := b) (y := c) (by simp [SZ]; omega)
        have c2 := add_ls (x := b ++ c) (y := d) (by simp [SZ]; omega)
        have lk := e_lacking (k := k + 2) (ws := e) (l := h.sh)
        have e0 : ∀ (X Y : Bool), (if X = true then R.ok (D.bl true) else R.ok (D.bl Y)) = R.ok (D.bl (X || Y)) := by intro X Y; cases X <;> rfl
        simp_arith [g0, s1, s2, an, rp, optL_s, eQ4, eLs, fld6, fld0, c_hFe, lk, c1, c2, e0]
        refine wp_fold (fun L : Bool => [some (hallD h), some (.lst ((a :: f :: r).map .str)), some (eQ4 (b, c, d, e)), some (.bl L), none, none, none, none, none]) (fun L x => L || itemLacks h x) (!has h.fe f || e.any fun w => !has h.sh w) (Mq_em _) (by simp_arith [eQ4, eLs]) (fun i hi s _ => ⟨_, setT_f _ _ _, ?_⟩) ?_
        · have il := e_item_lacks (k := k + 2) (h := h) (o8 _ (List.getElem_mem hi)) (by
            refine (hr _ (m _ ?_)).sz
            have h1 := List.getElem_mem hi
            generalize (b ++ c ++ d)[i] = y at h1 ⊢
            simp only [List.mem_append] at h1
            rcases h1 with (h | h) | h <;> simp [h])
          simp_arith [il, e0]
        · have ef : ∀ (l : List St) (X : Bool), l.foldl (fun L x => L || itemLacks h x) X = (X || l.any (itemLacks h)) := by
            intro l
            induction l with
            | nil => intro X; simp
            | cons y t ih => intro X; simp [ih, Bool.or_assoc]
          rw [ef, ← elk]
          have ci : cmpD .isin (.str a) (.lst (h.ru.map fun r => .str r.ti)) = .ok ((h.ru.map Rl.ti).contains a) := by
            have := c_inL (ys := h.ru.map Rl.ti) ha.2 (by
              intro y hy
              obtain ⟨q, hq, rfl⟩ := List.mem_map.mp hy
              exact isName_asc (hn q hq))
            rw [List.map_map] at this
            exact this
          have c3 : ∀ x1 x2 x3 x4 x5 x6 x7 x8 x9 : Option D, compR (turn (run prg (k + 3)) prg.tab [x1, x2, x3, x4, x5, x6, x7, x8, x9] (.ix (.v 7) (.ki 0)) false [7] .none) (h.ru.map eRl) = .ok (h.ru.map fun r => .str r.ti) := fun _ _ _ _ _ _ _ _ _ => comp_map fun w _ => by simp_arith [eRl]
          have hru : h.ru.length ≤ SZ := by omega
          have nm : ∀ l : List St, noMut (.tup (l.map .str)) = true := fun l => noMuts_str l
          have at1 := add_tup (x := [.str a, .str f]) (y := [.tup (b.map .str), .tup (c.map .str), .tup (d.map .str), .tup (e.map .str)]) (by simp [noMuts, noMut]) (by simp [nm, -noMut_t]) (by simp [SZ])
          have g30 : (30 : Int) ≤ h.ru.length ↔ 30 ≤ h.ru.length := by omega
          have z4 : (1 + 1 + 1 + 1 ≤ SZ) = True := by simp [SZ]
          have hz2 : h.ru.length < SZ := hz'
          have ri : (h.ru.map eRl).length < SZ := by simpa using hz'
          simp_arith [fld7, c3, hru, ci, e_first_due, g30, eQ4, eLs, at1, z4]
          by_cases hd : dueF ((h.ru.map Rl.ti).contains a) LK (decide (30 ≤ h.ru.length)) = []
          · have ga : ∀ y, gApp y (.lst (h.ru.map eRl)) = .ok (.lst (h.ru.map eRl ++ [y])) := fun y => gApp_l y _ ri
            simp_arith [hd, hallD, at1, ga, getF_c, putF_c]
            simp [ga, eRl, eSs, at1, noMut]
          · simp_arith [hd]
            simp
end G
end
section
set_option Elab.async false
set_option linter.all false
set_option maxRecDepth 100000
set_option maxHeartbeats 1000000
namespace G
open PySem PyProof
/-- a row -/
def rowF (h : Hl) (hd : St) (ws : List St) : St × Hl := if hd = wShape then shapeF h ws else if hd = wMark then markF h ws else if hd = wPoint then pointF h ws else if hd = wLetter then letterF h ws else if hd = wGap then gapF h ws else if hd = wClass then classF h ws else if hd = wFeature then featF h ws else if hd = wRule then ruleF h ws else (wRow, h)
structure HOk (n : Nat) (h : Hl) : Prop where
  sh : h.sh.length ≤ n
  ma : h.ma.length ≤ n
  po : h.po.length ≤ n
  le : h.le.length ≤ n
  ga : h.ga.length ≤ n
  cl : h.cl.length ≤ n
  fe : h.fe.length ≤ n
  ru : h.ru.length ≤ n
  gn : ∀ g ∈ h.ga, isName g = true
  rn : ∀ r ∈ h.ru, isName r.ti = true
theorem e_hall_row {k n : Nat} {h : Hl} {hd : St} {ws : List St} (hw : ∀ w ∈ ws, WOk w) (hl' : ws.length ≤ 1000000) (ho : HOk n h) (hn : n < SZ) : (run prg (k + 5)).m f_hall_row (hallD h) [.str hd, .lst (ws.map .str)] = .ok (.str (rowF h hd ws).1, hallD (rowF h hd ws).2) := by
  refine run_m (fn := i_hall_row) rfl rfl rfl ?_
  have hl : ws.length ≤ SZ := by simp [SZ]; omega
  have e1 := e_shape_row (k := k + 2) hw (Nat.lt_of_le_of_lt ho.sh hn)
  have e2 := e_mark_row (k := k) hw (Nat.lt_of_le_of_lt ho.ma hn)
  have e3 := e_point_row (k := k) hw (Nat.lt_of_le_of_lt ho.po hn)
  have e4 := e_letter_row (k := k + 1) hw hl (Nat.lt_of_le_of_lt ho.le hn)
  have e5 := e_gap_row (k := k + 2) hw (Nat.lt_of_le_of_lt ho.ga hn) ho.gn
  have e6 := e_class_row (k := k + 1) hw hl (Nat.lt_of_le_of_lt ho.cl hn)
  have e7 := e_feature_row (k := k + 2) hw (Nat.lt_of_le_of_lt ho.fe hn)
  have e8 := e_rule_row (k := k) hw hl' (Nat.lt_of_le_of_lt ho.ru hn) ho.rn
  unfold rowF
  by_cases h1 : hd = wShape
  · simp [i_hall_row, h1, e1]
  · by_cases h2 : hd = wMark
    · simp [i_hall_row, h2, e2]
    · by_cases h3 : hd = wPoint
      · simp [i_hall_row, h3, e3]
      · by_cases h4 : hd = wLetter
        · simp [i_hall_row, h4, e4]
        · by_cases h5 : hd = wGap
          · simp [i_hall_row, h5, e5]
          · by_cases h6 : hd = wClass
            · simp [i_hall_row, h6, e6]
            · by_cases h7 : hd = wFeature
              · simp [i_hall_row, h7, e7]
              · by_cases h8 : hd = wRule
                · simp [i_hall_row, h8, e8]
                · simp [i_hall_row, h1, h2, h3, h4, h5, h6, h7, h8]
theorem HOk.up {n : Nat} {h : Hl} (ho : HOk n h) : HOk (n + 1) h := ⟨Nat.le_succ_of_le ho.1, Nat.le_succ_of_le ho.2, Nat.le_succ_of_le ho.3, Nat.le_succ_of_le ho.4, Nat.le_succ_of_le ho.5, Nat.le_succ_of_le ho.6, Nat.le_succ_of_le ho.7, Nat.le_succ_of_le ho.8, ho.9, ho.10⟩
theorem HOk.rule {n : Nat} {h : Hl} (ho : HOk n h) (ws : List St) : HOk (n + 1) (ruleF h ws).2 := by
  have u := ho.up
  unfold ruleF
  split
  · split
    · rename_i a f r hnm
      split
      · dsimp only
        split
        · obtain ⟨a1, a2, a3, a4, a5, a6, a7, a8, a9, a10⟩ := u
          refine ⟨a1, a2, a3, a4, a5, a6, a7, by simp; exact ho.ru, a9, fun r hr => ?_⟩
          rcases List.mem_append.mp hr with hr | hr
          · exact a10 r hr
          · rw [List.mem_singleton] at hr
            subst hr
            simp at hnm
            exact hnm.1
        · exact u
      · exact u
    · exact u
  · exact u
theorem HOk.row {n : Nat} {h : Hl} (ho : HOk n h) (hd : St) (ws : List St) : HOk (n + 1) (rowF h hd ws).2 := by
  have u := ho.up
  obtain ⟨a1, a2, a3, a4, a5, a6, a7, a8, a9, a10⟩ := ho
  have ur := HOk.rule ⟨a1, a2, a3, a4, a5, a6, a7, a8, a9, a10⟩ ws
  unfold rowF shapeF markF pointF letterF gapF classF featF
  (repeat' split) <;> first | exact u | exact ur | (constructor <;> simp <;> first | omega | (intro g hg; rcases hg with hg | hg <;> simp_all))
def lineF (h : Hl) (l : St) : St × Hl := match wordsOf l with
  | [] => ([], h)
  | w :: ws => rowF h w ws
theorem HOk.line {n : Nat} {h : Hl} (ho : HOk n h) (l : St) : HOk (n + 1) (lineF h l).2 := by
  unfold lineF
  split
  · exact ho.up
  · exact ho.row _ _
/-- rows read one behind the other -/
def readF : Hl → List St → Option Hl
  | h, [] => some h
  | h, l :: r => if (lineF h l).1 = [] then readF (lineF h l).2 r else none
theorem prg_init0 : prg.tab.init 0 = f_Hall_init := rfl
theorem e_init {k : Nat} : (run prg (k + 1)).m f_Hall_init (.ins 0 []) [] = .ok (.non, hallD {}) := by
  refine run_m (fn := i_Hall_init) rfl rfl rfl ?_
  simp [i_Hall_init, gFld, hallD]
theorem words_mem {l : St} {w : St} (h : w ∈ wordsOf l) : w.length ≤ l.length ∧ ∀ c ∈ w, c ∈ l := by
  have go : ∀ (x acc : St) (w : St), w ∈ splC 32 acc x → w.length ≤ acc.length + x.length ∧ ∀ c ∈ w, c ∈ acc ∨ c ∈ x := by
    intro x
    induction x with
    | nil =>
      intro acc w h
      simp [splC] at h
      subst h
      exact ⟨by simp, fun c hc => .inl hc⟩
    | cons a r ih =>
      intro acc w h
      have h : w ∈ (if a = 32 then acc :: splC 32 [] r else splC 32 (acc ++ [a]) r) := h
      split at h
      · rcases List.mem_cons.mp h with rfl | h
        · exact ⟨by simp, fun c hc => .inl hc⟩
        · obtain ⟨h1, h2⟩ := ih [] w h
          exact ⟨by simp at h1 ⊢; omega, fun c hc => by rcases h2 c hc with q | q <;> simp_all⟩
      · obtain ⟨h1, h2⟩ := ih (acc ++ [a]) w h
        refine ⟨by simp at h1 ⊢; omega, fun c hc => ?_⟩
        rcases h2 c hc with q | q
        · rcases List.mem_append.mp q with q | q
          · exact .inl q
          · exact .inr (by simp_all)
        · exact .inr (by simp_all)
  obtain ⟨h1, h2⟩ := go l [] w (List.mem_filter.mp h).1
  exact ⟨by simpa using h1, fun c hc => by simpa using h2 c hc⟩
theorem words_len (l : St) : (wordsOf l).length ≤ l.length + 1 := Nat.le_trans (List.length_filter_le _ _) (splC_len _ _)
theorem readF_step {h h' : Hl} {l : St} {r : List St} (e : readF h (l :: r) = some h') : (lineF h l).1 = [] ∧ readF (lineF h l).2 r = some h' := by
  unfold readF at e
  split at e
  · exact ⟨‹_›, e⟩
  · cases e
theorem readF_at {ls : List St} {h h' : Hl} (e : readF h ls = some h') : ∃ f : Nat → Hl, f 0 = h ∧ f ls.length = h' ∧ ∀ i (hi : i < ls.length), (lineF (f i) ls[i]).1 = [] ∧ (lineF (f i) ls[i]).2 = f (i + 1) := by
  induction ls generalizing h with
  | nil => cases e; exact ⟨fun _ => h', rfl, rfl, fun i hi => absurd hi (Nat.not_lt_zero _)⟩
  | cons l r ih =>
    obtain ⟨e1, e2⟩ := readF_step e
    obtain ⟨f, f0, f1, f2⟩ := ih e2
    refine ⟨fun i => match i with
      | 0 => h
      | i + 1 => f i, rfl, f1, fun i hi => ?_⟩
    cases i with
    | zero => exact ⟨e1, f0.symm⟩
    | succ i => exact f2 i (by simpa using hi)
theorem e_read_hall {k : Nat} {ls : List St} {h' : Hl} (hne : ls ≠ []) (hl : ∀ l ∈ ls, 10 ∉ l ∧ asc l ∧ l.length ≤ 900000) (hz : (joinC [10] ls).length + 2 ≤ SZ) (hn : ls.length < SZ) (e : readF {} ls = some h') : (run prg (k + 6)).p f_read_hall [.str (joinC [10] ls)] = .ok (hallD h') := by
  refine run_p (fn := i_read_hall) rfl rfl rfl ?_
  obtain ⟨f, f0, f1, f2⟩ := readF_at e
  have ok : ∀ i, i ≤ ls.length → HOk i (f i) := by
    intro i
    induction i with
    | zero =>
      intro _
      rw [f0]
      constructor <;> simp
    | succ i ih =>
      intro hi
      rw [← (f2 i hi).2]
      exact (ih (by omega)).line _
  simp [i_read_hall, prg_init0, e_init, split_ok, hz, splC_join hne fun x hx => (hl x hx).1, enum_map]
  refine wp_for (enc := fun p : St × Nat => D.tup [.int p.2, .str p.1]) (fun i e => ∃ a b c d, e = [a, some (hallD (f i)), b, c, d.1, d.2]) ⟨_, _, _, (_, _), by rw [f0]⟩ (fun i hi e he => ?_) fun e he => ?_
  · obtain ⟨a, b, c, ⟨d1, d2⟩, rfl⟩ := he
    refine ⟨_, rfl, ?_⟩
    simp at hi
    have hm := hl ls[i] (List.getElem_mem _)
    have hw : ∀ w ∈ wordsOf ls[i], WOk w := fun w hw => by
      obtain ⟨h1, h2⟩ := words_mem hw
      refine ⟨by simp [SZ]; omega, ?_⟩
      have := hm.2.1
      simp only [asc, List.all_eq_true] at this ⊢
      exact fun c hc => this c (h2 c hc)
    obtain ⟨g1, g2⟩ := f2 i hi
    have wl := words_len ls[i]
    simp [List.getElem_zipIdx, e_words_of (k := k + 4) (x := ls[i]) (by simp [SZ]; omega)]
    unfold lineF at g1 g2
    cases ew : wordsOf ls[i] with
    | nil =>
      rw [ew] at g2
      simp at g2
      simp [g2]
    | cons w ws =>
      rw [ew] at g1 g2 hw wl
      simp only at g1 g2
      have := e_hall_row (k := k) (hd := w) (fun v hv => hw v (List.mem_cons_of_mem _ hv)) (by simp at wl; omega) (ok i (Nat.le_of_lt hi)) (Nat.lt_trans hi hn)
      have lt : (0 : Int) < (ws.length : Int) + 1 := by omega
      simp [lt, this, g1, g2]
  · obtain ⟨a, b, c, ⟨d1, d2⟩, rfl⟩ := he
    simp [f1]
end G
end
section
set_option Elab.async false
set_option linter.all false
set_option maxRecDepth 100000
set_option maxHeartbeats 1000000
namespace G
open PySem PyProof
structure LeOk (h : Hl) : Prop where
  jo : ∀ p ∈ h.le, (p.2.1 = wNone ∨ p.2.1 = wClear ∨ p.2.1 = wBack ∨ p.2.1 = wBoth) ∧ p.2.2.2.length = joinN p.2.1
  fa : ∀ p ∈ h.le, ∀ f ∈ p.2.2.2, isName f = true
  na : ∀ p ∈ h.le, isName p.1 = true
def joinOf (h : Hl) (x : St) : St := ((look h.le x).map fun p => p.1).getD []
def facesL (h : Hl) (x : St) : List St := ((look h.le x).map fun p => p.2.2).getD []
theorem ix_le {h : Hl} {x : St} (hx : has h.le x = true) : ∃ w, look h.le x = some (joinOf h x, w, facesL h x) ∧ ixD (.dic false (h.le.map kLe)) (.str x) = .ok (.tup [.str (joinOf h x), .str w, eSs (facesL h x)]) := by
  have : (look h.le x).isSome = true := by rw [look_isSome]; exact hx
  obtain ⟨p, hp⟩ := Option.isSome_iff_exists.mp this
  refine ⟨p.2.1, ?_, ?_⟩
  · simp [joinOf, facesL, hp]
  · show (R.of (toK false (.str x))).bind (fun k => R.of (getK (h.le.map kLe) k)) = _
    simp [gLe, hp, joinOf, facesL, vLe]
theorem LeOk.at {h : Hl} (ho : LeOk h) {x : St} (hx : has h.le x = true) : (joinOf h x = wNone ∨ joinOf h x = wClear ∨ joinOf h x = wBack ∨ joinOf h x = wBoth) ∧ (facesL h x).length = joinN (joinOf h x) ∧ ∀ f ∈ facesL h x, isName f = true := by
  obtain ⟨w, h1, _⟩ := ix_le hx
  have := look_some h1
  exact ⟨(ho.jo _ this).1, (ho.jo _ this).2, ho.fa _ this⟩
theorem LeOk.asc {h : Hl} (ho : LeOk h) {x : St} (hx : has h.le x = true) : asc (joinOf h x) := by
  rcases (ho.at hx).1 with e | e | e | e <;> (rw [e]; decide)
theorem ev_asg {C : Calls} {T : Tab} {i : Nat} {s : S} {e : IE} {r : ISs} {env : Env} {d : D} (h : evE C T env e = .ok d) : evSs C T (.cons (.asg i s e false) r) env = evSs C T r (env.set i (some d)) := by
  simp [h]
theorem b_intB (b : Bool) : bltD .int [.bl b] = .ok (.int (b.toNat : Nat)) := by cases b <;> rfl
theorem zip_self {α : Type} (f g : α → D) : ∀ l : List α, zipL (l.map f) (l.map g) = l.map fun a => .tup [f a, g a]
  | [] => rfl
  | a :: r => by
    show D.tup [f a, g a] :: zipL (r.map f) (r.map g) = _
    rw [zip_self f g r]
    rfl
end G
end
section
set_option Elab.async false
set_option linter.all false
set_option maxRecDepth 100000
set_option maxHeartbeats 1000000
namespace G
open PySem PyProof
/-! ### the law's own numbers -/
theorem mul_l {a b : Int} (h : -(2 ^ 64) < a) (h' : a < 2 ^ 64) : binD .mul (.int a) (.int b) = .ok (.int (a * b)) := by
  have e : binD .mul (.int a) (.int b) = if (-(2 ^ 64) < a ∧ a < 2 ^ 64) ∨ (-(2 ^ 64) < b ∧ b < 2 ^ 64) then R.ok (D.int (a * b)) else R.bad := rfl
  rw [e, if_pos (.inl ⟨h, h'⟩)]
theorem mul_r {a b : Int} (h : -(2 ^ 64) < b) (h' : b < 2 ^ 64) : binD .mul (.int a) (.int b) = .ok (.int (a * b)) := by
  have e : binD .mul (.int a) (.int b) = if (-(2 ^ 64) < a ∧ a < 2 ^ 64) ∨ (-(2 ^ 64) < b ∧ b < 2 ^ 64) then R.ok (D.int (a * b)) else R.bad := rfl
  rw [e, if_pos (.inr ⟨h, h'⟩)]
theorem fdiv_p {a b : Int} (h : 0 < b) (h' : b < 1073741824) : binD .fdiv (.int a) (.int b) = .ok (.int (a / b)) := by
  have e : binD .fdiv (.int a) (.int b) = if 0 < b ∧ b < 1073741824 then R.ok (D.int (a / b)) else R.bad := rfl
  rw [e, if_pos ⟨h, h'⟩]
theorem mod_p {a b : Int} (h : 0 < b) : binD .mod (.int a) (.int b) = .ok (.int (a % b)) := by
  have e : binD .mod (.int a) (.int b) = if 0 < b then R.ok (D.int (a % b)) else R.bad := rfl
  rw [e, if_pos h]
theorem lt62 {n : Nat} (h : n ≤ 1000) : n < 2 ^ 62 := Nat.lt_of_le_of_lt h (by decide)
def cellF (ns : List Int) (k : Nat) : Int := ns.getD k 0
theorem e_cell_at {n : Nat} {ns : List Int} {k : Nat} : (run prg (n + 1)).p f_law_cell_at [.scr ns, .int k] = .ok (.int (cellF ns k)) := by
  refine run_p (fn := i_law_cell_at) rfl rfl rfl ?_
  have g : (k : Int) < ns.length ↔ k < ns.length := by omega
  by_cases h : k < ns.length
  · have e : ixD (.scr ns) (.int (k : Int)) = .ok (.int ns[k]) := by
      show (R.of (L2.atI ns k)).bind (fun n => R.ok (D.int n)) = _
      rw [atI_nat (List.getElem?_eq_getElem h)]
      rfl
    simp [i_law_cell_at, g, h, e, cellF]
  · simp [i_law_cell_at, g, h, cellF, List.getElem?_eq_none (Nat.le_of_not_lt h)]
def mixF (c k : Int) : Int := (c % 2305843009213693951 + 1) * (k * k + 48271) * 40692 % 2147483399
theorem mix_bd (c k : Int) : 0 ≤ mixF c k ∧ mixF c k < 2147483399 := ⟨Int.emod_nonneg _ (by decide), Int.emod_lt_of_pos _ (by decide)⟩
theorem e_mixed {n : Nat} {c k : Int} (h0 : 0 ≤ k) (h : k < 2147483648) : (run prg (n + 1)).p f_law_mixed [.int c, .int k] = .ok (.int (mixF c k)) := by
  refine run_p (fn := i_law_mixed) rfl rfl rfl ?_
  obtain ⟨a, ha⟩ : ∃ a, a = c % 2305843009213693951 := ⟨_, rfl⟩
  have b1 : 0 ≤ a := by rw [ha]; exact Int.emod_nonneg _ (by decide)
  have b2 : a < 2305843009213693951 := by rw [ha]; exact Int.emod_lt_of_pos _ (by decide)
  have e1 : binD .mod (.int c) (.int 2305843009213693951) = .ok (.int a) := by rw [mod_p (by decide), ha]
  have e2 : binD .mul (.int k) (.int k) = .ok (.int (k * k)) := mul_l (by omega) (by omega)
  have e3 : ∀ z, binD .mul (.int (a + 1)) (.int z) = .ok (.int ((a + 1) * z)) := fun z => mul_l (by omega) (by omega)
  have e4 : ∀ z, binD .mul (.int z) (.int 40692) = .ok (.int (z * 40692)) := fun z => mul_r (by decide) (by decide)
  have e5 : ∀ z, binD .mod (.int z) (.int 2147483399) = .ok (.int (z % 2147483399)) := fun z => mod_p (by decide)
  unfold mixF
  rw [← ha]
  simp only [i_law_mixed, startE_eq, s_cons, s_ret, x_bin, x_v, x_ki, List.map_cons, List.map_nil, List.cons_append, getV_0, getV_s, bind_ok', e1, e2, e3, e4, e5, add_i, to_ok, seqS_rt, wp_end_rt]
/-! ### names -/
abbrev LET : St := [97, 98, 99, 100, 101, 102, 103, 104, 105, 106, 107, 108, 109, 110, 111, 112, 113, 114, 115, 116, 117, 118, 119, 120, 121, 122]
def letC (z : Int) : Nat := 97 + z.toNat
def sgC (z : Int) : Nat := SIGNS.getD z.toNat 0
theorem let_at : ∀ n, n < 26 → LET[n]? = some (97 + n) := by decide
theorem ix_let {z : Int} (h0 : 0 ≤ z) (h : z < 26) : ixD (.str LET) (.int z) = .ok (.str [letC z]) := by
  obtain ⟨n, rfl⟩ := Int.eq_ofNat_of_zero_le h0
  have e : ixD (.str LET) (.int n) = if LET.length ≤ SZ then (R.of (L2.atI LET n)).bind fun c => R.ok (D.str [c]) else R.bad := rfl
  rw [e, if_pos (by decide), atI_nat (let_at n (by omega))]
  rfl
theorem sg_at (n : Nat) (h : n < 36) : SIGNS[n]? = some (SIGNS.getD n 0) := by
  have hl : n < SIGNS.length := h
  rw [List.getD_eq_getElem?_getD, List.getElem?_eq_getElem hl]
  rfl
theorem ix_sg {z : Int} (h0 : 0 ≤ z) (h : z < 36) : ixD (.str SIGNS) (.int z) = .ok (.str [sgC z]) := by
  obtain ⟨n, rfl⟩ := Int.eq_ofNat_of_zero_le h0
  have e : ixD (.str SIGNS) (.int n) = if SIGNS.length ≤ SZ then (R.of (L2.atI SIGNS n)).bind fun c => R.ok (D.str [c]) else R.bad := rfl
  rw [e, if_pos (by decide), atI_nat (sg_at n (by omega))]
  rfl
theorem sgC_mem {z : Int} (h0 : 0 ≤ z) (h : z < 36) : sgC z ∈ SIGNS := by
  have := sg_at z.toNat (by omega)
  exact List.mem_of_getElem? this
theorem let_sg : ∀ n, n < 26 → 97 + n ∈ SIGNS := by decide
theorem letC_mem {z : Int} (h : z < 26) : letC z ∈ SIGNS := let_sg z.toNat (by omega)
structure Names (ns : List St) (m : Nat) : Prop where
  len : ns.length = m
  nd : ns.Nodup
  nm : ∀ x ∈ ns, isName x = true
theorem nodup_map {α β : Type} {f : α → β} : ∀ {l : List α}, l.Nodup → (∀ a ∈ l, ∀ b ∈ l, f a = f b → a = b) → (l.map f).Nodup
  | [], _, _ => List.nodup_nil
  | a :: r, h, hf => by
    rw [List.map_cons, List.nodup_cons]
    rw [List.nodup_cons] at h
    refine ⟨fun q => ?_, nodup_map h.2 fun x hx y hy => hf x (List.mem_cons_of_mem _ hx) y (List.mem_cons_of_mem _ hy)⟩
    obtain ⟨b, hb, e⟩ := List.mem_map.mp q
    have := hf b (List.mem_cons_of_mem _ hb) a List.mem_cons_self e
    exact h.1 (this ▸ hb)
def namesA (x : Nat) (m : Nat) : List St := (List.range m).map fun i => List.replicate (m - i) x
def namesB (F : Int) (stem : St) (p m : Nat) : List St := (List.range m).map fun (i : Nat) => stem.take p ++ [letC ((F + 5 * (i : Int)) % 26)] ++ stem.drop p
theorem namesA_ok {x m : Nat} (hx : x ∈ SIGNS) (hm : m < 13) : Names (namesA x m) m := by
  refine ⟨by simp [namesA], nodup_map List.nodup_range fun i hi j hj e => ?_, fun y hy => ?_⟩
  · have := congrArg List.length e
    simp at this hi hj
    omega
  · obtain ⟨i, hi, rfl⟩ := List.mem_map.mp hy
    simp at hi
    rw [isName_iff]
    simp only [List.length_replicate]
    refine ⟨by omega, by omega, fun c hc => ?_⟩
    rw [List.eq_of_mem_replicate hc]
    exact hx
theorem namesB_ok {F : Int} {stem : St} {p m : Nat} (hs : ∀ c ∈ stem, c ∈ SIGNS) (hl : stem.length ≤ 11) (hm : m ≤ 26) : Names (namesB F stem p m) m := by
  refine ⟨by simp [namesB], nodup_map List.nodup_range fun i hi j hj e => ?_, fun y hy => ?_⟩
  · simp at hi hj
    have e : letC ((F + 5 * (i : Int)) % 26) = letC ((F + 5 * (j : Int)) % 26) := by
      have := List.append_inj_left' e rfl
      have := List.append_inj_right' this rfl
      simpa using this
    unfold letC at e
    omega
  · obtain ⟨i, hi, rfl⟩ := List.mem_map.mp hy
    rw [isName_iff]
    refine ⟨by simp; omega, by simp; omega, fun c hc => ?_⟩
    simp only [List.mem_append, List.mem_singleton] at hc
    rcases hc with (hc | hc) | hc
    · exact hs c (List.mem_of_mem_take hc)
    · rw [hc]
      exact letC_mem (Int.emod_lt_of_pos _ (by decide))
    · exact hs c (List.mem_of_mem_drop hc)
theorem mul_s {x k : Nat} (h : k ≤ 1000) : binD .mul (.str [x]) (.int (k : Int)) = .ok (.str (List.replicate k x)) := by
  have e : binD .mul (.str [x]) (.int (k : Int)) = if -(2 ^ 63) ≤ (k : Int) ∧ (k : Int) < 2 ^ 63 ∧ [x].length * (k : Int).toNat ≤ SZ then R.ok (D.str (repL [x] k)) else R.bad := rfl
  have f : ∀ n : Nat, (List.replicate n [x]).flatten = List.replicate n x := by
    intro n
    induction n with
    | zero => rfl
    | succ n ih => rw [List.replicate_succ, List.flatten_cons, ih, List.replicate_succ]; rfl
  rw [e, if_pos ⟨by omega, by omega, by simp [SZ]; omega⟩]
  simp [repL, f]
theorem add_s {x y : St} (h : x.length + y.length ≤ SZ) : binD .add (.str x) (.str y) = .ok (.str (x ++ y)) := by
  have e : binD .add (.str x) (.str y) = if x.length + y.length ≤ SZ then R.ok (D.str (x ++ y)) else R.bad := rfl
  rw [e, if_pos h]
theorem add_l {x y : List D} (h : x.length + y.length ≤ SZ) : binD .add (.lst x) (.lst y) = .ok (.lst (x ++ y)) := by
  have e : binD .add (.lst x) (.lst y) = if x.length + y.length ≤ SZ then R.ok (D.lst (x ++ y)) else R.bad := rfl
  rw [e, if_pos h]
theorem joinC_one {f : Nat → Nat} : ∀ l : List Nat, joinC [] (l.map fun i => [f i]) = l.map f
  | [] => rfl
  | [a] => rfl
  | a :: b :: r => by
    show [f a] ++ [] ++ joinC [] ((b :: r).map fun i => [f i]) = _
    rw [joinC_one (b :: r)]
    rfl
theorem sls_t {x : St} {p : Nat} (h : x.length ≤ SZ) : slD (.str x) none (some (p : Int)) = .ok (.str (x.take p)) := by
  have e : slD (.str x) none (some (p : Int)) = if x.length ≤ SZ then R.ok (D.str (cut x none (some (p : Int)))) else R.bad := rfl
  rw [e, if_pos h, cut_b]
theorem sls_dr {x : St} {p : Nat} (h : x.length ≤ SZ) : slD (.str x) (some (p : Int)) none = .ok (.str (x.drop p)) := by
  have e : slD (.str x) (some (p : Int)) none = if x.length ≤ SZ then R.ok (D.str (cut x (some (p : Int)) none)) else R.bad := rfl
  rw [e, if_pos h, cut_n]
theorem c_digits : binD .add (.str LET) (.str [48, 49, 50, 51, 52, 53, 54, 55, 56, 57]) = .ok (.str SIGNS) := rfl
theorem sumLen_one {f : Nat → Nat} : ∀ l : List Nat, sumLen (l.map fun i => [f i]) = l.length
  | [] => rfl
  | a :: r => by
    show [f a].length + sumLen (r.map fun i => [f i]) = _
    rw [sumLen_one r]
    simp [Nat.add_comm]
theorem j_one {f : Nat → Nat} (l : List Nat) (h : l.length ≤ SZ) : mthD .join (.str []) [.lst (l.map fun i => D.str [f i])] = .ok (.str (l.map f)) := by
  have e : (l.map fun i => D.str [f i]) = (l.map fun i => [f i]).map .str := by rw [List.map_map]; rfl
  rw [e, join_ok (by rw [sumLen_one]; simpa using h), joinC_one]
end G
end
section
set_option Elab.async false
set_option linter.all false
set_option maxRecDepth 100000
set_option maxHeartbeats 1000000
namespace G
open PySem PyProof
theorem e_names_A {k m : Nat} {c : Int} (hb : c % 4 = 0) (hm : m < 13) : (run prg (k + 1)).p f_law_names_by [.int c, .int m] = .ok (.lst ((namesA (letC (c / 4 % 26)) m).map .str)) := by
  refine run_p (fn := i_law_names_by) rfl rfl rfl ?_
  obtain ⟨a, ha⟩ : ∃ a, a = c / 4 := ⟨_, rfl⟩
  obtain ⟨F, hF⟩ : ∃ F, F = a % 26 := ⟨_, rfl⟩
  have b1 : 0 ≤ F := by rw [hF]; exact Int.emod_nonneg _ (by decide)
  have b2 : F < 26 := by rw [hF]; exact Int.emod_lt_of_pos _ (by decide)
  have e1 : binD .fdiv (.int c) (.int 4) = .ok (.int a) := by rw [fdiv_p (by decide) (by decide), ha]
  have e2 : binD .mod (.int a) (.int 26) = .ok (.int F) := by rw [mod_p (by decide), hF]
  have e3 : binD .mod (.int c) (.int 4) = .ok (.int 0) := by rw [mod_p (by decide), hb]
  rw [← ha, ← hF]
  clear ha hF hb
  have g : (m : Int) < 13 := by omega
  have r1 := rng1_n m (lt62 (by omega))
  have c1 : compR (turn (run prg k) prg.tab [some (.int c), some (.int m), some (.str LET), some (.int F), none, none, none, none] (.bin .mul (.ix (.v 2) (.v 3)) (.bin .sub (.v 1) (.v 7))) false [7] .none) ((List.range m).map fun (i : Nat) => .int (i : Int)) = .ok ((namesA (letC F) m).map .str) := by
    unfold namesA
    rw [List.map_map]
    refine comp_map fun i hi => ?_
    have hi : i < m := by simpa using hi
    have e4 : (m : Int) - (i : Int) = ((m - i : Nat) : Int) := by omega
    have e5 := mul_s (x := letC F) (k := m - i) (by omega)
    have f1 : evE (run prg k) prg.tab [some (.int c), some (.int m), some (.str LET), some (.int F), none, none, none, some (.int i)] (.ix (.v 2) (.v 3)) = .ok (.str [letC F]) := by
      simp only [x_ix, x_v, getV_0, getV_s, bind_ok', ix_let b1 b2]
    have f2 : evE (run prg k) prg.tab [some (.int c), some (.int m), some (.str LET), some (.int F), none, none, none, some (.int i)] (.bin .sub (.v 1) (.v 7)) = .ok (.int ((m - i : Nat) : Int)) := by
      simp only [x_bin, x_v, getV_0, getV_s, bind_ok', sub_i, e4]
    simp only [turn_f, x_cn, bind_ok', if_true, List.set_cons_succ, List.set_cons_zero]
    rw [x_bin, f1, bind_ok', f2, bind_ok', e5, bind_ok']
    simp only [noex_ok, Function.comp]
  have hm2 : m ≤ SZ := by simp [SZ]; omega
  have hc : evE (run prg k) prg.tab [some (.int c), some (.int m), some (.str LET), some (.int F), none, none, none, none] (.and (.cmp .eq (.bin .mod (.v 0) (.ki 4)) (.ki 0)) (.cmp .lt (.v 1) (.ki 13))) = .ok (.bl true) := by
    simp [e3, g]
  have rl : ((List.range m).map fun (i : Nat) => D.int (i : Int)).length = m := by simp
  simp only [i_law_names_by, startE_eq, List.map_cons, List.map_nil, List.length_cons, List.length_nil, List.cons_append, List.nil_append]
  rw [show List.replicate (8 - (0 + 1 + 1)) (none : Option D) = [none, none, none, none, none, none] from rfl]
  rw [ev_asg (d := .str LET) rfl]
  simp only [List.set_cons_succ, List.set_cons_zero]
  rw [ev_asg (d := .int F) (by simp [e1, e2])]
  simp only [List.set_cons_succ, List.set_cons_zero]
  rw [s_cons, s_ife, hc]
  have f3 : evE (run prg k) prg.tab [some (.int c), some (.int m), some (.str LET), some (.int F), none, none, none, none] (.comp (.bin .mul (.ix (.v 2) (.v 3)) (.bin .sub (.v 1) (.v 7))) false [7] (.rng1 (.v 1)) .none) = .ok (.lst ((namesA (letC F) m).map .str)) := by
    simp only [x_comp, x_r1, x_v, getV_0, getV_s, bind_ok', r1, c1, rl, hm2, if_true]
  rw [to_ok, iteS_b, if_pos rfl, s_cons, s_ret, f3, to_ok, seqS_rt, seqS_rt, wp_end_rt]
theorem e_names_B {k m : Nat} {c : Int} (hb : ¬ (c % 4 = 0 ∧ m < 13)) (hm : m ≤ 26) : ∃ F stem p, (run prg (k + 1)).p f_law_names_by [.int c, .int m] = .ok (.lst ((namesB F stem p m).map .str)) ∧ (∀ x ∈ stem, x ∈ SIGNS) ∧ stem.length ≤ 11 := by
  obtain ⟨a, ha⟩ : ∃ a, a = c / 4 := ⟨_, rfl⟩
  obtain ⟨F, hF⟩ : ∃ F, F = a % 26 := ⟨_, rfl⟩
  obtain ⟨r, hr⟩ : ∃ r, r = c % 4 := ⟨_, rfl⟩
  obtain ⟨q1, h1⟩ : ∃ q, q = c / 104 := ⟨_, rfl⟩
  obtain ⟨q2, h2⟩ : ∃ q, q = c / 1248 := ⟨_, rfl⟩
  obtain ⟨q3, h3⟩ : ∃ q, q = c / 16224 := ⟨_, rfl⟩
  obtain ⟨s, hs⟩ : ∃ s : Nat, q1 % 12 = (s : Int) := Int.eq_ofNat_of_zero_le (Int.emod_nonneg _ (by decide))
  have hs' : s < 12 := by have := Int.emod_lt_of_pos q1 (b := 12) (by decide); omega
  obtain ⟨p, hp⟩ : ∃ p : Nat, q2 % ((s : Int) + 1) = (p : Int) := Int.eq_ofNat_of_zero_le (Int.emod_nonneg _ (by omega))
  have e1 : binD .fdiv (.int c) (.int 4) = .ok (.int a) := by rw [fdiv_p (by decide) (by decide), ha]
  have e2 : binD .mod (.int a) (.int 26) = .ok (.int F) := by rw [mod_p (by decide), hF]
  have e3 : binD .mod (.int c) (.int 4) = .ok (.int r) := by rw [mod_p (by decide), hr]
  have e4 : binD .fdiv (.int c) (.int 104) = .ok (.int q1) := by rw [fdiv_p (by decide) (by decide), h1]
  have e5 : binD .fdiv (.int c) (.int 1248) = .ok (.int q2) := by rw [fdiv_p (by decide) (by decide), h2]
  have e6 : binD .fdiv (.int c) (.int 16224) = .ok (.int q3) := by rw [fdiv_p (by decide) (by decide), h3]
  have e7 : binD .mod (.int q1) (.int 12) = .ok (.int (s : Int)) := by rw [mod_p (by decide), hs]
  have e8 : binD .mod (.int q2) (.int ((s : Int) + 1)) = .ok (.int (p : Int)) := by rw [mod_p (by omega), hp]
  have e9 : ∀ i : Int, binD .mul (.int 7) (.int i) = .ok (.int (7 * i)) := fun i => mul_l (by decide) (by decide)
  have e10 : ∀ i : Int, binD .mul (.int 5) (.int i) = .ok (.int (5 * i)) := fun i => mul_l (by decide) (by decide)
  have e11 : ∀ z : Int, binD .mod (.int z) (.int 26) = .ok (.int (z % 26)) := fun z => mod_p (by decide)
  have e12 : ∀ z : Int, binD .mod (.int z) (.int 36) = .ok (.int (z % 36)) := fun z => mod_p (by decide)
  have hb : ¬ (r = 0 ∧ m < 13) := by rw [hr]; exact hb
  clear ha hF hr h1 h2 h3 hs hp
  obtain ⟨g, hg⟩ : ∃ g : Nat → Nat, ∀ i : Nat, g i = sgC ((q3 + 7 * (i : Int)) % 36) := ⟨_, fun _ => rfl⟩
  obtain ⟨stem, hst⟩ : ∃ stem, stem = (List.range s).map g := ⟨_, rfl⟩
  have hl : stem.length ≤ 11 := by rw [hst]; simp; omega
  have hz : stem.length ≤ SZ := by simp [SZ]; omega
  refine ⟨F, stem, p, run_p (fn := i_law_names_by) rfl rfl rfl ?_, ?_, hl⟩
  · have r1 := rng1_n m (lt62 (by omega))
    have r2 := rng1_n s (lt62 (by omega))
    have c1 : compR (turn (run prg k) prg.tab [some (.int c), some (.int m), some (.str LET), some (.int F), some (.int s), some (.int p), none, none] (.ix (.bin .add (.v 2) (.ks [48, 49, 50, 51, 52, 53, 54, 55, 56, 57])) (.bin .mod (.bin .add (.bin .fdiv (.v 0) (.ki 16224)) (.bin .mul (.ki 7) (.v 7))) (.ki 36))) false [7] .none) ((List.range s).map fun (i : Nat) => .int (i : Int)) = .ok ((List.range s).map fun i => D.str [g i]) := by
      refine comp_map fun i hi => ?_
      have n1 : 0 ≤ (q3 + 7 * (i : Int)) % 36 := Int.emod_nonneg _ (by decide)
      have n2 : (q3 + 7 * (i : Int)) % 36 < 36 := Int.emod_lt_of_pos _ (by decide)
      simp only [turn_f, x_cn, x_bin, x_ix, x_v, x_ki, x_ks, List.set_cons_succ, List.set_cons_zero, getV_0, getV_s, bind_ok', c_digits, e6, e9, add_i, e12, ix_sg n1 n2, if_true, noex_ok, hg]
    have hs2 : s ≤ SZ := by simp [SZ]; omega
    have c2 := j_one (f := g) (List.range s) (by simpa using hs2)
    rw [← hst] at c2
    have c3 : compR (turn (run prg k) prg.tab [some (.int c), some (.int m), some (.str LET), some (.int F), some (.int s), some (.int p), some (.str stem), none] (.bin .add (.bin .add (.sl (.v 6) .none (.some (.v 5))) (.ix (.v 2) (.bin .mod (.bin .add (.v 3) (.bin .mul (.ki 5) (.v 7))) (.ki 26)))) (.sl (.v 6) (.some (.v 5)) .none)) false [7] .none) ((List.range m).map fun (i : Nat) => .int (i : Int)) = .ok ((namesB F stem p m).map .str) := by
      unfold namesB
      rw [List.map_map]
      refine comp_map fun i hi => ?_
      have n1 : 0 ≤ (F + 5 * (i : Int)) % 26 := Int.emod_nonneg _ (by decide)
      have n2 : (F + 5 * (i : Int)) % 26 < 26 := Int.emod_lt_of_pos _ (by decide)
      have n3 : (stem.take p).length + [letC ((F + 5 * (i : Int)) % 26)].length ≤ SZ := by simp [SZ]; omega
      have n4 : (stem.take p ++ [letC ((F + 5 * (i : Int)) % 26)]).length + (stem.drop p).length ≤ SZ := by simp [SZ]; omega
      simp only [turn_f, x_cn, x_bin, x_ix, x_sl, x_on, x_os, x_v, x_ki, optD_i, List.set_cons_succ, List.set_cons_zero, getV_0, getV_s, bind_ok', sls_t hz, sls_dr hz, e10, e11, add_i, ix_let n1 n2, add_s n3, add_s n4, if_true, noex_ok, Function.comp]
    have hm2 : m ≤ SZ := by simp [SZ]; omega
    have hc : evE (run prg k) prg.tab [some (.int c), some (.int m), some (.str LET), some (.int F), none, none, none, none] (.and (.cmp .eq (.bin .mod (.v 0) (.ki 4)) (.ki 0)) (.cmp .lt (.v 1) (.ki 13))) = .ok (.bl false) := by
      by_cases hr : r = 0
      · have : ¬ (m : Int) < 13 := fun q => hb ⟨hr, by omega⟩
        simp [e3, hr, this]
      · simp [e3, hr]
    have rl : ((List.range m).map fun (i : Nat) => D.int (i : Int)).length = m := by simp
    have rs : ((List.range s).map fun (i : Nat) => D.int (i : Int)).length = s := by simp
    simp only [i_law_names_by, startE_eq, List.map_cons, List.map_nil, List.length_cons, List.length_nil, List.cons_append, List.nil_append]
    rw [show List.replicate (8 - (0 + 1 + 1)) (none : Option D) = [none, none, none, none, none, none] from rfl]
    rw [ev_asg (d := .str LET) rfl]
    simp only [List.set_cons_succ, List.set_cons_zero]
    rw [ev_asg (d := .int F) (by simp [e1, e2])]
    simp only [List.set_cons_succ, List.set_cons_zero]
    rw [s_cons, s_ife, hc]
    simp only [to_ok, iteS_b, Bool.false_eq_true, if_false, s_nil, seqS_nx]
    rw [ev_asg (d := .int s) (by simp [e4, e7])]
    simp only [List.set_cons_succ, List.set_cons_zero]
    rw [ev_asg (d := .int p) (by simp [e5, e8])]
    simp only [List.set_cons_succ, List.set_cons_zero]
    rw [ev_asg (d := .str stem) (by simp only [x_mth, x_ks, x_cons, x_nil, x_comp, x_r1, x_v, getV_0, getV_s, bind_ok', r2, c1, rs, hs2, if_true, noex_ok, c2])]
    simp only [List.set_cons_succ, List.set_cons_zero]
    simp only [s_cons, s_ret, s_nil, x_comp, x_r1, x_v, getV_0, getV_s, bind_ok', r1, c3, rl, hm2, if_true, to_ok, seqS_rt, wp_end_rt]
  · intro x hx
    rw [hst] at hx
    obtain ⟨i, hi, rfl⟩ := List.mem_map.mp hx
    rw [hg]
    exact sgC_mem (Int.emod_nonneg _ (by decide)) (Int.emod_lt_of_pos _ (by decide))
theorem e_names_by {k m : Nat} {c : Int} (hm : m ≤ 26) : ∃ ns, (run prg (k + 1)).p f_law_names_by [.int c, .int m] = .ok (.lst (ns.map .str)) ∧ Names ns m := by
  by_cases hb : c % 4 = 0 ∧ m < 13
  · exact ⟨_, e_names_A hb.1 hb.2, namesA_ok (letC_mem (Int.emod_lt_of_pos _ (by decide))) hb.2⟩
  · obtain ⟨F, stem, p, e, h1, h2⟩ := e_names_B hb hm
    exact ⟨_, e, namesB_ok h1 h2 hm⟩
end G
end
section
set_option Elab.async false
set_option linter.all false
set_option maxRecDepth 100000
set_option maxHeartbeats 1000000
namespace G
open PySem PyProof
/-! ### letters by the script -/
abbrev Lt := St × St × St × List St
def eL (l : Lt) : D := .tup [.str l.1, .str l.2.1, .str l.2.2.1, eSs l.2.2.2]
structure LtOk (l : Lt) : Prop where
  jo : l.2.1 = wNone ∨ l.2.1 = wClear ∨ l.2.1 = wBack ∨ l.2.1 = wBoth
  wy : l.2.2.1 = wLeft ∨ l.2.2.1 = wRight ∨ l.2.2.1 = wEither
  fl : l.2.2.2.length = joinN l.2.1
def faL (L : List Lt) : List St := L.flatMap fun l => l.2.2.2
theorem joinN_le {j : St} : joinN j ≤ 4 := by
  unfold joinN
  (repeat' split) <;> omega
theorem ix_c {α : Type} {enc : α → D} {xs : List α} {z : Int} {P : α → Prop} (hp : ∀ a ∈ xs, P a) (h0 : 0 ≤ z) (h : z < xs.length) : ∃ a, ixD (.lst (xs.map enc)) (.int z) = .ok (enc a) ∧ P a := ⟨_, ix_mapI h0 h, hp _ (List.getElem_mem _)⟩
theorem wy_ix {z : Int} (h0 : 0 ≤ z) (h : z < 3) : ∃ j, ixD (.lst [.str wLeft, .str wRight, .str wEither]) (.int z) = .ok (.str j) ∧ (j = wLeft ∨ j = wRight ∨ j = wEither) :=
  ix_c (enc := D.str) (xs := [wLeft, wRight, wEither]) (by decide) h0 h
theorem jn_ix {j : St} (h : j = wNone ∨ j = wClear ∨ j = wBack ∨ j = wBoth) : ixD (.dic false [(.s wBoth, .int 4), (.s wBack, .int 2), (.s wNone, .int 1), (.s wClear, .int 1)]) (.str j) = .ok (.int (joinN j : Nat)) := by
  rcases h with rfl | rfl | rfl | rfl <;> rfl
theorem e_jdic {C : Calls} {T : Tab} {env : Env} : evE C T env (.dic (.cons (.ks [98, 111, 116, 104]) (.ki 4) (.cons (.ks [98, 97, 99, 107]) (.ki 2) (.cons (.ks [110, 111, 110, 101]) (.ki 1) (.cons (.ks [99, 108, 101, 97, 114]) (.ki 1) .nil))))) = .ok (.dic false [(.s wBoth, .int 4), (.s wBack, .int 2), (.s wNone, .int 1), (.s wClear, .int 1)]) := rfl
end G
end
section
set_option Elab.async false
set_option linter.all false
set_option maxRecDepth 100000
set_option maxHeartbeats 1000000
namespace G
open PySem PyProof
/-! ### rows as words -/
def ltRow (l : Lt) : List St := wLetter :: l.1 :: l.2.1 :: l.2.2.1 :: l.2.2.2
def RowOk (r : List St) : Prop := r ≠ [] ∧ r.length ≤ 24 ∧ ∀ w ∈ r, w ≠ [] ∧ w.length ≤ 13 ∧ ∀ c ∈ w, 33 ≤ c ∧ c < 128
theorem join_bd {r : List St} (h : RowOk r) : (joinC [32] r).length ≤ 336 ∧ sumLen r + [32].length * r.length ≤ 336 := by
  have h1 := joinC_len (y := [32]) r
  have h2 := sumLen_le (m := 13) fun x hx => (h.2.2 x hx).2.1
  have h3 := h.2.1
  simp at h1 ⊢
  omega
theorem mem_joinC {c : Nat} {y : St} : ∀ {xs : List St}, c ∈ joinC y xs → c ∈ y ∨ ∃ x ∈ xs, c ∈ x
  | [], h => by simp [joinC] at h
  | [x], h => .inr ⟨x, List.mem_cons_self, h⟩
  | x :: z :: r, h => by
    have h : c ∈ x ++ y ++ joinC y (z :: r) := h
    rcases List.mem_append.mp h with h | h
    · rcases List.mem_append.mp h with h | h
      · exact .inr ⟨x, List.mem_cons_self, h⟩
      · exact .inl h
    · rcases mem_joinC h with h | ⟨u, hu, h⟩
      · exact .inl h
      · exact .inr ⟨u, List.mem_cons_of_mem _ hu, h⟩
theorem row_line {r : List St} (h : RowOk r) : 10 ∉ joinC [32] r ∧ asc (joinC [32] r) := by
  refine ⟨fun q => ?_, ?_⟩
  · rcases mem_joinC q with q | ⟨x, hx, q⟩
    · simp at q
    · have := (h.2.2 x hx).2.2 10 q
      omega
  · show ((joinC [32] r).all fun c => decide (c < 128)) = true
    rw [List.all_eq_true]
    intro c q
    rcases mem_joinC q with q | ⟨x, hx, q⟩
    · simp at q
      simp [q]
    · have := (h.2.2 x hx).2.2 c q
      simp
      omega
theorem row_words {r : List St} (h : RowOk r) : wordsOf (joinC [32] r) = r := by
  unfold wordsOf
  rw [splC_join h.1 fun x hx q => ?_]
  · rw [List.filter_eq_self]
    intro x hx
    simpa using (h.2.2 x hx).1
  · have := (h.2.2 x hx).2.2 32 q
    omega
theorem sg_bd : ∀ c ∈ SIGNS, 33 ≤ c ∧ c < 128 := by decide
theorem name_w {x : St} (h : isName x = true) : x ≠ [] ∧ x.length ≤ 13 ∧ ∀ c ∈ x, 33 ≤ c ∧ c < 128 := by
  obtain ⟨h1, h2, h3⟩ := isName_iff.mp h
  refine ⟨fun q => by subst q; simp at h1, by omega, fun c hc => sg_bd c (h3 c hc)⟩
theorem join_w {j : St} (h : j = wNone ∨ j = wClear ∨ j = wBack ∨ j = wBoth) : j ≠ [] ∧ j.length ≤ 13 ∧ ∀ c ∈ j, 33 ≤ c ∧ c < 128 := by
  rcases h with rfl | rfl | rfl | rfl <;> exact ⟨by decide, by decide, by decide⟩
theorem way_w {j : St} (h : j = wLeft ∨ j = wRight ∨ j = wEither) : j ≠ [] ∧ j.length ≤ 13 ∧ ∀ c ∈ j, 33 ≤ c ∧ c < 128 := by
  rcases h with rfl | rfl | rfl <;> exact ⟨by decide, by decide, by decide⟩
theorem ltRow_ok {l : Lt} (h : isName l.1 = true) (ho : LtOk l) (hf : ∀ f ∈ l.2.2.2, isName f = true) : RowOk (ltRow l) := by
  refine ⟨by simp [ltRow], ?_, fun w hw => ?_⟩
  · have := joinN_le (j := l.2.1)
    simp [ltRow, ho.fl]
    omega
  · simp only [ltRow, List.mem_cons] at hw
    rcases hw with rfl | rfl | rfl | rfl | hw
    · exact ⟨by decide, by decide, by decide⟩
    · exact name_w h
    · exact join_w ho.jo
    · exact way_w ho.wy
    · exact name_w (hf _ hw)
theorem line_row {h : Hl} {w : St} {ws : List St} (hr : RowOk (w :: ws)) : lineF h (joinC [32] (w :: ws)) = rowF h w ws := by
  unfold lineF
  rw [row_words hr]
theorem has_false {α β : Type} [DecidableEq α] {l : List (α × β)} {x : α} (h : x ∉ l.map Prod.fst) : has l x = false := by
  rw [Bool.eq_false_iff]
  exact fun q => h (has_iff.mp q)
theorem readF_c {h h' : Hl} {l : St} {r : List St} (e : lineF h l = ([], h')) : readF h (l :: r) = readF h' r := by
  show (if (lineF h l).1 = [] then readF (lineF h l).2 r else none) = _
  rw [e]
  rfl
theorem read_lt : ∀ {L : List Lt} {h : Hl}, (h.le.map Prod.fst ++ L.map Prod.fst).Nodup → (∀ l ∈ L, isName l.1 = true ∧ LtOk l ∧ ∀ f ∈ l.2.2.2, isName f = true ∧ has h.sh f = true) → h.le.length + L.length ≤ 24 → readF h ((L.map ltRow).map (joinC [32])) = some { h with le := h.le ++ L }
  | [], h, _, _, _ => by simp [readF]
  | l :: r, h, h1, h2, h3 => by
    obtain ⟨nm, ok, fa⟩ := h2 l List.mem_cons_self
    have ni : l.1 ∉ h.le.map Prod.fst := fun q => by
      rw [List.nodup_append] at h1
      exact h1.2.2 _ q _ List.mem_cons_self rfl
    have hl : ¬ 24 ≤ h.le.length := by simp at h3; omega
    have e : lineF h (joinC [32] (ltRow l)) = ([], { h with le := h.le ++ [l] }) := by
      have ro := ltRow_ok nm ok fun f hf => (fa f hf).1
      obtain ⟨a, j, w, fs⟩ := l
      have fl := ok.fl
      have wy : wayB w = true := by rcases ok.wy with q | q | q <;> (simp only at q; rw [q]; decide)
      simp only at fl
      cases fs with
      | nil =>
        simp at fl
        rcases ok.jo with q | q | q | q <;> (simp only at q; rw [q] at fl; exact absurd fl (by decide))
      | cons x fs =>
        have := line_row (h := h) ro
        rw [show joinC [32] (ltRow (a, j, w, x :: fs)) = joinC [32] (wLetter :: a :: j :: w :: x :: fs) from rfl, this]
        unfold rowF
        rw [if_neg (by decide), if_neg (by decide), if_neg (by decide), if_pos rfl]
        unfold letterF
        have an : allNames (x :: fs) = true := by
          unfold allNames
          rw [List.all_eq_true]
          exact fun f hf => (fa f hf).1
        have lk : ((x :: fs).any fun f => !has h.sh f) = false := by
          rw [List.any_eq_false]
          intro f hf
          rw [(fa f hf).2]
          decide
        have fl' : fs.length + 1 = joinN j := fl
        simp only [nm, wy, fl', an, decide_true, Bool.and_self, if_true, has_false ni, lk, hl, decide_false]
        rfl
    have ih := read_lt (L := r) (h := { h with le := h.le ++ [l] }) (by simpa using h1) (fun q hq => h2 q (List.mem_cons_of_mem _ hq)) (by simp at h3 ⊢; omega)
    rw [List.map_cons, List.map_cons, readF_c e, ih]
    simp
end G
end
section
set_option Elab.async false
set_option linter.all false
set_option maxRecDepth 100000
set_option maxHeartbeats 1000000
namespace G
open PySem PyProof
/-! ### numbers as words, and back -/
theorem fig_figs (n : Nat) : isFigs (figL n) = true := by
  rw [isFigs_iff]
  intro c hc
  have := TL.numL_digits n c hc
  simp [FIGS]
  omega
theorem fig_ne (n : Nat) : figL n ≠ [] := TL.numL_ne n
theorem fig_len {n : Nat} (h : n < 100000) : (figL n).length ≤ 5 := TL.numL_len (k := 5) (by decide) h
theorem fig_head : ∀ (m n : Nat), n ≤ m → (figL n).head? = some 48 → figL n = [48] := by
  intro m
  induction m with
  | zero =>
    intro n hn h
    have : n = 0 := by omega
    subst this
    exact TL.numL_lt (by decide)
  | succ m ih =>
    intro n hn h
    by_cases h10 : n < 10
    · have e : figL n = [48 + n] := TL.numL_lt h10
      rw [e] at h ⊢
      simp at h
      rw [h]
    · have e : figL n = figL (n / 10) ++ [48 + n % 10] := TL.numL_step (by omega)
      have ne := fig_ne (n / 10)
      have hh : (figL (n / 10)).head? = some 48 := by
        rw [e] at h
        cases q : figL (n / 10) with
        | nil => exact absurd q ne
        | cons a r =>
          rw [q] at h
          exact h
      have g := ih (n / 10) (by omega) hh
      have v : NumText.digitsVal (figL (n / 10)) = n / 10 := TL.numL_val (n / 10)
      have v0 : NumText.digitsVal (figL 0) = 0 := TL.numL_val 0
      have e0 : figL 0 = [48] := TL.numL_lt (by decide)
      rw [g, ← e0, v0] at v
      omega
theorem num_fig {n : Nat} (h : n < 100000) : numOf (figL n) = some (n : Int) := by
  unfold numOf
  have v : NumText.digitsVal (figL n) = n := TL.numL_val n
  rw [if_pos ⟨List.length_pos_iff.mpr (fig_ne n), fig_len h, fig_figs n, fig_head n n (Nat.le_refl _)⟩, v]
theorem intL_nn {i : Int} (h : 0 ≤ i) : intL i = figL i.natAbs := by
  unfold intL
  rw [if_neg (by omega)]
theorem num_int {i : Int} (h : 0 ≤ i) (h' : i < 100000) : numOf (intL i) = some i := by
  rw [intL_nn h, num_fig (by omega)]
  congr 1
  omega
theorem sgn_int {i : Int} (h : -100000 < i) (h' : i < 100000) : sgnOf (intL i) = some i := by
  unfold sgnOf
  by_cases hi : i < 0
  · have e : intL i = 45 :: figL i.natAbs := by
      unfold intL
      rw [if_pos hi]
    rw [e, if_pos (show (45 :: figL i.natAbs).head? = some 45 from rfl)]
    show (match numOf (figL i.natAbs) with
      | some n => if n = 0 then none else some (-n)
      | none => none) = _
    rw [num_fig (by omega)]
    show (if ((i.natAbs : Nat) : Int) = 0 then none else some (-((i.natAbs : Nat) : Int))) = _
    rw [if_neg (by omega)]
    congr 1
    omega
  · have e := intL_nn (i := i) (by omega)
    rw [if_neg, num_int (by omega) h']
    intro q
    rw [e] at q
    have : 45 ∈ figL i.natAbs := List.mem_of_mem_head? q
    have := TL.numL_digits i.natAbs 45 this
    omega
theorem int_w {i : Int} (h : -100000 < i) (h' : i < 100000) : intL i ≠ [] ∧ (intL i).length ≤ 6 ∧ ∀ c ∈ intL i, 33 ≤ c ∧ c < 128 := by
  have l := fig_len (n := i.natAbs) (by omega)
  have d := TL.numL_digits i.natAbs
  unfold intL
  split
  · refine ⟨by simp, by simp; omega, fun c hc => ?_⟩
    rcases List.mem_cons.mp hc with rfl | hc
    · decide
    · have := d c hc
      omega
  · refine ⟨fig_ne _, by omega, fun c hc => ?_⟩
    have := d c hc
    omega
theorem big100 : 100000 < 10 ^ 100 := by decide
theorem str_i {i : Int} (h : -100000 < i) (h' : i < 100000) : bltD .str [.int i] = .ok (.str (intL i)) := by
  have e : bltD .str [.int i] = if i.natAbs < 10 ^ 100 then R.ok (D.str (intL i)) else R.bad := rfl
  rw [e, if_pos (Nat.lt_trans (by omega : i.natAbs < 100000) big100)]
end G
end
section
set_option Elab.async false
set_option linter.all false
set_option maxRecDepth 100000
set_option maxHeartbeats 1000000
namespace G
open PySem PyProof
/-! ### a hall by the script: shapes, marks, points -/
theorem fdv (a : Int) {b : Int} (h : 0 < b) (h' : b < 1073741824) : ∃ z, binD .fdiv (.int a) (.int b) = .ok (.int z) ∧ (0 ≤ a → 0 ≤ z) := ⟨_, fdiv_p h h', fun q => Int.ediv_nonneg q (by omega)⟩
theorem mdv (a : Int) {b : Int} (h : 0 < b) : ∃ z, binD .mod (.int a) (.int b) = .ok (.int z) ∧ 0 ≤ z ∧ z < b := ⟨_, mod_p h, Int.emod_nonneg _ (by omega), Int.emod_lt_of_pos _ h⟩
theorem mdn (a : Int) {b : Nat} (h : 0 < b) : ∃ z : Nat, binD .mod (.int a) (.int b) = .ok (.int (z : Int)) ∧ z < b := by
  obtain ⟨z, h1, h2, h3⟩ := mdv a (b := (b : Int)) (by omega)
  obtain ⟨n, rfl⟩ := Int.eq_ofNat_of_zero_le h2
  exact ⟨n, h1, by omega⟩
theorem mxv (n : Nat) (c k : Int) (h0 : 0 ≤ k) (h : k < 2147483648) : ∃ z, (run prg (n + 1)).p f_law_mixed [.int c, .int k] = .ok (.int z) ∧ 0 ≤ z ∧ z < 2147483399 := ⟨_, e_mixed h0 h, mix_bd c k⟩
theorem comp_some {α β : Type} {F : D → R (Option D)} {enc : α → D} {e2 : β → D} {P : α → β → Prop} {xs : List α} (H : ∀ a ∈ xs, ∃ b, F (enc a) = .ok (some (e2 b)) ∧ P a b) : ∃ bs : List β, compR F (xs.map enc) = .ok (bs.map e2) ∧ bs.length = xs.length ∧ (∀ b ∈ bs, ∃ a ∈ xs, P a b) := by
  induction xs with
  | nil => exact ⟨[], rfl, rfl, fun b h => by cases h⟩
  | cons a r ih =>
    obtain ⟨b, h1, h2⟩ := H a List.mem_cons_self
    obtain ⟨bs, h3, h4, h5⟩ := ih fun x hx => H x (List.mem_cons_of_mem _ hx)
    refine ⟨b :: bs, ?_, by simp [h4], fun x hx => ?_⟩
    · rw [List.map_cons, List.map_cons]
      show (F (enc a)).bind _ = _
      rw [h1, bind_ok, h3]
      rfl
    · rcases List.mem_cons.mp hx with rfl | hx
      · exact ⟨a, List.mem_cons_self, h2⟩
      · obtain ⟨y, h6, h7⟩ := h5 x hx
        exact ⟨y, List.mem_cons_of_mem _ h6, h7⟩
structure SpOk (p : Int × Int) : Prop where
  a1 : -20 ≤ p.1
  a2 : p.1 ≤ 20
  b1 : -99999 < p.2
  b2 : p.2 < 99999
def eShT (p : St × Int) : D := .tup [.str p.1, .int p.2]
theorem neg_i {C : Calls} {T : Tab} {env : Env} {a : IE} {i : Int} (h : evE C T env a = .ok (.int i)) : evE C T env (.neg a) = .ok (.int (-i)) := by
  rw [x_neg, h]
  rfl
theorem e_spot_by {k : Nat} {m : Int} : ∃ p, (run prg (k + 1)).p f_law_spot_by [.int m] = .ok (eP p) ∧ SpOk p := by
  obtain ⟨a, ha, a0, a1⟩ := mdv m (b := 41) (by decide)
  obtain ⟨u, hu, _⟩ := fdv m (b := 41) (by decide) (by decide)
  obtain ⟨v, hv, _⟩ := fdv m (b := 7) (by decide) (by decide)
  obtain ⟨b, hb, b0, b1⟩ := mdv u (b := 99999) (by decide)
  obtain ⟨i, hi, i0, i1⟩ := mdv v (b := 3) (by decide)
  obtain ⟨x, hx, x0, x1⟩ := ix_c (enc := D.int) (xs := [0, b, -b]) (z := i) (P := fun x => -99999 < x ∧ x < 99999) (by simp; omega) i0 (by simpa using i1)
  refine ⟨(a - 20, x), run_p (fn := i_law_spot_by) rfl rfl rfl ?_, ⟨by show -20 ≤ a - 20; omega, by show a - 20 ≤ 20; omega, x0, x1⟩⟩
  simp only [List.map_cons, List.map_nil] at hx
  simp [i_law_spot_by, ha, hu, hv, hb, hi, hx, eP]
structure ShOk (sh : List (St × Int)) : Prop where
  nm : Names (sh.map Prod.fst) sh.length
  l4 : 4 ≤ sh.length
  l16 : sh.length ≤ 16
  wd : ∀ p ∈ sh, 0 ≤ p.2 ∧ p.2 < 99999
theorem e_shapes_by {k : Nat} {c : Int} : ∃ sh, (run prg (k + 2)).p f_law_shapes_by [.int c] = .ok (.lst (sh.map eShT)) ∧ ShOk sh := by
  suffices ∃ d, (run prg (k + 2)).p f_law_shapes_by [.int c] = .ok d ∧ ∃ sh : List (St × Int), d = .lst (sh.map eShT) ∧ ShOk sh by
    obtain ⟨d, h1, sh, rfl, h2⟩ := this
    exact ⟨sh, h1, h2⟩
  refine run_px (fn := i_law_shapes_by) rfl rfl rfl ?_
  obtain ⟨m, hm, _⟩ := mxv k c 1 (by decide) (by decide)
  obtain ⟨u, hu, _⟩ := fdv m (b := 13) (by decide) (by decide)
  obtain ⟨t, ht, ht'⟩ := mdn m (b := 13) (by decide)
  have ht : binD .mod (.int m) (.int 13) = .ok (.int (t : Int)) := ht
  obtain ⟨ns, n1, hn⟩ := e_names_by (k := k) (c := u) (m := 4 + t) (by omega)
  have c1 : ((4 + t : Nat) : Int) = 4 + (t : Int) := by omega
  rw [c1] at n1
  have nl := hn.len
  have rn : rng1D (.int (ns.length : Nat)) = .ok ((List.range ns.length).map fun (i : Nat) => .int (i : Int)) := rng1_n _ (lt62 (by omega))
  clear c1
  simp only [i_law_shapes_by, startE_eq, List.map_cons, List.map_nil, List.length_cons, List.length_nil, List.cons_append, List.nil_append]
  rw [show List.replicate (8 - (0 + 1)) (none : Option D) = [none, none, none, none, none, none, none] from rfl]
  rw [ev_asg (d := .int m) (by simp [hm])]
  simp only [List.set_cons_succ, List.set_cons_zero]
  rw [ev_asg (d := .lst (ns.map .str)) (by simp [hu, ht, n1])]
  simp only [List.set_cons_succ, List.set_cons_zero]
  rw [ev_asg (d := .lst []) (by simp)]
  simp only [List.set_cons_succ, List.set_cons_zero]
  rw [s_cons, s_for]
  have nl' : (ns.map D.str).length = ns.length := by simp
  simp only [x_r1, x_blt, x_cons, x_nil, x_v, getV_0, getV_s, bind_ok', b_lenL, nl', rn, to_ok]
  refine wp_for (enc := fun i : Nat => D.int (i : Int)) (fun i e => ∃ (ws : List Int) (a b : Option D), e = [some (.int c), some (.int m), some (.lst (ns.map .str)), some (.lst (ws.map .int)), a, b, none, none] ∧ ws.length = i ∧ ∀ w ∈ ws, 0 ≤ w ∧ w < 99999) ⟨[], _, _, rfl, rfl, by simp⟩ (fun i hi e he => ?_) fun e he => ?_
  · obtain ⟨ws, a, b, rfl, g1, g2⟩ := he
    refine ⟨_, setT_f _ _ _, ?_⟩
    have hi : i < ns.length := by simpa using hi
    have hk : 0 ≤ (i : Int) + 10 ∧ (i : Int) + 10 < 2147483648 := ⟨by omega, by omega⟩
    have hq : ∃ q, (run prg (k + 1)).p f_law_mixed [.int c, .int ((i : Int) + 10)] = .ok (.int q) := ⟨_, e_mixed hk.1 hk.2⟩
    refine hq.elim fun q hq => ?_
    obtain ⟨u4, hu4, _⟩ := fdv q (b := 4) (by decide) (by decide)
    obtain ⟨x1, hx1, _, _⟩ := mdv u4 (b := 20) (by decide)
    obtain ⟨x2, hx2, _, _⟩ := mdv u4 (b := 1000) (by decide)
    obtain ⟨x3, hx3, _, _⟩ := mdv u4 (b := 99999) (by decide)
    obtain ⟨j, hj, j0, j1⟩ := mdv q (b := 4) (by decide)
    obtain ⟨x, hx, x0, x1'⟩ := ix_c (enc := D.int) (xs := [0, x1, x2, x3]) (z := j) (P := fun x => 0 ≤ x ∧ x < 99999) (by simp; omega) j0 (by simpa using j1)
    simp only [List.map_cons, List.map_nil] at hx
    have wl : ws.length < SZ := by simp [SZ]; omega
    simp only [List.getElem_range, List.set_cons_succ, List.set_cons_zero]
    simp [hq, hu4, hx1, hx2, hx3, hj, hx, wl]
    refine ⟨ws ++ [x], by simp, by simp [g1], fun w hw => ?_⟩
    rcases List.mem_append.mp hw with hw | hw
    · exact g2 w hw
    · rw [List.mem_singleton] at hw
      rw [hw]
      exact ⟨x0, x1'⟩
  · obtain ⟨ws, a, b, rfl, g1, g2⟩ := he
    rw [List.length_range] at g1
    have zl : (ns.zip ws).length = ns.length := by rw [List.length_zip]; omega
    have zf : (ns.zip ws).map Prod.fst = ns := List.map_fst_zip (by omega)
    have c1 : ∀ a b : Option D, compR (turn (run prg (k + 1)) prg.tab [some (.int c), some (.int m), some (.lst (ns.map .str)), some (.lst (ws.map .int)), a, b, none, none] (.tup (.cons (.v 6) (.cons (.v 7) .nil))) true [6, 7] .none) ((ns.zip ws).map fun p => .tup [.str p.1, .int p.2]) = .ok ((ns.zip ws).map eShT) := fun a b => comp_map (enc := fun p : St × Int => .tup [.str p.1, .int p.2]) fun p hp => by
      simp [eShT]
    have zz : ((ns.zip ws).map fun p => D.tup [.str p.1, .int p.2]).length ≤ SZ := by rw [List.length_map, zl]; simp [SZ]; omega
    simp only [s_cons, s_ret, s_nil, x_comp, x_zip, x_v, getV_0, getV_s, bind_ok', zipD_l, zip_map, c1, zz, if_true, to_ok, seqS_rt, wp_end_rt]
    refine ⟨ns.zip ws, rfl, ⟨by rw [zf, zl]; exact ⟨rfl, hn.nd, hn.nm⟩, by omega, by omega, fun p hp => g2 _ (List.of_mem_zip hp).2⟩⟩
def eMa (m : St × St × (Int × Int) × (Int × Int)) : D := .tup [.str m.1, .str m.2.1, eP m.2.2.1, eP m.2.2.2]
abbrev Mt := St × St × (Int × Int) × (Int × Int)
def MaEl (m : Mt) : Prop := (m.2.1 = wAbove ∨ m.2.1 = wBelow) ∧ SpOk m.2.2.1 ∧ SpOk m.2.2.2
structure MaOk (sh : List (St × Int)) (ma : List Mt) : Prop where
  nm : (ma.map Prod.fst).Sublist (sh.map Prod.fst)
  ok : ∀ m ∈ ma, MaEl m
theorem sd_ix {z : Int} (h0 : 0 ≤ z) (h : z < 2) : ∃ j, ixD (.lst [.str wAbove, .str wBelow]) (.int z) = .ok (.str j) ∧ (j = wAbove ∨ j = wBelow) :=
  ix_c (enc := D.str) (xs := [wAbove, wBelow]) (by decide) h0 h
theorem ix_sh {sh : List (St × Int)} {i : Nat} (h : i < sh.length) : ixD (.lst (sh.map eShT)) (.int (i : Int)) = .ok (.tup [.str sh[i].1, .int sh[i].2]) := ix_map h
theorem sl_next {α β : Type} {f : α → β} {l : List α} {i : Nat} {r : List β} (h : i < l.length) (hr : r.Sublist ((l.take i).map f)) : (r ++ [f l[i]]).Sublist ((l.take (i + 1)).map f) ∧ r.Sublist ((l.take (i + 1)).map f) := by
  rw [List.take_succ_eq_append_getElem h, List.map_append]
  exact ⟨hr.append (List.Sublist.refl _), hr.trans (List.sublist_append_left _ _)⟩
theorem e_marks_by {k : Nat} {c : Int} {sh : List (St × Int)} (hl : sh.length ≤ 16) : ∃ ma, (run prg (k + 2)).p f_law_marks_by [.int c, .lst (sh.map eShT)] = .ok (.lst (ma.map eMa)) ∧ MaOk sh ma := by
  suffices ∃ d, (run prg (k + 2)).p f_law_marks_by [.int c, .lst (sh.map eShT)] = .ok d ∧ ∃ ma, d = .lst (ma.map eMa) ∧ MaOk sh ma by
    obtain ⟨d, h1, sh, rfl, h2⟩ := this
    exact ⟨sh, h1, h2⟩
  refine run_px (fn := i_law_marks_by) rfl rfl rfl ?_
  have rn : rng1D (.int (sh.length : Nat)) = .ok ((List.range sh.length).map fun (i : Nat) => .int (i : Int)) := rng1_n _ (lt62 (by omega))
  simp only [i_law_marks_by, startE_eq, List.map_cons, List.map_nil, List.length_cons, List.length_nil, List.cons_append, List.nil_append]
  rw [show List.replicate (6 - (0 + 1 + 1)) (none : Option D) = [none, none, none, none] from rfl]
  rw [ev_asg (d := .lst []) (by simp)]
  simp only [List.set_cons_succ, List.set_cons_zero]
  rw [s_cons, s_for]
  have nl' : (sh.map eShT).length = sh.length := by simp
  simp only [x_r1, x_blt, x_cons, x_nil, x_v, getV_0, getV_s, bind_ok', b_lenL, nl', rn, to_ok]
  refine wp_for (enc := fun i : Nat => D.int (i : Int)) (fun i e => ∃ (ma : List Mt) (a b x : Option D), e = [some (.int c), some (.lst (sh.map eShT)), some (.lst (ma.map eMa)), a, b, x] ∧ (ma.map Prod.fst).Sublist ((sh.take i).map Prod.fst) ∧ ∀ m ∈ ma, MaEl m) ⟨[], _, _, _, rfl, by simp, by simp⟩ (fun i hi e he => ?_) fun e he => ?_
  · obtain ⟨ma, a, b, x, rfl, g1, g2⟩ := he
    refine ⟨_, setT_f _ _ _, ?_⟩
    have hi : i < sh.length := by simpa using hi
    have hk : 0 ≤ (i : Int) + 40 ∧ (i : Int) + 40 < 2147483648 := ⟨by omega, by omega⟩
    have hq : ∃ q, (run prg (k + 1)).p f_law_mixed [.int c, .int ((i : Int) + 40)] = .ok (.int q) := ⟨_, e_mixed hk.1 hk.2⟩
    refine hq.elim fun q hq => ?_
    obtain ⟨v, hv, v0, v1⟩ := mdv q (b := 4) (by decide)
    obtain ⟨w, hw, _⟩ := fdv q (b := 4) (by decide) (by decide)
    obtain ⟨y, hy, y0, y1⟩ := mdv w (b := 2) (by decide)
    obtain ⟨s, es, hs⟩ := sd_ix y0 y1
    obtain ⟨r1, h1, _⟩ := fdv q (b := 8) (by decide) (by decide)
    obtain ⟨r2, h2, _⟩ := fdv q (b := 8000) (by decide) (by decide)
    obtain ⟨p1, e1, o1⟩ := e_spot_by (k := k) (m := r1)
    obtain ⟨p2, e2, o2⟩ := e_spot_by (k := k) (m := r2)
    have xi := ix_sh hi
    have ml := g1.length_le
    simp at ml
    have wl : ma.length < SZ := by simp [SZ]; omega
    obtain ⟨n1, n2⟩ := sl_next hi g1
    simp only [List.getElem_range, List.set_cons_succ, List.set_cons_zero]
    by_cases hv1 : v = 1
    · simp [hq, hv, hv1, hw, hy, es, h1, h2, e1, e2, xi, wl, -List.map_take, -Prod.forall]
      refine ⟨ma ++ [(sh[i].1, s, p1, p2)], by simp [eMa], by simpa [-List.map_take] using n1, fun m hm => ?_⟩
      rcases List.mem_append.mp hm with hm | hm
      · exact g2 m hm
      · rw [List.mem_singleton] at hm
        rw [hm]
        exact ⟨hs, o1, o2⟩
    · simp [hq, hv, hv1, -List.map_take, -Prod.forall]
      exact ⟨ma, rfl, n2, g2⟩
  · obtain ⟨ma, a, b, x, rfl, g1, g2⟩ := he
    rw [List.length_range, List.take_length] at g1
    simp
    exact ⟨ma, rfl, g1, g2⟩
end G
end
section
set_option Elab.async false
set_option linter.all false
set_option maxRecDepth 100000
set_option maxHeartbeats 1000000
namespace G
open PySem PyProof
/-! ### a hall by the script: points, letters, classes -/
abbrev Pt := (St × St) × (Int × Int)
def eTPo (p : Pt) : D := .tup [.str p.1.1, .str p.1.2, eP p.2]
def PoEl (p : Pt) : Prop := (p.1.2 = wAbove ∨ p.1.2 = wBelow) ∧ SpOk p.2
structure PoOk (sh : List (St × Int)) (po : List Pt) : Prop where
  nd : (po.map Prod.fst).Nodup
  nm : ∀ p ∈ po, p.1.1 ∈ sh.map Prod.fst
  ok : ∀ p ∈ po, PoEl p
  ln : po.length ≤ 32
def sidesL (ss : List St) : Prop := ss.Nodup ∧ ss.length ≤ 2 ∧ ∀ s ∈ ss, s = wAbove ∨ s = wBelow
theorem sl_sides {z : Int} (h0 : 0 ≤ z) (h : z < 2) : ∃ ss, slD (.lst [.str wAbove, .str wBelow]) (some z) none = .ok (.lst (ss.map .str)) ∧ sidesL ss := by
  have : z = 0 ∨ z = 1 := by omega
  rcases this with rfl | rfl
  · exact ⟨[wAbove, wBelow], rfl, by decide, by decide, by decide⟩
  · exact ⟨[wBelow], rfl, by decide, by decide, by decide⟩
structure PoI (sh : List (St × Int)) (i : Nat) (po : List Pt) : Prop where
  nd : (po.map Prod.fst).Nodup
  nm : ∀ p ∈ po, p.1.1 ∈ (sh.take i).map Prod.fst
  ok : ∀ p ∈ po, PoEl p
  ln : po.length ≤ 2 * i
theorem e_points_by {k : Nat} {c : Int} {sh : List (St × Int)} (hl : sh.length ≤ 16) (hn : (sh.map Prod.fst).Nodup) : ∃ po, (run prg (k + 2)).p f_law_points_by [.int c, .lst (sh.map eShT)] = .ok (.lst (po.map eTPo)) ∧ PoOk sh po := by
  suffices ∃ d, (run prg (k + 2)).p f_law_points_by [.int c, .lst (sh.map eShT)] = .ok d ∧ ∃ po, d = .lst (po.map eTPo) ∧ PoOk sh po by
    obtain ⟨d, h1, sh, rfl, h2⟩ := this
    exact ⟨sh, h1, h2⟩
  refine run_px (fn := i_law_points_by) rfl rfl rfl ?_
  have rn : rng1D (.int (sh.length : Nat)) = .ok ((List.range sh.length).map fun (i : Nat) => .int (i : Int)) := rng1_n _ (lt62 (by omega))
  simp only [i_law_points_by, startE_eq, List.map_cons, List.map_nil, List.length_cons, List.length_nil, List.cons_append, List.nil_append]
  rw [show List.replicate (6 - (0 + 1 + 1)) (none : Option D) = [none, none, none, none] from rfl]
  rw [ev_asg (d := .lst []) (by simp)]
  simp only [List.set_cons_succ, List.set_cons_zero]
  rw [s_cons, s_for]
  have nl' : (sh.map eShT).length = sh.length := by simp
  simp only [x_r1, x_blt, x_cons, x_nil, x_v, getV_0, getV_s, bind_ok', b_lenL, nl', rn, to_ok]
  refine wp_for (enc := fun i : Nat => D.int (i : Int)) (fun i e => ∃ (po : List Pt) (a b x : Option D), e = [some (.int c), some (.lst (sh.map eShT)), some (.lst (po.map eTPo)), a, b, x] ∧ PoI sh i po) ⟨[], _, _, _, rfl, by simp, by simp, by simp, by simp⟩ (fun i hi e he => ?_) fun e he => ?_
  · obtain ⟨po, a, b, x, rfl, gi⟩ := he
    obtain ⟨g1, g2, g3, g4⟩ := gi
    refine ⟨_, setT_f _ _ _, ?_⟩
    have hi : i < sh.length := by simpa using hi
    obtain ⟨q, hq, _⟩ := mxv k c ((i : Int) + 70) (by omega) (by omega)
    obtain ⟨v, hv, v0, v1⟩ := mdv q (b := 2) (by decide)
    obtain ⟨ss, es, s1, s2, s3⟩ := sl_sides v0 v1
    obtain ⟨w, hw, _⟩ := fdv q (b := 2) (by decide) (by decide)
    obtain ⟨y, hy, y0, y1⟩ := mdv w (b := 3) (by decide)
    obtain ⟨r1, h1, _⟩ := fdv q (b := 6) (by decide) (by decide)
    obtain ⟨p1, e1, o1⟩ := e_spot_by (k := k) (m := r1)
    have xi := ix_sh hi
    have tk : sh.take (i + 1) = sh.take i ++ [sh[i]] := List.take_succ_eq_append_getElem hi
    have fr : sh[i].1 ∉ (sh.take i).map Prod.fst := by
      intro hm
      rw [← List.take_append_drop (i + 1) sh, tk, List.map_append, List.map_append, List.nodup_append, List.nodup_append] at hn
      exact hn.1.2.2 _ hm _ (by simp) rfl
    simp only [List.getElem_range, List.set_cons_succ, List.set_cons_zero]
    rw [ev_asg (d := .int q) (by simp [hq])]
    simp only [List.set_cons_succ, List.set_cons_zero]
    rw [s_cons, s_for]
    simp only [x_seq, x_sl, x_os, x_on, x_lst, x_cons, x_nil, x_bin, x_ks, x_ki, x_v, getV_0, getV_s, bind_ok', optD_i, hv, es, seqD_l, to_ok]
    refine wp_for (enc := D.str) (fun j e => ∃ (po2 : List Pt) (x : Option D), e = [some (.int c), some (.lst (sh.map eShT)), some (.lst (po2.map eTPo)), some (.int (i : Int)), some (.int q), x] ∧ (po2 = po ∨ po2 = po ++ (ss.take j).map fun s => ((sh[i].1, s), p1)) ∧ (y ≤ 0 → po2 = po) ∧ (0 < y → po2 = po ++ (ss.take j).map fun s => ((sh[i].1, s), p1))) ⟨po, _, rfl, .inl rfl, fun _ => rfl, fun _ => by simp⟩ (fun j hj e he => ?_) fun e he => ?_
    · obtain ⟨po2, x, rfl, _, f1, f2⟩ := he
      refine ⟨_, setT_f _ _ _, ?_⟩
      have tj : ss.take (j + 1) = ss.take j ++ [ss[j]] := List.take_succ_eq_append_getElem hj
      simp only [List.set_cons_succ, List.set_cons_zero]
      by_cases hy0 : 0 < y
      · have ln : po2.length < SZ := by rw [f2 hy0]; simp [SZ]; omega
        have fe := f2 hy0
        simp [hw, hy, hy0, xi, h1, e1, ln, -List.map_take, -Prod.forall]
        refine ⟨po2 ++ [((sh[i].1, ss[j]), p1)], by simp [eTPo], .inr ?_, fun q => absurd q (by omega), ?_⟩ <;> (rw [fe, tj, List.map_append, List.append_assoc]; rfl)
      · simp [hw, hy, hy0, -List.map_take, -Prod.forall]
        exact ⟨po2, rfl, .inl (f1 (by omega)), fun _ => f1 (by omega)⟩
    · obtain ⟨po2, x, rfl, f0, _, _⟩ := he
      rw [List.take_length] at f0
      simp [-List.map_take, -Prod.forall]
      refine ⟨po2, rfl, ?_⟩
      have up : ∀ {x : St}, x ∈ (sh.take i).map Prod.fst → x ∈ (sh.take (i + 1)).map Prod.fst := fun {x} h => by
        rw [tk, List.map_append]
        exact List.mem_append_left _ h
      have me : sh[i].1 ∈ (sh.take (i + 1)).map Prod.fst := by
        rw [tk, List.map_append]
        exact List.mem_append_right _ (by simp)
      rcases f0 with rfl | rfl
      · exact ⟨g1, fun p hp => up (g2 p hp), g3, by omega⟩
      · refine ⟨?_, fun p hp => ?_, fun p hp => ?_, by simp; omega⟩
        · rw [List.map_append, List.nodup_append, List.map_map]
          refine ⟨g1, nodup_map s1 fun a _ b _ q => (Prod.mk.inj q).2, fun a ha b hb q => ?_⟩
          obtain ⟨p, hp, rfl⟩ := List.mem_map.mp ha
          obtain ⟨s, hs, rfl⟩ := List.mem_map.mp hb
          have := g2 p hp
          rw [q] at this
          exact fr this
        · rcases List.mem_append.mp hp with hp | hp
          · exact up (g2 p hp)
          · obtain ⟨s, hs, rfl⟩ := List.mem_map.mp hp
            exact me
        · rcases List.mem_append.mp hp with hp | hp
          · exact g3 p hp
          · obtain ⟨s, hs, rfl⟩ := List.mem_map.mp hp
            exact ⟨s3 s hs, o1⟩
  · obtain ⟨po, a, b, x, rfl, gi⟩ := he
    obtain ⟨g1, g2, g3, g4⟩ := gi
    rw [List.length_range] at g4
    rw [List.length_range, List.take_length] at g2
    simp [-Prod.forall]
    exact ⟨po, rfl, g1, g2, g3, by omega⟩
end G
end
section
set_option Elab.async false
set_option linter.all false
set_option maxRecDepth 100000
set_option maxHeartbeats 1000000
namespace G
open PySem PyProof
/-- a shape by a number -/
theorem pick {sh : List (St × Int)} (h : 1 ≤ sh.length) (u : Int) : ∃ z, binD .mod (.int u) (.int (sh.length : Int)) = .ok (.int z) ∧ ∃ p ∈ sh, ixD (.lst (sh.map eShT)) (.int z) = .ok (eShT p) := by
  obtain ⟨z, h1, h2, h3⟩ := mdv u (b := (sh.length : Int)) (by omega)
  obtain ⟨p, h4, h5⟩ := ix_c (enc := eShT) (P := fun p => p ∈ sh) (fun a h => h) h2 h3
  exact ⟨z, h1, p, h5, h4⟩
theorem jo6_ix {z : Int} (h0 : 0 ≤ z) (h : z < 6) : ∃ j, ixD (.lst [.str wBoth, .str wBack, .str wNone, .str wBoth, .str wClear, .str wBoth]) (.int z) = .ok (.str j) ∧ (j = wNone ∨ j = wClear ∨ j = wBack ∨ j = wBoth) :=
  ix_c (enc := D.str) (xs := [wBoth, wBack, wNone, wBoth, wClear, wBoth]) (by decide) h0 h
structure LeI (sh : List (St × Int)) (le : List Lt) : Prop where
  ok : ∀ l ∈ le, LtOk l
  fa : ∀ l ∈ le, ∀ f ∈ l.2.2.2, f ∈ sh.map Prod.fst
structure LeOk2 (sh : List (St × Int)) (le : List Lt) : Prop where
  nm : Names (le.map Prod.fst) le.length
  l1 : 1 ≤ le.length
  l6 : le.length ≤ 6
  el : LeI sh le
theorem LeI.app {sh : List (St × Int)} {le : List Lt} (h : LeI sh le) {l : Lt} (h1 : LtOk l) (h2 : ∀ f ∈ l.2.2.2, f ∈ sh.map Prod.fst) : LeI sh (le ++ [l]) := by
  constructor <;> intro x hx <;> rcases List.mem_append.mp hx with hx | hx
  · exact h.ok x hx
  · rw [List.mem_singleton] at hx
    exact hx ▸ h1
  · exact h.fa x hx
  · rw [List.mem_singleton] at hx
    exact hx ▸ h2
theorem e_letters_by {k : Nat} {c : Int} {sh : List (St × Int)} (hl : sh.length ≤ 16) (h1 : 1 ≤ sh.length) : ∃ le, (run prg (k + 2)).p f_law_letters_by [.int c, .lst (sh.map eShT)] = .ok (.lst (le.map eL)) ∧ LeOk2 sh le := by
  suffices ∃ d, (run prg (k + 2)).p f_law_letters_by [.int c, .lst (sh.map eShT)] = .ok d ∧ ∃ le, d = .lst (le.map eL) ∧ LeOk2 sh le by
    obtain ⟨d, h1, sh, rfl, h2⟩ := this
    exact ⟨sh, h1, h2⟩
  refine run_px (fn := i_law_letters_by) rfl rfl rfl ?_
  obtain ⟨m, hm, _⟩ := mxv k c 2 (by decide) (by decide)
  obtain ⟨u, hu, _⟩ := fdv m (b := 6) (by decide) (by decide)
  obtain ⟨t, ht, ht'⟩ := mdn m (b := 6) (by decide)
  have ht : binD .mod (.int m) (.int 6) = .ok (.int (t : Int)) := ht
  obtain ⟨ns, n1, hn⟩ := e_names_by (k := k) (c := u) (m := 1 + t) (by omega)
  have c1 : ((1 + t : Nat) : Int) = 1 + (t : Int) := by omega
  rw [c1] at n1
  have nl := hn.len
  have rn : rng1D (.int (ns.length : Nat)) = .ok ((List.range ns.length).map fun (i : Nat) => .int (i : Int)) := rng1_n _ (lt62 (by omega))
  have nls : (sh.map eShT).length = sh.length := by simp
  clear c1
  simp only [i_law_letters_by, startE_eq, List.map_cons, List.map_nil, List.length_cons, List.length_nil, List.cons_append, List.nil_append]
  rw [show List.replicate (11 - (0 + 1 + 1)) (none : Option D) = [none, none, none, none, none, none, none, none, none] from rfl]
  rw [ev_asg (d := .int m) (by simp [hm])]
  simp only [List.set_cons_succ, List.set_cons_zero]
  rw [ev_asg (d := .lst (ns.map .str)) (by simp [hu, ht, n1])]
  simp only [List.set_cons_succ, List.set_cons_zero]
  rw [ev_asg (d := .lst []) (by simp)]
  simp only [List.set_cons_succ, List.set_cons_zero]
  rw [s_cons, s_for]
  have nl' : (ns.map D.str).length = ns.length := by simp
  simp only [x_r1, x_blt, x_cons, x_nil, x_v, getV_0, getV_s, bind_ok', b_lenL, nl', rn, to_ok]
  refine wp_for (enc := fun i : Nat => D.int (i : Int)) (fun i e => ∃ (L : List Lt) (a b c2 d f g : Option D), e = [some (.int c), some (.lst (sh.map eShT)), some (.int m), some (.lst (ns.map .str)), some (.lst (L.map eL)), a, b, c2, d, f, g] ∧ L.map Prod.fst = ns.take i ∧ LeI sh L) ⟨[], _, _, _, _, _, _, rfl, rfl, by simp, by simp⟩ (fun i hi e he => ?_) fun e he => ?_
  · obtain ⟨L, a, b, c2, d, f, g, rfl, g1, g2⟩ := he
    refine ⟨_, setT_f _ _ _, ?_⟩
    have hi : i < ns.length := by simpa using hi
    have hi6 : i < 6 := by omega
    obtain ⟨q, hq, _⟩ := mxv k c ((i : Int) + 100) (by omega) (by omega)
    obtain ⟨z, hz, z0, z1⟩ := mdv q (b := 6) (by decide)
    obtain ⟨v, hv, _⟩ := fdv q (b := 6) (by decide) (by decide)
    obtain ⟨x, hx, x0, x1⟩ := mdv v (b := 3) (by decide)
    obtain ⟨j, ej, hj⟩ := jo6_ix z0 z1
    obtain ⟨y, ey, hy⟩ := wy_ix x0 x1
    have ed := jn_ix hj
    have jl := joinN_le (j := j)
    have xi : ixD (.lst (ns.map .str)) (.int (i : Int)) = .ok (.str ns[i]) := ix_map hi
    have rj : rng1D (.int (joinN j : Nat)) = .ok ((List.range (joinN j)).map fun (i : Nat) => .int (i : Int)) := rng1_n _ (lt62 (by omega))
    have c3 : ∃ fs : List St, compR (turn (run prg (k + 1)) prg.tab [some (.int c), some (.lst (sh.map eShT)), some (.int m), some (.lst (ns.map .str)), some (.lst (L.map eL)), some (.int (i : Int)), some (.int q), some (.str j), some (.int (joinN j : Nat)), f, g] (.ix (.ix (.v 1) (.bin .mod (.bin .fdiv (.v 6) (.bin .add (.bin .mul (.bin .mul (.v 10) (.v 10)) (.ki 31)) (.ki 7))) (.blt .len (.cons (.v 1) .nil)))) (.ki 0)) false [10] .none) ((List.range (joinN j)).map fun (i : Nat) => .int (i : Int)) = .ok (fs.map .str) ∧ fs.length = (List.range (joinN j)).length ∧ ∀ f ∈ fs, ∃ a ∈ List.range (joinN j), f ∈ sh.map Prod.fst := by
      refine comp_some (P := fun _ f => f ∈ sh.map Prod.fst) fun a ha => ?_
      have ha : a < joinN j := by simpa using ha
      have a3 : (a : Int) * a ≤ 9 ∧ 0 ≤ (a : Int) * a := by
        have : a = 0 ∨ a = 1 ∨ a = 2 ∨ a = 3 := by omega
        rcases this with rfl | rfl | rfl | rfl <;> decide
      obtain ⟨A, hA⟩ : ∃ A, A = (a : Int) * a := ⟨_, rfl⟩
      rw [← hA] at a3
      have m1 : binD .mul (.int (a : Int)) (.int (a : Int)) = .ok (.int A) := by rw [hA]; exact mul_l (by omega) (by omega)
      have m2 : binD .mul (.int A) (.int 31) = .ok (.int (A * 31)) := mul_l (by omega) (by omega)
      obtain ⟨w, hw, _⟩ := fdv q (b := A * 31 + 7) (by omega) (by omega)
      obtain ⟨z, hz, p, hp, ep⟩ := pick h1 w
      refine ⟨p.1, ?_, List.mem_map.mpr ⟨p, hp, rfl⟩⟩
      simp only [turn_f, x_cn, x_ix, x_bin, x_blt, x_cons, x_nil, x_v, x_ki, List.set_cons_succ, List.set_cons_zero, getV_0, getV_s, bind_ok', b_lenL, nls, m1, m2, add_i, hw, hz, ep, if_true, noex_ok]
      simp only [eShT, ix_t0, bind_ok', noex_ok]
    obtain ⟨fs, c3, c4, c5⟩ := c3
    rw [List.length_range] at c4
    have rz : ((List.range (joinN j)).map fun (i : Nat) => D.int (i : Int)).length ≤ SZ := by simp [SZ]; omega
    have Ll : L.length = i := by
      have := congrArg List.length g1
      simp at this
      omega
    have Lz : L.length < SZ := by simp [SZ]; omega
    simp only [List.getElem_range, List.set_cons_succ, List.set_cons_zero]
    rw [ev_asg (d := .int q) (by simp [hq])]
    simp only [List.set_cons_succ, List.set_cons_zero]
    rw [ev_asg (d := .str j) (by simp [hz, ej])]
    simp only [List.set_cons_succ, List.set_cons_zero]
    rw [ev_asg (d := .int (joinN j : Nat)) (by rw [x_ix, e_jdic]; simp [ed])]
    simp only [List.set_cons_succ, List.set_cons_zero]
    rw [ev_asg (d := .tup (fs.map .str)) (by simp only [x_blt, x_comp, x_cons, x_nil, x_r1, x_v, getV_0, getV_s, bind_ok', rj, c3, rz, if_true, b_tup])]
    simp only [List.set_cons_succ, List.set_cons_zero]
    simp [hv, hx, ey, xi, Lz, -Prod.forall, -List.map_take]
    refine ⟨L ++ [(ns[i], j, y, fs)], by simp [eL, eSs], ?_, g2.app ⟨hj, hy, c4⟩ fun f hf => ?_⟩
    · rw [List.map_append, g1, List.take_succ_eq_append_getElem hi]
      rfl
    · obtain ⟨_, _, h⟩ := c5 f hf
      exact h
  · obtain ⟨L, a, b, c2, d, f, g, rfl, g1, g2⟩ := he
    rw [List.length_range, List.take_length] at g1
    have Ll : L.length = ns.length := by rw [← g1]; simp
    simp [-Prod.forall]
    exact ⟨L, rfl, by rw [g1, Ll]; exact ⟨rfl, hn.nd, hn.nm⟩, by omega, by omega, g2⟩
end G
end
section
set_option Elab.async false
set_option linter.all false
set_option maxRecDepth 100000
set_option maxHeartbeats 1000000
namespace G
open PySem PyProof
/-! ### classes -/
def eClT (p : St × List St) : D := .tup [.str p.1, eSs p.2]
structure ClEl (sh : List (St × Int)) (p : St × List St) : Prop where
  l1 : 1 ≤ p.2.length
  l20 : p.2.length ≤ 20
  fa : ∀ f ∈ p.2, f ∈ sh.map Prod.fst
structure ClOk (sh : List (St × Int)) (cl : List (St × List St)) : Prop where
  nm : Names (cl.map Prod.fst) cl.length
  l1 : 1 ≤ cl.length
  l9 : cl.length ≤ 9
  el : ∀ p ∈ cl, ClEl sh p
theorem e_classes_by {k : Nat} {c : Int} {sh : List (St × Int)} (hl : sh.length ≤ 16) (h1 : 1 ≤ sh.length) : ∃ cl, (run prg (k + 2)).p f_law_classes_by [.int c, .lst (sh.map eShT)] = .ok (.lst (cl.map eClT)) ∧ ClOk sh cl := by
  suffices ∃ d, (run prg (k + 2)).p f_law_classes_by [.int c, .lst (sh.map eShT)] = .ok d ∧ ∃ cl, d = .lst (cl.map eClT) ∧ ClOk sh cl by
    obtain ⟨d, h1, sh, rfl, h2⟩ := this
    exact ⟨sh, h1, h2⟩
  refine run_px (fn := i_law_classes_by) rfl rfl rfl ?_
  obtain ⟨m, hm, _⟩ := mxv k c 3 (by decide) (by decide)
  obtain ⟨u, hu, _⟩ := fdv m (b := 4) (by decide) (by decide)
  obtain ⟨t, ht, ht'⟩ := mdn m (b := 3) (by decide)
  have ht : binD .mod (.int m) (.int 3) = .ok (.int (t : Int)) := ht
  obtain ⟨ns, n1, hn⟩ := e_names_by (k := k) (c := u) (m := 1 + t) (by omega)
  have c1 : ((1 + t : Nat) : Int) = 1 + (t : Int) := by omega
  rw [c1] at n1
  have nl := hn.len
  have nls : (sh.map eShT).length = sh.length := by simp
  clear c1
  simp only [i_law_classes_by, startE_eq, List.map_cons, List.map_nil, List.length_cons, List.length_nil, List.cons_append, List.nil_append]
  rw [show List.replicate (9 - (0 + 1 + 1)) (none : Option D) = [none, none, none, none, none, none, none] from rfl]
  rw [ev_asg (d := .int m) (by simp [hm])]
  simp only [List.set_cons_succ, List.set_cons_zero]
  rw [ev_asg (d := .lst []) (by simp)]
  simp only [List.set_cons_succ, List.set_cons_zero]
  rw [s_cons, s_for]
  have en : enumL 0 (ns.map .str) = ns.zipIdx.map fun p => D.tup [.int p.2, .str p.1] := enum_map ns 0
  simp only [x_en, x_call, x_bin, x_cons, x_nil, x_ki, x_v, getV_0, getV_s, bind_ok', hu, ht, add_i, n1, enumD_l, en, to_ok]
  refine wp_for (enc := fun p : St × Nat => D.tup [.int p.2, .str p.1]) (fun i e => ∃ (cl : List (St × List St)) (a b c2 d f : Option D), e = [some (.int c), some (.lst (sh.map eShT)), some (.int m), some (.lst (cl.map eClT)), a, b, c2, d, f] ∧ cl.map Prod.fst = ns.take i ∧ ∀ p ∈ cl, ClEl sh p) ⟨[], _, _, _, _, _, rfl, rfl, by simp⟩ (fun i hi e he => ?_) fun e he => ?_
  · obtain ⟨cl, a, b, c2, d, f, rfl, g1, g2⟩ := he
    refine ⟨_, rfl, ?_⟩
    have hi : i < ns.length := by simpa using hi
    obtain ⟨q, hq, _⟩ := mxv k c ((i : Int) + 130) (by omega) (by omega)
    obtain ⟨s, hs, hs'⟩ := mdn q (b := 5) (by decide)
    have hs : binD .mod (.int q) (.int 5) = .ok (.int (s : Int)) := hs
    have rs : rng1D (.int (1 + (s : Int))) = .ok ((List.range (1 + s)).map fun (i : Nat) => .int (i : Int)) := by
      have := rng1_n (1 + s) (lt62 (by omega))
      have e : ((1 + s : Nat) : Int) = 1 + (s : Int) := by omega
      rw [e] at this
      exact this
    have c3 : ∃ fs : List St, compR (turn (run prg (k + 1)) prg.tab [some (.int c), some (.lst (sh.map eShT)), some (.int m), some (.lst (cl.map eClT)), some (.int (i : Int)), some (.str ns[i]), some (.int q), d, f] (.ix (.ix (.v 1) (.bin .mod (.bin .fdiv (.v 6) (.bin .add (.bin .mul (.v 8) (.ki 13)) (.ki 5))) (.blt .len (.cons (.v 1) .nil)))) (.ki 0)) false [8] .none) ((List.range (1 + s)).map fun (i : Nat) => .int (i : Int)) = .ok (fs.map .str) ∧ fs.length = (List.range (1 + s)).length ∧ ∀ f ∈ fs, ∃ a ∈ List.range (1 + s), f ∈ sh.map Prod.fst := by
      refine comp_some (P := fun _ f => f ∈ sh.map Prod.fst) fun a ha => ?_
      have ha : a < 1 + s := by simpa using ha
      have m2 : binD .mul (.int (a : Int)) (.int 13) = .ok (.int ((a : Int) * 13)) := mul_l (by omega) (by omega)
      obtain ⟨w, hw, _⟩ := fdv q (b := (a : Int) * 13 + 5) (by omega) (by omega)
      obtain ⟨z, hz, p, hp, ep⟩ := pick h1 w
      refine ⟨p.1, ?_, List.mem_map.mpr ⟨p, hp, rfl⟩⟩
      simp only [turn_f, x_cn, x_ix, x_bin, x_blt, x_cons, x_nil, x_v, x_ki, List.set_cons_succ, List.set_cons_zero, getV_0, getV_s, bind_ok', b_lenL, nls, m2, add_i, hw, hz, ep, if_true, noex_ok]
      simp only [eShT, ix_t0, bind_ok', noex_ok]
    obtain ⟨fs, c3, c4, c5⟩ := c3
    rw [List.length_range] at c4
    have rz : ((List.range (1 + s)).map fun (i : Nat) => D.int (i : Int)).length ≤ SZ := by simp [SZ]; omega
    have Ll : cl.length = i := by
      have := congrArg List.length g1
      simp at this
      omega
    have Lz : cl.length < SZ := by simp [SZ]; omega
    simp only [List.getElem_zipIdx, List.set_cons_succ, List.set_cons_zero, Nat.zero_add]
    rw [ev_asg (d := .int q) (by simp [hq])]
    simp only [List.set_cons_succ, List.set_cons_zero]
    rw [ev_asg (d := .lst (fs.map .str)) (by simp only [x_blt, x_bin, x_ki, x_comp, x_cons, x_nil, x_r1, x_v, getV_0, getV_s, bind_ok', hs, add_i, rs, c3, rz, if_true])]
    simp only [List.set_cons_succ, List.set_cons_zero]
    simp [Lz, -Prod.forall, -List.map_take]
    refine ⟨cl ++ [(ns[i], fs)], by simp [eClT, eSs], ?_, fun p hp => ?_⟩
    · rw [List.map_append, g1, List.take_succ_eq_append_getElem hi]
      rfl
    · rcases List.mem_append.mp hp with hp | hp
      · exact g2 p hp
      · rw [List.mem_singleton] at hp
        subst hp
        exact ⟨by show 1 ≤ fs.length; omega, by show fs.length ≤ 20; omega, fun f hf => by
          obtain ⟨_, _, h⟩ := c5 f hf
          exact h⟩
  · obtain ⟨cl, a, b, c2, d, f, rfl, g1, g2⟩ := he
    rw [List.length_zipIdx, List.take_length] at g1
    have Ll : cl.length = ns.length := by rw [← g1]; simp
    simp [-Prod.forall]
    exact ⟨cl, rfl, by rw [g1, Ll]; exact ⟨rfl, hn.nd, hn.nm⟩, by omega, by omega, g2⟩
end G
end
section
set_option Elab.async false
set_option linter.all false
set_option maxRecDepth 100000
set_option maxHeartbeats 1000000
namespace G
open PySem PyProof
/-! ### the whole hall by the script -/
def eFeT (p : St × Bool) : D := .tup [.str p.1, .bl p.2]
structure FeOk (fe : List (St × Bool)) : Prop where
  nm : Names (fe.map Prod.fst) fe.length
  l1 : 1 ≤ fe.length
  l3 : fe.length ≤ 3
/-- an item: a shape, or a class behind its sign -/
def ItmOk (sh : List (St × Int)) (cl : List (St × List St)) (x : St) : Prop := x ∈ sh.map Prod.fst ∨ ∃ c ∈ cl.map Prod.fst, x = 64 :: c
structure RlOk (sh : List (St × Int)) (cl : List (St × List St)) (fe : List (St × Bool)) (r : Rl) : Prop where
  fe : r.fe ∈ fe.map Prod.fst
  be : r.be.length ≤ 3
  c1 : 1 ≤ r.co.length
  c4 : r.co.length ≤ 4
  af : r.af.length ≤ 3
  t1 : 1 ≤ r.to.length
  t3 : r.to.length ≤ 3
  ib : ∀ x ∈ r.be, ItmOk sh cl x
  ic : ∀ x ∈ r.co, ItmOk sh cl x
  ia : ∀ x ∈ r.af, ItmOk sh cl x
  it : ∀ x ∈ r.to, x ∈ sh.map Prod.fst
structure RuOk (sh : List (St × Int)) (cl : List (St × List St)) (fe : List (St × Bool)) (ru : List Rl) : Prop where
  nm : Names (ru.map Rl.ti) ru.length
  ln : ru.length ≤ 26
  el : ∀ r ∈ ru, RlOk sh cl fe r
structure HbOk (h : Hl) : Prop where
  sh : ShOk h.sh
  ma : MaOk h.sh h.ma
  po : PoOk h.sh h.po
  le : LeOk2 h.sh h.le
  ga : h.ga.Sublist (h.le.map Prod.fst)
  cl : ClOk h.sh h.cl
  fe : FeOk h.fe
  ru : RuOk h.sh h.cl h.fe h.ru
def hT (h : Hl) : D := .tup [.lst (h.sh.map eShT), .lst (h.ma.map eMa), .lst (h.po.map eTPo), .lst (h.le.map eL), .lst (h.ga.map .str), .lst (h.cl.map eClT), .lst (h.fe.map eFeT), .lst (h.ru.map eRl)]
theorem e_hall_by {k : Nat} {ns : List Int} {many : Int} {M : Nat} (hR : ∀ c sh le cl fe, ShOk sh → LeOk2 sh le → ClOk sh cl → FeOk fe → ∃ ru, (run prg (k + 2)).p f_law_rules_by [.int c, .int many, .lst (sh.map eShT), .lst (le.map eL), .lst (cl.map eClT), .lst (fe.map eFeT)] = .ok (.lst (ru.map eRl)) ∧ RuOk sh cl fe ru ∧ ru.length = M) : ∃ h, (run prg (k + 3)).p f_law_hall_by [.scr ns, .int many] = .ok (hT h) ∧ HbOk h ∧ h.ru.length = M := by
  suffices ∃ d, (run prg (k + 3)).p f_law_hall_by [.scr ns, .int many] = .ok d ∧ ∃ h, d = hT h ∧ HbOk h ∧ h.ru.length = M by
    obtain ⟨d, h1, sh, rfl, h2⟩ := this
    exact ⟨sh, h1, h2⟩
  refine run_px (fn := i_law_hall_by) rfl rfl rfl ?_
  obtain ⟨z0, h0⟩ : ∃ z, (run prg (k + 2)).p f_law_cell_at [.scr ns, .int 0] = .ok (.int z) := ⟨_, e_cell_at (k := 0)⟩
  obtain ⟨z1, h1⟩ : ∃ z, (run prg (k + 2)).p f_law_cell_at [.scr ns, .int 1] = .ok (.int z) := ⟨_, e_cell_at (k := 1)⟩
  obtain ⟨z2, h2⟩ : ∃ z, (run prg (k + 2)).p f_law_cell_at [.scr ns, .int 2] = .ok (.int z) := ⟨_, e_cell_at (k := 2)⟩
  obtain ⟨z3, h3⟩ : ∃ z, (run prg (k + 2)).p f_law_cell_at [.scr ns, .int 3] = .ok (.int z) := ⟨_, e_cell_at (k := 3)⟩
  obtain ⟨m, hm, _⟩ := mxv (k + 1) z2 5 (by decide) (by decide)
  obtain ⟨sh, e1, o1⟩ := e_shapes_by (k := k) (c := z0)
  have l16 := o1.l16
  have l4 := o1.l4
  obtain ⟨le, e2, o2⟩ := e_letters_by (k := k) (c := z1) (sh := sh) l16 (by omega)
  obtain ⟨cl, e3, o3⟩ := e_classes_by (k := k) (c := z2) (sh := sh) l16 (by omega)
  obtain ⟨ma, e4, o4⟩ := e_marks_by (k := k) (c := z0) (sh := sh) l16
  obtain ⟨po, e5, o5⟩ := e_points_by (k := k) (c := z0) (sh := sh) l16 o1.nm.nd
  obtain ⟨u, hu, _⟩ := fdv m (b := 3) (by decide) (by decide)
  obtain ⟨t, ht, ht'⟩ := mdn m (b := 3) (by decide)
  have ht : binD .mod (.int m) (.int 3) = .ok (.int (t : Int)) := ht
  obtain ⟨nms, n1, hn⟩ := e_names_by (k := k + 1) (c := u) (m := 1 + t) (by omega)
  have c1 : ((1 + t : Nat) : Int) = 1 + (t : Int) := by omega
  rw [c1] at n1
  have nl := hn.len
  clear c1
  obtain ⟨fe, hfe⟩ : ∃ fe : List (St × Bool), fe = nms.zipIdx.map fun p => (p.1, decide (0 < m / ((p.2 : Int) + 5) % 4)) := ⟨_, rfl⟩
  have ff : fe.map Prod.fst = nms := by rw [hfe, List.map_map]; simp [Function.comp_def]
  have fl : fe.length = 1 + t := by rw [hfe]; simp [nl]
  have o6 : FeOk fe := ⟨by rw [ff, fl, ← nl]; exact ⟨rfl, hn.nd, hn.nm⟩, by omega, by omega⟩
  obtain ⟨ru, e6, o7, rl⟩ := hR z3 sh le cl fe o1 o2 o3 o6
  have en : enumL 0 (nms.map .str) = nms.zipIdx.map fun p => D.tup [.int p.2, .str p.1] := enum_map nms 0
  have c2 : ∀ a b c d e f g : Option D, compR (turn (run prg (k + 2)) prg.tab [some (.scr ns), some (.int many), some (.int z0), some (.lst (sh.map eShT)), some (.lst (le.map eL)), some (.lst (cl.map eClT)), some (.int m), none, none, none, none, none, none, none, none] (.tup (.cons (.v 13) (.cons (.cmp .gt (.bin .mod (.bin .fdiv (.v 6) (.bin .add (.v 12) (.ki 5))) (.ki 4)) (.ki 0)) .nil))) true [12, 13] .none) (nms.zipIdx.map fun p => D.tup [.int p.2, .str p.1]) = .ok (fe.map eFeT) := by
    intro a b c d e f g
    rw [hfe, List.map_map]
    refine comp_map (enc := fun p : St × Nat => D.tup [.int p.2, .str p.1]) fun p hp => ?_
    have hp2 : p.2 < nms.length := by simpa using List.snd_lt_of_mem_zipIdx hp
    have d1 : binD .fdiv (.int m) (.int ((p.2 : Int) + 5)) = .ok (.int (m / ((p.2 : Int) + 5))) := fdiv_p (by omega) (by omega)
    have d2 : binD .mod (.int (m / ((p.2 : Int) + 5))) (.int 4) = .ok (.int (m / ((p.2 : Int) + 5) % 4)) := mod_p (by decide)
    simp only [turn_t2, x_cn, x_tup, x_cmp, x_bin, x_cons, x_nil, x_v, x_ki, List.set_cons_succ, List.set_cons_zero, getV_0, getV_s, bind_ok', add_i, d1, d2, c_gt, if_true, noex_ok, Function.comp, eFeT]
  have nz : (nms.zipIdx.map fun p => D.tup [.int p.2, .str p.1]).length ≤ SZ := by simp [SZ]; omega
  obtain ⟨pg, hpg⟩ : ∃ p : Lt × Nat → Bool, ∀ q, p q = decide (m / (7 * (q.2 : Int) + 9) % 4 = 0) := ⟨_, fun _ => rfl⟩
  obtain ⟨ga, hga⟩ : ∃ ga : List St, ga = (le.zipIdx.filter pg).map fun q => q.1.1 := ⟨_, rfl⟩
  have gs : ga.Sublist (le.map Prod.fst) := by
    have : le.map Prod.fst = le.zipIdx.map fun q => q.1.1 := by
      have := congrArg (List.map Prod.fst) (List.zipIdx_map_fst 0 le)
      rw [List.map_map] at this
      exact this.symm
    rw [this, hga]
    exact List.Sublist.map _ List.filter_sublist
  have el : enumL 0 (le.map eL) = le.zipIdx.map fun p => D.tup [.int p.2, eL p.1] := enum_map le 0
  have ll := o2.l6
  have c3 : compR (turn (run prg (k + 2)) prg.tab [some (.scr ns), some (.int many), some (.int z0), some (.lst (sh.map eShT)), some (.lst (le.map eL)), some (.lst (cl.map eClT)), some (.int m), some (.lst (fe.map eFeT)), some (.lst (ru.map eRl)), none, none, none, none, none, none] (.ix (.v 14) (.ki 0)) true [12, 14] (.some (.cmp .eq (.bin .mod (.bin .fdiv (.v 6) (.bin .add (.bin .mul (.ki 7) (.v 12)) (.ki 9))) (.ki 4)) (.ki 0)))) (le.zipIdx.map fun p => D.tup [.int p.2, eL p.1]) = .ok (ga.map .str) := by
    rw [hga, List.map_map]
    refine comp_fil (enc := fun p : Lt × Nat => D.tup [.int p.2, eL p.1]) fun p hp => ?_
    have hp2 : p.2 < le.length := by simpa using List.snd_lt_of_mem_zipIdx hp
    have d0 : binD .mul (.int 7) (.int (p.2 : Int)) = .ok (.int (7 * (p.2 : Int))) := mul_l (by decide) (by decide)
    have d1 : binD .fdiv (.int m) (.int (7 * (p.2 : Int) + 9)) = .ok (.int (m / (7 * (p.2 : Int) + 9))) := fdiv_p (by omega) (by omega)
    have d2 : binD .mod (.int (m / (7 * (p.2 : Int) + 9))) (.int 4) = .ok (.int (m / (7 * (p.2 : Int) + 9) % 4)) := mod_p (by decide)
    rw [hpg p]
    by_cases hc : m / (7 * (p.2 : Int) + 9) % 4 = 0
    · simp only [turn_t2, x_cs, x_cmp, x_ix, x_bin, x_cons, x_nil, x_v, x_ki, List.set_cons_succ, List.set_cons_zero, getV_0, getV_s, bind_ok', d0, add_i, d1, d2, c_eqi, truD_b, hc, decide_true, if_true, noex_ok, Function.comp, eL, ix_t0]
    · simp only [turn_t2, x_cs, x_cmp, x_ix, x_bin, x_cons, x_nil, x_v, x_ki, List.set_cons_succ, List.set_cons_zero, getV_0, getV_s, bind_ok', d0, add_i, d1, d2, c_eqi, truD_b, hc, decide_false, Bool.false_eq_true, if_false, noex_ok]
  have lz : (le.zipIdx.map fun p => D.tup [.int p.2, eL p.1]).length ≤ SZ := by simp [SZ]; omega
  clear hfe hpg hga
  simp only [i_law_hall_by, startE_eq, List.map_cons, List.map_nil, List.length_cons, List.length_nil, List.cons_append, List.nil_append]
  rw [show List.replicate (15 - (0 + 1 + 1)) (none : Option D) = [none, none, none, none, none, none, none, none, none, none, none, none, none] from rfl]
  rw [ev_asg (d := .int z0) (by simp [h0])]
  simp only [List.set_cons_succ, List.set_cons_zero]
  rw [ev_asg (d := .lst (sh.map eShT)) (by simp [e1])]
  simp only [List.set_cons_succ, List.set_cons_zero]
  rw [ev_asg (d := .lst (le.map eL)) (by simp [h1, e2])]
  simp only [List.set_cons_succ, List.set_cons_zero]
  rw [ev_asg (d := .lst (cl.map eClT)) (by simp [h2, e3])]
  simp only [List.set_cons_succ, List.set_cons_zero]
  rw [ev_asg (d := .int m) (by simp [h2, hm])]
  simp only [List.set_cons_succ, List.set_cons_zero]
  rw [ev_asg (d := .lst (fe.map eFeT)) (by simp only [x_comp, x_en, x_call, x_bin, x_cons, x_nil, x_ki, x_v, getV_0, getV_s, bind_ok', hu, ht, add_i, n1, enumD_l, en, c2 none none none none none none none, nz, if_true])]
  simp only [List.set_cons_succ, List.set_cons_zero]
  rw [ev_asg (d := .lst (ru.map eRl)) (by simp [h3, e6])]
  simp only [List.set_cons_succ, List.set_cons_zero]
  rw [ev_asg (d := .lst (ga.map .str)) (by simp only [x_comp, x_en, x_v, getV_0, getV_s, bind_ok', enumD_l, el, c3, lz, if_true])]
  simp only [List.set_cons_succ, List.set_cons_zero]
  rw [ev_asg (d := .lst (ma.map eMa)) (by simp [e4])]
  simp only [List.set_cons_succ, List.set_cons_zero]
  rw [ev_asg (d := .lst (po.map eTPo)) (by simp [e5])]
  simp only [List.set_cons_succ, List.set_cons_zero]
  simp
  exact ⟨⟨sh, ma, po, le, ga, cl, fe, ru⟩, rfl, ⟨o1, o4, o5, o2, gs, o3, o6, o7⟩, rl⟩
end G
end
section
set_option Elab.async false
set_option linter.all false
set_option maxRecDepth 100000
set_option maxHeartbeats 1000000
namespace G
open PySem PyProof
/-! ### more for the evaluation -/
/-- a thing by a number, whatever the number -/
def pk {α : Type} (xs : List α) (h : 0 < xs.length) (a : Int) : α := xs[(a % (xs.length : Int)).toNat]'(by
  have h1 := Int.emod_nonneg a (b := (xs.length : Int)) (by omega)
  have h2 := Int.emod_lt_of_pos a (b := (xs.length : Int)) (by omega)
  omega)
theorem pk_mem {α : Type} {xs : List α} (h : 0 < xs.length) (a : Int) : pk xs h a ∈ xs := List.getElem_mem _
theorem ix_pk {α : Type} {enc : α → D} {xs : List α} {a : Int} (h : 0 < xs.length) : ixD (.lst (xs.map enc)) (.int (a % (xs.length : Int))) = .ok (enc (pk xs h a)) :=
  ix_mapI (Int.emod_nonneg a (by omega)) (Int.emod_lt_of_pos a (by omega))
theorem ixt_pk {α : Type} {enc : α → D} {xs : List α} {a : Int} (h : 0 < xs.length) : ixD (.tup (xs.map enc)) (.int (a % (xs.length : Int))) = .ok (enc (pk xs h a)) :=
  ixt_mapI (Int.emod_nonneg a (by omega)) (Int.emod_lt_of_pos a (by omega))
theorem b_mixed {n : Nat} {c k : Int} (h0 : 0 ≤ k) (h : k < 2147483648) : (run prg (n + 1)).p f_law_mixed [.int c, .int k] = .ok (.int (mixF c k)) := e_mixed h0 h
theorem b_cell {n : Nat} {ns : List Int} {k : Int} (h0 : 0 ≤ k) : (run prg (n + 1)).p f_law_cell_at [.scr ns, .int k] = .ok (.int (cellF ns k.toNat)) := by
  obtain ⟨m, rfl⟩ := Int.eq_ofNat_of_zero_le h0
  exact e_cell_at
/-- an int of a list told, by a number -/
theorem ix_lit {xs : List Int} {a b : Int} {P : Int → Prop} (hp : ∀ x ∈ xs, P x) (hb : b = xs.length) (h0 : 0 < b) : ∃ x, ixD (.lst (xs.map .int)) (.int (a % b)) = .ok (.int x) ∧ P x := by
  subst hb
  exact ⟨_, ix_pk (enc := D.int) (by omega), hp _ (pk_mem _ _)⟩
theorem r1 {n : Nat} (h : n ≤ 100000) : rng1D (.int n) = .ok ((List.range n).map fun (i : Nat) => .int (i : Int)) := rng1_n n (Nat.lt_of_le_of_lt h (by decide))
theorem r2 {m n : Nat} (hm : m ≤ 100000) (h : n ≤ 100000) : rng2D (.int m) (.int n) = .ok ((List.range' m (n - m)).map fun (i : Nat) => .int (i : Int)) := rng2_n m n (Nat.lt_of_le_of_lt hm (by decide)) (Nat.lt_of_le_of_lt h (by decide))
theorem ml {a b : Int} (h : -1000000000 < a) (h' : a < 1000000000) : binD .mul (.int a) (.int b) = .ok (.int (a * b)) := mul_l (Int.lt_trans (by decide) h) (Int.lt_trans h' (by decide))
theorem mr {a b : Int} (h : -1000000000 < b) (h' : b < 1000000000) : binD .mul (.int a) (.int b) = .ok (.int (a * b)) := mul_r (Int.lt_trans (by decide) h) (Int.lt_trans h' (by decide))
theorem isi_l (xs : List D) : isiD 4 (.lst xs) = .ok true := rfl
theorem isi_s (x : St) : isiD 1 (.str x) = .ok true := rfl
theorem isi_b (x : Bool) : isiD 2 (.bl x) = .ok true := rfl
theorem isi_bi (x : Bool) : isiD 0 (.bl x) = .ok true := rfl
theorem isi_i (x : Int) : isiD 0 (.int x) = .ok true := rfl
theorem isi_ib (x : Int) : isiD 2 (.int x) = .ok false := rfl
theorem isi_t (xs : List D) : isiD 3 (.tup xs) = .ok true := rfl
theorem and_b (X Y : Bool) : (if X = true then R.ok (D.bl Y) else R.ok (D.bl false)) = R.ok (D.bl (X && Y)) := by cases X <;> rfl
theorem or_b (X Y : Bool) : (if X = true then R.ok (D.bl true) else R.ok (D.bl Y)) = R.ok (D.bl (X || Y)) := by cases X <;> rfl
/-! parts of a text -/
def ISs.dropS : Nat → ISs → ISs
  | 0, b => b
  | n + 1, .cons _ r => r.dropS n
  | _ + 1, .nil => .nil
def ISs.at : Nat → ISs → IS
  | 0, .cons s _ => s
  | n + 1, .cons _ r => r.at n
  | _, .nil => .pas
def IS.bd : IS → ISs
  | .for _ _ _ b => b
  | .whl _ b => b
  | .ife _ a _ => a
  | _ => .nil
def IS.els : IS → ISs
  | .ife _ _ b => b
  | _ => .nil
end G
end
section
set_option Elab.async false
set_option linter.all false
set_option maxRecDepth 100000
set_option maxHeartbeats 1000000
namespace G
open PySem PyProof
/-! ### the hall's text -/
def shRw (p : St × Int) : List St := [wShape, p.1, intL p.2]
def maRw (m : Mt) : List St := [wMark, m.1, m.2.1, intL m.2.2.1.1, intL m.2.2.1.2, intL m.2.2.2.1, intL m.2.2.2.2]
def poRw (p : Pt) : List St := [wPoint, p.1.1, p.1.2, intL p.2.1, intL p.2.2]
def gaRw (g : St) : List St := [wGap, g]
def clRw (p : St × List St) : List St := wClass :: p.1 :: p.2
def feRw (p : St × Bool) : List St := [wFeature, p.1, if p.2 then wOn else wOff]
def ruRw (r : Rl) : List St := wRule :: r.ti :: r.fe :: (r.be ++ [47] :: (r.co ++ [47] :: (r.af ++ [62] :: r.to)))
abbrev lj (r : List St) : St := joinC [32] r
def hRows (h : Hl) : List (List St) := h.sh.map shRw ++ h.ma.map maRw ++ h.po.map poRw ++ h.le.map ltRow ++ h.ga.map gaRw ++ h.cl.map clRw ++ h.fe.map feRw ++ h.ru.map ruRw
def WrdOk (w : St) : Prop := w ≠ [] ∧ w.length ≤ 13 ∧ ∀ c ∈ w, 33 ≤ c ∧ c < 128
theorem WrdOk.name {x : St} (h : isName x = true) : WrdOk x := name_w h
theorem WrdOk.int {i : Int} (h : -100000 < i) (h' : i < 100000) : WrdOk (intL i) := by
  obtain ⟨a, b, c⟩ := int_w h h'
  exact ⟨a, by omega, c⟩
theorem side_w {s : St} (h : s = wAbove ∨ s = wBelow) : WrdOk s := by
  rcases h with rfl | rfl <;> exact ⟨by decide, by decide, by decide⟩
theorem item_w {sh : List (St × Int)} {cl : List (St × List St)} (hs : ShOk sh) (hc : ClOk sh cl) {x : St} (h : ItmOk sh cl x) : WrdOk x := by
  rcases h with h | ⟨c, h, rfl⟩
  · exact WrdOk.name (hs.nm.nm x h)
  · have n := hc.nm.nm c h
    obtain ⟨_, n2, n3⟩ := isName_iff.mp n
    refine ⟨by simp, by simp; omega, fun d hd => ?_⟩
    rcases List.mem_cons.mp hd with rfl | hd
    · decide
    · exact sg_bd d (n3 d hd)
section
variable {h : Hl} (ho : HbOk h)
include ho
theorem sh_row {p : St × Int} (hp : p ∈ h.sh) : RowOk (shRw p) := by
  have w := ho.sh.wd p hp
  refine ⟨by simp [shRw], by simp [shRw], fun x hx => ?_⟩
  simp only [shRw, List.mem_cons, List.not_mem_nil, or_false] at hx
  rcases hx with rfl | rfl | rfl
  · exact ⟨by decide, by decide, by decide⟩
  · exact WrdOk.name (ho.sh.nm.nm _ (List.mem_map.mpr ⟨p, hp, rfl⟩))
  · exact WrdOk.int (by omega) (by omega)
theorem ma_name {m : Mt} (hm : m ∈ h.ma) : m.1 ∈ h.sh.map Prod.fst := ho.ma.nm.subset (List.mem_map.mpr ⟨m, hm, rfl⟩)
theorem ma_row {m : Mt} (hm : m ∈ h.ma) : RowOk (maRw m) := by
  obtain ⟨s, ⟨a1, a2, a3, a4⟩, ⟨b1, b2, b3, b4⟩⟩ := ho.ma.ok m hm
  refine ⟨by simp [maRw], by simp [maRw], fun x hx => ?_⟩
  simp only [maRw, List.mem_cons, List.not_mem_nil, or_false] at hx
  rcases hx with rfl | rfl | rfl | rfl | rfl | rfl | rfl
  · exact ⟨by decide, by decide, by decide⟩
  · exact WrdOk.name (ho.sh.nm.nm _ (ma_name ho hm))
  · exact side_w s
  all_goals exact WrdOk.int (by omega) (by omega)
theorem po_row {p : Pt} (hp : p ∈ h.po) : RowOk (poRw p) := by
  obtain ⟨s, ⟨a1, a2, a3, a4⟩⟩ := ho.po.ok p hp
  refine ⟨by simp [poRw], by simp [poRw], fun x hx => ?_⟩
  simp only [poRw, List.mem_cons, List.not_mem_nil, or_false] at hx
  rcases hx with rfl | rfl | rfl | rfl | rfl
  · exact ⟨by decide, by decide, by decide⟩
  · exact WrdOk.name (ho.sh.nm.nm _ (ho.po.nm p hp))
  · exact side_w s
  all_goals exact WrdOk.int (by omega) (by omega)
theorem le_name {l : Lt} (hl : l ∈ h.le) : isName l.1 = true := ho.le.nm.nm _ (List.mem_map.mpr ⟨l, hl, rfl⟩)
theorem le_face {l : Lt} (hl : l ∈ h.le) {f : St} (hf : f ∈ l.2.2.2) : isName f = true := ho.sh.nm.nm _ (ho.le.el.fa l hl f hf)
theorem le_row {l : Lt} (hl : l ∈ h.le) : RowOk (ltRow l) := ltRow_ok (le_name ho hl) (ho.le.el.ok l hl) fun f hf => le_face ho hl hf
theorem ga_name {g : St} (hg : g ∈ h.ga) : isName g = true := ho.le.nm.nm _ (ho.ga.subset hg)
theorem ga_row {g : St} (hg : g ∈ h.ga) : RowOk (gaRw g) := by
  refine ⟨by simp [gaRw], by simp [gaRw], fun x hx => ?_⟩
  simp only [gaRw, List.mem_cons, List.not_mem_nil, or_false] at hx
  rcases hx with rfl | rfl
  · exact ⟨by decide, by decide, by decide⟩
  · exact WrdOk.name (ga_name ho hg)
theorem cl_name {p : St × List St} (hp : p ∈ h.cl) : isName p.1 = true := ho.cl.nm.nm _ (List.mem_map.mpr ⟨p, hp, rfl⟩)
theorem cl_row {p : St × List St} (hp : p ∈ h.cl) : RowOk (clRw p) := by
  have e := ho.cl.el p hp
  refine ⟨by simp [clRw], by have := e.l20; simp [clRw]; omega, fun x hx => ?_⟩
  simp only [clRw, List.mem_cons] at hx
  rcases hx with rfl | rfl | hx
  · exact ⟨by decide, by decide, by decide⟩
  · exact WrdOk.name (cl_name ho hp)
  · exact WrdOk.name (ho.sh.nm.nm _ (e.fa x hx))
theorem fe_name {p : St × Bool} (hp : p ∈ h.fe) : isName p.1 = true := ho.fe.nm.nm _ (List.mem_map.mpr ⟨p, hp, rfl⟩)
theorem fe_row {p : St × Bool} (hp : p ∈ h.fe) : RowOk (feRw p) := by
  refine ⟨by simp [feRw], by simp [feRw], fun x hx => ?_⟩
  simp only [feRw, List.mem_cons, List.not_mem_nil, or_false] at hx
  rcases hx with rfl | rfl | rfl
  · exact ⟨by decide, by decide, by decide⟩
  · exact WrdOk.name (fe_name ho hp)
  · cases p.2 <;> exact ⟨by decide, by decide, by decide⟩
theorem ru_row {r : Rl} (hr : r ∈ h.ru) : RowOk (ruRw r) := by
  have e := ho.ru.el r hr
  have l1 := e.be
  have l2 := e.c4
  have l3 := e.af
  have l4 := e.t3
  refine ⟨by simp [ruRw], by simp [ruRw]; omega, fun x hx => ?_⟩
  simp only [ruRw, List.mem_cons, List.mem_append] at hx
  rcases hx with rfl | rfl | rfl | hx | rfl | hx | rfl | hx | rfl | hx
  · exact ⟨by decide, by decide, by decide⟩
  · exact WrdOk.name (ho.ru.nm.nm _ (List.mem_map.mpr ⟨r, hr, rfl⟩))
  · obtain ⟨p, hp, q⟩ := List.mem_map.mp e.fe
    rw [← q]
    exact WrdOk.name (fe_name ho hp)
  · exact item_w ho.sh ho.cl (e.ib x hx)
  · exact ⟨by decide, by decide, by decide⟩
  · exact item_w ho.sh ho.cl (e.ic x hx)
  · exact ⟨by decide, by decide, by decide⟩
  · exact item_w ho.sh ho.cl (e.ia x hx)
  · exact ⟨by decide, by decide, by decide⟩
  · exact WrdOk.name (ho.sh.nm.nm _ (e.it x hx))
theorem hrows_ok : ∀ r ∈ hRows h, RowOk r := by
  intro r hr
  simp only [hRows, List.mem_append, List.mem_map] at hr
  rcases hr with ((((((⟨x, hx, rfl⟩ | ⟨x, hx, rfl⟩) | ⟨x, hx, rfl⟩) | ⟨x, hx, rfl⟩) | ⟨x, hx, rfl⟩) | ⟨x, hx, rfl⟩) | ⟨x, hx, rfl⟩) | ⟨x, hx, rfl⟩
  · exact sh_row ho hx
  · exact ma_row ho hx
  · exact po_row ho hx
  · exact le_row ho hx
  · exact ga_row ho hx
  · exact cl_row ho hx
  · exact fe_row ho hx
  · exact ru_row ho hx
theorem lens : h.sh.length ≤ 16 ∧ h.ma.length ≤ 16 ∧ h.po.length ≤ 32 ∧ h.le.length ≤ 6 ∧ h.ga.length ≤ 6 ∧ h.cl.length ≤ 9 ∧ h.fe.length ≤ 3 ∧ h.ru.length ≤ 26 ∧ 4 ≤ h.sh.length := by
  have a := ho.ma.nm.length_le
  have b := ho.ga.length_le
  have c := ho.sh.l16
  have d := ho.le.l6
  simp at a b
  exact ⟨c, by omega, ho.po.ln, d, by omega, ho.cl.l9, ho.fe.l3, ho.ru.ln, ho.sh.l4⟩
theorem hrows_len : (hRows h).length ≤ 114 ∧ 1 ≤ (hRows h).length := by
  have := lens ho
  simp [hRows]
  omega
end
/-! the text's walk -/
theorem e_pair_text {k : Nat} {p : Int × Int} (h : SpOk p) : (run prg (k + 1)).p f_law_pair_text [eP p] = .ok (.str (intL p.1 ++ [32] ++ intL p.2)) := by
  refine run_p (fn := i_law_pair_text) rfl rfl rfl ?_
  obtain ⟨a1, a2, a3, a4⟩ := h
  have s1 := str_i (i := p.1) (by omega) (by omega)
  have s2 := str_i (i := p.2) (by omega) (by omega)
  have l1 := (int_w (i := p.1) (by omega) (by omega)).2.1
  have l2 := (int_w (i := p.2) (by omega) (by omega)).2.1
  have c1 : binD .add (.str (intL p.1)) (.str [32]) = .ok (.str (intL p.1 ++ [32])) := add_s (by simp [SZ]; omega)
  have c2 : binD .add (.str (intL p.1 ++ [32])) (.str (intL p.2)) = .ok (.str (intL p.1 ++ [32] ++ intL p.2)) := add_s (by simp [SZ]; omega)
  simp only [i_law_pair_text, startE_eq, List.map_cons, List.map_nil, List.length_cons, List.length_nil, List.cons_append, List.nil_append, eP, s_cons, s_ret, x_bin, x_blt, x_ix, x_cons, x_nil, x_v, x_ki, x_ks, getV_0, bind_ok', ix_t0, ix_t1, s1, s2, c1, c2, to_ok, seqS_rt, wp_end_rt]
theorem lj_ok {r : List St} (h : RowOk r) : mthD .join (.str [32]) [.lst (r.map .str)] = .ok (.str (lj r)) := join_ok (Nat.le_trans (join_bd h).2 (by decide))
theorem e_rule_text {k : Nat} {r : Rl} (h : RowOk (ruRw r)) (hb : r.be.length ≤ 3) (hc : r.co.length ≤ 4) (ha : r.af.length ≤ 3) (ht : r.to.length ≤ 3) : (run prg (k + 1)).p f_law_rule_text [eRl r] = .ok (.str (lj (ruRw r))) := by
  refine run_p (fn := i_law_rule_text) rfl rfl rfl ?_
  have j := lj_ok h
  have e : (ruRw r).map D.str = [.str wRule, .str r.ti, .str r.fe] ++ r.be.map .str ++ [.str [47]] ++ r.co.map .str ++ [.str [47]] ++ r.af.map .str ++ [.str [62]] ++ r.to.map .str := by simp [ruRw]
  rw [e] at j
  have i5 : ∀ a b c d e f : D, ixD (.tup [a, b, c, d, e, f]) (.int 5) = .ok f := fun a b c d e f => ix_tup (n := 5) rfl
  have c1 : binD .add (.lst [.str wRule, .str r.ti, .str r.fe]) (.lst (r.be.map .str)) = .ok (.lst ([.str wRule, .str r.ti, .str r.fe] ++ r.be.map .str)) := add_l (by simp [SZ]; omega)
  have c2 : binD .add (.lst ([.str wRule, .str r.ti, .str r.fe] ++ r.be.map .str)) (.lst [.str [47]]) = .ok (.lst ([.str wRule, .str r.ti, .str r.fe] ++ r.be.map .str ++ [.str [47]])) := add_l (by simp [SZ]; omega)
  have c3 : binD .add (.lst ([.str wRule, .str r.ti, .str r.fe] ++ r.be.map .str ++ [.str [47]])) (.lst (r.co.map .str)) = .ok (.lst ([.str wRule, .str r.ti, .str r.fe] ++ r.be.map .str ++ [.str [47]] ++ r.co.map .str)) := add_l (by simp [SZ]; omega)
  have c4 : binD .add (.lst ([.str wRule, .str r.ti, .str r.fe] ++ r.be.map .str ++ [.str [47]] ++ r.co.map .str)) (.lst [.str [47]]) = .ok (.lst ([.str wRule, .str r.ti, .str r.fe] ++ r.be.map .str ++ [.str [47]] ++ r.co.map .str ++ [.str [47]])) := add_l (by simp [SZ]; omega)
  have c5 : binD .add (.lst ([.str wRule, .str r.ti, .str r.fe] ++ r.be.map .str ++ [.str [47]] ++ r.co.map .str ++ [.str [47]])) (.lst (r.af.map .str)) = .ok (.lst ([.str wRule, .str r.ti, .str r.fe] ++ r.be.map .str ++ [.str [47]] ++ r.co.map .str ++ [.str [47]] ++ r.af.map .str)) := add_l (by simp [SZ]; omega)
  have c6 : binD .add (.lst ([.str wRule, .str r.ti, .str r.fe] ++ r.be.map .str ++ [.str [47]] ++ r.co.map .str ++ [.str [47]] ++ r.af.map .str)) (.lst [.str [62]]) = .ok (.lst ([.str wRule, .str r.ti, .str r.fe] ++ r.be.map .str ++ [.str [47]] ++ r.co.map .str ++ [.str [47]] ++ r.af.map .str ++ [.str [62]])) := add_l (by simp [SZ]; omega)
  have c7 : binD .add (.lst ([.str wRule, .str r.ti, .str r.fe] ++ r.be.map .str ++ [.str [47]] ++ r.co.map .str ++ [.str [47]] ++ r.af.map .str ++ [.str [62]])) (.lst (r.to.map .str)) = .ok (.lst ([.str wRule, .str r.ti, .str r.fe] ++ r.be.map .str ++ [.str [47]] ++ r.co.map .str ++ [.str [47]] ++ r.af.map .str ++ [.str [62]] ++ r.to.map .str)) := add_l (by simp [SZ]; omega)
  simp only [i_law_rule_text, startE_eq, List.map_cons, List.map_nil, List.length_cons, List.length_nil, List.cons_append, List.nil_append, eRl, eSs]
  rw [show List.replicate (2 - (0 + 1)) (none : Option D) = [none] from rfl]
  simp only [List.cons_append, List.nil_append] at c1 c2 c3 c4 c5 c6 c7 j
  rw [ev_asg (d := .lst (D.str wRule :: D.str r.ti :: D.str r.fe :: (r.be.map .str ++ [.str [47]] ++ r.co.map .str))) (by simp only [x_bin, x_blt, x_lst, x_ix, x_cons, x_nil, x_v, x_ki, x_ks, getV_0, bind_ok', ix_t0, ix_t1, ix_t2, ix_t3, b_lst2, c1, c2, c3])]
  simp only [List.set_cons_succ, List.set_cons_zero]
  simp only [s_cons, s_ret, s_nil, x_mth, x_bin, x_blt, x_lst, x_ix, x_cons, x_nil, x_v, x_ki, x_ks, getV_0, getV_s, bind_ok', ix_t4, i5, b_lst2, c4, c5, c6, c7, noex_ok, j, to_ok, seqS_rt, wp_end_rt]
end G
end
section
set_option Elab.async false
set_option linter.all false
set_option maxRecDepth 100000
set_option maxHeartbeats 1000000
namespace G
open PySem PyProof
local macro_rules | `(tactic| simp_arith [$ls,*]) => `(tactic| simp (disch := first | assumption | omega | (simp only [SZ, List.length_map, List.length_append, List.length_cons, List.length_nil, List.length_take, List.length_drop, List.length_range, List.length_zipIdx, List.length_reverse, List.length_replicate, List.length_zip]; omega)) only [ok_ite, bl_ite, c_lt, c_le, c_gt, c_ge, c_eqi, c_nei, c_eqs, c_nes, c_eqb, c_neb, c_is, c_isnot, b_lenL, b_lenT, b_lenD, b_lenI, b_tup, b_tup2, b_lst, b_lst2, c_inK, c_ninK, bind_ok', to_ok, bind_ite, to_ite, noex_ok, of_some, keep_f, keepL_f, keep_t, keepL_t, keepS_f, keepS_t, flS_sh, flS_l, getV_0, getV_s, ↓x_v, ↓x_kn, ↓x_kb, ↓x_ki, ↓x_ks, ↓x_g, ↓x_bin, negD_i, ↓x_neg, ↓x_not, andE_b, orE_b, ↓x_and, ↓x_or, ↓x_cmp, cm2E_e, ↓x_cmp2, ifeE_b, ↓x_ife, ↓x_lst, ↓x_tup, ↓x_dnew, ↓x_dic, ↓x_comp, ↓x_ix, ↓x_sl, turn_f, turn_t2, turn_t3, turn_t4, consO_s, consO_n, compR_n, compR_c, revD_l, ↓x_rev, ↓x_fld, ↓x_call, mkD_n, ↓x_mk, ↓x_blt, ↓x_mth, ↓x_isi, ↓x_lrg, ↓x_lrv, ↓x_nil, ↓x_cons, ↓x_kvn, ↓x_kvc, optD_i, ↓x_on, ↓x_os, ↓x_cn, ↓x_cs, seqD_l, seqD_t, seqD_s, ↓x_seq, ↓x_r1, ↓x_r2, ↓x_r3, enumD_l, enumD_s, ↓x_en, zipD_l, ↓x_zip, revI_l, ↓x_revI, itemsD_d, valsD_d, keysD_d, ↓x_it, ↓x_va, ↓x_ke, ↓s_nil, seqS_nx, seqS_rt, seqS_bk, seqS_ct, seqS_ite, ↓s_cons, ↓s_asg, tupO_l, tupO_t, ↓s_asgT, ↓s_par, augO_t, augO_a, augO_s, ↓s_aug, ↓s_shr, ↓s_app, ↓s_ext, ↓s_ins, ↓s_clr, ↓s_rvs, ↓s_sti, ↓s_stf, ↓s_exp, ↓s_mc, ↓s_mcr, ↓s_for, ↓s_whl, iteS_b, ↓s_ife, ↓s_ret, ↓s_retN, ↓s_brk, ↓s_ct, ↓s_pas, ↓p_nil, ↓p_fld, idxD_i, ↓p_idx, ↓up_nil, ↓up_f, ↓up_i, ↓up_it, truD_b, fldD_i, updE_eq, getF_c, putF_c, putF_n, noex_ite, noMut_i, noMut_b, noMut_n, noMut_t, noMuts_n, noMuts_c, gSet_d, gClr_l, gRvs_l, add_i, sub_i, putR_n, putR_s, toK_s, toK_i, setT_f, setT_t, setAll_n, setAll_c, wp_end_rt, wp_end_nx, wp_em_rt, wp_em_nx, wp_t_nx, wp_t_ct, wp_t_bk, wp_t_rt, noMut_s, b_lenS, gApp_l, gExt_l, List.set_cons_succ, List.set_cons_zero, List.map_cons, List.map_nil, List.cons_append, List.nil_append, List.length_map, List.length_cons, List.length_nil, List.length_range, List.length_zipIdx, if_true, if_false, Bool.false_eq_true, decide_true, decide_false, Bool.not_true, Bool.not_false, Bool.and_true, Bool.true_and, Bool.and_false, Bool.false_and, Bool.or_true, Bool.true_or, Bool.or_false, Bool.false_or, Bool.and_self, Bool.or_self, beq_self_eq_true, leE_n, leE_cn, leE_cs, and_true, true_and, and_self, Nat.add_zero, Nat.zero_add, Int.natCast_add, Int.cast_ofNat_Int, Option.some.injEq, List.getElem_range, List.getElem_zipIdx, List.all_nil, List.all_cons, ix_l0, ix_l1, ix_l2, ix_l3, ix_l4, ix_t0, ix_t1, ix_t2, ix_t3, ix_t4, ix_t5, ite_and, ite_or, seqS_nl, seqS_sq, app_n, app_c, ix_t6, ix_t7, reduceCtorEq, not_true_eq_false, not_false_eq_true, eq_self, ne_eq, $ls,*])
local macro_rules | `(tactic| simp_arith! [$i:ident]) => `(tactic| (refine run_p (fn := $i) rfl rfl rfl ?_; simp only [$i:ident, startE_eq, List.map_cons, List.map_nil, List.length_cons, List.length_nil, List.cons_append, List.nil_append, Nat.reduceAdd, Nat.reduceSub, List.replicate_succ, List.replicate_zero]))
local macro_rules | `(tactic| simp_all_arith [$i:ident]) => `(tactic| (refine run_px (fn := $i) rfl rfl rfl ?_; simp only [$i:ident, startE_eq, List.map_cons, List.map_nil, List.length_cons, List.length_nil, List.cons_append, List.nil_append, Nat.reduceAdd, Nat.reduceSub, List.replicate_succ, List.replicate_zero]))
local macro_rules | `(tactic| simp_all_arith! [$i:ident]) => `(tactic| (refine run_m (fn := $i) rfl rfl rfl ?_; simp only [$i:ident, startE_eq, List.map_cons, List.map_nil, List.length_cons, List.length_nil, List.cons_append, List.nil_append, Nat.reduceAdd, Nat.reduceSub, List.replicate_succ, List.replicate_zero]))
/-! ### rules by the script -/
theorem joinN_pos {j : St} (h : j = wNone ∨ j = wClear ∨ j = wBack ∨ j = wBoth) : 1 ≤ joinN j := by
  rcases h with rfl | rfl | rfl | rfl <;> decide
theorem e_items_by {k : Nat} {m : Int} {many : Nat} {sh : List (St × Int)} {le : List Lt} {cl : List (St × List St)} (hm : many ≤ 4) (hS : ShOk sh) (hl : LeOk2 sh le) (hC : ClOk sh cl) : ∃ xs, (run prg (k + 1)).p f_law_items_by [.int m, .int many, .lst (sh.map eShT), .lst (le.map eL), .lst (cl.map eClT)] = .ok (eSs xs) ∧ xs.length = many ∧ ∀ x ∈ xs, ItmOk sh cl x := by
  suffices ∃ d, (run prg (k + 1)).p f_law_items_by [.int m, .int many, .lst (sh.map eShT), .lst (le.map eL), .lst (cl.map eClT)] = .ok d ∧ ∃ xs, d = eSs xs ∧ xs.length = many ∧ ∀ x ∈ xs, ItmOk sh cl x by
    obtain ⟨d, h1, xs, rfl, h2⟩ := this
    exact ⟨xs, h1, h2⟩
  simp_all_arith [i_law_items_by]
  have hl1 : 0 < le.length := hl.l1
  have hs : 0 < sh.length := by have := hS.l4; omega
  have hc : 0 < cl.length := hC.l1
  simp_arith [r1]
  refine wp_forN (fun xs : List St => [some (.int m), some (.int many), some (.lst (sh.map eShT)), some (.lst (le.map eL)), some (.lst (cl.map eClT)), some (.lst (xs.map .str)), none, none, none]) (fun i xs => xs.length = i ∧ ∀ x ∈ xs, ItmOk sh cl x) [] (Mq_end _) ⟨rfl, by simp⟩ (by simp_arith []) (fun i hi xs hI => ⟨_, setT_f _ _ _, ?_⟩) fun xs hI => ?_
  · obtain ⟨g1, g2⟩ := hI
    have hi : i < many := by simpa using hi
    have a3 : (i : Int) * i ≤ 9 ∧ 0 ≤ (i : Int) * i := by
      have : i = 0 ∨ i = 1 ∨ i = 2 ∨ i = 3 := by omega
      rcases this with rfl | rfl | rfl | rfl <;> decide
    have xl : xs.length < SZ := by simp [SZ]; omega
    simp_arith [ml, mr, fdiv_p, mod_p, ix_pk]
    generalize m / ((i : Int) * i * 17 + 3) = n
    have fin : ∀ (y : St), ItmOk sh cl y → ∃ s' : List St, D.lst (xs.map D.str ++ [.str y]) = D.lst (s'.map D.str) ∧ s'.length = i + 1 ∧ ∀ x ∈ s', ItmOk sh cl x := fun y hy => ⟨xs ++ [y], by simp, by simp [g1], fun x hx => by
      rcases List.mem_append.mp hx with hx | hx
      · exact g2 x hx
      · rw [List.mem_singleton] at hx; exact hx ▸ hy⟩
    by_cases z0 : n % 3 = 0
    · have h1 := pk_mem hc (n / 3)
      generalize pk cl hc (n / 3) = c at h1
      have h2 : c.1 ∈ cl.map Prod.fst := List.mem_map.mpr ⟨c, h1, rfl⟩
      have h3 := (isName_iff.mp (hC.nm.nm _ h2)).2.1
      simp_arith [z0, eClT, add_s]
      exact fin (64 :: c.1) (.inr ⟨c.1, h2, rfl⟩)
    · by_cases z1 : n % 3 = 1
      · have h1 := pk_mem hl1 (n / 3)
        have z2 : ¬ ((1 : Int) = 0) := by decide
        simp_arith [z1, z2]
        generalize pk le hl1 (n / 3) = c at h1
        have h3 := hl.el.ok c h1
        have h4 := joinN_pos h3.jo
        have h5 : 0 < c.2.2.2.length := by rw [h3.fl]; omega
        have h6 := hl.el.fa c h1 _ (pk_mem h5 (n / 50))
        simp_arith [eL, eSs, fdiv_p, mod_p, ixt_pk]
        generalize pk c.2.2.2 h5 (n / 50) = y at h6
        exact fin y (.inl h6)
      · have h1 := pk_mem hs (n / 3)
        simp_arith [z0, z1, eShT]
        exact fin (pk sh hs (n / 3)).1 (.inl (List.mem_map.mpr ⟨_, h1, rfl⟩))
  · obtain ⟨g1, g2⟩ := hI
    simp_arith []
    exact ⟨xs, rfl, by simpa using g1, g2⟩
theorem e_rules_by {k : Nat} {c : Int} {many : Nat} {sh : List (St × Int)} {le : List Lt} {cl : List (St × List St)} {fe : List (St × Bool)} (hm : many ≤ 26) (hS : ShOk sh) (hl : LeOk2 sh le) (hC : ClOk sh cl) (hF : FeOk fe) : ∃ ru, (run prg (k + 2)).p f_law_rules_by [.int c, .int many, .lst (sh.map eShT), .lst (le.map eL), .lst (cl.map eClT), .lst (fe.map eFeT)] = .ok (.lst (ru.map eRl)) ∧ RuOk sh cl fe ru ∧ ru.length = many := by
  suffices ∃ d, (run prg (k + 2)).p f_law_rules_by [.int c, .int many, .lst (sh.map eShT), .lst (le.map eL), .lst (cl.map eClT), .lst (fe.map eFeT)] = .ok d ∧ ∃ ru, d = .lst (ru.map eRl) ∧ RuOk sh cl fe ru ∧ ru.length = many by
    obtain ⟨d, h1, xs, rfl, h2⟩ := this
    exact ⟨xs, h1, h2⟩
  simp_all_arith [i_law_rules_by]
  have hs : 0 < sh.length := by have := hS.l4; omega
  have hf : 0 < fe.length := hF.l1
  obtain ⟨nms, n1, hn⟩ := e_names_by (k := k) (c := mixF c 4) hm
  have nl := hn.len
  simp_arith [b_mixed, n1, enum_map]
  refine wp_forN (enc := fun p : St × Nat => D.tup [.int p.2, .str p.1]) (fun ru : List Rl => [some (.int c), some (.int many), some (.lst (sh.map eShT)), some (.lst (le.map eL)), some (.lst (cl.map eClT)), some (.lst (fe.map eFeT)), some (.lst (ru.map eRl)), none, none, none, none, none, none, none, none, none, none, none]) (fun i ru => ru.map Rl.ti = nms.take i ∧ ∀ r ∈ ru, RlOk sh cl fe r) [] (Mq_end _) ⟨by simp, by simp⟩ (by simp_arith []) (fun i hi ru hI => ⟨_, rfl, ?_⟩) fun ru hI => ?_
  · obtain ⟨g1, g2⟩ := hI
    have hi : i < nms.length := by simpa using hi
    have rl : ru.length = i := by
      have := congrArg List.length g1
      simp at this
      omega
    have rz : ru.length < SZ := by simp [SZ]; omega
    obtain ⟨s1, e1, p1⟩ := ix_lit (xs := [0, 0, 0, 1, 2, 3]) (a := mixF c ((i : Int) + 160)) (b := 6) (P := fun x => 0 ≤ x ∧ x ≤ 3) (by decide) rfl (by decide)
    obtain ⟨s2, e2, p2⟩ := ix_lit (xs := [1, 2, 1, 2, 3, 4, 1]) (a := mixF c ((i : Int) + 160) / 6) (b := 7) (P := fun x => 1 ≤ x ∧ x ≤ 4) (by decide) rfl (by decide)
    obtain ⟨s3, e3, p3⟩ := ix_lit (xs := [0, 0, 0, 1, 2, 3]) (a := mixF c ((i : Int) + 160) / 42) (b := 6) (P := fun x => 0 ≤ x ∧ x ≤ 3) (by decide) rfl (by decide)
    obtain ⟨b0, q0, hb⟩ : ∃ b0 : Int, bltD .int [.bl (decide ((i : Int) = 0))] = .ok (.int b0) ∧ 0 ≤ b0 ∧ b0 ≤ 1 := ⟨_, b_intB _, by cases decide ((i : Int) = 0) <;> decide⟩
    obtain ⟨s4, e4, p4⟩ := ix_lit (xs := [1, 1, 1, 2, 2 + b0]) (a := mixF c ((i : Int) + 160) / 252) (b := 5) (P := fun x => 1 ≤ x ∧ x ≤ 3) (by intro x hx; simp at hx; rcases hx with rfl | rfl | rfl <;> omega) rfl (by decide)
    obtain ⟨n1, rfl⟩ := Int.eq_ofNat_of_zero_le p1.1
    obtain ⟨n2, rfl⟩ := Int.eq_ofNat_of_zero_le (a := s2) (by omega)
    obtain ⟨n3, rfl⟩ := Int.eq_ofNat_of_zero_le p3.1
    obtain ⟨n4, rfl⟩ := Int.eq_ofNat_of_zero_le (a := s4) (by omega)
    simp only [List.map_cons, List.map_nil] at e1 e2 e3 e4
    obtain ⟨xb, f1, l1, k1⟩ := e_items_by (k := k) (m := mixF c ((i : Int) + 190)) (many := n1) (by omega) hS hl hC
    obtain ⟨xc, f2, l2, k2⟩ := e_items_by (k := k) (m := mixF c ((i : Int) + 190) / 11 + 5 * (i : Int)) (many := n2) (by omega) hS hl hC
    obtain ⟨xa, f3, l3, k3⟩ := e_items_by (k := k) (m := mixF c ((i : Int) + 190) / 101 + 3) (many := n3) (by omega) hS hl hC
    have m5 : binD .mul (.int 5) (.int (i : Int)) = .ok (.int (5 * (i : Int))) := ml (by decide) (by decide)
    obtain ⟨xt, hxt⟩ : ∃ xt : List St, xt = (List.range n4).map fun (j : Nat) => (pk sh hs (mixF c ((i : Int) + 160) / ((j : Int) * 7 + 3))).1 := ⟨_, rfl⟩
    have tl : xt.length = n4 := by rw [hxt]; simp
    have tm : ∀ x ∈ xt, x ∈ sh.map Prod.fst := fun x hx => by
      rw [hxt] at hx
      obtain ⟨j, _, rfl⟩ := List.mem_map.mp hx
      exact List.mem_map.mpr ⟨_, pk_mem hs _, rfl⟩
    simp_arith [b_mixed, fdiv_p, mod_p, e1, e2, e3, f1, m5, f2, f3, q0, e4, r1]
    rw [comp_map (h := fun (j : Nat) => .str (pk sh hs (mixF c ((i : Int) + 160) / ((j : Int) * 7 + 3))).1) fun j hj => ?_]
    · have fm := pk_mem hf (mixF c ((i : Int) + 160) / 1260)
      have z4 : (n4 ≤ SZ) = True := by simp [SZ]; omega
      have em : ((List.range n4).map fun (j : Nat) => D.str (pk sh hs (mixF c ((i : Int) + 160) / ((j : Int) * 7 + 3))).1) = xt.map .str := by rw [hxt, List.map_map]; rfl
      generalize pk fe hf (mixF c ((i : Int) + 160) / 1260) = ft at fm
      have pe : ixD (.lst (fe.map eFeT)) (.int (mixF c ((i : Int) + 160) / 1260 % (fe.length : Int))) = .ok (eFeT (pk fe hf (mixF c ((i : Int) + 160) / 1260))) := ix_pk hf
      have fm := pk_mem hf (mixF c ((i : Int) + 160) / 1260)
      simp_arith [z4, em, fdiv_p, mod_p, pe, eFeT]
      refine ⟨ru ++ [⟨nms[i], (pk fe hf (mixF c ((i : Int) + 160) / 1260)).1, xb, xc, xa, xt⟩], by simp [eRl, eSs], ?_, fun r hr => ?_⟩
      · rw [List.map_append, g1, List.take_succ_eq_append_getElem hi]
        rfl
      · rcases List.mem_append.mp hr with hr | hr
        · exact g2 r hr
        · rw [List.mem_singleton] at hr
          subst hr
          exact ⟨List.mem_map.mpr ⟨_, fm, rfl⟩, by show xb.length ≤ 3; omega, by show 1 ≤ xc.length; omega, by show xc.length ≤ 4; omega, by show xa.length ≤ 3; omega, by show 1 ≤ xt.length; omega, by show xt.length ≤ 3; omega, k1, k2, k3, tm⟩
    · have hj : j < n4 := by simpa using hj
      simp_arith [ml, fdiv_p, mod_p, ix_pk, eShT]
  · obtain ⟨g1, g2⟩ := hI
    rw [List.length_zipIdx, List.take_length] at g1
    have rl : ru.length = many := by rw [← nl, ← g1]; simp
    simp_arith []
    exact ⟨ru, rfl, ⟨by rw [g1, rl]; exact hn, by omega, g2⟩, rl⟩
end G
end
section
set_option Elab.async false
set_option linter.all false
set_option maxRecDepth 100000
set_option maxHeartbeats 1000000
namespace G
open PySem PyProof
local macro_rules | `(tactic| simp_arith [$ls,*]) => `(tactic| simp (disch := first | assumption | omega | (simp only [SZ, List.length_map, List.length_append, List.length_cons, List.length_nil, List.length_take, List.length_drop, List.length_range, List.length_zipIdx, List.length_reverse, List.length_replicate, List.length_zip]; omega)) only [ok_ite, bl_ite, c_lt, c_le, c_gt, c_ge, c_eqi, c_nei, c_eqs, c_nes, c_eqb, c_neb, c_is, c_isnot, b_lenL, b_lenT, b_lenD, b_lenI, b_tup, b_tup2, b_lst, b_lst2, c_inK, c_ninK, bind_ok', to_ok, bind_ite, to_ite, noex_ok, of_some, keep_f, keepL_f, keep_t, keepL_t, keepS_f, keepS_t, flS_sh, flS_l, getV_0, getV_s, ↓x_v, ↓x_kn, ↓x_kb, ↓x_ki, ↓x_ks, ↓x_g, ↓x_bin, negD_i, ↓x_neg, ↓x_not, andE_b, orE_b, ↓x_and, ↓x_or, ↓x_cmp, cm2E_e, ↓x_cmp2, ifeE_b, ↓x_ife, ↓x_lst, ↓x_tup, ↓x_dnew, ↓x_dic, ↓x_comp, ↓x_ix, ↓x_sl, turn_f, turn_t2, turn_t3, turn_t4, consO_s, consO_n, compR_n, compR_c, revD_l, ↓x_rev, ↓x_fld, ↓x_call, mkD_n, ↓x_mk, ↓x_blt, ↓x_mth, ↓x_isi, ↓x_lrg, ↓x_lrv, ↓x_nil, ↓x_cons, ↓x_kvn, ↓x_kvc, optD_i, ↓x_on, ↓x_os, ↓x_cn, ↓x_cs, seqD_l, seqD_t, seqD_s, ↓x_seq, ↓x_r1, ↓x_r2, ↓x_r3, enumD_l, enumD_s, ↓x_en, zipD_l, ↓x_zip, revI_l, ↓x_revI, itemsD_d, valsD_d, keysD_d, ↓x_it, ↓x_va, ↓x_ke, ↓s_nil, seqS_nx, seqS_rt, seqS_bk, seqS_ct, seqS_ite, ↓s_cons, ↓s_asg, tupO_l, tupO_t, ↓s_asgT, ↓s_par, augO_t, augO_a, augO_s, ↓s_aug, ↓s_shr, ↓s_app, ↓s_ext, ↓s_ins, ↓s_clr, ↓s_rvs, ↓s_sti, ↓s_stf, ↓s_exp, ↓s_mc, ↓s_mcr, ↓s_for, ↓s_whl, iteS_b, ↓s_ife, ↓s_ret, ↓s_retN, ↓s_brk, ↓s_ct, ↓s_pas, ↓p_nil, ↓p_fld, idxD_i, ↓p_idx, ↓up_nil, ↓up_f, ↓up_i, ↓up_it, truD_b, fldD_i, updE_eq, getF_c, putF_c, putF_n, noex_ite, noMut_i, noMut_b, noMut_n, noMut_t, noMuts_n, noMuts_c, gSet_d, gClr_l, gRvs_l, add_i, sub_i, putR_n, putR_s, toK_s, toK_i, setT_f, setT_t, setAll_n, setAll_c, wp_end_rt, wp_end_nx, wp_em_rt, wp_em_nx, wp_t_nx, wp_t_ct, wp_t_bk, wp_t_rt, noMut_s, b_lenS, gApp_l, gExt_l, List.set_cons_succ, List.set_cons_zero, List.map_cons, List.map_nil, List.cons_append, List.nil_append, List.length_map, List.length_cons, List.length_nil, List.length_range, List.length_zipIdx, if_true, if_false, Bool.false_eq_true, decide_true, decide_false, Bool.not_true, Bool.not_false, Bool.and_true, Bool.true_and, Bool.and_false, Bool.false_and, Bool.or_true, Bool.true_or, Bool.or_false, Bool.false_or, Bool.and_self, Bool.or_self, beq_self_eq_true, leE_n, leE_cn, leE_cs, and_true, true_and, and_self, Nat.add_zero, Nat.zero_add, Int.natCast_add, Int.cast_ofNat_Int, Option.some.injEq, List.getElem_range, List.getElem_zipIdx, List.all_nil, List.all_cons, ix_l0, ix_l1, ix_l2, ix_l3, ix_l4, ix_t0, ix_t1, ix_t2, ix_t3, ix_t4, ix_t5, ite_and, ite_or, seqS_nl, seqS_sq, app_n, app_c, ix_t6, ix_t7, reduceCtorEq, not_true_eq_false, not_false_eq_true, eq_self, ne_eq, $ls,*])
local macro_rules | `(tactic| simp_arith! [$i:ident]) => `(tactic| (refine run_p (fn := $i) rfl rfl rfl ?_; simp only [$i:ident, startE_eq, List.map_cons, List.map_nil, List.length_cons, List.length_nil, List.cons_append, List.nil_append, Nat.reduceAdd, Nat.reduceSub, List.replicate_succ, List.replicate_zero]))
local macro_rules | `(tactic| simp_all_arith [$i:ident]) => `(tactic| (refine run_px (fn := $i) rfl rfl rfl ?_; simp only [$i:ident, startE_eq, List.map_cons, List.map_nil, List.length_cons, List.length_nil, List.cons_append, List.nil_append, Nat.reduceAdd, Nat.reduceSub, List.replicate_succ, List.replicate_zero]))
local macro_rules | `(tactic| simp_all_arith! [$i:ident]) => `(tactic| (refine run_m (fn := $i) rfl rfl rfl ?_; simp only [$i:ident, startE_eq, List.map_cons, List.map_nil, List.length_cons, List.length_nil, List.cons_append, List.nil_append, Nat.reduceAdd, Nat.reduceSub, List.replicate_succ, List.replicate_zero]))
/-! ### the hall's text, whole -/
theorem flS_strs (l : List St) : ((l.map D.str).all fun d => noMut d) = true := by
  rw [List.all_map, List.all_eq_true]
  intro x _
  rfl
theorem fold_app {α β : Type} (f : α → β) : ∀ (l : List α) (R : List β), l.foldl (fun R a => R ++ [f a]) R = R ++ l.map f
  | [], R => by simp
  | a :: r, R => by rw [List.foldl_cons, fold_app f r]; simp
theorem lj1 (a : St) : lj [a] = a := rfl
theorem lj_c (a b : St) (r : List St) : lj (a :: b :: r) = a ++ [32] ++ lj (b :: r) := rfl
theorem e_hall_text {k : Nat} {h : Hl} (ho : HbOk h) : (run prg (k + 2)).p f_law_hall_text [hT h] = .ok (.str (joinC [10] ((hRows h).map lj))) := by
  simp_arith! [i_law_hall_text]
  obtain ⟨n1, n2, n3, n4, n5, n6, n7, n8, _⟩ := lens ho
  have nm : ∀ x, isName x = true → x.length ≤ 12 := fun x hx => (isName_iff.mp hx).2.1
  have shl : ∀ x ∈ h.sh.map Prod.fst, x.length ≤ 12 := fun x hx => nm x (ho.sh.nm.nm x hx)
  have sz : ∀ r ∈ hRows h, (lj r).length ≤ 336 := fun r hr => (join_bd (hrows_ok ho r hr)).1
  have q1 : (h.sh.length ≤ SZ) = True := by simp [SZ]; omega
  have q3 : (h.po.length ≤ SZ) = True := by simp [SZ]; omega
  have q5 : (h.ga.length ≤ SZ) = True := by simp [SZ]; omega
  have q6 : (h.cl.length ≤ SZ) = True := by simp [SZ]; omega
  have q7 : (h.fe.length ≤ SZ) = True := by simp [SZ]; omega
  have q8 : (h.ru.length ≤ SZ) = True := by simp [SZ]; omega
  simp_arith [hT]
  rw [comp_map (h := fun p : St × Int => .str (lj (shRw p))) fun p hp => ?_]
  · obtain ⟨R1, hR1⟩ : ∃ R, R = h.sh.map fun p => lj (shRw p) := ⟨_, rfl⟩
    have e1 : (h.sh.map fun p => D.str (lj (shRw p))) = R1.map .str := by rw [hR1, List.map_map]; rfl
    have l1 : R1.length = h.sh.length := by rw [hR1]; simp
    simp_arith [q1, e1]
    refine wp_fold (fun R : List St => [some (hT h), some (eLs R), none, none, none, none, none, none, none, none, none, none, none, none, none]) (fun R m => R ++ [lj (maRw m)]) R1 (Mq_end _) (by simp_arith [hT]) (fun i hi R hR => ⟨_, rfl, ?_⟩) ?_
    · have hm := List.getElem_mem hi
      generalize h.ma[i] = m at hm
      obtain ⟨o1, o2, o3⟩ := ho.ma.ok m hm
      have a1 := shl _ (ma_name ho hm)
      have b2 := e_pair_text (k := k) o2
      have b3 := e_pair_text (k := k) o3
      obtain ⟨_, a2, _⟩ := side_w o1
      obtain ⟨⟨u1, u2, u3, u4⟩, ⟨v1, v2, v3, v4⟩⟩ := (⟨o2, o3⟩ : SpOk m.2.2.1 ∧ SpOk m.2.2.2)
      have w1 := (int_w (i := m.2.2.1.1) (by omega) (by omega)).2.1
      have w2 := (int_w (i := m.2.2.1.2) (by omega) (by omega)).2.1
      have w3 := (int_w (i := m.2.2.2.1) (by omega) (by omega)).2.1
      have w4 := (int_w (i := m.2.2.2.2) (by omega) (by omega)).2.1
      have Rl : R.length ≤ 1000 := by rw [hR, fold_app, List.length_append, List.length_map, List.length_take, l1]; omega
      simp_arith [eMa, b2, b3, add_s, hT]
      simp [maRw, lj_c, lj1]
    · rw [fold_app]
      obtain ⟨R2, hR2⟩ : ∃ R, R = R1 ++ h.ma.map fun m => lj (maRw m) := ⟨_, rfl⟩
      rw [← hR2]
      have l2 : R2.length ≤ 32 := by rw [hR2]; simp; omega
      simp_arith [hT]
      rw [comp_map (h := fun p : Pt => .str (lj (poRw p))) fun p hp => ?_]
      · obtain ⟨P3, hP3⟩ : ∃ R, R = h.po.map fun p => lj (poRw p) := ⟨_, rfl⟩
        have e3 : (h.po.map fun p => D.str (lj (poRw p))) = P3.map .str := by rw [hP3, List.map_map]; rfl
        have p3 : P3.length = h.po.length := by rw [hP3]; simp
        obtain ⟨R3, hR3⟩ : ∃ R, R = R2 ++ P3 := ⟨_, rfl⟩
        have l3 : R3.length ≤ 64 := by rw [hR3]; simp; omega
        have d3 := add_ls (x := R2) (y := P3) (by simp [SZ]; omega)
        rw [← hR3] at d3
        simp_arith [q3, e3, d3, flS_strs]
        refine wp_fold (fun R : List St => [some (hT h), some (eLs R), none, none, none, none, none, none, none, none, none, none, none, none, none]) (fun R m => R ++ [lj (ltRow m)]) R3 (Mq_end _) (by simp_arith [hT]) (fun i hi R hR => ⟨_, rfl, ?_⟩) ?_
        · have hm := List.getElem_mem hi
          generalize h.le[i] = m at hm
          have Rl : R.length ≤ 1000 := by rw [hR, fold_app, List.length_append, List.length_map, List.length_take]; omega
          have j := lj_ok (le_row ho hm)
          have ml : m.2.2.2.length ≤ 4 := by rw [(ho.le.el.ok m hm).fl]; exact joinN_le
          have c1 : binD .add (.lst [.str wLetter, .str m.1, .str m.2.1, .str m.2.2.1]) (.lst (m.2.2.2.map .str)) = .ok (.lst ((ltRow m).map .str)) := add_ls (x := [wLetter, m.1, m.2.1, m.2.2.1]) (by simp [SZ]; omega)
          simp_arith [eL, eSs, c1, j, hT]
          simp
        · rw [fold_app]
          obtain ⟨R4, hR4⟩ : ∃ R, R = R3 ++ h.le.map fun m => lj (ltRow m) := ⟨_, rfl⟩
          rw [← hR4]
          have l4 : R4.length ≤ 70 := by rw [hR4]; simp; omega
          obtain ⟨P5, hP5⟩ : ∃ R, R = h.ga.map fun p => lj (gaRw p) := ⟨_, rfl⟩
          have e5 : (h.ga.map fun p => D.str (lj (gaRw p))) = P5.map .str := by rw [hP5, List.map_map]; rfl
          have p5 : P5.length = h.ga.length := by rw [hP5]; simp
          obtain ⟨R5, hR5⟩ : ∃ R, R = R4 ++ P5 := ⟨_, rfl⟩
          have l5 : R5.length ≤ 76 := by rw [hR5]; simp; omega
          have d5 := add_ls (x := R4) (y := P5) (by simp [SZ]; omega)
          rw [← hR5] at d5
          obtain ⟨P6, hP6⟩ : ∃ R, R = h.cl.map fun p => lj (clRw p) := ⟨_, rfl⟩
          have e6 : (h.cl.map fun p => D.str (lj (clRw p))) = P6.map .str := by rw [hP6, List.map_map]; rfl
          have p6 : P6.length = h.cl.length := by rw [hP6]; simp
          obtain ⟨R6, hR6⟩ : ∃ R, R = R5 ++ P6 := ⟨_, rfl⟩
          have l6 : R6.length ≤ 85 := by rw [hR6]; simp; omega
          have d6 := add_ls (x := R5) (y := P6) (by simp [SZ]; omega)
          rw [← hR6] at d6
          obtain ⟨P7, hP7⟩ : ∃ R, R = h.fe.map fun p => lj (feRw p) := ⟨_, rfl⟩
          have e7 : (h.fe.map fun p => D.str (lj (feRw p))) = P7.map .str := by rw [hP7, List.map_map]; rfl
          have p7 : P7.length = h.fe.length := by rw [hP7]; simp
          obtain ⟨R7, hR7⟩ : ∃ R, R = R6 ++ P7 := ⟨_, rfl⟩
          have l7 : R7.length ≤ 88 := by rw [hR7]; simp; omega
          have d7 := add_ls (x := R6) (y := P7) (by simp [SZ]; omega)
          rw [← hR7] at d7
          obtain ⟨P8, hP8⟩ : ∃ R, R = h.ru.map fun p => lj (ruRw p) := ⟨_, rfl⟩
          have e8 : (h.ru.map fun p => D.str (lj (ruRw p))) = P8.map .str := by rw [hP8, List.map_map]; rfl
          have p8 : P8.length = h.ru.length := by rw [hP8]; simp
          have d8 := add_ls (x := R7) (y := P8) (by simp [SZ]; omega)
          have all : R7 ++ P8 = (hRows h).map lj := by
            rw [hR7, hR6, hR5, hR4, hR3, hR2, hR1, hP3, hP5, hP6, hP7, hP8]
            simp [hRows, Function.comp_def]
          have js : mthD .join (.str [10]) [.lst ((R7 ++ P8).map .str)] = .ok (.str (joinC [10] ((hRows h).map lj))) := by
            rw [all]
            have u := sumLen_le (m := 336) (xs := (hRows h).map lj) (fun x hx => by
              obtain ⟨r, hr, rfl⟩ := List.mem_map.mp hx
              exact sz r hr)
            have v := (hrows_len ho).1
            simp only [List.length_map] at u
            exact join_ok (by simp [SZ]; omega)
          clear hR1 hR2 hR3 hR4 hR5 hR6 hR7 hP3 hP5 hP6 hP7 hP8
          simp_arith [hT]
          rw [comp_map (h := fun p : St => .str (lj (gaRw p))) fun p hp => ?_]
          · simp_arith [q5, e5, d5]
            rw [comp_map (h := fun p : St × List St => .str (lj (clRw p))) fun p hp => ?_]
            · simp_arith [q6, e6, d6]
              rw [comp_map (h := fun p : St × Bool => .str (lj (feRw p))) fun p hp => ?_]
              · simp_arith [q7, e7, d7]
                rw [comp_map (h := fun p : Rl => .str (lj (ruRw p))) fun p hp => ?_]
                · simp_arith [q8, e8, d8, js]
                · have r := ho.ru.el p hp
                  have := e_rule_text (k := k) (ru_row ho hp) r.be r.c4 r.af r.t3
                  simp_arith [this]
              · have a1 := nm _ (fe_name ho hp)
                cases e : p.2 <;> (simp_arith [eFeT, e, b_intB, Bool.toNat_true, Bool.toNat_false, Int.natCast_zero, Int.natCast_one, add_s]; simp [feRw, e, lj_c, lj1])
            · have j := lj_ok (cl_row ho hp)
              have ml := (ho.cl.el p hp).l20
              have c1 : binD .add (.lst [.str wClass, .str p.1]) (.lst (p.2.map .str)) = .ok (.lst ((clRw p).map .str)) := add_ls (x := [wClass, p.1]) (by simp [SZ]; omega)
              simp_arith [eClT, eSs, c1, j]
          · have a1 := nm _ (ga_name ho hp)
            simp_arith [add_s]
            simp [gaRw, lj_c, lj1]
      · obtain ⟨o1, o2⟩ := ho.po.ok p hp
        have a1 := shl _ (ho.po.nm p hp)
        have b2 := e_pair_text (k := k) o2
        obtain ⟨_, a2, _⟩ := side_w o1
        obtain ⟨u1, u2, u3, u4⟩ := o2
        have w1 := (int_w (i := p.2.1) (by omega) (by omega)).2.1
        have w2 := (int_w (i := p.2.2) (by omega) (by omega)).2.1
        simp_arith [eTPo, b2, add_s]
        simp [poRw, lj_c, lj1]
  · have a1 := shl p.1 (List.mem_map.mpr ⟨p, hp, rfl⟩)
    have w := ho.sh.wd p hp
    have a2 := (int_w (i := p.2) (by omega) (by omega)).2.1
    have s1 := str_i (i := p.2) (by omega) (by omega)
    simp_arith [eShT, s1, add_s]
    simp [shRw, lj_c, lj1]
end G
end
section
set_option Elab.async false
set_option linter.all false
set_option maxRecDepth 100000
set_option maxHeartbeats 1000000
namespace G
open PySem PyProof
local macro_rules | `(tactic| simp_arith [$ls,*]) => `(tactic| simp (disch := first | assumption | omega | (simp only [SZ, List.length_map, List.length_append, List.length_cons, List.length_nil, List.length_take, List.length_drop, List.length_range, List.length_zipIdx, List.length_reverse, List.length_replicate, List.length_zip]; omega)) only [ok_ite, bl_ite, c_lt, c_le, c_gt, c_ge, c_eqi, c_nei, c_eqs, c_nes, c_eqb, c_neb, c_is, c_isnot, b_lenL, b_lenT, b_lenD, b_lenI, b_tup, b_tup2, b_lst, b_lst2, c_inK, c_ninK, bind_ok', to_ok, bind_ite, to_ite, noex_ok, of_some, keep_f, keepL_f, keep_t, keepL_t, keepS_f, keepS_t, flS_sh, flS_l, getV_0, getV_s, ↓x_v, ↓x_kn, ↓x_kb, ↓x_ki, ↓x_ks, ↓x_g, ↓x_bin, negD_i, ↓x_neg, ↓x_not, andE_b, orE_b, ↓x_and, ↓x_or, ↓x_cmp, cm2E_e, ↓x_cmp2, ifeE_b, ↓x_ife, ↓x_lst, ↓x_tup, ↓x_dnew, ↓x_dic, ↓x_comp, ↓x_ix, ↓x_sl, turn_f, turn_t2, turn_t3, turn_t4, consO_s, consO_n, compR_n, compR_c, revD_l, ↓x_rev, ↓x_fld, ↓x_call, mkD_n, ↓x_mk, ↓x_blt, ↓x_mth, ↓x_isi, ↓x_lrg, ↓x_lrv, ↓x_nil, ↓x_cons, ↓x_kvn, ↓x_kvc, optD_i, ↓x_on, ↓x_os, ↓x_cn, ↓x_cs, seqD_l, seqD_t, seqD_s, ↓x_seq, ↓x_r1, ↓x_r2, ↓x_r3, enumD_l, enumD_s, ↓x_en, zipD_l, ↓x_zip, revI_l, ↓x_revI, itemsD_d, valsD_d, keysD_d, ↓x_it, ↓x_va, ↓x_ke, ↓s_nil, seqS_nx, seqS_rt, seqS_bk, seqS_ct, seqS_ite, ↓s_cons, ↓s_asg, tupO_l, tupO_t, ↓s_asgT, ↓s_par, augO_t, augO_a, augO_s, ↓s_aug, ↓s_shr, ↓s_app, ↓s_ext, ↓s_ins, ↓s_clr, ↓s_rvs, ↓s_sti, ↓s_stf, ↓s_exp, ↓s_mc, ↓s_mcr, ↓s_for, ↓s_whl, iteS_b, ↓s_ife, ↓s_ret, ↓s_retN, ↓s_brk, ↓s_ct, ↓s_pas, ↓p_nil, ↓p_fld, idxD_i, ↓p_idx, ↓up_nil, ↓up_f, ↓up_i, ↓up_it, truD_b, fldD_i, updE_eq, getF_c, putF_c, putF_n, noex_ite, noMut_i, noMut_b, noMut_n, noMut_t, noMuts_n, noMuts_c, gSet_d, gClr_l, gRvs_l, add_i, sub_i, putR_n, putR_s, toK_s, toK_i, setT_f, setT_t, setAll_n, setAll_c, wp_end_rt, wp_end_nx, wp_em_rt, wp_em_nx, wp_t_nx, wp_t_ct, wp_t_bk, wp_t_rt, noMut_s, b_lenS, gApp_l, gExt_l, List.set_cons_succ, List.set_cons_zero, List.map_cons, List.map_nil, List.cons_append, List.nil_append, List.length_map, List.length_cons, List.length_nil, List.length_range, List.length_zipIdx, if_true, if_false, Bool.false_eq_true, decide_true, decide_false, Bool.not_true, Bool.not_false, Bool.and_true, Bool.true_and, Bool.and_false, Bool.false_and, Bool.or_true, Bool.true_or, Bool.or_false, Bool.false_or, Bool.and_self, Bool.or_self, beq_self_eq_true, leE_n, leE_cn, leE_cs, and_true, true_and, and_self, Nat.add_zero, Nat.zero_add, Int.natCast_add, Int.cast_ofNat_Int, Option.some.injEq, List.getElem_range, List.getElem_zipIdx, List.all_nil, List.all_cons, ix_l0, ix_l1, ix_l2, ix_l3, ix_l4, ix_t0, ix_t1, ix_t2, ix_t3, ix_t4, ix_t5, ite_and, ite_or, seqS_nl, seqS_sq, app_n, app_c, ix_t6, ix_t7, reduceCtorEq, not_true_eq_false, not_false_eq_true, eq_self, ne_eq, $ls,*])
local macro_rules | `(tactic| simp_arith! [$i:ident]) => `(tactic| (refine run_p (fn := $i) rfl rfl rfl ?_; simp only [$i:ident, startE_eq, List.map_cons, List.map_nil, List.length_cons, List.length_nil, List.cons_append, List.nil_append, Nat.reduceAdd, Nat.reduceSub, List.replicate_succ, List.replicate_zero]))
local macro_rules | `(tactic| simp_all_arith [$i:ident]) => `(tactic| (refine run_px (fn := $i) rfl rfl rfl ?_; simp only [$i:ident, startE_eq, List.map_cons, List.map_nil, List.length_cons, List.length_nil, List.cons_append, List.nil_append, Nat.reduceAdd, Nat.reduceSub, List.replicate_succ, List.replicate_zero]))
local macro_rules | `(tactic| simp_all_arith! [$i:ident]) => `(tactic| (refine run_m (fn := $i) rfl rfl rfl ?_; simp only [$i:ident, startE_eq, List.map_cons, List.map_nil, List.length_cons, List.length_nil, List.cons_append, List.nil_append, Nat.reduceAdd, Nat.reduceSub, List.replicate_succ, List.replicate_zero]))
/-! ### the hall's text read -/
theorem read_seg {α : Type} (row : α → List St) (U : List α → Hl) (L : List α) (rest : List St) (H : ∀ pre a post, L = pre ++ a :: post → lineF (U pre) (lj (row a)) = ([], U (pre ++ [a]))) : readF (U []) ((L.map row).map lj ++ rest) = readF (U L) rest := by
  have go : ∀ (post pre : List α), L = pre ++ post → readF (U pre) ((post.map row).map lj ++ rest) = readF (U L) rest := by
    intro post
    induction post with
    | nil => intro pre e; simp at e; subst e; rfl
    | cons a r ih =>
      intro pre e
      rw [List.map_cons, List.map_cons, List.cons_append, readF_c (H pre a r e)]
      exact ih (pre ++ [a]) (by simp [e])
  exact go L [] rfl
theorem nd_pre {α : Type} {f : α → St} {L pre post : List α} {a : α} (hn : (L.map f).Nodup) (e : L = pre ++ a :: post) : f a ∉ pre.map f := by
  subst e
  rw [List.map_append, List.nodup_append] at hn
  exact fun q => hn.2.2 _ q _ (by simp) rfl
theorem nd_pre2 {α β : Type} {f : α → β} {L pre post : List α} {a : α} (hn : (L.map f).Nodup) (e : L = pre ++ a :: post) : f a ∉ pre.map f := by
  subst e
  rw [List.map_append, List.nodup_append] at hn
  exact fun q => hn.2.2 _ q _ (by simp) rfl
theorem mid_mem {α : Type} {L pre post : List α} {a : α} (e : L = pre ++ a :: post) : a ∈ L ∧ pre.length < L.length := by subst e; simp
theorem has_t {α β : Type} [DecidableEq α] {l : List (α × β)} {x : α} (h : x ∈ l.map Prod.fst) : has l x = true := has_iff.mpr h
theorem row1 (h : Hl) (ws : List St) : rowF h wShape ws = shapeF h ws := by unfold rowF; rw [if_pos rfl]
theorem row2 (h : Hl) (ws : List St) : rowF h wMark ws = markF h ws := by unfold rowF; rw [if_neg (by decide), if_pos rfl]
theorem row3 (h : Hl) (ws : List St) : rowF h wPoint ws = pointF h ws := by unfold rowF; rw [if_neg (by decide), if_neg (by decide), if_pos rfl]
theorem row4 (h : Hl) (ws : List St) : rowF h wLetter ws = letterF h ws := by unfold rowF; rw [if_neg (by decide), if_neg (by decide), if_neg (by decide), if_pos rfl]
theorem row5 (h : Hl) (ws : List St) : rowF h wGap ws = gapF h ws := by unfold rowF; rw [if_neg (by decide), if_neg (by decide), if_neg (by decide), if_neg (by decide), if_pos rfl]
theorem row6 (h : Hl) (ws : List St) : rowF h wClass ws = classF h ws := by unfold rowF; rw [if_neg (by decide), if_neg (by decide), if_neg (by decide), if_neg (by decide), if_neg (by decide), if_pos rfl]
theorem row7 (h : Hl) (ws : List St) : rowF h wFeature ws = featF h ws := by unfold rowF; rw [if_neg (by decide), if_neg (by decide), if_neg (by decide), if_neg (by decide), if_neg (by decide), if_neg (by decide), if_pos rfl]
theorem row8 (h : Hl) (ws : List St) : rowF h wRule ws = ruleF h ws := by unfold rowF; rw [if_neg (by decide), if_neg (by decide), if_neg (by decide), if_neg (by decide), if_neg (by decide), if_neg (by decide), if_neg (by decide), if_pos rfl]
theorem spot_int {p : Int × Int} (h : SpOk p) : spot2 (intL p.1) (intL p.2) = some p := by
  obtain ⟨a1, a2, a3, a4⟩ := h
  unfold spot2
  rw [sgn_int (by omega) (by omega), sgn_int (by omega) (by omega)]
theorem side_b {s : St} (h : s = wAbove ∨ s = wBelow) : sideB s = true := by rcases h with rfl | rfl <;> decide
/-! rules' rows -/
theorem signs_none {l : List St} (h : ∀ x ∈ l, strB x = false) (k : Nat) : (l.zipIdx k).filter (fun p => strB p.1) = [] := by
  rw [List.filter_eq_nil_iff]
  intro p hp
  have := List.fst_mem_of_mem_zipIdx hp
  simp [h _ this]
theorem part_ok {b c a t : List St} (hb : ∀ x ∈ b, strB x = false) (hc : ∀ x ∈ c, strB x = false) (ha : ∀ x ∈ a, strB x = false) (ht : ∀ x ∈ t, strB x = false) : partF (b ++ [47] :: (c ++ [47] :: (a ++ [62] :: t))) = some (b, c, a, t) := by
  have s1 : strB [47] = true := by decide
  have s2 : strB [62] = true := by decide
  have e : signsL (b ++ [47] :: (c ++ [47] :: (a ++ [62] :: t))) = [([47], b.length), ([47], b.length + 1 + c.length), ([62], b.length + 1 + c.length + 1 + a.length)] := by
    unfold signsL
    have f1 : ∀ (w : St) (n : Nat) (r : List (St × Nat)), strB w = true → ((w, n) :: r).filter (fun p => strB p.1) = (w, n) :: r.filter fun p => strB p.1 := fun w n r h => List.filter_cons_of_pos h
    rw [List.zipIdx_append, List.filter_append, signs_none hb, List.nil_append, List.zipIdx_cons, f1 _ _ _ s1, List.zipIdx_append, List.filter_append, signs_none hc, List.nil_append, List.zipIdx_cons, f1 _ _ _ s1, List.zipIdx_append, List.filter_append, signs_none ha, List.nil_append, List.zipIdx_cons, f1 _ _ _ s2, signs_none ht]
    simp
  unfold partF
  rw [e]
  dsimp only
  rw [if_pos ⟨rfl, rfl, rfl⟩]
  congr 1
  unfold cutAt
  have d1 : (b ++ [47] :: (c ++ [47] :: (a ++ [62] :: t))).drop (b.length + 1) = c ++ [47] :: (a ++ [62] :: t) := by
    rw [← List.singleton_append, ← List.append_assoc, List.drop_left' (by simp)]
  have d2 : (b ++ [47] :: (c ++ [47] :: (a ++ [62] :: t))).drop (b.length + 1 + c.length + 1) = a ++ [62] :: t := by
    have : b ++ [47] :: (c ++ [47] :: (a ++ [62] :: t)) = (b ++ [[47]] ++ c ++ [[47]]) ++ (a ++ [62] :: t) := by simp
    rw [this, List.drop_left' (by simp; omega)]
  have d3 : (b ++ [47] :: (c ++ [47] :: (a ++ [62] :: t))).drop (b.length + 1 + c.length + 1 + a.length + 1) = t := by
    have : b ++ [47] :: (c ++ [47] :: (a ++ [62] :: t)) = (b ++ [[47]] ++ c ++ [[47]] ++ a ++ [[62]]) ++ t := by simp
    rw [this, List.drop_left' (by simp; omega)]
  rw [List.take_left' rfl, d1, d2, d3, List.take_left' (by omega), List.take_left' (by omega)]
theorem sg_no : ∀ c ∈ SIGNS, c ≠ 47 ∧ c ≠ 62 ∧ c ≠ 64 := by decide
theorem name_str {x : St} (h : isName x = true) : strB x = false ∧ x.head? ≠ some 64 := by
  obtain ⟨h1, _, h3⟩ := isName_iff.mp h
  cases x with
  | nil => simp at h1
  | cons c r =>
    have := sg_no c (h3 c List.mem_cons_self)
    refine ⟨?_, by simp [this.2.2]⟩
    simp [strB, this.1, this.2.1]
theorem item_str {h : Hl} (hs : ShOk h.sh) (hc : ClOk h.sh h.cl) {x : St} (hx : ItmOk h.sh h.cl x) : strB x = false ∧ isItem x = true ∧ ∀ h' : Hl, h'.sh = h.sh → h'.cl = h.cl → itemLacks h' x = false := by
  rcases hx with hx | ⟨c, hx, rfl⟩
  · have n := hs.nm.nm x hx
    obtain ⟨a, b⟩ := name_str n
    refine ⟨a, ?_, fun h' e1 e2 => ?_⟩
    · unfold isItem
      rw [if_neg b, n]
    · unfold itemLacks
      rw [if_neg b, e1, has_t hx]
      rfl
  · have n := hc.nm.nm c hx
    refine ⟨by simp [strB], ?_, fun h' e1 e2 => ?_⟩
    · unfold isItem
      simpa using n
    · unfold itemLacks
      simp [e2, has_t hx]
section
variable {h : Hl} (ho : HbOk h)
include ho
theorem rd_sh (rest : List St) : readF {} ((h.sh.map shRw).map lj ++ rest) = readF { sh := h.sh } rest :=
  read_seg shRw (fun l => { sh := l }) h.sh rest fun pre a post e => by
    obtain ⟨m, l⟩ := mid_mem e
    have n := nd_pre (f := Prod.fst) ho.sh.nm.nd e
    have w := ho.sh.wd a m
    have := ho.sh.l16
    rw [show lj (shRw a) = joinC [32] (wShape :: [a.1, intL a.2]) from rfl, line_row (sh_row ho m), row1]
    simp only [shapeF, ho.sh.nm.nm _ (List.mem_map.mpr ⟨a, m, rfl⟩), num_int w.1 (by omega : a.2 < 100000), has_false n, show ¬ 60 ≤ pre.length by omega, decide_false, if_true]
    rfl
theorem rd_ma (rest : List St) : readF { sh := h.sh } ((h.ma.map maRw).map lj ++ rest) = readF { sh := h.sh, ma := h.ma } rest :=
  read_seg maRw (fun l => { sh := h.sh, ma := l }) h.ma rest fun pre a post e => by
    obtain ⟨m, l⟩ := mid_mem e
    have n := nd_pre (f := Prod.fst) (ho.ma.nm.nodup ho.sh.nm.nd) e
    have w := ma_name ho m
    obtain ⟨o1, o2, o3⟩ := ho.ma.ok a m
    rw [show lj (maRw a) = joinC [32] (wMark :: [a.1, a.2.1, intL a.2.2.1.1, intL a.2.2.1.2, intL a.2.2.2.1, intL a.2.2.2.2]) from rfl, line_row (ma_row ho m), row2]
    simp only [markF, ho.sh.nm.nm _ w, side_b o1, spot_int o2, spot_int o3, has_false n, has_t w, Bool.and_self, Bool.not_true, if_true]
    rfl
theorem rd_po (rest : List St) : readF { sh := h.sh, ma := h.ma } ((h.po.map poRw).map lj ++ rest) = readF { sh := h.sh, ma := h.ma, po := h.po } rest :=
  read_seg poRw (fun l => { sh := h.sh, ma := h.ma, po := l }) h.po rest fun pre a post e => by
    obtain ⟨m, l⟩ := mid_mem e
    have n := nd_pre2 (f := Prod.fst) ho.po.nd e
    have w := ho.po.nm a m
    obtain ⟨o1, o2⟩ := ho.po.ok a m
    rw [show lj (poRw a) = joinC [32] (wPoint :: [a.1.1, a.1.2, intL a.2.1, intL a.2.2]) from rfl, line_row (po_row ho m), row3]
    have n' : has pre (a.1.1, a.1.2) = false := has_false n
    simp only [pointF, ho.sh.nm.nm _ w, side_b o1, spot_int o2, n', has_t w, Bool.and_self, Bool.not_true, if_true]
    rfl
theorem rd_le (rest : List St) : readF { sh := h.sh, ma := h.ma, po := h.po } ((h.le.map ltRow).map lj ++ rest) = readF { sh := h.sh, ma := h.ma, po := h.po, le := h.le } rest :=
  read_seg ltRow (fun l => { sh := h.sh, ma := h.ma, po := h.po, le := l }) h.le rest fun pre a post e => by
    obtain ⟨m, l⟩ := mid_mem e
    have n := nd_pre (f := Prod.fst) ho.le.nm.nd e
    have ro := le_row ho m
    have ok := ho.le.el.ok a m
    have fa := ho.le.el.fa a m
    have nm := le_name ho m
    have l6 := ho.le.l6
    obtain ⟨x, j, w, fs⟩ := a
    have fl := ok.fl
    have wy : wayB w = true := by rcases ok.wy with q | q | q <;> (simp only at q; rw [q]; decide)
    simp only at fl
    cases fs with
    | nil =>
      have jp := joinN_pos ok.jo
      simp only [List.length_nil] at fl
      simp only at jp
      omega
    | cons y fs =>
      rw [show lj (ltRow (x, j, w, y :: fs)) = joinC [32] (wLetter :: x :: j :: w :: y :: fs) from rfl, line_row ro, row4]
      have an : allNames (y :: fs) = true := List.all_eq_true.mpr fun f hf => ho.sh.nm.nm _ (fa f hf)
      have lk : ((y :: fs).any fun f => !has h.sh f) = false := by
        rw [List.any_eq_false]
        intro f hf
        rw [has_t (fa f hf)]
        decide
      have fl' : fs.length + 1 = joinN j := fl
      have n' : has pre x = false := has_false n
      simp only [letterF, nm, wy, fl', an, decide_true, Bool.and_self, if_true, n', lk, show ¬ 24 ≤ pre.length by omega, decide_false]
      rfl
theorem rd_ga (rest : List St) : readF { sh := h.sh, ma := h.ma, po := h.po, le := h.le } ((h.ga.map gaRw).map lj ++ rest) = readF { sh := h.sh, ma := h.ma, po := h.po, le := h.le, ga := h.ga } rest :=
  read_seg gaRw (fun l => { sh := h.sh, ma := h.ma, po := h.po, le := h.le, ga := l }) h.ga rest fun pre a post e => by
    obtain ⟨m, l⟩ := mid_mem e
    have n := nd_pre (f := id) (by simpa using ho.ga.nodup ho.le.nm.nd) e
    have w := ho.ga.subset m
    rw [show lj (gaRw a) = joinC [32] (wGap :: [a]) from rfl, line_row (ga_row ho m), row5]
    have n' : pre.contains a = false := by simpa using n
    simp only [gapF, ga_name ho m, n', has_t w, Bool.not_true, if_true]
    rfl
theorem rd_cl (rest : List St) : readF { sh := h.sh, ma := h.ma, po := h.po, le := h.le, ga := h.ga } ((h.cl.map clRw).map lj ++ rest) = readF { sh := h.sh, ma := h.ma, po := h.po, le := h.le, ga := h.ga, cl := h.cl } rest :=
  read_seg clRw (fun l => { sh := h.sh, ma := h.ma, po := h.po, le := h.le, ga := h.ga, cl := l }) h.cl rest fun pre a post e => by
    obtain ⟨m, l⟩ := mid_mem e
    have n := nd_pre (f := Prod.fst) ho.cl.nm.nd e
    have ro := cl_row ho m
    obtain ⟨e1, e2, e3⟩ := ho.cl.el a m
    have nm := cl_name ho m
    have l9 := ho.cl.l9
    obtain ⟨x, fs⟩ := a
    cases fs with
    | nil => simp at e1
    | cons y fs =>
      rw [show lj (clRw (x, y :: fs)) = joinC [32] (wClass :: x :: y :: fs) from rfl, line_row ro, row6]
      have an : allNames (x :: y :: fs) = true := List.all_eq_true.mpr fun f hf => by
        rcases List.mem_cons.mp hf with rfl | hf
        · exact nm
        · exact ho.sh.nm.nm _ (e3 f hf)
      have lk : ((y :: fs).any fun f => !has h.sh f) = false := by
        rw [List.any_eq_false]
        intro f hf
        rw [has_t (e3 f hf)]
        decide
      have n' : has pre x = false := has_false n
      simp only [List.length_cons] at e2
      simp only [classF, an, show fs.length ≤ 19 by omega, decide_true, Bool.and_self, if_true, n', lk, show ¬ 20 ≤ pre.length by omega, decide_false]
      rfl
theorem rd_fe (rest : List St) : readF { sh := h.sh, ma := h.ma, po := h.po, le := h.le, ga := h.ga, cl := h.cl } ((h.fe.map feRw).map lj ++ rest) = readF { sh := h.sh, ma := h.ma, po := h.po, le := h.le, ga := h.ga, cl := h.cl, fe := h.fe } rest :=
  read_seg feRw (fun l => { sh := h.sh, ma := h.ma, po := h.po, le := h.le, ga := h.ga, cl := h.cl, fe := l }) h.fe rest fun pre a post e => by
    obtain ⟨m, l⟩ := mid_mem e
    have n := nd_pre (f := Prod.fst) ho.fe.nm.nd e
    have nm := fe_name ho m
    have l3 := ho.fe.l3
    have ro := fe_row ho m
    obtain ⟨x, b⟩ := a
    rw [show lj (feRw (x, b)) = joinC [32] (wFeature :: [x, if b then wOn else wOff]) from rfl, line_row ro, row7]
    have n' : has pre x = false := has_false n
    cases b <;> (simp only [featF, nm, n', show ¬ 10 ≤ pre.length by omega, decide_false, if_true, Bool.false_eq_true, if_false]; rfl)
theorem rd_ru (rest : List St) : readF { sh := h.sh, ma := h.ma, po := h.po, le := h.le, ga := h.ga, cl := h.cl, fe := h.fe } ((h.ru.map ruRw).map lj ++ rest) = readF h rest :=
  read_seg ruRw (fun l => { sh := h.sh, ma := h.ma, po := h.po, le := h.le, ga := h.ga, cl := h.cl, fe := h.fe, ru := l }) h.ru rest fun pre a post e => by
    obtain ⟨m, l⟩ := mid_mem e
    have n := nd_pre (f := Rl.ti) ho.ru.nm.nd e
    have nm := ho.ru.nm.nm _ (List.mem_map.mpr ⟨a, m, rfl⟩)
    have l26 := ho.ru.ln
    have ro := ru_row ho m
    obtain ⟨fe, b3, c1, c4, a3, t1, t3, ib, ic, ia, it⟩ := ho.ru.el a m
    have nf : isName a.fe = true := ho.fe.nm.nm _ fe
    rw [show lj (ruRw a) = joinC [32] (wRule :: (a.ti :: a.fe :: (a.be ++ [47] :: (a.co ++ [47] :: (a.af ++ [62] :: a.to))))) from rfl, line_row ro, row8]
    have pt : partF (a.be ++ [47] :: (a.co ++ [47] :: (a.af ++ [62] :: a.to))) = some (a.be, a.co, a.af, a.to) := part_ok (fun x hx => (item_str ho.sh ho.cl (ib x hx)).1) (fun x hx => (item_str ho.sh ho.cl (ic x hx)).1) (fun x hx => (item_str ho.sh ho.cl (ia x hx)).1) (fun x hx => (name_str (ho.sh.nm.nm _ (it x hx))).1)
    have all : ∀ x ∈ a.be ++ a.co ++ a.af, ItmOk h.sh h.cl x := fun x hx => by
      simp only [List.mem_append] at hx
      rcases hx with (hx | hx) | hx
      · exact ib x hx
      · exact ic x hx
      · exact ia x hx
    have ok : partsOk (a.be, a.co, a.af, a.to) = true := partsOk_iff.mpr ⟨b3, c1, c4, a3, t1, t3, List.all_eq_true.mpr fun f hf => ho.sh.nm.nm _ (it f hf), fun x hx => (item_str ho.sh ho.cl (all x hx)).2.1⟩
    have rp : rpartF (a.be ++ [47] :: (a.co ++ [47] :: (a.af ++ [62] :: a.to))) = some (a.be, a.co, a.af, a.to) := by
      unfold rpartF
      rw [pt]
      dsimp only
      rw [if_pos ok]
    have lk : ruleLk { sh := h.sh, ma := h.ma, po := h.po, le := h.le, ga := h.ga, cl := h.cl, fe := h.fe, ru := pre } a.fe (a.be, a.co, a.af, a.to) = false := by
      unfold ruleLk
      have q1 : (a.to.any fun w => !has h.sh w) = false := by
        rw [List.any_eq_false]
        intro f hf
        rw [has_t (it f hf)]
        decide
      have q2 : (a.be ++ a.co ++ a.af).any (itemLacks { sh := h.sh, ma := h.ma, po := h.po, le := h.le, ga := h.ga, cl := h.cl, fe := h.fe, ru := pre }) = false := by
        rw [List.any_eq_false]
        intro x hx
        rw [(item_str ho.sh ho.cl (all x hx)).2.2 { sh := h.sh, ma := h.ma, po := h.po, le := h.le, ga := h.ga, cl := h.cl, fe := h.fe, ru := pre } rfl rfl]
        decide
      simp only [q1, q2, has_t fe]
      rfl
    have n' : (pre.map Rl.ti).contains a.ti = false := by simpa using n
    simp only [ruleF, nm, nf, rp, lk, n', show ¬ 30 ≤ pre.length by omega, decide_false, Bool.and_self, if_true]
    rfl
theorem read_hb : readF {} ((hRows h).map lj) = some h := by
  have e : (hRows h).map lj = (h.sh.map shRw).map lj ++ ((h.ma.map maRw).map lj ++ ((h.po.map poRw).map lj ++ ((h.le.map ltRow).map lj ++ ((h.ga.map gaRw).map lj ++ ((h.cl.map clRw).map lj ++ ((h.fe.map feRw).map lj ++ ((h.ru.map ruRw).map lj ++ []))))))) := by
    simp [hRows]
  rw [e, rd_sh ho, rd_ma ho, rd_po ho, rd_le ho, rd_ga ho, rd_cl ho, rd_fe ho, rd_ru ho]
  rfl
theorem e_read_hb {k : Nat} : (run prg (k + 6)).p f_read_hall [.str (joinC [10] ((hRows h).map lj))] = .ok (hallD h) := by
  have hl := hrows_len ho
  have hb : ∀ x ∈ (hRows h).map lj, x.length ≤ 336 := fun x hx => by
    obtain ⟨r, hr, rfl⟩ := List.mem_map.mp hx
    exact (join_bd (hrows_ok ho r hr)).1
  refine e_read_hall (fun q => ?_) (fun x hx => ?_) ?_ ?_ (read_hb ho)
  · have := congrArg List.length q
    simp at this
    have := hl.2
    simp_all
  · obtain ⟨r, hr, rfl⟩ := List.mem_map.mp hx
    have := row_line (hrows_ok ho r hr)
    have := hb _ hx
    exact ⟨(row_line (hrows_ok ho r hr)).1, (row_line (hrows_ok ho r hr)).2, by omega⟩
  · have h1 := joinC_len (y := [10]) ((hRows h).map lj)
    have h2 := sumLen_le hb
    simp only [List.length_map, List.length_cons, List.length_nil] at h1 h2
    simp [SZ]
    omega
  · simp [SZ]
    omega
end
end G
end
section
set_option Elab.async false
set_option linter.all false
set_option maxRecDepth 100000
set_option maxHeartbeats 1000000
namespace G
open PySem PyProof
local macro_rules | `(tactic| simp_arith [$ls,*]) => `(tactic| simp (disch := first | assumption | omega | (simp only [SZ, List.length_map, List.length_append, List.length_cons, List.length_nil, List.length_take, List.length_drop, List.length_range, List.length_zipIdx, List.length_reverse, List.length_replicate, List.length_zip]; omega)) only [ok_ite, bl_ite, c_lt, c_le, c_gt, c_ge, c_eqi, c_nei, c_eqs, c_nes, c_eqb, c_neb, c_is, c_isnot, b_lenL, b_lenT, b_lenD, b_lenI, b_tup, b_tup2, b_lst, b_lst2, c_inK, c_ninK, bind_ok', to_ok, bind_ite, to_ite, noex_ok, of_some, keep_f, keepL_f, keep_t, keepL_t, keepS_f, keepS_t, flS_sh, flS_l, getV_0, getV_s, ↓x_v, ↓x_kn, ↓x_kb, ↓x_ki, ↓x_ks, ↓x_g, ↓x_bin, negD_i, ↓x_neg, ↓x_not, andE_b, orE_b, ↓x_and, ↓x_or, ↓x_cmp, cm2E_e, ↓x_cmp2, ifeE_b, ↓x_ife, ↓x_lst, ↓x_tup, ↓x_dnew, ↓x_dic, ↓x_comp, ↓x_ix, ↓x_sl, turn_f, turn_t2, turn_t3, turn_t4, consO_s, consO_n, compR_n, compR_c, revD_l, ↓x_rev, ↓x_fld, ↓x_call, mkD_n, ↓x_mk, ↓x_blt, ↓x_mth, ↓x_isi, ↓x_lrg, ↓x_lrv, ↓x_nil, ↓x_cons, ↓x_kvn, ↓x_kvc, optD_i, ↓x_on, ↓x_os, ↓x_cn, ↓x_cs, seqD_l, seqD_t, seqD_s, ↓x_seq, ↓x_r1, ↓x_r2, ↓x_r3, enumD_l, enumD_s, ↓x_en, zipD_l, ↓x_zip, revI_l, ↓x_revI, itemsD_d, valsD_d, keysD_d, ↓x_it, ↓x_va, ↓x_ke, ↓s_nil, seqS_nx, seqS_rt, seqS_bk, seqS_ct, seqS_ite, ↓s_cons, ↓s_asg, tupO_l, tupO_t, ↓s_asgT, ↓s_par, augO_t, augO_a, augO_s, ↓s_aug, ↓s_shr, ↓s_app, ↓s_ext, ↓s_ins, ↓s_clr, ↓s_rvs, ↓s_sti, ↓s_stf, ↓s_exp, ↓s_mc, ↓s_mcr, ↓s_for, ↓s_whl, iteS_b, ↓s_ife, ↓s_ret, ↓s_retN, ↓s_brk, ↓s_ct, ↓s_pas, ↓p_nil, ↓p_fld, idxD_i, ↓p_idx, ↓up_nil, ↓up_f, ↓up_i, ↓up_it, truD_b, fldD_i, updE_eq, getF_c, putF_c, putF_n, noex_ite, noMut_i, noMut_b, noMut_n, noMut_t, noMuts_n, noMuts_c, gSet_d, gClr_l, gRvs_l, add_i, sub_i, putR_n, putR_s, toK_s, toK_i, setT_f, setT_t, setAll_n, setAll_c, wp_end_rt, wp_end_nx, wp_em_rt, wp_em_nx, wp_t_nx, wp_t_ct, wp_t_bk, wp_t_rt, noMut_s, b_lenS, gApp_l, gExt_l, List.set_cons_succ, List.set_cons_zero, List.map_cons, List.map_nil, List.cons_append, List.nil_append, List.length_map, List.length_cons, List.length_nil, List.length_range, List.length_zipIdx, if_true, if_false, Bool.false_eq_true, decide_true, decide_false, Bool.not_true, Bool.not_false, Bool.and_true, Bool.true_and, Bool.and_false, Bool.false_and, Bool.or_true, Bool.true_or, Bool.or_false, Bool.false_or, Bool.and_self, Bool.or_self, beq_self_eq_true, leE_n, leE_cn, leE_cs, and_true, true_and, and_self, Nat.add_zero, Nat.zero_add, Int.natCast_add, Int.cast_ofNat_Int, Option.some.injEq, List.getElem_range, List.getElem_zipIdx, List.all_nil, List.all_cons, ix_l0, ix_l1, ix_l2, ix_l3, ix_l4, ix_t0, ix_t1, ix_t2, ix_t3, ix_t4, ix_t5, ite_and, ite_or, seqS_nl, seqS_sq, app_n, app_c, ix_t6, ix_t7, reduceCtorEq, not_true_eq_false, not_false_eq_true, eq_self, ne_eq, $ls,*])
local macro_rules | `(tactic| simp_arith! [$i:ident]) => `(tactic| (refine run_p (fn := $i) rfl rfl rfl ?_; simp only [$i:ident, startE_eq, List.map_cons, List.map_nil, List.length_cons, List.length_nil, List.cons_append, List.nil_append, Nat.reduceAdd, Nat.reduceSub, List.replicate_succ, List.replicate_zero]))
local macro_rules | `(tactic| simp_all_arith [$i:ident]) => `(tactic| (refine run_px (fn := $i) rfl rfl rfl ?_; simp only [$i:ident, startE_eq, List.map_cons, List.map_nil, List.length_cons, List.length_nil, List.cons_append, List.nil_append, Nat.reduceAdd, Nat.reduceSub, List.replicate_succ, List.replicate_zero]))
local macro_rules | `(tactic| simp_all_arith! [$i:ident]) => `(tactic| (refine run_m (fn := $i) rfl rfl rfl ?_; simp only [$i:ident, startE_eq, List.map_cons, List.map_nil, List.length_cons, List.length_nil, List.cons_append, List.nil_append, Nat.reduceAdd, Nat.reduceSub, List.replicate_succ, List.replicate_zero]))
/-! ### a drawn hall, told and read -/
theorem ixL0 (l : Lt) : ixD (eL l) (.int 0) = .ok (.str l.1) := by unfold eL; exact ix_t0 _ _
theorem ixL1 (l : Lt) : ixD (eL l) (.int 1) = .ok (.str l.2.1) := by unfold eL; exact ix_t1 _ _ _
theorem ixL2 (l : Lt) : ixD (eL l) (.int 2) = .ok (.str l.2.2.1) := by unfold eL; exact ix_t2 _ _ _ _
theorem ixL3 (l : Lt) : ixD (eL l) (.int 3) = .ok (eSs l.2.2.2) := by unfold eL; exact ix_t3 _ _ _ _ _
theorem HbOk.le_ok {h : Hl} (ho : HbOk h) : LeOk h := ⟨fun p hp => ⟨(ho.le.el.ok p hp).jo, (ho.le.el.ok p hp).fl⟩, fun p hp f hf => le_face ho hp hf, fun p hp => le_name ho hp⟩
theorem e_drawn {k : Nat} {ns : List Int} {many : Nat} (hm : many ≤ 26) : ∃ h t, (run prg (k + 6)).p f_law_hall_by [.scr ns, .int many] = .ok (hT h) ∧ (run prg (k + 6)).p f_law_hall_text [hT h] = .ok (.str t) ∧ (run prg (k + 6)).p f_read_hall [.str t] = .ok (hallD h) ∧ HbOk h ∧ h.ru.length = many := by
  obtain ⟨h, h1, h2, h3⟩ := e_hall_by (k := k + 3) (ns := ns) (many := many) (M := many) fun c sh le cl fe o1 o2 o3 o4 => e_rules_by hm o1 o2 o3 o4
  exact ⟨h, _, h1, e_hall_text (k := k + 4) h2, e_read_hb h2, h2, h3⟩
end G
end
section
set_option Elab.async false
set_option linter.all false
set_option maxRecDepth 100000
set_option maxHeartbeats 1000000
namespace G
open PySem PyProof
/-! ### things of one kind, likened -/
/-- an encoding that == sees through, for the things of P -/
structure Cmp {α : Type} (n : Nat) (P : α → Prop) (enc : α → D) : Prop where
  ok : ∀ a, P a → okD n (enc a) = true
  al : ∀ a b, P a → P b → alignD (enc a) (enc b) = true
  inj : ∀ a b, P a → P b → enc a = enc b → a = b
variable {α β γ : Type}
theorem cmp_str (n : Nat) : Cmp n (fun x : St => asc x) .str := ⟨fun a h => ok_str h, fun _ _ _ _ => rfl, fun _ _ _ _ h => D.str.inj h⟩
theorem cmp_int (n : Nat) : Cmp n (fun _ : Int => True) .int := ⟨fun a _ => by cases n <;> rfl, fun _ _ _ _ => rfl, fun _ _ _ _ h => D.int.inj h⟩
theorem cmp_nat (n : Nat) : Cmp n (fun _ : Nat => True) (fun k => .int (k : Int)) := ⟨fun a _ => by cases n <;> rfl, fun _ _ _ _ => rfl, fun _ _ _ _ h => by have := D.int.inj h; omega⟩
theorem cmp_bl (n : Nat) : Cmp n (fun _ : Bool => True) .bl := ⟨fun a _ => by cases n <;> rfl, fun _ _ _ _ => rfl, fun _ _ _ _ h => D.bl.inj h⟩
theorem Cmp.oks {n : Nat} {P : α → Prop} {enc : α → D} (c : Cmp n P enc) : ∀ {l : List α}, (∀ x ∈ l, P x) → okDs n (l.map enc) = true
  | [], _ => by cases n <;> rfl
  | a :: r, h => by
    have : okDs n ((a :: r).map enc) = (okD n (enc a) && okDs n (r.map enc)) := by cases n <;> rfl
    rw [this, c.ok a (h a List.mem_cons_self), c.oks fun x hx => h x (List.mem_cons_of_mem _ hx)]
    rfl
theorem Cmp.als {n : Nat} {P : α → Prop} {enc : α → D} (c : Cmp n P enc) : ∀ {l m : List α}, (∀ x ∈ l, P x) → (∀ x ∈ m, P x) → alignL (l.map enc) (m.map enc) = true
  | [], _, _, _ => by simp [alignL]
  | _ :: _, [], _, _ => by simp [alignL]
  | a :: r, b :: q, h, g => by
    simp only [List.map_cons, alignL, Bool.and_eq_true]
    exact ⟨c.al a b (h a List.mem_cons_self) (g b List.mem_cons_self), c.als (fun x hx => h x (List.mem_cons_of_mem _ hx)) fun x hx => g x (List.mem_cons_of_mem _ hx)⟩
theorem Cmp.injs {n : Nat} {P : α → Prop} {enc : α → D} (c : Cmp n P enc) : ∀ {l m : List α}, (∀ x ∈ l, P x) → (∀ x ∈ m, P x) → l.map enc = m.map enc → l = m
  | [], [], _, _, _ => rfl
  | [], _ :: _, _, _, e => by simp at e
  | _ :: _, [], _, _, e => by simp at e
  | a :: r, b :: q, h, g, e => by
    simp only [List.map_cons, List.cons.injEq] at e
    rw [c.inj a b (h a List.mem_cons_self) (g b List.mem_cons_self) e.1, c.injs (fun x hx => h x (List.mem_cons_of_mem _ hx)) (fun x hx => g x (List.mem_cons_of_mem _ hx)) e.2]
theorem cmp_lst {n : Nat} {P : α → Prop} {enc : α → D} (c : Cmp n P enc) : Cmp (n + 1) (fun l : List α => ∀ x ∈ l, P x) (fun l => .lst (l.map enc)) :=
  ⟨fun l h => c.oks h, fun l m h g => c.als h g, fun l m h g e => c.injs h g (D.lst.inj e)⟩
theorem cmp_tupl {n : Nat} {P : α → Prop} {enc : α → D} (c : Cmp n P enc) : Cmp (n + 1) (fun l : List α => ∀ x ∈ l, P x) (fun l => .tup (l.map enc)) :=
  ⟨fun l h => c.oks h, fun l m h g => c.als h g, fun l m h g e => c.injs h g (D.tup.inj e)⟩
theorem cmp_t2 {n : Nat} {P : α → Prop} {Q : β → Prop} {ea : α → D} {eb : β → D} (c : Cmp n P ea) (d : Cmp n Q eb) : Cmp (n + 1) (fun p : α × β => P p.1 ∧ Q p.2) (fun p => .tup [ea p.1, eb p.2]) :=
  ⟨fun p h => by
    show (okD n (ea p.1) && (okD n (eb p.2) && okDs n [])) = true
    rw [c.ok _ h.1, d.ok _ h.2]
    cases n <;> rfl, fun p q h g => by
    show (alignD (ea p.1) (ea q.1) && (alignD (eb p.2) (eb q.2) && alignL [] [])) = true
    rw [c.al _ _ h.1 g.1, d.al _ _ h.2 g.2]
    rfl, fun p q h g e => by
    have e := D.tup.inj e
    simp only [List.cons.injEq, and_true] at e
    exact Prod.ext (c.inj _ _ h.1 g.1 e.1) (d.inj _ _ h.2 g.2 e.2)⟩
theorem Cmp.pre {n : Nat} {P : α → Prop} {Q : β → Prop} {enc : α → D} {en2 : β → D} (c : Cmp n P enc) (f : β → α) (hf : ∀ b, en2 b = enc (f b)) (hp : ∀ b, Q b → P (f b)) (hi : ∀ a b, f a = f b → a = b) : Cmp n Q en2 :=
  ⟨fun b h => by rw [hf]; exact c.ok _ (hp b h), fun a b h g => by rw [hf, hf]; exact c.al _ _ (hp a h) (hp b g), fun a b h g e => by rw [hf, hf] at e; exact hi _ _ (c.inj _ _ (hp a h) (hp b g) e)⟩
theorem Cmp.eqs [DecidableEq α] {n : Nat} {P : α → Prop} {enc : α → D} (c : Cmp n P enc) {l m : List α} (h : ∀ x ∈ l, P x) (g : ∀ x ∈ m, P x) : PyData.eqvAll (pds (l.map enc)) (pds (m.map enc)) = decide (l = m) := by
  rw [Bool.eq_iff_iff, decide_eq_true_eq, eqvs_iff (c.oks h) (c.oks g) (c.als h g)]
  exact ⟨c.injs h g, fun e => by rw [e]⟩
theorem Cmp.eqv [DecidableEq α] {n : Nat} {P : α → Prop} {enc : α → D} (c : Cmp n P enc) {a b : α} (h : P a) (g : P b) : PyData.eqv (pd (enc a)) (pd (enc b)) = decide (a = b) := by
  rw [Bool.eq_iff_iff, decide_eq_true_eq, eqv_iff (c.ok a h) (c.ok b g) (c.al a b h g)]
  exact ⟨c.inj a b h g, fun e => by rw [e]⟩
/-! at depth 20, as == asks -/
theorem Cmp.eqL [DecidableEq α] {P : α → Prop} {enc : α → D} (c : Cmp 20 P enc) {l m : List α} (h : ∀ x ∈ l, P x) (g : ∀ x ∈ m, P x) : cmpD .eq (.lst (l.map enc)) (.lst (m.map enc)) = .ok (decide (l = m)) := by
  show (if okDs 20 (l.map enc) && okDs 20 (m.map enc) then R.ok (PyData.eqvAll (pds (l.map enc)) (pds (m.map enc))) else R.bad) = _
  rw [c.oks h, c.oks g, c.eqs h g]
  rfl
theorem Cmp.neL [DecidableEq α] {P : α → Prop} {enc : α → D} (c : Cmp 20 P enc) {l m : List α} (h : ∀ x ∈ l, P x) (g : ∀ x ∈ m, P x) : cmpD .ne (.lst (l.map enc)) (.lst (m.map enc)) = .ok (!decide (l = m)) := by
  show (cmpD .eq (.lst (l.map enc)) (.lst (m.map enc))).bind (fun c => R.ok (!c)) = _
  rw [c.eqL h g]
  rfl
theorem Cmp.eqT [DecidableEq α] {P : α → Prop} {enc : α → D} (c : Cmp 20 P enc) {l m : List α} (h : ∀ x ∈ l, P x) (g : ∀ x ∈ m, P x) : cmpD .eq (.tup (l.map enc)) (.tup (m.map enc)) = .ok (decide (l = m)) := by
  show (if okDs 20 (l.map enc) && okDs 20 (m.map enc) then R.ok (PyData.eqvAll (pds (l.map enc)) (pds (m.map enc))) else R.bad) = _
  rw [c.oks h, c.oks g, c.eqs h g]
  rfl
theorem Cmp.neT [DecidableEq α] {P : α → Prop} {enc : α → D} (c : Cmp 20 P enc) {l m : List α} (h : ∀ x ∈ l, P x) (g : ∀ x ∈ m, P x) : cmpD .ne (.tup (l.map enc)) (.tup (m.map enc)) = .ok (!decide (l = m)) := by
  show (cmpD .eq (.tup (l.map enc)) (.tup (m.map enc))).bind (fun c => R.ok (!c)) = _
  rw [c.eqT h g]
  rfl
theorem Cmp.inL [DecidableEq α] {P : α → Prop} {enc : α → D} (c : Cmp 20 P enc) {a : α} {l : List α} (h : P a) (g : ∀ x ∈ l, P x) : cmpD .isin (enc a) (.lst (l.map enc)) = .ok (l.contains a) := by
  have e : inD (enc a) (l.map enc) = .ok (l.contains a) := by
    unfold inD
    rw [c.ok a h, c.oks g]
    simp only [Bool.and_self, if_true, R.ok.injEq]
    rw [Bool.eq_iff_iff]
    simp only [List.any_map, List.any_eq_true, Function.comp, List.contains_iff_mem]
    constructor
    · rintro ⟨x, hx, q⟩
      rw [c.eqv (g x hx) h] at q
      have : x = a := by simpa using q
      exact this ▸ hx
    · intro hx
      exact ⟨a, hx, by rw [c.eqv h h]; simp⟩
  rw [← e]
  cases enc a <;> rfl
theorem cmp_Ss (n : Nat) : Cmp (n + 1) (fun l : List St => ∀ x ∈ l, asc x) eSs := cmp_tupl (cmp_str n)
/-- rules -/
theorem cmp_Rl (n : Nat) : Cmp (n + 2) (fun r : Rl => (asc r.ti ∧ asc r.fe) ∧ (∀ x ∈ r.be, asc x) ∧ (∀ x ∈ r.co, asc x) ∧ (∀ x ∈ r.af, asc x) ∧ ∀ x ∈ r.to, asc x) eRl :=
  ⟨fun r ⟨⟨h1, h2⟩, h3, h4, h5, h6⟩ => by
    show (okD (n + 1) (.str r.ti) && (okD (n + 1) (.str r.fe) && (okD (n + 1) (eSs r.be) && (okD (n + 1) (eSs r.co) && (okD (n + 1) (eSs r.af) && (okD (n + 1) (eSs r.to) && okDs (n + 1) [])))))) = true
    rw [ok_str h1, ok_str h2, (cmp_Ss n).ok _ h3, (cmp_Ss n).ok _ h4, (cmp_Ss n).ok _ h5, (cmp_Ss n).ok _ h6]
    rfl, fun r q ⟨⟨h1, h2⟩, h3, h4, h5, h6⟩ ⟨⟨g1, g2⟩, g3, g4, g5, g6⟩ => by
    show (true && (true && (alignD (eSs r.be) (eSs q.be) && (alignD (eSs r.co) (eSs q.co) && (alignD (eSs r.af) (eSs q.af) && (alignD (eSs r.to) (eSs q.to) && true)))))) = true
    rw [(cmp_Ss n).al _ _ h3 g3, (cmp_Ss n).al _ _ h4 g4, (cmp_Ss n).al _ _ h5 g5, (cmp_Ss n).al _ _ h6 g6]
    rfl, fun r q ⟨⟨h1, h2⟩, h3, h4, h5, h6⟩ ⟨⟨g1, g2⟩, g3, g4, g5, g6⟩ e => by
    have e := D.tup.inj e
    simp only [List.cons.injEq, and_true, D.str.injEq] at e
    obtain ⟨e1, e2, e3, e4, e5, e6⟩ := e
    cases r
    cases q
    simp only [Rl.mk.injEq]
    exact ⟨e1, e2, (cmp_Ss n).inj _ _ h3 g3 e3, (cmp_Ss n).inj _ _ h4 g4 e4, (cmp_Ss n).inj _ _ h5 g5 e5, (cmp_Ss n).inj _ _ h6 g6 e6⟩⟩
end G
end
section
set_option Elab.async false
set_option linter.all false
set_option maxRecDepth 100000
set_option maxHeartbeats 1000000
namespace G
open PySem PyProof
local macro_rules | `(tactic| simp_arith [$ls,*]) => `(tactic| simp (disch := first | assumption | omega | (simp only [SZ, List.length_map, List.length_append, List.length_cons, List.length_nil, List.length_take, List.length_drop, List.length_range, List.length_zipIdx, List.length_reverse, List.length_replicate, List.length_zip]; omega)) only [ok_ite, bl_ite, c_lt, c_le, c_gt, c_ge, c_eqi, c_nei, c_eqs, c_nes, c_eqb, c_neb, c_is, c_isnot, b_lenL, b_lenT, b_lenD, b_lenI, b_tup, b_tup2, b_lst, b_lst2, c_inK, c_ninK, bind_ok', to_ok, bind_ite, to_ite, noex_ok, of_some, keep_f, keepL_f, keep_t, keepL_t, keepS_f, keepS_t, flS_sh, flS_l, getV_0, getV_s, ↓x_v, ↓x_kn, ↓x_kb, ↓x_ki, ↓x_ks, ↓x_g, ↓x_bin, negD_i, ↓x_neg, ↓x_not, andE_b, orE_b, ↓x_and, ↓x_or, ↓x_cmp, cm2E_e, ↓x_cmp2, ifeE_b, ↓x_ife, ↓x_lst, ↓x_tup, ↓x_dnew, ↓x_dic, ↓x_comp, ↓x_ix, ↓x_sl, turn_f, turn_t2, turn_t3, turn_t4, consO_s, consO_n, compR_n, compR_c, revD_l, ↓x_rev, ↓x_fld, ↓x_call, mkD_n, ↓x_mk, ↓x_blt, ↓x_mth, ↓x_isi, ↓x_lrg, ↓x_lrv, ↓x_nil, ↓x_cons, ↓x_kvn, ↓x_kvc, optD_i, ↓x_on, ↓x_os, ↓x_cn, ↓x_cs, seqD_l, seqD_t, seqD_s, ↓x_seq, ↓x_r1, ↓x_r2, ↓x_r3, enumD_l, enumD_s, ↓x_en, zipD_l, ↓x_zip, revI_l, ↓x_revI, itemsD_d, valsD_d, keysD_d, ↓x_it, ↓x_va, ↓x_ke, ↓s_nil, seqS_nx, seqS_rt, seqS_bk, seqS_ct, seqS_ite, ↓s_cons, ↓s_asg, tupO_l, tupO_t, ↓s_asgT, ↓s_par, augO_t, augO_a, augO_s, ↓s_aug, ↓s_shr, ↓s_app, ↓s_ext, ↓s_ins, ↓s_clr, ↓s_rvs, ↓s_sti, ↓s_stf, ↓s_exp, ↓s_mc, ↓s_mcr, ↓s_for, ↓s_whl, iteS_b, ↓s_ife, ↓s_ret, ↓s_retN, ↓s_brk, ↓s_ct, ↓s_pas, ↓p_nil, ↓p_fld, idxD_i, ↓p_idx, ↓up_nil, ↓up_f, ↓up_i, ↓up_it, truD_b, fldD_i, updE_eq, getF_c, putF_c, putF_n, noex_ite, noMut_i, noMut_b, noMut_n, noMut_t, noMuts_n, noMuts_c, gSet_d, gClr_l, gRvs_l, add_i, sub_i, putR_n, putR_s, toK_s, toK_i, setT_f, setT_t, setAll_n, setAll_c, wp_end_rt, wp_end_nx, wp_em_rt, wp_em_nx, wp_t_nx, wp_t_ct, wp_t_bk, wp_t_rt, noMut_s, b_lenS, gApp_l, gExt_l, List.set_cons_succ, List.set_cons_zero, List.map_cons, List.map_nil, List.cons_append, List.nil_append, List.length_map, List.length_cons, List.length_nil, List.length_range, List.length_zipIdx, if_true, if_false, Bool.false_eq_true, decide_true, decide_false, Bool.not_true, Bool.not_false, Bool.and_true, Bool.true_and, Bool.and_false, Bool.false_and, Bool.or_true, Bool.true_or, Bool.or_false, Bool.false_or, Bool.and_self, Bool.or_self, beq_self_eq_true, leE_n, leE_cn, leE_cs, and_true, true_and, and_self, Nat.add_zero, Nat.zero_add, Int.natCast_add, Int.cast_ofNat_Int, Option.some.injEq, List.getElem_range, List.getElem_zipIdx, List.all_nil, List.all_cons, ix_l0, ix_l1, ix_l2, ix_l3, ix_l4, ix_t0, ix_t1, ix_t2, ix_t3, ix_t4, ix_t5, ite_and, ite_or, seqS_nl, seqS_sq, app_n, app_c, ix_t6, ix_t7, reduceCtorEq, not_true_eq_false, not_false_eq_true, eq_self, ne_eq, mod_p, fdiv_p, ml, mr, r1, r2, b_mixed, $ls,*])
local macro_rules | `(tactic| simp_arith! [$i:ident]) => `(tactic| (refine run_p (fn := $i) rfl rfl rfl ?_; simp only [$i:ident, startE_eq, List.map_cons, List.map_nil, List.length_cons, List.length_nil, List.cons_append, List.nil_append, Nat.reduceAdd, Nat.reduceSub, List.replicate_succ, List.replicate_zero]))
local macro_rules | `(tactic| simp_all_arith [$i:ident]) => `(tactic| (refine run_px (fn := $i) rfl rfl rfl ?_; simp only [$i:ident, startE_eq, List.map_cons, List.map_nil, List.length_cons, List.length_nil, List.cons_append, List.nil_append, Nat.reduceAdd, Nat.reduceSub, List.replicate_succ, List.replicate_zero]))
local macro_rules | `(tactic| simp_all_arith! [$i:ident]) => `(tactic| (refine run_m (fn := $i) rfl rfl rfl ?_; simp only [$i:ident, startE_eq, List.map_cons, List.map_nil, List.length_cons, List.length_nil, List.cons_append, List.nil_append, Nat.reduceAdd, Nat.reduceSub, List.replicate_succ, List.replicate_zero]))
/-! ### cells by the script -/
abbrev Ce := St × List Nat
def eC (c : Ce) : D := .tup [.str c.1, .tup (c.2.map fun (n : Nat) => .int (n : Int))]
def totC (cs : List Ce) : Nat := (cs.map fun c => c.2.length).sum
structure CeOk (sh : List (St × Int)) (cs : List Ce) : Prop where
  nm : ∀ c ∈ cs, c.1 ∈ sh.map Prod.fst
  fl : (cs.map Prod.snd).flatten = List.range (totC cs)
  ne : ∀ c, cs.head? = some c → c.2 ≠ []
  l4 : ∀ c ∈ cs, c.2.length ≤ 4
theorem CeOk.app {sh : List (St × Int)} {cs : List Ce} (h : CeOk sh cs) {s : St} {n : Nat} (hs : s ∈ sh.map Prod.fst) (hn : cs = [] → n ≠ 0) (h4 : n ≤ 4) : CeOk sh (cs ++ [(s, List.range' (totC cs) n)]) := by
  constructor
  · intro c hc
    rcases List.mem_append.mp hc with hc | hc
    · exact h.nm c hc
    · rw [List.mem_singleton] at hc
      subst hc
      exact hs
  · rw [List.map_append, List.flatten_append, h.fl]
    have e : totC (cs ++ [(s, List.range' (totC cs) n)]) = totC cs + n := by simp [totC]
    rw [e, List.range_eq_range', List.range_eq_range']
    have := List.range'_append_1 (s := 0) (m := totC cs) (n := n)
    simpa using this
  · intro c hc
    cases cs with
    | nil =>
      simp at hc
      subst hc
      have := hn rfl
      simp [this]
    | cons x r =>
      simp at hc
      exact h.ne c (by simp [hc])
  · intro c hc
    rcases List.mem_append.mp hc with hc | hc
    · exact h.l4 c hc
    · rw [List.mem_singleton] at hc
      subst hc
      simpa using h4
theorem totC_le {cs : List Ce} (h : ∀ c ∈ cs, c.2.length ≤ 4) : totC cs ≤ 4 * cs.length := by
  unfold totC
  induction cs with
  | nil => simp
  | cons c r ih =>
    have h1 := h c List.mem_cons_self
    have h2 := ih fun x hx => h x (List.mem_cons_of_mem _ hx)
    simp only [List.map_cons, List.sum_cons, List.length_cons]
    omega
theorem cut_50 {α : Type} (xs : List α) (a b : Option Int) : (cut xs a b).length ≤ xs.length := by
  unfold cut
  rw [List.length_take, List.length_drop]
  omega
theorem e_cells_by {k a : Nat} {ns : List Int} {sh : List (St × Int)} (hn : ns.length ≤ 63) (hl : sh.length ≤ 16) (h1 : 1 ≤ sh.length) : ∃ cs, (run prg (k + 2)).p f_law_cells_by [.scr ns, .int (a : Int), .lst (sh.map eShT)] = .ok (.lst (cs.map eC)) ∧ CeOk sh cs ∧ cs.length ≤ 63 := by
  suffices ∃ d, (run prg (k + 2)).p f_law_cells_by [.scr ns, .int (a : Int), .lst (sh.map eShT)] = .ok d ∧ ∃ cs, d = .lst (cs.map eC) ∧ CeOk sh cs ∧ cs.length ≤ 63 by
    obtain ⟨d, h1, cs, rfl, h2⟩ := this
    exact ⟨cs, h1, h2⟩
  simp_all_arith [i_law_cells_by]
  have sl : ∀ a b, slD (.scr ns) a b = .ok (.lst ((cut ns a b).map .int)) := fun _ _ => rfl
  obtain ⟨cl, hc⟩ : ∃ c, c = cut ns (some (a : Int)) (some ((a : Int) + 50)) := ⟨_, rfl⟩
  have c63 : cl.length ≤ 63 := by rw [hc]; exact Nat.le_trans (cut_50 _ _ _) hn
  simp_arith [sl, ← hc, enum_map]
  refine wp_forN (fun cs : List Ce => [some (.scr ns), some (.int (a : Int)), some (.lst (sh.map eShT)), some (.lst (cs.map eC)), some (.int (totC cs : Nat)), none, none, none, none]) (fun i cs => CeOk sh cs ∧ cs.length = i) [] (Mq_end _) ⟨⟨by simp, by simp [totC], by simp, by simp⟩, rfl⟩ (by simp [leE, totC]) (fun i hi cs ⟨g1, g2⟩ => ⟨_, rfl, ?_⟩) fun cs ⟨g1, g2⟩ => ?_
  · have hi : i < cl.length := by simpa using hi
    have t4 := totC_le g1.l4
    obtain ⟨m, hm⟩ : ∃ m, m = mixF cl[i] ((i : Int) + 400) := ⟨_, rfl⟩
    obtain ⟨z, hz, z0, z4⟩ := ix_lit (xs := [0, 1, 1, 1, 2, 2, 3, 4]) (a := m) (b := 8) (P := fun x => 0 ≤ x ∧ x ≤ 4) (by decide) rfl (by decide)
    have hz : ixD (.lst [.int 0, .int 1, .int 1, .int 1, .int 2, .int 2, .int 3, .int 4]) (.int (m % 8)) = .ok (.int z) := hz
    obtain ⟨n, rfl⟩ := Int.eq_ofNat_of_zero_le z0
    have e3 := ix_pk (enc := eShT) (a := m / 8) h1
    have e4 := pk_mem h1 (m / 8)
    generalize pk sh h1 (m / 8) = p at e3 e4
    have pm : p.1 ∈ sh.map Prod.fst := List.mem_map.mpr ⟨p, e4, rfl⟩
    have Lz : cs.length < SZ := by simp [SZ]; omega
    have rg : ∀ n : Nat, n ≤ 4 → rng2D (.int (totC cs : Nat)) (.int ((totC cs : Int) + (n : Int))) = .ok ((List.range' (totC cs) n).map fun (i : Nat) => .int (i : Int)) := fun n hn => by
      have := r2 (m := totC cs) (n := totC cs + n) (by omega) (by omega)
      rw [Nat.add_sub_cancel_left] at this
      exact this
    have tz : ∀ n : Nat, n ≤ 4 → (n ≤ SZ) = True := fun n hn => by simp [SZ]; omega
    have put : ∀ n : Nat, n ≤ 4 → (cs = [] → n ≠ 0) → ∃ s' : List Ce, (D.lst (cs.map eC ++ [.tup [.str p.1, .tup ((List.range' (totC cs) n).map fun (i : Nat) => .int (i : Int))]]) = D.lst (s'.map eC) ∧ D.int ((totC cs : Int) + (n : Int)) = D.int (totC s' : Nat)) ∧ CeOk sh s' ∧ s'.length = i + 1 := fun n hn h0 => by
      refine ⟨cs ++ [(p.1, List.range' (totC cs) n)], ?_, g1.app pm h0 hn, by simp [g2]⟩
      have e : ((totC (cs ++ [(p.1, List.range' (totC cs) n)]) : Nat) : Int) = (totC cs : Int) + (n : Int) := by simp [totC]
      rw [e, List.map_append]
      exact ⟨rfl, rfl⟩
    have n4 : n ≤ 4 := by omega
    by_cases h0 : totC cs = 0
    · have mx : bltD .max [.int 1, .int (n : Int)] = .ok (.int ((max 1 n : Nat) : Int)) := by
        show R.ok (D.int (if (n : Int) > 1 then (n : Int) else 1)) = _
        congr 2
        split <;> omega
      have q4 : max 1 n ≤ 4 := by omega
      have q1 : 1 ≤ max 1 n := by omega
      generalize max 1 n = w at mx q4 q1
      have h0i : (((totC cs : Nat) : Int) = 0) = True := by simp [h0]
      simp_arith [← hm, hz, h0i, mx, e3, eShT, rg w q4, tz w q4, List.length_map, List.length_range']
      exact put w q4 fun q => by omega
    · have h0' : ¬ ((totC cs : Nat) : Int) = 0 := by omega
      simp_arith [← hm, hz, h0', e3, eShT, rg n n4, tz n n4, List.length_map, List.length_range']
      exact put n n4 fun q => absurd (by rw [q]; rfl) h0
  · simp_arith []
    exact ⟨cs, rfl, g1, by simp at g2; omega⟩
end G
end
section
set_option Elab.async false
set_option linter.all false
set_option maxRecDepth 100000
set_option maxHeartbeats 1000000
namespace G
open PySem PyProof
local macro_rules | `(tactic| simp_arith [$ls,*]) => `(tactic| simp (disch := first | assumption | omega | (simp only [SZ, List.length_map, List.length_append, List.length_cons, List.length_nil, List.length_take, List.length_drop, List.length_range, List.length_zipIdx, List.length_reverse, List.length_replicate, List.length_zip]; omega)) only [ok_ite, bl_ite, c_lt, c_le, c_gt, c_ge, c_eqi, c_nei, c_eqs, c_nes, c_eqb, c_neb, c_is, c_isnot, b_lenL, b_lenT, b_lenD, b_lenI, b_tup, b_tup2, b_lst, b_lst2, c_inK, c_ninK, bind_ok', to_ok, bind_ite, to_ite, noex_ok, of_some, keep_f, keepL_f, keep_t, keepL_t, keepS_f, keepS_t, flS_sh, flS_l, getV_0, getV_s, ↓x_v, ↓x_kn, ↓x_kb, ↓x_ki, ↓x_ks, ↓x_g, ↓x_bin, negD_i, ↓x_neg, ↓x_not, andE_b, orE_b, ↓x_and, ↓x_or, ↓x_cmp, cm2E_e, ↓x_cmp2, ifeE_b, ↓x_ife, ↓x_lst, ↓x_tup, ↓x_dnew, ↓x_dic, ↓x_comp, ↓x_ix, ↓x_sl, turn_f, turn_t2, turn_t3, turn_t4, consO_s, consO_n, compR_n, compR_c, revD_l, ↓x_rev, ↓x_fld, ↓x_call, mkD_n, ↓x_mk, ↓x_blt, ↓x_mth, ↓x_isi, ↓x_lrg, ↓x_lrv, ↓x_nil, ↓x_cons, ↓x_kvn, ↓x_kvc, optD_i, ↓x_on, ↓x_os, ↓x_cn, ↓x_cs, seqD_l, seqD_t, seqD_s, ↓x_seq, ↓x_r1, ↓x_r2, ↓x_r3, enumD_l, enumD_s, ↓x_en, zipD_l, ↓x_zip, revI_l, ↓x_revI, itemsD_d, valsD_d, keysD_d, ↓x_it, ↓x_va, ↓x_ke, ↓s_nil, seqS_nx, seqS_rt, seqS_bk, seqS_ct, seqS_ite, ↓s_cons, ↓s_asg, tupO_l, tupO_t, ↓s_asgT, ↓s_par, augO_t, augO_a, augO_s, ↓s_aug, ↓s_shr, ↓s_app, ↓s_ext, ↓s_ins, ↓s_clr, ↓s_rvs, ↓s_sti, ↓s_stf, ↓s_exp, ↓s_mc, ↓s_mcr, ↓s_for, ↓s_whl, iteS_b, ↓s_ife, ↓s_ret, ↓s_retN, ↓s_brk, ↓s_ct, ↓s_pas, ↓p_nil, ↓p_fld, idxD_i, ↓p_idx, ↓up_nil, ↓up_f, ↓up_i, ↓up_it, truD_b, fldD_i, updE_eq, getF_c, putF_c, putF_n, noex_ite, noMut_i, noMut_b, noMut_n, noMut_t, noMuts_n, noMuts_c, gSet_d, gClr_l, gRvs_l, add_i, sub_i, putR_n, putR_s, toK_s, toK_i, setT_f, setT_t, setAll_n, setAll_c, wp_end_rt, wp_end_nx, wp_em_rt, wp_em_nx, wp_t_nx, wp_t_ct, wp_t_bk, wp_t_rt, noMut_s, b_lenS, gApp_l, gExt_l, List.set_cons_succ, List.set_cons_zero, List.map_cons, List.map_nil, List.cons_append, List.nil_append, List.length_map, List.length_cons, List.length_nil, List.length_range, List.length_zipIdx, if_true, if_false, Bool.false_eq_true, decide_true, decide_false, Bool.not_true, Bool.not_false, Bool.and_true, Bool.true_and, Bool.and_false, Bool.false_and, Bool.or_true, Bool.true_or, Bool.or_false, Bool.false_or, Bool.and_self, Bool.or_self, beq_self_eq_true, leE_n, leE_cn, leE_cs, and_true, true_and, and_self, Nat.add_zero, Nat.zero_add, Int.natCast_add, Int.cast_ofNat_Int, Option.some.injEq, List.getElem_range, List.getElem_zipIdx, List.all_nil, List.all_cons, ix_l0, ix_l1, ix_l2, ix_l3, ix_l4, ix_t0, ix_t1, ix_t2, ix_t3, ix_t4, ix_t5, ite_and, ite_or, seqS_nl, seqS_sq, app_n, app_c, ix_t6, ix_t7, reduceCtorEq, not_true_eq_false, not_false_eq_true, eq_self, ne_eq, mod_p, fdiv_p, ml, mr, r1, r2, b_mixed, $ls,*])
local macro_rules | `(tactic| simp_arith! [$i:ident]) => `(tactic| (refine run_p (fn := $i) rfl rfl rfl ?_; simp only [$i:ident, startE_eq, List.map_cons, List.map_nil, List.length_cons, List.length_nil, List.cons_append, List.nil_append, Nat.reduceAdd, Nat.reduceSub, List.replicate_succ, List.replicate_zero]))
local macro_rules | `(tactic| simp_all_arith [$i:ident]) => `(tactic| (refine run_px (fn := $i) rfl rfl rfl ?_; simp only [$i:ident, startE_eq, List.map_cons, List.map_nil, List.length_cons, List.length_nil, List.cons_append, List.nil_append, Nat.reduceAdd, Nat.reduceSub, List.replicate_succ, List.replicate_zero]))
local macro_rules | `(tactic| simp_all_arith! [$i:ident]) => `(tactic| (refine run_m (fn := $i) rfl rfl rfl ?_; simp only [$i:ident, startE_eq, List.map_cons, List.map_nil, List.length_cons, List.length_nil, List.cons_append, List.nil_append, Nat.reduceAdd, Nat.reduceSub, List.replicate_succ, List.replicate_zero]))
/-! ### law k41: widths -/
theorem ix_wd {h : Hl} {x : St} {w : Int} (hx : look h.sh x = some w) : ixD (.dic false (h.sh.map kSh)) (.str x) = .ok (.int w) := by
  show (R.of (toK false (.str x))).bind (fun k => R.of (getK (h.sh.map kSh) k)) = _
  simp [gSh, hx]
def wdF (h : Hl) (c : Ce) : Int := (look h.sh c.1).getD 0
def bsF (h : Hl) (cs : List Ce) : List Ce := cs.filter fun c => !has h.ma c.1
theorem sum_ok {α : Type} (f : α → Int) (l : List α) : bltD .sum [.lst (l.map fun a => D.int (f a))] = .ok (.int (l.map f).sum) := by
  show (R.of (intsOf (l.map fun a => D.int (f a)))).bind (fun bs => R.ok (D.int bs.sum)) = _
  have e : intsOf (l.map fun a => D.int (f a)) = some (l.map f) := by
    induction l with
    | nil => rfl
    | cons a r ih =>
      show intsOf (D.int (f a) :: r.map fun a => D.int (f a)) = _
      simp [intsOf, ih]
  rw [e]
  rfl
theorem lk_has {α β : Type} [DecidableEq α] {l : List (α × β)} {x : α} (h : has l x = true) : ∃ b, look l x = some b ∧ (x, b) ∈ l := by
  have := look_isSome (l := l) (x := x)
  rw [h] at this
  obtain ⟨b, hb⟩ := Option.isSome_iff_exists.mp this
  exact ⟨b, hb, look_some hb⟩
theorem e_width_of {k : Nat} {h : Hl} {cs : List Ce} (hc : ∀ c ∈ cs, c.1 ∈ h.sh.map Prod.fst) (hz : cs.length ≤ 1000) : (run prg (k + 1)).p f_width_of [hallD h, .lst (cs.map eC)] = .ok (.int ((bsF h cs).map (wdF h)).sum) := by
  simp_arith! [i_width_of]
  simp_arith []
  rw [comp_fil (h := fun c : Ce => .int (wdF h c)) (p := fun c => !has h.ma c.1) fun c hc' => ?_]
  · have z : cs.length ≤ SZ := by
      simp [SZ]
      omega
    have e := sum_ok (wdF h) (bsF h cs)
    unfold bsF at e ⊢
    simp_arith [e]
    rw [if_pos z]
    simp_arith []
  · obtain ⟨w, hw, _⟩ := lk_has (has_iff.mpr (hc c hc'))
    have e : wdF h c = w := by simp [wdF, hw]
    simp_arith [eC, fld0, fld1, ix_wd hw, e]
    rw [gMa, Option.isSome_map, look_isSome]
theorem e_whole {k : Nat} {n : Int} : (run prg (k + 1)).p f_law_whole [.int n] = .ok (.bl true) := by
  simp_arith! [i_law_whole]
  simp_arith [isi_i, isi_ib]
theorem dict_put {α : Type} {l : List α} {key : α → DK} {val : α → D} (hn : (l.map key).Nodup) : (l.map fun a => (key a, val a)).foldl (fun acc kv => putK acc kv.1 kv.2) [] = l.map fun a => (key a, val a) := by
  suffices ∀ (r d : List α), ((d ++ r).map key).Nodup → (r.map fun a => (key a, val a)).foldl (fun acc kv => putK acc kv.1 kv.2) (d.map fun a => (key a, val a)) = (d ++ r).map fun a => (key a, val a) from this l [] hn
  intro r
  induction r with
  | nil => intro d _; simp
  | cons a r ih =>
    intro d hd
    rw [List.map_cons, List.foldl_cons]
    have hk : putK (d.map fun a => (key a, val a)) (key a) (val a) = (d ++ [a]).map fun a => (key a, val a) := by
      unfold putK
      rw [if_neg]
      · simp
      · intro hx
        rw [List.any_map, List.any_eq_true] at hx
        obtain ⟨b, hb, e⟩ := hx
        have e : key b = key a := by simpa using e
        rw [List.map_append, List.nodup_append] at hd
        exact hd.2.2 _ (List.mem_map.mpr ⟨b, hb, rfl⟩) _ (by rw [List.map_cons]; exact List.mem_cons_self) e
    rw [hk, ih (d ++ [a]) (by rw [List.append_assoc]; exact hd), List.append_assoc]
    rfl
theorem dict_sh {sh : List (St × Int)} (h : ShOk sh) : bltD .dict [.lst (sh.map eShT)] = .ok (.dic false (sh.map kSh)) := by
  have e : pairsD (sh.map eShT) = some (sh.map kSh) := by
    clear h
    induction sh with
    | nil => rfl
    | cons a r ih =>
      rw [List.map_cons]
      unfold pairsD
      rw [ih]
      rfl
  show (R.of (pairsD (sh.map eShT))).bind (fun kds => R.ok (D.dic false (kds.foldl (fun acc kv => putK acc kv.1 kv.2) []))) = _
  rw [e]
  have := dict_put (l := sh) (key := fun p => DK.s p.1) (val := fun p => D.int p.2) (by
    have := h.nm.nd
    exact nodup_map (f := DK.s) this (fun a _ b _ e => by cases e; rfl) |> fun q => by rw [List.map_map] at q; exact q)
  show R.ok (D.dic false ((sh.map kSh).foldl (fun acc kv => putK acc kv.1 kv.2) [])) = _
  exact congrArg (fun q => R.ok (D.dic false q)) this
theorem sum_snoc {l : List Int} {x : Int} : (l ++ [x]).sum = l.sum + x := by
  induction l with
  | nil => simp
  | cons a r ih =>
    rw [List.cons_append, List.sum_cons, List.sum_cons, ih]
    omega
theorem cmp_C (n : Nat) : Cmp (n + 2) (fun c : Ce => asc c.1 ∧ ∀ x ∈ c.2, True) eC := cmp_t2 (ea := D.str) (eb := fun l : List Nat => .tup (l.map fun (n : Nat) => .int (n : Int))) (cmp_str (n + 1)) (cmp_tupl (cmp_nat n))
theorem e_law {k : Nat} {ns : List Int} (hn : ns.length ≤ 63) : (run prg (k + 7)).p f_law [.scr ns] = .ok (.bl true) := by
  simp_arith! [i_law]
  obtain ⟨h, t, e1, e2, e3, ho, _⟩ := e_drawn (k := k) (ns := ns) (many := 0) (by omega)
  have h0 : ixD (hT h) (.int 0) = .ok (.lst (h.sh.map eShT)) := by unfold hT; exact ix_t0 _ _
  have h1 : ixD (hT h) (.int 1) = .ok (.lst (h.ma.map eMa)) := by unfold hT; exact ix_t1 _ _ _
  have l16 := ho.sh.l16
  have l4 := ho.sh.l4
  obtain ⟨cs, e4, oc, c63⟩ := e_cells_by (k := k + 4) (a := 5) (sh := h.sh) hn l16 (by omega)
  have e4 : (run prg (k + 6)).p f_law_cells_by [.scr ns, .int 5, .lst (h.sh.map eShT)] = .ok (.lst (cs.map eC)) := e4
  have e1 : (run prg (k + 6)).p f_law_hall_by [.scr ns, .int 0] = .ok (hT h) := e1
  obtain ⟨H, hH⟩ : ∃ H, H = hT h := ⟨_, rfl⟩
  rw [← hH] at e1 e2 h0 h1
  have dd := dict_sh ho.sh
  have ca : ∀ c ∈ cs, asc c.1 ∧ ∀ x ∈ c.2, True := fun c hc => ⟨isName_asc (ho.sh.nm.nm _ (oc.nm c hc)), fun _ _ => trivial⟩
  have ml : h.ma.length ≤ 16 := by
    have := ho.ma.nm.length_le
    simp at this
    omega
  have mm : compR (turn (run prg (k + 6)) prg.tab [some (.scr ns), some H, some (hallD h), some (.dic false (h.sh.map kSh)), none, none, none, none, none, none, none] (.ix (.v 10) (.ki 0)) false [10] .none) (h.ma.map eMa) = .ok (h.ma.map fun m => .str m.1) := by
    refine comp_map (h := fun m : Mt => .str m.1) fun m hm => ?_
    simp_arith [eMa]
  have mz : (h.ma.length ≤ SZ) = True := by simp [SZ]; omega
  have rn : rng1D (.int ((cs.length : Int) + 1)) = .ok ((List.range (cs.length + 1)).map fun (i : Nat) => .int (i : Int)) := r1 (n := cs.length + 1) (by omega)
  have em : (h.ma.map fun m => D.str m.1) = (h.ma.map Prod.fst).map .str := by rw [List.map_map]; rfl
  have am : ∀ x ∈ h.ma.map Prod.fst, asc x := fun x hx => isName_asc (ho.sh.nm.nm _ (ho.ma.nm.subset hx))
  simp_arith [e1, e2, e3, h0, h1, dd, mm, e4, mz, rn]
  refine wp_forN (fun d : Int => [some (.scr ns), some H, some (hallD h), some (.dic false (h.sh.map kSh)), some (.lst (h.ma.map fun m => D.str m.1)), some (.lst (cs.map eC)), some (.int d), none, none, none, none]) (fun i d => d = ((bsF h (cs.take i)).map (wdF h)).sum) 0 (Mq_end _) (by simp [bsF]) (by simp [leE]) (fun i hi d hI => ⟨_, setT_f _ _ _, ?_⟩) fun d hI => ?_
  · simp only [List.getElem_range]
    have hi : i < cs.length + 1 := by simpa using hi
    have ct : ∀ c ∈ cs.take i, c ∈ cs := fun c hc => List.mem_of_mem_take hc
    have ew := e_width_of (k := k + 5) (h := h) (cs := cs.take i) (fun c hc => oc.nm c (ct c hc)) (by rw [List.length_take]; omega)
    have sl := sl_map0 (enc := eC) cs i
    have ne := (cmp_C 18).neL (l := cs.take i) (m := cs.take i) (fun c hc => ca c (ct c hc)) (fun c hc => ca c (ct c hc))
    rw [← hI] at ew
    by_cases hc : i < cs.length
    · have hc' : ((i : Nat) : Int) < (cs.length : Int) := by omega
      have ex := ix_map (enc := eC) (xs := cs) hc
      have cm := List.getElem_mem hc
      have an := (ca _ cm).1
      obtain ⟨w, hw, _⟩ := lk_has (has_iff.mpr (oc.nm _ cm))
      have ni := c_ninL (x := cs[i].1) (ys := h.ma.map Prod.fst) an am
      rw [← em] at ni
      have hh : (h.ma.map Prod.fst).contains cs[i].1 = has h.ma cs[i].1 := by
        rw [Bool.eq_iff_iff, has_iff]
        simp
      rw [hh] at ni
      have tk : bsF h (cs.take (i + 1)) = bsF h (cs.take i) ++ if has h.ma cs[i].1 then [] else [cs[i]] := by
        unfold bsF
        rw [List.take_succ_eq_append_getElem hc, List.filter_append, List.filter_cons, List.filter_nil]
        generalize has h.ma cs[i].1 = b
        cases b <;> rfl
      have ew' : wdF h cs[i] = w := by simp [wdF, hw]
      cases hm : has h.ma cs[i].1
      · rw [hm] at tk ni
        simp_arith [sl, ew, e_whole (k := k + 5) (n := d), ne, hc', ex, eC, ni, ix_wd hw]
        refine ⟨_, rfl, ?_⟩
        rw [tk, List.map_append]
        simp only [Bool.false_eq_true, if_false, List.map_cons, List.map_nil]
        rw [sum_snoc, ← hI, ew']
      · rw [hm] at tk ni
        simp_arith [sl, ew, e_whole (k := k + 5) (n := d), ne, hc', ex, eC, ni]
        refine ⟨_, rfl, ?_⟩
        rw [tk]
        simpa using hI
    · have hc' : ¬ ((i : Nat) : Int) < (cs.length : Int) := by omega
      simp_arith [sl, ew, e_whole (k := k + 5) (n := d), ne, hc']
      refine ⟨_, rfl, ?_⟩
      rw [List.take_of_length_le (by omega)] at hI ⊢
      exact hI
  · simp_arith []
end G
end
section
set_option Elab.async false
set_option linter.all false
set_option maxRecDepth 100000
set_option maxHeartbeats 0
namespace G
open PySem PySem.Spec PyProof.Rows L2
def top (i : Nat) : Stmt := PySem.Challenge.pw_glyphhall_k41_widths.main.body.getD i (.Pass ⟨0, 0, 0, 0⟩)
def meth (i j : Nat) : Stmt := match top i with
  | .ClassDef _ _ _ b _ _ _ _ _ _ _ => b.getD j (.Pass ⟨0, 0, 0, 0⟩)
  | _ => .Pass ⟨0, 0, 0, 0⟩
def d_width_of : Dd := ⟨("width_of", none), "width_of", "width_of", (top 4), ["hall", "cells"], ["hall", "cells", "shape", "letters"]⟩
def d_is_name : Dd := ⟨("is_name", none), "is_name", "is_name", (top 8), ["word"], ["word"]⟩
def d_number_of : Dd := ⟨("number_of", none), "number_of", "number_of", (top 9), ["word"], ["word"]⟩
def d_signed_of : Dd := ⟨("signed_of", none), "signed_of", "signed_of", (top 10), ["word"], ["word", "number"]⟩
def d_is_item : Dd := ⟨("is_item", none), "is_item", "is_item", (top 11), ["word"], ["word"]⟩
def d_words_of : Dd := ⟨("words_of", none), "words_of", "words_of", (top 12), ["row"], ["row", "word"]⟩
def d_Hall_init : Dd := ⟨("Hall", some "__init__"), "__init__", "Hall.__init__", (meth 14 0), ["self"], ["self"]⟩
def d_first_due : Dd := ⟨("first_due", none), "first_due", "first_due", (top 15), ["twice", "lacks", "many"], ["twice", "lacks", "many"]⟩
def d_all_names : Dd := ⟨("all_names", none), "all_names", "all_names", (top 16), ["words"], ["words", "word"]⟩
def d_lacking : Dd := ⟨("lacking", none), "lacking", "lacking", (top 17), ["words", "told"], ["words", "told", "word"]⟩
def d_spots_of : Dd := ⟨("spots_of", none), "spots_of", "spots_of", (top 18), ["words"], ["words", "numbers", "word", "k"]⟩
def d_shape_row : Dd := ⟨("shape_row", none), "shape_row", "shape_row", (top 19), ["hall", "words"], ["hall", "words", "fault"]⟩
def d_mark_row : Dd := ⟨("mark_row", none), "mark_row", "mark_row", (top 20), ["hall", "words"], ["hall", "words", "spots", "fault"]⟩
def d_point_row : Dd := ⟨("point_row", none), "point_row", "point_row", (top 21), ["hall", "words"], ["hall", "words", "spots", "fault"]⟩
def d_faces_due : Dd := ⟨("faces_due", none), "faces_due", "faces_due", (top 22), ["join"], ["join"]⟩
def d_letter_row : Dd := ⟨("letter_row", none), "letter_row", "letter_row", (top 23), ["hall", "words"], ["hall", "words", "fault"]⟩
def d_gap_row : Dd := ⟨("gap_row", none), "gap_row", "gap_row", (top 24), ["hall", "words"], ["hall", "words", "fault"]⟩
def d_class_row : Dd := ⟨("class_row", none), "class_row", "class_row", (top 25), ["hall", "words"], ["hall", "words", "fault"]⟩
def d_feature_row : Dd := ⟨("feature_row", none), "feature_row", "feature_row", (top 26), ["hall", "words"], ["hall", "words", "fault"]⟩
def d_parted : Dd := ⟨("parted", none), "parted", "parted", (top 27), ["words"], ["words", "signs", "one", "two", "end", "k", "word"]⟩
def d_rule_parts : Dd := ⟨("rule_parts", none), "rule_parts", "rule_parts", (top 28), ["words"], ["words", "parts", "word"]⟩
def d_item_lacks : Dd := ⟨("item_lacks", none), "item_lacks", "item_lacks", (top 29), ["hall", "item"], ["hall", "item"]⟩
def d_rule_row : Dd := ⟨("rule_row", none), "rule_row", "rule_row", (top 30), ["hall", "words"], ["hall", "words", "parts", "lacks", "item", "twice", "fault", "rule", "part"]⟩
def d_hall_row : Dd := ⟨("hall_row", none), "hall_row", "hall_row", (top 31), ["hall", "head", "words"], ["hall", "head", "words"]⟩
def d_read_hall : Dd := ⟨("read_hall", none), "read_hall", "read_hall", (top 32), ["text"], ["text", "hall", "place", "row", "words", "fault"]⟩
def d_law_cell_at : Dd := ⟨("_law_cell_at", none), "_law_cell_at", "_law_cell_at", (top 34), ["_law_script", "_law_k"], ["_law_script", "_law_k"]⟩
def d_law_mixed : Dd := ⟨("_law_mixed", none), "_law_mixed", "_law_mixed", (top 35), ["_law_cell", "_law_k"], ["_law_cell", "_law_k"]⟩
def d_law_names_by : Dd := ⟨("_law_names_by", none), "_law_names_by", "_law_names_by", (top 36), ["_law_cell", "_law_many"], ["_law_cell", "_law_many", "_law_letters", "_law_first", "_law_size", "_law_place", "_law_stem", "_law_k"]⟩
def d_law_shapes_by : Dd := ⟨("_law_shapes_by", none), "_law_shapes_by", "_law_shapes_by", (top 37), ["_law_cell"], ["_law_cell", "_law_m", "_law_names", "_law_widths", "_law_k", "_law_n", "_law_name", "_law_width"]⟩
def d_law_spot_by : Dd := ⟨("_law_spot_by", none), "_law_spot_by", "_law_spot_by", (top 38), ["_law_m"], ["_law_m"]⟩
def d_law_marks_by : Dd := ⟨("_law_marks_by", none), "_law_marks_by", "_law_marks_by", (top 39), ["_law_cell", "_law_shapes"], ["_law_cell", "_law_shapes", "_law_marks", "_law_k", "_law_m", "_law_side"]⟩
def d_law_points_by : Dd := ⟨("_law_points_by", none), "_law_points_by", "_law_points_by", (top 40), ["_law_cell", "_law_shapes"], ["_law_cell", "_law_shapes", "_law_points", "_law_k", "_law_m", "_law_side"]⟩
def d_law_letters_by : Dd := ⟨("_law_letters_by", none), "_law_letters_by", "_law_letters_by", (top 41), ["_law_cell", "_law_shapes"], ["_law_cell", "_law_shapes", "_law_m", "_law_names", "_law_letters", "_law_k", "_law_n", "_law_join", "_law_many", "_law_faces", "_law_j"]⟩
def d_law_classes_by : Dd := ⟨("_law_classes_by", none), "_law_classes_by", "_law_classes_by", (top 42), ["_law_cell", "_law_shapes"], ["_law_cell", "_law_shapes", "_law_m", "_law_classes", "_law_k", "_law_name", "_law_n", "_law_some", "_law_j"]⟩
def d_law_items_by : Dd := ⟨("_law_items_by", none), "_law_items_by", "_law_items_by", (top 43), ["_law_m", "_law_many", "_law_shapes", "_law_letters", "_law_classes"], ["_law_m", "_law_many", "_law_shapes", "_law_letters", "_law_classes", "_law_items", "_law_k", "_law_n", "_law_faces"]⟩
def d_law_rules_by : Dd := ⟨("_law_rules_by", none), "_law_rules_by", "_law_rules_by", (top 44), ["_law_cell", "_law_many", "_law_shapes", "_law_letters", "_law_classes", "_law_features"], ["_law_cell", "_law_many", "_law_shapes", "_law_letters", "_law_classes", "_law_features", "_law_rules", "_law_k", "_law_title", "_law_m", "_law_n", "_law_sizes", "_law_before", "_law_core", "_law_after", "_law_size", "_law_told", "_law_j"]⟩
def d_law_hall_by : Dd := ⟨("_law_hall_by", none), "_law_hall_by", "_law_hall_by", (top 45), ["_law_script", "_law_many"], ["_law_script", "_law_many", "_law_cell", "_law_shapes", "_law_letters", "_law_classes", "_law_m", "_law_features", "_law_rules", "_law_gaps", "_law_marks", "_law_points", "_law_k", "_law_name", "_law_letter"]⟩
def d_law_pair_text : Dd := ⟨("_law_pair_text", none), "_law_pair_text", "_law_pair_text", (top 46), ["_law_spot"], ["_law_spot"]⟩
def d_law_rule_text : Dd := ⟨("_law_rule_text", none), "_law_rule_text", "_law_rule_text", (top 47), ["_law_rule"], ["_law_rule", "_law_words"]⟩
def d_law_hall_text : Dd := ⟨("_law_hall_text", none), "_law_hall_text", "_law_hall_text", (top 48), ["_law_h"], ["_law_h", "_law_rows", "_law_name", "_law_side", "_law_own", "_law_past", "_law_spots", "_law_join", "_law_way", "_law_faces", "_law_width", "_law_spot", "_law_some", "_law_on", "_law_rule"]⟩
def d_law_whole : Dd := ⟨("_law_whole", none), "_law_whole", "_law_whole", (top 49), ["_law_found"], ["_law_found"]⟩
def d_law_cells_by : Dd := ⟨("_law_cells_by", none), "_law_cells_by", "_law_cells_by", (top 50), ["_law_script", "_law_at", "_law_shapes"], ["_law_script", "_law_at", "_law_shapes", "_law_cells", "_law_many", "_law_k", "_law_cell", "_law_m", "_law_size"]⟩
def d_law : Dd := ⟨("law", none), "law", "law", (top 51), ["_law_script"], ["_law_script", "_law_h", "_law_hall", "_law_widths", "_law_marks", "_law_cells", "_law_due", "_law_cut", "_law_handed", "_law_found", "_law_mark"]⟩
def dds (f : Nat) : Dd := match f with
  | 1 => d_width_of
  | 2 => d_is_name
  | 3 => d_number_of
  | 4 => d_signed_of
  | 5 => d_is_item
  | 6 => d_words_of
  | 7 => d_Hall_init
  | 8 => d_first_due
  | 9 => d_all_names
  | 10 => d_lacking
  | 11 => d_spots_of
  | 12 => d_shape_row
  | 13 => d_mark_row
  | 14 => d_point_row
  | 15 => d_faces_due
  | 16 => d_letter_row
  | 17 => d_gap_row
  | 18 => d_class_row
  | 19 => d_feature_row
  | 20 => d_parted
  | 21 => d_rule_parts
  | 22 => d_item_lacks
  | 23 => d_rule_row
  | 24 => d_hall_row
  | 25 => d_read_hall
  | 26 => d_law_cell_at
  | 27 => d_law_mixed
  | 28 => d_law_names_by
  | 29 => d_law_shapes_by
  | 30 => d_law_spot_by
  | 31 => d_law_marks_by
  | 32 => d_law_points_by
  | 33 => d_law_letters_by
  | 34 => d_law_classes_by
  | 35 => d_law_items_by
  | 36 => d_law_rules_by
  | 37 => d_law_hall_by
  | 38 => d_law_pair_text
  | 39 => d_law_rule_text
  | 40 => d_law_hall_text
  | 41 => d_law_whole
  | 42 => d_law_cells_by
  | 43 => d_law
  | _ => d_law
theorem k_width_of : ddB tab d_width_of i_width_of = true := by decide +kernel
theorem k_is_name : ddB tab d_is_name i_is_name = true := by decide +kernel
theorem k_number_of : ddB tab d_number_of i_number_of = true := by decide +kernel
theorem k_signed_of : ddB tab d_signed_of i_signed_of = true := by decide +kernel
theorem k_is_item : ddB tab d_is_item i_is_item = true := by decide +kernel
theorem k_words_of : ddB tab d_words_of i_words_of = true := by decide +kernel
theorem k_Hall_init : ddB tab d_Hall_init i_Hall_init = true := by decide +kernel
theorem k_first_due : ddB tab d_first_due i_first_due = true := by decide +kernel
theorem k_all_names : ddB tab d_all_names i_all_names = true := by decide +kernel
theorem k_lacking : ddB tab d_lacking i_lacking = true := by decide +kernel
theorem k_spots_of : ddB tab d_spots_of i_spots_of = true := by decide +kernel
theorem k_shape_row : ddB tab d_shape_row i_shape_row = true := by decide +kernel
theorem k_mark_row : ddB tab d_mark_row i_mark_row = true := by decide +kernel
theorem k_point_row : ddB tab d_point_row i_point_row = true := by decide +kernel
theorem k_faces_due : ddB tab d_faces_due i_faces_due = true := by decide +kernel
theorem k_letter_row : ddB tab d_letter_row i_letter_row = true := by decide +kernel
theorem k_gap_row : ddB tab d_gap_row i_gap_row = true := by decide +kernel
theorem k_class_row : ddB tab d_class_row i_class_row = true := by decide +kernel
theorem k_feature_row : ddB tab d_feature_row i_feature_row = true := by decide +kernel
theorem k_parted : ddB tab d_parted i_parted = true := by decide +kernel
theorem k_rule_parts : ddB tab d_rule_parts i_rule_parts = true := by decide +kernel
theorem k_item_lacks : ddB tab d_item_lacks i_item_lacks = true := by decide +kernel
theorem k_rule_row : ddB tab d_rule_row i_rule_row = true := by decide +kernel
theorem k_hall_row : ddB tab d_hall_row i_hall_row = true := by decide +kernel
theorem k_read_hall : ddB tab d_read_hall i_read_hall = true := by decide +kernel
theorem k_law_cell_at : ddB tab d_law_cell_at i_law_cell_at = true := by decide +kernel
theorem k_law_mixed : ddB tab d_law_mixed i_law_mixed = true := by decide +kernel
theorem k_law_names_by : ddB tab d_law_names_by i_law_names_by = true := by decide +kernel
theorem k_law_shapes_by : ddB tab d_law_shapes_by i_law_shapes_by = true := by decide +kernel
theorem k_law_spot_by : ddB tab d_law_spot_by i_law_spot_by = true := by decide +kernel
theorem k_law_marks_by : ddB tab d_law_marks_by i_law_marks_by = true := by decide +kernel
theorem k_law_points_by : ddB tab d_law_points_by i_law_points_by = true := by decide +kernel
theorem k_law_letters_by : ddB tab d_law_letters_by i_law_letters_by = true := by decide +kernel
theorem k_law_classes_by : ddB tab d_law_classes_by i_law_classes_by = true := by decide +kernel
theorem k_law_items_by : ddB tab d_law_items_by i_law_items_by = true := by decide +kernel
theorem k_law_rules_by : ddB tab d_law_rules_by i_law_rules_by = true := by decide +kernel
theorem k_law_hall_by : ddB tab d_law_hall_by i_law_hall_by = true := by decide +kernel
theorem k_law_pair_text : ddB tab d_law_pair_text i_law_pair_text = true := by decide +kernel
theorem k_law_rule_text : ddB tab d_law_rule_text i_law_rule_text = true := by decide +kernel
theorem k_law_hall_text : ddB tab d_law_hall_text i_law_hall_text = true := by decide +kernel
theorem k_law_whole : ddB tab d_law_whole i_law_whole = true := by decide +kernel
theorem k_law_cells_by : ddB tab d_law_cells_by i_law_cells_by = true := by decide +kernel
theorem k_law : ddB tab d_law i_law = true := by decide +kernel
def df (d : Dd) : He.DefD := ⟨d.at_, d.name, d.qual, defArgs d.st, defBody d.st, defScope d.st, [], []⟩
def fnl : List He.DefD := [df d_width_of, df d_is_name, df d_number_of, df d_signed_of, df d_is_item, df d_words_of, df d_Hall_init, df d_first_due, df d_all_names, df d_lacking, df d_spots_of, df d_shape_row, df d_mark_row, df d_point_row, df d_faces_due, df d_letter_row, df d_gap_row, df d_class_row, df d_feature_row, df d_parted, df d_rule_parts, df d_item_lacks, df d_rule_row, df d_hall_row, df d_read_hall, df d_law_cell_at, df d_law_mixed, df d_law_names_by, df d_law_shapes_by, df d_law_spot_by, df d_law_marks_by, df d_law_points_by, df d_law_letters_by, df d_law_classes_by, df d_law_items_by, df d_law_rules_by, df d_law_hall_by, df d_law_pair_text, df d_law_rule_text, df d_law_hall_text, df d_law_whole, df d_law_cells_by, df d_law]
def fal : List He.Fa := [.glo "width_of", .glo "is_name", .glo "number_of", .glo "signed_of", .glo "is_item", .glo "words_of", .glo "first_due", .glo "all_names", .glo "lacking", .glo "spots_of", .glo "shape_row", .glo "mark_row", .glo "point_row", .glo "faces_due", .glo "letter_row", .glo "gap_row", .glo "class_row", .glo "feature_row", .glo "parted", .glo "rule_parts", .glo "item_lacks", .glo "rule_row", .glo "hall_row", .glo "read_hall", .glo "_law_cell_at", .glo "_law_mixed", .glo "_law_names_by", .glo "_law_shapes_by", .glo "_law_spot_by", .glo "_law_marks_by", .glo "_law_points_by", .glo "_law_letters_by", .glo "_law_classes_by", .glo "_law_items_by", .glo "_law_rules_by", .glo "_law_hall_by", .glo "_law_pair_text", .glo "_law_rule_text", .glo "_law_hall_text", .glo "_law_whole", .glo "_law_cells_by", .glo "law", .glo "Hall", .free "len", .free "int", .free "str", .free "list", .free "tuple", .free "dict", .free "all", .free "any", .free "sum", .free "abs", .free "max", .free "min", .free "sorted", .free "range", .free "enumerate", .free "zip", .free "reversed", .free "isinstance", .free "bool", .str "FIGURES" (mk [48, 49, 50, 51, 52, 53, 54, 55, 56, 57]), .str "SIGNS" (mk [97, 98, 99, 100, 101, 102, 103, 104, 105, 106, 107, 108, 109, 110, 111, 112, 113, 114, 115, 116, 117, 118, 119, 120, 121, 122, 48, 49, 50, 51, 52, 53, 54, 55, 56, 57]), .cls "Hall", .noat "Hall" "shapes", .noat "Hall" "marks", .noat "Hall" "points", .noat "Hall" "letters", .noat "Hall" "gaps", .noat "Hall" "classes", .noat "Hall" "features", .noat "Hall" "rules", .noat "Hall" "place", .noat "Hall" "word", .noat "Hall" "hall", .noat "Hall" "settings", .noat "Hall" "way", .mkr "Hall"]
def loose0 : List Str := ["HallError", "BadHall", "width_of", "FIGURES", "SIGNS", "is_name", "number_of", "signed_of", "is_item", "words_of", "Hall", "first_due", "all_names", "lacking", "spots_of", "shape_row", "mark_row", "point_row", "faces_due", "letter_row", "gap_row", "class_row", "feature_row", "parted", "rule_parts", "item_lacks", "rule_row", "hall_row", "read_hall", "_law_cell_at"]
def loose1 : List Str := ["_law_mixed", "_law_names_by", "_law_shapes_by", "_law_spot_by", "_law_marks_by", "_law_points_by", "_law_letters_by", "_law_classes_by", "_law_items_by", "_law_rules_by", "_law_hall_by", "_law_pair_text", "_law_rule_text", "_law_hall_text", "_law_whole", "_law_cells_by"]
def loose : List Str := loose0 ++ loose1
abbrev RR : PySem.W.OpenRow := PySem.W.OpenLaw.row PySem.Challenge.rw_glyphhall_k41_widths
abbrev hk : PySem.W.Hook := He.hookD 5 fal fnl
def ob (s : PySem.W.SharedT) : He.AlD := He.obsDG 5 fal fnl (HandSHeadRun.getT s)
theorem ob_eq (s : PySem.W.SharedT) : ob s = hk.obs s.abs := He.obsDG_eq (HandSHeadRun.getT_eq s)
theorem headrun (w : World) : HandSHeadRun.RunEq RR (PySem.W.view RR.prog [51]) hk ob 3000 loose w := by
  intro os
  kernel_rfl
def wd (K : PySem.W.Frag) : Wd := ⟨K, tab, fun _ => He.ga K "Hall"⟩
section
variable {K : PySem.W.Frag} {h : Heap} {mg : Str → Option Value}
theorem std (c : He.SaysD fal fnl K) (i : Nat) {d : Dd} (hd : fnl[i]? = some (df d)) (hb : ∀ (kV doc pm : Value) (an : Option Addr) (cdv ct : Value) (us : List Value), us.length = d.ps.length → bindArgs (PySem.W.fnOf d.name d.qual (defArgs d.st) (defBody d.st) (defScope d.st) .none kV doc pm an cdv ct) ⟨us, []⟩ = pure (d.ps.zip us)) : ∃ fd, Std K d (He.fAd K d.at_) fd := by
  obtain ⟨fd, F⟩ := c.def_ i hd
  exact ⟨fd, F, FunD.bindsN (ps := d.ps) F hb⟩
theorem s_width_of (c : He.SaysD fal fnl K) : ∃ fn fd, prg.fn 1 = some fn ∧ ddB tab (dds 1) fn = true ∧ tab.ret 1 = fn.ret ∧ tab.mty 1 = fn.mu ∧ Std K (dds 1) (He.fAd K (dds 1).at_) fd := by
  obtain ⟨fd, S⟩ := std c 0 (d := d_width_of) rfl fun _ _ _ _ _ _ us hl => match us, hl with | [_, _], _ => rfl
  exact ⟨i_width_of, fd, rfl, k_width_of, rfl, rfl, S⟩
theorem s_is_name (c : He.SaysD fal fnl K) : ∃ fn fd, prg.fn 2 = some fn ∧ ddB tab (dds 2) fn = true ∧ tab.ret 2 = fn.ret ∧ tab.mty 2 = fn.mu ∧ Std K (dds 2) (He.fAd K (dds 2).at_) fd := by
  obtain ⟨fd, S⟩ := std c 1 (d := d_is_name) rfl fun _ _ _ _ _ _ us hl => match us, hl with | [_], _ => rfl
  exact ⟨i_is_name, fd, rfl, k_is_name, rfl, rfl, S⟩
theorem s_number_of (c : He.SaysD fal fnl K) : ∃ fn fd, prg.fn 3 = some fn ∧ ddB tab (dds 3) fn = true ∧ tab.ret 3 = fn.ret ∧ tab.mty 3 = fn.mu ∧ Std K (dds 3) (He.fAd K (dds 3).at_) fd := by
  obtain ⟨fd, S⟩ := std c 2 (d := d_number_of) rfl fun _ _ _ _ _ _ us hl => match us, hl with | [_], _ => rfl
  exact ⟨i_number_of, fd, rfl, k_number_of, rfl, rfl, S⟩
theorem s_signed_of (c : He.SaysD fal fnl K) : ∃ fn fd, prg.fn 4 = some fn ∧ ddB tab (dds 4) fn = true ∧ tab.ret 4 = fn.ret ∧ tab.mty 4 = fn.mu ∧ Std K (dds 4) (He.fAd K (dds 4).at_) fd := by
  obtain ⟨fd, S⟩ := std c 3 (d := d_signed_of) rfl fun _ _ _ _ _ _ us hl => match us, hl with | [_], _ => rfl
  exact ⟨i_signed_of, fd, rfl, k_signed_of, rfl, rfl, S⟩
theorem s_is_item (c : He.SaysD fal fnl K) : ∃ fn fd, prg.fn 5 = some fn ∧ ddB tab (dds 5) fn = true ∧ tab.ret 5 = fn.ret ∧ tab.mty 5 = fn.mu ∧ Std K (dds 5) (He.fAd K (dds 5).at_) fd := by
  obtain ⟨fd, S⟩ := std c 4 (d := d_is_item) rfl fun _ _ _ _ _ _ us hl => match us, hl with | [_], _ => rfl
  exact ⟨i_is_item, fd, rfl, k_is_item, rfl, rfl, S⟩
theorem s_words_of (c : He.SaysD fal fnl K) : ∃ fn fd, prg.fn 6 = some fn ∧ ddB tab (dds 6) fn = true ∧ tab.ret 6 = fn.ret ∧ tab.mty 6 = fn.mu ∧ Std K (dds 6) (He.fAd K (dds 6).at_) fd := by
  obtain ⟨fd, S⟩ := std c 5 (d := d_words_of) rfl fun _ _ _ _ _ _ us hl => match us, hl with | [_], _ => rfl
  exact ⟨i_words_of, fd, rfl, k_words_of, rfl, rfl, S⟩
theorem s_Hall_init (c : He.SaysD fal fnl K) : ∃ fn fd, prg.fn 7 = some fn ∧ ddB tab (dds 7) fn = true ∧ tab.ret 7 = fn.ret ∧ tab.mty 7 = fn.mu ∧ Std K (dds 7) (He.fAd K (dds 7).at_) fd := by
  obtain ⟨fd, S⟩ := std c 6 (d := d_Hall_init) rfl fun _ _ _ _ _ _ us hl => match us, hl with | [_], _ => rfl
  exact ⟨i_Hall_init, fd, rfl, k_Hall_init, rfl, rfl, S⟩
theorem s_first_due (c : He.SaysD fal fnl K) : ∃ fn fd, prg.fn 8 = some fn ∧ ddB tab (dds 8) fn = true ∧ tab.ret 8 = fn.ret ∧ tab.mty 8 = fn.mu ∧ Std K (dds 8) (He.fAd K (dds 8).at_) fd := by
  obtain ⟨fd, S⟩ := std c 7 (d := d_first_due) rfl fun _ _ _ _ _ _ us hl => match us, hl with | [_, _, _], _ => rfl
  exact ⟨i_first_due, fd, rfl, k_first_due, rfl, rfl, S⟩
theorem s_all_names (c : He.SaysD fal fnl K) : ∃ fn fd, prg.fn 9 = some fn ∧ ddB tab (dds 9) fn = true ∧ tab.ret 9 = fn.ret ∧ tab.mty 9 = fn.mu ∧ Std K (dds 9) (He.fAd K (dds 9).at_) fd := by
  obtain ⟨fd, S⟩ := std c 8 (d := d_all_names) rfl fun _ _ _ _ _ _ us hl => match us, hl with | [_], _ => rfl
  exact ⟨i_all_names, fd, rfl, k_all_names, rfl, rfl, S⟩
theorem s_lacking (c : He.SaysD fal fnl K) : ∃ fn fd, prg.fn 10 = some fn ∧ ddB tab (dds 10) fn = true ∧ tab.ret 10 = fn.ret ∧ tab.mty 10 = fn.mu ∧ Std K (dds 10) (He.fAd K (dds 10).at_) fd := by
  obtain ⟨fd, S⟩ := std c 9 (d := d_lacking) rfl fun _ _ _ _ _ _ us hl => match us, hl with | [_, _], _ => rfl
  exact ⟨i_lacking, fd, rfl, k_lacking, rfl, rfl, S⟩
theorem s_spots_of (c : He.SaysD fal fnl K) : ∃ fn fd, prg.fn 11 = some fn ∧ ddB tab (dds 11) fn = true ∧ tab.ret 11 = fn.ret ∧ tab.mty 11 = fn.mu ∧ Std K (dds 11) (He.fAd K (dds 11).at_) fd := by
  obtain ⟨fd, S⟩ := std c 10 (d := d_spots_of) rfl fun _ _ _ _ _ _ us hl => match us, hl with | [_], _ => rfl
  exact ⟨i_spots_of, fd, rfl, k_spots_of, rfl, rfl, S⟩
theorem s_shape_row (c : He.SaysD fal fnl K) : ∃ fn fd, prg.fn 12 = some fn ∧ ddB tab (dds 12) fn = true ∧ tab.ret 12 = fn.ret ∧ tab.mty 12 = fn.mu ∧ Std K (dds 12) (He.fAd K (dds 12).at_) fd := by
  obtain ⟨fd, S⟩ := std c 11 (d := d_shape_row) rfl fun _ _ _ _ _ _ us hl => match us, hl with | [_, _], _ => rfl
  exact ⟨i_shape_row, fd, rfl, k_shape_row, rfl, rfl, S⟩
theorem s_mark_row (c : He.SaysD fal fnl K) : ∃ fn fd, prg.fn 13 = some fn ∧ ddB tab (dds 13) fn = true ∧ tab.ret 13 = fn.ret ∧ tab.mty 13 = fn.mu ∧ Std K (dds 13) (He.fAd K (dds 13).at_) fd := by
  obtain ⟨fd, S⟩ := std c 12 (d := d_mark_row) rfl fun _ _ _ _ _ _ us hl => match us, hl with | [_, _], _ => rfl
  exact ⟨i_mark_row, fd, rfl, k_mark_row, rfl, rfl, S⟩
theorem s_point_row (c : He.SaysD fal fnl K) : ∃ fn fd, prg.fn 14 = some fn ∧ ddB tab (dds 14) fn = true ∧ tab.ret 14 = fn.ret ∧ tab.mty 14 = fn.mu ∧ Std K (dds 14) (He.fAd K (dds 14).at_) fd := by
  obtain ⟨fd, S⟩ := std c 13 (d := d_point_row) rfl fun _ _ _ _ _ _ us hl => match us, hl with | [_, _], _ => rfl
  exact ⟨i_point_row, fd, rfl, k_point_row, rfl, rfl, S⟩
theorem s_faces_due (c : He.SaysD fal fnl K) : ∃ fn fd, prg.fn 15 = some fn ∧ ddB tab (dds 15) fn = true ∧ tab.ret 15 = fn.ret ∧ tab.mty 15 = fn.mu ∧ Std K (dds 15) (He.fAd K (dds 15).at_) fd := by
  obtain ⟨fd, S⟩ := std c 14 (d := d_faces_due) rfl fun _ _ _ _ _ _ us hl => match us, hl with | [_], _ => rfl
  exact ⟨i_faces_due, fd, rfl, k_faces_due, rfl, rfl, S⟩
theorem s_letter_row (c : He.SaysD fal fnl K) : ∃ fn fd, prg.fn 16 = some fn ∧ ddB tab (dds 16) fn = true ∧ tab.ret 16 = fn.ret ∧ tab.mty 16 = fn.mu ∧ Std K (dds 16) (He.fAd K (dds 16).at_) fd := by
  obtain ⟨fd, S⟩ := std c 15 (d := d_letter_row) rfl fun _ _ _ _ _ _ us hl => match us, hl with | [_, _], _ => rfl
  exact ⟨i_letter_row, fd, rfl, k_letter_row, rfl, rfl, S⟩
theorem s_gap_row (c : He.SaysD fal fnl K) : ∃ fn fd, prg.fn 17 = some fn ∧ ddB tab (dds 17) fn = true ∧ tab.ret 17 = fn.ret ∧ tab.mty 17 = fn.mu ∧ Std K (dds 17) (He.fAd K (dds 17).at_) fd := by
  obtain ⟨fd, S⟩ := std c 16 (d := d_gap_row) rfl fun _ _ _ _ _ _ us hl => match us, hl with | [_, _], _ => rfl
  exact ⟨i_gap_row, fd, rfl, k_gap_row, rfl, rfl, S⟩
theorem s_class_row (c : He.SaysD fal fnl K) : ∃ fn fd, prg.fn 18 = some fn ∧ ddB tab (dds 18) fn = true ∧ tab.ret 18 = fn.ret ∧ tab.mty 18 = fn.mu ∧ Std K (dds 18) (He.fAd K (dds 18).at_) fd := by
  obtain ⟨fd, S⟩ := std c 17 (d := d_class_row) rfl fun _ _ _ _ _ _ us hl => match us, hl with | [_, _], _ => rfl
  exact ⟨i_class_row, fd, rfl, k_class_row, rfl, rfl, S⟩
theorem s_feature_row (c : He.SaysD fal fnl K) : ∃ fn fd, prg.fn 19 = some fn ∧ ddB tab (dds 19) fn = true ∧ tab.ret 19 = fn.ret ∧ tab.mty 19 = fn.mu ∧ Std K (dds 19) (He.fAd K (dds 19).at_) fd := by
  obtain ⟨fd, S⟩ := std c 18 (d := d_feature_row) rfl fun _ _ _ _ _ _ us hl => match us, hl with | [_, _], _ => rfl
  exact ⟨i_feature_row, fd, rfl, k_feature_row, rfl, rfl, S⟩
theorem s_parted (c : He.SaysD fal fnl K) : ∃ fn fd, prg.fn 20 = some fn ∧ ddB tab (dds 20) fn = true ∧ tab.ret 20 = fn.ret ∧ tab.mty 20 = fn.mu ∧ Std K (dds 20) (He.fAd K (dds 20).at_) fd := by
  obtain ⟨fd, S⟩ := std c 19 (d := d_parted) rfl fun _ _ _ _ _ _ us hl => match us, hl with | [_], _ => rfl
  exact ⟨i_parted, fd, rfl, k_parted, rfl, rfl, S⟩
theorem s_rule_parts (c : He.SaysD fal fnl K) : ∃ fn fd, prg.fn 21 = some fn ∧ ddB tab (dds 21) fn = true ∧ tab.ret 21 = fn.ret ∧ tab.mty 21 = fn.mu ∧ Std K (dds 21) (He.fAd K (dds 21).at_) fd := by
  obtain ⟨fd, S⟩ := std c 20 (d := d_rule_parts) rfl fun _ _ _ _ _ _ us hl => match us, hl with | [_], _ => rfl
  exact ⟨i_rule_parts, fd, rfl, k_rule_parts, rfl, rfl, S⟩
theorem s_item_lacks (c : He.SaysD fal fnl K) : ∃ fn fd, prg.fn 22 = some fn ∧ ddB tab (dds 22) fn = true ∧ tab.ret 22 = fn.ret ∧ tab.mty 22 = fn.mu ∧ Std K (dds 22) (He.fAd K (dds 22).at_) fd := by
  obtain ⟨fd, S⟩ := std c 21 (d := d_item_lacks) rfl fun _ _ _ _ _ _ us hl => match us, hl with | [_, _], _ => rfl
  exact ⟨i_item_lacks, fd, rfl, k_item_lacks, rfl, rfl, S⟩
theorem s_rule_row (c : He.SaysD fal fnl K) : ∃ fn fd, prg.fn 23 = some fn ∧ ddB tab (dds 23) fn = true ∧ tab.ret 23 = fn.ret ∧ tab.mty 23 = fn.mu ∧ Std K (dds 23) (He.fAd K (dds 23).at_) fd := by
  obtain ⟨fd, S⟩ := std c 22 (d := d_rule_row) rfl fun _ _ _ _ _ _ us hl => match us, hl with | [_, _], _ => rfl
  exact ⟨i_rule_row, fd, rfl, k_rule_row, rfl, rfl, S⟩
theorem s_hall_row (c : He.SaysD fal fnl K) : ∃ fn fd, prg.fn 24 = some fn ∧ ddB tab (dds 24) fn = true ∧ tab.ret 24 = fn.ret ∧ tab.mty 24 = fn.mu ∧ Std K (dds 24) (He.fAd K (dds 24).at_) fd := by
  obtain ⟨fd, S⟩ := std c 23 (d := d_hall_row) rfl fun _ _ _ _ _ _ us hl => match us, hl with | [_, _, _], _ => rfl
  exact ⟨i_hall_row, fd, rfl, k_hall_row, rfl, rfl, S⟩
theorem s_read_hall (c : He.SaysD fal fnl K) : ∃ fn fd, prg.fn 25 = some fn ∧ ddB tab (dds 25) fn = true ∧ tab.ret 25 = fn.ret ∧ tab.mty 25 = fn.mu ∧ Std K (dds 25) (He.fAd K (dds 25).at_) fd := by
  obtain ⟨fd, S⟩ := std c 24 (d := d_read_hall) rfl fun _ _ _ _ _ _ us hl => match us, hl with | [_], _ => rfl
  exact ⟨i_read_hall, fd, rfl, k_read_hall, rfl, rfl, S⟩
theorem s_law_cell_at (c : He.SaysD fal fnl K) : ∃ fn fd, prg.fn 26 = some fn ∧ ddB tab (dds 26) fn = true ∧ tab.ret 26 = fn.ret ∧ tab.mty 26 = fn.mu ∧ Std K (dds 26) (He.fAd K (dds 26).at_) fd := by
  obtain ⟨fd, S⟩ := std c 25 (d := d_law_cell_at) rfl fun _ _ _ _ _ _ us hl => match us, hl with | [_, _], _ => rfl
  exact ⟨i_law_cell_at, fd, rfl, k_law_cell_at, rfl, rfl, S⟩
theorem s_law_mixed (c : He.SaysD fal fnl K) : ∃ fn fd, prg.fn 27 = some fn ∧ ddB tab (dds 27) fn = true ∧ tab.ret 27 = fn.ret ∧ tab.mty 27 = fn.mu ∧ Std K (dds 27) (He.fAd K (dds 27).at_) fd := by
  obtain ⟨fd, S⟩ := std c 26 (d := d_law_mixed) rfl fun _ _ _ _ _ _ us hl => match us, hl with | [_, _], _ => rfl
  exact ⟨i_law_mixed, fd, rfl, k_law_mixed, rfl, rfl, S⟩
theorem s_law_names_by (c : He.SaysD fal fnl K) : ∃ fn fd, prg.fn 28 = some fn ∧ ddB tab (dds 28) fn = true ∧ tab.ret 28 = fn.ret ∧ tab.mty 28 = fn.mu ∧ Std K (dds 28) (He.fAd K (dds 28).at_) fd := by
  obtain ⟨fd, S⟩ := std c 27 (d := d_law_names_by) rfl fun _ _ _ _ _ _ us hl => match us, hl with | [_, _], _ => rfl
  exact ⟨i_law_names_by, fd, rfl, k_law_names_by, rfl, rfl, S⟩
theorem s_law_shapes_by (c : He.SaysD fal fnl K) : ∃ fn fd, prg.fn 29 = some fn ∧ ddB tab (dds 29) fn = true ∧ tab.ret 29 = fn.ret ∧ tab.mty 29 = fn.mu ∧ Std K (dds 29) (He.fAd K (dds 29).at_) fd := by
  obtain ⟨fd, S⟩ := std c 28 (d := d_law_shapes_by) rfl fun _ _ _ _ _ _ us hl => match us, hl with | [_], _ => rfl
  exact ⟨i_law_shapes_by, fd, rfl, k_law_shapes_by, rfl, rfl, S⟩
theorem s_law_spot_by (c : He.SaysD fal fnl K) : ∃ fn fd, prg.fn 30 = some fn ∧ ddB tab (dds 30) fn = true ∧ tab.ret 30 = fn.ret ∧ tab.mty 30 = fn.mu ∧ Std K (dds 30) (He.fAd K (dds 30).at_) fd := by
  obtain ⟨fd, S⟩ := std c 29 (d := d_law_spot_by) rfl fun _ _ _ _ _ _ us hl => match us, hl with | [_], _ => rfl
  exact ⟨i_law_spot_by, fd, rfl, k_law_spot_by, rfl, rfl, S⟩
theorem s_law_marks_by (c : He.SaysD fal fnl K) : ∃ fn fd, prg.fn 31 = some fn ∧ ddB tab (dds 31) fn = true ∧ tab.ret 31 = fn.ret ∧ tab.mty 31 = fn.mu ∧ Std K (dds 31) (He.fAd K (dds 31).at_) fd := by
  obtain ⟨fd, S⟩ := std c 30 (d := d_law_marks_by) rfl fun _ _ _ _ _ _ us hl => match us, hl with | [_, _], _ => rfl
  exact ⟨i_law_marks_by, fd, rfl, k_law_marks_by, rfl, rfl, S⟩
theorem s_law_points_by (c : He.SaysD fal fnl K) : ∃ fn fd, prg.fn 32 = some fn ∧ ddB tab (dds 32) fn = true ∧ tab.ret 32 = fn.ret ∧ tab.mty 32 = fn.mu ∧ Std K (dds 32) (He.fAd K (dds 32).at_) fd := by
  obtain ⟨fd, S⟩ := std c 31 (d := d_law_points_by) rfl fun _ _ _ _ _ _ us hl => match us, hl with | [_, _], _ => rfl
  exact ⟨i_law_points_by, fd, rfl, k_law_points_by, rfl, rfl, S⟩
theorem s_law_letters_by (c : He.SaysD fal fnl K) : ∃ fn fd, prg.fn 33 = some fn ∧ ddB tab (dds 33) fn = true ∧ tab.ret 33 = fn.ret ∧ tab.mty 33 = fn.mu ∧ Std K (dds 33) (He.fAd K (dds 33).at_) fd := by
  obtain ⟨fd, S⟩ := std c 32 (d := d_law_letters_by) rfl fun _ _ _ _ _ _ us hl => match us, hl with | [_, _], _ => rfl
  exact ⟨i_law_letters_by, fd, rfl, k_law_letters_by, rfl, rfl, S⟩
theorem s_law_classes_by (c : He.SaysD fal fnl K) : ∃ fn fd, prg.fn 34 = some fn ∧ ddB tab (dds 34) fn = true ∧ tab.ret 34 = fn.ret ∧ tab.mty 34 = fn.mu ∧ Std K (dds 34) (He.fAd K (dds 34).at_) fd := by
  obtain ⟨fd, S⟩ := std c 33 (d := d_law_classes_by) rfl fun _ _ _ _ _ _ us hl => match us, hl with | [_, _], _ => rfl
  exact ⟨i_law_classes_by, fd, rfl, k_law_classes_by, rfl, rfl, S⟩
theorem s_law_items_by (c : He.SaysD fal fnl K) : ∃ fn fd, prg.fn 35 = some fn ∧ ddB tab (dds 35) fn = true ∧ tab.ret 35 = fn.ret ∧ tab.mty 35 = fn.mu ∧ Std K (dds 35) (He.fAd K (dds 35).at_) fd := by
  obtain ⟨fd, S⟩ := std c 34 (d := d_law_items_by) rfl fun _ _ _ _ _ _ us hl => match us, hl with | [_, _, _, _, _], _ => rfl
  exact ⟨i_law_items_by, fd, rfl, k_law_items_by, rfl, rfl, S⟩
theorem s_law_rules_by (c : He.SaysD fal fnl K) : ∃ fn fd, prg.fn 36 = some fn ∧ ddB tab (dds 36) fn = true ∧ tab.ret 36 = fn.ret ∧ tab.mty 36 = fn.mu ∧ Std K (dds 36) (He.fAd K (dds 36).at_) fd := by
  obtain ⟨fd, S⟩ := std c 35 (d := d_law_rules_by) rfl fun _ _ _ _ _ _ us hl => match us, hl with | [_, _, _, _, _, _], _ => rfl
  exact ⟨i_law_rules_by, fd, rfl, k_law_rules_by, rfl, rfl, S⟩
theorem s_law_hall_by (c : He.SaysD fal fnl K) : ∃ fn fd, prg.fn 37 = some fn ∧ ddB tab (dds 37) fn = true ∧ tab.ret 37 = fn.ret ∧ tab.mty 37 = fn.mu ∧ Std K (dds 37) (He.fAd K (dds 37).at_) fd := by
  obtain ⟨fd, S⟩ := std c 36 (d := d_law_hall_by) rfl fun _ _ _ _ _ _ us hl => match us, hl with | [_, _], _ => rfl
  exact ⟨i_law_hall_by, fd, rfl, k_law_hall_by, rfl, rfl, S⟩
theorem s_law_pair_text (c : He.SaysD fal fnl K) : ∃ fn fd, prg.fn 38 = some fn ∧ ddB tab (dds 38) fn = true ∧ tab.ret 38 = fn.ret ∧ tab.mty 38 = fn.mu ∧ Std K (dds 38) (He.fAd K (dds 38).at_) fd := by
  obtain ⟨fd, S⟩ := std c 37 (d := d_law_pair_text) rfl fun _ _ _ _ _ _ us hl => match us, hl with | [_], _ => rfl
  exact ⟨i_law_pair_text, fd, rfl, k_law_pair_text, rfl, rfl, S⟩
theorem s_law_rule_text (c : He.SaysD fal fnl K) : ∃ fn fd, prg.fn 39 = some fn ∧ ddB tab (dds 39) fn = true ∧ tab.ret 39 = fn.ret ∧ tab.mty 39 = fn.mu ∧ Std K (dds 39) (He.fAd K (dds 39).at_) fd := by
  obtain ⟨fd, S⟩ := std c 38 (d := d_law_rule_text) rfl fun _ _ _ _ _ _ us hl => match us, hl with | [_], _ => rfl
  exact ⟨i_law_rule_text, fd, rfl, k_law_rule_text, rfl, rfl, S⟩
theorem s_law_hall_text (c : He.SaysD fal fnl K) : ∃ fn fd, prg.fn 40 = some fn ∧ ddB tab (dds 40) fn = true ∧ tab.ret 40 = fn.ret ∧ tab.mty 40 = fn.mu ∧ Std K (dds 40) (He.fAd K (dds 40).at_) fd := by
  obtain ⟨fd, S⟩ := std c 39 (d := d_law_hall_text) rfl fun _ _ _ _ _ _ us hl => match us, hl with | [_], _ => rfl
  exact ⟨i_law_hall_text, fd, rfl, k_law_hall_text, rfl, rfl, S⟩
theorem s_law_whole (c : He.SaysD fal fnl K) : ∃ fn fd, prg.fn 41 = some fn ∧ ddB tab (dds 41) fn = true ∧ tab.ret 41 = fn.ret ∧ tab.mty 41 = fn.mu ∧ Std K (dds 41) (He.fAd K (dds 41).at_) fd := by
  obtain ⟨fd, S⟩ := std c 40 (d := d_law_whole) rfl fun _ _ _ _ _ _ us hl => match us, hl with | [_], _ => rfl
  exact ⟨i_law_whole, fd, rfl, k_law_whole, rfl, rfl, S⟩
theorem s_law_cells_by (c : He.SaysD fal fnl K) : ∃ fn fd, prg.fn 42 = some fn ∧ ddB tab (dds 42) fn = true ∧ tab.ret 42 = fn.ret ∧ tab.mty 42 = fn.mu ∧ Std K (dds 42) (He.fAd K (dds 42).at_) fd := by
  obtain ⟨fd, S⟩ := std c 41 (d := d_law_cells_by) rfl fun _ _ _ _ _ _ us hl => match us, hl with | [_, _, _], _ => rfl
  exact ⟨i_law_cells_by, fd, rfl, k_law_cells_by, rfl, rfl, S⟩
theorem s_law (c : He.SaysD fal fnl K) : ∃ fn fd, prg.fn 43 = some fn ∧ ddB tab (dds 43) fn = true ∧ tab.ret 43 = fn.ret ∧ tab.mty 43 = fn.mu ∧ Std K (dds 43) (He.fAd K (dds 43).at_) fd := by
  obtain ⟨fd, S⟩ := std c 42 (d := d_law) rfl fun _ _ _ _ _ _ us hl => match us, hl with | [_], _ => rfl
  exact ⟨i_law, fd, rfl, k_law, rfl, rfl, S⟩
theorem facts_ok (X : K.In h) (Gg : h.Ns mainGlobals mg) (c : He.SaysD fal fnl K) : Facts (wd K) mg where
  finj := nmF_inj (by decide +kernel) (by decide +kernel)
  free := fun b => by
    cases b
    · exact He.free_ok X Gg (c.fact 43 (f := .free "len") rfl)
    · exact He.free_ok X Gg (c.fact 44 (f := .free "int") rfl)
    · exact He.free_ok X Gg (c.fact 45 (f := .free "str") rfl)
    · exact He.free_ok X Gg (c.fact 46 (f := .free "list") rfl)
    · exact He.free_ok X Gg (c.fact 47 (f := .free "tuple") rfl)
    · exact He.free_ok X Gg (c.fact 48 (f := .free "dict") rfl)
    · exact He.free_ok X Gg (c.fact 49 (f := .free "all") rfl)
    · exact He.free_ok X Gg (c.fact 50 (f := .free "any") rfl)
    · exact He.free_ok X Gg (c.fact 51 (f := .free "sum") rfl)
    · exact He.free_ok X Gg (c.fact 52 (f := .free "abs") rfl)
    · exact He.free_ok X Gg (c.fact 53 (f := .free "max") rfl)
    · exact He.free_ok X Gg (c.fact 54 (f := .free "min") rfl)
    · exact He.free_ok X Gg (c.fact 55 (f := .free "sorted") rfl)
  rng := He.free_ok X Gg (c.fact 56 (f := .free "range") rfl)
  enum := He.free_ok X Gg (c.fact 57 (f := .free "enumerate") rfl)
  zip := He.free_ok X Gg (c.fact 58 (f := .free "zip") rfl)
  rev := He.free_ok X Gg (c.fact 59 (f := .free "reversed") rfl)
  isi := He.free_ok X Gg (c.fact 60 (f := .free "isinstance") rfl)
  boo := He.free_ok X Gg (c.fact 61 (f := .free "bool") rfl)
  gs := fun i hi => by
    match i, hi with
    | 0, _ => exact He.str_ok X Gg (c.fact 62 (f := .str "FIGURES" (mk [48, 49, 50, 51, 52, 53, 54, 55, 56, 57])) rfl)
    | 1, _ => exact He.str_ok X Gg (c.fact 63 (f := .str "SIGNS" (mk [97, 98, 99, 100, 101, 102, 103, 104, 105, 106, 107, 108, 109, 110, 111, 112, 113, 114, 115, 116, 117, 118, 119, 120, 121, 122, 48, 49, 50, 51, 52, 53, 54, 55, 56, 57])) rfl)
    | n + 2, hn => exact absurd hn (by show ¬ n + 2 < 2; omega)
  cls := fun _ => He.cls_ok (c.fact 64 (f := .cls "Hall") rfl)
  nat := fun _ f hf => by
    match f, hf with
    | 0, _ => exact He.noat_ok (c.fact 65 (f := .noat "Hall" "shapes") rfl)
    | 1, _ => exact He.noat_ok (c.fact 66 (f := .noat "Hall" "marks") rfl)
    | 2, _ => exact He.noat_ok (c.fact 67 (f := .noat "Hall" "points") rfl)
    | 3, _ => exact He.noat_ok (c.fact 68 (f := .noat "Hall" "letters") rfl)
    | 4, _ => exact He.noat_ok (c.fact 69 (f := .noat "Hall" "gaps") rfl)
    | 5, _ => exact He.noat_ok (c.fact 70 (f := .noat "Hall" "classes") rfl)
    | 6, _ => exact He.noat_ok (c.fact 71 (f := .noat "Hall" "features") rfl)
    | 7, _ => exact He.noat_ok (c.fact 72 (f := .noat "Hall" "rules") rfl)
    | 8, _ => exact He.noat_ok (c.fact 73 (f := .noat "Hall" "place") rfl)
    | 9, _ => exact He.noat_ok (c.fact 74 (f := .noat "Hall" "word") rfl)
    | 10, _ => exact He.noat_ok (c.fact 75 (f := .noat "Hall" "hall") rfl)
    | 11, _ => exact He.noat_ok (c.fact 76 (f := .noat "Hall" "settings") rfl)
    | 12, _ => exact He.noat_ok (c.fact 77 (f := .noat "Hall" "way") rfl)
    | n + 13, hn => exact absurd hn (by show ¬ n + 13 < 13; omega)
theorem txts_ok (X : K.In h) (Gg : h.Ns mainGlobals mg) (c : He.SaysD fal fnl K) : Txts (wd K) prg mg dds (fun f => He.fAd K (dds f).at_) [1, 2, 3, 4, 5, 6, 7, 8, 9, 10, 11, 12, 13, 14, 15, 16, 17, 18, 19, 20, 21, 22, 23, 24, 25, 26, 27, 28, 29, 30, 31, 32, 33, 34, 35, 36, 37, 38, 39, 40, 41, 42, 43] where
  tab := rfl
  fn := AllL.mem (p := fun f => ∃ fn fd, prg.fn f = some fn ∧ ddB tab (dds f) fn = true ∧ tab.ret f = fn.ret ∧ tab.mty f = fn.mu ∧ Std K (dds f) (He.fAd K (dds f).at_) fd) ⟨s_width_of c, s_is_name c, s_number_of c, s_signed_of c, s_is_item c, s_words_of c, s_Hall_init c, s_first_due c, s_all_names c, s_lacking c, s_spots_of c, s_shape_row c, s_mark_row c, s_point_row c, s_faces_due c, s_letter_row c, s_gap_row c, s_class_row c, s_feature_row c, s_parted c, s_rule_parts c, s_item_lacks c, s_rule_row c, s_hall_row c, s_read_hall c, s_law_cell_at c, s_law_mixed c, s_law_names_by c, s_law_shapes_by c, s_law_spot_by c, s_law_marks_by c, s_law_points_by c, s_law_letters_by c, s_law_classes_by c, s_law_items_by c, s_law_rules_by c, s_law_hall_by c, s_law_pair_text c, s_law_rule_text c, s_law_hall_text c, s_law_whole c, s_law_cells_by c, s_law c, trivial⟩
  le := fun f hf => by
    have e : (tab.fns.all fun f => ([1, 2, 3, 4, 5, 6, 7, 8, 9, 10, 11, 12, 13, 14, 15, 16, 17, 18, 19, 20, 21, 22, 23, 24, 25, 26, 27, 28, 29, 30, 31, 32, 33, 34, 35, 36, 37, 38, 39, 40, 41, 42, 43] : List Nat).contains f) = true := by decide +kernel
    simpa using List.all_eq_true.mp e f hf
  glo := AllL.mem (p := fun f => mg (tab.gname f) = some (.ref (He.fAd K (dds f).at_))) ⟨He.glo_ok X Gg (c.fact 0 (f := .glo "width_of") rfl), He.glo_ok X Gg (c.fact 1 (f := .glo "is_name") rfl), He.glo_ok X Gg (c.fact 2 (f := .glo "number_of") rfl), He.glo_ok X Gg (c.fact 3 (f := .glo "signed_of") rfl), He.glo_ok X Gg (c.fact 4 (f := .glo "is_item") rfl), He.glo_ok X Gg (c.fact 5 (f := .glo "words_of") rfl), He.glo_ok X Gg (c.fact 6 (f := .glo "first_due") rfl), He.glo_ok X Gg (c.fact 7 (f := .glo "all_names") rfl), He.glo_ok X Gg (c.fact 8 (f := .glo "lacking") rfl), He.glo_ok X Gg (c.fact 9 (f := .glo "spots_of") rfl), He.glo_ok X Gg (c.fact 10 (f := .glo "shape_row") rfl), He.glo_ok X Gg (c.fact 11 (f := .glo "mark_row") rfl), He.glo_ok X Gg (c.fact 12 (f := .glo "point_row") rfl), He.glo_ok X Gg (c.fact 13 (f := .glo "faces_due") rfl), He.glo_ok X Gg (c.fact 14 (f := .glo "letter_row") rfl), He.glo_ok X Gg (c.fact 15 (f := .glo "gap_row") rfl), He.glo_ok X Gg (c.fact 16 (f := .glo "class_row") rfl), He.glo_ok X Gg (c.fact 17 (f := .glo "feature_row") rfl), He.glo_ok X Gg (c.fact 18 (f := .glo "parted") rfl), He.glo_ok X Gg (c.fact 19 (f := .glo "rule_parts") rfl), He.glo_ok X Gg (c.fact 20 (f := .glo "item_lacks") rfl), He.glo_ok X Gg (c.fact 21 (f := .glo "rule_row") rfl), He.glo_ok X Gg (c.fact 22 (f := .glo "hall_row") rfl), He.glo_ok X Gg (c.fact 23 (f := .glo "read_hall") rfl), He.glo_ok X Gg (c.fact 24 (f := .glo "_law_cell_at") rfl), He.glo_ok X Gg (c.fact 25 (f := .glo "_law_mixed") rfl), He.glo_ok X Gg (c.fact 26 (f := .glo "_law_names_by") rfl), He.glo_ok X Gg (c.fact 27 (f := .glo "_law_shapes_by") rfl), He.glo_ok X Gg (c.fact 28 (f := .glo "_law_spot_by") rfl), He.glo_ok X Gg (c.fact 29 (f := .glo "_law_marks_by") rfl), He.glo_ok X Gg (c.fact 30 (f := .glo "_law_points_by") rfl), He.glo_ok X Gg (c.fact 31 (f := .glo "_law_letters_by") rfl), He.glo_ok X Gg (c.fact 32 (f := .glo "_law_classes_by") rfl), He.glo_ok X Gg (c.fact 33 (f := .glo "_law_items_by") rfl), He.glo_ok X Gg (c.fact 34 (f := .glo "_law_rules_by") rfl), He.glo_ok X Gg (c.fact 35 (f := .glo "_law_hall_by") rfl), He.glo_ok X Gg (c.fact 36 (f := .glo "_law_pair_text") rfl), He.glo_ok X Gg (c.fact 37 (f := .glo "_law_rule_text") rfl), He.glo_ok X Gg (c.fact 38 (f := .glo "_law_hall_text") rfl), He.glo_ok X Gg (c.fact 39 (f := .glo "_law_whole") rfl), He.glo_ok X Gg (c.fact 40 (f := .glo "_law_cells_by") rfl), He.glo_ok X Gg (c.fact 41 (f := .glo "law") rfl), trivial⟩
  cls := fun i hi => by
    have hi : i < 1 := hi
    refine ⟨by show 7 ∈ ([1, 2, 3, 4, 5, 6, 7, 8, 9, 10, 11, 12, 13, 14, 15, 16, 17, 18, 19, 20, 21, 22, 23, 24, 25, 26, 27, 28, 29, 30, 31, 32, 33, 34, 35, 36, 37, 38, 39, 40, 41, 42, 43] : List Nat); decide, He.mkr_ok (c.fact 78 (f := .mkr "Hall") rfl), He.glo_ok X Gg (c.fact 42 (f := .glo "Hall") rfl), rfl, rfl⟩
end
theorem walk_ok {P : Program} {w : World} {K : PySem.W.Frag} {h : Heap} {mg : Str → Option Value} {f : Addr} (pure : ∀ ns : List Int, ns.length ≤ 63 → (run prg 20).p f_law [.scr ns] = .ok (.bl true)) (X : K.In h) (Gg : h.Ns mainGlobals mg) (hfa : mg ("law" : Str) = some (.ref f)) (c : He.SaysD fal fnl K) :
    ∃ (fd : FuncData) (sp : Sp), (∀ (s : Shared) (v : Value), BindsTo s fd ⟨[v], []⟩ [("_law_script", v)]) ∧ (∀ (H : Hp) (a : Addr) (ns : List Int), ns.length ≤ 63 → Only H → SqL K H a (ns.map V.int) → sp [.ref a] H (fun v _ => v = .bl true) fun _ _ _ => False) ∧ ∀ base : Heap, K.In base → base.Ns mainGlobals mg → FnOk P w K mg base (L2.CX P w) 40 f fd ["_law_script"] sp := by
  obtain ⟨fd, F⟩ := c.def_ 42 (d := df d_law) rfl
  have e := hfa.symm.trans (He.glo_ok X Gg (c.fact 41 (f := .glo "law") rfl))
  cases e
  have b := FunD.bindsA (ps := ["_law_script"]) F fun _ _ _ _ _ _ us hl => match us, hl with | [_], _ => rfl
  have fc := facts_ok X Gg c
  have tx := txts_ok X Gg c
  refine ⟨fd, spP (wd K) (run prg 20) f_law, fun s v => b s [v] rfl, fun H a ns hl hO hS => law_sp hO hS (pure ns hl), fun base _ _ => ?_⟩
  have ih := fns_ok (P := P) (w := w) (base := base) fc tx 19
  have st : Std K d_law (He.ga K "law") fd := ⟨F, FunD.bindsN (ps := ["_law_script"]) F fun _ _ _ _ _ _ us hl => match us, hl with | [_], _ => rfl⟩
  exact fnP_ok prg rfl ih fc st k_law rfl (f := f_law) rfl fun ds => rfl
end G
open PySem PySem.W PySem.Calls PyProof.Rows
theorem G.join (pure : ∀ ns : List Int, ns.length ≤ 63 → (G.run G.prg 20).p G.f_law [.scr ns] = .ok (.bl true)) : PySem.Challenge.rw_glyphhall_k41_widths.Holds := by
  w_on; o_law
  refine HandSHeadRun.head_any (r := OpenLaw.row PySem.Challenge.rw_glyphhall_k41_widths) (q := view (OpenLaw.row PySem.Challenge.rw_glyphhall_k41_widths).prog [51]) (H := G.hk) (ob := G.ob) (M := 3000) (loose := G.loose) (d := HandSHeadRun.topDef (OpenLaw.row PySem.Challenge.rw_glyphhall_k41_widths).prog 51) (kwd := []) G.ob_eq
    (by kernel_rfl) (fun s => by kernel_rfl) G.headrun (by kernel_rfl) (by kernel_rfl) (by kernel_rfl) (by rfl) (by first | assumption | decide +kernel) (by decide +kernel) ⟨rfl, rfl, rfl, rfl, rfl, by decide +kernel⟩ ?hw ?hc
  case hw => w_witness2
  case hc =>
    refine G.walk_w (l := PySem.Challenge.rw_glyphhall_k41_widths) (m := 63) (lev := 40) (par := "_law_script") (CX := L2.CX (PySem.Challenge.rw_glyphhall_k41_widths).prog) rfl (by decide) (by kernel_rfl) ⟨rfl, by decide, by decide⟩ ?F fun w H s e s' h => ?_
    · intro w mg fa h Y Gg hmg0
      obtain ⟨K, KX, c⟩ := Y
      have hmg : mg ("law" : PySem.Str) = some (.ref fa) := by
        have e : (HandSHeadRun.topDef (OpenLaw.row PySem.Challenge.rw_glyphhall_k41_widths).prog 51).name = ("law" : PySem.Str) := by kernel_rfl
        rw [← e]
        exact hmg0
      obtain ⟨fd, sp, h1, h2, h3⟩ := G.walk_ok (P := (PySem.Challenge.rw_glyphhall_k41_widths).prog) (w := w) pure KX Gg hmg c
      exact ⟨K, fd, sp, KX, h1, h2, h3⟩
    · obtain ⟨_, _, _, _, _, _, _, _, _, _, _, _, z⟩ := h
      exact z
end
theorem PySem.Challenge.cw_glyphhall_k41_widths_holds : PySem.Challenge.rw_glyphhall_k41_widths.Holds := by
  exact G.join fun ns h => G.e_law (k := 13) h
