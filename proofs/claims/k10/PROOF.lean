import PyProof.Rows.All
import Wide.All
import OpenK.AllK
import Wide.FinOn
import HandS.ForMost
import HandS.Defaults
import HandS.TupAny
import HandS.TupMul
import HandS.Deep
import HandS.SortInts
import HandS.Small
import HandS.Wide
import HandS.Conv
import HandS.Iter
import HandS.Strs
import HandS.WordsDict
import HandS.IsInst
import HandS.Zip0
import PyProof.Draws
import PyProof.EnumMake
import HandS.Sort
import HandS.More
import KE.KDictList
import KE.KDictPairs
import HandS.Zip
import HandS.Style
import HandS.Ends
import HandS.HeadEnd
import HandS.Base
import HandS.Words
import HandS.WordsExc
import HandS.Head0
import HandS.Head1
import HandS.Head2
import HandS.HeadHook1
import HandS.HeadHook2
import PySem.Challenge.RW_swapshelves_k10_whole_meetings_by_simula
set_option Elab.async false
set_option linter.all false
set_option maxRecDepth 100000
/-! Sw0: values, the store, the evaluator of the small language that the laws' texts are read into. -/
namespace Sw
open PySem L2

inductive D where
  | non | bl (b : Bool) | int (i : Int) | str (x : Str)
  | tup (ds : List D) | lst (ds : List D) | lck (ds : List D)
  | dct (ks : List L2.Key) (ds : List D)
  | ref (n : Nat) | fn (f : Nat)

inductive Ob where
  | lst (ds : List D) | dct (kvs : List (L2.Key × D)) | lkd (kvs : List (L2.Key × D)) | ins (c : Nat) (fs : List (Str × D))

abbrev Store := List Ob
abbrev Env := List (Option D)

mutual
def D.bel (β : Nat) : D → Bool
  | .ref n => decide (n < β)
  | .tup ds => D.bels β ds
  | .lst ds => D.bels β ds
  | .lck ds => D.bels β ds
  | .dct _ ds => D.bels β ds
  | _ => true
def D.bels (β : Nat) : List D → Bool
  | [] => true
  | d :: ds => D.bel β d && D.bels β ds
end
def Ob.bel (β : Nat) : Ob → Bool
  | .lst ds => D.bels β ds
  | .dct kvs => D.bels β (kvs.map (·.2))
  | .lkd kvs => D.bels β (kvs.map (·.2))
  | .ins _ fs => D.bels β (fs.map (·.2))

def getL (h : Store) : D → Option (List D)
  | .lst ds => some ds
  | .ref n => match h[n]? with
    | some (.lst ds) => some ds
    | _ => none
  | _ => none
/-- a list that is read (a locked one too) -/
def getR (h : Store) : D → Option (List D)
  | .lck ds => some ds
  | d => getL h d
def getT : D → Option (List D)
  | .tup ds => some ds
  | _ => none
def getS (h : Store) (d : D) : Option (List D) := match d with
  | .tup ds => some ds
  | d => getR h d

def dKey : D → Option L2.Key
  | .int i => some (.inl i)
  | .str x => some (.inr x)
  | _ => none
def kD : L2.Key → D
  | .inl i => .int i
  | .inr x => .str x
def getK (h : Store) : D → Option (List (L2.Key × D))
  | .dct ks ds => if ks.length = ds.length then some (ks.zip ds) else none
  | .ref n => match h[n]? with
    | some (.dct kvs) => some kvs
    | some (.lkd kvs) => some kvs
    | _ => none
  | _ => none
def look (kvs : List (L2.Key × D)) (k : L2.Key) : Option D := (kvs.find? fun p => decide (p.1 = k)).map (·.2)
def put (kvs : List (L2.Key × D)) (k : L2.Key) (v : D) : List (L2.Key × D) :=
  if (kvs.any fun p => decide (p.1 = k)) = true then kvs.map (fun p => if p.1 = k then (p.1, v) else p) else kvs ++ [(k, v)]

/-- data as the library says them -/
def toPy (h : Store) : Nat → D → Option PyData
  | 0, _ => none
  | k + 1, d => match d with
    | .non => some .none
    | .bl b => some (.bool b)
    | .int i => some (.int i)
    | .str x => some (.str x)
    | .tup ds => (ds.mapM (toPy h k)).map .tuple
    | .lst ds => (ds.mapM (toPy h k)).map .list
    | .lck ds => (ds.mapM (toPy h k)).map .list
    | .ref n => match h[n]? with
      | some (.lst ds) => (ds.mapM (toPy h k)).map .list
      | _ => none
    | _ => none
def pyOf (h : Store) (d : D) : Option PyData := match toPy h 12 d with
  | some p => if SeqAt.shaped p = true then some p else none
  | none => none
def eqD (h : Store) (x y : D) : Option Bool := do
  let a ← pyOf h x
  let b ← pyOf h y
  return PyData.eqv a b

/-- a new list: in the store, or a value -/
def mkL (m : Bool) (ds : List D) (h : Store) : D × Store := if m then (.ref h.length, h ++ [.lst ds]) else (.lst ds, h)

/-- what a call hands back: what the store from n on holds is read out of it -/
def froz (h : Store) (n : Nat) : Nat → D → Option D
  | k, d => if d.bel n then some d else match k with
    | 0 => none
    | k + 1 => match d with
      | .tup ds => (ds.mapM (froz h n k)).map .tup
      | .lst ds => (ds.mapM (froz h n k)).map .lst
      | .ref m => match h[m]? with
        | some (.lst ds) => (ds.mapM (froz h n k)).map .lst
        | some (.dct kvs) => (kvs.mapM fun p => froz h n k p.2).map fun ds => .dct (kvs.map (·.1)) ds
        | _ => none
      | _ => none

inductive Bop where | add | sub | mul | fdiv | mod | pow
inductive Cop where | eq | ne | lt | le | gt | ge | inn | nin | din | dnin | isN | notN
inductive Bi where | len | list | tuple | sum | all | min | max | min2 | max2 | abs | int | str | sorted | rl | rt | isinst (ts : List String) | listvals | lenset
inductive Mt where | append | extend | pop | popAt | index | get | get2 | insert | count | tindex | update

mutual
inductive E where
  | var (i : Nat) | non | bl (b : Bool) | int (i : Int) | str (x : Str) | glo (x : Str) (d : D)
  | neg (a : E) | nt (a : E) | bin (op : Bop) (m : Bool) (a b : E)
  | and (a b : E) | or (a b : E) | ife (c a b : E)
  | cmp (op : Cop) (a b : E) | chn (op op' : Cop) (a b c : E)
  | tup (es : Es) | lst (m : Bool) (es : Es) | dnew (ks : List L2.Key) (es : Es)
  | ix (a b : E) | dix (a b : E) | sl (m : Bool) (a : E) (lo hi : Eo)
  | call (x : Str) (f : Nat) (es : Es) | bif (b : Bi) (m : Bool) (es : Es)
  | mth (b : Mt) (o : E) (es : Es)
  | lc (m : Bool) (elt : E) (g : Tg) (it : Wi) (cond : Eo) (own : List Nat)
  | sl3 (m : Bool) (a : E) (lo hi : Eo) (st : E)
  | fld (cl : Nat) (a : E) (f : Str) | make (x : Str) (cl f : Nat) (es : Es) | meth (cl : Nat) (m : Str) (f : Nat) (o : E) (es : Es)
inductive Es where | nil | cons (e : E) (es : Es)
inductive Eo where | none | some (e : E)
inductive Wi where
  | ev (e : E) | tv (e : E) | evx (e : E) | enx (e : E) | rng1 (a : E) | rng2 (a b : E) | rng3 (a b c : E) | enl (e : E) | ent (e : E) | zipT (a b : E) | zipL (a b : E) | keys (i : Nat)
inductive Tg where
  | name (i : Nat) | sub (o i : E) | dsub (o i : E) | slc (o lo hi : E) | tup (ts : Tgs)
inductive Tgs where | nil | cons (t : Tg) (ts : Tgs)
end

inductive S where
  | set (t : Tg) (e : E) | par (is : List Nat) (es : Es) | aug (i : Nat) (op : Bop) (e : E)
  | expr (e : E) | ret (e : E) | retN | pass | cont
  | ife (c : E) (a b : List S) | fr (t : Tg) (it : Wi) (body : List S) | wh (c : E) (body : List S)
  | lock (i : Nat) (s : S) | stuck | fset (cl : Nat) (o : E) (f : Str) (e : E)

def asInts : List D → Option (List Int)
  | [] => some []
  | .int i :: r => (asInts r).map (i :: ·)
  | _ => none
def asBls : List D → Option (List Bool)
  | [] => some []
  | .bl i :: r => (asBls r).map (i :: ·)
  | _ => none
def cutD (xs : List D) (lo hi : Option Int) : List D := (xs.drop (HT.sIx xs.length 0 lo)).take (HT.sIx xs.length xs.length hi - HT.sIx xs.length 0 lo)

/-- xs[lo:hi:st] -/
def pickD {α : Type} (xs : List α) (lo hi st : Option Int) : List α := (sliceRange (sliceBounds lo hi st xs.length).1 (sliceBounds lo hi st xs.length).2.1 (sliceBounds lo hi st xs.length).2.2).filterMap (xs[·]?)
abbrev small (i : Int) : Prop := -(2 ^ 64) < i ∧ i < 2 ^ 64
abbrev mid (i : Int) : Prop := -(2 ^ 62) ≤ i ∧ i < 2 ^ 62

def binI : Bop → Int → Int → Option Int
  | .add, i, j => some (i + j)
  | .sub, i, j => some (i - j)
  | .mul, i, j => if small i ∨ small j then some (i * j) else none
  | .fdiv, i, j => if 0 < j ∧ j.natAbs.log2 < 9000 then some (i / j) else none
  | .mod, i, j => if 0 < j then some (i % j) else none
  | .pow, i, j => if 0 ≤ j ∧ j ≤ 1000000 ∧ i.natAbs < 2 ^ 64 then some (i ^ j.toNat) else none
def binop (op : Bop) (m : Bool) (x y : D) (h : Store) : Option (D × Store) :=
  match x, y with
  | .int i, .int j => (binI op i j).map fun k => (.int k, h)
  | .str a, .str b => match op with
    | .add => if a.length + b.length ≤ sizeLine then some (.str (a ++ b), h) else none
    | _ => none
  | .tup xs, .tup ys => match op with
    | .add => if xs.length + ys.length ≤ sizeLine then some (.tup (xs ++ ys), h) else none
    | _ => none
  | .tup xs, .int k => match op with
    | .mul => if xs ≠ [] ∧ 2 ≤ k ∧ k ≤ 1000 ∧ xs.length ≤ 1000 then some (.tup (List.replicate k.toNat xs).flatten, h) else none
    | _ => none
  | x, .int k => match op, getL h x with
    | .mul, some xs => if -(2 ^ 63) ≤ k ∧ k < 2 ^ 63 ∧ xs.length * k.toNat ≤ sizeLine then some (mkL m (List.replicate k.toNat xs).flatten h) else none
    | _, _ => none
  | x, y => match op, getL h x, getL h y with
    | .add, some xs, some ys => if xs.length + ys.length ≤ sizeLine then some (mkL m (xs ++ ys) h) else none
    | _, _, _ => none

def inD (h : Store) (x y : D) : Option Bool := do
  let d ← pyOf h x
  match y with
  | .tup ys =>
    match pyOf h (.tup ys) with
    | some (.tuple es) => some (es.any fun z => PyData.eqv z d)
    | _ => none
  | y => match pyOf h y with
    | some (.list es) => some (es.any fun z => PyData.eqv z d)
    | _ => none
def cmpI (g : Int → Int → Bool) : D → D → Option Bool
  | .int i, .int j => some (g i j)
  | _, _ => none
def isNonD : D → Bool
  | .non => true
  | _ => false
def dinD (h : Store) (x y : D) : Option Bool := match dKey x, getK h y with
  | some k, some kvs => some (look kvs k).isSome
  | _, _ => none
def cmpD (op : Cop) (x y : D) (h : Store) : Option Bool := match op with
  | .eq => eqD h x y
  | .ne => (eqD h x y).map (!·)
  | .lt => cmpI (fun i j => decide (i < j)) x y
  | .le => cmpI (fun i j => decide (i ≤ j)) x y
  | .gt => cmpI (fun i j => decide (j < i)) x y
  | .ge => cmpI (fun i j => decide (j ≤ i)) x y
  | .inn => inD h x y
  | .nin => (inD h x y).map (!·)
  | .din => dinD h x y
  | .dnin => (dinD h x y).map (!·)
  | .isN => if isNonD y = true then some (isNonD x) else none
  | .notN => if isNonD y = true then some (!isNonD x) else none

def tyD (h : Store) : D → Option String
  | .non => some "NoneType" | .bl _ => some "bool" | .int _ => some "int" | .str _ => some "str"
  | .tup _ => some "tuple" | .lst _ => some "list" | .lck _ => none | .dct _ _ => some "dict"
  | .ref n => match h[n]? with
    | some (.lst _) => some "list"
    | some (.dct _) => some "dict"
    | _ => none
  | .fn _ => none
def subTy (t T : String) : Bool := t == T || (t == "bool" && T == "int")

def rangeL (a b : Int) : List Int := (List.range (b - a).toNat).map fun (k : Nat) => a + (k : Int)
def biF (b : Bi) (m : Bool) (vs : List D) (h : Store) : Option (D × Store) := match b, vs with
  | .len, [.str z] => if z.length ≤ sizeLine then some (.int z.length, h) else none
  | .len, [d] => match getS h d with
    | some ds => some (.int ds.length, h)
    | none => (getK h d).map fun kvs => (.int kvs.length, h)
  | .list, [d] => (getS h d).map fun ds => mkL m ds h
  | .tuple, [d] => (getS h d).map fun ds => (.tup ds, h)
  | .sum, [d] => match getS h d with
    | some ds => (asInts ds).map fun ns => (.int ns.sum, h)
    | none => none
  | .all, [d] => match getR h d with
    | some ds => (asBls ds).map fun bs => (.bl (bs.all id), h)
    | none => none
  | .min, [d] => match getR h d with
    | some ds => match asInts ds with
      | some ns => ns.min?.map fun n => (.int n, h)
      | none => none
    | none => none
  | .max, [d] => match getR h d with
    | some ds => match asInts ds with
      | some ns => ns.max?.map fun n => (.int n, h)
      | none => none
    | none => none
  | .min2, [.int i, .int j] => some (.int (if j < i then j else i), h)
  | .max2, [.int i, .int j] => some (.int (if j > i then j else i), h)
  | .abs, [.int i] => some (.int (if i < 0 then -i else i), h)
  | .int, [.int i] => some (.int i, h)
  | .int, [.bl b] => some (.int (if b then 1 else 0), h)
  | .sorted, [d] => match getR h d with
    | some ds => (asInts ds).map fun ns => mkL m ((ns.mergeSort (fun a b => decide (a ≤ b))).map .int) h
    | none => match getK h d with
      | some kvs => (asInts (kvs.map fun p => kD p.1)).map fun ns => mkL m ((ns.mergeSort (fun a b => decide (a ≤ b))).map .int) h
      | none => none
  | .rl, [.int j] => if mid j ∧ j.toNat ≤ 2 ^ 24 then some (mkL m ((rangeL 0 j).map .int) h) else none
  | .rl, [.int i, .int j] => if mid i ∧ mid j ∧ (j - i).toNat ≤ 2 ^ 24 then some (mkL m ((rangeL i j).map .int) h) else none
  | .rt, [.int j] => if mid j ∧ j.toNat ≤ 2 ^ 24 then some (.tup ((rangeL 0 j).map .int), h) else none
  | .rt, [.int i, .int j] => if mid i ∧ mid j ∧ (j - i).toNat ≤ 2 ^ 24 then some (.tup ((rangeL i j).map .int), h) else none
  | .isinst ts, [d] => (tyD h d).map fun t => (.bl (ts.any fun T => subTy t T), h)
  | .listvals, [d] => (getK h d).map fun kvs => mkL m (kvs.map (·.2)) h
  | .lenset, [d] => match getR h d with
    | some ds => match asInts ds with
      | some ns => if ns.Nodup ∧ ns.length ≤ 4000 then some (.int ns.length, h) else none
      | none => none
    | none => none
  | _, _ => none

/-- an attribute is set -/
def putFD (f : Str) (v : D) : List (Str × D) → List (Str × D)
  | [] => [(f, v)]
  | (g, x) :: r => if g = f then (g, v) :: r else (g, x) :: putFD f v r
/-- the store's object n gets other content -/
def wr (b : Nat) (n : Nat) (o : Ob) (new : List D) (h : Store) : Option Store := if (D.bels 0 new = true ∨ b ≤ n) ∧ n < h.length then some (h.set n o) else none
def on1 (f : Nat → D → Option (D × Store)) : D → List D → Option (D × Store)
  | .ref n, [v] => f n v
  | _, _ => none
def mAppend (b : Nat) (n : Nat) (v : D) (h : Store) : Option (D × Store) := match h[n]? with
  | some (.lst ds) => if ds.length < sizeLine then (wr b n (.lst (ds ++ [v])) [v] h).map fun h' => (.non, h') else none
  | _ => none
def mExtend (b : Nat) (n : Nat) (v : D) (h : Store) : Option (D × Store) := match h[n]?, getL h v with
  | some (.lst ds), some es => if ds.length + es.length ≤ sizeLine then (wr b n (.lst (ds ++ es)) es h).map fun h' => (.non, h') else none
  | _, _ => none
def mPop (b : Nat) (n : Nat) (h : Store) : Option (D × Store) := match h[n]? with
  | some (.lst ds) => match ds[ds.length - 1]? with
    | some y => (wr b n (.lst ds.dropLast) [] h).map fun h' => (y, h')
    | none => none
  | _ => none
def mPopAt (b : Nat) (n : Nat) (i : Int) (h : Store) : Option (D × Store) := match h[n]? with
  | some (.lst ds) => match ixN ds.length i with
    | some k => match ds[k]? with
      | some y => if mid i then (wr b n (.lst (ds.eraseIdx k)) [] h).map fun h' => (y, h') else none
      | none => none
    | none => none
  | _ => none
def mIndex (o v : D) (h : Store) : Option (D × Store) := match pyOf h o, pyOf h v with
  | some (.list es), some d => match es.findIdx? fun z => PyData.eqv z d with
    | some j => some (.int j, h)
    | none => none
  | _, _ => none
/-- t.index(x) of a tuple -/
def mTix (o v : D) (h : Store) : Option (D × Store) := match pyOf h o, pyOf h v with
  | some (.tuple es), some d => match es.findIdx? fun z => PyData.eqv z d with
    | some j => some (.int j, h)
    | none => none
  | _, _ => none
def dGet (o k v : D) (h : Store) : Option (D × Store) := match getK h o, dKey k with
  | some kvs, some k => some ((look kvs k).getD v, h)
  | _, _ => none
/-- pairs (key, value) -/
def pairsD : List D → Option (List (L2.Key × D))
  | [] => some []
  | .tup [k, v] :: r => match dKey k, pairsD r with
    | some k, some ps => some ((k, v) :: ps)
    | _, _ => none
  | _ => none
def putAll (kvs ps : List (L2.Key × D)) : List (L2.Key × D) := ps.foldl (fun acc p => put acc p.1 p.2) kvs
/-- d.update(xs) of a list of pairs -/
def mUpd (b : Nat) (n : Nat) (v : D) (h : Store) : Option (D × Store) := match h[n]?, getR h v with
  | some (.dct kvs), some es => match pairsD es with
    | some ps => if kvs.length + ps.length ≤ sizeLine then (wr b n (.dct (putAll kvs ps)) (ps.map (·.2)) h).map fun h' => (.non, h') else none
    | none => none
  | _, _ => none
def isDct (h : Store) : D → Bool
  | .ref n => match h[n]? with
    | some (.dct _) => true
    | _ => false
  | _ => false
def mtF (b : Nat) (mt : Mt) (o : D) (vs : List D) (h : Store) : Option (D × Store) := match mt with
  | .append => on1 (fun n v => mAppend b n v h) o vs
  | .extend => on1 (fun n v => mExtend b n v h) o vs
  | .pop => match o, vs with
    | .ref n, [] => mPop b n h
    | _, _ => none
  | .popAt => match o, vs with
    | .ref n, [.int i] => mPopAt b n i h
    | _, _ => none
  | .index => match vs with
    | [v] => mIndex o v h
    | _ => none
  | .tindex => match vs with
    | [v] => mTix o v h
    | _ => none
  | .get => match vs with
    | [k] => dGet o k .non h
    | _ => none
  | .get2 => match vs with
    | [k, v] => dGet o k v h
    | _ => none
  | .update => on1 (fun n v => mUpd b n v h) o vs
  | _ => none

def mtTy (mt : Mt) (x : D) (h : Store) : Bool := match mt with
  | .get => (getK h x).isSome
  | .get2 => (getK h x).isSome
  | .tindex => (getT x).isSome
  | .update => isDct h x
  | _ => (getR h x).isSome
def notRef (n : Nat) : D → Bool
  | .ref k => decide (k ≠ n)
  | _ => true
structure Cfg where
  b : Nat
  lk : List Nat := []
  call : Nat → List D → Nat → Store → Option (D × Store)

/-- what is walked: its items, the list of the store that has to stay -/
abbrev Wk := List D × Option (Nat × Ob)
def live (r : Option (Nat × Ob)) (h : Store) : Prop := match r with
  | none => True
  | some (n, o) => h[n]? = some o
open Classical in
noncomputable def lcL (r : Option (Nat × Ob)) (f : D → Store → Option (Option D × Store)) : List D → Store → Option (List D × Store)
  | [], h => if live r h then some ([], h) else none
  | d :: ds, h => if live r h then
      match f d h with
      | some (some y, h1) => (lcL r f ds h1).map fun p => (y :: p.1, p.2)
      | some (none, h1) => lcL r f ds h1
      | none => none
    else none
def zipD : List D → List D → List D
  | a :: as, b :: bs => .tup [a, b] :: zipD as bs
  | _, _ => []
def enumD (k : Nat) : List D → List D
  | [] => []
  | a :: as => .tup [.int k, a] :: enumD (k + 1) as
def stepL (a c : Int) : Nat → List D
  | 0 => []
  | n + 1 => .int a :: stepL (a + c) c n
def wipeD (env : Env) : List Nat → Env
  | [] => env
  | v :: vs => (wipeD env vs).set v none

mutual
noncomputable def evE (c : Cfg) : E → Env → Store → Option (D × Store)
  | .var i, env, h => match env[i]? with
    | some (some d) => some (d, h)
    | _ => none
  | .non, _, h => some (.non, h)
  | .bl b, _, h => some (.bl b, h)
  | .int i, _, h => some (.int i, h)
  | .str x, _, h => some (.str x, h)
  | .glo _ d, _, h => some (d, h)
  | .neg a, env, h => match evE c a env h with
    | some (.int i, h1) => some (.int (-i), h1)
    | _ => none
  | .nt a, env, h => match evE c a env h with
    | some (.bl i, h1) => some (.bl (!i), h1)
    | _ => none
  | .bin op m a b, env, h => match evE c a env h with
    | some (x, h1) => match evE c b env h1 with
      | some (y, h2) => binop op m x y h2
      | none => none
    | none => none
  | .and a b, env, h => match evE c a env h with
    | some (.bl true, h1) => evE c b env h1
    | some (.bl false, h1) => some (.bl false, h1)
    | _ => none
  | .or a b, env, h => match evE c a env h with
    | some (.bl false, h1) => evE c b env h1
    | some (.bl true, h1) => some (.bl true, h1)
    | _ => none
  | .ife t a b, env, h => match evE c t env h with
    | some (.bl true, h1) => evE c a env h1
    | some (.bl false, h1) => evE c b env h1
    | _ => none
  | .cmp op a b, env, h => match evE c a env h with
    | some (x, h1) => match evE c b env h1 with
      | some (y, h2) => (cmpD op x y h2).map fun k => (.bl k, h2)
      | none => none
    | none => none
  | .chn op op' a b e, env, h => match evE c a env h with
    | some (x, h1) => match evE c b env h1 with
      | some (y, h2) => match cmpD op x y h2 with
        | some true => match evE c e env h2 with
          | some (z, h3) => (cmpD op' y z h3).map fun k => (.bl k, h3)
          | none => none
        | some false => some (.bl false, h2)
        | none => none
      | none => none
    | none => none
  | .tup es, env, h => match evEs c es env h with
    | some (ds, h1) => if ds.length ≤ sizeLine then some (.tup ds, h1) else none
    | none => none
  | .lst m es, env, h => match evEs c es env h with
    | some (ds, h1) => if ds.length ≤ sizeLine then some (mkL m ds h1) else none
    | none => none
  | .dnew ks es, env, h => match evEs c es env h with
    | some (ds, h1) => if ds.length = ks.length ∧ ks.Nodup then some (.ref h1.length, h1 ++ [.dct (ks.zip ds)]) else none
    | none => none
  | .ix a b, env, h => match evE c a env h with
    | some (x, h1) => match evE c b env h1 with
      | some (.int i, h2) => match x with
        | .str z => if z.length ≤ sizeLine then (atI z.cps.toList i).map fun k => (.str ⟨#[k]⟩, h2) else none
        | x => match getS h2 x with
          | some ds => (atI ds i).map fun d => (d, h2)
          | none => none
      | _ => none
    | none => none
  | .dix a b, env, h => match evE c a env h with
    | some (x, h1) => match evE c b env h1 with
      | some (y, h2) => match getK h2 x, dKey y with
        | some kvs, some k => (look kvs k).map fun d => (d, h2)
        | _, _ => none
      | none => none
    | none => none
  | .sl m a lo hi, env, h => match evE c a env h with
    | some (x, h1) => match evO c lo env h1 with
      | some (l, h2) => match evO c hi env h2 with
        | some (u, h3) => match x with
          | .tup ds => some (.tup (cutD ds l u), h3)
          | x => (getR h3 x).map fun ds => mkL m (cutD ds l u) h3
        | none => none
      | none => none
    | none => none
  | .call _ f es, env, h => match evEs c es env h with
    | some (ds, h1) => c.call f ds c.b h1
    | none => none
  | .bif b m es, env, h => match evEs c es env h with
    | some (ds, h1) => biF b m ds h1
    | none => none
  | .mth b o es, env, h => match evE c o env h with
    | some (x, h1) => if mtTy b x h1 = true then match evEs c es env h1 with
      | some (ds, h2) => mtF c.b b x ds h2
      | none => none
      else none
    | none => none
  | .lc m elt g it cond own, env, h => match evIt c it env h with
    | some ((ds, r), h1) =>
      if ds.length ≤ sizeLine then
        match lcL r (fun d h => match asgT c g d (wipeD env own) h with
          | some (env2, h2) => match evO1 c cond env2 h2 with
            | some (true, h3) => match evE c elt env2 h3 with
              | some (y, h4) => some (some y, h4)
              | none => none
            | some (false, h3) => some (none, h3)
            | none => none
          | none => none) ds h1 with
        | some (out, h2) => some (mkL m out h2)
        | none => none
      else none
    | none => none
  | .sl3 m a lo hi st, env, h => match evE c a env h with
    | some (x, h1) => match evO c lo env h1 with
      | some (l, h2) => match evO c hi env h2 with
        | some (u, h3) => match evE c st env h3 with
          | some (.int k, h4) => if k ≠ 0 then (getR h4 x).map fun ds => mkL m (pickD ds l u (some k)) h4 else none
          | _ => none
        | none => none
      | none => none
    | none => none
  | .fld cl a f, env, h => match evE c a env h with
    | some (.ref n, h1) => match h1[n]? with
      | some (.ins cl' fs) => if cl' = cl then (fs.lookup f).map fun d => (d, h1) else none
      | _ => none
    | _ => none
  | .make _ cl f es, env, h => match evEs c es env h with
    | some (ds, h1) => match c.call f (.ref h1.length :: ds) c.b (h1 ++ [.ins cl []]) with
      | some (.non, h2) => some (.ref h1.length, h2)
      | _ => none
    | none => none
  | .meth cl m f o es, env, h => match evE c o env h with
    | some (.ref n, h1) => match h1[n]? with
      | some (.ins cl' fs) => if cl' = cl ∧ fs.lookup m = none then match evEs c es env h1 with
        | some (ds, h2) => c.call f (.ref n :: ds) c.b h2
        | none => none
        else none
      | _ => none
    | _ => none
noncomputable def evEs (c : Cfg) : Es → Env → Store → Option (List D × Store)
  | .nil, _, h => some ([], h)
  | .cons e es, env, h => match evE c e env h with
    | some (d, h1) => match evEs c es env h1 with
      | some (ds, h2) => some (d :: ds, h2)
      | none => none
    | none => none
/-- a part of a slice -/
noncomputable def evO (c : Cfg) : Eo → Env → Store → Option (Option Int × Store)
  | .none, _, h => some (none, h)
  | .some e, env, h => match evE c e env h with
    | some (.int i, h1) => some (some i, h1)
    | _ => none
/-- a comprehension's test -/
noncomputable def evO1 (c : Cfg) : Eo → Env → Store → Option (Bool × Store)
  | .none, _, h => some (true, h)
  | .some e, env, h => match evE c e env h with
    | some (.bl i, h1) => some (i, h1)
    | _ => none
noncomputable def evIt (c : Cfg) : Wi → Env → Store → Option (Wk × Store)
  | .ev e, env, h => match evE c e env h with
    | some (.ref n, h1) => match h1[n]? with
      | some (.lst ds) => some ((ds, some (n, .lst ds)), h1)
      | _ => none
    | some (d, h1) => (getR h1 d).map fun ds => ((ds, none), h1)
    | none => none
  | .tv e, env, h => match evE c e env h with
    | some (.tup ds, h1) => some ((ds, none), h1)
    | _ => none
  | .evx e, env, h => match evE c e env h with
    | some (.ref n, h1) => match h1[n]? with
      | some (.lst ds) => some ((ds, some (n, .lst ds)), h1)
      | _ => none
    | some (d, h1) => (getS h1 d).map fun ds => ((ds, none), h1)
    | none => none
  | .enx e, env, h => match evE c e env h with
    | some (.ref n, h1) => match h1[n]? with
      | some (.lst ds) => some ((enumD 0 ds, some (n, .lst ds)), h1)
      | _ => none
    | some (d, h1) => (getS h1 d).map fun ds => ((enumD 0 ds, none), h1)
    | none => none
  | .rng1 a, env, h => match evE c a env h with
    | some (.int j, h1) => if mid j then some (((rangeL 0 j).map .int, none), h1) else none
    | _ => none
  | .rng2 a b, env, h => match evE c a env h with
    | some (.int i, h1) => match evE c b env h1 with
      | some (.int j, h2) => if mid i ∧ mid j then some (((rangeL i j).map .int, none), h2) else none
      | _ => none
    | _ => none
  | .rng3 _ _ _, _, _ => none
  | .enl e, env, h => match evE c e env h with
    | some (.ref n, h1) => match h1[n]? with
      | some (.lst ds) => some ((enumD 0 ds, some (n, .lst ds)), h1)
      | _ => none
    | some (d, h1) => (getR h1 d).map fun ds => ((enumD 0 ds, none), h1)
    | none => none
  | .ent e, env, h => match evE c e env h with
    | some (.tup ds, h1) => some ((enumD 0 ds, none), h1)
    | _ => none
  | .zipT a b, env, h => match evE c a env h with
    | some (.tup xs, h1) => match evE c b env h1 with
      | some (.tup ys, h2) => some ((zipD xs ys, none), h2)
      | _ => none
    | _ => none
  | .zipL _ _, _, _ => none
  | .keys i, env, h => match env[i]? with
    | some (some (.dct ks ds)) => if i ∈ c.lk ∧ ks.length = ds.length then some ((ks.map kD, none), h) else none
    | some (some (.ref n)) => match h[n]? with
      | some (.lkd kvs) => some ((kvs.map fun p => kD p.1, some (n, .lkd kvs)), h)
      | _ => none
    | _ => none
noncomputable def asgT (c : Cfg) : Tg → D → Env → Store → Option (Env × Store)
  | .name i, d, env, h => if i ∈ c.lk then none else some (env.set i (some d), h)
  | .sub o i, d, env, h => match evE c o env h with
    | some (x, h1) => match evE c i env h1 with
      | some (y, h2) => match x, y with
        | .ref n, .int i => match h2[n]? with
          | some (.lst ds) => match ixN ds.length i with
            | some j => (wr c.b n (.lst (ds.set j d)) [d] h2).map fun h3 => (env, h3)
            | none => none
          | _ => none
        | _, _ => none
      | none => none
    | none => none
  | .dsub o i, d, env, h => match evE c o env h with
    | some (x, h1) => match evE c i env h1 with
      | some (y, h2) => match x, dKey y with
        | .ref n, some k => match h2[n]? with
          | some (.dct kvs) => if kvs.length < sizeLine then (wr c.b n (.dct (put kvs k d)) [d] h2).map fun h3 => (env, h3) else none
          | _ => none
        | _, _ => none
      | none => none
    | none => none
  | .slc o lo hi, d, env, h => match evE c o env h with
    | some (x, h1) => match evE c lo env h1 with
      | some (.int i, h2) => match evE c hi env h2 with
        | some (.int j, h3) => match x with
          | .ref n => match h3[n]?, getL h3 d with
            | some (.lst ds), some es => if 0 ≤ i ∧ i ≤ j ∧ j ≤ ds.length ∧ ds.length + es.length ≤ sizeLine ∧ notRef n d = true then
                (wr c.b n (.lst (ds.take i.toNat ++ es ++ ds.drop j.toNat)) es h3).map fun h4 => (env, h4) else none
            | _, _ => none
          | _ => none
        | _ => none
      | _ => none
    | none => none
  | .tup ts, d, env, h => match d with
    | .tup ds => asgTs c ts ds env h
    | _ => none
noncomputable def asgTs (c : Cfg) : Tgs → List D → Env → Store → Option (Env × Store)
  | .nil, ds, env, h => match ds with
    | [] => some (env, h)
    | _ => none
  | .cons t ts, ds, env, h => match ds with
    | d :: r => match asgT c t d env h with
      | some (env1, h1) => asgTs c ts r env1 h1
      | none => none
    | [] => none
end

/-! ### statements -/
inductive Out where | nx | brk | ct | ret (d : D)
abbrev Res := Option (Out × Env × Store)
def whF (cond : Env → Store → Option (Bool × Store)) (body : Env → Store → Res) : Nat → Env → Store → Res
  | 0, _, _ => none
  | n + 1, env, h => match cond env h with
    | some (true, h1) => match body env h1 with
      | some (.nx, e2, h2) => whF cond body n e2 h2
      | some (.ct, e2, h2) => whF cond body n e2 h2
      | some (.brk, e2, h2) => some (.nx, e2, h2)
      | some (.ret d, e2, h2) => some (.ret d, e2, h2)
      | none => none
    | some (false, h1) => some (.nx, env, h1)
    | none => none
open Classical in
noncomputable def whD (cond : Env → Store → Option (Bool × Store)) (body : Env → Store → Res) (env : Env) (h : Store) : Res :=
  if p : ∃ n r, whF cond body n env h = some r then some (Classical.choose (Classical.choose_spec p)) else none
theorem whF_mono {cond : Env → Store → Option (Bool × Store)} {body : Env → Store → Res} : ∀ {n : Nat} {env : Env} {h : Store} {r}, whF cond body n env h = some r → ∀ k, n ≤ k → whF cond body k env h = some r
  | 0, _, _, _, e, _, _ => by cases e
  | n + 1, env, h, r, e, 0, hk => absurd hk (by omega)
  | n + 1, env, h, r, e, k + 1, hk => by
    unfold whF at e ⊢
    split at e
    · split at e
      · exact whF_mono e k (by omega)
      · exact whF_mono e k (by omega)
      · exact e
      · exact e
      · cases e
    · exact e
    · cases e
theorem whD_of {cond : Env → Store → Option (Bool × Store)} {body : Env → Store → Res} {n : Nat} {env : Env} {h : Store} {r} (e : whF cond body n env h = some r) : whD cond body env h = some r := by
  have p : ∃ n r, whF cond body n env h = some r := ⟨n, r, e⟩
  unfold whD
  rw [dif_pos p]
  obtain ⟨r', e'⟩ : ∃ r', r' = Classical.choose (Classical.choose_spec p) := ⟨_, rfl⟩
  have q := Classical.choose_spec (Classical.choose_spec p)
  rw [← e'] at q ⊢
  have q1 := whF_mono q _ (Nat.le_max_left _ n)
  have q2 := whF_mono e _ (Nat.le_max_right (Classical.choose p) n)
  rw [q1] at q2
  exact q2
theorem of_whD {cond : Env → Store → Option (Bool × Store)} {body : Env → Store → Res} {env : Env} {h : Store} {r} (e : whD cond body env h = some r) : ∃ n, whF cond body n env h = some r := by
  unfold whD at e
  split at e
  · rename_i p
    have q := Classical.choose_spec (Classical.choose_spec p)
    cases e
    exact ⟨_, q⟩
  · cases e
/-- one turn -/
theorem whD_eq (cond : Env → Store → Option (Bool × Store)) (body : Env → Store → Res) (env : Env) (h : Store) : whD cond body env h = match cond env h with
    | some (true, h1) => match body env h1 with
      | some (.nx, e2, h2) => whD cond body e2 h2
      | some (.ct, e2, h2) => whD cond body e2 h2
      | some (.brk, e2, h2) => some (.nx, e2, h2)
      | some (.ret d, e2, h2) => some (.ret d, e2, h2)
      | none => none
    | some (false, h1) => some (.nx, env, h1)
    | none => none := by
  apply Option.ext
  intro r
  constructor
  · intro e
    obtain ⟨n, e⟩ := of_whD e
    cases n with
    | zero => cases e
    | succ n =>
      unfold whF at e
      split at e
      · split at e
        · exact whD_of e
        · exact whD_of e
        · exact e
        · exact e
        · cases e
      · exact e
      · cases e
  · intro e
    split at e
    · rename_i h1 q
      split at e
      · obtain ⟨n, e⟩ := of_whD e
        exact whD_of (n := n + 1) (by unfold whF; simp [*])
      · obtain ⟨n, e⟩ := of_whD e
        exact whD_of (n := n + 1) (by unfold whF; simp [*])
      · rename_i q2
        exact whD_of (n := 1) (by unfold whF; rw [q]; simp only [q2]; exact e)
      · rename_i q2
        exact whD_of (n := 1) (by unfold whF; rw [q]; simp only [q2]; exact e)
      · cases e
    · exact whD_of (n := 1) (by unfold whF; simp [*])
    · cases e
open Classical in
noncomputable def frL (r : Option (Nat × Ob)) (g : D → Env → Store → Option (Env × Store)) (body : Env → Store → Res) : List D → Env → Store → Res
  | [], env, h => if live r h then some (.nx, env, h) else none
  | d :: ds, env, h => if live r h then
      match g d env h with
      | some (e1, h1) => match body e1 h1 with
        | some (.nx, e2, h2) => frL r g body ds e2 h2
        | some (.ct, e2, h2) => frL r g body ds e2 h2
        | some (.brk, e2, h2) => some (.nx, e2, h2)
        | some (.ret d, e2, h2) => some (.ret d, e2, h2)
        | none => none
      | none => none
    else none
def augI : Bop → Int → Int → Option Int
  | .add, i, j => some (i + j)
  | .sub, i, j => some (i - j)
  | .mul, i, j => if small i ∨ small j then some (i * j) else none
  | .fdiv, i, j => if 0 < j ∧ j < 1073741824 then some (i / j) else none
  | _, _, _ => none
def setsD (env : Env) : List Nat → List D → Option Env
  | [], [] => some env
  | i :: is, d :: ds => setsD (env.set i (some d)) is ds
  | _, _ => none
def lckO (h : Store) : D → Option Store
  | .dct _ _ => some h
  | .ref n => match h[n]? with
    | some (.dct kvs) => some (h.set n (.lkd kvs))
    | _ => none
  | _ => none
def unlO (h : Store) : D → Option Store
  | .dct _ _ => some h
  | .ref n => match h[n]? with
    | some (.lkd kvs) => some (h.set n (.dct kvs))
    | _ => none
  | _ => none
mutual
noncomputable def exS (c : Cfg) : S → Env → Store → Res
  | .set t e, env, h => match evE c e env h with
    | some (d, h1) => match asgT c t d env h1 with
      | some (env2, h2) => some (.nx, env2, h2)
      | none => none
    | none => none
  | .par is es, env, h => match evEs c es env h with
    | some (ds, h1) => if is.Nodup ∧ (∀ i ∈ is, i ∉ c.lk) then (setsD env is ds).map fun env2 => (.nx, env2, h1) else none
    | none => none
  | .aug i op e, env, h => match env[i]? with
    | some (some (.int x)) => match evE c e env h with
      | some (.int y, h1) => if i ∈ c.lk then none else (augI op x y).map fun k => (.nx, env.set i (some (.int k)), h1)
      | _ => none
    | _ => none
  | .expr e, env, h => (evE c e env h).map fun p => (.nx, env, p.2)
  | .ret e, env, h => (evE c e env h).map fun p => (.ret p.1, env, p.2)
  | .retN, env, h => some (.ret .non, env, h)
  | .pass, env, h => some (.nx, env, h)
  | .cont, env, h => some (.ct, env, h)
  | .ife t a b, env, h => match evE c t env h with
    | some (.bl true, h1) => exSs c a env h1
    | some (.bl false, h1) => exSs c b env h1
    | _ => none
  | .fr t it body, env, h => match evIt c it env h with
    | some ((ds, r), h1) => frL r (fun d env h => asgT c t d env h) (fun env h => exSs c body env h) ds env h1
    | none => none
  | .wh t body, env, h => whD (fun env h => match evE c t env h with
    | some (.bl k, h1) => some (k, h1)
    | _ => none) (fun env h => exSs c body env h) env h
  | .lock i s, env, h => match env[i]? with
    | some (some d) => if c.lk ≠ [] then none else match lckO h d with
      | some h1 => match exS { c with lk := [i] } s env h1 with
        | some (o, env2, h2) => (unlO h2 d).map fun h3 => (o, env2, h3)
        | none => none
      | none => none
    | _ => none
  | .stuck, _, _ => none
  | .fset cl o f e, env, h => match evE c e env h with
    | some (d, h1) => match evE c o env h1 with
      | some (.ref n, h2) => match h2[n]? with
        | some (.ins cl' fs) => if cl' = cl ∧ fs.length < 1000 then (wr c.b n (.ins cl (putFD f d fs)) [d] h2).map fun h3 => (.nx, env, h3) else none
        | _ => none
      | _ => none
    | none => none
noncomputable def exSs (c : Cfg) : List S → Env → Store → Res
  | [], env, h => some (.nx, env, h)
  | s :: r, env, h => match exS c s env h with
    | some (.nx, e1, h1) => exSs c r e1 h1
    | some (o, e1, h1) => some (o, e1, h1)
    | none => none
end
structure FDef where
  np : Nat
  ns : Nat
  keep : Bool
  body : List S
noncomputable def callI (P : Nat → Option FDef) : Nat → Nat → List D → Nat → Store → Option (D × Store)
  | 0, _, _, _, _ => none
  | n + 1, f, args, b, h => match P f with
    | some F => if args.length = F.np then
        match exSs ⟨if F.keep then b else h.length, [], callI P n⟩ F.body (args.map some ++ List.replicate (F.ns - F.np) none) h with
        | some (.ret d, _, h1) => if F.keep then some (d, h1) else (froz h1 h.length 4 d).map fun d' => (d', h1.take h.length)
        | some (.nx, _, h1) => if F.keep then some (.non, h1) else some (.non, h1.take h.length)
        | _ => none
      else none
    | none => none
end Sw

set_option maxRecDepth 100000
set_option maxHeartbeats 1000000
/-! SwW: what is left of a run, computed along the text (weakest preconditions over the evaluator). -/
namespace Sw
open PySem L2
def opt {α : Type} (o : Option α) (Q : α → Prop) : Prop := ∃ a, o = some a ∧ Q a
section
variable {α β : Type} {Q : α → Prop}
@[simp] theorem opt_some (a : α) (Q : α → Prop) : opt (some a) Q = Q a := propext ⟨fun ⟨_, e, q⟩ => by cases e; exact q, fun q => ⟨a, rfl, q⟩⟩
@[simp] theorem opt_none (Q : α → Prop) : opt none Q = False := propext ⟨fun ⟨_, e, _⟩ => (nomatch e), fun h => False.elim h⟩
@[simp] theorem opt_map (o : Option β) (f : β → α) (Q : α → Prop) : opt (o.map f) Q = opt o fun b => Q (f b) := by
  cases o with
  | none => rw [Option.map_none, opt_none, opt_none]
  | some b => rw [Option.map_some, opt_some, opt_some]
theorem opt_bind (o : Option β) (f : β → Option α) (Q : α → Prop) : opt (o.bind f) Q = opt o fun b => opt (f b) Q := by
  cases o with
  | none => rw [Option.bind_none, opt_none, opt_none]
  | some b => rw [Option.bind_some, opt_some]
@[simp] theorem opt_guard (p : Prop) [Decidable p] (o : Option α) (Q : α → Prop) : opt (if p then o else none) Q = (p ∧ opt o Q) := by
  by_cases h : p
  · simp [h]
  · simp [h, opt_none]
theorem opt_ite (p : Prop) [Decidable p] (a b : Option α) (Q : α → Prop) : opt (if p then a else b) Q = if p then opt a Q else opt b Q := by
  by_cases h : p <;> simp [h]
theorem opt.imp {o : Option α} {Q' : α → Prop} (h : opt o Q) (k : ∀ a, Q a → Q' a) : opt o Q' := let ⟨a, e, q⟩ := h; ⟨a, e, k a q⟩
theorem opt_eq {o : Option α} {a : α} (h : opt o fun b => b = a) : o = some a := let ⟨b, e, q⟩ := h; q ▸ e
theorem opt_of_eq {o : Option α} {a : α} (h : o = some a) {Q : α → Prop} (q : Q a) : opt o Q := ⟨a, h, q⟩
end
def getV (env : Env) (i : Nat) : Option D := match env[i]? with
  | some (some d) => some d
  | _ => none
def onB (x : D) (k : Bool → Prop) : Prop := match x with
  | .bl b => k b
  | _ => False
def onI (x : D) (k : Int → Prop) : Prop := match x with
  | .int b => k b
  | _ => False
@[simp] theorem onB_bl (b : Bool) (k : Bool → Prop) : onB (.bl b) k = k b := rfl
@[simp] theorem onI_int (b : Int) (k : Int → Prop) : onI (.int b) k = k b := rfl
def wE (c : Cfg) (e : E) (env : Env) (h : Store) (Q : D → Store → Prop) : Prop := opt (evE c e env h) fun r => Q r.1 r.2
def wEs (c : Cfg) (e : Es) (env : Env) (h : Store) (Q : List D → Store → Prop) : Prop := opt (evEs c e env h) fun r => Q r.1 r.2
def wO (c : Cfg) (e : Eo) (env : Env) (h : Store) (Q : Option Int → Store → Prop) : Prop := opt (evO c e env h) fun r => Q r.1 r.2
def wO1 (c : Cfg) (e : Eo) (env : Env) (h : Store) (Q : Bool → Store → Prop) : Prop := opt (evO1 c e env h) fun r => Q r.1 r.2
def wIt (c : Cfg) (e : Wi) (env : Env) (h : Store) (Q : List D → Option (Nat × Ob) → Store → Prop) : Prop := opt (evIt c e env h) fun r => Q r.1.1 r.1.2 r.2
def wT (c : Cfg) (t : Tg) (d : D) (env : Env) (h : Store) (Q : Env → Store → Prop) : Prop := opt (asgT c t d env h) fun r => Q r.1 r.2
def wTs (c : Cfg) (t : Tgs) (d : List D) (env : Env) (h : Store) (Q : Env → Store → Prop) : Prop := opt (asgTs c t d env h) fun r => Q r.1 r.2
def wS (c : Cfg) (s : S) (env : Env) (h : Store) (Q : Out → Env → Store → Prop) : Prop := opt (exS c s env h) fun r => Q r.1 r.2.1 r.2.2
def wSs (c : Cfg) (s : List S) (env : Env) (h : Store) (Q : Out → Env → Store → Prop) : Prop := opt (exSs c s env h) fun r => Q r.1 r.2.1 r.2.2
section
variable {c : Cfg} {env : Env} {h : Store} {Q : D → Store → Prop}
@[simp] theorem wE_var (i : Nat) : wE c (.var i) env h Q = opt (getV env i) fun d => Q d h := by
  unfold wE getV
  rw [evE]
  cases e : env[i]? with
  | none => simp [opt_none]
  | some o => cases o <;> simp [opt_none, opt_some]
@[simp] theorem wE_non : wE c .non env h Q = Q .non h := by unfold wE; rw [evE, opt_some]
@[simp] theorem wE_bl (b : Bool) : wE c (.bl b) env h Q = Q (.bl b) h := by unfold wE; rw [evE, opt_some]
@[simp] theorem wE_int (b : Int) : wE c (.int b) env h Q = Q (.int b) h := by unfold wE; rw [evE, opt_some]
@[simp] theorem wE_str (b : Str) : wE c (.str b) env h Q = Q (.str b) h := by unfold wE; rw [evE, opt_some]
@[simp] theorem wE_glo (x : Str) (d : D) : wE c (.glo x d) env h Q = Q d h := by unfold wE; rw [evE, opt_some]
@[simp] theorem wE_neg (a : E) : wE c (.neg a) env h Q = wE c a env h fun x h1 => onI x fun i => Q (.int (-i)) h1 := by
  unfold wE
  rw [evE]
  cases e : evE c a env h with
  | none => simp [opt_none]
  | some r => obtain ⟨x, h1⟩ := r; cases x <;> simp [opt_none, opt_some, onI]
@[simp] theorem wE_nt (a : E) : wE c (.nt a) env h Q = wE c a env h fun x h1 => onB x fun i => Q (.bl (!i)) h1 := by
  unfold wE
  rw [evE]
  cases e : evE c a env h with
  | none => simp [opt_none]
  | some r => obtain ⟨x, h1⟩ := r; cases x <;> simp [opt_none, opt_some, onB]
@[simp] theorem wE_bin (op : Bop) (m : Bool) (a b : E) : wE c (.bin op m a b) env h Q = wE c a env h fun x h1 => wE c b env h1 fun y h2 => opt (binop op m x y h2) fun r => Q r.1 r.2 := by
  unfold wE
  rw [evE]
  cases e : evE c a env h with
  | none => simp [opt_none]
  | some r =>
    obtain ⟨x, h1⟩ := r
    simp only [opt_some]
    cases e2 : evE c b env h1 with
    | none => simp [opt_none]
    | some r => simp [opt_some]
@[simp] theorem wE_and (a b : E) : wE c (.and a b) env h Q = wE c a env h fun x h1 => onB x fun k => if k = true then wE c b env h1 Q else Q (.bl false) h1 := by
  unfold wE
  rw [evE]
  cases e : evE c a env h with
  | none => simp [opt_none]
  | some r =>
    obtain ⟨x, h1⟩ := r
    cases x with
    | bl k => cases k <;> simp [opt_some, onB]
    | _ => simp [opt_none, opt_some, onB]
@[simp] theorem wE_or (a b : E) : wE c (.or a b) env h Q = wE c a env h fun x h1 => onB x fun k => if k = true then Q (.bl true) h1 else wE c b env h1 Q := by
  unfold wE
  rw [evE]
  cases e : evE c a env h with
  | none => simp [opt_none]
  | some r =>
    obtain ⟨x, h1⟩ := r
    cases x with
    | bl k => cases k <;> simp [opt_some, onB]
    | _ => simp [opt_none, opt_some, onB]
@[simp] theorem wE_ife (t a b : E) : wE c (.ife t a b) env h Q = wE c t env h fun x h1 => onB x fun k => if k = true then wE c a env h1 Q else wE c b env h1 Q := by
  unfold wE
  rw [evE]
  cases e : evE c t env h with
  | none => simp [opt_none]
  | some r =>
    obtain ⟨x, h1⟩ := r
    cases x with
    | bl k => cases k <;> simp [opt_some, onB]
    | _ => simp [opt_none, opt_some, onB]
@[simp] theorem wE_cmp (op : Cop) (a b : E) : wE c (.cmp op a b) env h Q = wE c a env h fun x h1 => wE c b env h1 fun y h2 => opt (cmpD op x y h2) fun k => Q (.bl k) h2 := by
  unfold wE
  rw [evE]
  cases e : evE c a env h with
  | none => simp [opt_none]
  | some r =>
    obtain ⟨x, h1⟩ := r
    simp only [opt_some]
    cases e2 : evE c b env h1 with
    | none => simp [opt_none]
    | some r => simp [opt_some, opt_map]
@[simp] theorem wE_chn (op op' : Cop) (a b f : E) : wE c (.chn op op' a b f) env h Q = wE c a env h fun x h1 => wE c b env h1 fun y h2 => opt (cmpD op x y h2) fun k => if k = true then wE c f env h2 fun z h3 => opt (cmpD op' y z h3) fun k => Q (.bl k) h3 else Q (.bl false) h2 := by
  unfold wE
  rw [evE]
  cases e : evE c a env h with
  | none => simp [opt_none]
  | some r =>
    obtain ⟨x, h1⟩ := r
    simp only [opt_some]
    cases e2 : evE c b env h1 with
    | none => simp [opt_none]
    | some r =>
      obtain ⟨y, h2⟩ := r
      simp only [opt_some]
      cases e3 : cmpD op x y h2 with
      | none => simp [opt_none]
      | some k =>
        cases k with
        | false => simp [opt_some]
        | true =>
          simp only [opt_some, if_true]
          cases e4 : evE c f env h2 with
          | none => simp [opt_none]
          | some r => simp [opt_some, opt_map]
@[simp] theorem wE_tup (es : Es) : wE c (.tup es) env h Q = wEs c es env h fun ds h1 => ds.length ≤ sizeLine ∧ Q (.tup ds) h1 := by
  unfold wE wEs
  rw [evE]
  cases e : evEs c es env h with
  | none => simp [opt_none]
  | some r => simp only [opt_some, opt_guard]
@[simp] theorem wE_lst (m : Bool) (es : Es) : wE c (.lst m es) env h Q = wEs c es env h fun ds h1 => ds.length ≤ sizeLine ∧ Q (mkL m ds h1).1 (mkL m ds h1).2 := by
  unfold wE wEs
  rw [evE]
  cases e : evEs c es env h with
  | none => simp [opt_none]
  | some r => simp only [opt_some, opt_guard]
@[simp] theorem wE_dnew (ks : List L2.Key) (es : Es) : wE c (.dnew ks es) env h Q = wEs c es env h fun ds h1 => (ds.length = ks.length ∧ ks.Nodup) ∧ Q (.ref h1.length) (h1 ++ [.dct (ks.zip ds)]) := by
  unfold wE wEs
  rw [evE]
  cases e : evEs c es env h with
  | none => simp [opt_none]
  | some r => simp only [opt_some, opt_guard]
/-- an item -/
def ixD (h : Store) (x : D) (i : Int) : Option D := match x with
  | .str z => if z.length ≤ sizeLine then (atI z.cps.toList i).map fun k => .str ⟨#[k]⟩ else none
  | x => match getS h x with
    | some ds => atI ds i
    | none => none
@[simp] theorem wE_ix (a b : E) : wE c (.ix a b) env h Q = wE c a env h fun x h1 => wE c b env h1 fun y h2 => onI y fun i => opt (ixD h2 x i) fun d => Q d h2 := by
  unfold wE
  rw [evE]
  cases e : evE c a env h with
  | none => simp [opt_none]
  | some r =>
    obtain ⟨x, h1⟩ := r
    simp only [opt_some]
    cases e2 : evE c b env h1 with
    | none => simp [opt_none]
    | some r =>
      obtain ⟨y, h2⟩ := r
      cases y with
      | int i =>
        simp only [opt_some, onI]
        unfold ixD
        cases x with
        | str z => simp only [opt_guard, opt_map]
        | _ =>
          simp only
          split
          · rename_i ds e3
            simp only [e3, opt_map]
          · rename_i e3
            simp only [e3, opt_none]
      | _ => simp [opt_none, opt_some, onI]
def dixD (h : Store) (x y : D) : Option D := match getK h x, dKey y with
  | some kvs, some k => look kvs k
  | _, _ => none
@[simp] theorem wE_dix (a b : E) : wE c (.dix a b) env h Q = wE c a env h fun x h1 => wE c b env h1 fun y h2 => opt (dixD h2 x y) fun d => Q d h2 := by
  unfold wE
  rw [evE]
  cases e : evE c a env h with
  | none => simp [opt_none]
  | some r =>
    obtain ⟨x, h1⟩ := r
    simp only [opt_some]
    cases e2 : evE c b env h1 with
    | none => simp [opt_none]
    | some r =>
      obtain ⟨y, h2⟩ := r
      simp only [opt_some]
      unfold dixD
      split
      · simp only [*, opt_map]
      · rename_i hh
        first
          | (simp only [opt_none]; done)
          | (split
             · rename_i e3 e4
               exact absurd e4 (hh _ _ e3)
             · simp only [opt_none])
/-- a slice -/
def slD (m : Bool) (x : D) (l u : Option Int) (h : Store) : Option (D × Store) := match x with
  | .tup ds => some (.tup (cutD ds l u), h)
  | x => (getR h x).map fun ds => mkL m (cutD ds l u) h
@[simp] theorem wE_sl (m : Bool) (a : E) (lo hi : Eo) : wE c (.sl m a lo hi) env h Q = wE c a env h fun x h1 => wO c lo env h1 fun l h2 => wO c hi env h2 fun u h3 => opt (slD m x l u h3) fun r => Q r.1 r.2 := by
  unfold wE wO
  rw [evE]
  cases e : evE c a env h with
  | none => simp [opt_none]
  | some r =>
    obtain ⟨x, h1⟩ := r
    simp only [opt_some]
    cases e2 : evO c lo env h1 with
    | none => simp [opt_none]
    | some r =>
      obtain ⟨l, h2⟩ := r
      simp only [opt_some]
      cases e3 : evO c hi env h2 with
      | none => simp [opt_none]
      | some r =>
        obtain ⟨u, h3⟩ := r
        simp only [opt_some]
        unfold slD
        cases x <;> rfl
/-- an attribute -/
def fldD (cl : Nat) (f : Str) (x : D) (h : Store) : Option D := match x with
  | .ref n => match h[n]? with
    | some (.ins cl' fs) => if cl' = cl then fs.lookup f else none
    | _ => none
  | _ => none
/-- what a method is called on -/
def mthD (cl : Nat) (m : Str) (x : D) (h : Store) : Option Nat := match x with
  | .ref n => match h[n]? with
    | some (.ins cl' fs) => if cl' = cl ∧ fs.lookup m = none then some n else none
    | _ => none
  | _ => none
def fsetD (b cl : Nat) (f : Str) (x d : D) (h : Store) : Option Store := match x with
  | .ref n => match h[n]? with
    | some (.ins cl' fs) => if cl' = cl ∧ fs.length < 1000 then wr b n (.ins cl (putFD f d fs)) [d] h else none
    | _ => none
  | _ => none
def sl3D (m : Bool) (x : D) (l u : Option Int) (k : Int) (h : Store) : Option (D × Store) := if k ≠ 0 then (getR h x).map fun ds => mkL m (pickD ds l u (some k)) h else none
@[simp] theorem wE_sl3 (m : Bool) (a : E) (lo hi : Eo) (st : E) : wE c (.sl3 m a lo hi st) env h Q = wE c a env h fun x h1 => wO c lo env h1 fun l h2 => wO c hi env h2 fun u h3 => wE c st env h3 fun y h4 => onI y fun k => opt (sl3D m x l u k h4) fun r => Q r.1 r.2 := by
  unfold wE wO
  rw [evE]
  cases e : evE c a env h with
  | none => simp [opt_none]
  | some r =>
    obtain ⟨x, h1⟩ := r
    simp only [opt_some]
    cases e2 : evO c lo env h1 with
    | none => simp [opt_none]
    | some r2 =>
      obtain ⟨l, h2⟩ := r2
      simp only [opt_some]
      cases e3 : evO c hi env h2 with
      | none => simp [opt_none]
      | some r3 =>
        obtain ⟨u, h3⟩ := r3
        simp only [opt_some]
        cases e4 : evE c st env h3 with
        | none => simp [opt_none]
        | some r4 =>
          obtain ⟨y, h4⟩ := r4
          simp only [opt_some]
          cases y <;> simp [opt_none, onI, sl3D]
@[simp] theorem wE_fld (cl : Nat) (a : E) (f : Str) : wE c (.fld cl a f) env h Q = wE c a env h fun x h1 => opt (fldD cl f x h1) fun d => Q d h1 := by
  unfold wE
  rw [evE]
  cases e : evE c a env h with
  | none => simp [opt_none]
  | some r =>
    obtain ⟨x, h1⟩ := r
    simp only [opt_some]
    cases x with
    | ref n =>
      simp only [fldD]
      cases h1[n]? with
      | none => simp [opt_none]
      | some ob =>
        cases ob with
        | ins cl' fs =>
          by_cases hc : cl' = cl
          · simp only [hc, if_true]
            rw [opt_map]
          · simp [hc, opt_none]
        | _ => simp [opt_none]
    | _ => simp [fldD, opt_none]
@[simp] theorem wE_make (x : Str) (cl f : Nat) (es : Es) : wE c (.make x cl f es) env h Q = wEs c es env h fun ds h1 => opt (c.call f (.ref h1.length :: ds) c.b (h1 ++ [.ins cl []])) fun r => r.1 = .non ∧ Q (.ref h1.length) r.2 := by
  unfold wE wEs
  rw [evE]
  cases e : evEs c es env h with
  | none => simp [opt_none]
  | some r =>
    obtain ⟨ds, h1⟩ := r
    simp only [opt_some]
    cases e2 : c.call f (.ref h1.length :: ds) c.b (h1 ++ [.ins cl []]) with
    | none => simp [opt_none]
    | some r2 =>
      obtain ⟨d, h2⟩ := r2
      cases d <;> simp [opt_none, opt_some]
@[simp] theorem wE_meth (cl : Nat) (m : Str) (f : Nat) (o : E) (es : Es) : wE c (.meth cl m f o es) env h Q = wE c o env h fun x h1 => opt (mthD cl m x h1) fun n => wEs c es env h1 fun ds h2 => opt (c.call f (.ref n :: ds) c.b h2) fun r => Q r.1 r.2 := by
  unfold wE wEs
  rw [evE]
  cases e : evE c o env h with
  | none => simp [opt_none]
  | some r =>
    obtain ⟨x, h1⟩ := r
    simp only [opt_some]
    cases x with
    | ref n =>
      simp only [mthD]
      cases h1[n]? with
      | none => simp [opt_none]
      | some ob =>
        cases ob with
        | ins cl' fs =>
          by_cases hc : cl' = cl ∧ fs.lookup m = none
          · simp only [hc, and_self, if_true, opt_some]
            cases e2 : evEs c es env h1 with
            | none => simp [opt_none]
            | some r2 => simp only [opt_some]
          · simp only [if_neg hc, opt_none]
        | _ => simp [opt_none]
    | _ => simp [mthD, opt_none]
@[simp] theorem wE_call (x : Str) (f : Nat) (es : Es) : wE c (.call x f es) env h Q = wEs c es env h fun ds h1 => opt (c.call f ds c.b h1) fun r => Q r.1 r.2 := by
  unfold wE wEs
  rw [evE]
  cases e : evEs c es env h with
  | none => simp [opt_none]
  | some r => simp only [opt_some]
@[simp] theorem wE_bif (b : Bi) (m : Bool) (es : Es) : wE c (.bif b m es) env h Q = wEs c es env h fun ds h1 => opt (biF b m ds h1) fun r => Q r.1 r.2 := by
  unfold wE wEs
  rw [evE]
  cases e : evEs c es env h with
  | none => simp [opt_none]
  | some r => simp only [opt_some]
@[simp] theorem wE_mth (b : Mt) (o : E) (es : Es) : wE c (.mth b o es) env h Q = wE c o env h fun x h1 => mtTy b x h1 = true ∧ wEs c es env h1 fun ds h2 => opt (mtF c.b b x ds h2) fun r => Q r.1 r.2 := by
  unfold wE wEs
  rw [evE]
  cases e : evE c o env h with
  | none => simp [opt_none]
  | some r =>
    obtain ⟨x, h1⟩ := r
    simp only [opt_some, opt_guard]
    cases e2 : evEs c es env h1 with
    | none => simp [opt_none]
    | some r => simp only [opt_some]
/-- one turn of a comprehension -/
noncomputable def lcB (c : Cfg) (g : Tg) (cond : Eo) (elt : E) (env : Env) (d : D) (h : Store) : Option (Option D × Store) := match asgT c g d env h with
  | some (env2, h2) => match evO1 c cond env2 h2 with
    | some (true, h3) => match evE c elt env2 h3 with
      | some (y, h4) => some (some y, h4)
      | none => none
    | some (false, h3) => some (none, h3)
    | none => none
  | none => none
@[simp] theorem wE_lc (m : Bool) (elt : E) (g : Tg) (it : Wi) (cond : Eo) (own : List Nat) : wE c (.lc m elt g it cond own) env h Q = wIt c it env h fun ds r h1 => ds.length ≤ sizeLine ∧ opt (lcL r (lcB c g cond elt (wipeD env own)) ds h1) fun p => Q (mkL m p.1 p.2).1 (mkL m p.1 p.2).2 := by
  unfold wE wIt
  rw [evE]
  cases e : evIt c it env h with
  | none => simp [opt_none]
  | some r =>
    obtain ⟨⟨ds, r⟩, h1⟩ := r
    simp only [opt_some]
    rw [opt_guard]
    show (_ ∧ opt (match lcL r (lcB c g cond elt (wipeD env own)) ds h1 with
      | some (out, h2) => some (mkL m out h2)
      | none => none) _) = _
    cases e2 : lcL r (lcB c g cond elt (wipeD env own)) ds h1 with
    | none => simp [opt_none]
    | some p => simp only [opt_some]
@[simp] theorem w_lcB {g : Tg} {cond : Eo} {elt : E} {d : D} {Q : Option D × Store → Prop} : opt (lcB c g cond elt env d h) Q = wT c g d env h fun env2 h2 => wO1 c cond env2 h2 fun k h3 => if k = true then wE c elt env2 h3 fun y h4 => Q (some y, h4) else Q (none, h3) := by
  unfold wT wO1 wE lcB
  cases e : asgT c g d env h with
  | none => simp [opt_none]
  | some r =>
    obtain ⟨env2, h2⟩ := r
    simp only [opt_some]
    cases e2 : evO1 c cond env2 h2 with
    | none => simp [opt_none]
    | some r =>
      obtain ⟨k, h3⟩ := r
      cases k with
      | false => simp [opt_some]
      | true =>
        simp only [opt_some, if_true]
        cases e3 : evE c elt env2 h3 with
        | none => simp [opt_none]
        | some r => simp only [opt_some]
@[simp] theorem wEs_nil {Q : List D → Store → Prop} : wEs c .nil env h Q = Q [] h := by unfold wEs; rw [evEs, opt_some]
@[simp] theorem wEs_cons {Q : List D → Store → Prop} (e : E) (es : Es) : wEs c (.cons e es) env h Q = wE c e env h fun d h1 => wEs c es env h1 fun ds h2 => Q (d :: ds) h2 := by
  unfold wEs wE
  rw [evEs]
  cases e1 : evE c e env h with
  | none => simp [opt_none]
  | some r =>
    obtain ⟨x, h1⟩ := r
    simp only [opt_some]
    cases e2 : evEs c es env h1 with
    | none => simp [opt_none]
    | some r => simp only [opt_some]
@[simp] theorem wO_none {Q : Option Int → Store → Prop} : wO c .none env h Q = Q none h := by unfold wO; rw [evO, opt_some]
@[simp] theorem wO_some {Q : Option Int → Store → Prop} (e : E) : wO c (.some e) env h Q = wE c e env h fun x h1 => onI x fun i => Q (some i) h1 := by
  unfold wO wE
  rw [evO]
  cases e1 : evE c e env h with
  | none => simp [opt_none]
  | some r => obtain ⟨x, h1⟩ := r; cases x <;> simp [opt_none, opt_some, onI]
@[simp] theorem wO1_none {Q : Bool → Store → Prop} : wO1 c .none env h Q = Q true h := by unfold wO1; rw [evO1, opt_some]
@[simp] theorem wO1_some {Q : Bool → Store → Prop} (e : E) : wO1 c (.some e) env h Q = wE c e env h fun x h1 => onB x fun i => Q i h1 := by
  unfold wO1 wE
  rw [evO1]
  cases e1 : evE c e env h with
  | none => simp [opt_none]
  | some r => obtain ⟨x, h1⟩ := r; cases x <;> simp [opt_none, opt_some, onB]
/-- what is walked, of a list -/
def wkD (h : Store) (x : D) : Option (List D × Option (Nat × Ob)) := match x with
  | .ref n => match h[n]? with
    | some (.lst ds) => some (ds, some (n, .lst ds))
    | _ => none
  | d => (getR h d).map fun ds => (ds, none)
def wkE (h : Store) (x : D) : Option (List D × Option (Nat × Ob)) := (wkD h x).map fun p => (enumD 0 p.1, p.2)
variable {R : List D → Option (Nat × Ob) → Store → Prop}
@[simp] theorem wIt_ev (e : E) : wIt c (.ev e) env h R = wE c e env h fun x h1 => opt (wkD h1 x) fun p => R p.1 p.2 h1 := by
  unfold wIt wE
  rw [evIt]
  cases e1 : evE c e env h with
  | none => simp [opt_none]
  | some r =>
    obtain ⟨x, h1⟩ := r
    unfold wkD
    cases x with
    | ref n =>
      simp only [opt_some]
      cases e2 : h1[n]? with
      | none => simp [opt_none]
      | some o => cases o <;> simp [opt_none, opt_some]
    | _ => simp only [opt_some, opt_map]
@[simp] theorem wIt_enl (e : E) : wIt c (.enl e) env h R = wE c e env h fun x h1 => opt (wkE h1 x) fun p => R p.1 p.2 h1 := by
  unfold wIt wE
  rw [evIt]
  cases e1 : evE c e env h with
  | none => simp [opt_none]
  | some r =>
    obtain ⟨x, h1⟩ := r
    unfold wkE wkD
    cases x with
    | ref n =>
      simp only [opt_some, opt_map]
      cases e2 : h1[n]? with
      | none => simp [opt_none]
      | some o => cases o <;> simp [opt_none, opt_some]
    | _ => simp only [opt_some, opt_map]
def wkX (h : Store) (x : D) : Option (List D × Option (Nat × Ob)) := match x with
  | .ref n => match h[n]? with
    | some (.lst ds) => some (ds, some (n, .lst ds))
    | _ => none
  | d => (getS h d).map fun ds => (ds, none)
@[simp] theorem wIt_evx (e : E) : wIt c (.evx e) env h R = wE c e env h fun x h1 => opt (wkX h1 x) fun p => R p.1 p.2 h1 := by
  unfold wIt wE
  rw [evIt]
  cases e1 : evE c e env h with
  | none => simp [opt_none]
  | some r =>
    obtain ⟨x, h1⟩ := r
    unfold wkX
    cases x with
    | ref n =>
      simp only [opt_some]
      cases e2 : h1[n]? with
      | none => simp [opt_none]
      | some o => cases o <;> simp [opt_none, opt_some]
    | _ => simp only [opt_some, opt_map]
@[simp] theorem wIt_enx (e : E) : wIt c (.enx e) env h R = wE c e env h fun x h1 => opt (wkX h1 x) fun p => R (enumD 0 p.1) p.2 h1 := by
  unfold wIt wE
  rw [evIt]
  cases e1 : evE c e env h with
  | none => simp [opt_none]
  | some r =>
    obtain ⟨x, h1⟩ := r
    unfold wkX
    cases x with
    | ref n =>
      simp only [opt_some]
      cases e2 : h1[n]? with
      | none => simp [opt_none]
      | some o => cases o <;> simp [opt_none, opt_some]
    | _ => simp only [opt_some, opt_map]
def tupD (x : D) : Option (List D) := match x with
  | .tup ds => some ds
  | _ => none
@[simp] theorem wIt_tv (e : E) : wIt c (.tv e) env h R = wE c e env h fun x h1 => opt (tupD x) fun ds => R ds none h1 := by
  unfold wIt wE
  rw [evIt]
  cases e1 : evE c e env h with
  | none => simp [opt_none]
  | some r => obtain ⟨x, h1⟩ := r; cases x <;> simp [opt_none, opt_some, tupD]
@[simp] theorem wIt_ent (e : E) : wIt c (.ent e) env h R = wE c e env h fun x h1 => opt (tupD x) fun ds => R (enumD 0 ds) none h1 := by
  unfold wIt wE
  rw [evIt]
  cases e1 : evE c e env h with
  | none => simp [opt_none]
  | some r => obtain ⟨x, h1⟩ := r; cases x <;> simp [opt_none, opt_some, tupD]
@[simp] theorem wIt_rng1 (e : E) : wIt c (.rng1 e) env h R = wE c e env h fun x h1 => onI x fun j => mid j ∧ R ((rangeL 0 j).map .int) none h1 := by
  unfold wIt wE
  rw [evIt]
  cases e1 : evE c e env h with
  | none => simp [opt_none]
  | some r => obtain ⟨x, h1⟩ := r; cases x <;> simp [opt_none, opt_some, onI, opt_guard]
@[simp] theorem wIt_rng2 (a b : E) : wIt c (.rng2 a b) env h R = wE c a env h fun x h1 => onI x fun i => wE c b env h1 fun y h2 => onI y fun j => (mid i ∧ mid j) ∧ R ((rangeL i j).map .int) none h2 := by
  unfold wIt wE
  rw [evIt]
  cases e1 : evE c a env h with
  | none => simp [opt_none]
  | some r =>
    obtain ⟨x, h1⟩ := r
    cases x with
    | int i =>
      simp only [opt_some, onI]
      cases e2 : evE c b env h1 with
      | none => simp [opt_none]
      | some r => obtain ⟨y, h2⟩ := r; cases y <;> simp [opt_none, opt_some, opt_guard]
    | _ => simp [opt_none, opt_some, onI]
@[simp] theorem wIt_zipT (a b : E) : wIt c (.zipT a b) env h R = wE c a env h fun x h1 => opt (tupD x) fun xs => wE c b env h1 fun y h2 => opt (tupD y) fun ys => R (zipD xs ys) none h2 := by
  unfold wIt wE
  rw [evIt]
  cases e1 : evE c a env h with
  | none => simp [opt_none]
  | some r =>
    obtain ⟨x, h1⟩ := r
    cases x with
    | tup xs =>
      simp only [opt_some, tupD]
      cases e2 : evE c b env h1 with
      | none => simp [opt_none]
      | some r => obtain ⟨y, h2⟩ := r; cases y <;> simp [opt_none, opt_some]
    | _ => simp [opt_none, opt_some, tupD]
def keysD (c : Cfg) (i : Nat) (h : Store) (x : D) : Option (List D × Option (Nat × Ob)) := match x with
  | .dct ks ds => if i ∈ c.lk ∧ ks.length = ds.length then some (ks.map kD, none) else none
  | .ref n => match h[n]? with
    | some (.lkd kvs) => some (kvs.map fun p => kD p.1, some (n, .lkd kvs))
    | _ => none
  | _ => none
@[simp] theorem wIt_keys (i : Nat) : wIt c (.keys i) env h R = opt (getV env i) fun x => opt (keysD c i h x) fun p => R p.1 p.2 h := by
  unfold wIt getV
  rw [evIt]
  cases e : env[i]? with
  | none => simp [opt_none]
  | some o =>
    cases o with
    | none => simp [opt_none]
    | some d =>
      unfold keysD
      cases d with
      | dct ks ds => simp only [opt_some, opt_guard]
      | ref n =>
        simp only [opt_some]
        cases e2 : h[n]? with
        | none => simp [opt_none]
        | some o => cases o <;> simp [opt_none, opt_some]
      | _ => simp [opt_none, opt_some]
variable {T : Env → Store → Prop} {d : D}
@[simp] theorem wT_name (i : Nat) : wT c (.name i) d env h T = (i ∉ c.lk ∧ T (env.set i (some d)) h) := by
  unfold wT
  rw [asgT]
  by_cases e : i ∈ c.lk
  · simp [e, opt_none]
  · simp [e, opt_some]
def subD (b : Nat) (x : D) (i : Int) (d : D) (h : Store) : Option Store := match x with
  | .ref n => match h[n]? with
    | some (.lst ds) => match ixN ds.length i with
      | some j => wr b n (.lst (ds.set j d)) [d] h
      | none => none
    | _ => none
  | _ => none
@[simp] theorem wT_sub (o i : E) : wT c (.sub o i) d env h T = wE c o env h fun x h1 => wE c i env h1 fun y h2 => onI y fun k => opt (subD c.b x k d h2) fun h3 => T env h3 := by
  unfold wT wE
  rw [asgT]
  cases e1 : evE c o env h with
  | none => simp [opt_none]
  | some r =>
    obtain ⟨x, h1⟩ := r
    simp only [opt_some]
    cases e2 : evE c i env h1 with
    | none => simp [opt_none]
    | some r =>
      obtain ⟨y, h2⟩ := r
      simp only [opt_some]
      cases y with
      | int k =>
        simp only [onI]
        unfold subD
        cases x with
        | ref n =>
          simp only
          cases e3 : h2[n]? with
          | none => simp [opt_none]
          | some ob =>
            cases ob with
            | lst ds =>
              simp only
              cases e4 : ixN ds.length k with
              | none => simp [opt_none]
              | some j => simp only [opt_map]
            | _ => simp [opt_none]
        | _ => simp [opt_none]
      | _ => cases x <;> simp [opt_none, onI]
def dsubD (b : Nat) (x y d : D) (h : Store) : Option Store := match x, dKey y with
  | .ref n, some k => match h[n]? with
    | some (.dct kvs) => if kvs.length < sizeLine then wr b n (.dct (put kvs k d)) [d] h else none
    | _ => none
  | _, _ => none
@[simp] theorem wT_dsub (o i : E) : wT c (.dsub o i) d env h T = wE c o env h fun x h1 => wE c i env h1 fun y h2 => opt (dsubD c.b x y d h2) fun h3 => T env h3 := by
  unfold wT wE
  rw [asgT]
  cases e1 : evE c o env h with
  | none => simp [opt_none]
  | some r =>
    obtain ⟨x, h1⟩ := r
    simp only [opt_some]
    cases e2 : evE c i env h1 with
    | none => simp [opt_none]
    | some r =>
      obtain ⟨y, h2⟩ := r
      simp only [opt_some]
      unfold dsubD
      cases x with
      | ref n =>
        cases e5 : dKey y with
        | none => simp [opt_none]
        | some k =>
          simp only
          cases e3 : h2[n]? with
          | none => simp [opt_none]
          | some ob =>
            cases ob with
            | dct kvs => simp only [opt_guard, opt_map]
            | _ => simp [opt_none]
      | _ => cases e5 : dKey y <;> simp [opt_none]
def slcD (b : Nat) (x : D) (i j : Int) (d : D) (h : Store) : Option Store := match x with
  | .ref n => match h[n]?, getL h d with
    | some (.lst ds), some es => if 0 ≤ i ∧ i ≤ j ∧ j ≤ ds.length ∧ ds.length + es.length ≤ sizeLine ∧ notRef n d = true then wr b n (.lst (ds.take i.toNat ++ es ++ ds.drop j.toNat)) es h else none
    | _, _ => none
  | _ => none
@[simp] theorem wT_slc (o lo hi : E) : wT c (.slc o lo hi) d env h T = wE c o env h fun x h1 => wE c lo env h1 fun y h2 => onI y fun i => wE c hi env h2 fun z h3 => onI z fun j => opt (slcD c.b x i j d h3) fun h4 => T env h4 := by
  unfold wT wE
  rw [asgT]
  cases e1 : evE c o env h with
  | none => simp [opt_none]
  | some r =>
    obtain ⟨x, h1⟩ := r
    simp only [opt_some]
    cases e2 : evE c lo env h1 with
    | none => simp [opt_none]
    | some r =>
      obtain ⟨y, h2⟩ := r
      simp only [opt_some]
      cases y with
      | int i =>
        simp only [onI]
        cases e3 : evE c hi env h2 with
        | none => simp [opt_none]
        | some r =>
          obtain ⟨z, h3⟩ := r
          simp only [opt_some]
          cases z with
          | int j =>
            simp only
            unfold slcD
            cases x with
            | ref n =>
              simp only
              cases e4 : h3[n]? with
              | none => simp [opt_none]
              | some ob =>
                cases ob with
                | lst ds =>
                  cases e5 : getL h3 d with
                  | none => simp [opt_none]
                  | some es => simp only [opt_guard, opt_map]
                | _ => simp [opt_none]
            | _ => simp [opt_none]
          | _ => simp [opt_none]
      | _ => simp [opt_none, onI]
@[simp] theorem wT_tup (ts : Tgs) : wT c (.tup ts) d env h T = opt (tupD d) fun ds => wTs c ts ds env h T := by
  unfold wT wTs
  cases d with
  | tup ds => rw [asgT]; rw [show tupD (.tup ds) = some ds from rfl, opt_some]
  | _ =>
    rw [asgT]
    · first | rfl | (simp [opt_none, tupD]; done)
    · intro ds e; cases e
@[simp] theorem wTs_nil (ds : List D) : wTs c .nil ds env h T = (ds = [] ∧ T env h) := by
  unfold wTs
  cases ds with
  | nil => rw [asgTs, opt_some]; simp
  | cons d ds =>
    rw [asgTs]
    · simp [opt_none]
    · intro e; cases e
@[simp] theorem wTs_cons (t : Tg) (ts : Tgs) (d : D) (ds : List D) : wTs c (.cons t ts) (d :: ds) env h T = wT c t d env h fun env1 h1 => wTs c ts ds env1 h1 T := by
  unfold wTs wT
  rw [asgTs]
  simp only
  cases e : asgT c t d env h with
  | none => simp [opt_none]
  | some r => simp only [opt_some]
@[simp] theorem wTs_cons0 (t : Tg) (ts : Tgs) : wTs c (.cons t ts) [] env h T = False := by
  unfold wTs
  rw [asgTs]
  simp [opt_none]
variable {Z : Out → Env → Store → Prop}
@[simp] theorem wS_set (t : Tg) (e : E) : wS c (.set t e) env h Z = wE c e env h fun d h1 => wT c t d env h1 fun env2 h2 => Z .nx env2 h2 := by
  unfold wS wE wT
  rw [exS]
  cases e1 : evE c e env h with
  | none => simp [opt_none]
  | some r =>
    obtain ⟨x, h1⟩ := r
    simp only [opt_some]
    cases e2 : asgT c t x env h1 with
    | none => simp [opt_none]
    | some r => simp only [opt_some]
@[simp] theorem wS_par (is : List Nat) (es : Es) : wS c (.par is es) env h Z = wEs c es env h fun ds h1 => (is.Nodup ∧ ∀ i ∈ is, i ∉ c.lk) ∧ opt (setsD env is ds) fun env2 => Z .nx env2 h1 := by
  unfold wS wEs
  rw [exS]
  cases e1 : evEs c es env h with
  | none => simp [opt_none]
  | some r => simp only [opt_some, opt_guard, opt_map]
@[simp] theorem wS_aug (i : Nat) (op : Bop) (e : E) : wS c (.aug i op e) env h Z = opt (getV env i) fun x => onI x fun a => wE c e env h fun y h1 => onI y fun b => i ∉ c.lk ∧ opt (augI op a b) fun k => Z .nx (env.set i (some (.int k))) h1 := by
  unfold wS wE getV
  rw [exS]
  cases e1 : env[i]? with
  | none => simp [opt_none]
  | some o =>
    cases o with
    | none => simp [opt_none]
    | some x =>
      cases x with
      | int a =>
        simp only [opt_some, onI]
        cases e2 : evE c e env h with
        | none => simp [opt_none]
        | some r =>
          obtain ⟨y, h1⟩ := r
          simp only [opt_some]
          cases y with
          | int b =>
            simp only
            by_cases hl : i ∈ c.lk
            · simp [hl, opt_none]
            · simp only [hl, if_false, opt_map, not_false_eq_true, true_and]
          | _ => simp [opt_none]
      | _ => simp [opt_none, opt_some, onI]
@[simp] theorem wS_expr (e : E) : wS c (.expr e) env h Z = wE c e env h fun _ h1 => Z .nx env h1 := by
  unfold wS wE
  rw [exS, opt_map]
@[simp] theorem wS_ret (e : E) : wS c (.ret e) env h Z = wE c e env h fun d h1 => Z (.ret d) env h1 := by
  unfold wS wE
  rw [exS, opt_map]
@[simp] theorem wS_retN : wS c .retN env h Z = Z (.ret .non) env h := by unfold wS; rw [exS, opt_some]
@[simp] theorem wS_pass : wS c .pass env h Z = Z .nx env h := by unfold wS; rw [exS, opt_some]
@[simp] theorem wS_cont : wS c .cont env h Z = Z .ct env h := by unfold wS; rw [exS, opt_some]
@[simp] theorem wS_fset (cl : Nat) (o : E) (f : Str) (e : E) : wS c (.fset cl o f e) env h Z = wE c e env h fun d h1 => wE c o env h1 fun x h2 => opt (fsetD c.b cl f x d h2) fun h3 => Z .nx env h3 := by
  unfold wS wE
  rw [exS]
  cases e1 : evE c e env h with
  | none => simp [opt_none]
  | some r =>
    obtain ⟨d, h1⟩ := r
    simp only [opt_some]
    cases e2 : evE c o env h1 with
    | none => simp [opt_none]
    | some r2 =>
      obtain ⟨x, h2⟩ := r2
      simp only [opt_some]
      cases x with
      | ref n =>
        simp only [fsetD]
        cases h2[n]? with
        | none => simp [opt_none]
        | some ob =>
          cases ob with
          | ins cl' fs =>
            by_cases hc : cl' = cl ∧ fs.length < 1000
            · simp only [hc, and_self, if_true]
              rw [opt_map]
            · simp only [if_neg hc, opt_none]
          | _ => simp [opt_none]
      | _ => simp [fsetD, opt_none]
@[simp] theorem wS_stuck : wS c .stuck env h Z = False := by unfold wS; rw [exS, opt_none]
@[simp] theorem wS_ife (t : E) (a b : List S) : wS c (.ife t a b) env h Z = wE c t env h fun x h1 => onB x fun k => if k = true then wSs c a env h1 Z else wSs c b env h1 Z := by
  unfold wS wE wSs
  rw [exS]
  cases e1 : evE c t env h with
  | none => simp [opt_none]
  | some r =>
    obtain ⟨x, h1⟩ := r
    cases x with
    | bl k => cases k <;> simp [opt_some, onB]
    | _ => simp [opt_none, opt_some, onB]
@[simp] theorem wS_fr (t : Tg) (it : Wi) (body : List S) : wS c (.fr t it body) env h Z = wIt c it env h fun ds r h1 => opt (frL r (fun d env h => asgT c t d env h) (fun env h => exSs c body env h) ds env h1) fun r => Z r.1 r.2.1 r.2.2 := by
  unfold wS wIt
  rw [exS]
  cases e1 : evIt c it env h with
  | none => simp [opt_none]
  | some r => simp only [opt_some]
noncomputable def whC (c : Cfg) (t : E) (env : Env) (h : Store) : Option (Bool × Store) := match evE c t env h with
  | some (.bl k, h1) => some (k, h1)
  | _ => none
@[simp] theorem w_whC (t : E) {Q : Bool × Store → Prop} : opt (whC c t env h) Q = wE c t env h fun x h1 => onB x fun k => Q (k, h1) := by
  unfold whC wE
  cases e1 : evE c t env h with
  | none => simp [opt_none]
  | some r => obtain ⟨x, h1⟩ := r; cases x <;> simp [opt_none, opt_some, onB]
@[simp] theorem wS_wh (t : E) (body : List S) : wS c (.wh t body) env h Z = opt (whD (whC c t) (fun env h => exSs c body env h) env h) fun r => Z r.1 r.2.1 r.2.2 := by
  unfold wS
  rw [exS]
  rfl
@[simp] theorem wS_lock (i : Nat) (s : S) : wS c (.lock i s) env h Z = opt (getV env i) fun d => c.lk = [] ∧ opt (lckO h d) fun h1 => wS { c with lk := [i] } s env h1 fun o env2 h2 => opt (unlO h2 d) fun h3 => Z o env2 h3 := by
  unfold wS getV
  rw [exS]
  cases e1 : env[i]? with
  | none => simp [opt_none]
  | some o =>
    cases o with
    | none => simp [opt_none]
    | some d =>
      simp only [opt_some]
      by_cases hl : c.lk = []
      · simp only [hl, ne_eq, not_true_eq_false, if_false, true_and]
        cases e2 : lckO h d with
        | none => simp [opt_none]
        | some h1 =>
          simp only [opt_some]
          cases e3 : exS { b := c.b, lk := [i], call := c.call } s env h1 with
          | none => simp [opt_none]
          | some r => simp only [opt_some, opt_map]
      · simp [hl, opt_none]
def seqK (o : Out) (k : Prop) (q : Prop) : Prop := match o with
  | .nx => k
  | _ => q
@[simp] theorem seqK_nx (k q : Prop) : seqK .nx k q = k := rfl
@[simp] theorem seqK_ct (k q : Prop) : seqK .ct k q = q := rfl
@[simp] theorem seqK_brk (k q : Prop) : seqK .brk k q = q := rfl
@[simp] theorem seqK_ret (d : D) (k q : Prop) : seqK (.ret d) k q = q := rfl
@[simp] theorem wSs_nil : wSs c [] env h Z = Z .nx env h := by unfold wSs; rw [exSs, opt_some]
@[simp] theorem wSs_cons (s : S) (r : List S) : wSs c (s :: r) env h Z = wS c s env h fun o e1 h1 => seqK o (wSs c r e1 h1 Z) (Z o e1 h1) := by
  unfold wSs wS
  rw [exSs]
  cases e1 : exS c s env h with
  | none => simp [opt_none]
  | some r =>
    obtain ⟨o, e1, h1⟩ := r
    cases o <;> simp [opt_some, seqK]
end
theorem wE.imp {c : Cfg} {e : E} {env : Env} {h : Store} {Q Q' : D → Store → Prop} (w : wE c e env h Q) (k : ∀ d h, Q d h → Q' d h) : wE c e env h Q' := opt.imp w fun _ q => k _ _ q
theorem wS.imp {c : Cfg} {e : S} {env : Env} {h : Store} {Q Q' : Out → Env → Store → Prop} (w : wS c e env h Q) (k : ∀ o d h, Q o d h → Q' o d h) : wS c e env h Q' := opt.imp w fun _ q => k _ _ _ q
theorem wSs.imp {c : Cfg} {e : List S} {env : Env} {h : Store} {Q Q' : Out → Env → Store → Prop} (w : wSs c e env h Q) (k : ∀ o d h, Q o d h → Q' o d h) : wSs c e env h Q' := opt.imp w fun _ q => k _ _ _ q

/-! ### loops -/
theorem live_none (h : Store) : live none h := True.intro
theorem fr_rule {α : Type} {r : Option (Nat × Ob)} {g : D → Env → Store → Option (Env × Store)} {body : Env → Store → Res} {Z : Out × Env × Store → Prop} (enc : α → D) (I : Nat → Env → Store → Prop) :
    ∀ {xs : List α} {env : Env} {h : Store} {i : Nat}, I i env h → (∀ j e h, I j e h → live r h) →
    (∀ j x e h, xs[j]? = some x → I (i + j) e h → opt (g (enc x) e h) fun p => opt (body p.1 p.2) fun q => ((q.1 = .nx ∨ q.1 = .ct) ∧ I (i + j + 1) q.2.1 q.2.2) ∨ (∃ d, q.1 = .ret d ∧ Z q)) →
    (∀ e h, I (i + xs.length) e h → Z (.nx, e, h)) → opt (frL r g body (xs.map enc) env h) Z
  | [], env, h, i, h0, hl, _, hq => by
    rw [List.map_nil]
    unfold frL
    rw [if_pos (hl i env h h0), opt_some]
    exact hq env h (by simpa using h0)
  | x :: xs, env, h, i, h0, hl, hs, hq => by
    rw [List.map_cons]
    unfold frL
    rw [if_pos (hl i env h h0)]
    obtain ⟨⟨e1, h1⟩, q1, ⟨o, e2, h2⟩, q2, q3⟩ := hs 0 x env h rfl (by simpa using h0)
    simp only at q2 q3
    simp only [q1, q2]
    rcases q3 with ⟨ho, hI⟩ | ⟨d, hd, hz⟩
    · have go : opt (frL r g body (xs.map enc) e2 h2) Z := by
        refine fr_rule enc I (i := i + 1) (by simpa using hI) hl (fun j y e h hj hI => ?_) fun e h hI => hq e h ?_
        · have := hs (j + 1) y e h (by simpa using hj) (by rw [show i + (j + 1) = i + 1 + j by omega]; exact hI)
          rw [show i + (j + 1) + 1 = i + 1 + j + 1 by omega] at this
          exact this
        · rw [List.length_cons, show i + (xs.length + 1) = i + 1 + xs.length by omega]
          exact hI
      rcases ho with rfl | rfl <;> exact go
    · subst hd
      simp only [opt_some]
      exact hz
/-- a comprehension that leaves the store as it is -/
theorem lc_rule {α : Type} {r : Option (Nat × Ob)} {f : D → Store → Option (Option D × Store)} {h : Store} {Q : List D × Store → Prop} (enc : α → D) (F : α → Option D) (hl : live r h) :
    ∀ {xs : List α}, (∀ x ∈ xs, opt (f (enc x) h) fun p => p = (F x, h)) → Q (xs.filterMap F, h) → opt (lcL r f (xs.map enc) h) Q
  | [], _, hq => by
    rw [List.map_nil]
    unfold lcL
    rw [if_pos hl, opt_some]
    exact hq
  | x :: xs, hs, hq => by
    rw [List.map_cons]
    unfold lcL
    rw [if_pos hl]
    have e1 := opt_eq (hs x (by simp))
    have ih := lc_rule enc F hl (xs := xs) (Q := fun p => p = (xs.filterMap F, h)) (fun y hy => hs y (by simp [hy])) rfl
    have e2 := opt_eq ih
    simp only [e1]
    cases hF : F x with
    | none =>
      simp only [e2, opt_some]
      rw [List.filterMap_cons_none hF] at hq
      exact hq
    | some y =>
      simp only [e2, opt_some, opt_map]
      rw [List.filterMap_cons_some hF] at hq
      exact hq
/-- a comprehension that changes the store -/
theorem lc_inv {α : Type} {r : Option (Nat × Ob)} {f : D → Store → Option (Option D × Store)} {Q : List D × Store → Prop} (enc : α → D) (I : Nat → List D → Store → Prop) :
    ∀ {xs : List α} {h : Store} {i : Nat} {acc : List D}, I i acc h → (∀ j a h, I j a h → live r h) →
    (∀ j x a h, xs[j]? = some x → I (i + j) a h → opt (f (enc x) h) fun p => I (i + j + 1) (a ++ p.1.toList) p.2) →
    (∀ a h, I (i + xs.length) (acc ++ a) h → Q (a, h)) → opt (lcL r f (xs.map enc) h) Q
  | [], h, i, acc, h0, hl, _, hq => by
    rw [List.map_nil]
    unfold lcL
    rw [if_pos (hl _ _ _ h0), opt_some]
    exact hq [] h (by simpa using h0)
  | x :: xs, h, i, acc, h0, hl, hs, hq => by
    rw [List.map_cons]
    unfold lcL
    rw [if_pos (hl _ _ _ h0)]
    obtain ⟨⟨y, h1⟩, e1, q1⟩ := hs 0 x acc h rfl (by simpa using h0)
    simp only [e1]
    have ih : ∀ (Q' : List D × Store → Prop), (∀ a h, I (i + 1 + xs.length) ((acc ++ y.toList) ++ a) h → Q' (a, h)) → opt (lcL r f (xs.map enc) h1) Q' := fun Q' hq' =>
      lc_inv enc I (by simpa using q1) hl (fun j z a h hj hI => by
        have := hs (j + 1) z a h (by simpa using hj) (by rw [show i + (j + 1) = i + 1 + j by omega]; exact hI)
        rw [show i + (j + 1) + 1 = i + 1 + j + 1 by omega] at this
        exact this) hq'
    have fin : ∀ a h, I (i + 1 + xs.length) ((acc ++ y.toList) ++ a) h → Q (y.toList ++ a, h) := fun a h hI => hq _ h (by rw [List.length_cons, show i + (xs.length + 1) = i + 1 + xs.length by omega, ← List.append_assoc]; exact hI)
    cases y with
    | none => exact ih Q fin
    | some z =>
      simp only [opt_map]
      exact ih _ fin
/-- while -/
theorem wh_rule {cond : Env → Store → Option (Bool × Store)} {body : Env → Store → Res} {Z : Out × Env × Store → Prop} (I : Nat → Env → Store → Prop)
    (hs : ∀ m e h, I m e h → opt (cond e h) fun p => if p.1 = true then opt (body e p.2) fun q => ((q.1 = .nx ∨ q.1 = .ct) ∧ ∃ m', m' < m ∧ I m' q.2.1 q.2.2) ∨ (∃ d, q.1 = .ret d ∧ Z q) else Z (.nx, e, p.2)) :
    ∀ (m : Nat) {env : Env} {h : Store}, I m env h → opt (whD cond body env h) Z := by
  intro m
  induction m using Nat.strongRecOn with
  | ind m ih =>
    intro env h h0
    rw [whD_eq]
    obtain ⟨⟨k, h1⟩, e1, q1⟩ := hs m env h h0
    cases k with
    | false =>
      simp only [e1, opt_some]
      simpa using q1
    | true =>
      simp only [e1]
      simp only [if_true] at q1
      obtain ⟨⟨o, e2, h2⟩, q2, q3⟩ := q1
      simp only at q2 q3
      simp only [q2]
      rcases q3 with ⟨ho, m', hm, hI⟩ | ⟨d, hd, hz⟩
      · rcases ho with rfl | rfl <;> exact ih m' hm hI
      · subst hd
        simp only [opt_some]
        exact hz
/-! ### calls -/
theorem call_of {P : Nat → Option FDef} {n f : Nat} {F : FDef} {args : List D} {b : Nat} {h : Store} {Q : D × Store → Prop} (hP : P f = some F) (ha : args.length = F.np) (hk : F.keep = false)
    (hb : wSs ⟨h.length, [], callI P n⟩ F.body (args.map some ++ List.replicate (F.ns - F.np) none) h fun o _ h1 => match o with
      | .ret d => opt (froz h1 h.length 4 d) fun d' => Q (d', h1.take h.length)
      | .nx => Q (.non, h1.take h.length)
      | _ => False) : opt (callI P (n + 1) f args b h) Q := by
  unfold callI
  obtain ⟨⟨o, e1, h1⟩, e, q⟩ := hb
  simp only [hP, ha, hk, if_true, Bool.false_eq_true, if_false, e]
  cases o with
  | ret d => rw [opt_map]; exact q
  | nx => rw [opt_some]; exact q
  | ct => exact False.elim q
  | brk => exact False.elim q
theorem call_keep {P : Nat → Option FDef} {n f : Nat} {F : FDef} {args : List D} {b : Nat} {h : Store} {Q : D × Store → Prop} (hP : P f = some F) (ha : args.length = F.np) (hk : F.keep = true)
    (hb : wSs ⟨b, [], callI P n⟩ F.body (args.map some ++ List.replicate (F.ns - F.np) none) h fun o _ h1 => match o with
      | .ret d => Q (d, h1)
      | .nx => Q (.non, h1)
      | _ => False) : opt (callI P (n + 1) f args b h) Q := by
  unfold callI
  obtain ⟨⟨o, e1, h1⟩, e, q⟩ := hb
  simp only [hP, ha, hk, if_true, e]
  cases o with
  | ret d => rw [opt_some]; exact q
  | nx => rw [opt_some]; exact q
  | ct => exact False.elim q
  | brk => exact False.elim q
theorem take_self (h : Store) : h.take h.length = h := List.take_length
theorem froz_bel {h : Store} {n k : Nat} {d : D} (hb : d.bel n = true) : froz h n k d = some d := by
  unfold froz
  rw [if_pos hb]
@[simp] theorem mkL_f (ds : List D) (h : Store) : mkL false ds h = (.lst ds, h) := rfl
@[simp] theorem mkL_t (ds : List D) (h : Store) : mkL true ds h = (.ref h.length, h ++ [.lst ds]) := rfl
@[simp] theorem binop_int (op : Bop) (m : Bool) (i j : Int) (h : Store) : binop op m (.int i) (.int j) h = (binI op i j).map fun k => (.int k, h) := rfl
@[simp] theorem binI_add (i j : Int) : binI .add i j = some (i + j) := rfl
@[simp] theorem binI_sub (i j : Int) : binI .sub i j = some (i - j) := rfl
@[simp] theorem binI_mul (i j : Int) : binI .mul i j = if small i ∨ small j then some (i * j) else none := rfl
@[simp] theorem binI_fdiv (i j : Int) : binI .fdiv i j = if 0 < j ∧ j.natAbs.log2 < 9000 then some (i / j) else none := rfl
@[simp] theorem binI_mod (i j : Int) : binI .mod i j = if 0 < j then some (i % j) else none := rfl
@[simp] theorem cmpD_lt (i j : Int) (h : Store) : cmpD .lt (.int i) (.int j) h = some (decide (i < j)) := rfl
@[simp] theorem cmpD_le (i j : Int) (h : Store) : cmpD .le (.int i) (.int j) h = some (decide (i ≤ j)) := rfl
@[simp] theorem cmpD_gt (i j : Int) (h : Store) : cmpD .gt (.int i) (.int j) h = some (decide (j < i)) := rfl
@[simp] theorem cmpD_ge (i j : Int) (h : Store) : cmpD .ge (.int i) (.int j) h = some (decide (j ≤ i)) := rfl
@[simp] theorem cmpD_isN (x : D) (h : Store) : cmpD .isN x .non h = some (isNonD x) := rfl
@[simp] theorem cmpD_notN (x : D) (h : Store) : cmpD .notN x .non h = some (!isNonD x) := rfl
theorem eqI (i j : Int) (h : Store) : eqD h (.int i) (.int j) = some (decide (i = j)) := by
  show some (PyData.eqv (.int i) (.int j)) = _
  rfl
@[simp] theorem cmpD_eqI (i j : Int) (h : Store) : cmpD .eq (.int i) (.int j) h = some (decide (i = j)) := eqI i j h
@[simp] theorem cmpD_neI (i j : Int) (h : Store) : cmpD .ne (.int i) (.int j) h = some (!decide (i = j)) := by
  show (eqD h (.int i) (.int j)).map (!·) = _
  rw [eqI]
  rfl
@[simp] theorem getS_tup (h : Store) (ds : List D) : getS h (.tup ds) = some ds := rfl
@[simp] theorem getS_lst (h : Store) (ds : List D) : getS h (.lst ds) = some ds := rfl
@[simp] theorem getS_lck (h : Store) (ds : List D) : getS h (.lck ds) = some ds := rfl
@[simp] theorem getR_lst (h : Store) (ds : List D) : getR h (.lst ds) = some ds := rfl
@[simp] theorem getR_lck (h : Store) (ds : List D) : getR h (.lck ds) = some ds := rfl
@[simp] theorem tupD_tup (ds : List D) : tupD (.tup ds) = some ds := rfl
@[simp] theorem isNon_non : isNonD .non = true := rfl
@[simp] theorem isNon_int (i : Int) : isNonD (.int i) = false := rfl
@[simp] theorem isNon_tup (i : List D) : isNonD (.tup i) = false := rfl
@[simp] theorem wkX_tup (h : Store) (ds : List D) : wkX h (.tup ds) = some (ds, none) := rfl
@[simp] theorem wkX_lst (h : Store) (ds : List D) : wkX h (.lst ds) = some (ds, none) := rfl
@[simp] theorem wkX_lck (h : Store) (ds : List D) : wkX h (.lck ds) = some (ds, none) := rfl
theorem ixD_tup (h : Store) (ds : List D) (i : Int) : ixD h (.tup ds) i = atI ds i := rfl
theorem ixD_lst (h : Store) (ds : List D) (i : Int) : ixD h (.lst ds) i = atI ds i := rfl
end Sw

set_option maxRecDepth 100000
set_option maxHeartbeats 1000000
/-! SwV: equality of data. -/
namespace Sw
open PySem L2
mutual
/-- data without references, dicts, bools, locked lists -/
def D.nb : D → Bool
  | .non => true
  | .int _ => true
  | .str x => PySem.PyData.canLay0 (.str x)
  | .tup ds => D.nbs ds
  | .lst ds => D.nbs ds
  | _ => false
def D.nbs : List D → Bool
  | [] => true
  | d :: ds => D.nb d && D.nbs ds
end
mutual
def D.dep : D → Nat
  | .tup ds => D.deps ds + 1
  | .lst ds => D.deps ds + 1
  | _ => 0
def D.deps : List D → Nat
  | [] => 0
  | d :: ds => max (D.dep d) (D.deps ds)
end
mutual
def pd : D → PyData
  | .bl b => .bool b
  | .int i => .int i
  | .str x => .str x
  | .tup ds => .tuple (pds ds)
  | .lst ds => .list (pds ds)
  | _ => .none
def pds : List D → List PyData
  | [] => []
  | d :: ds => pd d :: pds ds
end
theorem nbs_iff : ∀ {ds : List D}, D.nbs ds = true ↔ ∀ d ∈ ds, d.nb = true
  | [] => by simp [D.nbs]
  | d :: ds => by simp [D.nbs, nbs_iff (ds := ds)]
theorem deps_le {k : Nat} : ∀ {ds : List D}, D.deps ds ≤ k ↔ ∀ d ∈ ds, d.dep ≤ k
  | [] => by simp [D.deps]
  | d :: ds => by simp [D.deps, deps_le (ds := ds), Nat.max_le]
theorem pds_map : ∀ (ds : List D), pds ds = ds.map pd
  | [] => rfl
  | d :: ds => by rw [pds, pds_map ds]; rfl
theorem mapM_some {α β : Type} {f : α → Option β} {g : α → β} : ∀ {xs : List α}, (∀ x ∈ xs, f x = some (g x)) → xs.mapM f = some (xs.map g)
  | [], _ => rfl
  | x :: xs, h => by
    rw [List.mapM_cons, h x (by simp), mapM_some (xs := xs) fun y hy => h y (by simp [hy])]
    rfl
theorem toPy_nb (h : Store) : ∀ (k : Nat) {d : D}, d.nb = true → d.dep < k → toPy h k d = some (pd d)
  | 0, _, _, hk => absurd hk (by omega)
  | k + 1, d, hn, hk => by
    cases d with
    | non => rfl
    | bl b => cases hn
    | int i => rfl
    | str x => rfl
    | tup ds =>
      simp only [D.nb] at hn
      simp only [D.dep] at hk
      rw [toPy]
      have := mapM_some (f := toPy h k) (g := pd) (xs := ds) fun x hx => toPy_nb h k (nbs_iff.mp hn x hx) (by have := deps_le.mp (Nat.le_refl (D.deps ds)) x hx; omega)
      simp only [this, Option.map_some, pd, pds_map]
    | lst ds =>
      simp only [D.nb] at hn
      simp only [D.dep] at hk
      rw [toPy]
      have := mapM_some (f := toPy h k) (g := pd) (xs := ds) fun x hx => toPy_nb h k (nbs_iff.mp hn x hx) (by have := deps_le.mp (Nat.le_refl (D.deps ds)) x hx; omega)
      simp only [this, Option.map_some, pd, pds_map]
    | lck ds => cases hn
    | dct ks ds => cases hn
    | ref n => cases hn
    | fn f => cases hn
mutual
theorem lay_pd : ∀ {d : D}, d.nb = true → (pd d).canLay0 = true
  | .non, _ => rfl
  | .bl _, h => by cases h
  | .int _, _ => rfl
  | .str x, h => h
  | .tup ds, h => by
    simp only [D.nb] at h
    exact lays_pd h
  | .lst ds, h => by
    simp only [D.nb] at h
    exact lays_pd h
  | .lck _, h => by cases h
  | .dct _ _, h => by cases h
  | .ref _, h => by cases h
  | .fn _, h => by cases h
theorem lays_pd : ∀ {ds : List D}, D.nbs ds = true → PyData.canLayAll0 (pds ds) = true
  | [], _ => rfl
  | d :: ds, h => by
    simp only [D.nbs, Bool.and_eq_true] at h
    show (PyData.canLay0 (pd d) && PyData.canLayAll0 (pds ds)) = true
    rw [lay_pd h.1, lays_pd h.2]
    rfl
end
mutual
theorem depth_pd : ∀ (d : D), (pd d).depth ≤ d.dep
  | .non => Nat.le_refl _
  | .bl _ => Nat.le_refl _
  | .int _ => Nat.le_refl _
  | .str x => Nat.le_refl _
  | .tup ds => Nat.succ_le_succ (depths_pd ds)
  | .lst ds => Nat.succ_le_succ (depths_pd ds)
  | .lck _ => Nat.le_refl _
  | .dct _ _ => Nat.le_refl _
  | .ref _ => Nat.le_refl _
  | .fn _ => Nat.le_refl _
theorem depths_pd : ∀ (ds : List D), PyData.depthAll (pds ds) ≤ D.deps ds
  | [] => Nat.le_refl _
  | d :: ds => by
    have h1 := depth_pd d
    have h2 := depths_pd ds
    show max (pd d).depth (PyData.depthAll (pds ds)) ≤ max d.dep (D.deps ds)
    omega
end
theorem pyOf_nb {h : Store} {d : D} (hn : d.nb = true) (hd : d.dep < 12) : pyOf h d = some (pd d) := by
  unfold pyOf
  rw [toPy_nb h 12 hn hd]
  have h1 := depth_pd d
  have : SeqAt.shaped (pd d) = true := by
    unfold SeqAt.shaped
    rw [lay_pd hn, decide_eq_true (by omega)]
    rfl
  simp only [this, if_true]
theorem pyOf_ref {h : Store} {n : Nat} {ds : List D} (e : h[n]? = some (.lst ds)) : pyOf h (.ref n) = pyOf h (.lst ds) := by
  unfold pyOf
  rw [show toPy h 12 (.ref n) = toPy h 12 (.lst ds) by rw [toPy, toPy]; simp only [e]]
theorem pyOf_lck {h : Store} {ds : List D} : pyOf h (.lck ds) = pyOf h (.lst ds) := by
  unfold pyOf
  rw [show toPy h 12 (.lck ds) = toPy h 12 (.lst ds) by rw [toPy, toPy]]
mutual
theorem eqv_nb : ∀ {x y : D}, x.nb = true → y.nb = true → (PyData.eqv (pd x) (pd y) = true ↔ x = y) := by
  intro x y hx hy
  cases x with
  | non => cases y <;> first | (cases hy; done) | simp [pd, PyData.eqv]
  | int i => cases y <;> first | (cases hy; done) | simp [pd, PyData.eqv]
  | str i => cases y <;> first | (cases hy; done) | simp [pd, PyData.eqv]
  | tup xs =>
    cases y with
    | tup ys =>
      simp only [D.nb] at hx hy
      simp only [pd, PyData.eqv, D.tup.injEq]
      exact eqvs_nb hx hy
    | _ => first | (cases hy; done) | simp [pd, PyData.eqv]
  | lst xs =>
    cases y with
    | lst ys =>
      simp only [D.nb] at hx hy
      simp only [pd, PyData.eqv, D.lst.injEq]
      exact eqvs_nb hx hy
    | _ => first | (cases hy; done) | simp [pd, PyData.eqv]
  | _ => cases hx
termination_by x => sizeOf x
theorem eqvs_nb : ∀ {xs ys : List D}, D.nbs xs = true → D.nbs ys = true → (PyData.eqvAll (pds xs) (pds ys) = true ↔ xs = ys) := by
  intro xs ys hx hy
  cases xs with
  | nil => cases ys <;> simp [pds, PyData.eqvAll]
  | cons x xs =>
    cases ys with
    | nil => simp [pds, PyData.eqvAll]
    | cons y ys =>
      simp only [D.nbs, Bool.and_eq_true] at hx hy
      simp only [pds, PyData.eqvAll, Bool.and_eq_true, List.cons.injEq]
      rw [eqv_nb hx.1 hy.1, eqvs_nb hx.2 hy.2]
termination_by xs => sizeOf xs
end
theorem opt_eqD {h : Store} {x y : D} {p q : D} {Q : Bool → Prop} (ex : pyOf h x = some (pd p)) (ey : pyOf h y = some (pd q)) (hp : p.nb = true) (hq : q.nb = true) (ht : p = q → Q true) (hf : p ≠ q → Q false) : opt (eqD h x y) Q := by
  unfold eqD
  rw [ex, ey]
  show opt (some (PyData.eqv (pd p) (pd q))) Q
  rw [opt_some]
  by_cases e : p = q
  · rw [(eqv_nb hp hq).mpr e]
    exact ht e
  · have : PyData.eqv (pd p) (pd q) = false := by
      cases z : PyData.eqv (pd p) (pd q) with
      | false => rfl
      | true => exact absurd ((eqv_nb hp hq).mp z) e
    rw [this]
    exact hf e
theorem any_eqv {ds : List D} {x : D} (hx : x.nb = true) (hd : D.nbs ds = true) : ((pds ds).any fun z => PyData.eqv z (pd x)) = true ↔ x ∈ ds := by
  rw [pds_map, List.any_map, List.any_eq_true]
  constructor
  · rintro ⟨z, hz, e⟩
    rw [← (eqv_nb (nbs_iff.mp hd z hz) hx).mp e]
    exact hz
  · intro hz
    exact ⟨x, hz, (eqv_nb hx hx).mpr rfl⟩
/-- x in a list or a tuple of data -/
theorem opt_inL {h : Store} {x y : D} {ds : List D} {Q : Bool → Prop} (hx : x.nb = true) (dx : x.dep < 12) (ey : pyOf h y = some (.list (pds ds))) (hy : ∀ zs, y ≠ .tup zs) (hd : D.nbs ds = true) (ht : x ∈ ds → Q true) (hf : x ∉ ds → Q false) : opt (inD h x y) Q := by
  have e : inD h x y = some ((pds ds).any fun z => PyData.eqv z (pd x)) := by
    unfold inD
    rw [pyOf_nb hx dx]
    cases y with
    | tup zs => exact absurd rfl (hy zs)
    | _ => simp only [ey] <;> rfl
  rw [e, opt_some]
  by_cases q : x ∈ ds
  · rw [(any_eqv hx hd).mpr q]
    exact ht q
  · have : ((pds ds).any fun z => PyData.eqv z (pd x)) = false := by
      cases z : ((pds ds).any fun z => PyData.eqv z (pd x)) with
      | false => rfl
      | true => exact absurd ((any_eqv hx hd).mp z) q
    rw [this]
    exact hf q
theorem opt_inT {h : Store} {x : D} {ds : List D} {Q : Bool → Prop} (hx : x.nb = true) (dx : x.dep < 12) (hd : D.nbs ds = true) (dd : D.deps ds < 11) (ht : x ∈ ds → Q true) (hf : x ∉ ds → Q false) : opt (inD h x (.tup ds)) Q := by
  have e : inD h x (.tup ds) = some ((pds ds).any fun z => PyData.eqv z (pd x)) := by
    unfold inD
    rw [pyOf_nb hx dx]
    have e2 : pyOf h (.tup ds) = some (.tuple (pds ds)) := pyOf_nb (d := .tup ds) hd (by simp only [D.dep]; omega)
    simp only [e2]
    rfl
  rw [e, opt_some]
  by_cases q : x ∈ ds
  · rw [(any_eqv hx hd).mpr q]
    exact ht q
  · have : ((pds ds).any fun z => PyData.eqv z (pd x)) = false := by
      cases z : ((pds ds).any fun z => PyData.eqv z (pd x)) with
      | false => rfl
      | true => exact absurd ((any_eqv hx hd).mp z) q
    rw [this]
    exact hf q
theorem findIdx_map {α β : Type} {f : α → β} {p : β → Bool} {q : α → Bool} : ∀ {xs : List α}, (∀ x ∈ xs, p (f x) = q x) → (xs.map f).findIdx? p = xs.findIdx? q
  | [], _ => rfl
  | x :: xs, h => by
    rw [List.map_cons, List.findIdx?_cons, List.findIdx?_cons, h x (by simp), findIdx_map (xs := xs) fun y hy => h y (by simp [hy])]
/-- xs.index(x), at the first place -/
theorem opt_index {h : Store} {o x : D} {ds : List D} {j : Nat} {Q : D × Store → Prop} (hx : x.nb = true) (dx : x.dep < 12) (eo : pyOf h o = some (.list (pds ds))) (hd : D.nbs ds = true) (hj : ds[j]? = some x) (hf : ∀ i, i < j → ds[i]? ≠ some x) (hq : Q (.int j, h)) : opt (mIndex o x h) Q := by
  unfold mIndex
  rw [eo, pyOf_nb hx dx]
  have e : (pds ds).findIdx? (fun z => PyData.eqv z (pd x)) = some j := by
    rw [pds_map]
    obtain ⟨hl, e⟩ := List.getElem?_eq_some_iff.mp hj
    rw [List.findIdx?_eq_some_iff_getElem]
    refine ⟨by simpa using hl, ?_, fun i hi => ?_⟩
    · rw [List.getElem_map, e]
      exact (eqv_nb hx hx).mpr rfl
    · have hl2 : i < ds.length := by omega
      rw [List.getElem_map]
      intro z
      have q := (eqv_nb (nbs_iff.mp hd _ (List.getElem_mem hl2)) hx).mp z
      exact hf i hi (by rw [List.getElem?_eq_getElem hl2, q])
  simp only [e, opt_some]
  exact hq
/-- t.index(x), at the first place -/
theorem opt_tindex {h : Store} {x : D} {ds : List D} {j : Nat} {Q : D × Store → Prop} (hx : x.nb = true) (dx : x.dep < 12) (hd : D.nbs ds = true) (dd : D.deps ds < 11) (hj : ds[j]? = some x) (hf : ∀ i, i < j → ds[i]? ≠ some x) (hq : Q (.int j, h)) : opt (mTix (.tup ds) x h) Q := by
  unfold mTix
  have eo : pyOf h (.tup ds) = some (.tuple (pds ds)) := pyOf_nb (d := .tup ds) hd (by simp only [D.dep]; omega)
  rw [eo, pyOf_nb hx dx]
  have e : (pds ds).findIdx? (fun z => PyData.eqv z (pd x)) = some j := by
    rw [pds_map]
    obtain ⟨hl, e⟩ := List.getElem?_eq_some_iff.mp hj
    rw [List.findIdx?_eq_some_iff_getElem]
    refine ⟨by simpa using hl, ?_, fun i hi => ?_⟩
    · rw [List.getElem_map, e]
      exact (eqv_nb hx hx).mpr rfl
    · have hl2 : i < ds.length := by omega
      rw [List.getElem_map]
      intro z
      have q := (eqv_nb (nbs_iff.mp hd _ (List.getElem_mem hl2)) hx).mp z
      exact hf i hi (by rw [List.getElem?_eq_getElem hl2, q])
  simp only [e, opt_some]
  exact hq
/-! ### lists of bools -/
theorem toPy_bls (h : Store) (bs : List Bool) (k : Nat) : (bs.map D.bl).mapM (toPy h (k + 1)) = some (bs.map PyData.bool) := by
  have := mapM_some (f := toPy h (k + 1)) (g := pd) (xs := bs.map D.bl) fun x hx => by
    obtain ⟨b, _, rfl⟩ := List.mem_map.mp hx
    rfl
  rw [this, List.map_map]
  rfl
theorem canLay_bls : ∀ bs : List Bool, PyData.canLayAll0 (bs.map PyData.bool) = true
  | [] => rfl
  | b :: bs => by
    show (PyData.canLay0 (.bool b) && PyData.canLayAll0 (bs.map PyData.bool)) = true
    rw [canLay_bls bs]
    rfl
theorem depth_bls : ∀ bs : List Bool, PyData.depthAll (bs.map PyData.bool) = 0
  | [] => rfl
  | b :: bs => by
    show max (PyData.depth (.bool b)) (PyData.depthAll (bs.map PyData.bool)) = 0
    rw [depth_bls bs]
    rfl
theorem pyOf_bls (h : Store) (bs : List Bool) : pyOf h (.lst (bs.map D.bl)) = some (.list (bs.map PyData.bool)) := by
  unfold pyOf
  rw [toPy]
  rw [toPy_bls h bs 10]
  have : SeqAt.shaped (.list (bs.map PyData.bool)) = true := by
    unfold SeqAt.shaped
    have e1 : PyData.canLay0 (.list (bs.map PyData.bool)) = true := canLay_bls bs
    have e2 : PyData.depth (.list (bs.map PyData.bool)) = 1 := by
      show PyData.depthAll (bs.map PyData.bool) + 1 = 1
      rw [depth_bls]
    rw [e1, e2]
    rfl
  simp only [Option.map_some, this, if_true]
theorem in_bls (h : Store) (bs : List Bool) (b : Bool) : inD h (.bl b) (.lst (bs.map D.bl)) = some (bs.contains b) := by
  unfold inD
  have e1 : pyOf h (.bl b) = some (.bool b) := rfl
  rw [e1]
  show (match pyOf h (.lst (bs.map D.bl)) with
    | some (.list es) => some (es.any fun z => PyData.eqv z (.bool b))
    | _ => none) = _
  rw [pyOf_bls]
  simp only
  congr 1
  rw [List.any_map]
  induction bs with
  | nil => rfl
  | cons c bs ih =>
    rw [List.any_cons, List.contains_cons, ih]
    congr 1
    show PyData.eqv (.bool c) (.bool b) = _
    cases b <;> cases c <;> rfl
@[simp] theorem cmpD_inn (x y : D) (h : Store) : cmpD .inn x y h = inD h x y := rfl
@[simp] theorem cmpD_nin (x y : D) (h : Store) : cmpD .nin x y h = (inD h x y).map (!·) := rfl
@[simp] theorem cmpD_din (x y : D) (h : Store) : cmpD .din x y h = dinD h x y := rfl
@[simp] theorem cmpD_dnin (x y : D) (h : Store) : cmpD .dnin x y h = (dinD h x y).map (!·) := rfl
/-! ### slices -/
theorem cutD_to (xs : List D) (k : Nat) : cutD xs none (some (k : Int)) = xs.take k := by
  unfold cutD
  rw [HT.sIx_nat, HT.sIx_none, List.drop_zero, Nat.sub_zero]
  by_cases h : k ≤ xs.length
  · rw [Nat.min_eq_left h]
  · rw [Nat.min_eq_right (by omega), List.take_length, List.take_of_length_le (by omega)]
theorem cutD_from (xs : List D) (k : Nat) : cutD xs (some (k : Int)) none = xs.drop k := by
  unfold cutD
  rw [HT.sIx_nat, HT.sIx_none]
  by_cases h : k ≤ xs.length
  · rw [Nat.min_eq_left h]
    exact List.take_of_length_le (by rw [List.length_drop]; exact Nat.le_refl _)
  · rw [Nat.min_eq_right (by omega), List.drop_length, List.drop_of_length_le (by omega)]
    simp
theorem cutD_mid (xs : List D) (i j : Nat) (hj : j ≤ xs.length) : cutD xs (some (i : Int)) (some (j : Int)) = (xs.drop i).take (j - i) := by
  unfold cutD
  rw [HT.sIx_nat, HT.sIx_nat, Nat.min_eq_left hj]
  by_cases h : i ≤ xs.length
  · rw [Nat.min_eq_left h]
  · rw [Nat.min_eq_right (by omega), List.drop_length, List.drop_of_length_le (by omega)]
    simp
/-! ### the store's end -/
section
variable {h l : Store}
@[simp] theorem get_app (i : Nat) : (h ++ l)[h.length + i]? = l[i]? := by
  rw [List.getElem?_append_right (by omega)]
  congr 1
  omega
@[simp] theorem get_app0 : (h ++ l)[h.length]? = l[0]? := get_app 0
@[simp] theorem set_app (i : Nat) (o : Ob) : (h ++ l).set (h.length + i) o = h ++ l.set i o := by
  rw [List.set_append_right _ _ (by omega)]
  congr 2
  omega
@[simp] theorem set_app0 (o : Ob) : (h ++ l).set h.length o = h ++ l.set 0 o := set_app 0 o
theorem get_old {n : Nat} (hn : n < h.length) : (h ++ l)[n]? = h[n]? := List.getElem?_append_left hn
theorem set_old {n : Nat} (o : Ob) (hn : n < h.length) : (h ++ l).set n o = h.set n o ++ l := List.set_append_left _ _ hn
theorem froz_all {h1 : Store} {n k : Nat} {ds : List D} (hb : D.bels n ds = true) : ds.mapM (froz h1 n k) = some ds := by
  have := mapM_some (f := froz h1 n k) (g := id) (xs := ds) fun x hx => froz_bel (bels_all hb x hx)
  rw [this, List.map_id]
where
  bels_all : ∀ {n : Nat} {ds : List D}, D.bels n ds = true → ∀ d ∈ ds, d.bel n = true
    | _, [], _, _, h => by cases h
    | n, d :: ds, h, x, hx => by
      simp only [D.bels, Bool.and_eq_true] at h
      rcases List.mem_cons.mp hx with e | e
      · rw [e]; exact h.1
      · exact bels_all h.2 x e
theorem froz_lst {h1 : Store} {n m k : Nat} {ds : List D} (e : h1[m]? = some (.lst ds)) (hm : n ≤ m) (hb : D.bels n ds = true) : froz h1 n (k + 1) (.ref m) = some (.lst ds) := by
  unfold froz
  have : (D.ref m).bel n = false := by simp [D.bel, hm]
  rw [this]
  simp only [Bool.false_eq_true, if_false, e, froz_all hb, Option.map_some]
theorem snd_map (kvs : List (L2.Key × D)) {h1 : Store} {n k : Nat} (hb : D.bels n (kvs.map (·.2)) = true) : kvs.mapM (fun p => froz h1 n k p.2) = some (kvs.map (·.2)) := by
  have := mapM_some (f := fun p : L2.Key × D => froz h1 n k p.2) (g := (·.2)) (xs := kvs) fun x hx => froz_bel (froz_all.bels_all hb x.2 (List.mem_map_of_mem hx))
  exact this
theorem froz_dct {h1 : Store} {n m k : Nat} {kvs : List (L2.Key × D)} (e : h1[m]? = some (.dct kvs)) (hm : n ≤ m) (hb : D.bels n (kvs.map (·.2)) = true) : froz h1 n (k + 1) (.ref m) = some (.dct (kvs.map (·.1)) (kvs.map (·.2))) := by
  unfold froz
  have : (D.ref m).bel n = false := by simp [D.bel, hm]
  rw [this]
  simp only [Bool.false_eq_true, if_false, e, snd_map kvs hb, Option.map_some]
theorem wr_new {b n : Nat} {o : Ob} {new : List D} {h1 : Store} (hb : b ≤ n) (hn : n < h1.length) : wr b n o new h1 = some (h1.set n o) := by
  unfold wr
  rw [if_pos ⟨.inr hb, hn⟩]
theorem wr_old {b n : Nat} {o : Ob} {new : List D} {h1 : Store} (hb : D.bels 0 new = true) (hn : n < h1.length) : wr b n o new h1 = some (h1.set n o) := by
  unfold wr
  rw [if_pos ⟨.inl hb, hn⟩]
end
theorem enumD_map {α : Type} (f : α → D) : ∀ (xs : List α) (k : Nat), enumD k (xs.map f) = (xs.zipIdx k).map fun p => .tup [.int p.2, f p.1]
  | [], _ => rfl
  | x :: xs, k => by
    rw [List.map_cons, enumD, enumD_map f xs (k + 1), List.zipIdx_cons, List.map_cons]
theorem bels_map {α : Type} {f : α → D} {n : Nat} (hf : ∀ x, (f x).bel n = true) : ∀ xs : List α, D.bels n (xs.map f) = true
  | [] => rfl
  | x :: xs => by rw [List.map_cons, D.bels, hf x, bels_map hf xs]; rfl
/-! ### loops, told by what is left of a turn -/
def stepK (o : Out) (k : Prop) (q : D → Prop) : Prop := match o with
  | .nx => k
  | .ct => k
  | .ret d => q d
  | .brk => False
@[simp] theorem stepK_nx (k : Prop) (q : D → Prop) : stepK .nx k q = k := rfl
@[simp] theorem stepK_ct (k : Prop) (q : D → Prop) : stepK .ct k q = k := rfl
@[simp] theorem stepK_ret (d : D) (k : Prop) (q : D → Prop) : stepK (.ret d) k q = q d := rfl
/-- a loop that may return -/
theorem fr_ret {α : Type} {c : Cfg} {r : Option (Nat × Ob)} {g : Tg} {body : List S} {Z : Out × Env × Store → Prop} (enc : α → D) (I : Nat → Env → Store → Prop) {xs : List α} {env : Env} {h : Store} (h0 : I 0 env h) (hl : ∀ j e h, I j e h → live r h)
    (hs : ∀ j x e h, xs[j]? = some x → I j e h → wT c g (enc x) e h fun e1 h1 => wSs c body e1 h1 fun o e2 h2 => stepK o (I (j + 1) e2 h2) fun d => Z (.ret d, e2, h2))
    (hq : ∀ e h, I xs.length e h → Z (.nx, e, h)) : opt (frL r (fun d env h => asgT c g d env h) (fun env h => exSs c body env h) (xs.map enc) env h) Z := by
  refine fr_rule enc I (i := 0) h0 hl (fun j x e h hx hI => ?_) (fun e h hI => hq e h (by simpa using hI))
  rw [Nat.zero_add] at hI
  obtain ⟨p, e1, q, e2, hk⟩ := hs j x e h hx hI
  refine ⟨p, e1, q, e2, ?_⟩
  obtain ⟨o, e3, h3⟩ := q
  simp only at hk ⊢
  rw [Nat.zero_add]
  cases o with
  | nx => exact .inl ⟨.inl rfl, hk⟩
  | ct => exact .inl ⟨.inr rfl, hk⟩
  | ret d => exact .inr ⟨d, rfl, hk⟩
  | brk => exact False.elim hk
/-- a loop that is run to its end -/
theorem fr_nx {α : Type} {c : Cfg} {r : Option (Nat × Ob)} {g : Tg} {body : List S} {Z : Out × Env × Store → Prop} (enc : α → D) (I : Nat → Env → Store → Prop) {xs : List α} {env : Env} {h : Store} (h0 : I 0 env h) (hl : ∀ j e h, I j e h → live r h)
    (hs : ∀ j x e h, xs[j]? = some x → I j e h → wT c g (enc x) e h fun e1 h1 => wSs c body e1 h1 fun o e2 h2 => stepK o (I (j + 1) e2 h2) fun _ => False)
    (hq : ∀ e h, I xs.length e h → Z (.nx, e, h)) : opt (frL r (fun d env h => asgT c g d env h) (fun env h => exSs c body env h) (xs.map enc) env h) Z :=
  fr_ret enc I h0 hl (fun j x e h hx hI => (show wT c g (enc x) e h _ from opt.imp (hs j x e h hx hI) fun p q => opt.imp q fun u k => by
    obtain ⟨o, e3, h3⟩ := u
    simp only at k ⊢
    cases o with
    | ret d => exact False.elim k
    | _ => exact k)) hq
theorem wT.imp {c : Cfg} {t : Tg} {d : D} {env : Env} {h : Store} {Q Q' : Env → Store → Prop} (w : wT c t d env h Q) (k : ∀ e h, Q e h → Q' e h) : wT c t d env h Q' := opt.imp w fun _ q => k _ _ q
/-! ### lists of the store -/
section
variable {h : Store} {m : Nat} {ds : List D}
theorem ixD_ref (e : h[m]? = some (.lst ds)) (i : Int) : ixD h (.ref m) i = atI ds i := by
  simp [ixD, getS, getR, getL, e]
theorem slD_ref (e : h[m]? = some (.lst ds)) (l u : Option Int) : slD false (.ref m) l u h = some (.lst (cutD ds l u), h) := by
  simp [slD, getR, getL, e]
theorem slD_refT (e : h[m]? = some (.lst ds)) (l u : Option Int) : slD true (.ref m) l u h = some (.ref h.length, h ++ [.lst (cutD ds l u)]) := by
  simp [slD, getR, getL, e]
theorem getS_ref (e : h[m]? = some (.lst ds)) : getS h (.ref m) = some ds := by
  simp [getS, getR, getL, e]
theorem getR_ref (e : h[m]? = some (.lst ds)) : getR h (.ref m) = some ds := by
  simp [getR, getL, e]
theorem getL_ref (e : h[m]? = some (.lst ds)) : getL h (.ref m) = some ds := by
  simp [getL, e]
theorem wkD_ref (e : h[m]? = some (.lst ds)) : wkD h (.ref m) = some (ds, some (m, .lst ds)) := by
  simp [wkD, e]
end
theorem wkX_ref {h : Store} {m : Nat} {ds : List D} (e : h[m]? = some (.lst ds)) : wkX h (.ref m) = some (ds, some (m, .lst ds)) := by
  simp [wkX, e]
@[simp] theorem binop_lst (a b : List D) (h : Store) : binop .add false (.lst a) (.lst b) h = if a.length + b.length ≤ sizeLine then some (.lst (a ++ b), h) else none := rfl
@[simp] theorem binop_tup (m : Bool) (a b : List D) (h : Store) : binop .add m (.tup a) (.tup b) h = if a.length + b.length ≤ sizeLine then some (.tup (a ++ b), h) else none := rfl
@[simp] theorem wkD_lst (h : Store) (ds : List D) : wkD h (.lst ds) = some (ds, none) := rfl
@[simp] theorem wkD_lck (h : Store) (ds : List D) : wkD h (.lck ds) = some (ds, none) := rfl
theorem set_self {h : Store} {m : Nat} {o : Ob} (e : h[m]? = some o) : h.set m o = h := by
  apply List.ext_getElem?
  intro i
  by_cases hi : i = m
  · subst hi
    rw [e, List.getElem?_set_self (List.getElem?_eq_some_iff.mp e).1]
  · rw [List.getElem?_set_ne (Ne.symm hi)]
theorem take_set (h : Store) (m : Nat) (o : Ob) : (h.set m o).take h.length = h.set m o := List.take_of_length_le (by simp)
theorem bels0_map {α : Type} {f : α → D} (hf : ∀ x, (f x).bel 0 = true) (xs : List α) : D.bels 0 (xs.map f) = true := bels_map hf xs
theorem subD_ref {h : Store} {m k b : Nat} {ds : List D} {d : D} (e : h[m]? = some (.lst ds)) (hk : k < ds.length) (hb : D.bels 0 [d] = true ∨ b ≤ m) : subD b (.ref m) (k : Int) d h = some (h.set m (.lst (ds.set k d))) := by
  have hm := (List.getElem?_eq_some_iff.mp e).1
  have hi : ixN ds.length (k : Int) = some k := by
    unfold ixN
    rw [if_pos (by omega), if_pos (by omega)]
    simp
  simp only [subD, e, hi]
  unfold wr
  rw [if_pos ⟨hb, hm⟩]
end Sw

set_option maxRecDepth 100000
set_option maxHeartbeats 1000000
/-! Sw1: how values and the store stand in the model's heap. -/
namespace Sw
open PySem PySem.Spec L2

structure Wd where
  K : PySem.W.Frag
  fnA : Nat → Addr
  cA : Nat → Addr

def own (ρ hid : List Addr) (a : Addr) : Prop := a ∈ ρ ∨ a ∈ hid
def KL (K : PySem.W.Frag) (a : Addr) (xs : List V) : Prop :=
  ∃ (o : Obj) (its : Array Value) (n : Nat), K.lookup a = some o ∧ o.cls = .type "list" ∧ o.dict = none ∧ o.data = .seq its n ∧ its.size ≤ sizeLine ∧ Vals xs its.toList
def RdT (K : PySem.W.Frag) (ρ hid : List Addr) (H : Hp) (a : Addr) (vs : List V) : Prop := ∃ o : Obj, H a = some (.frz o (.tup vs)) ∧ o.dict = none ∧ ¬ own ρ hid a
def RdL (K : PySem.W.Frag) (ρ hid : List Addr) (H : Hp) (a : Addr) (vs : List V) : Prop := (Rd H a (.lst vs) ∧ ¬ own ρ hid a) ∨ KL K a vs
mutual
def RelD (W : Wd) (ρ hid : List Addr) (H : Hp) : D → V → Prop
  | .non, v => v = .non
  | .bl b, v => v = .bl b
  | .int i, v => v = .int i
  | .str x, v => v = .str x
  | .tup ds, v => ∃ a vs, v = .ref a ∧ RdT W.K ρ hid H a vs ∧ RelDs W ρ hid H ds vs
  | .lst ds, v => ∃ a vs, v = .ref a ∧ H a = some (.lst vs) ∧ ¬ own ρ hid a ∧ RelDs W ρ hid H ds vs
  | .lck ds, v => ∃ a vs, v = .ref a ∧ RdL W.K ρ hid H a vs ∧ RelDs W ρ hid H ds vs
  | .dct ks ds, v => ∃ a kvs, v = .ref a ∧ Rd H a (.dK kvs) ∧ ¬ own ρ hid a ∧ kvs.map (·.1) = ks ∧ RelDs W ρ hid H ds (kvs.map (·.2))
  | .ref n, v => ∃ a, ρ[n]? = some a ∧ v = .ref a
  | .fn f, v => v = .ref (W.fnA f)
def RelDs (W : Wd) (ρ hid : List Addr) (H : Hp) : List D → List V → Prop
  | [], vs => vs = []
  | d :: ds, vs => ∃ v r, vs = v :: r ∧ RelD W ρ hid H d v ∧ RelDs W ρ hid H ds r
end
/-- what stays: the store grows, what is not ours stands as it was -/
structure Ext (ρ hid : List Addr) (H : Hp) (ρ' : List Addr) (H' : Hp) : Prop where
  pre : ∃ t, ρ' = ρ ++ t
  keep : ∀ a o, H a = some o → ¬ own ρ hid a → H' a = some o ∧ ¬ own ρ' hid a
  frz : ∀ a o u, H a = some (.frz o u) → H' a = some (.frz o u)
  hk : ∀ a ∈ hid, ∀ o, H a = some o → H' a = some o
section
variable {W : Wd} {ρ ρ' ρ'' hid hid' : List Addr} {H H' H'' : Hp}
theorem Ext.refl : Ext ρ hid H ρ H := ⟨⟨[], by simp⟩, fun _ _ h n => ⟨h, n⟩, fun _ _ _ h => h, fun _ _ _ h => h⟩
theorem Ext.trans (a : Ext ρ hid H ρ' H') (b : Ext ρ' hid H' ρ'' H'') : Ext ρ hid H ρ'' H'' := by
  obtain ⟨t, rfl⟩ := a.pre
  obtain ⟨u, rfl⟩ := b.pre
  refine ⟨⟨t ++ u, by rw [List.append_assoc]⟩, fun c o h n => ?_, fun c o v h => b.frz c o v (a.frz c o v h), fun c hc o h => b.hk c hc o (a.hk c hc o h)⟩
  obtain ⟨h1, n1⟩ := a.keep c o h n
  exact b.keep c o h1 n1
theorem Ext.rd (x : Ext ρ hid H ρ' H') {a : Addr} {u : HO} (h : Rd H a u) (n : ¬ own ρ hid a) : Rd H' a u ∧ ¬ own ρ' hid a := by
  rcases h with h | ⟨o, h⟩
  · obtain ⟨h1, n1⟩ := x.keep a _ h n
    exact ⟨.inl h1, n1⟩
  · obtain ⟨h1, n1⟩ := x.keep a _ h n
    exact ⟨.inr ⟨o, h1⟩, n1⟩
theorem Ext.get (x : Ext ρ hid H ρ' H') {n : Nat} {a : Addr} (h : ρ[n]? = some a) : ρ'[n]? = some a := by
  obtain ⟨t, rfl⟩ := x.pre
  have hl := (List.getElem?_eq_some_iff.mp h).1
  rw [List.getElem?_append_left hl]
  exact h
/-- a change under which what is not ours stays -/
structure Mv (ρ hid : List Addr) (H : Hp) (ρ' hid' : List Addr) (H' : Hp) : Prop where
  get : ∀ (n : Nat) (a : Addr), ρ[n]? = some a → ρ'[n]? = some a
  keep : ∀ a o, H a = some o → ¬ own ρ hid a → H' a = some o ∧ ¬ own ρ' hid' a
theorem Ext.mv (x : Ext ρ hid H ρ' H') : Mv ρ hid H ρ' hid H' := ⟨fun _ _ h => x.get h, x.keep⟩
theorem Mv.rd (x : Mv ρ hid H ρ' hid' H') {a : Addr} {u : HO} (h : Rd H a u) (n : ¬ own ρ hid a) : Rd H' a u ∧ ¬ own ρ' hid' a := by
  rcases h with h | ⟨o, h⟩
  · obtain ⟨h1, n1⟩ := x.keep a _ h n
    exact ⟨.inl h1, n1⟩
  · obtain ⟨h1, n1⟩ := x.keep a _ h n
    exact ⟨.inr ⟨o, h1⟩, n1⟩
theorem RdT.mv (x : Mv ρ hid H ρ' hid' H') {K : PySem.W.Frag} {a : Addr} {vs : List V} (h : RdT K ρ hid H a vs) : RdT K ρ' hid' H' a vs := by
  obtain ⟨o, h, d, n⟩ := h
  obtain ⟨h1, n1⟩ := x.keep a _ h n
  exact ⟨o, h1, d, n1⟩
theorem RdL.mv (x : Mv ρ hid H ρ' hid' H') {K : PySem.W.Frag} {a : Addr} {vs : List V} (h : RdL K ρ hid H a vs) : RdL K ρ' hid' H' a vs := by
  rcases h with ⟨h, n⟩ | h
  · exact .inl (x.rd h n)
  · exact .inr h
theorem RdT.sq {K : PySem.W.Frag} {a : Addr} {vs : List V} (h : RdT K ρ hid H a vs) : SqT K H a vs := by
  obtain ⟨o, h, d, n⟩ := h
  exact .inl (.inr ⟨o, h⟩)
theorem RdL.sq {K : PySem.W.Frag} {a : Addr} {vs : List V} (h : RdL K ρ hid H a vs) : SqL K H a vs := by
  rcases h with ⟨h, n⟩ | h
  · exact .inl h
  · exact .inr h
mutual
theorem RelD.mv (x : Mv ρ hid H ρ' hid' H') : ∀ {d : D} {v : V}, RelD W ρ hid H d v → RelD W ρ' hid' H' d v
  | .non, _, h => h
  | .bl _, _, h => h
  | .int _, _, h => h
  | .str _, _, h => h
  | .tup ds, _, h => by
    obtain ⟨a, vs, e, r, q⟩ := h
    exact ⟨a, vs, e, r.mv x, RelDs.mv x q⟩
  | .lst ds, _, h => by
    obtain ⟨a, vs, e, r, n, q⟩ := h
    obtain ⟨r1, n1⟩ := x.keep a _ r n
    exact ⟨a, vs, e, r1, n1, RelDs.mv x q⟩
  | .lck ds, _, h => by
    obtain ⟨a, vs, e, r, q⟩ := h
    exact ⟨a, vs, e, r.mv x, RelDs.mv x q⟩
  | .dct ks ds, _, h => by
    obtain ⟨a, vs, e, r, n, k, q⟩ := h
    obtain ⟨r1, n1⟩ := x.rd r n
    exact ⟨a, vs, e, r1, n1, k, RelDs.mv x q⟩
  | .ref n, _, h => by
    obtain ⟨a, r, e⟩ := h
    exact ⟨a, x.get _ _ r, e⟩
  | .fn f, _, h => h
theorem RelDs.mv (x : Mv ρ hid H ρ' hid' H') : ∀ {ds : List D} {vs : List V}, RelDs W ρ hid H ds vs → RelDs W ρ' hid' H' ds vs
  | [], _, h => h
  | d :: ds, _, h => by
    obtain ⟨v, r, e, q1, q2⟩ := h
    exact ⟨v, r, e, RelD.mv x q1, RelDs.mv x q2⟩
end
theorem RelD.mono (x : Ext ρ hid H ρ' H') {d : D} {v : V} (h : RelD W ρ hid H d v) : RelD W ρ' hid H' d v := h.mv x.mv
theorem RelDs.mono (x : Ext ρ hid H ρ' H') {d : List D} {v : List V} (h : RelDs W ρ hid H d v) : RelDs W ρ' hid H' d v := h.mv x.mv
theorem RelDs.length : ∀ {ds : List D} {vs : List V}, RelDs W ρ hid H ds vs → ds.length = vs.length
  | [], _, h => by
    have e : _ = [] := h
    rw [e]
    rfl
  | d :: ds, _, h => by
    obtain ⟨v, r, rfl, q1, q2⟩ := h
    simp [RelDs.length q2]
theorem RelDs.get : ∀ {ds : List D} {vs : List V} {i : Nat} {d : D}, RelDs W ρ hid H ds vs → ds[i]? = some d → ∃ v, vs[i]? = some v ∧ RelD W ρ hid H d v
  | [], _, _, _, _, e => by simp at e
  | c :: ds, _, 0, d, h, e => by
    obtain ⟨v, r, rfl, q1, q2⟩ := h
    have e1 : c = d := by simpa using e
    exact ⟨v, rfl, e1 ▸ q1⟩
  | c :: ds, _, i + 1, d, h, e => by
    obtain ⟨v, r, rfl, q1, q2⟩ := h
    obtain ⟨w, e1, q⟩ := RelDs.get (i := i) q2 (by simpa using e)
    exact ⟨w, by simpa using e1, q⟩
theorem RelDs.getV : ∀ {ds : List D} {vs : List V} {i : Nat} {v : V}, RelDs W ρ hid H ds vs → vs[i]? = some v → ∃ d, ds[i]? = some d ∧ RelD W ρ hid H d v
  | [], vs, i, _, h, e => by
    have e1 : vs = [] := h
    rw [e1] at e
    simp at e
  | c :: ds, _, 0, v, h, e => by
    obtain ⟨v, r, rfl, q1, q2⟩ := h
    simp only [List.getElem?_cons_zero, Option.some.injEq] at e
    subst e
    exact ⟨c, rfl, q1⟩
  | c :: ds, _, i + 1, v, h, e => by
    obtain ⟨v', r, rfl, q1, q2⟩ := h
    obtain ⟨w, e1, q⟩ := RelDs.getV (i := i) q2 (by simpa using e)
    exact ⟨w, by simpa using e1, q⟩
theorem RelDs.append : ∀ {ds : List D} {vs : List V} {es : List D} {ws : List V}, RelDs W ρ hid H ds vs → RelDs W ρ hid H es ws → RelDs W ρ hid H (ds ++ es) (vs ++ ws)
  | [], vs, _, _, h, k => by
    have e1 : vs = [] := h
    rw [e1]
    exact k
  | c :: ds, _, _, _, h, k => by
    obtain ⟨v, r, rfl, q1, q2⟩ := h
    exact ⟨v, _, rfl, q1, RelDs.append q2 k⟩
theorem RelDs.take : ∀ {ds : List D} {vs : List V} (n : Nat), RelDs W ρ hid H ds vs → RelDs W ρ hid H (ds.take n) (vs.take n)
  | [], vs, n, h => by
    have e1 : vs = [] := h
    rw [e1]
    cases n <;> rfl
  | c :: ds, _, 0, h => rfl
  | c :: ds, _, n + 1, h => by
    obtain ⟨v, r, rfl, q1, q2⟩ := h
    exact ⟨v, _, rfl, q1, RelDs.take n q2⟩
theorem RelDs.drop : ∀ {ds : List D} {vs : List V} (n : Nat), RelDs W ρ hid H ds vs → RelDs W ρ hid H (ds.drop n) (vs.drop n)
  | [], vs, n, h => by
    have e1 : vs = [] := h
    rw [e1]
    cases n <;> rfl
  | c :: ds, _, 0, h => h
  | c :: ds, _, n + 1, h => by
    obtain ⟨v, r, rfl, q1, q2⟩ := h
    exact RelDs.drop n q2
theorem RelDs.set {d : D} {v : V} (q : RelD W ρ hid H d v) : ∀ {ds : List D} {vs : List V} (n : Nat), RelDs W ρ hid H ds vs → RelDs W ρ hid H (ds.set n d) (vs.set n v)
  | [], vs, n, h => by
    have e1 : vs = [] := h
    rw [e1]
    rfl
  | c :: ds, _, 0, h => by
    obtain ⟨v', r, rfl, q1, q2⟩ := h
    exact ⟨v, _, rfl, q, q2⟩
  | c :: ds, _, n + 1, h => by
    obtain ⟨v', r, rfl, q1, q2⟩ := h
    exact ⟨v', _, rfl, q1, RelDs.set q n q2⟩
theorem RelDs.erase : ∀ {ds : List D} {vs : List V} (n : Nat), RelDs W ρ hid H ds vs → RelDs W ρ hid H (ds.eraseIdx n) (vs.eraseIdx n)
  | [], vs, n, h => by
    have e1 : vs = [] := h
    rw [e1]
    cases n <;> rfl
  | c :: ds, _, 0, h => by
    obtain ⟨v', r, rfl, q1, q2⟩ := h
    exact q2
  | c :: ds, _, n + 1, h => by
    obtain ⟨v', r, rfl, q1, q2⟩ := h
    exact ⟨v', _, rfl, q1, RelDs.erase n q2⟩
theorem RelDs.replicate {d : D} {v : V} (q : RelD W ρ hid H d v) : ∀ n : Nat, RelDs W ρ hid H (List.replicate n d) (List.replicate n v)
  | 0 => rfl
  | n + 1 => ⟨v, _, rfl, q, RelDs.replicate q n⟩
theorem RelDs.flat {ds : List D} {vs : List V} (q : RelDs W ρ hid H ds vs) : ∀ n : Nat, RelDs W ρ hid H (List.replicate n ds).flatten (List.replicate n vs).flatten
  | 0 => rfl
  | n + 1 => by
    rw [List.replicate_succ, List.replicate_succ, List.flatten_cons, List.flatten_cons]
    exact RelDs.append q (RelDs.flat q n)
theorem RelDs.ints : ∀ {ds : List D} {vs : List V} {ns : List Int}, RelDs W ρ hid H ds vs → asInts ds = some ns → vs = ns.map V.int
  | [], vs, ns, h, e => by
    have e1 : vs = [] := h
    have e2 : ns = [] := by simpa [asInts] using e.symm
    rw [e1, e2]
    rfl
  | .int i :: ds, _, ns, h, e => by
    obtain ⟨v, r, rfl, q1, q2⟩ := h
    unfold asInts at e
    cases q : asInts ds with
    | none => rw [q] at e; cases e
    | some ms =>
      rw [q] at e
      cases e
      have e3 : v = .int i := q1
      rw [e3, RelDs.ints q2 q]
      rfl
  | .non :: _, _, _, _, e => by cases e
  | .bl _ :: _, _, _, _, e => by cases e
  | .str _ :: _, _, _, _, e => by cases e
  | .tup _ :: _, _, _, _, e => by cases e
  | .lst _ :: _, _, _, _, e => by cases e
  | .lck _ :: _, _, _, _, e => by cases e
  | .dct _ _ :: _, _, _, _, e => by cases e
  | .ref _ :: _, _, _, _, e => by cases e
  | .fn _ :: _, _, _, _, e => by cases e
theorem RelDs.bls : ∀ {ds : List D} {vs : List V} {ns : List Bool}, RelDs W ρ hid H ds vs → asBls ds = some ns → vs = ns.map V.bl
  | [], vs, ns, h, e => by
    have e1 : vs = [] := h
    have e2 : ns = [] := by simpa [asBls] using e.symm
    rw [e1, e2]
    rfl
  | .bl i :: ds, _, ns, h, e => by
    obtain ⟨v, r, rfl, q1, q2⟩ := h
    unfold asBls at e
    cases q : asBls ds with
    | none => rw [q] at e; cases e
    | some ms =>
      rw [q] at e
      cases e
      have e3 : v = .bl i := q1
      rw [e3, RelDs.bls q2 q]
      rfl
  | .non :: _, _, _, _, e => by cases e
  | .int _ :: _, _, _, _, e => by cases e
  | .str _ :: _, _, _, _, e => by cases e
  | .tup _ :: _, _, _, _, e => by cases e
  | .lst _ :: _, _, _, _, e => by cases e
  | .lck _ :: _, _, _, _, e => by cases e
  | .dct _ _ :: _, _, _, _, e => by cases e
  | .ref _ :: _, _, _, _, e => by cases e
  | .fn _ :: _, _, _, _, e => by cases e
theorem relInts : ∀ ns : List Int, RelDs W ρ hid H (ns.map D.int) (ns.map V.int)
  | [] => rfl
  | n :: r => ⟨_, _, rfl, rfl, relInts r⟩
end

/-! ### the store -/
def ObR (W : Wd) (ρ hid : List Addr) (H : Hp) (a : Addr) : Ob → Prop
  | .lst ds => ∃ vs, H a = some (.lst vs) ∧ RelDs W ρ hid H ds vs
  | .dct kvs => ∃ kws, H a = some (.dK kws) ∧ kws.map (·.1) = kvs.map (·.1) ∧ RelDs W ρ hid H (kvs.map (·.2)) (kws.map (·.2))
  | .lkd kvs => ∃ o kws, H a = some (.frz o (.dK kws)) ∧ kws.map (·.1) = kvs.map (·.1) ∧ RelDs W ρ hid H (kvs.map (·.2)) (kws.map (·.2))
  | .ins c fs => ∃ dx fws, H a = some (.ins (W.cA c) dx fws) ∧ fws.map (·.1) = fs.map (·.1) ∧ RelDs W ρ hid H (fs.map (·.2)) (fws.map (·.2))
structure Rl (W : Wd) (bs : List Nat) (ρ hid : List Addr) (h : Store) (H : Hp) : Prop where
  len : ρ.length = h.length
  nd : ρ.Nodup
  ap : ∀ a ∈ hid, a ∉ ρ ∧ ∃ u, H a = some u
  ob : ∀ (n : Nat) (o : Ob) (a : Addr), h[n]? = some o → ρ[n]? = some a → ObR W ρ hid H a o
  hb : ∀ β ∈ bs, β ≤ h.length
  low : ∀ β ∈ bs, ∀ (n : Nat) (o : Ob), n < β → h[n]? = some o → o.bel β = true
section
variable {W : Wd} {bs : List Nat} {ρ ρ' hid : List Addr} {h : Store} {H H' : Hp}
theorem ObR.mono (x : Ext ρ hid H ρ' H') {a : Addr} {o : Ob} (q : ObR W ρ hid H a o) (e : ∀ u, H a = some u → H' a = some u) : ObR W ρ' hid H' a o := by
  cases o with
  | lst ds =>
    obtain ⟨vs, e1, r⟩ := q
    exact ⟨vs, e _ e1, r.mono x⟩
  | dct kvs =>
    obtain ⟨vs, e1, k, r⟩ := q
    exact ⟨vs, e _ e1, k, r.mono x⟩
  | lkd kvs =>
    obtain ⟨o, vs, e1, k, r⟩ := q
    exact ⟨o, vs, e _ e1, k, r.mono x⟩
  | ins c fs =>
    obtain ⟨dx, vs, e1, k, r⟩ := q
    exact ⟨dx, vs, e _ e1, k, r.mono x⟩
theorem ObR.mv {hid' : List Addr} (x : Mv ρ hid H ρ' hid' H') {a : Addr} {o : Ob} (q : ObR W ρ hid H a o) (e : ∀ u, H a = some u → H' a = some u) : ObR W ρ' hid' H' a o := by
  cases o with
  | lst ds =>
    obtain ⟨vs, e1, r⟩ := q
    exact ⟨vs, e _ e1, r.mv x⟩
  | dct kvs =>
    obtain ⟨vs, e1, k, r⟩ := q
    exact ⟨vs, e _ e1, k, r.mv x⟩
  | lkd kvs =>
    obtain ⟨o, vs, e1, k, r⟩ := q
    exact ⟨o, vs, e _ e1, k, r.mv x⟩
  | ins c fs =>
    obtain ⟨dx, vs, e1, k, r⟩ := q
    exact ⟨dx, vs, e _ e1, k, r.mv x⟩
theorem ObR.some {a : Addr} {o : Ob} (q : ObR W ρ hid H a o) : ∃ u, H a = Option.some u := by
  cases o with
  | lst ds => obtain ⟨vs, e1, r⟩ := q; exact ⟨_, e1⟩
  | dct kvs => obtain ⟨vs, e1, k, r⟩ := q; exact ⟨_, e1⟩
  | lkd kvs => obtain ⟨o, vs, e1, k, r⟩ := q; exact ⟨_, e1⟩
  | ins c fs => obtain ⟨dx, vs, e1, k, r⟩ := q; exact ⟨_, e1⟩
theorem Rl.addr (R : Rl W bs ρ hid h H) {n : Nat} {o : Ob} (e : h[n]? = some o) : ∃ a, ρ[n]? = some a ∧ ObR W ρ hid H a o := by
  have hl : n < ρ.length := by
    rw [R.len]
    exact (List.getElem?_eq_some_iff.mp e).1
  exact ⟨ρ[n], by simp [hl], R.ob n o _ e (by simp [hl])⟩
theorem Rl.tracked (R : Rl W bs ρ hid h H) {a : Addr} (ha : a ∈ ρ) : ∃ u, H a = some u := by
  obtain ⟨n, hn, e⟩ := List.getElem_of_mem ha
  have hl : n < h.length := by rw [← R.len]; exact hn
  exact (R.ob n h[n] a (by simp [hl]) (by rw [← e]; simp [hn])).some
/-- a new object that is nobody's -/
theorem ext_new {p : Addr} {u : HO} (hp : H p = none) : Ext ρ hid H ρ (upd H p u) :=
  ⟨⟨[], by simp⟩, fun a o e n => ⟨by rw [upd_ne (ne_of_none e hp)]; exact e, n⟩, fun a o v e => by rw [upd_ne (ne_of_none e hp)]; exact e, fun a _ o e => by rw [upd_ne (ne_of_none e hp)]; exact e⟩
theorem Rl.new (R : Rl W bs ρ hid h H) {p : Addr} {u : HO} (hp : H p = none) : Rl W bs ρ hid h (upd H p u) := by
  refine ⟨R.len, R.nd, fun a ha => ⟨(R.ap a ha).1, ?_⟩, fun n o a e1 e2 => ?_, R.hb, R.low⟩
  · obtain ⟨w, e⟩ := (R.ap a ha).2
    exact ⟨w, by rw [upd_ne (ne_of_none e hp)]; exact e⟩
  · exact (R.ob n o a e1 e2).mono (ext_new hp) fun w e => by rw [upd_ne (ne_of_none e hp)]; exact e
/-- a new object of the store -/
theorem ext_push (R : Rl W bs ρ hid h H) {p : Addr} {u : HO} (hp : H p = none) : Ext ρ hid H (ρ ++ [p]) (upd H p u) :=
  ⟨⟨[p], rfl⟩, fun a o e n => ⟨by rw [upd_ne (ne_of_none e hp)]; exact e, fun z => by
    rcases z with z | z
    · rcases List.mem_append.mp z with z | z
      · exact n (.inl z)
      · have : a = p := by simpa using z
        rw [this, hp] at e
        cases e
    · exact n (.inr z)⟩, fun a o v e => by rw [upd_ne (ne_of_none e hp)]; exact e, fun a _ o e => by rw [upd_ne (ne_of_none e hp)]; exact e⟩
theorem Rl.push (R : Rl W bs ρ hid h H) {p : Addr} {u : HO} (hp : H p = none) {ob : Ob} (q : ObR W (ρ ++ [p]) hid (upd H p u) p ob) : Rl W bs (ρ ++ [p]) hid (h ++ [ob]) (upd H p u) := by
  have x : Ext ρ hid H (ρ ++ [p]) (upd H p u) := ext_push R hp
  have np : p ∉ ρ := fun z => by
    obtain ⟨u, e⟩ := R.tracked z
    rw [hp] at e
    cases e
  refine ⟨by simp [R.len], ?_, fun a ha => ⟨fun z => ?_, ?_⟩, fun n o a e1 e2 => ?_, fun β hβ => ?_, fun β hβ n o hn e => ?_⟩
  · rw [List.nodup_append]
    refine ⟨R.nd, by simp, fun a ha b hb z => ?_⟩
    have : b = p := by simpa using hb
    rw [z, this] at ha
    exact np ha
  · rcases List.mem_append.mp z with z | z
    · exact (R.ap a ha).1 z
    · have : a = p := by simpa using z
      obtain ⟨w, e⟩ := (R.ap a ha).2
      rw [this, hp] at e
      cases e
  · obtain ⟨w, e⟩ := (R.ap a ha).2
    exact ⟨w, by rw [upd_ne (ne_of_none e hp)]; exact e⟩
  · by_cases hn : n < h.length
    · rw [List.getElem?_append_left hn] at e1
      rw [List.getElem?_append_left (by rw [R.len]; exact hn)] at e2
      exact (R.ob n o a e1 e2).mono x fun w e => by rw [upd_ne (ne_of_none e hp)]; exact e
    · have hn1 : n < (h ++ [ob]).length := (List.getElem?_eq_some_iff.mp e1).1
      have en : n = h.length := by
        rw [List.length_append] at hn1
        simp at hn1
        omega
      subst en
      have e3 : o = ob := by simpa using e1.symm
      have e4 : a = p := by
        rw [← R.len] at e2
        simpa using e2.symm
      rw [e3, e4]
      exact q
  · rw [List.length_append]
    exact Nat.le_add_right_of_le (R.hb β hβ)
  · have hn1 : n < h.length := Nat.lt_of_lt_of_le hn (R.hb β hβ)
    rw [List.getElem?_append_left hn1] at e
    exact R.low β hβ n o hn e
theorem ext_write {n : Nat} {a : Addr} {u : HO} (hn : ρ[n]? = some a) (hf : ∀ o v, H a ≠ some (.frz o v)) (hh : a ∉ hid) : Ext ρ hid H ρ (upd H a u) :=
  ⟨⟨[], by simp⟩, fun b o e q => by
    have nb : b ≠ a := fun z => q (.inl (by rw [z]; exact List.mem_of_getElem? hn))
    exact ⟨by rw [upd_ne nb]; exact e, q⟩, fun b o v e => by
    have nb : b ≠ a := fun z => hf o v (by rw [← z]; exact e)
    rw [upd_ne nb]
    exact e, fun b hb o e => by rw [upd_ne (show b ≠ a from fun z => hh (by rw [← z]; exact hb))]; exact e⟩
theorem mv_write {n : Nat} {a : Addr} {u : HO} (hn : ρ[n]? = some a) : Mv ρ hid H ρ hid (upd H a u) :=
  ⟨fun _ _ e => e, fun b o e q => by
    have nb : b ≠ a := fun z => q (.inl (by rw [z]; exact List.mem_of_getElem? hn))
    exact ⟨by rw [upd_ne nb]; exact e, q⟩⟩
theorem Rl.write (R : Rl W bs ρ hid h H) {n : Nat} {a : Addr} {u : HO} {ob : Ob} (hn : ρ[n]? = some a) (q : ObR W ρ hid (upd H a u) a ob) (hl : ∀ β ∈ bs, n < β → ob.bel β = true) :
    Rl W bs ρ hid (h.set n ob) (upd H a u) := by
  have x : Mv ρ hid H ρ hid (upd H a u) := mv_write hn
  have ha : a ∈ ρ := List.mem_of_getElem? hn
  refine ⟨by simp [R.len], R.nd, fun b hb => ⟨(R.ap b hb).1, ?_⟩, fun m o b e1 e2 => ?_, fun β hβ => by simpa using R.hb β hβ, fun β hβ m o hm e => ?_⟩
  · obtain ⟨w, e⟩ := (R.ap b hb).2
    exact ⟨w, by rw [upd_ne (show b ≠ a from fun z => (R.ap b hb).1 (by rw [z]; exact ha))]; exact e⟩
  · by_cases hmn : m = n
    · subst hmn
      have e3 : b = a := by rw [hn] at e2; exact (Option.some.inj e2).symm
      have hl : m < h.length := by
        have := (List.getElem?_eq_some_iff.mp e1).1
        simpa using this
      rw [List.getElem?_set_self hl] at e1
      cases e1
      rw [e3]
      exact q
    · rw [List.getElem?_set_ne (Ne.symm hmn)] at e1
      have nb : b ≠ a := fun z => by
        rw [z] at e2
        obtain ⟨l1, g1⟩ := List.getElem?_eq_some_iff.mp e2
        obtain ⟨l2, g2⟩ := List.getElem?_eq_some_iff.mp hn
        exact hmn ((List.getElem_inj R.nd).mp (g1.trans g2.symm))
      exact (R.ob m o b e1 e2).mv x fun w e => by rw [upd_ne nb]; exact e
  · by_cases hmn : m = n
    · subst hmn
      have hl2 : m < h.length := by
        have := (List.getElem?_eq_some_iff.mp e).1
        simpa using this
      rw [List.getElem?_set_self hl2] at e
      cases e
      exact hl β hβ hm
    · rw [List.getElem?_set_ne (Ne.symm hmn)] at e
      exact R.low β hβ m o hm e
theorem bels_iff {β : Nat} : ∀ {ds : List D}, D.bels β ds = true ↔ ∀ d ∈ ds, d.bel β = true
  | [] => by simp [D.bels]
  | d :: ds => by simp [D.bels, bels_iff (ds := ds)]
mutual
theorem bel_mono {α β : Nat} (hab : α ≤ β) : ∀ {d : D}, d.bel α = true → d.bel β = true
  | .non, h => rfl
  | .bl _, h => rfl
  | .int _, h => rfl
  | .str _, h => rfl
  | .fn _, h => rfl
  | .ref n, h => by
    have h1 : decide (n < α) = true := by simpa [D.bel] using h
    have h2 := of_decide_eq_true h1
    simp only [D.bel]
    exact decide_eq_true (by omega)
  | .tup ds, h => by simp only [D.bel] at h ⊢; exact bels_mono hab h
  | .lst ds, h => by simp only [D.bel] at h ⊢; exact bels_mono hab h
  | .lck ds, h => by simp only [D.bel] at h ⊢; exact bels_mono hab h
  | .dct ks ds, h => by simp only [D.bel] at h ⊢; exact bels_mono hab h
theorem bels_mono {α β : Nat} (hab : α ≤ β) : ∀ {ds : List D}, D.bels α ds = true → D.bels β ds = true
  | [], h => rfl
  | d :: ds, h => by
    simp only [D.bels, Bool.and_eq_true] at h ⊢
    exact ⟨bel_mono hab h.1, bels_mono hab h.2⟩
end
/-- a list just made, as a value or in the store -/
theorem mkL_ok (R : Rl W bs ρ hid h H) {p : Addr} (hp : H p = none) {ds : List D} {vs : List V} (r : RelDs W ρ hid H ds vs) (m : Bool) {d : D} {h' : Store} (e : mkL m ds h = (d, h')) :
    ∃ ρ', Ext ρ hid H ρ' (upd H p (.lst vs)) ∧ Rl W bs ρ' hid h' (upd H p (.lst vs)) ∧ RelD W ρ' hid (upd H p (.lst vs)) d (.ref p) := by
  cases m with
  | true =>
    cases e
    have x := ext_push (u := .lst vs) R hp
    refine ⟨ρ ++ [p], x, R.push hp ⟨vs, upd_same, r.mono x⟩, p, ?_, rfl⟩
    rw [← R.len]
    simp
  | false =>
    cases e
    have x : Ext ρ hid H ρ (upd H p (.lst vs)) := ext_new hp
    refine ⟨ρ, x, R.new hp, p, vs, rfl, upd_same, fun z => ?_, r.mono x⟩
    rcases z with z | z
    · obtain ⟨w, e⟩ := R.tracked z
      rw [hp] at e
      cases e
    · obtain ⟨w, e⟩ := (R.ap p z).2
      rw [hp] at e
      cases e
theorem fresh_own (R : Rl W bs ρ hid h H) {p : Addr} (hp : H p = none) : ¬ own ρ hid p := fun z => by
  rcases z with z | z
  · obtain ⟨w, e⟩ := R.tracked z
    rw [hp] at e
    cases e
  · obtain ⟨w, e⟩ := (R.ap p z).2
    rw [hp] at e
    cases e
theorem mkT_ok (R : Rl W bs ρ hid h H) {p : Addr} {o : Obj} (ho : o.dict = none) (hp : H p = none) {ds : List D} {vs : List V} (r : RelDs W ρ hid H ds vs) :
    Ext ρ hid H ρ (upd H p (.frz o (.tup vs))) ∧ Rl W bs ρ hid h (upd H p (.frz o (.tup vs))) ∧ RelD W ρ hid (upd H p (.frz o (.tup vs))) (.tup ds) (.ref p) := by
  have x : Ext ρ hid H ρ (upd H p (.frz o (.tup vs))) := ext_new hp
  exact ⟨x, R.new hp, p, vs, rfl, ⟨o, upd_same, ho, fresh_own R hp⟩, r.mono x⟩
end

section
variable {W : Wd} {bs : List Nat} {ρ ρ' hid : List Addr} {h : Store} {H H' : Hp} {p : Addr} {u : HO}
/-- a new object is hidden -/
theorem mv_hide (hp : H p = none) : Mv ρ hid H ρ (p :: hid) (upd H p u) :=
  ⟨fun _ _ e => e, fun a o e n => ⟨by rw [upd_ne (ne_of_none e hp)]; exact e, fun z => by
    rcases z with z | z
    · exact n (.inl z)
    · rcases List.mem_cons.mp z with z | z
      · rw [z, hp] at e
        cases e
      · exact n (.inr z)⟩⟩
theorem Rl.hide (R : Rl W bs ρ hid h H) (hp : H p = none) : Rl W bs ρ (p :: hid) h (upd H p u) := by
  refine ⟨R.len, R.nd, fun a ha => ?_, fun n o a e1 e2 => ?_, R.hb, R.low⟩
  · rcases List.mem_cons.mp ha with z | z
    · rw [z]
      refine ⟨fun y => ?_, u, upd_same⟩
      obtain ⟨w, e⟩ := R.tracked y
      rw [hp] at e
      cases e
    · obtain ⟨n, w, e⟩ := R.ap a z
      exact ⟨n, w, by rw [upd_ne (ne_of_none e hp)]; exact e⟩
  · exact (R.ob n o a e1 e2).mv (mv_hide hp) fun w e => by rw [upd_ne (ne_of_none e hp)]; exact e
/-- the hidden object changes -/
theorem mv_hid : Mv ρ (p :: hid) H ρ (p :: hid) (upd H p u) :=
  ⟨fun _ _ e => e, fun a o e n => ⟨by rw [upd_ne (fun z => n (.inr (by rw [z]; simp)))]; exact e, n⟩⟩
theorem Rl.rehid (R : Rl W bs ρ (p :: hid) h H) : Rl W bs ρ (p :: hid) h (upd H p u) := by
  have np : p ∉ ρ := (R.ap p (by simp)).1
  refine ⟨R.len, R.nd, fun a ha => ?_, fun n o a e1 e2 => ?_, R.hb, R.low⟩
  · by_cases z : a = p
    · rw [z]
      exact ⟨np, u, upd_same⟩
    · obtain ⟨n, w, e⟩ := R.ap a ha
      exact ⟨n, w, by rw [upd_ne z]; exact e⟩
  · have na : a ≠ p := fun z => np (by rw [← z]; exact List.mem_of_getElem? e2)
    exact (R.ob n o a e1 e2).mv mv_hid fun w e => by rw [upd_ne na]; exact e
/-- the hidden object is let go -/
theorem mv_show : Mv ρ (p :: hid) H ρ hid H := ⟨fun _ _ e => e, fun a o e n => ⟨e, fun z => n (z.elim .inl fun y => .inr (List.mem_cons_of_mem _ y))⟩⟩
theorem Rl.unhide (R : Rl W bs ρ (p :: hid) h H) : Rl W bs ρ hid h H :=
  ⟨R.len, R.nd, fun a ha => R.ap a (List.mem_cons_of_mem _ ha), fun n o a e1 e2 => (R.ob n o a e1 e2).mv mv_show fun w e => e, R.hb, R.low⟩
/-- .. or joins the store -/
theorem mv_join : Mv ρ (p :: hid) H (ρ ++ [p]) hid H :=
  ⟨fun n a e => by rw [List.getElem?_append_left (List.getElem?_eq_some_iff.mp e).1]; exact e, fun a o e n => ⟨e, fun z => n (by
    rcases z with z | z
    · rcases List.mem_append.mp z with z | z
      · exact .inl z
      · exact .inr (by rw [List.mem_singleton.mp z]; simp)
    · exact .inr (List.mem_cons_of_mem _ z))⟩⟩
theorem Rl.join (R : Rl W bs ρ (p :: hid) h H) (np : p ∉ hid) {ob : Ob} (q : ObR W (ρ ++ [p]) hid H p ob) : Rl W bs (ρ ++ [p]) hid (h ++ [ob]) H := by
  refine ⟨by simp [R.len], ?_, fun a ha => ⟨fun z => ?_, (R.ap a (List.mem_cons_of_mem _ ha)).2⟩, fun n o a e1 e2 => ?_, fun β hβ => ?_, fun β hβ n o hn e => ?_⟩
  · rw [List.nodup_append]
    refine ⟨R.nd, by simp, fun a ha b hb z => ?_⟩
    have : b = p := by simpa using hb
    rw [z, this] at ha
    exact (R.ap p (by simp)).1 ha
  · rcases List.mem_append.mp z with z | z
    · exact (R.ap a (List.mem_cons_of_mem _ ha)).1 z
    · rw [List.mem_singleton.mp z] at ha
      exact np ha
  · by_cases hn : n < h.length
    · rw [List.getElem?_append_left hn] at e1
      rw [List.getElem?_append_left (by rw [R.len]; exact hn)] at e2
      exact (R.ob n o a e1 e2).mv mv_join fun w e => e
    · have hn1 : n < (h ++ [ob]).length := (List.getElem?_eq_some_iff.mp e1).1
      have en : n = h.length := by
        rw [List.length_append] at hn1
        simp at hn1
        omega
      subst en
      have e3 : o = ob := by simpa using e1.symm
      have e4 : a = p := by
        rw [← R.len] at e2
        simpa using e2.symm
      rw [e3, e4]
      exact q
  · rw [List.length_append]
    exact Nat.le_add_right_of_le (R.hb β hβ)
  · have hn1 : n < h.length := Nat.lt_of_lt_of_le hn (R.hb β hβ)
    rw [List.getElem?_append_left hn1] at e
    exact R.low β hβ n o hn e
end
/-! ### where one stands -/
structure RelEnv (W : Wd) (lk : List Nat) (ρ hid : List Addr) (H : Hp) (env : Env) (σ : L2.St) : Prop where
  len : env.length = σ.length
  at_ : ∀ (i : Nat) (d : D), env[i]? = some (some d) → ∃ v, σ[i]? = some (some v) ∧ RelD W ρ hid H d v
  lk : ∀ i ∈ lk, ∀ ks ds, env[i]? = some (some (.dct ks ds)) → ∃ a o kvs, σ[i]? = some (some (.ref a)) ∧ H a = some (.frz o (.dK kvs)) ∧ ¬ own ρ hid a
theorem RelEnv.mv {W : Wd} {lk : List Nat} {ρ ρ' hid hid' : List Addr} {H H' : Hp} {env : Env} {σ : L2.St} (r : RelEnv W lk ρ hid H env σ) (x : Mv ρ hid H ρ' hid' H') : RelEnv W lk ρ' hid' H' env σ := by
  refine ⟨r.len, fun i d e => ?_, fun i hi ks ds e => ?_⟩
  · obtain ⟨v, e1, q⟩ := r.at_ i d e
    exact ⟨v, e1, q.mv x⟩
  · obtain ⟨a, o, kvs, e1, e2, n⟩ := r.lk i hi ks ds e
    obtain ⟨e3, n3⟩ := x.keep a _ e2 n
    exact ⟨a, o, kvs, e1, e3, n3⟩
theorem RelEnv.mono {W : Wd} {lk : List Nat} {ρ ρ' hid : List Addr} {H H' : Hp} {env : Env} {σ : L2.St} (r : RelEnv W lk ρ hid H env σ) (x : Ext ρ hid H ρ' H') : RelEnv W lk ρ' hid H' env σ := by
  refine ⟨r.len, fun i d e => ?_, fun i hi ks ds e => ?_⟩
  · obtain ⟨v, e1, q⟩ := r.at_ i d e
    exact ⟨v, e1, q.mono x⟩
  · obtain ⟨a, o, kvs, e1, e2, n⟩ := r.lk i hi ks ds e
    obtain ⟨e3, n3⟩ := x.keep a _ e2 n
    exact ⟨a, o, kvs, e1, e3, n3⟩
structure Sit (W : Wd) (c : Cfg) (σ : L2.St) (H : Hp) where
  bs : List Nat
  ρ : List Addr
  hid : List Addr
  h : Store
  env : Env
  R : Rl W bs ρ hid h H
  hb : ∀ β ∈ bs, β ≤ c.b
  re : RelEnv W c.lk ρ hid H env σ
section
variable {W : Wd} {c : Cfg} {σ : L2.St} {H H' : Hp}
def Sit.go (s : Sit W c σ H) {ρ' : List Addr} {h' : Store} (x : Ext s.ρ s.hid H ρ' H') (R : Rl W s.bs ρ' s.hid h' H') : Sit W c σ H' := ⟨s.bs, ρ', s.hid, h', s.env, R, s.hb, s.re.mono x⟩
/-- what is wanted behind -/
def Sit.To (s : Sit W c σ H) (h' : Store) (d : D) (Q : VK) : Prop := ∀ ρ' v H', Ext s.ρ s.hid H ρ' H' → Rl W s.bs ρ' s.hid h' H' → RelD W ρ' s.hid H' d v → Q v H'
def Sit.Ts (s : Sit W c σ H) (h' : Store) (ds : List D) (Q : List V → Hp → Prop) : Prop := ∀ ρ' vs H', Ext s.ρ s.hid H ρ' H' → Rl W s.bs ρ' s.hid h' H' → RelDs W ρ' s.hid H' ds vs → Q vs H'
def Sit.Tb (s : Sit W c σ H) (h' : Store) (Q : Hp → Prop) : Prop := ∀ ρ' H', Ext s.ρ s.hid H ρ' H' → Rl W s.bs ρ' s.hid h' H' → Q H'
theorem Sit.To.go {s : Sit W c σ H} {h' h2 : Store} {d : D} {Q : VK} (t : s.To h2 d Q) {ρ' : List Addr} (x : Ext s.ρ s.hid H ρ' H') (R : Rl W s.bs ρ' s.hid h' H') : (s.go x R).To h2 d Q :=
  fun ρ2 v H2 x2 R2 r => t ρ2 v H2 (x.trans x2) R2 r
theorem Sit.Ts.go {s : Sit W c σ H} {h' h2 : Store} {d : List D} {Q : List V → Hp → Prop} (t : s.Ts h2 d Q) {ρ' : List Addr} (x : Ext s.ρ s.hid H ρ' H') (R : Rl W s.bs ρ' s.hid h' H') : (s.go x R).Ts h2 d Q :=
  fun ρ2 v H2 x2 R2 r => t ρ2 v H2 (x.trans x2) R2 r
theorem Sit.Tb.go {s : Sit W c σ H} {h' h2 : Store} {Q : Hp → Prop} (t : s.Tb h2 Q) {ρ' : List Addr} (x : Ext s.ρ s.hid H ρ' H') (R : Rl W s.bs ρ' s.hid h' H') : (s.go x R).Tb h2 Q :=
  fun ρ2 H2 x2 R2 => t ρ2 H2 (x.trans x2) R2
end
def tI (W : Wd) (c : Cfg) (e : E) : TE := fun σ H Q => ∃ (s : Sit W c σ H) (d : D) (h' : Store), evE c e s.env s.h = some (d, h') ∧ s.To h' d Q
def tIs (W : Wd) (c : Cfg) (es : Es) : TA := fun σ H Q => ∃ (s : Sit W c σ H) (ds : List D) (h' : Store), evEs c es s.env s.h = some (ds, h') ∧ s.Ts h' ds Q
def tIb (W : Wd) (c : Cfg) (e : E) : TT := fun σ H Q => ∃ (s : Sit W c σ H) (k : Bool) (h' : Store), evE c e s.env s.h = some (.bl k, h') ∧ s.Tb h' (Q k)
theorem _root_.L2.PE.imp {X : Cx} {e : Expr} {t t' : TE} (p : PE X e t) (h : ∀ σ H Q, t' σ H Q → t σ H Q) : PE X e t' := ⟨fun pins s σ H Q I q => p.run pins s σ H Q I (h σ H Q q)⟩
theorem _root_.L2.PT.imp {X : Cx} {e : Expr} {t t' : TT} (p : PT X e t) (h : ∀ σ H Q, t' σ H Q → t σ H Q) : PT X e t' := ⟨fun pins s σ H Q I q => p.run pins s σ H Q I (h σ H Q q)⟩
theorem _root_.L2.PW.imp {X : Cx} {e : Expr} {t t' : TT} (p : PW X e t) (h : ∀ σ H Q, t' σ H Q → t σ H Q) : PW X e t' := ⟨fun wh pins s σ H Q I q => p.run wh pins s σ H Q I (h σ H Q q)⟩
theorem _root_.L2.PA.imp {X : Cx} {e : List Expr} {t t' : TA} (p : PA X e t) (h : ∀ σ H Q, t' σ H Q → t σ H Q) : PA X e t' := ⟨fun pos pins s σ H Q I q => p.run pos pins s σ H Q I (h σ H Q q)⟩
theorem _root_.L2.PS.imp {X : Cx} {e : Stmt} {t t' : TS} (p : PS X e t) (h : ∀ D σ H, t' D σ H → t D σ H) : PS X e t' := ⟨fun pins s σ H D I q => p.run pins s σ H D I (h D σ H q)⟩
theorem _root_.L2.PSs.imp {X : Cx} {e : List Stmt} {t t' : TS} (p : PSs X e t) (h : ∀ D σ H, t' D σ H → t D σ H) : PSs X e t' := ⟨fun pins s σ H D I q => p.run pins s σ H D I (h D σ H q)⟩
end Sw

set_option maxRecDepth 100000
set_option maxHeartbeats 4000000
/-! SwF: rules that make tuples, told so that the new object's record is known (no dict of its own). -/
namespace Sw
open PySem PySem.Spec PyProof.Rows L2
section
variable {X : Cx} {e : Expr} {es : List Expr} {te : TE} {t : TA} {pos : Pos}
theorem firm_new {pins : List (Addr × Obj)} {σ : L2.St} {H : Hp} {s : Shared} (I : Inv X pins σ H s) {vs : List V} {us : List Value} (rel : Vals vs us) (hz : vs.length ≤ sizeLine) {Q : VK} {tk : Nat}
    (q : ∀ p o, o.dict = none → H p = none → Q (.ref p) (upd H p (.frz o (.tup vs)))) :
    EP X pins σ Q (.ref s.heap.objs.size) { s with heap := s.heap.push { cls := .type "tuple", data := .seq us.toArray }, toks := tk } :=
  ⟨.ref s.heap.objs.size, _, I.laid (t' := tk) (o := .frz { cls := .type "tuple", data := .seq us.toArray } (.tup vs)) (fun _ _ h => Heap.get?_push_of_some _ h) (Nat.le_refl _)
    ⟨Heap.get?_push_size _ rfl, hz, us, rel, ⟨_, Heap.get?_push_size _ rfl, rfl, _, rfl⟩⟩, rfl, q _ _ rfl (I.hok.fresh (Nat.le_refl _))⟩
/-- a display -/
def tTupF (t : TA) : TE := fun σ H Q => t σ H fun vs H1 => vs.length ≤ sizeLine ∧ ∀ p o, o.dict = none → H1 p = none → Q (.ref p) (upd H1 p (.frz o (.tup vs)))
theorem pe_tupF {k} (ht : PA X es t) : PE X (.Tuple es k pos) (tTupF t) := by
  refine ⟨fun pins s0 σ H Q I hh => ?_⟩
  refine wpAny_Tuple_spliced (thn (ht.run pos pins s0 σ H _ I hh) fun us s1 ⟨vs, H1, I1, rel, hz, q⟩ => ⟨by rw [← rel.length]; exact hz, ?_⟩)
  exact firm_new (tk := s1.toks) I1 rel hz q
/-- tuple(..) of a list or a tuple -/
theorem call_tupleF : CallR X (.type "tuple") (fun vs H Q => ∃ a ws, vs = [.ref a] ∧ ((SqL X.K H a ws ∧ ∀ p o, o.dict = none → H p = none → Q (.ref p) (upd H p (.frz o (.tup ws)))) ∨ (SqT X.K H a ws ∧ Q (.ref a) H))) := by
  intro pins s0 σ H vs us Q I rel hh
  obtain ⟨a, ws, rfl, hh⟩ := hh
  obtain ⟨u, rfl, ra⟩ := vals1 rel
  cases ra
  rcases hh with ⟨hl, q⟩ | ⟨hl, q⟩
  · obtain ⟨its, rw', pl, hz⟩ := I.list hl
    have hn := rw'.length
    refine call_tuple_list pl.isList (fun h2 kp => ?_) (by simp only [List.size_toArray] <;> omega)
    exact firm_new (s := { s0 with heap := h2 }) (tk := s0.toks) (I.kept (t' := s0.toks) kp) rw' hz q
  · obtain ⟨its, rw', pl, hz⟩ := I.tuple hl
    exact call_tuple_same pl ⟨.ref a, H, I, rfl, q⟩
/-- tuple(range(..)) -/
def tTupRgF (te : L2.St → Hp → (Int → Int → Hp → Prop) → Prop) : TE := fun σ H Q => te σ H fun i j H1 => RgOk i j ∧ ∀ p o, o.dict = none → H1 p = none → Q (.ref p) (upd H1 p (.frz o (.tup (rgV i j))))
theorem pe_tupRgF {p : Pos} {tr : L2.St → Hp → (Int → Int → Hp → Prop) → Prop} (hc : X.calm = true) (hg : Gl X "tuple") (hm : X.mg "tuple" = none) (he : PRg X e tr) (na : starEach [e] X.env = (false, eval e X.env) :: starEach [] X.env := by rfl) :
    PE X (.Call (.Name "tuple" p) [e] [] pos) (tTupRgF tr) := by
  refine ⟨fun pins s0 σ H Q I hh => ?_⟩
  refine Call_ (ld_blt I hg hm boot_tuple (PyProof.Rows.callWith_type1 (args_cons (thn (he pins s0 σ H _ I hh) fun x s1 ⟨r, i, j, t1, t2, t3, H1, ex, hr, I1, ok, q⟩ => args_nil ?_) na) na))
  subst ex
  obtain ⟨o1, o2, o3, o4, o5⟩ := ok
  refine call_tuple_range (n := (j - i).toNat) (I1.ok.hd hc) hr (small_one o1 o2 o3 o4) (rangeSize_nat i j) o5 fun h2 tk acc kp hi => ?_
  have rel := vals_rg hi
  have hz : (rgV i j).length ≤ sizeLine := by
    rw [rgV_length, sizeLine_eq]
    omega
  have := firm_new (s := { s1 with heap := h2, toks := tk }) (tk := tk) (I1.kept kp) rel hz q
  rw [Array.toArray_toList] at this
  exact this
/-- a slice -/
def rSlF (K : PySem.W.Frag) : V → Option Int → Option Int → Hp → VK → Prop := fun v lo hi H Q => ∃ a ws, v = .ref a ∧ SqT K H a ws ∧
  (HT.sIx ws.length 0 lo = 0 ∧ HT.sIx ws.length ws.length hi = ws.length → Q (.ref a) H) ∧ (¬ (HT.sIx ws.length 0 lo = 0 ∧ HT.sIx ws.length ws.length hi = ws.length) → ∀ p o, o.dict = none → H p = none → Q (.ref p) (upd H p (.frz o (.tup (cutV ws lo hi)))))
theorem sl_tupF : SlR X (rSlF X.K) := by
  intro pins s0 σ H v u ul uu lo hi sl Q I rv hs pl pu hh
  obtain ⟨a, ws, rfl, ha, q1, q2⟩ := hh
  cases rv
  obtain ⟨its, rel, ht, hz⟩ := I.tuple ha
  have hn : its.toArray.size = ws.length := by rw [List.size_toArray]; exact rel.length.symm
  refine ⟨"tuple", _, PyProof.Rows.slot_tuple_getitem.lookup, ht.typeIs, ?_⟩
  by_cases hw : HT.sIx ws.length 0 lo = 0 ∧ HT.sIx ws.length ws.length hi = ws.length
  · exact getItem_tuple_whole ht hs pl pu (by rw [hn]; exact hw) ⟨.ref a, H, I, rfl, q1 hw⟩
  · refine HT.getItem_tuple_cut ht hs pl pu (by rw [hn]; exact hw) ?_ (by rw [hn]; exact hz)
    rw [hn]
    have := firm_new (tk := s0.toks) I ((rel.drop (HT.sIx ws.length 0 lo)).take (HT.sIx ws.length ws.length hi - HT.sIx ws.length 0 lo)) (Nat.le_trans (cutV_length ws lo hi) hz) (q2 hw)
    simpa using this
/-- t + u -/
def rCatF (K : PySem.W.Frag) : R2 := fun v w H Q => ∃ a b vs ws, v = .ref a ∧ w = .ref b ∧ SqT K H a vs ∧ SqT K H b ws ∧ vs.length + ws.length ≤ sizeLine ∧
  (vs = [] → Q (.ref b) H) ∧ (vs ≠ [] → ws = [] → Q (.ref a) H) ∧ (vs ≠ [] → ws ≠ [] → ∀ p o, o.dict = none → H p = none → Q (.ref p) (upd H p (.frz o (.tup (vs ++ ws)))))
theorem op_catF : OpR X (binaryOp .Add) (rCatF X.K) := by
  intro pins s0 σ H v w u1 u2 Q I rv rw' hh
  obtain ⟨a, b, vs, ws, rfl, rfl, ha, hb, hz, q0, q1, q2⟩ := hh
  cases rv
  cases rw'
  obtain ⟨is1, rel1, p1, _⟩ := I.tuple ha
  obtain ⟨is2, rel2, p2, _⟩ := I.tuple hb
  by_cases hv : vs = []
  · subst hv
    cases rel1
    exact cat_tup0 p1 p2 ⟨.ref b, H, I, rfl, q0 rfl⟩
  · refine HT.cat_tup p1 p2 (fun z => hv (rel1.nil_iff.mp z)) (fun z => ⟨.ref a, H, I, rfl, q1 hv (rel2.nil_iff.mp z)⟩) (fun z => ?_) (by rw [← rel1.length, ← rel2.length]; exact hz)
    have := firm_new (tk := s0.toks) I (rel1.append rel2) (by rw [List.length_append]; exact hz) (q2 hv fun y => z (rel2.nil_iff.mpr y))
    simpa using this
/-- t * k, k at least 2 -/
def rRepF (K : PySem.W.Frag) : R2 := fun v w H Q => ∃ a k vs, v = .ref a ∧ w = .int k ∧ SqT K H a vs ∧ vs ≠ [] ∧ 2 ≤ k ∧ k ≤ 1000 ∧ vs.length ≤ 1000 ∧ ∀ p o, o.dict = none → H p = none → Q (.ref p) (upd H p (.frz o (.tup (List.replicate k.toNat vs).flatten)))
theorem op_repF : OpR X (binaryOp .Mult) (rRepF X.K) := by
  intro pins s0 σ H v w u1 u2 Q I rv rw' hh
  obtain ⟨a, k, vs, rfl, rfl, hT, hne, k1, k2, hz, q⟩ := hh
  cases rv
  obtain ⟨t, rfl⟩ := rw'
  obtain ⟨us, rel, ⟨⟨oc, od, ob, os⟩, ho, hc, m, hd⟩, hs⟩ := I.tuple hT
  simp only at hc hd
  subst hc hd
  have hn : us.length = vs.length := rel.length.symm
  have hpos : vs.length ≠ 0 := fun z => hne (List.eq_nil_of_length_eq_zero z)
  have hemp : us.toArray.isEmpty = false := by
    cases us with
    | nil => exact absurd hn.symm hpos
    | cons _ _ => rfl
  have hsz : us.toArray.size = vs.length := by rw [List.size_toArray, hn]
  have hmul : ((us.toArray.size : Nat) : Int) * k ≤ 1000000 := by
    have h1 : ((vs.length : Nat) : Int) * k ≤ 1000 * k := Int.mul_le_mul_of_nonneg_right (by omega) (by omega)
    rw [hsz]
    omega
  have hnat : k.toNat * vs.length ≤ 1000 * 1000 := Nat.mul_le_mul (by omega) hz
  have hfl : (List.replicate k.toNat us).flatten.length ≤ sizeLine := by
    rw [PyProof.Rows.lm_len_rep_flat, hn, sizeLine_eq]
    omega
  have hfv : (List.replicate k.toNat vs).flatten.length ≤ sizeLine := by
    rw [PyProof.Rows.lm_len_rep_flat, sizeLine_eq]
    omega
  have g0 : (decide (k < -(2 ^ 63)) || decide (k ≥ 2 ^ 63)) = false := by
    rw [Bool.or_eq_false_iff]
    exact ⟨decide_eq_false (by omega), decide_eq_false (by omega)⟩
  have g1 : (us.toArray.isEmpty || k == 1) = false := by
    rw [hemp]
    show (k == 1) = false
    exact beq_eq_false_iff_ne.mpr (by omega)
  have g2 : (decide (k ≤ 0) || us.toArray.isEmpty) = false := by
    rw [hemp, Bool.or_false]
    exact decide_eq_false (by omega)
  have g4 : Builtin.Tuple.tupleTooMany (((us.toArray.size : Nat) : Int) * k) = false := by
    unfold Builtin.Tuple.tupleTooMany
    exact decide_eq_false (by rw [sizeLine_eq]; omega)
  have mul := tuple_mulW a us.toArray m od os k t g0 g1 g2 (by omega) g4 (by rw [size_rep, List.size_toArray]; exact hfl)
  have step : wpAny (model X.prog X.w) X.A (call (.builtin "tuple.__mul__") [.ref a, .int k t]) (EP X pins σ Q) X.xe s0 := by
    refine call_meets F.slot_tuple_mul ⟨_, ho, rfl⟩ F.entry_tuple_mul (F.args_tuple_mul_2 _ _) mul ⟨ho, ?_⟩
    rw [size_rep]
    exact firm_new (tk := s0.toks) I (rel.rep k.toNat) hfv q
  refine wpAny_binaryOp_repeat_ref (T := "tuple") (U := "int") (by decide) ⟨_, ho, rfl⟩ (fun s' => typeIs_int s' k t) noFill_tuple_mul F.fills_int_mul F.slot_int_rmul repeat_tuple F.slot_int_index.lookup ?_
  exact call_meets F.slot_int_rmul (typeIs_int s0 k t) F.entry_int_rmul (F.args_int_rmul_2 _ _) (int_rmul_tuple k t a us.toArray m od os) ⟨ho, rfl, ⟨_, ho, rfl⟩, step⟩
/-! ### t.index(x) of data -/
/-- the first place of an equal one -/
def rTIx (K : PySem.W.Frag) : V → List V → Hp → VK → Prop := fun v vs H Q => ∃ (a : Addr) (w : V) (d : PyData) (es : List PyData) (j : Nat) (z : PyData), v = V.ref a ∧ vs = [w] ∧ Dp K H (V.ref a) (.tuple es) ∧ Dp K H w d ∧
  SeqAt.shaped (.tuple es) = true ∧ SeqAt.shaped d = true ∧ es[j]? = some z ∧ PyData.eqv z d = true ∧ (∀ (m : Nat) (y : PyData), m < j → es[m]? = some y → PyData.eqv y d = false) ∧ Q (.int (j : Nat)) H
theorem mt_tix (hu : X.A.units + 65 < cLine) : MtR X "tuple.index" (rTIx X.K) := by
  intro pins s0 σ H v vs u us Q I rv rvs hh
  obtain ⟨a, w, d, es, j, z, rfl, rfl, hT, hw, sT, sd, hj0, hj1, hj2, q⟩ := hh
  cases rv
  obtain ⟨uw, rfl, rw'⟩ := Vals.one rvs
  obtain ⟨ads, rd⟩ := Dp.reads I d w uw hw rw'
  have lay : PyData.canLayAll0 es = true := SeqAt.canLay_of_shaped sT
  have room : X.A.units + 1 + min (PyData.depthAll es) d.depth < cLine := room_in_shaped sd hu
  cases hT with
  | tup hs hall =>
    obtain ⟨its, rel, ⟨⟨oc, od, ob, os⟩, ho, hc, n, hd⟩, hlen⟩ := I.tuple hs
    simp only at hc hd
    subst hc hd
    obtain ⟨as', h4⟩ := Dp.readsAll I es _ its hall rel
    have hn : its.length = es.length := SeqAt.ReadsAll.length es its as' h4
    have hm : its.map (SeqAt.readOf s0.heap) = es := SeqAt.readsAll_map es its as' lay h4
    have hjl : j < its.toArray.size := by
      have := (List.getElem?_eq_some_iff.mp hj0).1
      rw [List.size_toArray]
      omega
    have val : ∀ (m : Nat) (hm1 : m < its.toArray.size) (y : PyData), es[m]? = some y → SeqAt.readOf s0.heap its.toArray[m] = y := by
      intro m hm1 y hy
      have hml : m < its.length := by simpa using hm1
      rw [← hm, List.getElem?_map, List.getElem?_eq_getElem hml] at hy
      simpa using hy
    refine call_meets PySem.F.slot_tuple_index ⟨_, ho, rfl⟩ PySem.F.entry_tuple_index (PySem.F.args_tuple_index_2 _ _)
      (TI.tuple_indexAt a its.toArray n od os uw (fun y => PyData.eqv (SeqAt.readOf s0.heap y) d) j hjl ?_ ?_) ⟨ho, ?_, ?_⟩
    · show PyData.eqv (SeqAt.readOf s0.heap its.toArray[j]) d = true
      rw [val j hjl z hj0]
      exact hj1
    · intro m hm1 hmj
      have hme : m < es.length := by
        rw [List.size_toArray] at hm1
        omega
      have hy : es[m]? = some es[m] := List.getElem?_eq_getElem hme
      show PyData.eqv (SeqAt.readOf s0.heap its.toArray[m]) d = false
      rw [val m hm1 _ hy]
      exact hj2 m _ hmj hy
    · exact SeqAt.items_eqAt (vs := its.toArray) (show ReadsAll s0.heap its.toArray.toList es as' from h4) rd lay (SeqAt.canLay_of_shaped sd) room
    · exact ⟨.int (j : Nat), H, I.tok _, ⟨_, rfl⟩, q⟩
/-- a method of a tuple of known record -/
def tBMF (r : V → List V → Hp → VK → Prop) (to : TE) (t : TA) : TE := fun σ H Q => to σ H fun v H1 => (∃ a o vs, v = .ref a ∧ H1 a = some (.frz o (.tup vs)) ∧ o.dict = none) ∧ t σ H1 fun ws H2 => r v ws H2 Q
theorem pe_bmF {ob e0 : Expr} {r0 : List Expr} {to : TE} {ta : TA} {name : Str} {apos cpos : Pos} {id : String} {r : V → List V → Hp → VK → Prop} (slot : Slot "tuple" name id) (hty : typeOf (.builtin id) = pure (.type "method_descriptor")) (hm : MtR X id r) (ho : PE X ob to) (ha : PA X (e0 :: r0) ta)
    (hbase : attributeBase ob name X.env (eval ob X.env) = eval ob X.env)
    (hfew : ((backTo cpos (starEach (e0 :: r0) X.env)).all (fun x => !x.1) && (backToKw cpos (keywordEach [] X.env)).all (fun x => x.1.isSome)
      && decide ((e0 :: r0).length + ([] : List Keyword).length + (if ([] : List Keyword).isEmpty then 0 else 1) < 30)) = true)
    (hline : (apos.endLine == cpos.line) = true) (hs : starEach (e0 :: r0) X.env = (false, eval e0 X.env) :: starEach r0 X.env) (hplain : (backTo cpos (starEach r0 X.env)).any (·.1) = false) :
    PE X (.Call (.Attribute ob name apos) (e0 :: r0) [] cpos) (tBMF r to ta) := by
  refine ⟨fun pins s0 σ H Q I hh => ?_⟩
  refine wpAny_Call_method_late hbase hfew hline rfl (thn (ho.run pins s0 σ H _ I hh) fun u s1 ⟨v, H1, I1, rv, ⟨a, o, vs, ev, ea, od⟩, q1⟩ => ?_)
  subst ev
  cases rv
  obtain ⟨hg, hz, its, rel, p⟩ := I1.hok a _ ea
  have ty : s1.TypeIs (.ref a) "tuple" := by
    obtain ⟨o2, h2, hc, n, hd⟩ := p
    exact ⟨o2, h2, hc⟩
  refine ⟨"tuple", id, F.plainAttrs_tuple, slot, hty, ty, fun b eb => ?_, ?_⟩
  · cases eb
    exact ⟨o, hg, od⟩
  · have hA := ha.run cpos pins s1 σ H1 _ I1 q1
    rw [hs] at hA ⊢
    refine Calls.callWith_builtin (by show (false || (backTo cpos (starEach r0 X.env)).any (·.1)) = false; rw [hplain] <;> rfl) (Calls.evalArgs_plain ?_)
    exact thn hA fun us s2 ⟨ws, H2, I2, rel2, q2⟩ => hm pins s2 σ H2 (V.ref a) ws _ us Q I2 rfl rel2 q2
end
end Sw

set_option maxRecDepth 100000
set_option maxHeartbeats 1000000
/-! Sw2: the operators and built-ins by values. -/
namespace Sw
open PySem PySem.Spec L2
section
variable {X : Cx} {W : Wd} {c : Cfg} {σ : L2.St} {H : Hp}
theorem sq_t {K : PySem.W.Frag} {a : Addr} {vs : List V} {ρ hid : List Addr} (hK : W.K = K) (h : RdT W.K ρ hid H a vs) : SqT K H a vs := by rw [← hK]; exact h.sq
theorem sq_l {K : PySem.W.Frag} {a : Addr} {vs : List V} {ρ hid : List Addr} (hK : W.K = K) (h : RdL W.K ρ hid H a vs) : SqL K H a vs := by rw [← hK]; exact h.sq
section
variable {bs : List Nat} {ρ hid : List Addr} {h : Store}
/-- a plain list (a value's or the store's) -/
theorem getL_ok (R : Rl W bs ρ hid h H) {d : D} {ds : List D} {v : V} (e : getL h d = some ds) (r : RelD W ρ hid H d v) : ∃ a vs, v = .ref a ∧ H a = some (.lst vs) ∧ RelDs W ρ hid H ds vs := by
  cases d with
  | lst xs =>
    cases e
    obtain ⟨a, vs, ev, e1, n, q⟩ := r
    exact ⟨a, vs, ev, e1, q⟩
  | ref n =>
    obtain ⟨a, ha, rfl⟩ := r
    unfold getL at e
    simp only at e
    split at e
    · rename_i xs hn
      cases e
      obtain ⟨vs, e1, q⟩ := R.ob n _ a hn ha
      exact ⟨a, vs, rfl, e1, q⟩
    · cases e
  | _ => cases e
theorem getR_ok {K : PySem.W.Frag} (hK : W.K = K) (R : Rl W bs ρ hid h H) {d : D} {ds : List D} {v : V} (e : getR h d = some ds) (r : RelD W ρ hid H d v) : ∃ a vs, v = .ref a ∧ SqL K H a vs ∧ RelDs W ρ hid H ds vs := by
  cases d with
  | lck xs =>
    cases e
    obtain ⟨a, vs, ev, e1, q⟩ := r
    exact ⟨a, vs, ev, sq_l hK e1, q⟩
  | lst xs =>
    obtain ⟨a, vs, ev, e1, q⟩ := getL_ok R (d := .lst xs) e r
    exact ⟨a, vs, ev, SqL.of e1, q⟩
  | ref n =>
    obtain ⟨a, vs, ev, e1, q⟩ := getL_ok R (d := .ref n) e r
    exact ⟨a, vs, ev, SqL.of e1, q⟩
  | _ => cases e
theorem getS_ok {K : PySem.W.Frag} (hK : W.K = K) (R : Rl W bs ρ hid h H) {d : D} {ds : List D} {v : V} (e : getS h d = some ds) (r : RelD W ρ hid H d v) : ∃ a vs, v = .ref a ∧ (SqL K H a vs ∨ SqT K H a vs) ∧ RelDs W ρ hid H ds vs := by
  cases d with
  | tup xs =>
    cases e
    obtain ⟨a, vs, ev, e1, q⟩ := r
    exact ⟨a, vs, ev, .inr (sq_t hK e1), q⟩
  | lck xs =>
    obtain ⟨a, vs, ev, e1, q⟩ := getR_ok hK R (d := .lck xs) e r
    exact ⟨a, vs, ev, .inl e1, q⟩
  | lst xs =>
    obtain ⟨a, vs, ev, e1, q⟩ := getR_ok hK R (d := .lst xs) e r
    exact ⟨a, vs, ev, .inl e1, q⟩
  | ref n =>
    obtain ⟨a, vs, ev, e1, q⟩ := getR_ok hK R (d := .ref n) e r
    exact ⟨a, vs, ev, .inl e1, q⟩
  | _ => cases e
mutual
theorem toPy_ok {K : PySem.W.Frag} (hK : W.K = K) (R : Rl W bs ρ hid h H) : ∀ (k : Nat) (d : D) (p : PyData) (v : V), toPy h k d = some p → RelD W ρ hid H d v → Dp K H v p
  | 0, _, _, _, e, _ => by cases e
  | k + 1, d, p, v, e, r => by
    cases d with
    | non => cases e; cases r; exact .non
    | bl b => cases e; cases r; exact .bl b
    | int b => cases e; cases r; exact .int b
    | str b => cases e; cases r; exact .str b
    | tup ds =>
      obtain ⟨a, vs, rfl, e1, q⟩ := r
      obtain ⟨es, e2, rfl⟩ := Option.map_eq_some_iff.mp (show (ds.mapM (toPy h k)).map PyData.tuple = some p from e)
      exact .tup (sq_t hK e1) (toPys_ok hK R k ds es vs e2 q)
    | lst ds =>
      obtain ⟨a, vs, rfl, e1, n, q⟩ := r
      obtain ⟨es, e2, rfl⟩ := Option.map_eq_some_iff.mp (show (ds.mapM (toPy h k)).map PyData.list = some p from e)
      exact .lst (SqL.of e1) (toPys_ok hK R k ds es vs e2 q)
    | lck ds =>
      obtain ⟨a, vs, rfl, e1, q⟩ := r
      obtain ⟨es, e2, rfl⟩ := Option.map_eq_some_iff.mp (show (ds.mapM (toPy h k)).map PyData.list = some p from e)
      exact .lst (sq_l hK e1) (toPys_ok hK R k ds es vs e2 q)
    | ref n =>
      obtain ⟨a, ha, rfl⟩ := r
      unfold toPy at e
      simp only at e
      split at e
      · rename_i ds hn
        obtain ⟨vs, e1, q⟩ := R.ob n _ a hn ha
        obtain ⟨es, e2, rfl⟩ := Option.map_eq_some_iff.mp e
        exact .lst (SqL.of e1) (toPys_ok hK R k ds es vs e2 q)
      · cases e
    | dct ks ds => cases e
    | fn f => cases e
termination_by k _ => (k, 0)
theorem toPys_ok {K : PySem.W.Frag} (hK : W.K = K) (R : Rl W bs ρ hid h H) : ∀ (k : Nat) (ds : List D) (ps : List PyData) (vs : List V), ds.mapM (toPy h k) = some ps → RelDs W ρ hid H ds vs → DpAll K H vs ps
  | k, [], ps, vs, e, r => by
    cases (show vs = [] from r)
    cases (show some ([] : List PyData) = some ps by simpa using e)
    exact .nil
  | k, d :: ds, ps, vs, e, r => by
    obtain ⟨v, ws, rfl, q1, q2⟩ := r
    rw [List.mapM_cons] at e
    cases e1 : toPy h k d with
    | none => rw [e1] at e; cases e
    | some p =>
      rw [e1] at e
      cases e2 : ds.mapM (toPy h k) with
      | none =>
        rw [e2] at e
        cases e
      | some qs =>
        rw [e2] at e
        cases (show some (p :: qs) = some ps from e)
        exact .cons (toPy_ok hK R k d p v e1 q1) (toPys_ok hK R k ds qs ws e2 q2)
termination_by k ds => (k, ds.length + 1)
end
theorem pyOf_ok {K : PySem.W.Frag} (hK : W.K = K) (R : Rl W bs ρ hid h H) {d : D} {p : PyData} {v : V} (e : pyOf h d = some p) (r : RelD W ρ hid H d v) : Dp K H v p ∧ SeqAt.shaped p = true := by
  unfold pyOf at e
  split at e
  · rename_i q e1
    split at e
    · cases e
      rename_i hs
      exact ⟨toPy_ok hK R _ _ _ _ e1 r, hs⟩
    · cases e
  · cases e
/-- a dict -/
theorem getK_ok (R : Rl W bs ρ hid h H) {d : D} {kvs : List (L2.Key × D)} {v : V} (e : getK h d = some kvs) (r : RelD W ρ hid H d v) :
    ∃ a kws, v = .ref a ∧ Rd H a (.dK kws) ∧ kws.map (·.1) = kvs.map (·.1) ∧ RelDs W ρ hid H (kvs.map (·.2)) (kws.map (·.2)) := by
  cases d with
  | dct ks ds =>
    obtain ⟨a, kws, rfl, e1, n, hk, q⟩ := r
    unfold getK at e
    simp only at e
    split at e
    · rename_i hl
      cases e
      refine ⟨a, kws, rfl, e1, ?_, ?_⟩
      · rw [hk, List.map_fst_zip (by omega)]
      · rw [List.map_snd_zip (by omega)]
        exact q
    · cases e
  | ref n =>
    obtain ⟨a, ha, rfl⟩ := r
    unfold getK at e
    simp only at e
    split at e
    · rename_i xs hn
      cases e
      obtain ⟨vs, e1, hk, q⟩ := R.ob n _ a hn ha
      exact ⟨a, vs, rfl, .inl e1, hk, q⟩
    · rename_i xs hn
      cases e
      obtain ⟨o, vs, e1, hk, q⟩ := R.ob n _ a hn ha
      exact ⟨a, vs, rfl, .inr ⟨o, e1⟩, hk, q⟩
    · cases e
  | _ => cases e
theorem look_ok : ∀ {kvs : List (L2.Key × D)} {kws : List (L2.Key × V)} (k : L2.Key), kws.map (·.1) = kvs.map (·.1) → RelDs W ρ hid H (kvs.map (·.2)) (kws.map (·.2)) →
    (look kvs k = none ∧ valV kws k = none) ∨ ∃ d v, look kvs k = some d ∧ valV kws k = some v ∧ RelD W ρ hid H d v
  | [], [], k, _, _ => .inl ⟨rfl, rfl⟩
  | [], _ :: _, k, e, _ => by cases e
  | _ :: _, [], k, e, _ => by cases e
  | (k1, d) :: kvs, (k2, v) :: kws, k, e, r => by
    simp only [List.map_cons, List.cons.injEq] at e
    obtain ⟨e1, e2⟩ := e
    subst e1
    obtain ⟨v', r', e3, q1, q2⟩ := r
    simp only [List.map_cons, List.cons.injEq] at e3
    obtain ⟨rfl, rfl⟩ := e3
    by_cases hk : k2 = k
    · refine .inr ⟨d, v, ?_, ?_, q1⟩
      · simp [look, List.find?_cons, hk]
      · simp [valV, List.find?_cons, hk]
    · have l1 : look ((k2, d) :: kvs) k = look kvs k := by simp [look, List.find?_cons, hk]
      have l2 : valV ((k2, v) :: kws) k = valV kws k := by simp [valV, List.find?_cons, hk]
      rw [l1, l2]
      exact look_ok k e2 q2
theorem dKey_ok {d : D} {k : L2.Key} {v : V} (e : dKey d = some k) (r : RelD W ρ hid H d v) : v = kV k := by
  cases d with
  | int i => cases e; exact r
  | str i => cases e; exact r
  | _ => cases e
theorem put_ok {k : L2.Key} {d : D} {v : V} (q : RelD W ρ hid H d v) : ∀ {kvs : List (L2.Key × D)} {kws : List (L2.Key × V)}, kws.map (·.1) = kvs.map (·.1) → RelDs W ρ hid H (kvs.map (·.2)) (kws.map (·.2)) →
    (putK kws k v).map (·.1) = (put kvs k d).map (·.1) ∧ RelDs W ρ hid H ((put kvs k d).map (·.2)) ((putK kws k v).map (·.2)) := by
  intro kvs kws e r
  have ha : (kws.any fun kv => decide (kv.1 = k)) = (kvs.any fun p => decide (p.1 = k)) := by
    have h1 : (kws.any fun kv => decide (kv.1 = k)) = (kws.map (·.1)).any (fun x => decide (x = k)) := by rw [List.any_map]; rfl
    have h2 : (kvs.any fun kv => decide (kv.1 = k)) = (kvs.map (·.1)).any (fun x => decide (x = k)) := by rw [List.any_map]; rfl
    rw [h1, h2, e]
  unfold put putK
  rw [ha]
  cases hc : (kvs.any fun p => decide (p.1 = k)) with
  | true =>
    rw [if_pos rfl, if_pos rfl]
    clear ha hc
    induction kvs generalizing kws with
    | nil =>
      cases kws with
      | nil => exact ⟨rfl, rfl⟩
      | cons _ _ => cases e
    | cons p kvs ih =>
      cases kws with
      | nil => cases e
      | cons p2 kws =>
        simp only [List.map_cons, List.cons.injEq] at e
        obtain ⟨v', r', e3, q1, q2⟩ := r
        simp only [List.map_cons, List.cons.injEq] at e3
        obtain ⟨e4, e5⟩ := e3
        subst e5
        obtain ⟨i1, i2⟩ := ih e.2 q2
        simp only [List.map_cons]
        by_cases hk : p.1 = k
        · have hk2 : p2.1 = k := by rw [e.1]; exact hk
          rw [if_pos hk, if_pos hk2]
          exact ⟨by rw [List.cons.injEq]; exact ⟨by rw [hk, hk2], i1⟩, v, _, rfl, q, i2⟩
        · have hk2 : ¬ p2.1 = k := by rw [e.1]; exact hk
          rw [if_neg hk, if_neg hk2]
          exact ⟨by rw [List.cons.injEq]; exact ⟨e.1, i1⟩, p2.2, _, rfl, by rw [e4]; exact q1, i2⟩
  | false =>
    rw [if_neg Bool.false_ne_true, if_neg Bool.false_ne_true, List.map_append, List.map_append, List.map_append, List.map_append, e]
    exact ⟨rfl, RelDs.append r ⟨v, [], rfl, q, rfl⟩⟩
end

/-! ### operators -/
def Bop.py : Bop → Operator
  | .add => .Add | .sub => .Sub | .mul => .Mult | .fdiv => .FloorDiv | .mod => .Mod | .pow => .Pow
/-- two ints -/
theorem binI_ok (op : Bop) : OpR X (binaryOp op.py) (fun x y H Q => ∃ i j k, x = .int i ∧ y = .int j ∧ binI op i j = some k ∧ Q (.int k) H) := by
  intro pins s σ H x y v u Q I rx ry h
  obtain ⟨i, j, k, rfl, rfl, e, q⟩ := h
  cases op with
  | add => cases e; exact op_add pins s σ H _ _ v u Q I rx ry ⟨i, j, rfl, rfl, q⟩
  | sub => cases e; exact op_sub pins s σ H _ _ v u Q I rx ry ⟨i, j, rfl, rfl, q⟩
  | mul =>
    simp only [binI] at e
    split at e
    · cases e
      rename_i hc
      exact op_mul pins s σ H _ _ v u Q I rx ry ⟨i, j, rfl, rfl, hc, q⟩
    · cases e
  | fdiv =>
    simp only [binI] at e
    split at e
    · cases e
      rename_i hc
      exact op_fdivW pins s σ H _ _ v u Q I rx ry ⟨i, j, rfl, rfl, hc, q⟩
    · cases e
  | mod =>
    simp only [binI] at e
    split at e
    · cases e
      rename_i hc
      exact op_mod pins s σ H _ _ v u Q I rx ry ⟨i, j, rfl, rfl, hc, q⟩
    · cases e
  | pow =>
    simp only [binI] at e
    split at e
    · cases e
      rename_i hc
      exact op_pow pins s σ H _ _ v u Q I rx ry ⟨i, j, rfl, rfl, hc, q⟩
    · cases e
/-- an operator on what x and y stand for -/
def rBin (W : Wd) (c : Cfg) (σ : L2.St) (op : Bop) (m : Bool) : R2 := fun v w H Q => ∃ (s : Sit W c σ H) (x y d : D) (h' : Store), RelD W s.ρ s.hid H x v ∧ RelD W s.ρ s.hid H y w ∧ binop op m x y s.h = some (d, h') ∧ s.To h' d Q
theorem binop_ok (hK : W.K = X.K) (op : Bop) (m : Bool) : OpR X (binaryOp op.py) (rBin W c σ op m) := by
  intro pins s0 σ0 H v w u1 u2 Q I rv rw' h
  obtain ⟨s, x, y, d, h', rx, ry, e, to⟩ := h
  have fin : ∀ dd, (d, h') = (dd, s.h) → ∀ v', RelD W s.ρ s.hid H dd v' → Q v' H := fun dd ed v' r => by
    obtain ⟨e1, e2⟩ := Prod.mk.inj ed
    rw [e1, e2] at to
    exact to s.ρ v' H .refl s.R r
  have fL : ∀ ds, (d, h') = mkL m ds s.h → ∀ vs p, RelDs W s.ρ s.hid H ds vs → H p = none → Q (.ref p) (upd H p (.lst vs)) := fun ds ed vs p r hp => by
    obtain ⟨ρ', x', R', rd⟩ := mkL_ok s.R hp r m (d := d) (h' := h') ed.symm
    exact to ρ' _ _ x' R' rd
  -- lists
  have gL : ∀ xs ys, op = .add → getL s.h x = some xs → getL s.h y = some ys → (if xs.length + ys.length ≤ sizeLine then some (mkL m (xs ++ ys) s.h) else none) = some (d, h') →
      wpAny (model X.prog X.w) X.A (binaryOp op.py u1 u2) (EP X pins σ0 Q) X.xe s0 := fun xs ys eo ex ey e9 => by
    subst eo
    split at e9
    · rename_i hz
      obtain ⟨a, vs, rfl, ha, q1⟩ := getL_ok s.R ex rx
      obtain ⟨b, ws, rfl, hb, q2⟩ := getL_ok s.R ey ry
      refine op_cat pins s0 σ0 H _ _ u1 u2 Q I rv rw' ⟨a, b, vs, ws, rfl, rfl, ha, hb, ?_, fun p hp => ?_⟩
      · rw [← q1.length, ← q2.length]; exact hz
      · exact fL _ (Option.some.inj e9).symm _ p (q1.append q2) hp
    · cases e9
  have gR : ∀ xs k, op = .mul → y = .int k → getL s.h x = some xs → (if -(2 ^ 63) ≤ k ∧ k < 2 ^ 63 ∧ xs.length * k.toNat ≤ sizeLine then some (mkL m (List.replicate k.toNat xs).flatten s.h) else none) = some (d, h') →
      wpAny (model X.prog X.w) X.A (binaryOp op.py u1 u2) (EP X pins σ0 Q) X.xe s0 := fun xs k eo ey ex e9 => by
    subst eo ey
    split at e9
    · rename_i hz
      obtain ⟨a, vs, rfl, ha, q1⟩ := getL_ok s.R ex rx
      cases (show w = .int k from ry)
      refine op_rep pins s0 σ0 H _ _ u1 u2 Q I rv rw' ⟨a, k, vs, rfl, rfl, ha, hz.1, hz.2.1, ?_, fun p hp => ?_⟩
      · rw [← q1.length]; exact hz.2.2
      · exact fL _ (Option.some.inj e9).symm _ p (q1.flat _) hp
    · cases e9
  unfold binop at e
  split at e
  · rename_i i j
    obtain ⟨k, e1, e2⟩ := Option.map_eq_some_iff.mp e
    cases (show v = .int i from rx)
    cases (show w = .int j from ry)
    exact binI_ok op pins s0 σ0 H _ _ u1 u2 Q I rv rw' ⟨i, j, k, rfl, rfl, e1, fin _ e2.symm _ rfl⟩
  · rename_i a b
    cases op with
    | add =>
      simp only at e
      split at e
      · rename_i hz
        cases (show v = .str a from rx)
        cases (show w = .str b from ry)
        exact op_add_str pins s0 σ0 H _ _ u1 u2 Q I rv rw' ⟨a, b, rfl, rfl, hz, fin _ (Option.some.inj e).symm _ rfl⟩
      · cases e
    | _ => cases e
  · rename_i xs ys
    cases op with
    | add =>
      simp only at e
      split at e
      · rename_i hz
        obtain ⟨a, vs, rfl, ha, q1⟩ := rx
        obtain ⟨b, ws, rfl, hb, q2⟩ := ry
        have ed := (Option.some.inj e).symm
        refine op_catF pins s0 σ0 H _ _ u1 u2 Q I rv rw' ⟨a, b, vs, ws, rfl, rfl, sq_t hK ha, sq_t hK hb, ?_, fun z => ?_, fun z1 z2 => ?_, fun _ _ p o od hp => ?_⟩
        · rw [← q1.length, ← q2.length]; exact hz
        · subst z
          have z1 : xs = [] := List.eq_nil_of_length_eq_zero (by rw [q1.length]; rfl)
          subst z1
          exact fin _ ed _ ⟨b, ws, rfl, hb, q2⟩
        · subst z2
          have z1 : ys = [] := List.eq_nil_of_length_eq_zero (by rw [q2.length]; rfl)
          subst z1
          rw [List.append_nil] at ed
          exact fin _ ed _ ⟨a, vs, rfl, ha, q1⟩
        · obtain ⟨x', R', rd⟩ := mkT_ok s.R od hp (q1.append q2)
          obtain ⟨e1, e2⟩ := Prod.mk.inj ed
          rw [e1, e2] at to
          exact to s.ρ _ _ x' R' rd
      · cases e
    | _ => cases e
  · rename_i xs k
    cases op with
    | mul =>
      simp only at e
      split at e
      · rename_i hz
        obtain ⟨a, vs, rfl, ha, q1⟩ := rx
        cases (show w = .int k from ry)
        have ed := (Option.some.inj e).symm
        refine op_repF pins s0 σ0 H _ _ u1 u2 Q I rv rw' ⟨a, k, vs, rfl, rfl, sq_t hK ha, fun z => ?_, hz.2.1, hz.2.2.1, by rw [← q1.length]; exact hz.2.2.2, fun p o od hp => ?_⟩
        · exact hz.1 (List.eq_nil_of_length_eq_zero (by rw [q1.length, z]; rfl))
        · obtain ⟨x', R', rd⟩ := mkT_ok s.R od hp (q1.flat k.toNat)
          obtain ⟨e1, e2⟩ := Prod.mk.inj ed
          rw [e1, e2] at to
          exact to s.ρ _ _ x' R' rd
      · cases e
    | _ => cases e
  · rename_i k _ _
    split at e
    · rename_i xs ex
      exact gR xs k rfl rfl ex e
    · cases e
  · split at e
    · rename_i xs ys ex ey
      exact gL xs ys rfl ex ey e
    · cases e
end
end Sw

set_option maxRecDepth 100000
set_option maxHeartbeats 1000000
/-! Sw3: comparisons, subscripts, slices, built-ins, methods by values. -/
namespace Sw
open PySem PySem.Spec PyProof.Rows L2
section
variable {X : Cx} {W : Wd} {c : Cfg} {σ : L2.St} {H : Hp}
def Cop.py : Cop → CmpOp
  | .eq => .Eq | .ne => .NotEq | .lt => .Lt | .le => .LtE | .gt => .Gt | .ge => .GtE | .inn => .In | .nin => .NotIn | .din => .In | .dnin => .NotIn | .isN => .Is | .notN => .IsNot
def Cop.val : Cop → Bool
  | .din => false | .dnin => false | _ => true
def rCmp (W : Wd) (c : Cfg) (σ : L2.St) (op : Cop) : R2 := fun v w H Q => ∃ (s : Sit W c σ H) (x y : D) (k : Bool), RelD W s.ρ s.hid H x v ∧ RelD W s.ρ s.hid H y w ∧ cmpD op x y s.h = some k ∧ Q (.bl k) H
theorem inD_ok (hK : W.K = X.K) (hu : X.A.units + 66 < cLine) {s : Sit W c σ H} {x y : D} {v w : V} {k : Bool} (e : inD s.h x y = some k) (rx : RelD W s.ρ s.hid H x v) (ry : RelD W s.ρ s.hid H y w)
    {pins : List (Addr × Obj)} {s0 : Shared} {σ0 : L2.St} {u1 u2 : Value} {Q : VK} (I : Inv X pins σ0 H s0) (r1 : RelV v u1) (r2 : RelV w u2) :
    (Q (.bl k) H → wpAny (model X.prog X.w) X.A (compareOp .In u1 u2) (EP X pins σ0 Q) X.xe s0) ∧ (Q (.bl (!k)) H → wpAny (model X.prog X.w) X.A (compareOp .NotIn u1 u2) (EP X pins σ0 Q) X.xe s0) := by
  unfold inD at e
  cases ed : pyOf s.h x with
  | none => rw [ed] at e; cases e
  | some d =>
    rw [ed] at e
    obtain ⟨dx, sx⟩ := pyOf_ok hK s.R ed rx
    obtain ⟨as, rd⟩ := Dp.reads I d v u1 dx r1
    have lst : ∀ es, pyOf s.h y = some (.list es) → some (es.any fun z => PyData.eqv z d) = some k →
        (Q (.bl k) H → wpAny (model X.prog X.w) X.A (compareOp .In u1 u2) (EP X pins σ0 Q) X.xe s0) ∧ (Q (.bl (!k)) H → wpAny (model X.prog X.w) X.A (compareOp .NotIn u1 u2) (EP X pins σ0 Q) X.xe s0) := fun es e1 e2 => by
      obtain ⟨dy, sy⟩ := pyOf_ok hK s.R e1 ry
      obtain ⟨bs, rr⟩ := Dp.reads I _ w u2 dy r2
      cases e2
      exact ⟨fun q => SeqAt.in_list_reads rr rd (SeqAt.canLay_of_shaped sy) (SeqAt.canLay_of_shaped sx) (room_in_shaped sx (by omega)) ⟨.bl _, H, I, rfl, q⟩,
        fun q => SeqAt.notIn_list_reads rr rd (SeqAt.canLay_of_shaped sy) (SeqAt.canLay_of_shaped sx) (room_in_shaped sx (by omega)) ⟨.bl _, H, I, rfl, q⟩⟩
    cases y with
    | tup ys =>
      simp only [Option.bind_eq_bind, Option.bind_some] at e
      split at e
      · rename_i es e1
        obtain ⟨dy, sy⟩ := pyOf_ok hK s.R e1 ry
        obtain ⟨bs, rr⟩ := Dp.reads I _ w u2 dy r2
        cases e
        exact ⟨fun q => SeqAt.in_tuple_reads rr rd (SeqAt.canLay_of_shaped sy) (SeqAt.canLay_of_shaped sx) (room_in_shaped sx (by omega)) ⟨.bl _, H, I, rfl, q⟩,
          fun q => SeqAt.notIn_tuple_reads rr rd (SeqAt.canLay_of_shaped sy) (SeqAt.canLay_of_shaped sx) (room_in_shaped sx (by omega)) ⟨.bl _, H, I, rfl, q⟩⟩
      · cases e
    | _ =>
      simp only [Option.bind_eq_bind, Option.bind_some] at e
      split at e
      · rename_i es e1
        exact lst es e1 e
      · cases e
theorem isNon_ok {W : Wd} {ρ hid : List Addr} {H : Hp} {x : D} {v : V} (rx : RelD W ρ hid H x v) : isNonD x = true ↔ v = .non := by
  cases x with
  | non => exact ⟨fun _ => rx, fun _ => rfl⟩
  | bl _ => cases rx; exact ⟨fun z => (nomatch z), fun z => (nomatch z)⟩
  | int _ => cases rx; exact ⟨fun z => (nomatch z), fun z => (nomatch z)⟩
  | str _ => cases rx; exact ⟨fun z => (nomatch z), fun z => (nomatch z)⟩
  | tup _ => obtain ⟨_, _, z, _⟩ := rx; subst z; exact ⟨fun z => (nomatch z), fun z => (nomatch z)⟩
  | lst _ => obtain ⟨_, _, z, _⟩ := rx; subst z; exact ⟨fun z => (nomatch z), fun z => (nomatch z)⟩
  | lck _ => obtain ⟨_, _, z, _⟩ := rx; subst z; exact ⟨fun z => (nomatch z), fun z => (nomatch z)⟩
  | dct _ _ => obtain ⟨_, _, z, _⟩ := rx; subst z; exact ⟨fun z => (nomatch z), fun z => (nomatch z)⟩
  | ref _ => obtain ⟨_, _, z⟩ := rx; subst z; exact ⟨fun z => (nomatch z), fun z => (nomatch z)⟩
  | fn _ => cases rx; exact ⟨fun z => (nomatch z), fun z => (nomatch z)⟩
theorem isNon_eq {W : Wd} {ρ hid : List Addr} {H : Hp} {x : D} {v : V} (rx : RelD W ρ hid H x v) : isNonD x = decide (v = .non) := by
  rw [Bool.eq_iff_iff, isNon_ok rx]
  simp
theorem cmp_ok (hK : W.K = X.K) (hu : X.A.units + 66 < cLine) (op : Cop) (hv : op.val = true) : OpR X (compareOp op.py) (rCmp W c σ op) := by
  intro pins s0 σ0 H v w u1 u2 Q I rv rw' h
  obtain ⟨s, x, y, k, rx, ry, e, q⟩ := h
  have hints : ∀ (g : Int → Int → Bool), OpR X (compareOp op.py) (rI0 fun i j => .bl (g i j)) → cmpI g x y = some k →
      wpAny (model X.prog X.w) X.A (compareOp op.py u1 u2) (EP X pins σ0 Q) X.xe s0 := fun g hg e1 => by
    cases x with
    | int i =>
      cases y with
      | int j =>
        cases e1
        cases (show v = .int i from rx)
        cases (show w = .int j from ry)
        exact hg pins s0 σ0 H _ _ u1 u2 Q I rv rw' ⟨i, j, rfl, rfl, q⟩
      | _ => cases e1
    | _ => cases e1
  cases op with
  | eq =>
    unfold cmpD eqD at e
    cases e1 : pyOf s.h x with
    | none => rw [e1] at e; cases e
    | some p1 =>
      cases e2 : pyOf s.h y with
      | none => rw [e1, e2] at e; cases e
      | some p2 =>
        rw [e1, e2] at e
        cases e
        obtain ⟨d1, h1⟩ := pyOf_ok hK s.R e1 rx
        obtain ⟨d2, h2⟩ := pyOf_ok hK s.R e2 ry
        exact op_eqD (by omega) pins s0 σ0 H _ _ u1 u2 Q I rv rw' ⟨p1, p2, d1, d2, h1, h2, q⟩
  | ne =>
    unfold cmpD eqD at e
    cases e1 : pyOf s.h x with
    | none => rw [e1] at e; cases e
    | some p1 =>
      cases e2 : pyOf s.h y with
      | none => rw [e1, e2] at e; cases e
      | some p2 =>
        rw [e1, e2] at e
        cases e
        obtain ⟨d1, h1⟩ := pyOf_ok hK s.R e1 rx
        obtain ⟨d2, h2⟩ := pyOf_ok hK s.R e2 ry
        exact op_neD (by omega) pins s0 σ0 H _ _ u1 u2 Q I rv rw' ⟨p1, p2, d1, d2, h1, h2, q⟩
  | lt => exact hints (fun i j => decide (i < j)) (op_lt) e
  | le => exact hints (fun i j => decide (i ≤ j)) (op_le) e
  | gt => exact hints (fun i j => decide (j < i)) (op_gt) e
  | ge => exact hints (fun i j => decide (j ≤ i)) (op_ge) e
  | inn => exact (inD_ok hK hu e rx ry I rv rw').1 q
  | nin =>
    obtain ⟨k', e1, e2⟩ := Option.map_eq_some_iff.mp (show (inD s.h x y).map (!·) = some k from e)
    subst e2
    exact (inD_ok hK hu e1 rx ry I rv rw').2 q
  | din => cases hv
  | dnin => cases hv
  | isN =>
    unfold cmpD at e
    simp only at e
    split at e
    · rename_i hy
      cases e
      cases (isNon_ok ry).mp hy
      refine op_isN pins s0 σ0 H _ _ u1 u2 Q I rv rw' ⟨rfl, ?_⟩
      rw [← isNon_eq rx]
      exact q
    · cases e
  | notN =>
    unfold cmpD at e
    simp only at e
    split at e
    · rename_i hy
      cases e
      cases (isNon_ok ry).mp hy
      refine op_notN pins s0 σ0 H _ _ u1 u2 Q I rv rw' ⟨rfl, ?_⟩
      rw [← isNon_eq rx]
      exact q
    · cases e

/-! ### subscripts -/
theorem atI_len {α β : Type} {xs : List α} {ys : List β} (h : xs.length = ys.length) {i : Int} {x : α} (e : atI xs i = some x) : ∃ j, ixN xs.length i = some j ∧ ixN ys.length i = some j ∧ xs[j]? = some x := by
  unfold atI at e
  cases q : ixN xs.length i with
  | none => rw [q] at e; cases e
  | some j =>
    rw [q] at e
    exact ⟨j, rfl, by rw [← h]; exact q, e⟩
def rIxx (W : Wd) (c : Cfg) (σ : L2.St) : R2 := fun v w H Q => ∃ (s : Sit W c σ H) (x d : D) (i : Int), RelD W s.ρ s.hid H x v ∧ w = .int i ∧
  (match x with
    | .str z => if z.length ≤ sizeLine then (atI z.cps.toList i).map fun k => (D.str ⟨#[k]⟩) else none
    | x => match getS s.h x with
      | some ds => atI ds i
      | none => none) = some d ∧ s.To s.h d Q
theorem ix_ok (hK : W.K = X.K) : IxR X (rIxx W c σ) := by
  intro value slice pins s0 σ0 H v w u1 u2 Q I rv rw' h hs
  obtain ⟨s, x, d, i, rx, rfl, e, to⟩ := h
  have gS : ∀ ds, getS s.h x = some ds → atI ds i = some d → wpAny (model X.prog X.w) X.A (subscriptTail value slice u1 u2) (EP X pins σ0 Q) X.xe s0 := fun ds e1 e2 => by
    obtain ⟨a, vs, rfl, ha, q⟩ := getS_ok hK s.R e1 rx
    obtain ⟨j, j1, j2, j3⟩ := atI_len q.length e2
    obtain ⟨z, hz, rz⟩ := q.get j3
    have e3 : atI vs i = some z := by
      unfold atI
      rw [j2]
      exact hz
    refine ix_seq value slice pins s0 σ0 H _ _ u1 u2 Q I rv rw' ?_ hs
    rcases ha with ha | ha
    · exact .inl ⟨a, vs, i, z, rfl, rfl, ha, e3, to s.ρ z H .refl s.R rz⟩
    · exact .inr (.inl ⟨a, vs, i, z, rfl, rfl, ha, e3, to s.ρ z H .refl s.R rz⟩)
  split at e
  · rename_i z
    split at e
    · rename_i hz
      cases (show v = .str z from rx)
      obtain ⟨k, e1, e2⟩ := Option.map_eq_some_iff.mp e
      subst e2
      exact ix_str value slice pins s0 σ0 H _ _ u1 u2 Q I rv rw' ⟨z, i, k, rfl, rfl, hz, e1, to s.ρ _ H .refl s.R rfl⟩ hs
    · cases e
  · split at e
    · rename_i ds e1
      exact gS ds e1 e
    · cases e
theorem RelDs.cut {W : Wd} {ρ hid : List Addr} {H : Hp} {ds : List D} {vs : List V} (q : RelDs W ρ hid H ds vs) (lo hi : Option Int) : RelDs W ρ hid H (cutD ds lo hi) (cutV vs lo hi) := by
  unfold cutD cutV
  rw [q.length]
  exact (q.drop _).take _
def rSll (W : Wd) (c : Cfg) (σ : L2.St) (m : Bool) : V → Option Int → Option Int → Hp → VK → Prop := fun v lo hi H Q => ∃ (s : Sit W c σ H) (x d : D) (h' : Store), RelD W s.ρ s.hid H x v ∧
  (match x with
    | .tup ds => some (D.tup (cutD ds lo hi), s.h)
    | x => (getR s.h x).map fun ds => mkL m (cutD ds lo hi) s.h) = some (d, h') ∧ s.To h' d Q
theorem sl_ok (hK : W.K = X.K) (m : Bool) : SlR X (rSll W c σ m) := by
  intro pins s0 σ0 H v vv vl vu lo hi sl Q I rx hs pl pu h
  obtain ⟨s, x, d, h', r, e, to⟩ := h
  have gR : (getR s.h x).map (fun ds => mkL m (cutD ds lo hi) s.h) = some (d, h') → ∃ T id, typeLookup (.type T) "__getitem__" = pure (some (.builtin id)) ∧ s0.TypeIs vv T ∧ wpAny (model X.prog X.w) X.A (getItem vv (.ref sl)) (EP X pins σ0 Q) X.xe s0 := fun e => by
    obtain ⟨ds, e1, e2⟩ := Option.map_eq_some_iff.mp e
    obtain ⟨a, vs, rfl, ha, q⟩ := getR_ok hK s.R e1 r
    refine sl_list pins s0 σ0 H _ vv vl vu lo hi sl Q I rx hs pl pu ⟨a, vs, rfl, ha, fun p hp => ?_⟩
    obtain ⟨ρ', x', R', rd⟩ := mkL_ok s.R hp (q.cut lo hi) m e2
    exact to ρ' _ _ x' R' rd
  split at e
  · rename_i ds
    obtain ⟨e1, e2⟩ := Prod.mk.inj (Option.some.inj e)
    subst e1 e2
    obtain ⟨a, vs, rfl, ha, q⟩ := r
    refine sl_tupF pins s0 σ0 H _ vv vl vu lo hi sl Q I rx hs pl pu ⟨a, vs, rfl, sq_t hK ha, fun z => ?_, fun _ p o od hp => ?_⟩
    · refine to s.ρ _ _ .refl s.R ⟨a, vs, rfl, ha, ?_⟩
      have e3 : cutV vs lo hi = vs := by
        unfold cutV
        rw [z.1, z.2]
        simp
      have q2 := q.cut lo hi
      rw [e3] at q2
      exact q2
    · obtain ⟨x', R', rd⟩ := mkT_ok s.R od hp (q.cut lo hi)
      exact to s.ρ _ _ x' R' rd
  · exact gR e
end
end Sw

set_option maxRecDepth 100000
set_option maxHeartbeats 2000000
/-! SwM: what the layer lacks: enumerate and sum over a tuple. -/
namespace PySem
open Sem (wp)
open Builtin
theorem meets_enumerate_newT (l : Addr) (items : Array Value) (n : Nat) (dct : Option Addr) (sl : Array (Option Value)) :
    Meets (Builtin.«enumerate.__new__» ⟨[.type "enumerate", .ref l], []⟩) (fun _ R s => s.heap.get? l = some { cls := .type "tuple", dict := dct, data := .seq items n, slots := sl } ∧
      R (.ok (.ret (.ref (s.heap.push { cls := .type "tuple_iterator", data := .fields #[.ref l, .int 0 0] }).objs.size)))
        { s with heap := (s.heap.push { cls := .type "tuple_iterator", data := .fields #[.ref l, .int 0 0] }).push { cls := .type "enumerate", data := .fields #[.none, .bool false, .ref s.heap.objs.size, rawInt 0, .none, .none] } }) :=
  .of_wp fun prog w A R s h => by
    obtain ⟨hp, g, d, tk, os⟩ := s; obtain ⟨hl, h⟩ := h
    have hsub := sub_enumerate
    have hL : Heap.IsTuple (Shared.heap ⟨hp, g, d, tk, os⟩) l items := ⟨_, hl, rfl, n, rfl⟩
    wp_walk using wpAny_loadPart' hl
    refine wpAny_stack_any fun st => wpAny_pure ?_
    split
    · rename_i c _ _ _ _ _
      cases (c == Value.type "enumerate")
      · wp_walk using wpAny_loadPart' hl, wpAny_pyIter_tuple hL
        exact ⟨_, rfl, h⟩
      · wp_walk using wpAny_loadPart' hl, wpAny_pyIter_tuple hL
        exact ⟨_, rfl, h⟩
    · wp_walk using wpAny_loadPart' hl, wpAny_pyIter_tuple hL
      exact ⟨_, rfl, h⟩
section
variable {prog : Program} {w : World} {A : Around} {E : Value → Shared → Prop} {s : Shared}
theorem call_enumerate_tupleS {l : Addr} {items : Array Value} {Q : Value → Shared → Prop} (hL : s.heap.IsTuple l items)
    (h : ∀ h', IsEnum h' (s.heap.objs.size + 1) s.heap.objs.size 0 .none → h'.IsTupleIter s.heap.objs.size l 0 → h'.objs.size = s.heap.objs.size + 2 →
      (∀ b o, s.heap.get? b = some o → h'.get? b = some o) → Q (.ref (s.heap.objs.size + 1)) { s with heap := h' }) :
    wpAny (model prog w) A (call (.type "enumerate") [.ref l]) Q E s := by
  obtain ⟨⟨c, dct, dt, sl⟩, hl, hc, n, hd⟩ := hL
  replace hc : c = .type "tuple" := hc
  replace hd : dt = .seq items n := hd
  subst hc hd
  refine callType_new F.called_enumerate (by decide) (F.typeCall_enumerate_1 _) (F.newCall_enumerate_1 _) (fun obj => F.args_object_init_2 obj _) F.entry_enumerate_new
    (meets_enumerate_newT l items n dct sl) ⟨hl, ?_⟩
  have hz : (s.heap.push { cls := .type "tuple_iterator", data := .fields #[.ref l, .int 0 0] }).objs.size = s.heap.objs.size + 1 := Heap.size_push ..
  show _ ∧ _
  rw [hz]
  have he : IsEnum ((s.heap.push { cls := .type "tuple_iterator", data := .fields #[.ref l, .int 0 0] }).push
      { cls := .type "enumerate", data := .fields #[.none, .bool false, .ref s.heap.objs.size, rawInt 0, .none, .none] }) (s.heap.objs.size + 1) s.heap.objs.size 0 .none := by
    have := Heap.get?_push_size (s.heap.push { cls := .type "tuple_iterator", data := .fields #[.ref l, .int 0 0] })
      (o := { cls := .type "enumerate", data := .fields #[.none, .bool false, .ref s.heap.objs.size, rawInt 0, .none, .none] }) rfl
    rw [hz] at this; exact this
  refine ⟨⟨_, he, rfl⟩, h _ he ⟨_, Heap.get?_push_of_some _ (Heap.get?_push_size _ rfl), rfl, rfl⟩ (by rw [Heap.size_push, hz]) fun b o x => Heap.get?_push_of_some _ (Heap.get?_push_of_some _ x)⟩
theorem wpAny_pyNext_enum_endT {e it l : Addr} {i : Nat} {k : Int} {items : Array Value} {old : Value} {Q : Option Value → Shared → Prop} (hh : A.handled = none)
    (he : IsEnum s.heap e it k old) (hit : s.heap.IsTupleIter it l i) (hl : s.heap.IsTuple l items) (hx : items[i]? = none)
    (hQ : ∀ h', Heap.ExtBut it s.heap h' → Q none { s with heap := h' }) : wpAny (model prog w) A (pyNext (.ref e)) Q E s := by
  have hT : s.TypeIs (.ref e) "enumerate" := ⟨_, he, rfl⟩
  unfold pyNext
  refine wpAny_bind (wpAny_attempt (wpAny_callSpecial?_slot (name := Str.ofString "__next__") hT F.slot_enumerate_next
    (wpAny_call_entry F.slot_enumerate_next hT F.entry_enumerate_next ?_ (F.args_enumerate_next_1 _))))
  show wpAny _ _ (field (.ref e) 2 >>= _) _ _ _
  refine wpAny_bind (wpAny_field he rfl (x := .ref it) rfl ?_)
  refine wpAny_bind (RZ.nextOf_tuple_end hh hit hl hx fun h' x he' hx' => ?_)
  obtain ⟨o, ho, hc⟩ := hx'
  refine wpAny_bind (wpAny_isInstance (T := "StopIteration") (b := true) ⟨o, ho, hc⟩ isSubtype_stop ?_)
  exact wpAny_pure (hQ _ he')
end
theorem Draws.tuple {prog : Program} {w : World} {A : Around} (hh : A.handled = none) (it l : Addr) (hne : l ≠ it) (items : Array Value) :
    Draws prog w A it [it, l] items.size (fun i v => items[i]? = some v) (fun i h => h.IsTupleIter it l i ∧ h.IsTuple l items) where
  live := fun _ _ st => let ⟨o, ho, _⟩ := st.1; ⟨o, ho⟩
  frame := fun _ _ _ st hk => ⟨st.1.at fun o e => hk it (by simp) o e, st.2.at fun o e => hk l (by simp) o e⟩
  item := fun i s Q E hi st hQ => by
    refine RZ.nextOf_tuple_item st.1 st.2 (x := items[i]) (by simp [hi]) fun h' hit' hs' => ?_
    exact hQ _ h' s.toks (by simp [hi]) ⟨hit', st.2.extBut hs'.extBut hne⟩ hs'
  done := fun s Q E st hE => RZ.nextOf_tuple_end hh st.1 st.2 (by simp) hE
end PySem
namespace L2
open PySem PySem.Spec PyProof.Rows
/-- the tuple at a, each item in a new pair -/
def IteT (K : PySem.W.Frag) (a : Addr) : It :=
  ⟨fun i H => ∃ (xs : List V) (x : V), SqT K H a xs ∧ xs[i]? = some x, fun i H v H' => ∃ T ob x, v = .ref T ∧ ob.dict = none ∧ H T = none ∧ H' = upd H T (.frz ob (.tup [.int (i : Nat), x])) ∧ ∀ xs, SqT K H a xs → xs[i]? = some x, fun i H => ∃ xs : List V, SqT K H a xs ∧ xs.length ≤ i⟩
theorem turn_enumT {P : Program} {w : World} {K : PySem.W.Frag} {elts : List Expr} {kk : Nat} {tpos : Pos} (a e it : Addr) (hae : a ≠ e) (hai : a ≠ it) :
    Turn P w K (.Tuple elts kk tpos) (IteT K a) [e, it] e (fun i h => (∃ old, IsEnum h e it ((i : Nat) : Int) old) ∧ h.IsTupleIter it a i ∧ e ≠ it) where
  mem := by simp
  obj := fun i h st b hb => by
    obtain ⟨⟨old, he⟩, ⟨o, ho, hc, hd⟩, _⟩ := st
    have e' : b = e ∨ b = it := by simpa using hb
    rcases e' with z | z
    · rw [z]; exact ⟨_, he, fun v q => nomatch q⟩
    · rw [z]; exact ⟨o, ho, fun v q => by rw [hd] at q; cases q⟩
  keep := fun i h h' st k => let ⟨⟨old, he⟩, hi, hne⟩ := st; ⟨⟨old, k e (by simp) _ he⟩, hi.at fun o q => k it (by simp) o q, hne⟩
  item := by
    intro X hP hw hK hc i pins s σ H E I hf st hg
    subst hP hw hK
    obtain ⟨⟨old, he⟩, hit, hne⟩ := st
    obtain ⟨xs, x, hq, hx⟩ := hg
    obtain ⟨its, rv, p, hz⟩ := I.tuple hq
    obtain ⟨u, hu, ru⟩ := rv.get hx
    have hel : e < s.heap.objs.size := Heap.lt_size he
    have hil : it < s.heap.objs.size := by obtain ⟨_, q, _⟩ := hit; exact Heap.lt_size q
    have hsz : i < its.toArray.size := by
      have := (List.getElem?_eq_some_iff.mp hu).1
      simpa using this
    refine wpAny_pyNext_enum_itemD (Draws.tuple (prog := X.prog) (w := X.w) (A := X.A.in1) (I.ok.hd hc) it a hai its.toArray) he ⟨hit, show s.heap.IsTuple a its.toArray from p⟩ hsz hne (by simp [hne, Ne.symm hae]) fun u' h' tk hPx ho hst' hT hsz' hk => ?_
    have eu : u' = u := by
      have h1 : its.toArray[i]? = some u := by simpa using hu
      rw [h1] at hPx
      exact (Option.some.inj hPx).symm
    subst eu
    refine ⟨_, rfl, wpAny_letOwnedTupleGo_enum (s := { s with heap := h', toks := tk + 1 }) ho fun h'' he' sb => ?_⟩
    have hT2 : h''.get? s.heap.objs.size = some { cls := .type "tuple", data := .seq #[.int i tk, u'] } := (sb.2 _ (Nat.ne_of_gt hel)).trans hT
    obtain ⟨tob, htob⟩ : ∃ o : Obj, o = { cls := .type "tuple", data := .seq #[.int i tk, u'] } := ⟨_, rfl⟩
    have hdict : tob.dict = none := by rw [htob]
    have hT3 := hT2
    rw [← htob] at hT3
    have hNew : ObjOk X.prog X.w (upd H s.heap.objs.size (.frz tob (.tup [.int (i : Nat), x]))) h'' s.heap.objs.size (.frz tob (.tup [.int (i : Nat), x])) :=
      ⟨hT3, by show 2 ≤ sizeLine; decide, [.int i tk, u'], .cons ⟨_, rfl⟩ (.cons ru .nil), ⟨_, hT2, rfl, _, rfl⟩⟩
    have I1 : Inv X pins σ (upd H s.heap.objs.size (.frz tob (.tup [.int (i : Nat), x]))) { s with heap := h'', toks := tk + 1 } :=
      I.turnedNew (ch := [e, it]) (fun b ob hb q => (sb.2 b (fun z => hb (by simp [z]))).trans (hk b ob (fun z => hb (by simp [z])) (fun z => hb (by simp [z])) q)) hf (Nat.le_refl _) hNew
    refine ⟨.ref s.heap.objs.size, _, I1, rfl, ⟨_, tob, x, rfl, hdict, I.hok.fresh (Nat.le_refl _), rfl, fun ys hy => by rw [I.tuple_inj hy hq]; exact hx⟩, ⟨⟨u', ?_⟩, hst'.1.at fun o q => (sb.2 it (Ne.symm hne)).trans q, hne⟩, fun b hb => ?_⟩
    · have e1 : ((i + 1 : Nat) : Int) = (i : Int) + 1 := by omega
      rw [e1]; exact he'
    · have hb' : b < s.heap.objs.size := by
        have e' : b = e ∨ b = it := by simpa using hb
        rcases e' with z | z
        · rw [z]; exact hel
        · rw [z]; exact hil
      rw [upd_ne (Nat.ne_of_lt hb')]
      exact (hf b hb).1
  done := by
    intro X hP hw hK hc i pins s σ H E I hf st hg
    subst hP hw hK
    obtain ⟨⟨old, he⟩, hit, hne⟩ := st
    obtain ⟨xs, hq, hx⟩ := hg
    obtain ⟨its, rv, p, hz⟩ := I.tuple hq
    obtain ⟨f0, f1, f2, f3, f4, f5⟩ := hf it (by simp)
    have hl := rv.length
    refine wpAny_pyNext_enum_endT (I.ok.hd hc) he hit (show s.heap.IsTuple a its.toArray from p) (by simp; omega) fun h' eb => ⟨rfl, I.turned (t' := s.toks) (fun b o hb q => eb b o hb q) f0 f1 f3 f4 f5⟩
  self := fun A i s Q E st h => let ⟨⟨_, he⟩, _⟩ := st; wpAny_pyIter_enum he h
def iEnumT (K : PySem.W.Frag) (ta : TA) : TI := fun σ H R => ta σ H fun vs H1 => ∃ a xs, vs = [.ref a] ∧ SqT K H1 a xs ∧ R (IteT K a) H1
theorem pi_enumT {X : Cx} {e : Expr} {ta : TA} {p pos tpos : Pos} {elts : List Expr} {kk : Nat} (hg : Gl X "enumerate") (hm : X.mg "enumerate" = none) (ha : PA X [e] ta) (hs : starEach [e] X.env = [(false, eval e X.env)] := by rfl) :
    PI X (.Tuple elts kk tpos) (.Call (.Name "enumerate" p) [e] [] pos) (iEnumT X.K ta) := by
  refine ⟨fun pins s σ H R I h => ?_⟩
  refine Call_ (ld_blt I hg hm boot_enumerate (PyProof.Rows.callWith_type1 (thn (ha.run pos pins s σ H _ I h) fun us s1 ⟨vs, H1, I1, r1, q1⟩ => ?_) hs rfl))
  obtain ⟨a, xs, ex, hq, q⟩ := q1
  subst ex
  cases r1 with
  | cons r rr =>
    cases rr
    cases r
    obtain ⟨its, rv, p', hz⟩ := I1.tuple hq
    have hlt : a < s1.heap.objs.size := by
      obtain ⟨o, e, _⟩ := (show s1.heap.IsTuple a its.toArray from p')
      exact Heap.lt_size e
    refine call_enumerate_tupleS (show s1.heap.IsTuple a its.toArray from p') fun h' he hit hsz hk => wpAny_pyIter_enum he ?_
    have I2 : Inv X pins σ H1 { s1 with heap := h' } := I1.kept (t' := s1.toks) hk
    refine ⟨s1.heap.objs.size + 1, [s1.heap.objs.size + 1, s1.heap.objs.size], _, _, H1, rfl, I2, turn_enumT a (s1.heap.objs.size + 1) s1.heap.objs.size (Nat.ne_of_lt (Nat.lt_succ_of_lt hlt)) (Nat.ne_of_lt hlt), ⟨⟨.none, he⟩, hit, Nat.succ_ne_self _⟩, fun b hb => ?_, q⟩
    have e' : b = s1.heap.objs.size + 1 ∨ b = s1.heap.objs.size := by simpa using hb
    have hle : s1.heap.objs.size ≤ b := by
      rcases e' with z | z
      · rw [z]; exact Nat.le_add_right _ _
      · rw [z]; exact Nat.le_refl _
    exact I1.fpOk hle (I1.hok.fresh hle)
/-- the list at a, each item in a new pair -/
def IteL (K : PySem.W.Frag) (a : Addr) : It :=
  ⟨fun i H => ∃ (xs : List V) (x : V), SqL K H a xs ∧ xs[i]? = some x, fun i H v H' => ∃ T ob x, v = .ref T ∧ ob.dict = none ∧ H T = none ∧ H' = upd H T (.frz ob (.tup [.int (i : Nat), x])) ∧ ∀ xs, SqL K H a xs → xs[i]? = some x, fun i H => ∃ xs : List V, SqL K H a xs ∧ xs.length ≤ i⟩
theorem turn_enumL {P : Program} {w : World} {K : PySem.W.Frag} {elts : List Expr} {kk : Nat} {tpos : Pos} (a e it : Addr) (hae : a ≠ e) (hai : a ≠ it) :
    Turn P w K (.Tuple elts kk tpos) (IteL K a) [e, it] e (fun i h => (∃ old, IsEnum h e it ((i : Nat) : Int) old) ∧ h.IsListIter it a i ∧ e ≠ it) where
  mem := by simp
  obj := fun i h st b hb => by
    obtain ⟨⟨old, he⟩, ⟨o, ho, hc, hd⟩, _⟩ := st
    have e' : b = e ∨ b = it := by simpa using hb
    rcases e' with z | z
    · rw [z]; exact ⟨_, he, fun v q => nomatch q⟩
    · rw [z]; exact ⟨o, ho, fun v q => by rw [hd] at q; cases q⟩
  keep := fun i h h' st k => let ⟨⟨old, he⟩, hi, hne⟩ := st; ⟨⟨old, k e (by simp) _ he⟩, hi.at fun o q => k it (by simp) o q, hne⟩
  item := by
    intro X hP hw hK hc i pins s σ H E I hf st hg
    subst hP hw hK
    obtain ⟨⟨old, he⟩, hit, hne⟩ := st
    obtain ⟨xs, x, hq, hx⟩ := hg
    obtain ⟨its, rv, p, hz⟩ := I.list hq
    obtain ⟨u, hu, ru⟩ := rv.get hx
    have hel : e < s.heap.objs.size := Heap.lt_size he
    have hil : it < s.heap.objs.size := by obtain ⟨_, q, _⟩ := hit; exact Heap.lt_size q
    have hsz : i < its.toArray.size := by
      have := (List.getElem?_eq_some_iff.mp hu).1
      simpa using this
    refine wpAny_pyNext_enum_itemD (Draws.list (prog := X.prog) (w := X.w) (A := X.A.in1) (I.ok.hd hc) it a hai its.toArray) he ⟨hit, show s.heap.IsList a its.toArray from p.isList⟩ hsz hne (by simp [hne, Ne.symm hae]) fun u' h' tk hPx ho hst' hT hsz' hk => ?_
    have eu : u' = u := by
      have h1 : its.toArray[i]? = some u := by simpa using hu
      rw [h1] at hPx
      exact (Option.some.inj hPx).symm
    subst eu
    refine ⟨_, rfl, wpAny_letOwnedTupleGo_enum (s := { s with heap := h', toks := tk + 1 }) ho fun h'' he' sb => ?_⟩
    have hT2 : h''.get? s.heap.objs.size = some { cls := .type "tuple", data := .seq #[.int i tk, u'] } := (sb.2 _ (Nat.ne_of_gt hel)).trans hT
    obtain ⟨tob, htob⟩ : ∃ o : Obj, o = { cls := .type "tuple", data := .seq #[.int i tk, u'] } := ⟨_, rfl⟩
    have hdict : tob.dict = none := by rw [htob]
    have hT3 := hT2
    rw [← htob] at hT3
    have hNew : ObjOk X.prog X.w (upd H s.heap.objs.size (.frz tob (.tup [.int (i : Nat), x]))) h'' s.heap.objs.size (.frz tob (.tup [.int (i : Nat), x])) :=
      ⟨hT3, by show 2 ≤ sizeLine; decide, [.int i tk, u'], .cons ⟨_, rfl⟩ (.cons ru .nil), ⟨_, hT2, rfl, _, rfl⟩⟩
    have I1 : Inv X pins σ (upd H s.heap.objs.size (.frz tob (.tup [.int (i : Nat), x]))) { s with heap := h'', toks := tk + 1 } :=
      I.turnedNew (ch := [e, it]) (fun b ob hb q => (sb.2 b (fun z => hb (by simp [z]))).trans (hk b ob (fun z => hb (by simp [z])) (fun z => hb (by simp [z])) q)) hf (Nat.le_refl _) hNew
    refine ⟨.ref s.heap.objs.size, _, I1, rfl, ⟨_, tob, x, rfl, hdict, I.hok.fresh (Nat.le_refl _), rfl, fun ys hy => by rw [I.list_inj hy hq]; exact hx⟩, ⟨⟨u', ?_⟩, hst'.1.at fun o q => (sb.2 it (Ne.symm hne)).trans q, hne⟩, fun b hb => ?_⟩
    · have e1 : ((i + 1 : Nat) : Int) = (i : Int) + 1 := by omega
      rw [e1]; exact he'
    · have hb' : b < s.heap.objs.size := by
        have e' : b = e ∨ b = it := by simpa using hb
        rcases e' with z | z
        · rw [z]; exact hel
        · rw [z]; exact hil
      rw [upd_ne (Nat.ne_of_lt hb')]
      exact (hf b hb).1
  done := by
    intro X hP hw hK hc i pins s σ H E I hf st hg
    subst hP hw hK
    obtain ⟨⟨old, he⟩, hit, hne⟩ := st
    obtain ⟨xs, hq, hx⟩ := hg
    obtain ⟨its, rv, p, hz⟩ := I.list hq
    obtain ⟨f0, f1, f2, f3, f4, f5⟩ := hf it (by simp)
    have hl := rv.length
    refine wpAny_pyNext_enum_end (I.ok.hd hc) he hit (show s.heap.IsList a its.toArray from p.isList) (by simp; omega) fun h' eb => ⟨rfl, I.turned (t' := s.toks) (fun b o hb q => eb b o hb q) f0 f1 f3 f4 f5⟩
  self := fun A i s Q E st h => let ⟨⟨_, he⟩, _⟩ := st; wpAny_pyIter_enum he h
def iEnumL (K : PySem.W.Frag) (ta : TA) : TI := fun σ H R => ta σ H fun vs H1 => ∃ a xs, vs = [.ref a] ∧ SqL K H1 a xs ∧ R (IteL K a) H1
theorem pi_enumL {X : Cx} {e : Expr} {ta : TA} {p pos tpos : Pos} {elts : List Expr} {kk : Nat} (hg : Gl X "enumerate") (hm : X.mg "enumerate" = none) (ha : PA X [e] ta) (hs : starEach [e] X.env = [(false, eval e X.env)] := by rfl) :
    PI X (.Tuple elts kk tpos) (.Call (.Name "enumerate" p) [e] [] pos) (iEnumL X.K ta) := by
  refine ⟨fun pins s σ H R I h => ?_⟩
  refine Call_ (ld_blt I hg hm boot_enumerate (PyProof.Rows.callWith_type1 (thn (ha.run pos pins s σ H _ I h) fun us s1 ⟨vs, H1, I1, r1, q1⟩ => ?_) hs rfl))
  obtain ⟨a, xs, ex, hq, q⟩ := q1
  subst ex
  cases r1 with
  | cons r rr =>
    cases rr
    cases r
    obtain ⟨its, rv, p', hz⟩ := I1.list hq
    have hlt : a < s1.heap.objs.size := by
      obtain ⟨o, e, _⟩ := (show s1.heap.IsList a its.toArray from p'.isList)
      exact Heap.lt_size e
    refine call_enumerate_list (show s1.heap.IsList a its.toArray from p'.isList) fun h' he hit hsz hk => wpAny_pyIter_enum he ?_
    have I2 : Inv X pins σ H1 { s1 with heap := h' } := I1.kept (t' := s1.toks) hk
    refine ⟨s1.heap.objs.size + 1, [s1.heap.objs.size + 1, s1.heap.objs.size], _, _, H1, rfl, I2, turn_enumL a (s1.heap.objs.size + 1) s1.heap.objs.size (Nat.ne_of_lt (Nat.lt_succ_of_lt hlt)) (Nat.ne_of_lt hlt), ⟨⟨.none, he⟩, hit, Nat.succ_ne_self _⟩, fun b hb => ?_, q⟩
    have e' : b = s1.heap.objs.size + 1 ∨ b = s1.heap.objs.size := by simpa using hb
    have hle : s1.heap.objs.size ≤ b := by
      rcases e' with z | z
      · rw [z]; exact Nat.le_add_right _ _
      · rw [z]; exact Nat.le_refl _
    exact I1.fpOk hle (I1.hok.fresh hle)
/-- sum of a tuple of ints -/
def rSumT (K : PySem.W.Frag) : List V → Hp → VK → Prop := fun vs H Q => ∃ (a : Addr) (ns : List Int), vs = [V.ref a] ∧ SqT K H a (ns.map V.int) ∧ Q (.int ns.sum) H
theorem iter_intTup {prog : Program} {w : World} {A : Around} {E : Value → Shared → Prop} {s : Shared} {l : Addr} {xs : Array Value} {Q : Value → Shared → Prop} (hl : s.heap.IsTuple l xs)
    (h : ∀ s₂ : Shared, s₂ = { s with heap := s.heap.push { cls := .type "tuple_iterator", data := .fields #[.ref l, .int 0 0] } } →
      (s₂.heap.IsTupleIter s.heap.objs.size l 0 ∧ s₂.heap.IsTuple l xs) → (∀ b ∈ [s.heap.objs.size, l], b < s₂.heap.objs.size) → l ≠ s.heap.objs.size → Q (.ref s.heap.objs.size) s₂) :
    wpAny (model prog w) A (pyIter (.ref l)) Q E s := by
  have hlt : l < s.heap.objs.size := by obtain ⟨_, e, _⟩ := hl; exact Heap.lt_size e
  have hl2 : (s.heap.push { cls := .type "tuple_iterator", data := .fields #[.ref l, .int 0 0] }).IsTuple l xs := by
    obtain ⟨o, e, c⟩ := hl
    exact ⟨o, Heap.get?_push_of_some _ e, c⟩
  refine wpAny_pyIter_tuple hl (h _ rfl ⟨⟨_, Heap.get?_push_size _ rfl, rfl, rfl⟩, hl2⟩ (fun b hb => ?_) (Nat.ne_of_lt hlt))
  show b < (s.heap.push _).objs.size
  rw [Heap.size_push]
  rcases List.mem_cons.mp hb with rfl | hb
  · exact Nat.lt_succ_self _
  · rcases List.mem_cons.mp hb with rfl | hb
    · exact Nat.lt_succ_of_lt hlt
    · cases hb
theorem sum_rawT {prog : Program} {w : World} {A : Around} {E : Value → Shared → Prop} {s : Shared} {l : Addr} {its : List Value} {ns : List Int} {Q : Value → Shared → Prop} (hh : A.handled = none) (hl : s.heap.IsTuple l its.toArray) (hi : IntsAre its ns)
    (h : ∀ h' tk t', (∀ b o, s.heap.get? b = some o → h'.get? b = some o) → Q (.int ns.sum t') { s with heap := h', toks := tk }) : wpAny (model prog w) A (call (.builtin "sum") [.ref l]) Q E s := by
  obtain ⟨xs, e⟩ := hi.allInts.items
  have hn : numsOf (intItems xs).toList = ns := by rw [← e]; exact hi.numsOf
  rw [nums_intItems] at hn
  rw [e] at hl
  refine call_sum_walkG (iter_intTup hl fun s₂ e st hfp hlI => ?_)
  subst e
  refine ⟨_, _, _, _, _, _, numAt xs, rfl, Walks.tuple (A := A.in1) hh _ l hlI (intItems xs), st, hfp, (fun _ _ => intItems_at), fun h' tk t' hk => ?_⟩
  have := h h' tk t' (fun b o e => hk b o (fun z => by
    have z1 : b = s.heap.objs.size := List.mem_singleton.mp z
    have z2 : b < s.heap.objs.size := Heap.lt_size e
    rw [z1] at z2
    exact Nat.lt_irrefl _ z2) (Heap.get?_push_of_some _ e))
  have e2 : preSum (numAt xs) (intItems xs).size = ns.sum := by
    rw [show (intItems xs).size = xs.size by simp [intItems], preSum_eq, List.take_of_length_le (by simp), hn]
  rw [e2]
  exact this
theorem cr_sumT {X : Cx} (hc : X.calm = true) : CallR X (.builtin "sum") (rSumT X.K) := by
  intro pins s σ H vs us Q I r h
  obtain ⟨a, ns, rfl, hs, q⟩ := h
  obtain ⟨its, rv, hl, _⟩ := I.tuple hs
  rw [Vals.ref1 r]
  exact sum_rawT (I.ok.hd hc) (show s.heap.IsTuple a its.toArray from hl) rv.ints fun h' tk t' hk => ⟨.int _, H, I.kept hk, ⟨_, rfl⟩, q⟩
theorem kv_vals {κ : Type} {kvs : List (κ × V)} {vs : List (κ × Value)} (r : KV kvs vs) : Vals (kvs.map (·.2)) (vs.map (·.2)) := by
  unfold KV at r
  induction r with
  | nil => exact .nil
  | cons r t ih => exact .cons r.2 ih
/-- list(o.values()) -/
def tListVals (td : TE) : TE := fun σ H Q => td σ H fun x H1 => ∃ a kvs, x = V.ref a ∧ Rd H1 a (.dK kvs) ∧ ∀ p, H1 p = none → Q (.ref p) (upd H1 p (.lst (kvs.map (·.2))))
theorem pe_listVals {X : Cx} {o : Expr} {p pos apos mpos : Pos} {td : TE} (hc : X.calm = true) (hg : Gl X "list") (hm : X.mg "list" = none) (hd : PE X o td) (hbase : attributeBase o "values" X.env (eval o X.env) = eval o X.env) (hline : (apos.endLine == mpos.line) = true)
    (hse : starEach [Expr.Call (.Attribute o "values" apos) [] [] mpos] X.env = (false, eval (Expr.Call (.Attribute o "values" apos) [] [] mpos) X.env) :: starEach [] X.env := by rfl) :
    PE X (.Call (.Name "list" p) [.Call (.Attribute o "values" apos) [] [] mpos] [] pos) (tListVals td) := by
  refine ⟨fun pins s σ H Q I h => ?_⟩
  refine Call_ (ld_blt I hg hm boot_list (PyProof.Rows.callWith_type1 (args_cons (e := Expr.Call (.Attribute o "values" apos) [] [] mpos) (rest := []) ?_ hse) hse))
  refine wpAny_Call_method0_late hbase hline (thn (hd.run pins s σ H _ I h) fun v s1 ⟨x, H1, I1, r1, a, kvs, ex, ha, q⟩ => ?_)
  subst ex
  obtain rfl : v = Value.ref a := r1
  obtain ⟨hlen, hsys, vs, rel, dof⟩ := dk_rd I1.hok ha
  obtain ⟨ep, dat⟩ := dof.dictAt
  have dat' := dat
  obtain ⟨ob, es, ho, ex, hdat, hko, hpr, hnd⟩ := dat'
  refine ⟨"dict", "dict.values", F.plainAttrs_dict, F.slot_dict_values, F.type_dict_values, ⟨ob, ho, ex.1⟩, fun b e => ?_, Calls.callWith_builtin rfl (PySem.evalArgs_none ?_)⟩
  · cases e
    exact ⟨ob, ho, ex.2.1⟩
  refine call_meetsIn F.slot_dict_values ⟨ob, ho, ex.1⟩ F.entry_dict_values (F.args_dict_values_1 _) (meets_dict_values (mixKind X.prog X.w) a hsys) ⟨⟨vs, dof⟩, ?_⟩
  have k1 : ∀ b u, s1.heap.get? b = some u → (s1.heap.push { cls := .type "dict_values", data := .fields #[.ref a] }).get? b = some u := fun b u e => Heap.get?_push_of_some _ e
  have dat1 : (s1.heap.push { cls := .type "dict_values", data := .fields #[.ref a] }).DictAt (mixKind X.prog X.w) a vs ep := dat.keep k1
  refine args_nil ?_
  have hl2 : vs.length ≤ sizeLine := by rw [← KV.length rel]; exact hlen
  refine PySem.W.kdl_call (s := { s1 with heap := s1.heap.push { cls := .type "dict_values", data := .fields #[.ref a] } }) (PySem.W.kdl_values (knd := mixKind X.prog X.w) (kvs := vs) (ep := ep) (r := s1.heap.objs.size) (d := a)) (I1.ok.hd hc) ⟨⟨_, Heap.get?_push_size _ rfl, rfl, rfl⟩, dat1⟩ hl2 fun h' tk acc' c' hk hD hacc => ?_
  have e1 : acc'.toList = vs.map (·.2) := PySem.W.kdl_vals_eq acc'.toList (by rw [Array.length_toList]; exact hacc.1) fun j v e => hacc.2 j v (by rw [← Array.getElem?_toList]; exact e)
  have I2 : Inv X pins σ H1 { s1 with heap := s1.heap.push { cls := .type "dict_values", data := .fields #[.ref a] } } := I1.kept (t' := s1.toks) k1
  have hf : H1 (s1.heap.push { cls := .type "dict_values", data := .fields #[.ref a] }).objs.size = none := I2.hok.fresh (Nat.le_refl _)
  refine ⟨.ref (s1.heap.push { cls := .type "dict_values", data := .fields #[.ref a] }).objs.size, upd H1 (s1.heap.push { cls := .type "dict_values", data := .fields #[.ref a] }).objs.size (.lst (kvs.map (·.2))), I2.laid hk (Nat.le_refl _) (show ObjOk X.prog X.w _ _ _ (.lst (kvs.map (·.2))) from ⟨?_, acc'.toList, c', ?_, ?_⟩), rfl, q _ hf⟩
  · rw [List.length_map]; exact hlen
  · rw [e1]; exact kv_vals rel
  · rw [Array.toArray_toList]; exact hD
/-- sorted(d) of a dict whose keys are ints, any number of them -/
theorem cr_sortedKI {X : Cx} (hcalm : X.calm = true) : CallR X (.builtin "sorted") (fun vs H Q => ∃ (a : Addr) (kvs : List (Key × V)) (ks : List Int), vs = [.ref a] ∧ Rd H a (.dK kvs) ∧ kvs.map (·.1) = ks.map Sum.inl ∧
    ∀ (ns : List Int) (p : Addr), ns.Perm ks → ns.Pairwise (· ≤ ·) → H p = none → Q (.ref p) (upd H p (.lst (ns.map V.int)))) := by
  intro pins s0 σ H vs us Q I rel hh
  obtain ⟨a, kvs, ks, ev, hd, hks, q⟩ := hh
  subst ev
  obtain ⟨u, eu, ru⟩ := vals1 rel
  subst eu
  cases ru
  obtain ⟨hz, lo, vs2, rkv, dd⟩ := dk_rd I.hok hd
  obtain ⟨ep, hat⟩ := dd.dictAt
  have hk2 : vs2.map (·.1) = ks.map Sum.inl := rkv.keys.symm.trans hks
  have hn : vs2.length = ks.length := by
    have e := congrArg List.length hk2
    simpa using e
  have hn2 : vs2.length ≤ sizeLine := by rw [← rkv.length]; exact hz
  refine Calls.call_function_entry PyProof.Rows.kind_sorted PyProof.Rows.plain_sorted PyProof.Rows.entry_sorted (PyProof.Rows.args_sorted1 _) ?_
  unfold Builtin.«sorted»
  refine wpAny_bind (m := checkCount "sorted" 1 1 _) (wpAny_pure ?_)
  refine wpAny_bind (PySem.W.kdu_collect (A := X.A.in1) (PySem.W.kdl_dict (knd := mixKind X.prog X.w) (kvs := vs2) (ep := ep) lo) (I.ok.hd hcalm) hat hn2 fun h1 tk acc kp hacc => ?_)
  have hal : acc.toList.length = ks.length := by rw [Array.length_toList, hacc.1, hn]
  have hI : IntsAre acc.toList ks := ints_each hal fun j v e => by
    obtain ⟨k, x, e1, e2⟩ := hacc.2 j v (by rw [← Array.getElem?_toList]; exact e)
    have e3 : (vs2.map (·.1))[j]? = some k := by rw [List.getElem?_map, e1]; rfl
    rw [hk2, List.getElem?_map] at e3
    obtain ⟨y, e4, e5⟩ := Option.map_eq_some_iff.mp e3
    subst e5
    rcases keyIs_shape (show keyIs (Sum.inl y) v = true from e2) with ⟨i, t, ek, ev⟩ | ⟨z, t, ek, ev⟩
    · cases ek
      exact ⟨y, t, e4, ev⟩
    · cases ek
  have I1 : Inv X pins σ H { s0 with heap := h1, toks := tk } := I.kept kp
  have hal2 : acc.toList.length ≤ sizeLine := by rw [hal, ← hn]; exact hn2
  refine wpAny_bind (wpAny_newList ?_ hal2)
  have hoL : (h1.push (seqObj "list" acc.toList.toArray 0)).get? h1.objs.size = some (seqObj "list" acc.toList.toArray 0) := Heap.get?_push_size _ rfl
  show wpAny _ _ _ _ _ { s0 with heap := h1.push (seqObj "list" acc.toList.toArray 0), toks := tk }
  refine wpAny_bind (wpAny_holding (wpAny_call_entry PyProof.Rows.slot_list_sort ⟨_, hoL, rfl⟩ PyProof.Rows.entry_list_sort
    (SrtO.list_sort_ord SrtO.swo_int (s := { s0 with heap := h1.push (seqObj "list" acc.toList.toArray 0), toks := tk }) hoL hal2 (fun h2 => SrtO.ints_sortable hI h2) fun out g1 g2 => ⟨.none, rfl, ?_⟩) (PyProof.Rows.args_list_sort _)))
  obtain ⟨k1, k2, k3⟩ := SrtO.ints_out hI g1 g2
  obtain ⟨ep2, he'⟩ := PyProof.Rows.sortedHeap_at (vs := acc.toList) (out := out.toArray) hoL
  have hlen : ((out.map SrtO.iv).map V.int).length ≤ sizeLine := by
    rw [List.length_map, k2.length_eq, ← hn]
    exact hn2
  refine wpAny_pure ⟨_, rfl, .ref h1.objs.size, upd H h1.objs.size (.lst ((out.map SrtO.iv).map V.int)), I1.laid (t' := tk) (fun b u e => ?_) (Nat.le_refl _)
    ⟨hlen, out, ep2, vals_of_ints k1, he'⟩, rfl, q _ _ k2 k3 (I1.hok.fresh (Nat.le_refl _))⟩
  have hb : b < h1.objs.size := Heap.lt_size e
  rw [PyProof.Rows.sortedHeap_old (Nat.ne_of_lt hb) (by rw [size_push']; exact Nat.lt_succ_of_lt hb)]
  exact Heap.get?_push_of_some _ e
end L2

set_option maxRecDepth 100000
set_option maxHeartbeats 1000000
/-! SwN: d.update(xs) of a list of pairs. -/
namespace Sw
open PySem PySem.Spec PyProof.Rows L2
theorem type_update : typeOf (.builtin "dict.update") = pure (.type "method_descriptor") := by rfl
def rUpdP (K : PySem.W.Frag) : V → List V → Hp → VK → Prop := fun x xs H Q => ∃ (d a : Addr) (ps : List Addr) (kvs acc : List (L2.Key × V)), x = .ref d ∧ xs = [.ref a] ∧ H d = some (.dK acc) ∧ SqL K H a (ps.map V.ref) ∧
  Paired (fun p kv => SqT K H p [kV kv.1, kv.2]) ps kvs ∧ acc.length + kvs.length ≤ sizeLine ∧ Q .non (upd H d (.dK (mergeK acc kvs)))
theorem mt_updP {X : Cx} (hcalm : X.calm = true) : MtR X "dict.update" (rUpdP X.K) := by
  rintro pins s σ H x xs v us Q I rx rxs ⟨d, a, ps, kvs, acc, rfl, rfl, hd, hq, hp, hsz, q⟩
  cases rx
  obtain ⟨u, rfl, ru⟩ := vals1 rxs
  cases ru
  obtain ⟨its, rv, pl, hz⟩ := I.list hq
  have ei := refs_at rv
  subst ei
  rw [List.length_map] at hz
  obtain ⟨prs, rel, hl, hpr⟩ := pairs_of I hp
  obtain ⟨o, n, ho, hc, hdn, hdat⟩ := pl
  obtain ⟨_, hsys, vs, hkv, hdict⟩ := (show ObjOk X.prog X.w H s.heap d (.dK acc) from I.hok d _ hd)
  -- the pairs with their keys as values
  have hkl : kvs.length = prs.length := rel.length
  obtain ⟨pv, hpv⟩ : ∃ pv : List (Value × Value), pv.length = prs.length ∧ ∀ (j : Nat) (q : L2.Key × Value), prs[j]? = some q → ∃ (b : Addr) (u : Value), ps[j]? = some b ∧ pv[j]? = some (u, q.2) ∧ IsTup s.heap b #[u, q.2] ∧ keyIs q.1 u = true := by
    clear hkv rel hsz q hkl
    have : ∀ (m : Nat), m ≤ prs.length → ∃ pv : List (Value × Value), pv.length = m ∧ ∀ (j : Nat) (q : L2.Key × Value), j < m → prs[j]? = some q → ∃ (b : Addr) (u : Value), ps[j]? = some b ∧ pv[j]? = some (u, q.2) ∧ IsTup s.heap b #[u, q.2] ∧ keyIs q.1 u = true := by
      intro m
      induction m with
      | zero => intro _; exact ⟨[], rfl, fun j q hj _ => absurd hj (by omega)⟩
      | succ m ih =>
        intro hm
        obtain ⟨pv, h1, h2⟩ := ih (by omega)
        obtain ⟨b, u, e1, e2, e3⟩ := hpr m prs[m] (List.getElem?_eq_getElem (by omega))
        refine ⟨pv ++ [(u, prs[m].2)], by simp [h1], fun j q hj e => ?_⟩
        by_cases hjm : j = m
        · subst hjm
          rw [List.getElem?_eq_getElem (by omega)] at e
          cases e
          exact ⟨b, u, e1, by rw [List.getElem?_append_right (by omega)]; simp [h1], e2, e3⟩
        · obtain ⟨b', u', f1, f2, f3⟩ := h2 j q (by omega) e
          exact ⟨b', u', f1, by rw [List.getElem?_append_left (by omega)]; exact f2, f3⟩
    obtain ⟨pv, h1, h2⟩ := this prs.length (Nat.le_refl _)
    exact ⟨pv, h1, fun j q e => h2 j q (List.getElem?_eq_some_iff.mp e).1 e⟩
  obtain ⟨hpl, hpv⟩ := hpv
  have hTs : ∀ j, j < ps.length → ps.getD j 0 = ps[j]! := fun j hj => by simp [List.getD_eq_getElem?_getD]
  have item : ∀ (j : Nat) (k v : Value), pv[j]? = some (k, v) → (ps.map Value.ref).toArray[j]? = some (.ref (ps.getD j 0)) ∧ PairAt s.heap (ps.getD j 0) k v ∧ ∃ q, prs[j]? = some q ∧ q.2 = v ∧ keyIs q.1 k = true := by
    intro j k v e
    have hj : j < prs.length := by rw [← hpl]; exact (List.getElem?_eq_some_iff.mp e).1
    obtain ⟨b, u, e1, e2, e3, e4⟩ := hpv j prs[j] (List.getElem?_eq_getElem hj)
    rw [e2] at e
    cases e
    have eb : ps.getD j 0 = b := by simp [List.getD_eq_getElem?_getD, e1]
    refine ⟨by simp [e1], ?_, prs[j], List.getElem?_eq_getElem hj, rfl, e4⟩
    rw [eb]
    obtain ⟨ot, h1, h2, n3, h4⟩ := e3
    exact .inl ⟨ot, h1, h2, n3, h4⟩
  have ok : PlainSeq "list" s.heap a (ps.map Value.ref).toArray ∧ PairItems s.heap (ps.map Value.ref).toArray (fun j => ps.getD j 0) pv :=
    ⟨⟨o, n, ho, hc, hdn, hdat⟩, by simp [hpl, hl], fun j k v e => ⟨(item j k v e).1, (item j k v e).2.1⟩⟩
  obtain ⟨od, es, ep, hod, hex, _⟩ := hdict
  have hda : d ≠ a := fun z => by
    rw [z, ho] at hod
    cases hod
    have := hex.1
    rw [hc] at this
    injection this with z
    exact absurd z (by decide)
  have hdf : d ∉ a :: (List.range pv.length).map fun j => ps.getD j 0 := by
    intro z
    rcases List.mem_cons.mp z with z | z
    · exact hda z
    · obtain ⟨j, hj, ez⟩ := List.mem_map.mp z
      rw [List.mem_range] at hj
      obtain ⟨⟨k, v⟩, e⟩ : ∃ p, pv[j]? = some p := ⟨pv[j], List.getElem?_eq_getElem hj⟩
      obtain ⟨ot, h1, h2⟩ := (item j k v e).2.1.there
      rw [ez, hod] at h1
      cases h1
      have h3 := hex.1
      rcases h2 with h2 | h2 <;> (rw [h3] at h2; injection h2 with z; exact absurd z (by decide))
  refine call_update_pairs (knd := mixKind X.prog X.w) (acc := vs) (kvs := prs) (PairArg.list a (ps.map Value.ref).toArray (fun j => ps.getD j 0) pv) (I.ok.hd hcalm) ok hdf ⟨hpl.symm, fun i key v e => ?_⟩ ⟨od, es, ep, hod, hex, by assumption⟩ ?_ fun h' tk hd' hk => ?_
  · obtain ⟨⟨k, v2⟩, e1, e2, e3⟩ := (item i key v e).2.2
    cases e2
    exact ⟨k, e1, e3⟩
  · have := hkv.length
    rw [hpl, ← hkl, ← this]
    exact hsz
  · have hlen : (mergeK acc kvs).length ≤ sizeLine := Nat.le_trans (length_mergeK kvs acc) hsz
    refine ⟨.non, _, I.write (x := d) (e := d) (h' := h') (t' := tk) (o := .dK (mergeK acc kvs)) (by rw [hd]; exact True.intro) (.inl rfl) (fun b u hb e => hk b u hb (by simp) e) ?_ ⟨hlen, hsys, merged vs prs, KV.merge rel hkv, hd'⟩, rfl, q⟩
    obtain ⟨o', _, _, e', _⟩ := hd'
    exact ⟨o', e'⟩
end Sw

set_option maxRecDepth 100000
set_option maxHeartbeats 1000000
/-! Sw4: built-ins, methods, stores by values. -/
namespace Sw
open PySem PySem.Spec PyProof.Rows L2
def Bi.val : Bi → Value
  | .len => .builtin "len" | .list => .type "list" | .tuple => .type "tuple" | .sum => .builtin "sum" | .all => .builtin "all" | .min => .builtin "min" | .max => .builtin "max"
  | .min2 => .builtin "min" | .max2 => .builtin "max" | .abs => .builtin "abs" | .int => .type "int" | .sorted => .builtin "sorted" | _ => .none
def Bi.nm : Bi → Option Str
  | .len => some "len" | .list => some "list" | .tuple => some "tuple" | .sum => some "sum" | .all => some "all" | .min => some "min" | .max => some "max"
  | .min2 => some "min" | .max2 => some "max" | .abs => some "abs" | .int => some "int" | .sorted => some "sorted" | _ => none
def Bi.ar : Bi → Nat
  | .min2 => 2 | .max2 => 2 | _ => 1
section
variable {X : Cx} {W : Wd} {c : Cfg} {σ : L2.St} {H : Hp}
def rBi (W : Wd) (c : Cfg) (σ : L2.St) (b : Bi) (m : Bool) : List V → Hp → VK → Prop := fun vs H Q => ∃ (s : Sit W c σ H) (ds : List D) (d : D) (h' : Store), RelDs W s.ρ s.hid H ds vs ∧ biF b m ds s.h = some (d, h') ∧ s.To h' d Q
theorem perm_eq {xs ys : List Int} (h : xs.Perm ys) (s1 : xs.Pairwise (· ≤ ·)) (s2 : ys.Pairwise (· ≤ ·)) : xs = ys :=
  h.eq_of_pairwise (fun a b _ _ h1 h2 => Int.le_antisymm h1 h2) s1 s2
theorem one_of {ρ hid : List Addr} {d : D} {vs : List V} (r : RelDs W ρ hid H [d] vs) : ∃ v, vs = [v] ∧ RelD W ρ hid H d v := by
  obtain ⟨v, r', rfl, q1, q2⟩ := r
  cases (show r' = [] from q2)
  exact ⟨v, rfl, q1⟩
theorem two_of {ρ hid : List Addr} {d e : D} {vs : List V} (r : RelDs W ρ hid H [d, e] vs) : ∃ v w, vs = [v, w] ∧ RelD W ρ hid H d v ∧ RelD W ρ hid H e w := by
  obtain ⟨v, r', rfl, q1, q2⟩ := r
  obtain ⟨w, rfl, q3⟩ := one_of q2
  exact ⟨v, w, rfl, q1, q3⟩
theorem getS_or {h : Store} {x : D} {es : List D} (e : getS h x = some es) : x = .tup es ∨ getR h x = some es := by
  cases x with
  | tup xs => cases e; exact .inl rfl
  | _ => exact .inr e
theorem bi_ok (hK : W.K = X.K) (hc : X.calm = true) (b : Bi) (m : Bool) (hb : b.nm.isSome = true) : CallR X b.val (rBi W c σ b m) := by
  intro pins s0 σ0 H vs us Q I r h
  obtain ⟨s, ds, d, h', rd, e, to⟩ := h
  have fin : ∀ dd, (d, h') = (dd, s.h) → ∀ v', RelD W s.ρ s.hid H dd v' → Q v' H := fun dd ed v' r => by
    obtain ⟨e1, e2⟩ := Prod.mk.inj ed
    rw [e1, e2] at to
    exact to s.ρ v' H .refl s.R r
  have fL : ∀ ds, (d, h') = mkL m ds s.h → ∀ vs p, RelDs W s.ρ s.hid H ds vs → H p = none → Q (.ref p) (upd H p (.lst vs)) := fun ds ed vs p r hp => by
    obtain ⟨ρ', x', R', rd⟩ := mkL_ok s.R hp r m (d := d) (h' := h') ed.symm
    exact to ρ' _ _ x' R' rd
  have ar : ds.length = b.ar := by
    cases b <;> first | (cases hb; done) | skip
    all_goals
      unfold biF at e
      split at e <;> first | (cases e; done) | rfl | skip
    all_goals contradiction
  have one : ds.length = 1 → ∃ x v, ds = [x] ∧ vs = [v] ∧ RelD W s.ρ s.hid H x v := fun e => by
    match ds, e, rd with
    | [x], _, rd =>
      obtain ⟨v, e1, rv⟩ := one_of rd
      exact ⟨x, v, rfl, e1, rv⟩
  have two : ds.length = 2 → ∃ x y v w, ds = [x, y] ∧ vs = [v, w] ∧ RelD W s.ρ s.hid H x v ∧ RelD W s.ρ s.hid H y w := fun e => by
    match ds, e, rd with
    | [x, y], _, rd =>
      obtain ⟨v, w, e1, rv, rw'⟩ := two_of rd
      exact ⟨x, y, v, w, rfl, e1, rv, rw'⟩
  cases b with
  | len =>
    obtain ⟨x, v, rfl, rfl, rv⟩ := one ar
    have gS : ∀ es, getS s.h x = some es → (d, h') = (.int es.length, s.h) → wpAny (model X.prog X.w) X.A (call (.builtin "len") us) (EP X pins σ0 Q) X.xe s0 := fun es e1 e2 => by
      obtain ⟨a, ws, rfl, ha, q⟩ := getS_ok hK s.R e1 rv
      exact call_len_seq pins s0 σ0 H _ us Q I r ⟨a, ws, rfl, ha, fin _ e2 _ (by rw [q.length]; rfl)⟩
    have gG : (match getS s.h x with
        | some ds => some (D.int ds.length, s.h)
        | none => (getK s.h x).map fun kvs => (D.int kvs.length, s.h)) = some (d, h') → wpAny (model X.prog X.w) X.A (call (.builtin "len") us) (EP X pins σ0 Q) X.xe s0 := fun e => by
      split at e
      · rename_i es e1
        exact gS es e1 (Option.some.inj e).symm
      · obtain ⟨kvs, e1, e2⟩ := Option.map_eq_some_iff.mp e
        obtain ⟨a, kws, rfl, ha, hk, q⟩ := getK_ok s.R e1 rv
        obtain ⟨u, rfl, ru⟩ := vals1 r
        cases ru
        refine d_len I ha fun t s' I' => ⟨.int kws.length, H, I', ⟨t, rfl⟩, fin _ e2.symm _ ?_⟩
        have e3 := congrArg List.length hk
        rw [List.length_map, List.length_map] at e3
        rw [e3]
        rfl
    cases x with
    | str z =>
      cases (show v = .str z from rv)
      simp only [biF] at e
      split at e
      · rename_i hz
        exact call_len_str pins s0 σ0 H _ us Q I r ⟨z, rfl, hz, fin _ (Option.some.inj e).symm _ rfl⟩
      · cases e
    | _ => exact gG e
  | list =>
    obtain ⟨x, v, rfl, rfl, rv⟩ := one ar
    obtain ⟨es, e1, e2⟩ := Option.map_eq_some_iff.mp (show (getS s.h x).map (fun ds => mkL m ds s.h) = some (d, h') from e)
    obtain ⟨a, ws, rfl, ha, q⟩ := getS_ok hK s.R e1 rv
    exact call_list_of pins s0 σ0 H _ us Q I r ⟨a, ws, rfl, ha, fun p hp => fL _ e2.symm _ p q hp⟩
  | tuple =>
    obtain ⟨x, v, rfl, rfl, rv⟩ := one ar
    obtain ⟨es, e1, e2⟩ := Option.map_eq_some_iff.mp (show (getS s.h x).map (fun ds => (D.tup ds, s.h)) = some (d, h') from e)
    obtain ⟨e3, e4⟩ := Prod.mk.inj e2
    subst e3 e4
    rcases getS_or e1 with rfl | e1
    · obtain ⟨a, ws, rfl, ha, q⟩ := rv
      exact call_tupleF pins s0 σ0 H _ us Q I r ⟨a, ws, rfl, .inr ⟨sq_t hK ha, fin _ rfl _ ⟨a, ws, rfl, ha, q⟩⟩⟩
    · obtain ⟨a, ws, rfl, ha, q⟩ := getR_ok hK s.R e1 rv
      refine call_tupleF pins s0 σ0 H _ us Q I r ⟨a, ws, rfl, .inl ⟨ha, fun p o od hp => ?_⟩⟩
      obtain ⟨x', R', rd'⟩ := mkT_ok s.R od hp q
      exact to s.ρ _ _ x' R' rd'
  | sum =>
    obtain ⟨x, v, rfl, rfl, rv⟩ := one ar
    simp only [biF] at e
    split at e
    · rename_i es e1
      obtain ⟨ns, e2, e3⟩ := Option.map_eq_some_iff.mp e
      obtain ⟨a, ws, rfl, ha, q⟩ := getS_ok hK s.R e1 rv
      have q2 := q.ints e2
      subst q2
      rcases ha with ha | ha
      · exact cr_sum hc pins s0 σ0 H _ us Q I r ⟨a, ns, rfl, ha, fin _ e3.symm _ rfl⟩
      · exact cr_sumT hc pins s0 σ0 H _ us Q I r ⟨a, ns, rfl, ha, fin _ e3.symm _ rfl⟩
    · cases e
  | all =>
    obtain ⟨x, v, rfl, rfl, rv⟩ := one ar
    simp only [biF] at e
    split at e
    · rename_i es e1
      obtain ⟨ns, e2, e3⟩ := Option.map_eq_some_iff.mp e
      obtain ⟨a, ws, rfl, ha, q⟩ := getR_ok hK s.R e1 rv
      have q2 := q.bls e2
      subst q2
      exact cr_all hc pins s0 σ0 H _ us Q I r ⟨a, ns, rfl, ha, fin _ e3.symm _ rfl⟩
    · cases e
  | min =>
    obtain ⟨x, v, rfl, rfl, rv⟩ := one ar
    simp only [biF] at e
    split at e
    · rename_i es e1
      split at e
      · rename_i ns e2
        obtain ⟨n, e3, e4⟩ := Option.map_eq_some_iff.mp e
        obtain ⟨a, ws, rfl, ha, q⟩ := getR_ok hK s.R e1 rv
        have q2 := q.ints e2
        subst q2
        have hn := List.min?_eq_some_iff.mp e3
        refine cr_min hc pins s0 σ0 H _ us Q I r ⟨a, ns, rfl, ha, List.length_pos_of_mem hn.1, fun k h1 h2 => ?_⟩
        have ek : k = n := Int.le_antisymm (h2 _ hn.1) (hn.2 _ h1)
        subst ek
        exact fin _ e4.symm _ rfl
      · cases e
    · cases e
  | max =>
    obtain ⟨x, v, rfl, rfl, rv⟩ := one ar
    simp only [biF] at e
    split at e
    · rename_i es e1
      split at e
      · rename_i ns e2
        obtain ⟨n, e3, e4⟩ := Option.map_eq_some_iff.mp e
        obtain ⟨a, ws, rfl, ha, q⟩ := getR_ok hK s.R e1 rv
        have q2 := q.ints e2
        subst q2
        have hn := List.max?_eq_some_iff.mp e3
        refine cr_max hc pins s0 σ0 H _ us Q I r ⟨a, ns, rfl, ha, List.length_pos_of_mem hn.1, fun k h1 h2 => ?_⟩
        have ek : k = n := Int.le_antisymm (hn.2 _ h1) (h2 _ hn.1)
        subst ek
        exact fin _ e4.symm _ rfl
      · cases e
    · cases e
  | min2 =>
    obtain ⟨x, y, v, w, rfl, rfl, rv, rw'⟩ := two ar
    cases x with
    | int i =>
      cases y with
      | int j =>
        cases (show v = .int i from rv)
        cases (show w = .int j from rw')
        exact call_min2 hc pins s0 σ0 H _ us Q I r ⟨i, j, rfl, fin _ (Option.some.inj e).symm _ rfl⟩
      | _ => cases e
    | _ => cases e
  | max2 =>
    obtain ⟨x, y, v, w, rfl, rfl, rv, rw'⟩ := two ar
    cases x with
    | int i =>
      cases y with
      | int j =>
        cases (show v = .int i from rv)
        cases (show w = .int j from rw')
        exact call_max2 hc pins s0 σ0 H _ us Q I r ⟨i, j, rfl, fin _ (Option.some.inj e).symm _ rfl⟩
      | _ => cases e
    | _ => cases e
  | abs =>
    obtain ⟨x, v, rfl, rfl, rv⟩ := one ar
    cases x with
    | int i =>
      cases (show v = .int i from rv)
      exact call_abs pins s0 σ0 H _ us Q I r ⟨i, rfl, fin _ (Option.some.inj e).symm _ rfl⟩
    | _ => cases e
  | int =>
    obtain ⟨x, v, rfl, rfl, rv⟩ := one ar
    cases x with
    | int i =>
      cases (show v = .int i from rv)
      exact call_int1 pins s0 σ0 H _ us Q I r (.inl ⟨i, rfl, fin _ (Option.some.inj e).symm _ rfl⟩)
    | bl i =>
      cases (show v = .bl i from rv)
      exact call_int1 pins s0 σ0 H _ us Q I r (.inr ⟨i, rfl, fin _ (Option.some.inj e).symm _ rfl⟩)
    | _ => cases e
  | sorted =>
    obtain ⟨x, v, rfl, rfl, rv⟩ := one ar
    simp only [biF] at e
    split at e
    · rename_i es e1
      obtain ⟨ns, e2, e3⟩ := Option.map_eq_some_iff.mp e
      obtain ⟨a, ws, rfl, ha, q⟩ := getR_ok hK s.R e1 rv
      have q2 := q.ints e2
      subst q2
      refine cr_sortedI pins s0 σ0 H _ us Q I r ⟨a, ns, rfl, ha, fun ns' p h1 h2 hp => ?_⟩
      have e4 : ns' = ns.mergeSort (fun a b => decide (a ≤ b)) := by
        refine perm_eq (h1.trans (List.mergeSort_perm ns _).symm) h2 ?_
        have h3 := List.pairwise_mergeSort (le := fun a b : Int => decide (a ≤ b)) (fun a b c h1 h2 => by simp at *; omega) (fun a b => by simp; omega) ns
        exact h3.imp fun h => of_decide_eq_true h
      rw [e4]
      exact fL _ e3.symm _ p (relInts _) hp
    · split at e
      · rename_i kvs e1
        obtain ⟨ns, e2, e3⟩ := Option.map_eq_some_iff.mp e
        obtain ⟨a, kws, rfl, ha, hk, q⟩ := getK_ok s.R e1 rv
        have hks : kws.map (·.1) = ns.map Sum.inl := by
          rw [hk]
          have key : ∀ (kvs : List (L2.Key × D)) (ns : List Int), asInts (kvs.map fun p => kD p.1) = some ns → kvs.map (·.1) = ns.map Sum.inl := by
            intro kvs
            induction kvs with
            | nil =>
              intro ns e
              cases e
              rfl
            | cons p kvs ih =>
              intro ns e
              obtain ⟨k, v⟩ := p
              cases k with
              | inl i =>
                obtain ⟨ms, e4, e5⟩ := Option.map_eq_some_iff.mp (show (asInts (kvs.map fun p => kD p.1)).map (i :: ·) = some ns from e)
                subst e5
                rw [List.map_cons, List.map_cons, ih ms e4]
              | inr z => cases e
          exact key kvs ns e2
        refine cr_sortedKI hc pins s0 σ0 H _ us Q I r ⟨a, kws, ns, rfl, ha, hks, fun ns' p h1 h2 hp => ?_⟩
        have e4 : ns' = ns.mergeSort (fun a b => decide (a ≤ b)) := by
          refine perm_eq (h1.trans (List.mergeSort_perm ns _).symm) h2 ?_
          have h3 := List.pairwise_mergeSort (le := fun a b : Int => decide (a ≤ b)) (fun a b c h1 h2 => by simp at *; omega) (fun a b => by simp; omega) ns
          exact h3.imp fun h => of_decide_eq_true h
        rw [e4]
        exact fL _ e3.symm _ p (relInts _) hp
      · cases e
  | _ => cases hb
/-! ### methods of lists -/
def Mt.id : Mt → String
  | .append => "list.append" | .extend => "list.extend" | .pop => "list.pop" | .popAt => "list.pop" | .index => "list.index" | .tindex => "tuple.index" | .insert => "list.insert" | .count => "list.count" | _ => ""
def rMt (W : Wd) (c : Cfg) (σ : L2.St) (mt : Mt) : V → List V → Hp → VK → Prop := fun v vs H Q => ∃ (s : Sit W c σ H) (x : D) (ds : List D) (d : D) (h' : Store), RelD W s.ρ s.hid H x v ∧ RelDs W s.ρ s.hid H ds vs ∧ mtF c.b mt x ds s.h = some (d, h') ∧ s.To h' d Q
theorem bels_append {β : Nat} {ds es : List D} (h1 : D.bels β ds = true) (h2 : D.bels β es = true) : D.bels β (ds ++ es) = true := by
  rw [bels_iff] at *
  intro d hd
  rcases List.mem_append.mp hd with h | h
  · exact h1 d h
  · exact h2 d h
theorem bels_sub {β : Nat} {ds es : List D} (h1 : D.bels β ds = true) (h : ∀ d ∈ es, d ∈ ds) : D.bels β es = true := by
  rw [bels_iff] at *
  exact fun d hd => h1 d (h d hd)
/-- the content of an object of the store changes -/
theorem wr_ok (s : Sit W c σ H) {n : Nat} {o o' : Ob} {new : List D} {h' : Store} {a : Addr} {u : HO} (e : wr c.b n o' new s.h = some h') (hn : s.h[n]? = some o) (ha : s.ρ[n]? = some a) (hf : ∀ o v, H a ≠ some (.frz o v))
    (q : ObR W s.ρ s.hid (upd H a u) a o') (hl : ∀ β, o.bel β = true → D.bels β new = true → o'.bel β = true) : Ext s.ρ s.hid H s.ρ (upd H a u) ∧ Rl W s.bs s.ρ s.hid h' (upd H a u) := by
  unfold wr at e
  split at e
  · rename_i hc
    cases e
    refine ⟨ext_write ha hf (fun z => (s.R.ap a z).1 (List.mem_of_getElem? ha)), s.R.write ha q fun β hβ hlt => hl β (s.R.low β hβ n o hlt hn) ?_⟩
    rcases hc.1 with z | z
    · exact bels_mono (Nat.zero_le _) z
    · have := s.hb β hβ
      omega
  · cases e
theorem ixN_mid {n : Nat} {i : Int} {k : Nat} (h : ixN n i = some k) : seqIndex? i n = some k := (ixN_seq h).1
theorem RelDs.dropL {ρ hid : List Addr} {ds : List D} {vs : List V} (q : RelDs W ρ hid H ds vs) : RelDs W ρ hid H ds.dropLast vs.dropLast := by
  rw [List.dropLast_eq_take, List.dropLast_eq_take, q.length]
  exact q.take _
theorem bels_put {β : Nat} {kvs : List (L2.Key × D)} {k : L2.Key} {d : D} (h1 : D.bels β (kvs.map (·.2)) = true) (h2 : D.bels β [d] = true) : D.bels β ((put kvs k d).map (·.2)) = true := by
  rw [bels_iff] at *
  intro z hz
  obtain ⟨p, hp, rfl⟩ := List.mem_map.mp hz
  unfold put at hp
  split at hp
  · obtain ⟨q, hq, rfl⟩ := List.mem_map.mp hp
    split
    · exact h2 d (by simp)
    · exact h1 _ (List.mem_map.mpr ⟨q, hq, rfl⟩)
  · rcases List.mem_append.mp hp with hp | hp
    · exact h1 _ (List.mem_map.mpr ⟨p, hp, rfl⟩)
    · rw [List.mem_singleton.mp hp]
      exact h2 d (by simp)
theorem bels_putAll {β : Nat} : ∀ {ps kvs : List (L2.Key × D)}, D.bels β (kvs.map (·.2)) = true → D.bels β (ps.map (·.2)) = true → D.bels β ((putAll kvs ps).map (·.2)) = true
  | [], _, h, _ => h
  | p :: ps, kvs, h, h2 => by
    simp only [List.map_cons, D.bels, Bool.and_eq_true] at h2
    exact bels_putAll (ps := ps) (kvs := put kvs p.1 p.2) (bels_put h (by simp [D.bels, h2.1])) h2.2
theorem pairs_rel {ρ hid : List Addr} {H : Hp} {K : PySem.W.Frag} (hK : W.K = K) : ∀ {es : List D} {ps : List (L2.Key × D)} {vs : List V}, pairsD es = some ps → RelDs W ρ hid H es vs →
    ∃ (as : List Addr) (kvs : List (L2.Key × V)), vs = as.map V.ref ∧ Paired (fun p kv => SqT K H p [kV kv.1, kv.2]) as kvs ∧ kvs.map (·.1) = ps.map (·.1) ∧ RelDs W ρ hid H (ps.map (·.2)) (kvs.map (·.2))
  | [], ps, vs, e, r => by
    cases e
    have e1 : vs = [] := r
    subst e1
    exact ⟨[], [], rfl, .nil, rfl, rfl⟩
  | x :: es, ps, vs, e, r => by
    unfold pairsD at e
    split at e
    · rename_i e0
      cases e0
    · rename_i k v r' e0
      cases e0
      split at e
      · rename_i key ps' ek ep
        cases e
        obtain ⟨w, vr, rfl, q1, q2⟩ := r
        obtain ⟨as, kvs, rfl, p1, p2, p3⟩ := pairs_rel hK ep q2
        obtain ⟨a, ws, rfl, ra, rw'⟩ := q1
        obtain ⟨u1, u2, rfl, t1, t2⟩ := two_of rw'
        have ek' := dKey_ok ek t1
        subst ek'
        refine ⟨a :: as, (key, u2) :: kvs, rfl, .cons (hK ▸ ra.sq) p1, by simp [p2], ⟨u2, _, rfl, t2, p3⟩⟩
      · cases e
    · cases e
theorem putAll_ok {ρ hid : List Addr} {H : Hp} : ∀ {ps : List (L2.Key × D)} {pvs : List (L2.Key × V)} {kvs : List (L2.Key × D)} {kws : List (L2.Key × V)}, pvs.map (·.1) = ps.map (·.1) → RelDs W ρ hid H (ps.map (·.2)) (pvs.map (·.2)) →
    kws.map (·.1) = kvs.map (·.1) → RelDs W ρ hid H (kvs.map (·.2)) (kws.map (·.2)) → (mergeK kws pvs).map (·.1) = (putAll kvs ps).map (·.1) ∧ RelDs W ρ hid H ((putAll kvs ps).map (·.2)) ((mergeK kws pvs).map (·.2))
  | [], [], _, _, _, _, h, r => ⟨h, r⟩
  | [], _ :: _, _, _, h, _, _, _ => by cases h
  | _ :: _, [], _, _, h, _, _, _ => by cases h
  | p :: ps, q :: pvs, kvs, kws, h, r, hk, rk => by
    obtain ⟨v, vs, e, r1, r2⟩ := r
    injection e with e1 e2
    injection h with h1 h2
    subst e1
    rw [← e2] at r2
    have h1 : q.1 = p.1 := h1
    obtain ⟨k1, k2⟩ := put_ok (k := p.1) r1 hk rk
    have := putAll_ok (kvs := put kvs p.1 p.2) (kws := putK kws q.1 q.2) h2 r2 (by rw [h1]; exact k1) (by rw [h1]; exact k2)
    exact this
theorem mt_upd_ok (hK : W.K = X.K) (hc : X.calm = true) : MtR X "dict.update" (rMt W c σ .update) := by
  intro pins s0 σ0 H v vs u us Q I rv rvs h
  obtain ⟨s, x, ds, d, h', rx, rds, e, to⟩ := h
  have e : on1 (fun n v => mUpd c.b n v s.h) x ds = some (d, h') := e
  unfold on1 at e
  split at e
  · rename_i n y _
    obtain ⟨a, ha, rfl⟩ := rx
    obtain ⟨w, rfl, rw'⟩ := one_of rds
    have e : mUpd c.b n y s.h = some (d, h') := e
    unfold mUpd at e
    split at e
    · rename_i kvs es hn he
      split at e
      · rename_i ps hp
        split at e
        · rename_i hz
          obtain ⟨h2, e1, e2⟩ := Option.map_eq_some_iff.mp e
          cases e2
          obtain ⟨kws, hw, hk, q⟩ := s.R.ob n _ a hn ha
          obtain ⟨l, vs, rfl, hl, ql⟩ := getR_ok hK s.R he rw'
          obtain ⟨as, pvs, rfl, p1, p2, p3⟩ := pairs_rel hK hp ql
          obtain ⟨m1, m2⟩ := putAll_ok p2 p3 hk q
          have x1 : Mv s.ρ s.hid H s.ρ s.hid (upd H a (.dK (mergeK kws pvs))) := mv_write ha
          obtain ⟨x2, R2⟩ := wr_ok s e1 hn ha (by rw [hw]; intro _ _ z; cases z) (u := .dK (mergeK kws pvs)) ⟨_, upd_same, m1, m2.mv x1⟩ fun β h1 h2 => bels_putAll h1 h2
          have l1 := congrArg List.length hk
          have l2 := congrArg List.length p2
          simp only [List.length_map] at l1 l2
          exact mt_updP hc pins s0 σ0 H _ _ u us Q I rv rvs ⟨a, l, as, pvs, kws, rfl, rfl, hw, hl, p1, by omega, to _ _ _ x2 R2 rfl⟩
        · cases e
      · cases e
    · cases e
  · cases e
theorem mt_ok (hK : W.K = X.K) (hu : X.A.units + 66 < cLine) (mt : Mt) (hm : mt.id ≠ "") : MtR X mt.id (rMt W c σ mt) := by
  intro pins s0 σ0 H v vs u us Q I rv rvs h
  obtain ⟨s, x, ds, d, h', rx, rds, e, to⟩ := h
  have sh1 : (∃ n y, x = .ref n ∧ ds = [y]) → ∃ n y a w, x = .ref n ∧ ds = [y] ∧ s.ρ[n]? = some a ∧ v = .ref a ∧ vs = [w] ∧ RelD W s.ρ s.hid H y w := fun ⟨n, y, e1, e2⟩ => by
    subst e1 e2
    obtain ⟨a, ha, rfl⟩ := rx
    obtain ⟨w, rfl, rw'⟩ := one_of rds
    exact ⟨n, y, a, w, rfl, rfl, ha, rfl, rfl, rw'⟩
  have rn1 : ∀ {f : Nat → D → Option (D × Store)}, on1 f x ds = some (d, h') → ∃ n y, x = .ref n ∧ ds = [y] := fun {f} q => by
    unfold on1 at q
    split at q
    · exact ⟨_, _, rfl, rfl⟩
    · cases q
  cases mt with
  | append =>
    obtain ⟨n, y, a, w, rfl, rfl, ha, rfl, rfl, rw'⟩ := sh1 (rn1 e)
    have e : mAppend c.b n y s.h = some (d, h') := e
    unfold mAppend at e
    split at e
    · rename_i es hn
      split at e
      · rename_i hz
        obtain ⟨h2, e1, e2⟩ := Option.map_eq_some_iff.mp e
        cases e2
        obtain ⟨ws, hw, q⟩ := s.R.ob n _ a hn ha
        have x1 : Mv s.ρ s.hid H s.ρ s.hid (upd H a (.lst (ws ++ [w]))) := mv_write ha
        obtain ⟨x2, R2⟩ := wr_ok s e1 hn ha (by rw [hw]; intro _ _ z; cases z) (u := .lst (ws ++ [w])) ⟨_, upd_same, (q.append (show RelDs W s.ρ s.hid H [y] [w] from ⟨w, [], rfl, rw', rfl⟩)).mv x1⟩ fun β h1 h2 => bels_append h1 h2
        exact mt_append pins s0 σ0 H _ _ u us Q I rv rvs ⟨a, ws, w, rfl, rfl, hw, by rw [← q.length]; exact hz, to _ _ _ x2 R2 rfl⟩
      · cases e
    · cases e
  | extend =>
    obtain ⟨n, y, a, w, rfl, rfl, ha, rfl, rfl, rw'⟩ := sh1 (rn1 e)
    have e : mExtend c.b n y s.h = some (d, h') := e
    unfold mExtend at e
    split at e
    · rename_i es fs hn hy
      split at e
      · rename_i hz
        obtain ⟨h2, e1, e2⟩ := Option.map_eq_some_iff.mp e
        cases e2
        obtain ⟨ws, hw, q⟩ := s.R.ob n _ a hn ha
        obtain ⟨b, zs, rfl, hb, q2⟩ := getL_ok s.R hy rw'
        have x1 : Mv s.ρ s.hid H s.ρ s.hid (upd H a (.lst (ws ++ zs))) := mv_write ha
        obtain ⟨x2, R2⟩ := wr_ok s e1 hn ha (by rw [hw]; intro _ _ z; cases z) (u := .lst (ws ++ zs)) ⟨_, upd_same, (q.append q2).mv x1⟩ fun β h1 h2 => bels_append h1 h2
        exact mt_extend pins s0 σ0 H _ _ u us Q I rv rvs ⟨a, b, ws, zs, rfl, rfl, hw, hb, by rw [← q.length, ← q2.length]; exact hz, to _ _ _ x2 R2 rfl⟩
      · cases e
    · cases e
  | pop =>
    obtain ⟨n, rfl, rfl⟩ : ∃ n, x = .ref n ∧ ds = [] := by
      cases x with
      | ref n =>
        cases ds with
        | nil => exact ⟨n, rfl, rfl⟩
        | cons _ _ => cases e
      | _ => cases e
    have e : mPop c.b n s.h = some (d, h') := e
    unfold mPop at e
    split at e
    · rename_i es hn
      split at e
      · rename_i y hy
        obtain ⟨h2, e1, e2⟩ := Option.map_eq_some_iff.mp e
        cases e2
        obtain ⟨a, ha, rfl⟩ := rx
        cases (show vs = [] from rds)
        obtain ⟨ws, hw, q⟩ := s.R.ob n _ a hn ha
        obtain ⟨z, hz, rz⟩ := q.get hy
        have x1 : Mv s.ρ s.hid H s.ρ s.hid (upd H a (.lst ws.dropLast)) := mv_write ha
        obtain ⟨x2, R2⟩ := wr_ok s e1 hn ha (by rw [hw]; intro _ _ z; cases z) (u := .lst ws.dropLast) ⟨_, upd_same, q.dropL.mv x1⟩ fun β h1 h2 => bels_sub (show D.bels β es = true from h1) fun d hd => List.dropLast_subset _ hd
        exact mt_pop pins s0 σ0 H _ _ u us Q I rv rvs ⟨a, ws, z, rfl, rfl, hw, by rw [← q.length]; exact hz, to _ _ _ x2 R2 (rz.mv x1)⟩
      · cases e
    · cases e
  | popAt =>
    obtain ⟨n, y, a, w, rfl, rfl, ha, rfl, rfl, rw'⟩ := sh1 (by
      cases x with
      | ref n =>
        match ds, e with
        | [y], _ => exact ⟨n, y, rfl, rfl⟩
        | [], e => cases e
        | .int _ :: _ :: _, e => cases e
        | .non :: _ :: _, e => cases e
        | .bl _ :: _ :: _, e => cases e
        | .str _ :: _ :: _, e => cases e
        | .tup _ :: _ :: _, e => cases e
        | .lst _ :: _ :: _, e => cases e
        | .lck _ :: _ :: _, e => cases e
        | .dct _ _ :: _ :: _, e => cases e
        | .ref _ :: _ :: _, e => cases e
        | .fn _ :: _ :: _, e => cases e
      | _ => cases e)
    obtain ⟨i, rfl⟩ : ∃ i, y = .int i := by
      cases y with
      | int i => exact ⟨i, rfl⟩
      | _ => cases e
    have e : mPopAt c.b n i s.h = some (d, h') := e
    unfold mPopAt at e
    split at e
    · rename_i es hn
      split at e
      · rename_i k hk
        split at e
        · rename_i y hy
          split at e
          · rename_i hz
            obtain ⟨h2, e1, e2⟩ := Option.map_eq_some_iff.mp e
            cases e2
            cases (show w = .int i from rw')
            obtain ⟨ws, hw, q⟩ := s.R.ob n _ a hn ha
            obtain ⟨z, hz2, rz⟩ := q.get hy
            have x1 : Mv s.ρ s.hid H s.ρ s.hid (upd H a (.lst (ws.eraseIdx k))) := mv_write ha
            obtain ⟨x2, R2⟩ := wr_ok s e1 hn ha (by rw [hw]; intro _ _ z; cases z) (u := .lst (ws.eraseIdx k)) ⟨_, upd_same, (q.erase _).mv x1⟩ fun β h1 h2 => bels_sub (show D.bels β es = true from h1) fun d hd => List.mem_of_mem_eraseIdx hd
            obtain ⟨m1, m2⟩ := hz
            exact mt_popAt pins s0 σ0 H _ _ u us Q I rv rvs ⟨a, ws, i, k, z, rfl, rfl, hw, by omega, by omega, by rw [← q.length]; exact ixN_mid hk, hz2, to _ _ _ x2 R2 (rz.mv x1)⟩
          · cases e
        · cases e
      · cases e
    · cases e
  | index =>
    obtain ⟨y, rfl⟩ : ∃ y, ds = [y] := by
      match ds, e with
      | [y], _ => exact ⟨y, rfl⟩
      | [], e => cases e
      | _ :: _ :: _, e => cases e
    have e : mIndex x y s.h = some (d, h') := e
    unfold mIndex at e
    split at e
    · rename_i es p h1 h2
      split at e
      · rename_i j hj
        cases e
        obtain ⟨w, rfl, rw'⟩ := one_of rds
        obtain ⟨d1, s1⟩ := pyOf_ok hK s.R h1 rx
        obtain ⟨d2, s2⟩ := pyOf_ok hK s.R h2 rw'
        obtain ⟨a, rfl⟩ : ∃ a, v = .ref a := by cases d1; exact ⟨_, rfl⟩
        have hj2 := List.findIdx?_eq_some_iff_getElem.mp hj
        obtain ⟨hl, hp, hno⟩ := hj2
        refine mt_indexD (by omega) pins s0 σ0 H _ _ u us Q I rv rvs ⟨a, w, p, es, j, es[j], rfl, rfl, d1, d2, s1, s2, by simp [hl], hp, fun m z hm hz => ?_, to s.ρ _ _ .refl s.R rfl⟩
        obtain ⟨hl2, e3⟩ := List.getElem?_eq_some_iff.mp hz
        have := hno m hm
        rw [e3] at this
        simpa using this
      · cases e
    · cases e
  | tindex =>
    obtain ⟨y, rfl⟩ : ∃ y, ds = [y] := by
      match ds, e with
      | [y], _ => exact ⟨y, rfl⟩
      | [], e => cases e
      | _ :: _ :: _, e => cases e
    have e : mTix x y s.h = some (d, h') := e
    unfold mTix at e
    split at e
    · rename_i es p h1 h2
      split at e
      · rename_i j hj
        cases e
        obtain ⟨w, rfl, rw'⟩ := one_of rds
        obtain ⟨d1, s1⟩ := pyOf_ok hK s.R h1 rx
        obtain ⟨d2, s2⟩ := pyOf_ok hK s.R h2 rw'
        obtain ⟨a, rfl⟩ : ∃ a, v = .ref a := by cases d1; exact ⟨_, rfl⟩
        have hj2 := List.findIdx?_eq_some_iff_getElem.mp hj
        obtain ⟨hl, hp, hno⟩ := hj2
        refine mt_tix (by omega) pins s0 σ0 H _ _ u us Q I rv rvs ⟨a, w, p, es, j, es[j], rfl, rfl, d1, d2, s1, s2, by simp [hl], hp, fun m z hm hz => ?_, to s.ρ _ _ .refl s.R rfl⟩
        obtain ⟨hl2, e3⟩ := List.getElem?_eq_some_iff.mp hz
        have := hno m hm
        rw [e3] at this
        simpa using this
      · cases e
    · cases e
  | get => exact absurd rfl hm
  | update => exact absurd rfl hm
  | get2 => exact absurd rfl hm
  | insert => cases e
  | count => cases e
end
end Sw

set_option maxRecDepth 100000
set_option maxHeartbeats 1000000
/-! Sw5: expressions, one rule a construct. -/
namespace Sw
open PySem PySem.Spec PyProof.Rows L2
/-- what a def does, told by the evaluator -/
def spF (W : Wd) (call : Nat → List D → Nat → Store → Option (D × Store)) (f np : Nat) : Sp := fun vs H Q _ => ∃ (bs : List Nat) (ρ hid : List Addr) (h : Store) (b : Nat) (ds : List D) (d : D) (h' : Store),
  Rl W bs ρ hid h H ∧ (∀ β ∈ bs, β ≤ b) ∧ RelDs W ρ hid H ds vs ∧ ds.length = np ∧ call f ds b h = some (d, h') ∧
  ∀ ρ' v H', Ext ρ hid H ρ' H' → Rl W bs ρ' hid h' H' → RelD W ρ' hid H' d v → Q v H'
def gEq : D → D → Bool
  | .int i, .int j => decide (i = j)
  | .str i, .str j => decide (i = j)
  | .fn i, .fn j => decide (i = j)
  | _, _ => false
theorem gEq_ok : ∀ {a b : D}, gEq a b = true → a = b := by
  intro a b h
  cases a <;> cases b <;> simp_all [gEq]
-- names of the module: values, defs by their numbers
-- (a class: its attributes, its methods)
structure ClsT where
  id : Nat
  name : Str
  flds : List Str
  meths : List (Str × Nat)
  init : Option Nat
structure Gs where
  tab : List (Str × D)
  cls : List ClsT
def Gs.lookup (G : Gs) (x : Str) : Option D := G.tab.lookup x
def Gs.lookC (G : Gs) (c : Nat) : Option ClsT := G.cls.find? fun C => Nat.beq C.id c
def builtinNames : List Str := ["len", "list", "tuple", "sum", "all", "min", "max", "abs", "int", "sorted", "isinstance", "dict", "str", "bool", "range", "enumerate", "zip", "set"]
def FnX (P : Program) (w : World) (K : PySem.W.Frag) (mg : Str → Option Value) (base : Heap) (W : Wd) (np : Nat → Nat) (call : Nat → List D → Nat → Store → Option (D × Store)) (n f : Nat) : Prop :=
  ∃ (k : Nat) (fd : FuncData) (ps : List Str), FnOk P w K mg base CX0 k (W.fnA f) fd ps (spF W call f (np f)) ∧ k + 1 ≤ n ∧ Binds K fd ps []
structure Md (P : Program) (w : World) (K : PySem.W.Frag) (mg : Str → Option Value) (base : Heap) (W : Wd) (G : Gs) (np : Nat → Nat) (call : Nat → List D → Nat → Store → Option (D × Store)) (n : Nat) : Prop where
  K_ : W.K = K
  val : ∀ x d, G.lookup x = some d → ∃ v u, mg x = some u ∧ RelV v u ∧ ∀ ρ hid H, RelD W ρ hid H d v
  fn : ∀ x f, G.lookup x = some (.fn f) → ∃ (k : Nat) (fd : FuncData) (ps : List Str), FnOk P w K mg base CX0 k (W.fnA f) fd ps (spF W call f (np f)) ∧ k ≤ n ∧ mg x = some (.ref (W.fnA f)) ∧ PySem.W.keepIn K (.ref (W.fnA f)) = true ∧ Binds K fd ps []
  free : ∀ x ∈ builtinNames, mg x = none
  cls : ∀ i C, G.lookC i = some C → Cls K (W.cA i) ∧ (∀ f ∈ C.flds, NoAttr K (W.cA i) f) ∧ (∀ m f, C.meths.lookup m = some f → Meth K (W.cA i) m (W.fnA f) ∧ FnX P w K mg base W np call n f) ∧
    ∀ f, C.init = some f → Mk K (W.cA i) (W.fnA f) ∧ mg C.name = some (.ref (W.cA i)) ∧ FnX P w K mg base W np call n f
structure Okx (X : Cx) (W : Wd) (N : List Str) (G : Gs) (np : Nat → Nat) (c : Cfg) (sc : Scope) : Prop where
  N_ : X.N = N
  nd : N.Nodup
  sc_ : X.env.scope = sc
  kind : sc.kind = .function
  calm : X.calm = true
  hu : X.A.units + 66 < cLine
  m : ∃ n, Md X.prog X.w X.K X.mg X.base W G np c.call n ∧ Room n X.A
def Es.len : Es → Nat
  | .nil => 0
  | .cons _ es => es.len + 1
def visB (sc : Scope) (x : Str) : Bool := match sc.names.lookup x with
  | some .local => true
  | some .cell => true
  | some .free => true
  | _ => false
def glB (sc : Scope) (x : Str) : Bool := decide (sc.names.lookup x = some .globalImplicit)
def nmOk (x : Str) : Bool := !(x == ("__debug__" : Str)) && !(x == ("__classdict__" : Str)) && !decide (x = ("__name__" : Str))
def notStar : Expr → Bool
  | .Starred .. => false
  | _ => true
def plainSub : Expr → Bool
  | .Slice .. => false
  | _ => true
def plainBase : Expr → Bool
  | .Call (.Name _ _) [] [] _ => false
  | _ => true
def plainTest : Expr → Bool
  | .UnaryOp .Not _ _ => false
  | .BoolOp .. => false
  | .IfExp .. => false
  | .Compare .. => false
  | _ => true
def notSet : Expr → Bool
  | .Set .. => false
  | _ => true
def notLc : Expr → Bool
  | .ListComp .. => false
  | .SetComp .. => false
  | .DictComp .. => false
  | _ => true
section
variable {X : Cx} {W : Wd} {N : List Str} {G : Gs} {np : Nat → Nat} {c : Cfg} {sc : Scope}
theorem vis_ok (o : Okx X W N G np c sc) {x : Str} (h : visB sc x = true) : Vis X.env.scope x := by
  unfold Vis
  rw [o.sc_]
  unfold visB at h
  split at h
  · exact .inl (by assumption)
  · exact .inr (.inl (by assumption))
  · exact .inr (.inr (by assumption))
  · cases h
theorem gl_ok (o : Okx X W N G np c sc) {x : Str} (h : glB sc x = true) : Gl X x := by
  show X.env.scope.names.lookup x = some .globalImplicit
  rw [o.sc_]
  exact of_decide_eq_true h
theorem nm_ok {x : Str} (h : nmOk x = true) : (x == ("__debug__" : Str)) = false ∧ (x == ("__classdict__" : Str)) = false ∧ x ≠ ("__name__" : Str) := by
  unfold nmOk at h
  simp only [Bool.and_eq_true, Bool.not_eq_true'] at h
  exact ⟨h.1.1, h.1.2, of_decide_eq_false h.2⟩
theorem star_ok {e : Expr} (h : notStar e = true) (es : List Expr) (env : PySem.Env) : starEach (e :: es) env = (false, eval e env) :: starEach es env := by
  cases e <;> first | rfl | cases h
theorem stars_ok : ∀ {r : List Expr} (h : r.all notStar = true) (pos : Pos) {env : PySem.Env}, (backTo pos (starEach r env)).any (·.1) = false
  | [], _, _, _ => rfl
  | e :: r, h, pos, env => by
    rw [List.all_cons, Bool.and_eq_true] at h
    rw [star_ok h.1]
    show (false || (backTo pos (starEach r env)).any (·.1)) = false
    rw [stars_ok h.2 pos]
    rfl
theorem es_len : ∀ {es : Es} {env : Env} {h : Store} {ds : List D} {h' : Store}, evEs c es env h = some (ds, h') → ds.length = es.len
  | .nil, _, _, _, _, e => by
    simp only [evEs, Option.some.injEq, Prod.mk.injEq] at e
    rw [← e.1]
    rfl
  | .cons a es, env, h, ds, h', e => by
    unfold evEs at e
    split at e
    · split at e
      · rename_i dr h2 e2
        cases e
        rw [List.length_cons, es_len e2]
        rfl
      · cases e
    · cases e
theorem sub_ok {e : Expr} (h : plainSub e = true) (o i : Value) : subscripted e false o i = operate [o, i] (getItem o i) := by
  cases e <;> first | rfl | cases h
theorem base_ok {e : Expr} (h : plainBase e = true) (m : Str) (env : PySem.Env) (wh : Sem Value) : attributeBase e m env wh = wh := by
  unfold attributeBase
  split
  · cases h
  · rfl
theorem test_ok {e : Expr} (h : plainTest e = true) (env : PySem.Env) (wh : Sem Value) : isTrue e env wh = (do let v ← wh; standAt e.pos; holding [v] (truthy v)) := by
  cases e with
  | UnaryOp op x p => cases op <;> first | rfl | cases h
  | _ => first | rfl | cases h
theorem fset_ok {e : Expr} (h : notSet e = true) (env : PySem.Env) (x : Value) : foldedSetIterable e env x = pure x := by
  cases e <;> first | rfl | cases h
theorem Okx.K (o : Okx X W N G np c sc) : W.K = X.K := let ⟨_, m, _⟩ := o.m; m.K_

/-! ### names, constants -/
theorem s_var (o : Okx X W N G np c sc) {i : Nat} {x : Str} {p : Pos} (hi : N[i]? = some x) (hv : visB sc x = true) (hn : nmOk x = true) : PE X (.Name x p) (tI W c (.var i)) := by
  obtain ⟨h1, h2, _⟩ := nm_ok hn
  refine (pe_var (i := i) (by rw [o.N_]; exact hi) (vis_ok o hv) h1 h2).imp ?_
  rintro σ H Q ⟨s, d, h', e, to⟩
  unfold evE at e
  split at e
  · rename_i d' e1
    cases e
    obtain ⟨v, e2, r⟩ := s.re.at_ i _ e1
    exact ⟨v, e2, to s.ρ v H .refl s.R r⟩
  · cases e
theorem s_non {j} {p : Pos} : PE X (.Constant .none j p) (tI W c .non) := by
  refine pe_non.imp ?_
  rintro σ H Q ⟨s, d, h', e, to⟩
  simp only [evE, Option.some.injEq, Prod.mk.injEq] at e
  obtain ⟨rfl, rfl⟩ := e
  exact to s.ρ _ H .refl s.R rfl
theorem s_bl {b : Bool} {j} {p : Pos} : PE X (.Constant (.bool b) j p) (tI W c (.bl b)) := by
  refine pe_bl.imp ?_
  rintro σ H Q ⟨s, d, h', e, to⟩
  simp only [evE, Option.some.injEq, Prod.mk.injEq] at e
  obtain ⟨rfl, rfl⟩ := e
  exact to s.ρ _ H .refl s.R rfl
theorem s_int {b : Int} {j} {p : Pos} : PE X (.Constant (.int b) j p) (tI W c (.int b)) := by
  refine pe_int.imp ?_
  rintro σ H Q ⟨s, d, h', e, to⟩
  simp only [evE, Option.some.injEq, Prod.mk.injEq] at e
  obtain ⟨rfl, rfl⟩ := e
  exact to s.ρ _ H .refl s.R rfl
theorem s_str {b : Str} {j} {p : Pos} : PE X (.Constant (.str b) j p) (tI W c (.str b)) := by
  refine pe_str.imp ?_
  rintro σ H Q ⟨s, d, h', e, to⟩
  simp only [evE, Option.some.injEq, Prod.mk.injEq] at e
  obtain ⟨rfl, rfl⟩ := e
  exact to s.ρ _ H .refl s.R rfl
theorem s_glo (o : Okx X W N G np c sc) {x : Str} {d : D} {p : Pos} (hg : glB sc x = true) (hn : nmOk x = true) (hl : G.lookup x = some d) : PE X (.Name x p) (tI W c (.glo x d)) := by
  obtain ⟨n, m, _⟩ := o.m
  obtain ⟨v, u, hm, r, q⟩ := m.val x d hl
  refine (pe_glob (gl_ok o hg) hm r (nm_ok hn).1).imp ?_
  rintro σ H Q ⟨s, d', h', e, to⟩
  simp only [evE, Option.some.injEq, Prod.mk.injEq] at e
  obtain ⟨rfl, rfl⟩ := e
  exact to s.ρ _ H .refl s.R (q _ _ _)

/-! ### operators -/
theorem s_neg {e : Expr} {a : E} {p : Pos} (ha : PE X e (tI W c a)) : PE X (.UnaryOp .USub e p) (tI W c (.neg a)) := by
  refine (pe_un un_neg ha).imp ?_
  rintro σ H Q ⟨s, d, h', e, to⟩
  unfold evE at e
  split at e
  · rename_i i h1 e1
    cases e
    refine ⟨s, _, _, e1, fun ρ' v H' x R r => ⟨i, r, to ρ' _ H' x R rfl⟩⟩
  · cases e
theorem s_not {e : Expr} {a : E} {p : Pos} (ha : PE X e (tI W c a)) : PE X (.UnaryOp .Not e p) (tI W c (.nt a)) := by
  refine (pe_not ha).imp ?_
  rintro σ H Q ⟨s, d, h', e, to⟩
  unfold evE at e
  split at e
  · rename_i i h1 e1
    cases e
    refine ⟨s, _, _, e1, fun ρ' v H' x R r => ⟨i, r, to ρ' _ H' x R rfl⟩⟩
  · cases e
theorem s_bin (o : Okx X W N G np c sc) {x y : Expr} {a b : E} {op : Bop} {m : Bool} {p : Pos} (ha : PE X x (tI W c a)) (hb : PE X y (tI W c b)) : PE X (.BinOp x op.py y p) (tI W c (.bin op m a b)) := by
  refine ⟨fun pins s0 σ0 H0 Q I h => ?_⟩
  refine (pe_op (binop_ok (W := W) (c := c) (σ := σ0) o.K op m) ha hb).run pins s0 σ0 H0 Q I ?_
  obtain ⟨s, d, h', e, to⟩ := h
  unfold evE at e
  split at e
  · rename_i dx h1 e1
    split at e
    · rename_i dy h2 e2
      refine ⟨s, dx, h1, e1, fun ρ1 v H1 x1 R1 r1 => ⟨s.go x1 R1, dy, h2, e2, fun ρ2 w H2 x2 R2 r2 => ?_⟩⟩
      exact ⟨(s.go x1 R1).go x2 R2, dx, dy, d, h', r1.mono x2, r2, e, (to.go x1 R1).go x2 R2⟩
    · cases e
  · cases e
theorem s_cmp (o : Okx X W N G np c sc) {x y : Expr} {a b : E} {op : Cop} {p : Pos} (hv : op.val = true) (hm : behindInMarks op.py y = false) (ha : PE X x (tI W c a)) (hb : PE X y (tI W c b)) : PE X (.Compare x [op.py] [y] p) (tI W c (.cmp op a b)) := by
  refine ⟨fun pins s0 σ0 H0 Q I h => ?_⟩
  refine (pe_cmpR (cmp_ok (W := W) (c := c) (σ := σ0) o.K o.hu op hv) ha hb hm).run pins s0 σ0 H0 Q I ?_
  obtain ⟨s, d, h', e, to⟩ := h
  unfold evE at e
  split at e
  · rename_i dx h1 e1
    split at e
    · rename_i dy h2 e2
      obtain ⟨k, e3, e4⟩ := Option.map_eq_some_iff.mp e
      cases e4
      refine ⟨s, dx, h1, e1, fun ρ1 v H1 x1 R1 r1 => ⟨s.go x1 R1, dy, _, e2, fun ρ2 w H2 x2 R2 r2 => ?_⟩⟩
      exact ⟨(s.go x1 R1).go x2 R2, dx, dy, k, r1.mono x2, r2, e3, to ρ2 _ H2 (x1.trans x2) R2 rfl⟩
    · cases e
  · cases e
theorem s_chn (o : Okx X W N G np c sc) {x y z : Expr} {a b f : E} {op op' : Cop} {p : Pos} (hv : op.val = true) (hv' : op'.val = true) (ha : PE X x (tI W c a)) (hb : PE X y (tI W c b)) (hc : PE X z (tI W c f))
    (hm : lastMarks [op.py, op'.py] [y, z] = false) : PE X (.Compare x [op.py, op'.py] [y, z] p) (tI W c (.chn op op' a b f)) := by
  refine ⟨fun pins s0 σ0 H0 Q I h => ?_⟩
  refine (pe_chain (cmp_ok (W := W) (c := c) (σ := σ0) o.K o.hu op hv) (cmp_ok (W := W) (c := c) (σ := σ0) o.K o.hu op' hv') ha hb hc hm).run pins s0 σ0 H0 Q I ?_
  exact chn_t h
where
  chn_t {W : Wd} {c : Cfg} {a b f : E} {op op' : Cop} {σ : L2.St} {H : Hp} {Q : VK} (h : tI W c (.chn op op' a b f) σ H Q) : tChain (rCmp W c σ op) (rCmp W c σ op') (tI W c a) (tI W c b) (tI W c f) σ H Q := by
    obtain ⟨s, d, h', e, to⟩ := h
    unfold evE at e
    split at e
    · rename_i dx h1 e1
      split at e
      · rename_i dy h2 e2
        split at e
        · rename_i e3
          split at e
          · rename_i dz h3 e4
            obtain ⟨k, e5, e6⟩ := Option.map_eq_some_iff.mp e
            cases e6
            refine ⟨s, dx, h1, e1, fun ρ1 v H1 x1 R1 r1 => ⟨s.go x1 R1, dy, _, e2, fun ρ2 w H2 x2 R2 r2 => ?_⟩⟩
            refine ⟨(s.go x1 R1).go x2 R2, dx, dy, true, r1.mono x2, r2, e3, true, rfl, ?_⟩
            rw [if_pos rfl]
            refine ⟨(s.go x1 R1).go x2 R2, dz, _, e4, fun ρ3 z H3 x3 R3 r3 => ?_⟩
            exact ⟨((s.go x1 R1).go x2 R2).go x3 R3, dy, dz, k, r2.mono x3, r3, e5, to ρ3 _ H3 ((x1.trans x2).trans x3) R3 rfl⟩
          · cases e
        · rename_i e3
          cases e
          refine ⟨s, dx, h1, e1, fun ρ1 v H1 x1 R1 r1 => ⟨s.go x1 R1, dy, _, e2, fun ρ2 w H2 x2 R2 r2 => ?_⟩⟩
          refine ⟨(s.go x1 R1).go x2 R2, dx, dy, false, r1.mono x2, r2, e3, false, rfl, ?_⟩
          rw [if_neg Bool.false_ne_true]
          exact to ρ2 _ H2 (x1.trans x2) R2 rfl
        · cases e
      · cases e
    · cases e
theorem tb_of {e : E} {σ : L2.St} {H : Hp} {Q : Bool → Hp → Prop} (h : tIb W c e σ H Q) : tI W c e σ H (fun v H' => ∃ k, v = .bl k ∧ Q k H') := by
  obtain ⟨s, k, h', e, to⟩ := h
  exact ⟨s, _, h', e, fun ρ' v H' x R r => ⟨k, r, to ρ' H' x R⟩⟩
theorem t_cmp (o : Okx X W N G np c sc) {x y : Expr} {a b : E} {op : Cop} {p : Pos} (hv : op.val = true) (hm : behindInMarks op.py y = false) (ha : PE X x (tI W c a)) (hb : PE X y (tI W c b)) : PT X (.Compare x [op.py] [y] p) (tIb W c (.cmp op a b)) := by
  refine ⟨fun pins s0 σ0 H0 Q I h => ?_⟩
  refine (pt_cmpR (cmp_ok (W := W) (c := c) (σ := σ0) o.K o.hu op hv) ha hb hm).run pins s0 σ0 H0 Q I ?_
  obtain ⟨s, d, h', e, to⟩ := tb_of h
  unfold evE at e
  split at e
  · rename_i dx h1 e1
    split at e
    · rename_i dy h2 e2
      obtain ⟨k, e3, e4⟩ := Option.map_eq_some_iff.mp e
      cases e4
      refine ⟨s, dx, h1, e1, fun ρ1 v H1 x1 R1 r1 => ⟨s.go x1 R1, dy, _, e2, fun ρ2 w H2 x2 R2 r2 => ?_⟩⟩
      exact ⟨(s.go x1 R1).go x2 R2, dx, dy, k, r1.mono x2, r2, e3, to ρ2 _ H2 (x1.trans x2) R2 rfl⟩
    · cases e
  · cases e
theorem t_chn (o : Okx X W N G np c sc) {x y z : Expr} {a b f : E} {op op' : Cop} {p : Pos} (hv : op.val = true) (hv' : op'.val = true) (ha : PE X x (tI W c a)) (hb : PE X y (tI W c b)) (hc : PE X z (tI W c f))
    (hm : lastMarks [op.py, op'.py] [y, z] = false) : PT X (.Compare x [op.py, op'.py] [y, z] p) (tIb W c (.chn op op' a b f)) := by
  refine ⟨fun pins s0 σ0 H0 Q I h => ?_⟩
  refine (pt_chain (cmp_ok (W := W) (c := c) (σ := σ0) o.K o.hu op hv) (cmp_ok (W := W) (c := c) (σ := σ0) o.K o.hu op' hv') ha hb hc hm).run pins s0 σ0 H0 Q I ?_
  exact s_chn.chn_t (tb_of h)
/-- any other expression as a test -/
theorem t_val {x : Expr} {a : E} (ht : plainTest x = true) (ha : PE X x (tI W c a)) : PT X x (tIb W c a) :=
  (pt_val ha (test_ok ht _)).imp fun _ _ _ h => tb_of h
theorem t_not {e : Expr} {a : E} {p : Pos} (ha : PT X e (tIb W c a)) : PT X (.UnaryOp .Not e p) (tIb W c (.nt a)) := by
  refine (pt_not ha).imp ?_
  rintro σ H Q ⟨s, k, h', e, to⟩
  unfold evE at e
  split at e
  · rename_i i h1 e1
    cases e
    exact ⟨s, i, _, e1, fun ρ' H' x R => to ρ' H' x R⟩
  · cases e

/-! ### and, or, if -/
theorem and_v {a b : E} {σ : L2.St} {H : Hp} {Q : VK} (h : tI W c (.and a b) σ H Q) : tAndV (tI W c a) (tI W c b) σ H Q := by
  obtain ⟨s, d, h', e, to⟩ := h
  unfold evE at e
  split at e
  · rename_i h1 e1
    exact ⟨s, _, h1, e1, fun ρ' v H' x R r => ⟨true, r, by show ite (true = true) _ _; rw [if_pos rfl]; exact ⟨s.go x R, d, h', e, to.go x R⟩⟩⟩
  · rename_i h1 e1
    cases e
    exact ⟨s, _, _, e1, fun ρ' v H' x R r => ⟨false, r, by show ite (false = true) _ _; rw [if_neg Bool.false_ne_true]; exact to ρ' _ H' x R rfl⟩⟩
  · cases e
theorem or_v {a b : E} {σ : L2.St} {H : Hp} {Q : VK} (h : tI W c (.or a b) σ H Q) : tOrV (tI W c a) (tI W c b) σ H Q := by
  obtain ⟨s, d, h', e, to⟩ := h
  unfold evE at e
  split at e
  · rename_i h1 e1
    exact ⟨s, _, h1, e1, fun ρ' v H' x R r => ⟨false, r, by show ite (false = true) _ _; rw [if_neg Bool.false_ne_true]; exact ⟨s.go x R, d, h', e, to.go x R⟩⟩⟩
  · rename_i h1 e1
    cases e
    exact ⟨s, _, _, e1, fun ρ' v H' x R r => ⟨true, r, by show ite (true = true) _ _; rw [if_pos rfl]; exact to ρ' _ H' x R rfl⟩⟩
  · cases e
theorem s_and {x y : Expr} {r : List Expr} {a b : E} {p : Pos} (ha : PE X x (tI W c a)) (hb : PE X (.BoolOp .And (y :: r) p) (tI W c b)) : PE X (.BoolOp .And (x :: y :: r) p) (tI W c (.and a b)) := (pe_and ha hb).imp fun _ _ _ h => and_v h
theorem s_or {x y : Expr} {r : List Expr} {a b : E} {p : Pos} (ha : PE X x (tI W c a)) (hb : PE X (.BoolOp .Or (y :: r) p) (tI W c b)) : PE X (.BoolOp .Or (x :: y :: r) p) (tI W c (.or a b)) := (pe_or ha hb).imp fun _ _ _ h => or_v h
theorem and_t {a b : E} {σ : L2.St} {H : Hp} {Q : Bool → Hp → Prop} (h : tIb W c (.and a b) σ H Q) : tAnd (tIb W c a) (tIb W c b) σ H Q := by
  obtain ⟨s, k, h', e, to⟩ := h
  unfold evE at e
  split at e
  · rename_i h1 e1
    exact ⟨s, true, h1, e1, fun ρ' H' x R => by show ite (true = true) _ _; rw [if_pos rfl]; exact ⟨s.go x R, k, h', e, to.go x R⟩⟩
  · rename_i h1 e1
    cases e
    exact ⟨s, false, _, e1, fun ρ' H' x R => by show ite (false = true) _ _; rw [if_neg Bool.false_ne_true]; exact to ρ' H' x R⟩
  · cases e
theorem or_t {a b : E} {σ : L2.St} {H : Hp} {Q : Bool → Hp → Prop} (h : tIb W c (.or a b) σ H Q) : tOr (tIb W c a) (tIb W c b) σ H Q := by
  obtain ⟨s, k, h', e, to⟩ := h
  unfold evE at e
  split at e
  · rename_i h1 e1
    exact ⟨s, false, h1, e1, fun ρ' H' x R => by show ite (false = true) _ _; rw [if_neg Bool.false_ne_true]; exact ⟨s.go x R, k, h', e, to.go x R⟩⟩
  · rename_i h1 e1
    cases e
    exact ⟨s, true, _, e1, fun ρ' H' x R => by show ite (true = true) _ _; rw [if_pos rfl]; exact to ρ' H' x R⟩
  · cases e
theorem s_ife {t x y : Expr} {f a b : E} {p : Pos} (ht : PT X t (tIb W c f)) (ha : PE X x (tI W c a)) (hb : PE X y (tI W c b)) : PE X (.IfExp t x y p) (tI W c (.ife f a b)) := by
  refine (pe_ifExp ht ha hb).imp ?_
  rintro σ H Q ⟨s, d, h', e, to⟩
  unfold evE at e
  split at e
  · rename_i h1 e1
    exact ⟨s, true, h1, e1, fun ρ' H' x R => by show ite (true = true) _ _; rw [if_pos rfl]; exact ⟨s.go x R, d, h', e, to.go x R⟩⟩
  · rename_i h1 e1
    exact ⟨s, false, h1, e1, fun ρ' H' x R => by show ite (false = true) _ _; rw [if_neg Bool.false_ne_true]; exact ⟨s.go x R, d, h', e, to.go x R⟩⟩
  · cases e

/-! ### arguments, displays -/
theorem a_nil : PA X [] (tIs W c .nil) := by
  refine pa_nil.imp ?_
  rintro σ H Q ⟨s, d, h', e, to⟩
  simp only [evEs, Option.some.injEq, Prod.mk.injEq] at e
  obtain ⟨rfl, rfl⟩ := e
  exact to s.ρ _ H .refl s.R rfl
theorem a_cons {x : Expr} {r : List Expr} {a : E} {es : Es} (ha : PE X x (tI W c a)) (hr : PA X r (tIs W c es)) (hs : notStar x = true) : PA X (x :: r) (tIs W c (.cons a es)) := by
  refine (pa_cons ha hr (star_ok hs _ _)).imp ?_
  rintro σ H Q ⟨s, ds, h', e, to⟩
  unfold evEs at e
  split at e
  · rename_i d h1 e1
    split at e
    · rename_i dr h2 e2
      cases e
      refine ⟨s, d, h1, e1, fun ρ1 v H1 x1 R1 r1 => ⟨s.go x1 R1, dr, _, e2, fun ρ2 ws H2 x2 R2 r2 => ?_⟩⟩
      exact to ρ2 _ H2 (x1.trans x2) R2 ⟨v, ws, rfl, r1.mono x2, r2⟩
    · cases e
  · cases e
theorem s_tup {xs : List Expr} {es : Es} {k} {p : Pos} (ha : PA X xs (tIs W c es)) : PE X (.Tuple xs k p) (tI W c (.tup es)) := by
  refine (pe_tupF ha).imp ?_
  rintro σ H Q ⟨s, d, h', e, to⟩
  unfold evE at e
  split at e
  · rename_i ds h1 e1
    split at e
    · rename_i hz
      cases e
      refine ⟨s, ds, _, e1, fun ρ1 vs H1 x1 R1 r1 => ⟨by rw [← r1.length]; exact hz, fun p o od hp => ?_⟩⟩
      obtain ⟨x2, R2, r2⟩ := mkT_ok R1 od hp r1
      exact to ρ1 _ _ (x1.trans x2) R2 r2
    · cases e
  · cases e
theorem s_lst {m : Bool} {xs : List Expr} {es : Es} {p : Pos} (ha : PA X xs (tIs W c es)) : PE X (.List xs p) (tI W c (.lst m es)) := by
  refine (pe_lst ha).imp ?_
  rintro σ H Q ⟨s, d, h', e, to⟩
  unfold evE at e
  split at e
  · rename_i ds h1 e1
    split at e
    · rename_i hz
      refine ⟨s, ds, _, e1, fun ρ1 vs H1 x1 R1 r1 => ⟨by rw [← r1.length]; exact hz, fun p hp => ?_⟩⟩
      obtain ⟨ρ2, x2, R2, r2⟩ := mkL_ok R1 hp r1 m (Option.some.inj e)
      exact to ρ2 _ _ (x1.trans x2) R2 r2
    · cases e
  · cases e
theorem s_dnew0 {p : Pos} : PE X (.Dict [] [] p) (tI W c (.dnew [] .nil)) := by
  refine pe_dnewK.imp ?_
  rintro σ H Q ⟨s, d, h', e, to⟩
  simp only [evE, evEs, List.length_nil, true_and, List.nodup_nil, if_true, List.zip_nil_left] at e
  cases e
  intro p hp
  have x2 := ext_push (u := .dK []) s.R hp
  refine to (s.ρ ++ [p]) _ _ x2 (s.R.push hp ⟨[], upd_same, rfl, rfl⟩) ⟨p, ?_, rfl⟩
  rw [← s.R.len]
  simp

/-! ### subscripts, slices -/
theorem s_ix (o : Okx X W N G np c sc) {x y : Expr} {a b : E} {p : Pos} (ha : PE X x (tI W c a)) (hb : PE X y (tI W c b)) (hs : plainSub y = true) : PE X (.Subscript x y p) (tI W c (.ix a b)) := by
  refine ⟨fun pins s0 σ0 H0 Q I h => ?_⟩
  refine (pe_ix (ix_ok (W := W) (c := c) (σ := σ0) o.K) ha hb (sub_ok hs)).run pins s0 σ0 H0 Q I ?_
  obtain ⟨s, d, h', e, to⟩ := h
  unfold evE at e
  split at e
  · rename_i dx h1 e1
    split at e
    · rename_i i h2 e2
      refine ⟨s, dx, h1, e1, fun ρ1 v H1 x1 R1 r1 => ⟨s.go x1 R1, .int i, h2, e2, fun ρ2 w H2 x2 R2 r2 => ?_⟩⟩
      split at e
      · rename_i z
        split at e
        · rename_i hz
          obtain ⟨k, e3, e4⟩ := Option.map_eq_some_iff.mp e
          cases e4
          exact ⟨(s.go x1 R1).go x2 R2, _, _, i, r1.mono x2, r2, by simp only [hz, if_true, e3]; rfl, (to.go x1 R1).go x2 R2⟩
        · cases e
      · split at e
        · rename_i ds e3
          obtain ⟨k, e4, e5⟩ := Option.map_eq_some_iff.mp e
          cases e5
          refine ⟨(s.go x1 R1).go x2 R2, dx, _, i, r1.mono x2, r2, ?_, (to.go x1 R1).go x2 R2⟩
          cases dx with
          | str z => exact (‹∀ (z' : Str), D.str z = D.str z' → False› z rfl).elim
          | _ => simp only [Sit.go, e3]; exact e4
        · cases e
    · cases e
  · cases e
theorem o_none : PO X none tNoPart := po_none
theorem s_dix (o : Okx X W N G np c sc) {x y : Expr} {a b : E} {p : Pos} (ha : PE X x (tI W c a)) (hb : PE X y (tI W c b)) (hs : plainSub y = true) : PE X (.Subscript x y p) (tI W c (.dix a b)) := by
  refine (pe_dget (by have := o.hu; omega) ha hb (sub_ok hs)).imp ?_
  rintro σ H Q ⟨s, d, h', e, to⟩
  unfold evE at e
  split at e
  · rename_i dx h1 e1
    split at e
    · rename_i dy h2 e2
      split at e
      · rename_i kvs k e3 e4
        obtain ⟨z, e5, e6⟩ := Option.map_eq_some_iff.mp e
        cases e6
        refine ⟨s, dx, h1, e1, fun ρ1 v H1 x1 R1 r1 => ⟨s.go x1 R1, dy, _, e2, fun ρ2 w H2 x2 R2 r2 => ?_⟩⟩
        obtain ⟨a, kws, rfl, ha, hk, q⟩ := getK_ok R2 e3 (r1.mono x2)
        rcases look_ok k hk q with ⟨n1, n2⟩ | ⟨d2, v2, n1, n2, rz⟩
        · rw [n1] at e5
          cases e5
        · rw [n1] at e5
          cases e5
          refine ⟨a, v2, rfl, .inl ⟨kws, k, ha, dKey_ok e4 r2, n2.symm⟩, to ρ2 _ H2 (x1.trans x2) R2 rz⟩
      · cases e
    · cases e
  · cases e
/-- a part of a slice -/
def tOi (W : Wd) (c : Cfg) (eo : Eo) : TO := fun σ H Q => ∃ (s : Sit W c σ H) (l : Option Int) (h' : Store), evO c eo s.env s.h = some (l, h') ∧ s.Tb h' (Q l)
theorem o_non : PO X none (tOi W c .none) := by
  refine ⟨fun pins s σ H Q I h => po_none.run pins s σ H Q I ?_⟩
  obtain ⟨s, l, h', e, to⟩ := h
  simp only [evO, Option.some.injEq, Prod.mk.injEq] at e
  obtain ⟨rfl, rfl⟩ := e
  exact to s.ρ H .refl s.R
theorem o_som {x : Expr} {a : E} (ha : PE X x (tI W c a)) : PO X (some x) (tOi W c (.some a)) := by
  refine ⟨fun pins s σ H Q I h => (po_some ha).run pins s σ H Q I ?_⟩
  obtain ⟨s, l, h', e, to⟩ := h
  unfold evO at e
  split at e
  · rename_i i h1 e1
    cases e
    exact ⟨s, _, _, e1, fun ρ' v H' x R r => ⟨i, r, to ρ' H' x R⟩⟩
  · cases e
theorem s_sl (o : Okx X W N G np c sc) {m : Bool} {x : Expr} {lo hi : Option Expr} {a : E} {l u : Eo} {p p2 : Pos} (ha : PE X x (tI W c a)) (hl : PO X lo (tOi W c l)) (hu : PO X hi (tOi W c u)) : PE X (.Subscript x (.Slice lo hi none p2) p) (tI W c (.sl m a l u)) := by
  refine ⟨fun pins s0 σ0 H0 Q I h => ?_⟩
  refine (pe_slice (sl_ok (W := W) (c := c) (σ := σ0) o.K m) ha hl hu).run pins s0 σ0 H0 Q I ?_
  obtain ⟨s, d, h', e, to⟩ := h
  unfold evE at e
  split at e
  · rename_i dx h1 e1
    split at e
    · rename_i li h2 e2
      split at e
      · rename_i ui h3 e3
        refine ⟨s, dx, h1, e1, fun ρ1 v H1 x1 R1 r1 => ⟨s.go x1 R1, li, h2, e2, fun ρ2 H2 x2 R2 => ⟨(s.go x1 R1).go x2 R2, ui, h3, e3, fun ρ3 H3 x3 R3 => ?_⟩⟩⟩
        refine ⟨((s.go x1 R1).go x2 R2).go x3 R3, dx, d, h', (r1.mono x2).mono x3, ?_, ((to.go x1 R1).go x2 R2).go x3 R3⟩
        cases dx with
        | tup ds => exact e
        | _ => exact e
      · cases e
    · cases e
  · cases e

/-! ### xs[lo:hi:st] -/
def tSl3 (K : PySem.W.Frag) (te : TE) (tl tu ts : TO) : TE := fun σ H Q => te σ H fun x H1 => tl σ H1 fun l H2 => tu σ H2 fun u H3 => ts σ H3 fun o H4 => ∃ a xs, x = .ref a ∧ o ≠ some 0 ∧ SqL K H4 a xs ∧ ∀ p, H4 p = none → Q (.ref p) (upd H4 p (.lst (pickD xs l u o)))
theorem vals_at : ∀ {xs : List V} {us : List Value}, Vals xs us → ∀ i : Nat, (xs[i]? = none ∧ us[i]? = none) ∨ ∃ x u, xs[i]? = some x ∧ us[i]? = some u ∧ RelV x u
  | _, _, .nil, i => .inl ⟨by simp, by simp⟩
  | _, _, .cons r rs, 0 => .inr ⟨_, _, rfl, rfl, r⟩
  | _, _, .cons r rs, i + 1 => by simpa using vals_at rs i
theorem vals_pick {xs : List V} {us : List Value} (r : Vals xs us) : ∀ is : List Nat, Vals (is.filterMap (xs[·]?)) (is.filterMap (us[·]?))
  | [] => .nil
  | i :: is => by
    rcases vals_at r i with ⟨e1, e2⟩ | ⟨x, u, e1, e2, q⟩
    · rw [List.filterMap_cons_none e1, List.filterMap_cons_none e2]
      exact vals_pick r is
    · rw [List.filterMap_cons_some e1, List.filterMap_cons_some e2]
      exact .cons q (vals_pick r is)
theorem rels_pick {ρ hid : List Addr} {H : Hp} {ds : List D} {vs : List V} (r : RelDs W ρ hid H ds vs) : ∀ is : List Nat, RelDs W ρ hid H (is.filterMap (ds[·]?)) (is.filterMap (vs[·]?))
  | [] => rfl
  | i :: is => by
    cases e1 : ds[i]? with
    | none =>
      have e2 : vs[i]? = none := by
        rw [List.getElem?_eq_none_iff] at e1 ⊢
        rw [← r.length]
        exact e1
      rw [List.filterMap_cons_none e1, List.filterMap_cons_none e2]
      exact rels_pick r is
    | some d =>
      obtain ⟨v, e2, q⟩ := r.get e1
      rw [List.filterMap_cons_some e1, List.filterMap_cons_some e2]
      exact ⟨v, _, rfl, q, rels_pick r is⟩
theorem pe_sl3 {e st : Expr} {lo hi : Option Expr} {te : TE} {tl tu ts : TO} {p3 pos : Pos} (he : PE X e te) (hl : PO X lo tl) (hu : PO X hi tu) (hs : PO X (some st) ts) : PE X (.Subscript e (.Slice lo hi (some st) p3) pos) (tSl3 X.K te tl tu ts) := by
  refine ⟨fun pins s σ H Q I h => ?_⟩
  refine Subscript_ (thn (he.run pins s σ H _ I h) fun v s1 ⟨x, H1, I1, r1, q1⟩ => ?_)
  refine wpAny_Slice (thn (hl.run pins s1 σ H1 _ I1 q1) fun vl s2 ⟨l, H2, I2, pl, q2⟩ => ?_)
  refine thn (hu.run pins s2 σ H2 _ I2 q2) fun vu s3 ⟨u, H3, I3, pu, q3⟩ => ?_
  refine thn (hs.run pins s3 σ H3 _ I3 q3) fun vs s4 ⟨o, H4, I4, ps, q4⟩ => ?_
  obtain ⟨a, xs, ex, h0, hx, q⟩ := q4
  subst ex
  cases r1
  have I5 : Inv X pins σ H4 { s4 with heap := s4.heap.push { cls := .type "slice", data := .fields #[vl, vu, vs] } } := I4.kept (t' := s4.toks) fun b ob q => Heap.get?_push_of_some _ q
  obtain ⟨its, r, ht, hz⟩ := I5.list hx
  have hlen := r.length
  show wpAny (model X.prog X.w) X.A (subscriptTail e (.Slice lo hi (some st) p3) (.ref a) (.ref s4.heap.objs.size)) (EP X pins σ Q) X.xe { s4 with heap := s4.heap.push { cls := .type "slice", data := .fields #[vl, vu, vs] } }
  refine tail_any (ops := [.ref a, .ref s4.heap.objs.size]) ht.isList.typeIs (PySem.slot_list_getitem.lookup) ?_ (by with_unfolding_all rfl)
  have hle := slicePick_size_le its.toArray l u o
  refine wpAny_getItem_list_slice ht.isList (Heap.IsSliceOf.new _ vl vu vs) pl pu ps h0 ?_ (by rw [List.size_toArray]; omega)
  have ep : slicePick its.toArray l u o = (pickD its l u o).toArray := by
    unfold slicePick pickD
    simp only [List.size_toArray, List.getElem?_toArray]
  have hv : Vals (pickD xs l u o) (pickD its l u o) := by
    unfold pickD
    rw [hlen]
    exact vals_pick r _
  rw [ep]
  refine ⟨.ref _, _, I5.laid (t' := s4.toks) (o := .lst (pickD xs l u o)) (fun b ob q => Heap.get?_push_of_some _ q) (Nat.le_refl _) ?_, rfl, q _ (I5.hok.fresh (Nat.le_refl _))⟩
  refine ⟨?_, _, 0, hv, Heap.get?_push_size _ rfl⟩
  rw [hv.length]
  rw [ep] at hle
  simp only [List.size_toArray] at hle
  omega
theorem s_sl3 (o : Okx X W N G np c sc) {m : Bool} {x st : Expr} {lo hi : Option Expr} {a b : E} {l u : Eo} {p p2 : Pos} (ha : PE X x (tI W c a)) (hl : PO X lo (tOi W c l)) (hu : PO X hi (tOi W c u)) (hs : PE X st (tI W c b)) :
    PE X (.Subscript x (.Slice lo hi (some st) p2) p) (tI W c (.sl3 m a l u b)) := by
  refine (pe_sl3 ha hl hu (o_som hs)).imp ?_
  rintro σ H Q ⟨s, d, h', e, to⟩
  unfold evE at e
  split at e
  · rename_i dx h1 e1
    split at e
    · rename_i li h2 e2
      split at e
      · rename_i ui h3 e3
        split at e
        · rename_i k h4 e4
          split at e
          · rename_i hk
            obtain ⟨ds, e5, e6⟩ := Option.map_eq_some_iff.mp e
            refine ⟨s, dx, h1, e1, fun ρ1 v H1 x1 R1 r1 => ⟨s.go x1 R1, li, h2, e2, fun ρ2 H2 x2 R2 => ⟨(s.go x1 R1).go x2 R2, ui, h3, e3, fun ρ3 H3 x3 R3 => ?_⟩⟩⟩
            refine ⟨((s.go x1 R1).go x2 R2).go x3 R3, some k, h4, by unfold evO; rw [show evE c b (((s.go x1 R1).go x2 R2).go x3 R3).env (((s.go x1 R1).go x2 R2).go x3 R3).h = some (.int k, h4) from e4], fun ρ4 H4 x4 R4 => ?_⟩
            obtain ⟨ad, vs, rfl, hS, q⟩ := getR_ok o.K R4 e5 (((r1.mono x2).mono x3).mono x4)
            refine ⟨ad, vs, rfl, fun z => hk (Option.some.inj z), ?_, fun p hp => ?_⟩
            · exact hS
            · have hq : RelDs W ρ4 s.hid H4 (pickD ds li ui (some k)) (pickD vs li ui (some k)) := by
                unfold pickD
                rw [q.length]
                exact rels_pick q _
              obtain ⟨ρ5, x5, R5, r5⟩ := mkL_ok R4 hp hq m e6
              exact to ρ5 _ _ ((((x1.trans x2).trans x3).trans x4).trans x5) R5 r5
          · cases e
        · cases e
      · cases e
    · cases e
  · cases e

/-! ### calls -/
theorem s_call (o : Okx X W N G np c sc) {x : Str} {f : Nat} {e0 : Expr} {r : List Expr} {es : Es} {p pos : Pos} (hg : glB sc x = true) (hn : nmOk x = true) (hl : G.lookup x = some (.fn f)) (ha : PA X (e0 :: r) (tIs W c es))
    (hs : notStar e0 = true) (hr : r.all notStar = true) (hle : es.len = np f) : PE X (.Call (.Name x p) (e0 :: r) [] pos) (tI W c (.call x f es)) := by
  obtain ⟨n, m, rm⟩ := o.m
  obtain ⟨k, fd, ps, F, hk, hm, kp, hb⟩ := m.fn x f hl
  refine (pe_call F (rm.mono hk) (gl_ok o hg) hm kp hb .nil pass0 ha (nm_ok hn).1 (star_ok hs _ _) (stars_ok hr _)).imp ?_
  rintro σ H Q ⟨s, d, h', e, to⟩
  unfold evE at e
  split at e
  · rename_i ds h1 e1
    refine ⟨s, ds, h1, e1, fun ρ1 vs H1 x1 R1 r1 => ?_⟩
    show spF W c.call f (np f) (vs ++ []) H1 Q E0
    rw [List.append_nil]
    refine ⟨s.bs, ρ1, s.hid, h1, c.b, ds, d, h', R1, s.hb, r1, ?_, e, fun ρ2 v H2 x2 R2 r2 => to ρ2 v H2 (x1.trans x2) R2 r2⟩
    rw [← hle]
    exact es_len e1
  · cases e
/-! ### objects -/
theorem lookup_ok {ρ hid : List Addr} {H : Hp} {f : Str} : ∀ {fs : List (Str × D)} {fws : List (Str × V)}, fws.map (·.1) = fs.map (·.1) → RelDs W ρ hid H (fs.map (·.2)) (fws.map (·.2)) →
    (fs.lookup f = none → fws.lookup f = none) ∧ ∀ d, fs.lookup f = some d → ∃ v, fws.lookup f = some v ∧ RelD W ρ hid H d v
  | [], [], _, _ => ⟨fun _ => rfl, fun d h => by cases h⟩
  | [], _ :: _, h, _ => by cases h
  | _ :: _, [], h, _ => by cases h
  | (g, d0) :: fs, (g', v0) :: fws, h, r => by
    obtain ⟨v, vs, e, r1, r2⟩ := r
    injection e with e1 e2
    injection h with h1 h2
    have h1 : g' = g := h1
    subst h1
    have e1 : v0 = v := e1
    subst e1
    rw [← e2] at r2
    have ih := lookup_ok (f := f) h2 r2
    rw [List.lookup_cons, List.lookup_cons]
    cases hb : f == g' with
    | true => exact ⟨(fun h => nomatch h), fun d hd => ⟨v0, rfl, by cases hd; exact r1⟩⟩
    | false => exact ih
theorem putF_ok {ρ hid : List Addr} {H : Hp} {f : Str} {d : D} {v : V} (rv : RelD W ρ hid H d v) : ∀ {fs : List (Str × D)} {fws : List (Str × V)}, fws.map (·.1) = fs.map (·.1) → RelDs W ρ hid H (fs.map (·.2)) (fws.map (·.2)) →
    (putF f v fws).map (·.1) = (putFD f d fs).map (·.1) ∧ RelDs W ρ hid H ((putFD f d fs).map (·.2)) ((putF f v fws).map (·.2))
  | [], [], _, _ => ⟨rfl, ⟨v, [], rfl, rv, rfl⟩⟩
  | [], _ :: _, h, _ => by cases h
  | _ :: _, [], h, _ => by cases h
  | (g, d0) :: fs, (g', v0) :: fws, h, r => by
    obtain ⟨v1, vs, e, r1, r2⟩ := r
    injection e with e1 e2
    injection h with h1 h2
    have h1 : g' = g := h1
    subst h1
    have e1 : v0 = v1 := e1
    subst e1
    rw [← e2] at r2
    have ih := putF_ok rv (f := f) h2 r2
    unfold putF putFD
    by_cases hb : g' = f
    · rw [if_pos hb, if_pos hb]
      exact ⟨by rw [List.map_cons, List.map_cons, h2], ⟨v, _, rfl, rv, r2⟩⟩
    · rw [if_neg hb, if_neg hb]
      exact ⟨by rw [List.map_cons, List.map_cons, ih.1], ⟨v0, _, rfl, r1, ih.2⟩⟩
theorem s_fld (o : Okx X W N G np c sc) {cl : Nat} {C : ClsT} {y : Expr} {a : E} {f : Str} {p : Pos} (hC : G.lookC cl = some C) (hf : f ∈ C.flds) (ha : PE X y (tI W c a)) (hb : plainBase y = true) : PE X (.Attribute y f p) (tI W c (.fld cl a f)) := by
  obtain ⟨n, m, rm⟩ := o.m
  obtain ⟨k1, k2, _⟩ := m.cls cl C hC
  refine (pe_fld ha (base_ok hb _ _ _)).imp ?_
  rintro σ H Q ⟨s, d, h', e, to⟩
  unfold evE at e
  split at e
  · rename_i n h1 e1
    split at e
    · rename_i cl' fs hn
      split at e
      · rename_i hc
        subst hc
        obtain ⟨d', e2, e3⟩ := Option.map_eq_some_iff.mp e
        cases e3
        refine ⟨s, _, _, e1, fun ρ1 v H1 x1 R1 r1 => ?_⟩
        obtain ⟨ad, ha, rfl⟩ := r1
        obtain ⟨dx, fws, hi, hk, q⟩ := R1.ob n _ ad hn ha
        obtain ⟨v, e4, rv⟩ := (lookup_ok (f := f) hk q).2 d e2
        exact ⟨ad, W.cA cl', dx, fws, v, rfl, hi, k1, k2 f hf, e4, to ρ1 v H1 x1 R1 rv⟩
      · cases e
    · cases e
  · cases e
theorem make_t {cl f : Nat} {x : Str} {es : Es} (hle : es.len + 1 = np f) {σ : L2.St} {H : Hp} {Q : VK} (h : tI W c (.make x cl f es) σ H Q) : tMake (W.cA cl) (spF W c.call f (np f)) [] E0 (tIs W c es) σ H Q := by
  obtain ⟨s, d, h', e, to⟩ := h
  unfold evE at e
  split at e
  · rename_i ds h1 e1
    split at e
    · rename_i h2 e2
      cases e
      refine ⟨s, ds, h1, e1, fun ρ1 vs H1 x1 R1 r1 xa dx hx hdx ne => ?_⟩
      rw [List.append_nil]
      have R2 : Rl W s.bs ρ1 s.hid h1 (upd H1 dx (.own xa)) := R1.new hdx
      have x2 : Ext ρ1 s.hid H1 ρ1 (upd H1 dx (.own xa)) := ext_new hdx
      have hx2 : upd H1 dx (.own xa) xa = none := by rw [upd_ne (Ne.symm ne)]; exact hx
      have R3 := R2.push (u := .ins (W.cA cl) dx []) hx2 (ob := .ins cl []) ⟨dx, [], upd_same, rfl, rfl⟩
      have x3 : Ext ρ1 s.hid (upd H1 dx (.own xa)) (ρ1 ++ [xa]) (upd (upd H1 dx (.own xa)) xa (.ins (W.cA cl) dx [])) := ext_push R2 hx2
      have hg : (ρ1 ++ [xa])[h1.length]? = some xa := by rw [← R1.len]; simp
      refine ⟨s.bs, ρ1 ++ [xa], s.hid, h1 ++ [.ins cl []], c.b, .ref h1.length :: ds, .non, h', R3, s.hb, ⟨.ref xa, vs, rfl, ⟨xa, hg, rfl⟩, (r1.mono x2).mono x3⟩, ?_, e2, fun ρ4 v H4 x4 R4 r4 => ⟨r4, ?_⟩⟩
      · rw [← hle, List.length_cons, es_len e1]
      · exact to ρ4 _ H4 (((x1.trans x2).trans x3).trans x4) R4 ⟨xa, x4.get hg, rfl⟩
    · cases e
  · cases e
theorem s_make (o : Okx X W N G np c sc) {cl f : Nat} {C : ClsT} {x : Str} {e0 : Expr} {r : List Expr} {es : Es} {p pos : Pos} (hg : glB sc x = true) (hn : nmOk x = true) (hC : G.lookC cl = some C) (hx : C.name = x) (hi : C.init = some f) (ha : PA X (e0 :: r) (tIs W c es))
    (hs : notStar e0 = true) (hr : r.all notStar = true) (hle : es.len + 1 = np f) : PE X (.Call (.Name x p) (e0 :: r) [] pos) (tI W c (.make x cl f es)) := by
  obtain ⟨n, m, rm⟩ := o.m
  obtain ⟨_, _, _, k4⟩ := m.cls cl C hC
  obtain ⟨mk, hm, k, fd, ps, F, hk, hb⟩ := k4 f hi
  rw [hx] at hm
  exact (pe_make mk F (rm.mono hk) (gl_ok o hg) hm hb .nil pass0 ha (nm_ok hn).1 (star_ok hs _ _) (stars_ok hr _)).imp fun _ _ _ h => make_t hle h
theorem meth_eq {o : Expr} {m : Str} {apos pos : Pos} {args : List Expr} {env : PySem.Env} (hbase : attributeBase o m env (eval o env) = eval o env)
    (hfew : ((backTo pos (starEach args env)).all (fun x => !x.1) && (backToKw pos (keywordEach [] env)).all (fun x => x.1.isSome) && decide (args.length + ([] : List Keyword).length + (if ([] : List Keyword).isEmpty then 0 else 1) < 30)) = true)
    (hline : (apos.endLine == pos.line) = true) : eval (.Call (.Attribute o m apos) args [] pos) env = (do
      let ov ← eval o env
      standAt apos.atName
      let (f, first) ← holding [ov] (getMethod ov m (do return (← importBound o env).getD true))
      callWith pos f first (backTo pos (starEach args env)) (backToKw pos (keywordEach [] env))) := by
  have hpos : methodCallPos true o env apos pos = pure pos := by unfold methodCallPos; simp [hline]
  have hform : methodCallForm (args.length + ([] : List Keyword).length) (backTo pos (starEach args env)) (backToKw pos (keywordEach [] env)) = true := hfew
  rw [arm_eval_Call, hbase]
  unfold methodCall
  rw [hform]
  unfold calleeOf
  simp only [if_true, hpos]
  rfl
theorem meth_t {cl f : Nat} {m : Str} {a : E} {es : Es} (hle : es.len + 1 = np f) {σ : L2.St} {H : Hp} {Q : VK} (h : tI W c (.meth cl m f a es) σ H Q) : tMeth (W.cA cl) m (spF W c.call f (np f)) [] E0 (tI W c a) (tIs W c es) σ H Q := by
  obtain ⟨s, d, h', e, to⟩ := h
  unfold evE at e
  split at e
  · rename_i n h1 e1
    split at e
    · rename_i cl' fs hn
      split at e
      · rename_i hc
        obtain ⟨hc, hm⟩ := hc
        subst hc
        split at e
        · rename_i ds h2 e2
          refine ⟨s, _, _, e1, fun ρ1 v H1 x1 R1 r1 => ?_⟩
          obtain ⟨ad, ha, rfl⟩ := r1
          obtain ⟨dx, fws, hi, hk, q⟩ := R1.ob n _ ad hn ha
          refine ⟨ad, dx, fws, rfl, hi, (lookup_ok (f := m) hk q).1 hm, s.go x1 R1, ds, h2, e2, fun ρ2 vs H2 x2 R2 r2 => ?_⟩
          show spF W c.call f (np f) (.ref ad :: (vs ++ [])) H2 Q E0
          rw [List.append_nil]
          refine ⟨s.bs, ρ2, s.hid, h2, c.b, .ref n :: ds, d, h', R2, s.hb, ⟨.ref ad, vs, rfl, ⟨ad, x2.get ha, rfl⟩, r2⟩, ?_, e, fun ρ3 v H3 x3 R3 r3 => to ρ3 v H3 ((x1.trans x2).trans x3) R3 r3⟩
          rw [← hle, List.length_cons, es_len e2]
        · cases e
      · cases e
    · cases e
  · cases e
theorem s_meth (o : Okx X W N G np c sc) {cl f : Nat} {C : ClsT} {m : Str} {ox e0 : Expr} {r : List Expr} {a : E} {es : Es} {apos cpos : Pos} (hC : G.lookC cl = some C) (hm : C.meths.lookup m = some f) (ho : PE X ox (tI W c a)) (ha : PA X (e0 :: r) (tIs W c es))
    (hs : notStar e0 = true) (hr : r.all notStar = true) (hb : plainBase ox = true) (hl : (apos.endLine == cpos.line) = true) (hf : (e0 :: r).length < 20) (hle : es.len + 1 = np f) : PE X (.Call (.Attribute ox m apos) (e0 :: r) [] cpos) (tI W c (.meth cl m f a es)) := by
  have few : ((backTo cpos (starEach (e0 :: r) X.env)).all (fun x => !x.1) && (backToKw cpos (keywordEach [] X.env)).all (fun x => x.1.isSome)
      && decide ((e0 :: r).length + ([] : List Keyword).length + (if ([] : List Keyword).isEmpty then 0 else 1) < 30)) = true := by
    have h1 := stars_ok (r := e0 :: r) (by rw [List.all_cons, hs, hr]; rfl) cpos (env := X.env)
    have h2 : ((backTo cpos (starEach (e0 :: r) X.env)).all (fun x => !x.1)) = true := by
      rw [List.all_eq_not_any_not]
      simpa using h1
    rw [h2]
    simp only [Bool.true_and, Bool.and_eq_true]
    refine ⟨rfl, decide_eq_true ?_⟩
    show (e0 :: r).length + 0 + 0 < 30
    omega
  obtain ⟨n, md, rm⟩ := o.m
  obtain ⟨k1, _, k3, _⟩ := md.cls cl C hC
  obtain ⟨hM, k, fd, ps, F, hk, hbd⟩ := k3 m f hm
  exact (pe_meth ho k1 hM F (rm.mono (by omega)) hbd .nil pass0 ha (star_ok hs _ _) (stars_ok hr _) (meth_eq (base_ok hb _ _ _) few hl)).imp fun _ _ _ h => meth_t hle h
theorem tIs_nil {σ : L2.St} {H : Hp} {Q : List V → Hp → Prop} (h : tIs W c .nil σ H Q) : tNil σ H Q := by
  obtain ⟨s, ds, h', e, to⟩ := h
  simp only [evEs, Option.some.injEq, Prod.mk.injEq] at e
  obtain ⟨rfl, rfl⟩ := e
  exact to s.ρ [] H .refl s.R rfl
theorem s_meth0 (o : Okx X W N G np c sc) {cl f : Nat} {C : ClsT} {m : Str} {ox : Expr} {a : E} {apos cpos : Pos} (hC : G.lookC cl = some C) (hm : C.meths.lookup m = some f) (ho : PE X ox (tI W c a))
    (hb : plainBase ox = true) (hl : (apos.endLine == cpos.line) = true) (hle : 1 = np f) : PE X (.Call (.Attribute ox m apos) [] [] cpos) (tI W c (.meth cl m f a .nil)) := by
  obtain ⟨n, md, rm⟩ := o.m
  obtain ⟨k1, _, k3, _⟩ := md.cls cl C hC
  obtain ⟨hM, k, fd, ps, F, hk, hbd⟩ := k3 m f hm
  refine (pe_meth0 ho k1 hM F (rm.mono (by omega)) hbd .nil pass0 (meth_eq (base_ok hb _ _ _) rfl hl)).imp fun σ H Q h => ?_
  obtain ⟨s, x, h1, e1, k⟩ := meth_t (np := np) (es := .nil) (by rw [← hle]; rfl) h
  refine ⟨s, x, h1, e1, fun ρ1 v H1 x1 R1 r1 => ?_⟩
  obtain ⟨ad, dx, fws, e2, hi, hlk, k⟩ := k ρ1 v H1 x1 R1 r1
  exact ⟨ad, dx, fws, e2, hi, hlk, tIs_nil k⟩
theorem boot_of (b : Bi) {x : Str} (h : b.nm = some x) : bootBuiltins x = some b.val ∧ x ∈ builtinNames ∧ x ≠ ("__name__" : Str) ∧ (x == ("__debug__" : Str)) = false := by
  cases b <;> first | (cases h; done) | skip
  all_goals
    cases h
    exact ⟨by decide +kernel, by decide +kernel, by decide +kernel, by decide +kernel⟩
theorem s_bif (o : Okx X W N G np c sc) {b : Bi} {m : Bool} {x : Str} {e0 : Expr} {r : List Expr} {es : Es} {p pos : Pos} (hb : b.nm = some x) (hg : glB sc x = true) (ha : PA X (e0 :: r) (tIs W c es))
    (hs : notStar e0 = true) (hr : r.all notStar = true) : PE X (.Call (.Name x p) (e0 :: r) [] pos) (tI W c (.bif b m es)) := by
  refine ⟨fun pins s0 σ0 H0 Q I h => ?_⟩
  obtain ⟨n, md, _⟩ := o.m
  obtain ⟨h1, h2, h3, h4⟩ := boot_of b hb
  have hc := bi_ok (W := W) (c := c) (σ := σ0) (X := X) o.K o.calm b m (by rw [hb]; rfl)
  have q : tCB (rBi W c σ0 b m) (tIs W c es) σ0 H0 Q := by
    obtain ⟨s, d, h', e, to⟩ := h
    unfold evE at e
    split at e
    · rename_i ds h5 e1
      exact ⟨s, ds, h5, e1, fun ρ1 vs H1 x1 R1 r1 => ⟨s.go x1 R1, ds, d, h', r1, e, to.go x1 R1⟩⟩
    · cases e
  have hm := md.free x h2
  generalize hv : b.val = v at hc h1
  have hv2 : (∃ id, v = .builtin id) ∨ ∃ T, v = .type T := by
    rw [← hv]
    cases b <;> first | (cases hb; done) | exact .inl ⟨_, rfl⟩ | exact .inr ⟨_, rfl⟩
  rcases hv2 with ⟨id, rfl⟩ | ⟨T, rfl⟩
  · exact (pe_callB hc (gl_ok o hg) hm h1 ha h3 h4 (star_ok hs _ _) (stars_ok hr _)).run pins s0 σ0 H0 Q I q
  · exact (pe_callTy hc (gl_ok o hg) hm h1 ha h3 h4 (star_ok hs _ _) (stars_ok hr _)).run pins s0 σ0 H0 Q I q
theorem rgV_rel {ρ hid : List Addr} {H : Hp} (a b : Int) : RelDs W ρ hid H ((rangeL a b).map .int) (rgV a b) := by
  unfold rangeL rgV
  rw [List.map_map]
  generalize List.range (b - a).toNat = l
  induction l with
  | nil => rfl
  | cons k l ih => exact ⟨_, _, rfl, rfl, ih⟩
theorem rg_ok {i j : Int} (h1 : mid i) (h2 : mid j) (h3 : (j - i).toNat ≤ 2 ^ 24) : RgOk i j := ⟨h1.1, h1.2, h2.1, h2.2, h3⟩
theorem s_rl1 (o : Okx X W N G np c sc) {m : Bool} {e0 : Expr} {a : E} {p p2 pos pos2 : Pos} (hg : glB sc "list" = true) (hg2 : glB sc "range" = true) (ha : PE X e0 (tI W c a)) (hs : notStar e0 = true) :
    PE X (.Call (.Name "list" p) [.Call (.Name "range" p2) [e0] [] pos2] [] pos) (tI W c (.bif .rl m (.cons a .nil))) := by
  obtain ⟨n, md, _⟩ := o.m
  refine (pe_listRg o.calm (gl_ok o hg) (md.free _ (by decide +kernel)) (prg_1 (gl_ok o hg2) (md.free _ (by decide +kernel)) ha (star_ok hs _ _)) rfl).imp ?_
  rintro σ H Q ⟨s, d, h', e, to⟩
  unfold evE at e
  split at e
  · rename_i ds h1 e1
    unfold evEs at e1
    split at e1
    · rename_i x h2 e2
      unfold evEs at e1
      cases e1
      refine ⟨s, x, _, e2, fun ρ1 v H1 x1 R1 r1 => ?_⟩
      cases x with
      | int j =>
        simp only [biF] at e
        split at e
        · rename_i hz
          refine ⟨j, r1, rg_ok (by decide) hz.1 (by simpa using hz.2), fun q hq => ?_⟩
          obtain ⟨ρ2, x2, R2, r2⟩ := mkL_ok R1 hq (rgV_rel 0 j) m (Option.some.inj e)
          exact to ρ2 _ _ (x1.trans x2) R2 r2
        · cases e
      | _ => cases e
    · cases e1
  · cases e
theorem s_rl2 (o : Okx X W N G np c sc) {m : Bool} {e0 e9 : Expr} {a b : E} {p p2 pos pos2 : Pos} (hg : glB sc "list" = true) (hg2 : glB sc "range" = true) (ha : PE X e0 (tI W c a)) (hs : notStar e0 = true) (hb : PE X e9 (tI W c b)) (hs2 : notStar e9 = true) :
    PE X (.Call (.Name "list" p) [.Call (.Name "range" p2) [e0, e9] [] pos2] [] pos) (tI W c (.bif .rl m (.cons a (.cons b .nil)))) := by
  obtain ⟨n, md, _⟩ := o.m
  refine (pe_listRg o.calm (gl_ok o hg) (md.free _ (by decide +kernel)) (prg_2 (gl_ok o hg2) (md.free _ (by decide +kernel)) ha hb (star_ok hs _ _) (star_ok hs2 _ _) (stars_ok (by simp [hs2]) _)) rfl).imp ?_
  rintro σ H Q ⟨s, d, h', e, to⟩
  unfold evE at e
  split at e
  · rename_i ds h1 e1
    unfold evEs at e1
    split at e1
    · rename_i x h2 e2
      split at e1
      · rename_i dr h3 e3
        unfold evEs at e3
        split at e3
        · rename_i y h4 e4
          unfold evEs at e3
          cases e3
          cases e1
          refine ⟨s, x, _, e2, fun ρ1 v H1 x1 R1 r1 => ⟨s.go x1 R1, y, _, e4, fun ρ2 w H2 x2 R2 r2 => ?_⟩⟩
          cases x with
          | int i =>
            cases y with
            | int j =>
              simp only [biF] at e
              split at e
              · rename_i hz
                refine ⟨i, j, r1, r2, rg_ok hz.1 hz.2.1 hz.2.2, fun q hq => ?_⟩
                obtain ⟨ρ3, x3, R3, r3⟩ := mkL_ok R2 hq (rgV_rel i j) m (Option.some.inj e)
                exact to ρ3 _ _ ((x1.trans x2).trans x3) R3 r3
              · cases e
            | _ => cases e
          | _ => cases e
        · cases e3
      · cases e1
    · cases e1
  · cases e
theorem s_rt1 (o : Okx X W N G np c sc) {m : Bool} {e0 : Expr} {a : E} {p p2 pos pos2 : Pos} (hg : glB sc "tuple" = true) (hg2 : glB sc "range" = true) (ha : PE X e0 (tI W c a)) (hs : notStar e0 = true) :
    PE X (.Call (.Name "tuple" p) [.Call (.Name "range" p2) [e0] [] pos2] [] pos) (tI W c (.bif .rt m (.cons a .nil))) := by
  obtain ⟨n, md, _⟩ := o.m
  refine (pe_tupRgF o.calm (gl_ok o hg) (md.free _ (by decide +kernel)) (prg_1 (gl_ok o hg2) (md.free _ (by decide +kernel)) ha (star_ok hs _ _)) rfl).imp ?_
  rintro σ H Q ⟨s, d, h', e, to⟩
  unfold evE at e
  split at e
  · rename_i ds h1 e1
    unfold evEs at e1
    split at e1
    · rename_i x h2 e2
      unfold evEs at e1
      cases e1
      refine ⟨s, x, _, e2, fun ρ1 v H1 x1 R1 r1 => ?_⟩
      cases x with
      | int j =>
        simp only [biF] at e
        split at e
        · rename_i hz
          cases e
          refine ⟨j, r1, rg_ok (by decide) hz.1 (by simpa using hz.2), fun q o' od hq => ?_⟩
          obtain ⟨x2, R2, r2⟩ := mkT_ok R1 od hq (rgV_rel 0 j)
          exact to ρ1 _ _ (x1.trans x2) R2 r2
        · cases e
      | _ => cases e
    · cases e1
  · cases e
/-- list(d.values()) -/
theorem s_lv (o : Okx X W N G np c sc) {m : Bool} {e0 : Expr} {a : E} {p pos apos mpos : Pos} (hg : glB sc "list" = true) (ha : PE X e0 (tI W c a)) (hs : plainBase e0 = true) (hl : (apos.endLine == mpos.line) = true) :
    PE X (.Call (.Name "list" p) [.Call (.Attribute e0 "values" apos) [] [] mpos] [] pos) (tI W c (.bif .listvals m (.cons a .nil))) := by
  obtain ⟨n, md, _⟩ := o.m
  refine (pe_listVals o.calm (gl_ok o hg) (md.free _ (by decide +kernel)) ha (base_ok hs _ _ _) hl).imp ?_
  rintro σ H Q ⟨s, d, h', e, to⟩
  unfold evE at e
  split at e
  · rename_i ds h1 e1
    unfold evEs at e1
    split at e1
    · rename_i x h2 e2
      unfold evEs at e1
      cases e1
      refine ⟨s, x, _, e2, fun ρ1 v H1 x1 R1 r1 => ?_⟩
      obtain ⟨kvs, e3, e4⟩ := Option.map_eq_some_iff.mp (show (getK h1 x).map (fun kvs => mkL m (kvs.map (·.2)) h1) = some (d, h') from e)
      obtain ⟨a', kws, rfl, ha', hk, q⟩ := getK_ok R1 e3 r1
      refine ⟨a', kws, rfl, ha', fun q' hq => ?_⟩
      obtain ⟨ρ2, x2, R2, r2⟩ := mkL_ok R1 hq q m e4
      exact to ρ2 _ _ (x1.trans x2) R2 r2
    · cases e1
  · cases e

/-! ### methods -/
def Mt.nm : Mt → Option Str
  | .append => some "append" | .extend => some "extend" | .pop => some "pop" | .popAt => some "pop" | .index => some "index" | .tindex => some "index" | .update => some "update" | _ => none
theorem list_ty {ρ hid : List Addr} {h : Store} {bs : List Nat} {H : Hp} (hK : W.K = X.K) (R : Rl W bs ρ hid h H) {d : D} {ds : List D} {v : V} (e : getR h d = some ds) (r : RelD W ρ hid H d v) : tyV X.K "list" v H := by
  obtain ⟨a, vs, rfl, ha, q⟩ := getR_ok hK R e r
  exact .inl ⟨rfl, vs, ha⟩
theorem mth_t {mt : Mt} {a : E} {es : Es} {σ : L2.St} {H : Hp} {Q : VK} (hK : W.K = X.K) (hd : ∀ x h, mtTy mt x h = (getR h x).isSome) (h : tI W c (.mth mt a es) σ H Q) : tBM X.K "list" (rMt W c σ mt) (tI W c a) (tIs W c es) σ H Q := by
  obtain ⟨s, d, h', e, to⟩ := h
  unfold evE at e
  split at e
  · rename_i x h1 e1
    split at e
    · rename_i ht
      split at e
      · rename_i ds h2 e2
        refine ⟨s, x, h1, e1, fun ρ1 v H1 x1 R1 r1 => ⟨?_, s.go x1 R1, ds, h2, e2, fun ρ2 vs H2 x2 R2 r2 => ?_⟩⟩
        · rw [hd] at ht
          obtain ⟨es, e3⟩ := Option.isSome_iff_exists.mp ht
          exact list_ty hK R1 e3 r1
        · exact ⟨(s.go x1 R1).go x2 R2, x, ds, d, h', r1.mono x2, r2, e, (to.go x1 R1).go x2 R2⟩
      · cases e
    · cases e
  · cases e
theorem mth_tF {a : E} {es : Es} {σ : L2.St} {H : Hp} {Q : VK} (h : tI W c (.mth .tindex a es) σ H Q) : tBMF (rMt W c σ .tindex) (tI W c a) (tIs W c es) σ H Q := by
  obtain ⟨s, d, h', e, to⟩ := h
  unfold evE at e
  split at e
  · rename_i x h1 e1
    split at e
    · rename_i ht
      split at e
      · rename_i ds h2 e2
        refine ⟨s, x, h1, e1, fun ρ1 v H1 x1 R1 r1 => ⟨?_, s.go x1 R1, ds, h2, e2, fun ρ2 vs H2 x2 R2 r2 => ?_⟩⟩
        · cases x with
          | tup xs =>
            obtain ⟨a', vs, rfl, ⟨o, ho, od, _⟩, _⟩ := r1
            exact ⟨a', o, vs, rfl, ho, od⟩
          | _ => cases ht
        · exact ⟨(s.go x1 R1).go x2 R2, x, ds, d, h', r1.mono x2, r2, e, (to.go x1 R1).go x2 R2⟩
      · cases e
    · cases e
  · cases e
theorem mth_tU {a : E} {es : Es} {σ : L2.St} {H : Hp} {Q : VK} {K : PySem.W.Frag} (h : tI W c (.mth .update a es) σ H Q) : tBM K "dict" (rMt W c σ .update) (tI W c a) (tIs W c es) σ H Q := by
  obtain ⟨s, d, h', e, to⟩ := h
  unfold evE at e
  split at e
  · rename_i x h1 e1
    split at e
    · rename_i ht
      split at e
      · rename_i ds h2 e2
        refine ⟨s, x, h1, e1, fun ρ1 v H1 x1 R1 r1 => ⟨?_, s.go x1 R1, ds, h2, e2, fun ρ2 vs H2 x2 R2 r2 => ?_⟩⟩
        · have ht : isDct h1 x = true := ht
          unfold isDct at ht
          split at ht
          · split at ht
            · rename_i kvs hn
              obtain ⟨a', ha, rfl⟩ := r1
              obtain ⟨kws, hw, _⟩ := R1.ob _ _ a' hn ha
              exact .inr (.inr (.inl ⟨rfl, .inl ⟨kws, hw⟩⟩))
            · cases ht
          · cases ht
        · exact ⟨(s.go x1 R1).go x2 R2, x, ds, d, h', r1.mono x2, r2, e, (to.go x1 R1).go x2 R2⟩
      · cases e
    · cases e
  · cases e
theorem s_mth (o : Okx X W N G np c sc) {mt : Mt} {x : Str} {ox e0 : Expr} {r : List Expr} {a : E} {es : Es} {apos cpos : Pos} (hm : mt.nm = some x) (ho : PE X ox (tI W c a)) (ha : PA X (e0 :: r) (tIs W c es))
    (hs : notStar e0 = true) (hr : r.all notStar = true) (hb : plainBase ox = true) (hl : (apos.endLine == cpos.line) = true) (hf : (e0 :: r).length < 20) : PE X (.Call (.Attribute ox x apos) (e0 :: r) [] cpos) (tI W c (.mth mt a es)) := by
  have few : ((backTo cpos (starEach (e0 :: r) X.env)).all (fun x => !x.1) && (backToKw cpos (keywordEach [] X.env)).all (fun x => x.1.isSome)
      && decide ((e0 :: r).length + ([] : List Keyword).length + (if ([] : List Keyword).isEmpty then 0 else 1) < 30)) = true := by
    have h1 := stars_ok (r := e0 :: r) (by rw [List.all_cons, hs, hr]; rfl) cpos (env := X.env)
    have h2 : ((backTo cpos (starEach (e0 :: r) X.env)).all (fun x => !x.1)) = true := by
      rw [List.all_eq_not_any_not]
      simpa using h1
    rw [h2]
    simp only [Bool.true_and, Bool.and_eq_true]
    refine ⟨rfl, decide_eq_true ?_⟩
    show (e0 :: r).length + 0 + 0 < 30
    omega
  refine ⟨fun pins s0 σ0 H0 Q I h => ?_⟩
  cases mt with
  | append => cases hm; exact (pe_bm F.plainAttrs_list F.slot_list_append F.type_list_append (mt_ok (W := W) (c := c) (σ := σ0) o.K o.hu .append (by decide)) ho ha (base_ok hb _ _ _) few hl (star_ok hs _ _) (stars_ok hr _)).run pins s0 σ0 H0 Q I (mth_t o.K (fun _ _ => rfl) h)
  | extend => cases hm; exact (pe_bm F.plainAttrs_list F.slot_list_extend F.type_list_extend (mt_ok (W := W) (c := c) (σ := σ0) o.K o.hu .extend (by decide)) ho ha (base_ok hb _ _ _) few hl (star_ok hs _ _) (stars_ok hr _)).run pins s0 σ0 H0 Q I (mth_t o.K (fun _ _ => rfl) h)
  | pop => cases hm; exact (pe_bm F.plainAttrs_list F.slot_list_pop F.type_list_pop (mt_ok (W := W) (c := c) (σ := σ0) o.K o.hu .pop (by decide)) ho ha (base_ok hb _ _ _) few hl (star_ok hs _ _) (stars_ok hr _)).run pins s0 σ0 H0 Q I (mth_t o.K (fun _ _ => rfl) h)
  | popAt => cases hm; exact (pe_bm F.plainAttrs_list F.slot_list_pop F.type_list_pop (mt_ok (W := W) (c := c) (σ := σ0) o.K o.hu .popAt (by decide)) ho ha (base_ok hb _ _ _) few hl (star_ok hs _ _) (stars_ok hr _)).run pins s0 σ0 H0 Q I (mth_t o.K (fun _ _ => rfl) h)
  | index => cases hm; exact (pe_bm F.plainAttrs_list F.slot_list_index F.type_list_index (mt_ok (W := W) (c := c) (σ := σ0) o.K o.hu .index (by decide)) ho ha (base_ok hb _ _ _) few hl (star_ok hs _ _) (stars_ok hr _)).run pins s0 σ0 H0 Q I (mth_t o.K (fun _ _ => rfl) h)
  | tindex => cases hm; exact (pe_bmF F.slot_tuple_index F.type_tuple_index (mt_ok (W := W) (c := c) (σ := σ0) o.K o.hu .tindex (by decide)) ho ha (base_ok hb _ _ _) few hl (star_ok hs _ _) (stars_ok hr _)).run pins s0 σ0 H0 Q I (mth_tF h)
  | update => cases hm; exact (pe_bm F.plainAttrs_dict F.slot_dict_update type_update (mt_upd_ok (W := W) (c := c) (σ := σ0) o.K o.calm) ho ha (base_ok hb _ _ _) few hl (star_ok hs _ _) (stars_ok hr _)).run pins s0 σ0 H0 Q I (mth_tU h)
  | get => cases hm
  | get2 => cases hm
  | insert => cases hm
  | count => cases hm
theorem s_pop0 (o : Okx X W N G np c sc) {ox : Expr} {a : E} {apos cpos : Pos} (ho : PE X ox (tI W c a)) (hb : plainBase ox = true) (hl : (apos.endLine == cpos.line) = true) : PE X (.Call (.Attribute ox "pop" apos) [] [] cpos) (tI W c (.mth .pop a .nil)) := by
  refine ⟨fun pins s0 σ0 H0 Q I h => ?_⟩
  refine (pe_bm0 F.plainAttrs_list F.slot_list_pop F.type_list_pop (mt_ok (W := W) (c := c) (σ := σ0) o.K o.hu .pop (by decide)) ho (base_ok hb _ _ _) hl).run pins s0 σ0 H0 Q I ?_
  obtain ⟨s, x, h1, e1, k⟩ := mth_t (X := X) o.K (fun _ _ => rfl) h
  refine ⟨s, x, h1, e1, fun ρ1 v H1 x1 R1 r1 => ?_⟩
  obtain ⟨ty, s2, ds, h2, e2, k2⟩ := k ρ1 v H1 x1 R1 r1
  simp only [evEs, Option.some.injEq, Prod.mk.injEq] at e2
  obtain ⟨rfl, rfl⟩ := e2
  exact ⟨ty, k2 s2.ρ [] H1 .refl s2.R rfl⟩
/-- d.get(k), d.get(k, x) -/
theorem s_get1 (o : Okx X W N G np c sc) {ox e0 : Expr} {a b : E} {apos cpos : Pos} (ho : PE X ox (tI W c a)) (ha : PE X e0 (tI W c b)) (hs : notStar e0 = true) (hb : plainBase ox = true) (hl : (apos.endLine == cpos.line) = true) :
    PE X (.Call (.Attribute ox "get" apos) [e0] [] cpos) (tI W c (.mth .get a (.cons b .nil))) := by
  have m1 : M1 X ox "get" apos e0 cpos := ⟨base_ok hb _ _ _, by rw [star_ok hs]; rfl, hl, by rw [star_ok hs]; rfl⟩
  refine (pe_dget1 (by have := o.hu; omega) ho ha m1).imp ?_
  rintro σ H Q ⟨s, d, h', e, to⟩
  unfold evE at e
  split at e
  · rename_i x h1 e1
    split at e
    · rename_i ht
      split at e
      · rename_i ds h2 e2
        refine ⟨s, x, h1, e1, fun ρ1 v H1 x1 R1 r1 => ?_⟩
        obtain ⟨kv0, e3⟩ := Option.isSome_iff_exists.mp (show (getK h1 x).isSome = true from ht)
        obtain ⟨a', kws, rfl, ha', hk, q⟩ := getK_ok R1 e3 r1
        refine ⟨a', rfl, .inl ⟨kws, ha'⟩, ?_⟩
        unfold evEs at e2
        split at e2
        · rename_i y h3 e4
          unfold evEs at e2
          cases e2
          refine ⟨s.go x1 R1, y, _, e4, fun ρ2 w H2 x2 R2 r2 => ?_⟩
          have e : dGet x y .non h2 = some (d, h') := e
          unfold dGet at e
          split at e
          · rename_i kvs k e5 e6
            cases e
            obtain ⟨a2, kws2, ea, ha2, hk2, q2⟩ := getK_ok R2 e5 (r1.mono x2)
            cases ea
            refine ⟨valV kws2 k, .inl ⟨kws2, k, ha2, dKey_ok e6 r2, rfl⟩, ?_⟩
            rcases look_ok k hk2 q2 with ⟨n1, n2⟩ | ⟨d2, v2, n1, n2, rz⟩
            · rw [n2]
              rw [n1] at to
              exact to ρ2 _ H2 (x1.trans x2) R2 rfl
            · rw [n2]
              rw [n1] at to
              exact to ρ2 _ H2 (x1.trans x2) R2 rz
          · cases e
        · cases e2
      · cases e
    · cases e
  · cases e
end
end Sw

set_option maxRecDepth 100000
set_option maxHeartbeats 1000000
/-! Sw6: isinstance, what is walked, targets, comprehensions. -/
namespace Sw
open PySem PySem.Spec PyProof.Rows L2
section
variable {X : Cx} {W : Wd} {N : List Str} {G : Gs} {np : Nat → Nat} {c : Cfg} {sc : Scope}
/-! ### isinstance -/
def tyNames : List String := ["NoneType", "bool", "int", "str", "tuple", "list", "dict"]
def clNames : List String := ["bool", "int", "str", "tuple", "list", "dict"]
theorem kit_all : (tyNames.all fun t => clNames.all fun T => decide (kitB t T = some (subTy t T))) = true := by decide +kernel
theorem kit_sub {t T : String} (h1 : t ∈ tyNames) (h2 : T ∈ clNames) {K : PySem.W.Frag} : PySem.W.kitOne K (.type t) (.type T) = some (subTy t T) :=
  kit_ty (of_decide_eq_true (List.all_eq_true.mp (List.all_eq_true.mp kit_all t h1) T h2))
theorem kit_any {t : String} (h1 : t ∈ tyNames) {K : PySem.W.Frag} : ∀ {Ts : List String}, (∀ T ∈ Ts, T ∈ clNames) → PySem.W.kitAny K (.type t) (Ts.map Value.type) = some (Ts.any fun T => subTy t T)
  | [], _ => rfl
  | T :: Ts, h => by
    refine kitAny_cons (kit_sub h1 (h T (by simp))) (fun e => ?_) fun e => ?_
    · rw [kit_any h1 fun T' h' => h T' (by simp [h'])]
      simp [e]
    · simp [e]
theorem ty_ok {bs : List Nat} {ρ hid : List Addr} {h : Store} {H : Hp} {K : PySem.W.Frag} (hK : W.K = K) (R : Rl W bs ρ hid h H) {d : D} {v : V} {t : String} (e : tyD h d = some t) (r : RelD W ρ hid H d v) : TyX K H v (.type t) ∧ t ∈ tyNames := by
  cases d with
  | non => cases e; cases r; exact ⟨.base .non, by decide⟩
  | bl b => cases e; cases r; exact ⟨.base (.bl b), by decide⟩
  | int b => cases e; cases r; exact ⟨.base (.int b), by decide⟩
  | str b => cases e; cases r; exact ⟨.base (.str b), by decide⟩
  | tup ds =>
    cases e
    obtain ⟨a, vs, rfl, ha, q⟩ := r
    refine ⟨?_, by decide⟩
    obtain ⟨o, ha, _⟩ := ha
    exact .fTuple ha
  | lst ds =>
    cases e
    obtain ⟨a, vs, rfl, ha, _, q⟩ := r
    exact ⟨.base (.lst ha), by decide⟩
  | dct ks ds =>
    cases e
    obtain ⟨a, vs, rfl, ha, _, q⟩ := r
    refine ⟨?_, by decide⟩
    rcases ha with ha | ⟨o, ha⟩
    · exact .base (.dK ha)
    · exact .fDict ha
  | ref n =>
    obtain ⟨a, ha, rfl⟩ := r
    unfold tyD at e
    simp only at e
    split at e
    · rename_i ds hn
      cases e
      obtain ⟨vs, e1, q⟩ := R.ob n _ a hn ha
      exact ⟨.base (.lst e1), by decide⟩
    · rename_i ds hn
      cases e
      obtain ⟨vs, e1, q⟩ := R.ob n _ a hn ha
      exact ⟨.base (.dK e1), by decide⟩
    · cases e
  | lck ds => cases e
  | fn f => cases e
def clB (T : String) (x : Str) : Bool := decide (x = Str.ofString T) && decide (T ∈ clNames)
theorem bltn_cl (o : Okx X W N G np c sc) {T : String} {x : Str} {p : Pos} (h : clB T x = true) (hg : glB sc x = true) : PE X (.Name x p) (tC (.ty T)) := by
  unfold clB at h
  rw [Bool.and_eq_true] at h
  have e1 := of_decide_eq_true h.1
  have e2 : T ∈ clNames := of_decide_eq_true h.2
  obtain ⟨n, md, _⟩ := o.m
  have fin : bootBuiltins (Str.ofString T) = some (.type T) ∧ Str.ofString T ∈ builtinNames ∧ Str.ofString T ≠ ("__name__" : Str) ∧ (Str.ofString T == ("__debug__" : Str)) = false := by
    simp only [clNames, List.mem_cons, List.not_mem_nil, or_false] at e2
    rcases e2 with rfl | rfl | rfl | rfl | rfl | rfl <;> exact ⟨by decide +kernel, by decide +kernel, by decide +kernel, by decide +kernel⟩
  rw [← e1] at fin
  exact pe_bltn (gl_ok o hg) (md.free x fin.2.1) fin.1 rfl fin.2.2.1 fin.2.2.2
theorem isi_t {T : String} {m : Bool} {a : E} {σ : L2.St} {H : Hp} {Q : VK} (hK : W.K = X.K) (hT : T ∈ clNames) (h : tI W c (.bif (.isinst [T]) m (.cons a .nil)) σ H Q) : tCB (rIsi X.K) (tCons (tI W c a) (tCons (tC (.ty T)) tNil)) σ H Q := by
  obtain ⟨s, d, h', e, to⟩ := h
  unfold evE at e
  split at e
  · rename_i ds h1 e1
    unfold evEs at e1
    split at e1
    · rename_i x h2 e2
      unfold evEs at e1
      cases e1
      refine ⟨s, x, _, e2, fun ρ1 v H1 x1 R1 r1 => ?_⟩
      obtain ⟨t, e3, e4⟩ := Option.map_eq_some_iff.mp (show (tyD h1 x).map (fun t => (D.bl ([T].any fun T => subTy t T), h1)) = some (d, h') from e)
      cases e4
      obtain ⟨ty, ht⟩ := ty_ok hK R1 e3 r1
      refine ⟨v, .ty T, .type t, .type T, subTy t T, rfl, .ty T, ty, kit_sub ht hT, ?_⟩
      have e5 : ([T].any fun T => subTy t T) = subTy t T := by simp
      rw [e5] at to
      exact to ρ1 _ H1 x1 R1 rfl
    · cases e1
  · cases e
theorem s_isi (o : Okx X W N G np c sc) {T : String} {x : Str} {m : Bool} {e0 : Expr} {a : E} {p p2 pos : Pos} (hg : glB sc "isinstance" = true) (ha : PE X e0 (tI W c a)) (hs : notStar e0 = true) (hT : clB T x = true) (hx : glB sc x = true) :
    PE X (.Call (.Name "isinstance" p) [e0, .Name x p2] [] pos) (tI W c (.bif (.isinst [T]) m (.cons a .nil))) := by
  obtain ⟨n, md, _⟩ := o.m
  have hT2 : T ∈ clNames := by
    unfold clB at hT
    rw [Bool.and_eq_true] at hT
    exact of_decide_eq_true hT.2
  refine (pe_callB call_isi (gl_ok o hg) (md.free _ (by decide +kernel)) (by decide +kernel) (pa_cons ha (pa_cons (bltn_cl o hT hx) pa_nil rfl) (star_ok hs _ _)) (by decide +kernel) (by decide +kernel) (star_ok hs _ _) rfl).imp ?_
  exact fun _ _ _ h => isi_t o.K hT2 h
theorem s_isi2 (o : Okx X W N G np c sc) {T U : String} {x y : Str} {m : Bool} {e0 : Expr} {a : E} {p p2 p3 p4 pos : Pos} {k} (hg : glB sc "isinstance" = true) (ha : PE X e0 (tI W c a)) (hs : notStar e0 = true) (hT : clB T x = true) (hx : glB sc x = true) (hU : clB U y = true) (hy : glB sc y = true) :
    PE X (.Call (.Name "isinstance" p) [e0, .Tuple [.Name x p2, .Name y p3] k p4] [] pos) (tI W c (.bif (.isinst [T, U]) m (.cons a .nil))) := by
  obtain ⟨n, md, _⟩ := o.m
  have hT2 : T ∈ clNames := by
    unfold clB at hT
    rw [Bool.and_eq_true] at hT
    exact of_decide_eq_true hT.2
  have hU2 : U ∈ clNames := by
    unfold clB at hU
    rw [Bool.and_eq_true] at hU
    exact of_decide_eq_true hU.2
  refine (pe_callB call_isiT (gl_ok o hg) (md.free _ (by decide +kernel)) (by decide +kernel) (pa_cons ha (pa_cons (pe_tup (pa_cons (bltn_cl o hT hx) (pa_cons (bltn_cl o hU hy) pa_nil rfl) rfl)) pa_nil rfl) (star_ok hs _ _)) (by decide +kernel) (by decide +kernel) (star_ok hs _ _) rfl).imp ?_
  rintro σ H Q ⟨s, d, h', e, to⟩
  unfold evE at e
  split at e
  · rename_i ds h1 e1
    unfold evEs at e1
    split at e1
    · rename_i x h2 e2
      unfold evEs at e1
      cases e1
      refine ⟨s, x, _, e2, fun ρ1 v H1 x1 R1 r1 => ⟨by show 2 ≤ sizeLine; decide, fun p hp => ?_⟩⟩
      obtain ⟨t, e3, e4⟩ := Option.map_eq_some_iff.mp (show (tyD h1 x).map (fun t => (D.bl ([T, U].any fun T => subTy t T), h1)) = some (d, h') from e)
      cases e4
      have x2 : Ext ρ1 s.hid H1 ρ1 (upd H1 p (.tup [.ty T, .ty U])) := ext_new hp
      have R2 := R1.new (u := .tup [.ty T, .ty U]) hp
      obtain ⟨ty, ht⟩ := ty_ok o.K R2 e3 (r1.mono x2)
      refine ⟨v, p, [.ty T, .ty U], .type t, [.type T, .type U], _, rfl, upd_same, .cons (.ty T) (.cons (.ty U) .nil), ty, kit_any (Ts := [T, U]) ht (by simp [hT2, hU2]), ?_⟩
      exact to ρ1 _ _ (x1.trans x2) R2 rfl
    · cases e1
  · cases e

/-! ### what is walked -/
/-- the iterator J gives the items ds, one by one, while St holds -/
structure Wks (W : Wd) (J : It) (ds : List D) (r : Option (Nat × Ob)) (St : List Addr → List Addr → Hp → Prop) : Prop where
  mv : ∀ {ρ hid H ρ' hid' H'}, St ρ hid H → Mv ρ hid H ρ' hid' H' → (∀ a o u, H a = some (.frz o u) → H' a = some (.frz o u)) → St ρ' hid' H'
  go : ∀ {bs ρ hid h H i d}, Rl W bs ρ hid h H → live r h → St ρ hid H → ds[i]? = some d → J.go i H ∧ ∀ x H', J.yld i H x H' → Ext ρ hid H ρ H' ∧ Rl W bs ρ hid h H' ∧ RelD W ρ hid H' d x
  stop : ∀ {bs ρ hid h H i}, Rl W bs ρ hid h H → live r h → St ρ hid H → ds.length ≤ i → J.stop i H
def tIt (W : Wd) (c : Cfg) (it : Wi) : TI := fun σ H R => ∃ (s : Sit W c σ H) (ds : List D) (r : Option (Nat × Ob)) (h' : Store), evIt c it s.env s.h = some ((ds, r), h') ∧
  ∀ ρ' H' J St, Ext s.ρ s.hid H ρ' H' → Rl W s.bs ρ' s.hid h' H' → St ρ' s.hid H' → Wks W J ds r St → R J H'
theorem _root_.L2.PI.imp {X : Cx} {tg e : Expr} {t t' : TI} (p : PI X tg e t) (h : ∀ σ H R, t' σ H R → t σ H R) : PI X tg e t' := ⟨fun pins s σ H R I q => p.run pins s σ H R I (h σ H R q)⟩
theorem sq_uniqL {H : Hp} {a : Addr} {vs ws : List V} (h : H a = some (.lst vs)) (k : Rd H a (.lst ws)) : vs = ws := by
  rcases k with k | ⟨o, k⟩
  · rw [h] at k; cases k; rfl
  · rw [h] at k; cases k
/-- a list that is a value -/
theorem wks_lst {ds : List D} {a : Addr} : Wks W (Itl W.K a) ds none (fun ρ hid H => ∃ vs, RdL W.K ρ hid H a vs ∧ RelDs W ρ hid H ds vs) where
  mv := fun ⟨vs, h1, h2⟩ x _ => ⟨vs, h1.mv x, h2.mv x⟩
  go := fun {bs ρ hid h H i d} R _ ⟨vs, h1, h2⟩ e => by
    obtain ⟨v, e1, r⟩ := h2.get e
    refine ⟨⟨vs, v, h1.sq, e1⟩, fun x H' ⟨e2, e3⟩ => ?_⟩
    subst e2
    have e4 := e3 vs h1.sq
    rw [e1] at e4
    cases e4
    exact ⟨.refl, R, r⟩
  stop := fun {bs ρ hid h H i} R _ ⟨vs, h1, h2⟩ hl => ⟨vs, h1.sq, by rw [← h2.length]; exact hl⟩
/-- a list of the store -/
theorem wks_ref {ds : List D} {n : Nat} {a : Addr} : Wks W (Itl W.K a) ds (some (n, .lst ds)) (fun ρ _ _ => ρ[n]? = some a) where
  mv := fun h x _ => x.get _ _ h
  go := fun {bs ρ hid h H i d} R hl h1 e => by
    obtain ⟨vs, e0, h2⟩ := R.ob n _ a hl h1
    obtain ⟨v, e1, r⟩ := h2.get e
    refine ⟨⟨vs, v, SqL.of e0, e1⟩, fun x H' ⟨e2, e3⟩ => ?_⟩
    subst e2
    have e4 := e3 vs (SqL.of e0)
    rw [e1] at e4
    cases e4
    exact ⟨.refl, R, r⟩
  stop := fun {bs ρ hid h H i} R hl h1 hle => by
    obtain ⟨vs, e0, h2⟩ := R.ob n _ a hl h1
    exact ⟨vs, SqL.of e0, by rw [← h2.length]; exact hle⟩
theorem wks_tup {ds : List D} {a : Addr} : Wks W (Itt W.K a) ds none (fun ρ hid H => ∃ vs, RdT W.K ρ hid H a vs ∧ RelDs W ρ hid H ds vs) where
  mv := fun ⟨vs, h1, h2⟩ x _ => ⟨vs, h1.mv x, h2.mv x⟩
  go := fun {bs ρ hid h H i d} R _ ⟨vs, h1, h2⟩ e => by
    obtain ⟨v, e1, r⟩ := h2.get e
    refine ⟨⟨vs, v, h1.sq, e1⟩, fun x H' ⟨e2, e3⟩ => ?_⟩
    subst e2
    have e4 := e3 vs h1.sq
    rw [e1] at e4
    cases e4
    exact ⟨.refl, R, r⟩
  stop := fun {bs ρ hid h H i} R _ ⟨vs, h1, h2⟩ hl => ⟨vs, h1.sq, by rw [← h2.length]; exact hl⟩
theorem wks_rng {lo hi : Int} : Wks W (Itr lo (hi - lo).toNat) ((rangeL lo hi).map .int) none (fun _ _ _ => True) where
  mv := fun h _ _ => h
  go := fun {bs ρ hid h H i d} R _ _ e => by
    have hl : i < (hi - lo).toNat := by
      have := (List.getElem?_eq_some_iff.mp e).1
      simpa [rangeL] using this
    refine ⟨hl, fun x H' ⟨e2, e3⟩ => ?_⟩
    subst e2 e3
    have e4 : d = .int (lo + (i : Nat)) := by
      rw [rangeL, List.map_map, List.getElem?_map, List.getElem?_range hl] at e
      exact (Option.some.inj e).symm
    rw [e4]
    exact ⟨.refl, R, rfl⟩
  stop := fun {bs ρ hid h H i} R _ _ hl => by
    show (hi - lo).toNat ≤ i
    simpa [rangeL] using hl
theorem enumD_get : ∀ {ds : List D} {k i : Nat} {d : D}, (enumD k ds)[i]? = some d → ∃ e, ds[i]? = some e ∧ d = .tup [.int ((k + i : Nat) : Int), e]
  | [], k, i, d, h => by simp [enumD] at h
  | e :: ds, k, 0, d, h => by
    simp only [enumD, List.getElem?_cons_zero, Option.some.injEq] at h
    exact ⟨e, rfl, by rw [← h]; rfl⟩
  | e :: ds, k, i + 1, d, h => by
    obtain ⟨e', h1, h2⟩ := enumD_get (ds := ds) (k := k + 1) (i := i) (by simpa [enumD] using h)
    exact ⟨e', by simpa using h1, by rw [h2, show k + 1 + i = k + (i + 1) by omega]⟩
theorem enumD_len : ∀ {ds : List D} {k : Nat}, (enumD k ds).length = ds.length
  | [], _ => rfl
  | _ :: ds, k => by simp [enumD, enumD_len (ds := ds)]
theorem pair_ok {bs : List Nat} {ρ hid : List Addr} {h : Store} {H : Hp} (R : Rl W bs ρ hid h H) {T : Addr} {ob : Obj} (hd : ob.dict = none) (hT : H T = none) {k : Int} {e : D} {x : V} (r : RelD W ρ hid H e x) :
    Ext ρ hid H ρ (upd H T (.frz ob (.tup [.int k, x]))) ∧ Rl W bs ρ hid h (upd H T (.frz ob (.tup [.int k, x]))) ∧ RelD W ρ hid (upd H T (.frz ob (.tup [.int k, x]))) (.tup [.int k, e]) (.ref T) :=
  mkT_ok R hd hT (ds := [.int k, e]) ⟨_, _, rfl, rfl, _, _, rfl, r, rfl⟩
theorem wks_enl {ds : List D} {a : Addr} : Wks W (IteL W.K a) (enumD 0 ds) none (fun ρ hid H => ∃ vs, RdL W.K ρ hid H a vs ∧ RelDs W ρ hid H ds vs) where
  mv := fun ⟨vs, h1, h2⟩ x _ => ⟨vs, h1.mv x, h2.mv x⟩
  go := fun {bs ρ hid h H i d} R _ ⟨vs, h1, h2⟩ e => by
    obtain ⟨e', e0, rfl⟩ := enumD_get e
    obtain ⟨v, e1, r⟩ := h2.get e0
    refine ⟨⟨vs, v, h1.sq, e1⟩, ?_⟩
    rintro x H' ⟨T, ob, y, rfl, hd, hT, rfl, e3⟩
    have e4 := e3 vs h1.sq
    rw [e1] at e4
    cases e4
    rw [Nat.zero_add]
    exact pair_ok R hd hT r
  stop := fun {bs ρ hid h H i} R _ ⟨vs, h1, h2⟩ hl => ⟨vs, h1.sq, by rw [← h2.length, ← enumD_len (k := 0)]; exact hl⟩
theorem wks_enr {ds : List D} {n : Nat} {a : Addr} : Wks W (IteL W.K a) (enumD 0 ds) (some (n, .lst ds)) (fun ρ _ _ => ρ[n]? = some a) where
  mv := fun h x _ => x.get _ _ h
  go := fun {bs ρ hid h H i d} R hl h1 e => by
    obtain ⟨vs, e0, h2⟩ := R.ob n _ a hl h1
    obtain ⟨e', e9, rfl⟩ := enumD_get e
    obtain ⟨v, e1, r⟩ := h2.get e9
    refine ⟨⟨vs, v, SqL.of e0, e1⟩, ?_⟩
    rintro x H' ⟨T, ob, y, rfl, hd, hT, rfl, e3⟩
    have e4 := e3 vs (SqL.of e0)
    rw [e1] at e4
    cases e4
    rw [Nat.zero_add]
    exact pair_ok R hd hT r
  stop := fun {bs ρ hid h H i} R hl h1 hle => by
    obtain ⟨vs, e0, h2⟩ := R.ob n _ a hl h1
    exact ⟨vs, SqL.of e0, by rw [← h2.length, ← enumD_len (k := 0)]; exact hle⟩
theorem wks_ent {ds : List D} {a : Addr} : Wks W (IteT W.K a) (enumD 0 ds) none (fun ρ hid H => ∃ vs, RdT W.K ρ hid H a vs ∧ RelDs W ρ hid H ds vs) where
  mv := fun ⟨vs, h1, h2⟩ x _ => ⟨vs, h1.mv x, h2.mv x⟩
  go := fun {bs ρ hid h H i d} R _ ⟨vs, h1, h2⟩ e => by
    obtain ⟨e', e0, rfl⟩ := enumD_get e
    obtain ⟨v, e1, r⟩ := h2.get e0
    refine ⟨⟨vs, v, h1.sq, e1⟩, ?_⟩
    rintro x H' ⟨T, ob, y, rfl, hd, hT, rfl, e3⟩
    have e4 := e3 vs h1.sq
    rw [e1] at e4
    cases e4
    rw [Nat.zero_add]
    exact pair_ok R hd hT r
  stop := fun {bs ρ hid h H i} R _ ⟨vs, h1, h2⟩ hl => ⟨vs, h1.sq, by rw [← h2.length, ← enumD_len (k := 0)]; exact hl⟩
theorem zipD_get : ∀ {ds es : List D} {i : Nat} {d : D}, (zipD ds es)[i]? = some d → ∃ x y, ds[i]? = some x ∧ es[i]? = some y ∧ d = .tup [x, y]
  | [], _, i, d, h => by simp [zipD] at h
  | _ :: _, [], i, d, h => by simp [zipD] at h
  | a :: ds, b :: es, 0, d, h => by
    simp only [zipD, List.getElem?_cons_zero, Option.some.injEq] at h
    exact ⟨a, b, rfl, rfl, h.symm⟩
  | a :: ds, b :: es, i + 1, d, h => by
    obtain ⟨x, y, h1, h2, h3⟩ := zipD_get (ds := ds) (es := es) (i := i) (by simpa [zipD] using h)
    exact ⟨x, y, by simpa using h1, by simpa using h2, h3⟩
theorem zipD_len : ∀ {ds es : List D}, (zipD ds es).length = min ds.length es.length
  | [], _ => by simp [zipD]
  | _ :: _, [] => by simp [zipD]
  | _ :: ds, _ :: es => by simp [zipD, zipD_len (ds := ds) (es := es)]
theorem wks_key {ks : List L2.Key} {a : Addr} {o : Obj} {kvs : List (L2.Key × V)} (hk : kvs.map (·.1) = ks) {r : Option (Nat × Ob)} : Wks W (Itk a o kvs) (ks.map kD) r (fun _ _ H => H a = some (.frz o (.dK kvs))) where
  mv := fun h _ f => f _ _ _ h
  go := fun {bs ρ hid h H i d} R _ h1 e => by
    subst hk
    rw [List.map_map, List.getElem?_map] at e
    obtain ⟨⟨k, v⟩, e1, e2⟩ := Option.map_eq_some_iff.mp e
    refine ⟨⟨h1, (List.getElem?_eq_some_iff.mp e1).1⟩, ?_⟩
    rintro x H' ⟨rfl, k', v', e3, rfl⟩
    rw [e1] at e3
    cases e3
    refine ⟨.refl, R, ?_⟩
    rw [← e2]
    cases k <;> rfl
  stop := fun {bs ρ hid h H i} R _ h1 hl => ⟨h1, by
    rw [← hk] at hl
    simpa using hl⟩
/-! ### iterators -/
theorem i_ev (hK : W.K = X.K) {tg e0 : Expr} {a : E} (ha : PE X e0 (tI W c a)) : PI X tg e0 (tIt W c (.ev a)) := by
  refine (pi_list ha).imp ?_
  rintro σ H R ⟨s, ds, r, h', e, to⟩
  unfold evIt at e
  split at e
  · rename_i n h1 e1
    split at e
    · rename_i es hn
      cases e
      refine ⟨s, _, _, e1, fun ρ1 v H1 x1 R1 r1 => ?_⟩
      obtain ⟨a', ha', rfl⟩ := r1
      obtain ⟨vs, e2, q⟩ := R1.ob n _ a' hn ha'
      refine ⟨a', rfl, ⟨vs, SqL.of e2⟩, ?_⟩
      rw [← hK]
      exact to ρ1 H1 _ _ x1 R1 ha' wks_ref
    · cases e
  · rename_i d h1 hd e1
    obtain ⟨es, e2, e3⟩ := Option.map_eq_some_iff.mp e
    cases e3
    refine ⟨s, _, _, e1, fun ρ1 v H1 x1 R1 r1 => ?_⟩
    have key : ∃ a' vs, v = .ref a' ∧ RdL W.K ρ1 s.hid H1 a' vs ∧ RelDs W ρ1 s.hid H1 ds vs := by
      cases d with
      | lst xs =>
        cases e2
        obtain ⟨a', vs, e4, e5, e6, q⟩ := r1
        exact ⟨a', vs, e4, .inl ⟨.inl e5, e6⟩, q⟩
      | lck xs =>
        cases e2
        exact r1
      | ref n => exact (hd n rfl).elim
      | _ => cases e2
    obtain ⟨a', vs, rfl, h5, q⟩ := key
    refine ⟨a', rfl, ⟨vs, sq_l hK h5⟩, ?_⟩
    rw [← hK]
    exact to ρ1 H1 _ _ x1 R1 ⟨vs, h5, q⟩ wks_lst
  · cases e
theorem i_tv (hK : W.K = X.K) {tg e0 : Expr} {a : E} (ha : PE X e0 (tI W c a)) : PI X tg e0 (tIt W c (.tv a)) := by
  refine (pi_tup ha).imp ?_
  rintro σ H R ⟨s, ds, r, h', e, to⟩
  unfold evIt at e
  split at e
  · rename_i es h1 e1
    cases e
    refine ⟨s, _, _, e1, fun ρ1 v H1 x1 R1 r1 => ?_⟩
    obtain ⟨a', vs, rfl, h5, q⟩ := r1
    refine ⟨a', rfl, ⟨vs, sq_t hK h5⟩, ?_⟩
    rw [← hK]
    exact to ρ1 H1 _ _ x1 R1 ⟨vs, h5, q⟩ wks_tup
  · cases e
theorem i_rng1 (o : Okx X W N G np c sc) {tg e0 : Expr} {a : E} {p pos : Pos} (hg : glB sc "range" = true) (ha : PE X e0 (tI W c a)) (hs : notStar e0 = true) : PI X tg (.Call (.Name "range" p) [e0] [] pos) (tIt W c (.rng1 a)) := by
  obtain ⟨n, md, _⟩ := o.m
  refine (pi_range1 (gl_ok o hg) (md.free _ (by decide +kernel)) (pa_cons ha pa_nil (star_ok hs _ _)) (star_ok hs _ _)).imp ?_
  rintro σ H R ⟨s, ds, r, h', e, to⟩
  unfold evIt at e
  split at e
  · rename_i j h1 e1
    split at e
    · rename_i hz
      cases e
      refine ⟨s, _, _, e1, fun ρ1 v H1 x1 R1 r1 => ⟨j, by rw [show v = .int j from r1], hz.1, hz.2, ?_⟩⟩
      have e2 := to ρ1 H1 _ _ x1 R1 True.intro (wks_rng (lo := 0) (hi := j))
      rw [Int.sub_zero] at e2
      exact e2
    · cases e
  · cases e
theorem i_rng2 (o : Okx X W N G np c sc) {tg e0 e9 : Expr} {a b : E} {p pos : Pos} (hg : glB sc "range" = true) (ha : PE X e0 (tI W c a)) (hs : notStar e0 = true) (hb : PE X e9 (tI W c b)) (hs2 : notStar e9 = true) :
    PI X tg (.Call (.Name "range" p) [e0, e9] [] pos) (tIt W c (.rng2 a b)) := by
  obtain ⟨n, md, _⟩ := o.m
  refine (pi_range2 (gl_ok o hg) (md.free _ (by decide +kernel)) (pa_cons ha (pa_cons hb pa_nil (star_ok hs2 _ _)) (star_ok hs _ _)) (by rw [star_ok hs, star_ok hs2]; rfl) (by rw [star_ok hs2]; rfl)).imp ?_
  rintro σ H R ⟨s, ds, r, h', e, to⟩
  unfold evIt at e
  split at e
  · rename_i i h1 e1
    split at e
    · rename_i j h2 e2
      split at e
      · rename_i hz
        cases e
        refine ⟨s, _, _, e1, fun ρ1 v H1 x1 R1 r1 => ⟨s.go x1 R1, _, _, e2, fun ρ2 w H2 x2 R2 r2 => ⟨i, j, by rw [show v = .int i from r1, show w = .int j from r2], ⟨hz.1.1, hz.1.2, hz.2.1, hz.2.2⟩, ?_⟩⟩⟩
        exact to ρ2 H2 _ _ (x1.trans x2) R2 True.intro (wks_rng (lo := i) (hi := j))
      · cases e
    · cases e
  · cases e
theorem i_enl (o : Okx X W N G np c sc) {tp : Pos} {tk : Nat} {elts : List Expr} {e0 : Expr} {a : E} {p pos : Pos} (hg : glB sc "enumerate" = true) (ha : PE X e0 (tI W c a)) (hs : notStar e0 = true) : PI X (.Tuple elts tk tp) (.Call (.Name "enumerate" p) [e0] [] pos) (tIt W c (.enl a)) := by
  obtain ⟨n, md, _⟩ := o.m
  have hK := o.K
  refine (pi_enumL (gl_ok o hg) (md.free _ (by decide +kernel)) (pa_cons ha pa_nil (star_ok hs _ _)) (by rw [star_ok hs]; rfl)).imp ?_
  rintro σ H R ⟨s, ds, r, h', e, to⟩
  unfold evIt at e
  split at e
  · rename_i n h1 e1
    split at e
    · rename_i es hn
      cases e
      refine ⟨s, _, _, e1, fun ρ1 v H1 x1 R1 r1 => ?_⟩
      obtain ⟨a', ha', rfl⟩ := r1
      obtain ⟨vs, e2, q⟩ := R1.ob n _ a' hn ha'
      refine ⟨a', vs, rfl, SqL.of e2, ?_⟩
      rw [← hK]
      exact to ρ1 H1 _ _ x1 R1 ha' wks_enr
    · cases e
  · rename_i d h1 hd e1
    obtain ⟨es, e2, e3⟩ := Option.map_eq_some_iff.mp e
    cases e3
    refine ⟨s, _, _, e1, fun ρ1 v H1 x1 R1 r1 => ?_⟩
    have key : ∃ a' vs, v = .ref a' ∧ RdL W.K ρ1 s.hid H1 a' vs ∧ RelDs W ρ1 s.hid H1 es vs := by
      cases d with
      | lst xs =>
        cases e2
        obtain ⟨a', vs, e4, e5, e6, q⟩ := r1
        exact ⟨a', vs, e4, .inl ⟨.inl e5, e6⟩, q⟩
      | lck xs =>
        cases e2
        exact r1
      | ref n => exact (hd n rfl).elim
      | _ => cases e2
    obtain ⟨a', vs, rfl, h5, q⟩ := key
    refine ⟨a', vs, rfl, sq_l hK h5, ?_⟩
    rw [← hK]
    exact to ρ1 H1 _ _ x1 R1 ⟨vs, h5, q⟩ wks_enl
  · cases e
theorem i_ent (o : Okx X W N G np c sc) {tp : Pos} {tk : Nat} {elts : List Expr} {e0 : Expr} {a : E} {p pos : Pos} (hg : glB sc "enumerate" = true) (ha : PE X e0 (tI W c a)) (hs : notStar e0 = true) : PI X (.Tuple elts tk tp) (.Call (.Name "enumerate" p) [e0] [] pos) (tIt W c (.ent a)) := by
  obtain ⟨n, md, _⟩ := o.m
  have hK := o.K
  refine (pi_enumT (gl_ok o hg) (md.free _ (by decide +kernel)) (pa_cons ha pa_nil (star_ok hs _ _)) (by rw [star_ok hs]; rfl)).imp ?_
  rintro σ H R ⟨s, ds, r, h', e, to⟩
  unfold evIt at e
  split at e
  · rename_i es h1 e1
    cases e
    refine ⟨s, _, _, e1, fun ρ1 v H1 x1 R1 r1 => ?_⟩
    obtain ⟨a', vs, rfl, h5, q⟩ := r1
    refine ⟨a', vs, rfl, sq_t hK h5, ?_⟩
    rw [← hK]
    exact to ρ1 H1 _ _ x1 R1 ⟨vs, h5, q⟩ wks_ent
  · cases e
theorem i_keys (o : Okx X W N G np c sc) {tg : Expr} {x : Str} {i : Nat} {p : Pos} (hi : N[i]? = some x) (hv : visB sc x = true) (hn : nmOk x = true) : PI X tg (.Name x p) (tIt W c (.keys i)) := by
  obtain ⟨h1, h2, _⟩ := nm_ok hn
  refine (pi_keys (pe_var (i := i) (by rw [o.N_]; exact hi) (vis_ok o hv) h1 h2)).imp ?_
  rintro σ H R ⟨s, ds, r, h', e, to⟩
  unfold evIt at e
  split at e
  · rename_i ks es e1
    split at e
    · rename_i hz
      cases e
      obtain ⟨a, ob, kvs, e2, e3, n⟩ := s.re.lk i hz.1 _ _ e1
      obtain ⟨v, e4, rv⟩ := s.re.at_ i _ e1
      rw [e2] at e4
      cases e4
      obtain ⟨a', kvs', e5, e6, n6, hk, q⟩ := rv
      cases e5
      have e7 : kvs' = kvs := by
        rcases e6 with e6 | ⟨o6, e6⟩
        · rw [e3] at e6; cases e6
        · rw [e3] at e6; cases e6; rfl
      subst e7
      exact ⟨_, e2, a, ob, rfl, .inl ⟨kvs', e3, to s.ρ H _ _ .refl s.R e3 (wks_key hk)⟩⟩
    · cases e
  · rename_i n e1
    split at e
    · rename_i kvs hn
      cases e
      obtain ⟨v, e4, rv⟩ := s.re.at_ i _ e1
      obtain ⟨a, ha, rfl⟩ := rv
      obtain ⟨ob, kws, e5, hk, q⟩ := s.R.ob n _ a hn ha
      refine ⟨_, e4, a, ob, rfl, .inl ⟨kws, e5, ?_⟩⟩
      have w := wks_key (W := W) (a := a) (o := ob) (ks := kvs.map (·.1)) hk (r := some (n, .lkd kvs))
      rw [List.map_map] at w
      exact to s.ρ H _ _ .refl s.R e5 w
    · cases e
  · cases e
/-- len(set(xs)), distinct ints -/
theorem s_lset (o : Okx X W N G np c sc) {m : Bool} {e0 : Expr} {a : E} {p p2 pos pos2 : Pos} (hg : glB sc "len" = true) (hg2 : glB sc "set" = true) (ha : PE X e0 (tI W c a)) (hs : notStar e0 = true) :
    PE X (.Call (.Name "len" p) [.Call (.Name "set" p2) [e0] [] pos2] [] pos) (tI W c (.bif .lenset m (.cons a .nil))) := by
  obtain ⟨n, md, _⟩ := o.m
  refine (RZ.pe_lenSetI (gl_ok o hg) (md.free _ (by decide +kernel)) (gl_ok o hg2) (md.free _ (by decide +kernel)) ha o.calm (star_ok hs _ _)).imp ?_
  rintro σ H Q ⟨s, d, h', e, to⟩
  unfold evE at e
  split at e
  · rename_i ds h1 e1
    unfold evEs at e1
    split at e1
    · rename_i x h2 e2
      unfold evEs at e1
      cases e1
      refine ⟨s, x, _, e2, fun ρ1 v H1 x1 R1 r1 => ?_⟩
      simp only [biF] at e
      split at e
      · rename_i xs e3
        split at e
        · rename_i ns e4
          split at e
          · rename_i hz
            cases e
            obtain ⟨l, vs, rfl, hl, q⟩ := getR_ok o.K R1 e3 r1
            have ev := q.ints e4
            subst ev
            exact ⟨l, ns, rfl, hl, hz.1, hz.2, to ρ1 _ H1 x1 R1 rfl⟩
          · cases e
        · cases e
      · cases e
    · cases e1
  · cases e
/-- a list or a tuple -/
theorem pi_or {X : Cx} {tg e : Expr} {t u : TI} (h1 : PI X tg e t) (h2 : PI X tg e u) : PI X tg e (fun σ H R => t σ H R ∨ u σ H R) :=
  ⟨fun pins s σ H R I h => h.elim (h1.run pins s σ H R I) (h2.run pins s σ H R I)⟩
theorem evx_split {e : E} {env : Env} {h : Store} {r : Wk × Store} (q : evIt c (.evx e) env h = some r) : evIt c (.ev e) env h = some r ∨ evIt c (.tv e) env h = some r := by
  unfold evIt at q ⊢
  cases e1 : evE c e env h with
  | none => rw [e1] at q; cases q
  | some p =>
    obtain ⟨d, h1⟩ := p
    rw [e1] at q
    cases d with
    | tup ds => exact .inr q
    | ref n => exact .inl q
    | _ => exact .inl q
theorem enx_split {e : E} {env : Env} {h : Store} {r : Wk × Store} (q : evIt c (.enx e) env h = some r) : evIt c (.enl e) env h = some r ∨ evIt c (.ent e) env h = some r := by
  unfold evIt at q ⊢
  cases e1 : evE c e env h with
  | none => rw [e1] at q; cases q
  | some p =>
    obtain ⟨d, h1⟩ := p
    rw [e1] at q
    cases d with
    | tup ds => exact .inr q
    | ref n => exact .inl q
    | _ => exact .inl q
theorem i_evx (hK : W.K = X.K) {tg e0 : Expr} {a : E} (ha : PE X e0 (tI W c a)) : PI X tg e0 (tIt W c (.evx a)) := by
  refine (pi_or (i_ev hK ha) (i_tv hK ha)).imp ?_
  rintro σ H R ⟨s, ds, r, h', e, to⟩
  rcases evx_split e with e | e
  · exact .inl ⟨s, ds, r, h', e, to⟩
  · exact .inr ⟨s, ds, r, h', e, to⟩
theorem i_enx (o : Okx X W N G np c sc) {tp : Pos} {tk : Nat} {elts : List Expr} {e0 : Expr} {a : E} {p pos : Pos} (hg : glB sc "enumerate" = true) (ha : PE X e0 (tI W c a)) (hs : notStar e0 = true) : PI X (.Tuple elts tk tp) (.Call (.Name "enumerate" p) [e0] [] pos) (tIt W c (.enx a)) := by
  refine (pi_or (i_enl o hg ha hs) (i_ent o hg ha hs)).imp ?_
  rintro σ H R ⟨s, ds, r, h', e, to⟩
  rcases enx_split e with e | e
  · exact .inl ⟨s, ds, r, h', e, to⟩
  · exact .inr ⟨s, ds, r, h', e, to⟩
end
end Sw

set_option maxRecDepth 100000
set_option maxHeartbeats 1000000
/-! Sw7: targets, comprehensions. -/
namespace Sw
open PySem PySem.Spec PyProof.Rows L2
mutual
def Tg.slots : Tg → List Nat
  | .name i => [i]
  | .tup ts => Tgs.slots ts
  | _ => []
def Tgs.slots : Tgs → List Nat
  | .nil => []
  | .cons t ts => t.slots ++ ts.slots
end
def Tgs.len : Tgs → Nat
  | .nil => 0
  | .cons _ ts => ts.len + 1
/-- σ' is σ but for some slots -/
def Off (l : List Nat) (σ σ' : L2.St) : Prop := σ'.length = σ.length ∧ ∀ j, j ∉ l → σ'[j]? = σ[j]?
theorem Off.refl {l : List Nat} {σ : L2.St} : Off l σ σ := ⟨rfl, fun _ _ => rfl⟩
theorem Off.trans {l l' : List Nat} {σ σ' σ'' : L2.St} (a : Off l σ σ') (b : Off l' σ' σ'') : Off (l ++ l') σ σ'' :=
  ⟨b.1.trans a.1, fun j hj => (b.2 j fun z => hj (List.mem_append_right _ z)).trans (a.2 j fun z => hj (List.mem_append_left _ z))⟩
theorem Off.set {i : Nat} {v : Option V} {σ : L2.St} : Off [i] σ (σ.set i v) := ⟨by simp, fun j hj => by rw [List.getElem?_set_ne]; simpa using fun z => hj (by simp [z])⟩
theorem wipe_in : ∀ {vs : List Nat} {σ : L2.St} {i : Nat}, i ∈ vs → (wipe σ vs)[i]? = if i < σ.length then some none else none
  | v :: vs, σ, i, h => by
    unfold wipe
    by_cases hv : v = i
    · subst hv
      by_cases hl : v < σ.length
      · rw [if_pos hl, List.getElem?_set_self (by rw [wipe_length]; exact hl)]
      · rw [if_neg hl, List.getElem?_eq_none (by rw [List.length_set, wipe_length]; omega)]
    · rw [List.getElem?_set_ne hv]
      exact wipe_in ((List.mem_cons.mp h).resolve_left (Ne.symm hv))
theorem wipe_off {vs l : List Nat} {σ σ' : L2.St} (h : Off l σ σ') (hs : ∀ j ∈ l, j ∈ vs) : wipe σ' vs = wipe σ vs := by
  apply List.ext_getElem?
  intro i
  by_cases hi : i ∈ vs
  · rw [wipe_in hi, wipe_in hi, h.1]
  · rw [wipe_out hi, wipe_out hi]
    exact h.2 i fun z => hi (hs i z)
theorem wipe_twice {vs : List Nat} {σ : L2.St} : wipe (wipe σ vs) vs = wipe σ vs := wipe_off (l := vs) ⟨wipe_length σ vs, fun j hj => wipe_out hj⟩ fun _ h => h
section
variable {W : Wd} {lk : List Nat} {ρ hid : List Addr} {H : Hp} {env : Env} {σ : L2.St}
theorem wipeD_len (env : Env) : ∀ vs : List Nat, (wipeD env vs).length = env.length
  | [] => rfl
  | v :: vs => by unfold wipeD; rw [List.length_set, wipeD_len env vs]
theorem RelEnv.wipe1 (r : RelEnv W lk ρ hid H env σ) (v : Nat) : RelEnv W lk ρ hid H (env.set v none) (σ.set v none) := by
  have key : ∀ (i : Nat) (d : D), (env.set v none)[i]? = some (some d) → env[i]? = some (some d) ∧ (σ.set v none)[i]? = σ[i]? := fun i d e => by
    by_cases hi : v = i
    · subst hi
      by_cases hl : v < env.length
      · rw [List.getElem?_set_self hl] at e
        cases e
      · rw [List.getElem?_eq_none (by rw [List.length_set]; omega)] at e
        cases e
    · rw [List.getElem?_set_ne hi] at e
      exact ⟨e, by rw [List.getElem?_set_ne hi]⟩
  refine ⟨by simp [r.len], fun i d e => ?_, fun i hi ks ds e => ?_⟩
  · obtain ⟨e1, e2⟩ := key i d e
    obtain ⟨w, e3, q⟩ := r.at_ i d e1
    exact ⟨w, by rw [e2]; exact e3, q⟩
  · obtain ⟨e1, e2⟩ := key i _ e
    obtain ⟨a, o, kvs, e3, e4, n⟩ := r.lk i hi ks ds e1
    exact ⟨a, o, kvs, by rw [e2]; exact e3, e4, n⟩
theorem RelEnv.wipe (r : RelEnv W lk ρ hid H env σ) : ∀ vs : List Nat, RelEnv W lk ρ hid H (wipeD env vs) (wipe σ vs)
  | [] => r
  | v :: vs => (RelEnv.wipe r vs).wipe1 v
theorem RelEnv.set (r : RelEnv W lk ρ hid H env σ) {i : Nat} {d : D} {v : V} (hi : i ∉ lk) (q : RelD W ρ hid H d v) : RelEnv W lk ρ hid H (env.set i (some d)) (σ.set i (some v)) := by
  refine ⟨by simp [r.len], fun j d' e => ?_, fun j hj ks ds e => ?_⟩
  · by_cases h : i = j
    · subst h
      by_cases hl : i < env.length
      · rw [List.getElem?_set_self hl] at e
        cases e
        exact ⟨v, List.getElem?_set_self (by rw [← r.len]; exact hl), q⟩
      · rw [List.getElem?_eq_none (by rw [List.length_set]; omega)] at e
        cases e
    · rw [List.getElem?_set_ne h] at e ⊢
      exact r.at_ j d' e
  · have h : i ≠ j := fun z => hi (z ▸ hj)
    rw [List.getElem?_set_ne h] at e ⊢
    exact r.lk j hj ks ds e
end
def tGi (W : Wd) (c : Cfg) (t : Tg) : TG := fun v σ H Q => ∃ (s : Sit W c σ H) (d : D) (env' : Env) (h' : Store), RelD W s.ρ s.hid H d v ∧ asgT c t d s.env s.h = some (env', h') ∧
  ∀ ρ' H' σ', Ext s.ρ s.hid H ρ' H' → Rl W s.bs ρ' s.hid h' H' → RelEnv W c.lk ρ' s.hid H' env' σ' → Off t.slots σ σ' → Q σ' H'
def tGs (W : Wd) (c : Cfg) (ts : Tgs) : TGs := fun vs σ H Q => ∃ (s : Sit W c σ H) (ds : List D) (env' : Env) (h' : Store), RelDs W s.ρ s.hid H ds vs ∧ asgTs c ts ds s.env s.h = some (env', h') ∧
  ∀ ρ' H' σ', Ext s.ρ s.hid H ρ' H' → Rl W s.bs ρ' s.hid h' H' → RelEnv W c.lk ρ' s.hid H' env' σ' → Off ts.slots σ σ' → Q σ' H'
theorem _root_.L2.PG.imp {X : Cx} {tg : Expr} {t t' : TG} (p : PG X tg t) (h : ∀ v σ H Q, t' v σ H Q → t v σ H Q) : PG X tg t' := ⟨fun pins s σ H v u Q I r q => p.run pins s σ H v u Q I r (h v σ H Q q)⟩
theorem _root_.L2.PGs.imp {X : Cx} {tg : List Expr} {t t' : TGs} (p : PGs X tg t) (h : ∀ v σ H Q, t' v σ H Q → t v σ H Q) : PGs X tg t' := ⟨fun pins s σ H v u Q I r q => p.run pins s σ H v u Q I r (h v σ H Q q)⟩
section
variable {X : Cx} {W : Wd} {N : List Str} {G : Gs} {np : Nat → Nat} {c : Cfg} {sc : Scope}
theorem g_name (o : Okx X W N G np c sc) {i : Nat} {x : Str} {p : Pos} (hi : N[i]? = some x) (hx : Loc X.env.scope x) (hf : X.fn x = true ∨ X.env.scope.names.lookup x = some .local) : PG X (.Name x p) (tGi W c (.name i)) := by
  refine (pg_name (i := i) (by rw [o.N_]; exact o.nd) (by rw [o.N_]; exact hi) hx hf).imp ?_
  rintro v σ H Q ⟨s, d, env', h', r, e, to⟩
  unfold asgT at e
  split at e
  · cases e
  · rename_i hl
    cases e
    exact to s.ρ H _ .refl s.R (s.re.set hl r) Off.set
theorem assign_sub {o i : Expr} {pos : Pos} {env : PySem.Env} (h : plainSub i = true) (v : Value) : assign (.Subscript o i pos) env v = (do
    let ov ← holding [v] (eval o env)
    let iv ← holding [v, ov] (eval i env)
    standAt pos
    holding [v, ov, iv] (setItem ov iv v)
    release [v, ov, iv] []) := by
  cases i <;> first | rfl | cases h
/-- o[i] = .. of a list -/
theorem g_sub (o : Okx X W N G np c sc) {ox ix : Expr} {a b : E} {p : Pos} (ho : PE X ox (tI W c a)) (hi : PE X ix (tI W c b)) (hs : plainSub ix = true) : PG X (.Subscript ox ix p) (tGi W c (.sub a b)) := by
  refine (pg_sub ho hi set_list (assign_sub hs)).imp ?_
  rintro v σ H Q ⟨s, d, env', h', r, e, to⟩
  unfold asgT at e
  split at e
  · rename_i x h1 e1
    split at e
    · rename_i y h2 e2
      refine ⟨s, x, h1, e1, fun ρ1 v1 H1 x1 R1 r1 => ⟨s.go x1 R1, y, h2, e2, fun ρ2 v2 H2 x2 R2 r2 => ?_⟩⟩
      cases x with
      | ref n =>
        cases y with
        | int k =>
          simp only at e
          split at e
          · rename_i ds hn
            split at e
            · rename_i j hj
              obtain ⟨h3, e3, e4⟩ := Option.map_eq_some_iff.mp e
              cases e4
              obtain ⟨ad, ha, rfl⟩ := r1.mono x2
              obtain ⟨vs, hv, q⟩ := R2.ob n _ ad hn ha
              have rd := (r.mono x1).mono x2
              have x3 : Mv ρ2 s.hid H2 ρ2 s.hid (upd H2 ad (.lst (vs.set j v))) := mv_write ha
              obtain ⟨x4, R4⟩ := wr_ok ((s.go x1 R1).go x2 R2) (o' := .lst (ds.set j d)) e3 hn ha (by rw [hv]; intro _ _ z; cases z) (u := .lst (vs.set j v)) ⟨_, upd_same, (RelDs.set rd j q).mv x3⟩ fun β h1 h2 => by
                have h1 : D.bels β ds = true := h1
                have h2 : D.bels β [d] = true := h2
                show D.bels β (ds.set j d) = true
                rw [bels_iff] at *
                intro z hz
                rcases List.mem_or_eq_of_mem_set hz with hz | hz
                · exact h1 z hz
                · exact h2 z (by simp [hz])
              exact ⟨ad, vs, k, j, rfl, r2, hv, by rw [← q.length]; exact hj, to ρ2 _ σ ((x1.trans x2).trans x4) R4 (s.re.mono ((x1.trans x2).trans x4)) Off.refl⟩
            · cases e
          · cases e
        | _ => cases e
      | _ => cases e
    · cases e
  · cases e
/-- d[k] = .. of a dict -/
theorem g_dsub (o : Okx X W N G np c sc) {ox ix : Expr} {a b : E} {p : Pos} (ho : PE X ox (tI W c a)) (hi : PE X ix (tI W c b)) (hs : plainSub ix = true) : PG X (.Subscript ox ix p) (tGi W c (.dsub a b)) := by
  refine (pg_sub ho hi (set_dict (by have := o.hu; omega)) (assign_sub hs)).imp ?_
  rintro v σ H Q ⟨s, d, env', h', r, e, to⟩
  unfold asgT at e
  split at e
  · rename_i x h1 e1
    split at e
    · rename_i y h2 e2
      refine ⟨s, x, h1, e1, fun ρ1 v1 H1 x1 R1 r1 => ⟨s.go x1 R1, y, h2, e2, fun ρ2 v2 H2 x2 R2 r2 => ?_⟩⟩
      cases x with
      | ref n =>
        cases hy : dKey y with
        | none =>
          rw [hy] at e
          cases e
        | some k =>
          rw [hy] at e
          simp only at e
          split at e
          · rename_i kvs hn
            split at e
            · rename_i hz
              obtain ⟨h3, e3, e4⟩ := Option.map_eq_some_iff.mp e
              cases e4
              obtain ⟨ad, ha, rfl⟩ := r1.mono x2
              obtain ⟨kws, hv, hk, q⟩ := R2.ob n _ ad hn ha
              have rd := (r.mono x1).mono x2
              have x3 : Mv ρ2 s.hid H2 ρ2 s.hid (upd H2 ad (.dK (putK kws k v))) := mv_write ha
              obtain ⟨p1, p2⟩ := put_ok (k := k) rd hk q
              obtain ⟨x4, R4⟩ := wr_ok ((s.go x1 R1).go x2 R2) (o' := .dct (put kvs k d)) e3 hn ha (by rw [hv]; intro _ _ z; cases z) (u := .dK (putK kws k v)) ⟨_, upd_same, p1, p2.mv x3⟩ fun β h1 h2 => bels_put h1 h2
              refine ⟨ad, _, rfl, .inl ⟨kws, k, hv, dKey_ok hy r2, ?_, rfl⟩, to ρ2 _ σ ((x1.trans x2).trans x4) R4 (s.re.mono ((x1.trans x2).trans x4)) Off.refl⟩
              have e5 := congrArg List.length hk
              rw [List.length_map, List.length_map] at e5
              rw [e5]
              exact hz
            · cases e
          · cases e
      | _ => cases e
    · cases e
  · cases e
/-- o[a:b] = .. of a list -/
theorem g_slc (o : Okx X W N G np c sc) {ox lx hx : Expr} {a b f : E} {p p2 : Pos} (ho : PE X ox (tI W c a)) (hl : PE X lx (tI W c b)) (hh : PE X hx (tI W c f)) : PG X (.Subscript ox (.Slice (some lx) (some hx) none p2) p) (tGi W c (.slc a b f)) := by
  refine ⟨fun pins s0 σ H v u Q I rv h => ?_⟩
  obtain ⟨s, d, env', h', r, e, to⟩ := h
  unfold asgT at e
  split at e
  · rename_i x h1 e1
    split at e
    · rename_i i h2 e2
      split at e
      · rename_i j h3 e3
        cases x with
        | ref n =>
          simp only at e
          split at e
          · rename_i ds es hn hes
            split at e
            · rename_i hz
              obtain ⟨h4, e4, e5⟩ := Option.map_eq_some_iff.mp e
              cases e5
              show wpAny (model X.prog X.w) X.A (do
                let ov ← holding [u] (eval ox X.env)
                let iv ← holding [u, ov] (eval (.Slice (some lx) (some hx) none p2) X.env)
                standAt p
                holding [u, ov, iv] (setItem ov iv u)
                release [iv, u, ov] []) _ X.xe s0
              refine wpAny_bind (wpAny_holding (thn (ho.run pins s0 σ H _ I ⟨s, _, h1, e1, fun ρ1 v1 H1 x1 R1 r1 => (show (fun (v1 : V) (H1 : Hp) => ∃ ρ1, Ext s.ρ s.hid H ρ1 H1 ∧ Rl W s.bs ρ1 s.hid h1 H1 ∧ RelD W ρ1 s.hid H1 (.ref n) v1) v1 H1 from ⟨ρ1, x1, R1, r1⟩)⟩) fun ov s1 ⟨v1, H1, I1, q1, ρ1, x1, R1, r1⟩ => ?_))
              refine wpAny_bind (wpAny_holding (wpAny_Slice ?_))
              rw [evalPart_some, evalPart_some]
              refine thn (hl.run pins s1 σ H1 _ I1 ⟨s.go x1 R1, _, h2, e2, fun ρ2 v2 H2 x2 R2 r2 => (show (fun (v2 : V) (H2 : Hp) => ∃ ρ2, Ext ρ1 s.hid H1 ρ2 H2 ∧ Rl W s.bs ρ2 s.hid h2 H2 ∧ v2 = .int i) v2 H2 from ⟨ρ2, x2, R2, r2⟩)⟩) fun vl s2 ⟨v2, H2, I2, q2, ρ2, x2, R2, r2⟩ => ?_
              refine thn (hh.run pins s2 σ H2 _ I2 ⟨(s.go x1 R1).go x2 R2, _, h3, e3, fun ρ3 v3 H3 x3 R3 r3 => (show (fun (v3 : V) (H3 : Hp) => ∃ ρ3, Ext ρ2 s.hid H2 ρ3 H3 ∧ Rl W s.bs ρ3 s.hid h3 H3 ∧ v3 = .int j) v3 H3 from ⟨ρ3, x3, R3, r3⟩)⟩) fun vu s3 ⟨v3, H3, I3, q3, ρ3, x3, R3, r3⟩ => ?_
              subst r2 r3
              rw [evalPart_none]
              refine wpAny_pure ?_
              have I4 : Inv X pins σ H3 { s3 with heap := s3.heap.push { cls := .type "slice", data := .fields #[vl, vu, .none] } } := I3.kept (t' := s3.toks) fun b ob q => Heap.get?_push_of_some _ q
              refine wpAny_bind (wpAny_standAt ?_)
              obtain ⟨ad, ha, rfl⟩ := (r1.mono x2).mono x3
              cases q1
              obtain ⟨vs, hv, q⟩ := R3.ob n _ ad hn ha
              obtain ⟨bd, ws, rfl, hb, qb⟩ := getL_ok R3 hes (((r.mono x1).mono x2).mono x3)
              cases rv
              have hne : ad ≠ bd := by
                intro z
                subst z
                cases d with
                | ref k =>
                  have hk : k ≠ n := of_decide_eq_true hz.2.2.2.2
                  obtain ⟨b', hb', e6⟩ := ((r.mono x1).mono x2).mono x3
                  cases e6
                  obtain ⟨l1, g1⟩ := List.getElem?_eq_some_iff.mp ha
                  obtain ⟨l2, g2⟩ := List.getElem?_eq_some_iff.mp hb'
                  exact hk ((List.getElem_inj R3.nd).mp (g2.trans g1.symm))
                | lst xs =>
                  obtain ⟨b', ws', e6, e7, e8, _⟩ := ((r.mono x1).mono x2).mono x3
                  cases e6
                  exact e8 (.inl (List.mem_of_getElem? ha))
                | _ => cases hes
              have x4 : Mv ρ3 s.hid H3 ρ3 s.hid (upd H3 ad (.lst (vs.take i.toNat ++ ws ++ vs.drop j.toNat))) := mv_write ha
              obtain ⟨x5, R5⟩ := wr_ok (((s.go x1 R1).go x2 R2).go x3 R3) (o' := .lst (ds.take i.toNat ++ es ++ ds.drop j.toNat)) e4 hn ha (by rw [hv]; intro _ _ z; cases z) (u := .lst (vs.take i.toNat ++ ws ++ vs.drop j.toNat)) ⟨_, upd_same, (((q.take _).append qb).append (q.drop _)).mv x4⟩ fun β h1 h2 => by
                have h1 : D.bels β ds = true := h1
                exact bels_append (bels_append (bels_sub h1 fun z hz => List.mem_of_mem_take hz) h2) (bels_sub h1 fun z hz => List.mem_of_mem_drop hz)
              refine wpAny_bind (wpAny_holding (set_slice I4 hv hb hne (Heap.IsSliceOf.new ..) q2 q3 hz.1 hz.2.1 (by rw [← q.length]; exact hz.2.2.1) (by rw [← q.length, ← qb.length]; exact hz.2.2.2.1) fun s5 I5 => ?_))
              exact wpAny_release ⟨σ, _, I5, to ρ3 _ σ (((x1.trans x2).trans x3).trans x5) R5 (s.re.mono (((x1.trans x2).trans x3).trans x5)) Off.refl⟩
            · cases e
          · cases e
        | _ => cases e
      · cases e
    · cases e
  · cases e
theorem g_nil : PGs X [] (tGs W c .nil) := by
  refine pgs_nil.imp ?_
  rintro v σ H Q ⟨s, ds, env', h', r, e, to⟩
  unfold asgTs at e
  cases ds with
  | nil =>
    cases e
    exact ⟨r, to s.ρ H σ .refl s.R s.re Off.refl⟩
  | cons _ _ => cases e
theorem g_cons {x : Expr} {xs : List Expr} {t : Tg} {ts : Tgs} (h1 : PG X x (tGi W c t)) (h2 : PGs X xs (tGs W c ts)) (hs : notStar x = true) : PGs X (x :: xs) (tGs W c (.cons t ts)) := by
  refine (pgs_cons h1 h2 (by cases x <;> first | rfl | cases hs)).imp ?_
  rintro v σ H Q ⟨s, ds, env', h', r, e, to⟩
  unfold asgTs at e
  cases ds with
  | nil => cases e
  | cons d dr =>
    obtain ⟨w, ws, rfl, q1, q2⟩ := r
    simp only at e
    split at e
    · rename_i env1 h3 e1
      refine ⟨w, ws, rfl, s, d, env1, h3, q1, e1, fun ρ1 H1 σ1 x1 R1 re1 o1 => ?_⟩
      exact ⟨⟨s.bs, ρ1, s.hid, h3, env1, R1, s.hb, re1⟩, dr, env', h', q2.mono x1, e, fun ρ2 H2 σ2 x2 R2 re2 o2 => to ρ2 H2 σ2 (x1.trans x2) R2 re2 (o1.trans o2)⟩
    · cases e
theorem asg_len : ∀ {xs : List Expr} {ts : Tgs} {env : PySem.Env}, xs.all notStar = true → (assignEach xs env).length = xs.length ∧ (assignEach xs env).findIdx? (·.1) = none
  | [], _, _, _ => ⟨rfl, rfl⟩
  | x :: xs, ts, env, h => by
    rw [List.all_cons, Bool.and_eq_true] at h
    have ih := asg_len (xs := xs) (ts := ts) (env := env) h.2
    have e : assignEach (x :: xs) env = (false, assign x env) :: assignEach xs env := by
      cases x <;> first | rfl | exact (nomatch h.1)
    rw [e]
    refine ⟨by simp [ih.1], ?_⟩
    rw [List.findIdx?_cons]
    simp [ih.2]
theorem asgTs_len : ∀ {ts : Tgs} {ds : List D} {env : Env} {h : Store} {r}, asgTs c ts ds env h = some r → ds.length = ts.len
  | .nil, [], _, _, _, _ => rfl
  | .nil, _ :: _, _, _, _, e => by
    unfold asgTs at e
    cases e
  | .cons t ts, [], _, _, _, e => by
    unfold asgTs at e
    cases e
  | .cons t ts, d :: ds, env, h, r, e => by
    unfold asgTs at e
    simp only at e
    split at e
    · rw [List.length_cons, asgTs_len e]
      rfl
    · cases e
theorem g_tup (o : Okx X W N G np c sc) {xs : List Expr} {ts : Tgs} {k : Nat} {p : Pos} (h : PGs X xs (tGs W c ts)) (hs : xs.all notStar = true) (hl : xs.length = ts.len) : PG X (.Tuple xs k p) (tGi W c (.tup ts)) := by
  obtain ⟨l1, l2⟩ := asg_len (ts := ts) (env := X.env) hs
  refine (pg_tup o.calm h l1 l2).imp ?_
  rintro v σ H Q ⟨s, d, env', h', r, e, to⟩
  unfold asgT at e
  cases d with
  | tup ds =>
    obtain ⟨a, vs, rfl, ha, q⟩ := r
    simp only at e
    exact ⟨a, vs, rfl, sq_t o.K ha, by rw [← q.length, asgTs_len e, hl], s, ds, env', h', q, e, to⟩
  | _ => cases e
end
end Sw

set_option maxRecDepth 100000
set_option maxHeartbeats 1000000
/-! Sw8: comprehensions. -/
namespace Sw
open PySem PySem.Spec PyProof.Rows L2
def tPt (W : Wd) (c : Cfg) (co : Eo) : TT := fun σ H Q => ∃ (s : Sit W c σ H) (k : Bool) (h' : Store), evO1 c co s.env s.h = some (k, h') ∧ s.Tb h' (Q k)
theorem _root_.L2.PTs.imp {X : Cx} {e : List Expr} {t t' : TT} (p : PTs X e t) (h : ∀ σ H Q, t' σ H Q → t σ H Q) : PTs X e t' := ⟨fun pins s σ H Q I q => p.run pins s σ H Q I (h σ H Q q)⟩
section
variable {X : Cx} {W : Wd} {N : List Str} {G : Gs} {np : Nat → Nat} {c : Cfg} {sc : Scope}
theorem p_non : PTs X [] (tPt W c .none) := by
  refine pts_nil.imp ?_
  rintro σ H Q ⟨s, k, h', e, to⟩
  simp only [evO1, Option.some.injEq, Prod.mk.injEq] at e
  obtain ⟨rfl, rfl⟩ := e
  exact to s.ρ H .refl s.R
theorem p_som {x : Expr} {a : E} (h : PT X x (tIb W c a)) : PTs X [x] (tPt W c (.some a)) := by
  refine (pts_one h).imp ?_
  rintro σ H Q ⟨s, k, h', e, to⟩
  unfold evO1 at e
  split at e
  · rename_i i h1 e1
    cases e
    exact ⟨s, _, _, e1, to⟩
  · cases e
theorem lcL_len {r : Option (Nat × Ob)} {f : D → Store → Option (Option D × Store)} : ∀ {ds : List D} {h : Store} {out : List D} {h' : Store}, lcL r f ds h = some (out, h') → out.length ≤ ds.length
  | [], h, out, h', e => by
    unfold lcL at e
    split at e
    · cases e
      exact Nat.le_refl _
    · cases e
  | d :: ds, h, out, h', e => by
    unfold lcL at e
    split at e
    · split at e
      · rename_i y h1 e1
        obtain ⟨p, e2, e3⟩ := Option.map_eq_some_iff.mp e
        cases e3
        have := lcL_len (out := p.1) (h' := p.2) e2
        simp only [List.length_cons]
        omega
      · rename_i h1 e1
        have := lcL_len e
        simp only [List.length_cons]
        omega
      · cases e
    · cases e
/-- where a comprehension stands behind i turns -/
structure LcI (W : Wd) (c : Cfg) (σ : L2.St) (bs : List Nat) (hid : List Addr) (env : Env) (ρ1 : List Addr) (H1 : Hp) (D : Addr) (r : Option (Nat × Ob)) (f : Sw.D → Store → Option (Option Sw.D × Store)) (St : List Addr → List Addr → Hp → Prop)
    (ds : List Sw.D) (out : List Sw.D) (h2 : Store) (i m : Nat) (H : Hp) : Prop where
  me : m = ds.length - i
  le : i ≤ ds.length
  ex : ∃ (ρ : List Addr) (hi : Store) (acc : List Sw.D) (vs : List V) (rest : List Sw.D), Ext ρ1 hid H1 ρ H ∧ Rl W bs ρ (D :: hid) hi H ∧ St ρ (D :: hid) H ∧ H D = some (.lst vs) ∧ RelDs W ρ (D :: hid) H acc vs ∧ acc.length ≤ i ∧
    lcL r f (ds.drop i) hi = some (rest, h2) ∧ out = acc ++ rest ∧ RelEnv W c.lk ρ (D :: hid) H env σ
theorem lc_t {m : Bool} {elt : E} {g : Tg} {it : Wi} {cond : Eo} {ow : List Nat} {σ : L2.St} {H : Hp} {Q : VK} (hg : ∀ j ∈ g.slots, j ∈ ow) (h : tI W c (.lc m elt g it cond ow) σ H Q) :
    tLc (tIt W c it) (tGi W c g) (tPt W c cond) (tI W c elt) ow σ H Q := by
  obtain ⟨s, d, h', e, to⟩ := h
  unfold evE at e
  split at e
  · rename_i ds r h1 e1
    split at e
    · rename_i hz
      split at e
      · rename_i out h2 e2
        have e3 := Option.some.inj e
        refine ⟨s, ds, r, h1, e1, fun ρ1 H1 J St x1 R1 st wk => ?_⟩
        intro D hD
        generalize hf : (fun (d : Sw.D) (h : Store) => match asgT c g d (wipeD s.env ow) h with
          | some (env2, h2) => match evO1 c cond env2 h2 with
            | some (true, h3) => match evE c elt env2 h3 with
              | some (y, h4) => some (some y, h4)
              | none => none
            | some (false, h3) => some (none, h3)
            | none => none
          | none => none) = f at e2
        have hDh : D ∉ s.hid := fun z => by
          obtain ⟨w, e⟩ := (R1.ap D z).2
          rw [hD] at e
          cases e
        refine ⟨LcI W c σ s.bs s.hid s.env ρ1 H1 D r f St ds out h2, ⟨ds.length, by omega, Nat.zero_le _, ρ1, h1, [], [], out, ext_new hD, R1.hide hD, wk.mv st (mv_hide hD) (fun a o u e => by rw [upd_ne (ne_of_none e hD)]; exact e), upd_same, rfl, Nat.zero_le _, e2, rfl, (s.re.mono x1).mv (mv_hide hD)⟩, ?_⟩
        rintro i k Hi ⟨rfl, hle, ρ, hi, acc, vs, rest, x2, R2, st2, hDv, racc, hacc, e4, eout, re2⟩
        by_cases hlt : i < ds.length
        · refine .inr ?_
          have hdrop : ds.drop i = ds[i] :: ds.drop (i + 1) := (List.getElem_cons_drop hlt).symm
          rw [hdrop] at e4
          unfold lcL at e4
          split at e4
          · rename_i hlive
            obtain ⟨j1, j2⟩ := wk.go R2 hlive st2 (d := ds[i]) (i := i) (by simp [hlt])
            refine ⟨j1, fun H' => ∃ k', k' < ds.length - i ∧ LcI W c σ s.bs s.hid s.env ρ1 H1 D r f St ds out h2 (i + 1) k' H', fun H' h => h, fun x H' hy => ?_⟩
            obtain ⟨x3, R3, rd⟩ := j2 x H' hy
            have hDv3 : H' D = some (.lst vs) := x3.hk D (by simp) _ hDv
            have st3 : St ρ (D :: s.hid) H' := wk.mv st2 x3.mv x3.frz
            have re3 := re2.mono x3
            have racc3 := racc.mono x3
            -- the end of a turn
            have fin : ∀ (ρ5 : List Addr) (h5 : Store) (H5 : Hp) (acc' : List Sw.D) (vs' : List V) (rest' : List Sw.D), Ext ρ (D :: s.hid) H' ρ5 H5 → Rl W s.bs ρ5 (D :: s.hid) h5 H5 → RelDs W ρ5 (D :: s.hid) (upd H5 D (.lst vs')) acc' vs' → acc'.length ≤ i + 1 →
                lcL r f (ds.drop (i + 1)) h5 = some (rest', h2) → out = acc' ++ rest' → ∃ k', k' < ds.length - i ∧ LcI W c σ s.bs s.hid s.env ρ1 H1 D r f St ds out h2 (i + 1) k' (upd H5 D (.lst vs')) := fun ρ5 h5 H5 acc' vs' rest' x5 R5 ra hl e6 e7 => by
              have hD5 : H5 D = some (.lst vs) := x5.hk D (by simp) _ hDv3
              have frz5 : ∀ a o u, H5 a = some (.frz o u) → upd H5 D (.lst vs') a = some (.frz o u) := fun a o u e => by
                have na : a ≠ D := fun z => by
                  rw [z, hD5] at e
                  cases e
                rw [upd_ne na]
                exact e
              refine ⟨ds.length - (i + 1), by omega, rfl, hlt, ρ5, h5, acc', vs', rest', ⟨?_, fun a ob ea na => ?_, fun a ob u ea => ?_, fun a ha ob ea => ?_⟩, R5.rehid, wk.mv (wk.mv st3 x5.mv x5.frz) mv_hid frz5, upd_same, ra, hl, e6, e7, (re3.mono x5).mv mv_hid⟩
              · obtain ⟨t1, rfl⟩ := x2.pre
                obtain ⟨t3, rfl⟩ := x5.pre
                exact ⟨t1 ++ t3, by rw [List.append_assoc]⟩
              · obtain ⟨f1, f2⟩ := x2.keep a ob ea na
                have naD : a ≠ D := ne_of_none ea hD
                have n3 : ¬ own ρ (D :: s.hid) a := fun z => by
                  rcases z with z | z
                  · exact f2 (.inl z)
                  · rcases List.mem_cons.mp z with z | z
                    · exact naD z
                    · exact f2 (.inr z)
                obtain ⟨f3, f4⟩ := x3.keep a ob f1 n3
                obtain ⟨f5, f6⟩ := x5.keep a ob f3 f4
                refine ⟨by rw [upd_ne naD]; exact f5, fun z => f6 ?_⟩
                rcases z with z | z
                · exact .inl z
                · exact .inr (List.mem_cons_of_mem _ z)
              · have naD : a ≠ D := ne_of_none ea hD
                rw [upd_ne naD]
                exact x5.frz _ _ _ (x3.frz _ _ _ (x2.frz _ _ _ ea))
              · have naD : a ≠ D := ne_of_none ea hD
                rw [upd_ne naD]
                exact x5.hk _ (List.mem_cons_of_mem _ ha) _ (x3.hk _ (List.mem_cons_of_mem _ ha) _ (x2.hk _ ha _ ea))
            have fd : f ds[i] hi = match asgT c g ds[i] (wipeD s.env ow) hi with
              | some (env2, h2) => match evO1 c cond env2 h2 with
                | some (true, h3) => match evE c elt env2 h3 with
                  | some (y, h4) => some (some y, h4)
                  | none => none
                | some (false, h3) => some (none, h3)
                | none => none
              | none => none := by rw [← hf]
            rw [fd] at e4
            cases ea : asgT c g ds[i] (wipeD s.env ow) hi with
            | none => rw [ea] at e4; cases e4
            | some p =>
              obtain ⟨env2, h3⟩ := p
              rw [ea] at e4
              refine ⟨⟨s.bs, ρ, D :: s.hid, hi, wipeD s.env ow, R3, s.hb, re3.wipe ow⟩, ds[i], env2, h3, rd, ea, fun ρ3 H3 σ3 y3 Q3 re4 off => ⟨?_, ?_⟩⟩
              · rw [wipe_off off hg, wipe_twice]
              cases eb : evO1 c cond env2 h3 with
              | none => simp only [eb] at e4; cases e4
              | some p =>
                obtain ⟨k, h4⟩ := p
                simp only [eb] at e4
                refine ⟨⟨s.bs, ρ3, D :: s.hid, h3, env2, Q3, s.hb, re4⟩, k, h4, eb, fun ρ4 H4 y4 Q4 => ?_⟩
                cases k with
                | false =>
                  show ite (false = true) _ _
                  rw [if_neg Bool.false_ne_true]
                  simp only at e4
                  have x9 := y3.trans y4
                  have hD9 : H4 D = some (.lst vs) := x9.hk D (by simp) _ hDv3
                  have e9 : upd H4 D (.lst vs) = H4 := by
                    funext b
                    by_cases hb : b = D
                    · rw [hb, upd_same, hD9]
                    · rw [upd_ne hb]
                  have := fin ρ4 h4 H4 acc vs rest x9 Q4 (by rw [e9]; exact racc3.mono x9) (by omega) e4 eout
                  rw [e9] at this
                  exact this
                | true =>
                  show ite (true = true) _ _
                  rw [if_pos rfl]
                  cases ec : evE c elt env2 h4 with
                  | none => simp only [ec] at e4; cases e4
                  | some p =>
                    obtain ⟨y, h5⟩ := p
                    simp only [ec] at e4
                    refine ⟨⟨s.bs, ρ4, D :: s.hid, h4, env2, Q4, s.hb, re4.mono y4⟩, y, h5, ec, fun ρ5 v H5 y5 Q5 rv => ?_⟩
                    have x9 := (y3.trans y4).trans y5
                    have hD9 : H5 D = some (.lst vs) := x9.hk D (by simp) _ hDv3
                    obtain ⟨p, e6, e7⟩ := Option.map_eq_some_iff.mp e4
                    obtain ⟨e8, e10⟩ := Prod.mk.inj e7
                    have hlen : vs.length = acc.length := (racc.length).symm
                    refine ⟨vs, hD9, by omega, ?_⟩
                    refine fin ρ5 h5 H5 (acc ++ [y]) (vs ++ [v]) p.1 x9 Q5 ?_ (by simp; omega) (by rw [e6, ← e10]) ?_
                    · exact (((racc3.mono x9).append (show RelDs W ρ5 (D :: s.hid) H5 [y] [v] from ⟨v, [], rfl, rv, rfl⟩)).mv mv_hid)
                    · rw [eout, ← e8]
                      simp
          · cases e4
        · refine .inl ?_
          have hi2 : i = ds.length := by omega
          subst hi2
          rw [List.drop_length] at e4
          unfold lcL at e4
          split at e4
          · rename_i hlive
            cases e4
            refine ⟨wk.stop R2 hlive st2 (Nat.le_refl _), ?_⟩
            rw [List.append_nil] at eout
            subst eout
            cases m with
            | true =>
              cases e3
              have x9 : Ext s.ρ s.hid H (ρ ++ [D]) Hi := by
                have y := x1.trans x2
                refine ⟨?_, fun a ob ea na => ?_, y.frz, y.hk⟩
                · obtain ⟨t, et⟩ := y.pre
                  exact ⟨t ++ [D], by rw [et, List.append_assoc]⟩
                · obtain ⟨f1, f2⟩ := y.keep a ob ea na
                  refine ⟨f1, fun z => ?_⟩
                  rcases z with z | z
                  · rcases List.mem_append.mp z with z | z
                    · exact f2 (.inl z)
                    · obtain ⟨g1, g2⟩ := x1.keep a ob ea na
                      rw [List.mem_singleton.mp z, hD] at g1
                      cases g1
                  · exact f2 (.inr z)
              refine to (ρ ++ [D]) _ Hi x9 (R2.join hDh ⟨vs, hDv, racc.mv mv_join⟩) ⟨D, ?_, rfl⟩
              rw [← R2.len]
              simp
            | false =>
              cases e3
              refine to ρ _ Hi (x1.trans x2) R2.unhide ⟨D, vs, rfl, hDv, fun z => ?_, racc.mv mv_show⟩
              rcases z with z | z
              · exact (R2.ap D (by simp)).1 z
              · exact hDh z
          · cases e4
      · cases e
    · cases e
  · cases e
end
end Sw

set_option maxRecDepth 100000
set_option maxHeartbeats 1000000
/-! Sw9: `in` a dict; dict displays. -/
namespace Sw
open PySem PySem.Spec PyProof.Rows L2
section
variable {X : Cx} {W : Wd} {N : List Str} {G : Gs} {np : Nat → Nat} {c : Cfg} {sc : Scope}
/-- the dict's answer, as the heap has it -/
theorem dget_of {bs : List Nat} {ρ hid : List Addr} {h : Store} {H : Hp} (R : Rl W bs ρ hid h H) {x y : D} {v w : V} {kvs : List (L2.Key × D)} {k : L2.Key} (e1 : getK h x = some kvs) (e2 : dKey y = some k) (r1 : RelD W ρ hid H x v) (r2 : RelD W ρ hid H y w) :
    ∃ a o, v = .ref a ∧ DGet H a w o ∧ o.isSome = (look kvs k).isSome := by
  obtain ⟨a, kws, rfl, ha, hk, q⟩ := getK_ok R e1 r1
  refine ⟨a, valV kws k, rfl, .inl ⟨kws, k, ha, dKey_ok e2 r2, rfl⟩, ?_⟩
  rcases look_ok k hk q with ⟨n1, n2⟩ | ⟨d2, v2, n1, n2, rz⟩ <;> rw [n1, n2] <;> rfl
theorem din_t {x y : E} {σ : L2.St} {H : Hp} {Q : VK} (h : tI W c (.cmp .din x y) σ H Q) : tDIn (tI W c x) (tI W c y) σ H Q := by
  obtain ⟨s, d, h', e, to⟩ := h
  unfold evE at e
  split at e
  · rename_i dx h1 e1
    split at e
    · rename_i dy h2 e2
      obtain ⟨k, e3, e4⟩ := Option.map_eq_some_iff.mp e
      cases e4
      refine ⟨s, dx, h1, e1, fun ρ1 v H1 x1 R1 r1 => ⟨s.go x1 R1, dy, _, e2, fun ρ2 w H2 x2 R2 r2 => ?_⟩⟩
      have e3 : dinD h' dx dy = some k := e3
      unfold dinD at e3
      split at e3
      · rename_i k' kvs e5 e6
        cases e3
        obtain ⟨a, o, rfl, g, q⟩ := dget_of R2 e6 e5 r2 (r1.mono x2)
        exact ⟨a, o, rfl, g, to ρ2 _ H2 (x1.trans x2) R2 (by rw [q]; rfl)⟩
      · cases e3
    · cases e
  · cases e
theorem dnin_t {x y : E} {σ : L2.St} {H : Hp} {Q : VK} (h : tI W c (.cmp .dnin x y) σ H Q) : tDNotIn (tI W c x) (tI W c y) σ H Q := by
  obtain ⟨s, d, h', e, to⟩ := h
  unfold evE at e
  split at e
  · rename_i dx h1 e1
    split at e
    · rename_i dy h2 e2
      obtain ⟨k, e3, e4⟩ := Option.map_eq_some_iff.mp e
      cases e4
      refine ⟨s, dx, h1, e1, fun ρ1 v H1 x1 R1 r1 => ⟨s.go x1 R1, dy, _, e2, fun ρ2 w H2 x2 R2 r2 => ?_⟩⟩
      obtain ⟨k2, e9, rfl⟩ := Option.map_eq_some_iff.mp (show (dinD h' dx dy).map (!·) = some k from e3)
      unfold dinD at e9
      split at e9
      · rename_i k' kvs e5 e6
        cases e9
        obtain ⟨a, o, rfl, g, q⟩ := dget_of R2 e6 e5 r2 (r1.mono x2)
        exact ⟨a, o, rfl, g, to ρ2 _ H2 (x1.trans x2) R2 (by rw [q]; rfl)⟩
      · cases e9
    · cases e
  · cases e
theorem hu1 (o : Okx X W N G np c sc) : X.A.units + 1 < cLine := by have := o.hu; omega
theorem s_din (o : Okx X W N G np c sc) {x y : Expr} {a b : E} {p : Pos} (hm : behindInMarks .In y = false) (ha : PE X x (tI W c a)) (hb : PE X y (tI W c b)) : PE X (.Compare x [.In] [y] p) (tI W c (.cmp .din a b)) :=
  (pe_cmp (pc_din (hu1 o) ha hb) hm).imp fun _ _ _ h => din_t h
theorem s_dnin (o : Okx X W N G np c sc) {x y : Expr} {a b : E} {p : Pos} (hm : behindInMarks .NotIn y = false) (ha : PE X x (tI W c a)) (hb : PE X y (tI W c b)) : PE X (.Compare x [.NotIn] [y] p) (tI W c (.cmp .dnin a b)) :=
  (pe_cmp (pc_dnotin (hu1 o) ha hb) hm).imp fun _ _ _ h => dnin_t h
theorem t_din (o : Okx X W N G np c sc) {x y : Expr} {a b : E} {p : Pos} (hm : behindInMarks .In y = false) (ha : PE X x (tI W c a)) (hb : PE X y (tI W c b)) : PT X (.Compare x [.In] [y] p) (tIb W c (.cmp .din a b)) :=
  (pt_cmp (pc_din (hu1 o) ha hb) hm).imp fun _ _ _ h => din_t (tb_of h)
theorem t_dnin (o : Okx X W N G np c sc) {x y : Expr} {a b : E} {p : Pos} (hm : behindInMarks .NotIn y = false) (ha : PE X x (tI W c a)) (hb : PE X y (tI W c b)) : PT X (.Compare x [.NotIn] [y] p) (tIb W c (.cmp .dnin a b)) :=
  (pt_cmp (pc_dnotin (hu1 o) ha hb) hm).imp fun _ _ _ h => dnin_t (tb_of h)
/-! ### displays of dicts -/
theorem mergeK_new : ∀ (kvs acc : List (L2.Key × V)), ((acc ++ kvs).map (·.1)).Nodup → mergeK acc kvs = acc ++ kvs
  | [], acc, _ => by simp [mergeK]
  | p :: r, acc, h => by
    have e : putK acc p.1 p.2 = acc ++ [p] := by
      unfold putK
      rw [if_neg]
      intro z
      obtain ⟨q, hq, e⟩ := List.any_eq_true.mp z
      have e := of_decide_eq_true e
      rw [List.map_append, List.nodup_append] at h
      exact h.2.2 q.1 (List.mem_map_of_mem hq) p.1 (by simp) e
    show mergeK (putK acc p.1 p.2) r = _
    rw [e, mergeK_new r (acc ++ [p]) (by rw [List.append_assoc]; exact h), List.append_assoc]
    rfl
def trsOf (W : Wd) (c : Cfg) : List L2.Key → Es → List (TE × TE)
  | k :: ks, .cons e es => (tC (kV k), tI W c e) :: trsOf W c ks es
  | _, _ => []
def keyB (k : L2.Key) : Option Expr → Bool
  | some (.Constant (.int i) _ _) => match k with
    | .inl j => decide (j = i)
    | _ => false
  | some (.Constant (.str i) _ _) => match k with
    | .inr j => decide (j = i)
    | _ => false
  | _ => false
theorem key_pe {k : L2.Key} {x : Option Expr} (h : keyB k x = true) : ∃ e, x = some e ∧ PE X e (tC (kV k)) := by
  unfold keyB at h
  split at h
  · split at h
    · cases of_decide_eq_true h
      exact ⟨_, rfl, pe_int⟩
    · cases h
  · split at h
    · cases of_decide_eq_true h
      exact ⟨_, rfl, pe_str⟩
    · cases h
  · cases h
theorem pairs_t {σ : L2.St} : ∀ {ks : List L2.Key} {es : Es} {H : Hp} {Q : List (V × V) → Hp → Prop} (s : Sit W c σ H) {ds : List D} {h' : Store}, ks.length = es.len → evEs c es s.env s.h = some (ds, h') →
    s.Ts h' ds (fun vs H' => Q ((ks.map kV).zip vs) H') → tPairs (trsOf W c ks es) σ H Q
  | [], .nil, H, Q, s, ds, h', _, e, to => by
    simp only [evEs, Option.some.injEq, Prod.mk.injEq] at e
    obtain ⟨rfl, rfl⟩ := e
    exact to s.ρ [] H .refl s.R rfl
  | [], .cons _ _, _, _, _, _, _, hl, _, _ => by cases hl
  | _ :: _, .nil, _, _, _, _, _, hl, _, _ => by cases hl
  | k :: ks, .cons a es, H, Q, s, ds, h', hl, e, to => by
    unfold evEs at e
    split at e
    · rename_i d h1 e1
      split at e
      · rename_i dr h2 e2
        cases e
        refine ⟨s, d, h1, e1, fun ρ1 v H1 x1 R1 r1 => ?_⟩
        refine pairs_t (s.go x1 R1) (Nat.succ.inj hl) e2 fun ρ2 ws H2 x2 R2 r2 => ?_
        exact to ρ2 (v :: ws) H2 (x1.trans x2) R2 ⟨v, ws, rfl, r1.mono x2, r2⟩
      · cases e
    · cases e
theorem zip_map1 : ∀ {ks : List L2.Key} {vs : List V}, (ks.map kV).zip vs = (ks.zip vs).map fun kv => (kV kv.1, kv.2)
  | [], _ => by simp
  | _ :: _, [] => by simp
  | k :: ks, v :: vs => by simp [zip_map1 (ks := ks) (vs := vs)]
theorem disp_t {ks : List L2.Key} {es : Es} {σ : L2.St} {H : Hp} {Q : VK} (hk : ks.length ≤ 15) (hl : ks.length = es.len) (h : tI W c (.dnew ks es) σ H Q) : tDisp (trsOf W c ks es) σ H Q := by
  obtain ⟨s, d, h', e, to⟩ := h
  unfold evE at e
  split at e
  · rename_i ds h1 e1
    split at e
    · rename_i hz
      cases e
      intro p hp
      have hph : p ∉ s.hid := fun z => by
        obtain ⟨w, e⟩ := (s.R.ap p z).2
        rw [hp] at e
        cases e
      let s1 : Sit W c σ (upd H p (.dK [])) := ⟨s.bs, s.ρ, p :: s.hid, s.h, s.env, s.R.hide hp, s.hb, s.re.mv (mv_hide hp)⟩
      refine pairs_t s1 hl e1 fun ρ2 vs H2 x2 R2 r2 => ?_
      have hp2 : H2 p = some (.dK []) := x2.hk p (by simp [s1]) _ upd_same
      have lv : ks.length = vs.length := by rw [← r2.length, hz.1]
      refine ⟨hp2, ks.zip vs, zip_map1, by rw [List.length_zip]; omega, ?_⟩
      have ek : (ks.zip vs).map (·.1) = ks := List.map_fst_zip (by omega)
      have ev : (ks.zip vs).map (·.2) = vs := List.map_snd_zip (by omega)
      rw [mergeK_new _ [] (by rw [List.nil_append, ek]; exact hz.2), List.nil_append]
      have np : p ∉ ρ2 := (R2.ap p (by simp [s1])).1
      have x9 : Ext s.ρ s.hid H (ρ2 ++ [p]) (upd H2 p (.dK (ks.zip vs))) := by
        refine ⟨?_, fun a ob ea na => ?_, fun a o u ea => ?_, fun a ha ob ea => ?_⟩
        · obtain ⟨t, et⟩ := x2.pre
          exact ⟨t ++ [p], by rw [et, List.append_assoc]⟩
        · have naD : a ≠ p := ne_of_none ea hp
          have n3 : ¬ own s.ρ (p :: s.hid) a := fun z => by
            rcases z with z | z
            · exact na (.inl z)
            · rcases List.mem_cons.mp z with z | z
              · exact naD z
              · exact na (.inr z)
          obtain ⟨f1, f2⟩ := x2.keep a ob (by rw [upd_ne naD]; exact ea) n3
          refine ⟨by rw [upd_ne naD]; exact f1, fun z => f2 ?_⟩
          rcases z with z | z
          · rcases List.mem_append.mp z with z | z
            · exact .inl z
            · exact absurd (List.mem_singleton.mp z) naD
          · exact .inr (List.mem_cons_of_mem _ z)
        · have naD : a ≠ p := ne_of_none ea hp
          rw [upd_ne naD]
          exact x2.frz _ _ _ (by rw [upd_ne naD]; exact ea)
        · have naD : a ≠ p := ne_of_none ea hp
          rw [upd_ne naD]
          exact x2.hk _ (List.mem_cons_of_mem _ ha) _ (by rw [upd_ne naD]; exact ea)
      refine to (ρ2 ++ [p]) _ _ x9 (R2.rehid.join hph ⟨ks.zip vs, upd_same, ?_, ?_⟩) ⟨p, ?_, rfl⟩
      · rw [ek, List.map_fst_zip (by omega)]
      · rw [ev, List.map_snd_zip (by omega)]
        exact (r2.mv mv_hid).mv mv_join
      · rw [← R2.len]
        simp
    · cases e
  · cases e
end
end Sw

set_option maxRecDepth 100000
set_option maxHeartbeats 4000000
/-! SwA: the reading of an expression is checked. -/
namespace Sw
open PySem PySem.Spec PyProof.Rows L2
def notIf : Expr → Bool
  | .IfExp .. => false
  | _ => true
def locB (tsc : Scope) (x : Str) : Bool := match tsc.names.lookup x with
  | some .local => true
  | some .cell => true
  | _ => false
def ownP (N : List Str) (own : List Nat) : List (Str × Nat) := own.filterMap fun i => N[i]?.map fun x => (x, i)
def subB (l l' : List Nat) : Bool := l.all fun i => l'.contains i
def fldB (G : Gs) (c : Nat) (f : Str) : Bool := match G.lookC c with
  | some C => C.flds.contains f
  | none => false
def mthB (G : Gs) (c : Nat) (m : Str) (f : Nat) : Bool := match G.lookC c with
  | some C => decide (C.meths.lookup m = some f)
  | none => false
def mkB (G : Gs) (c : Nat) (x : Str) (f : Nat) : Bool := match G.lookC c with
  | some C => decide (C.name = x) && decide (C.init = some f)
  | none => false
theorem fldB_ok {G : Gs} {c : Nat} {f : Str} (h : fldB G c f = true) : ∃ C, G.lookC c = some C ∧ f ∈ C.flds := by
  unfold fldB at h
  split at h
  · exact ⟨_, by assumption, List.contains_iff_mem.mp h⟩
  · cases h
theorem mthB_ok {G : Gs} {c : Nat} {m : Str} {f : Nat} (h : mthB G c m f = true) : ∃ C, G.lookC c = some C ∧ C.meths.lookup m = some f := by
  unfold mthB at h
  split at h
  · exact ⟨_, by assumption, of_decide_eq_true h⟩
  · cases h
theorem mkB_ok {G : Gs} {c : Nat} {x : Str} {f : Nat} (h : mkB G c x f = true) : ∃ C, G.lookC c = some C ∧ C.name = x ∧ C.init = some f := by
  unfold mkB at h
  split at h
  · rw [Bool.and_eq_true] at h
    exact ⟨_, by assumption, of_decide_eq_true h.1, of_decide_eq_true h.2⟩
  · cases h
def Eo.len : Eo → Nat
  | .none => 0
  | .some _ => 1
mutual
def chkE (N : List Str) (G : Gs) (np : Nat → Nat) : E → Scope → Expr → Bool
  | .var i, sc, x => match x with
    | .Name y _ => decide (N[i]? = some y) && visB sc y && nmOk y
    | _ => false
  | .non, _, x => match x with
    | .Constant .none _ _ => true
    | _ => false
  | .bl b, _, x => match x with
    | .Constant (.bool k) _ _ => decide (b = k)
    | _ => false
  | .int b, _, x => match x with
    | .Constant (.int k) _ _ => decide (b = k)
    | _ => false
  | .str b, _, x => match x with
    | .Constant (.str k) _ _ => decide (b = k)
    | _ => false
  | .glo y d, sc, x => match x with
    | .Name z _ => decide (y = z) && glB sc z && nmOk z && (match G.lookup z with
      | some k => gEq k d
      | none => false)
    | _ => false
  | .neg a, sc, x => match x with
    | .UnaryOp .USub e _ => chkE N G np a sc e
    | _ => false
  | .nt a, sc, x => match x with
    | .UnaryOp .Not e _ => notIf e && chkE N G np a sc e
    | _ => false
  | .bin op m a b, sc, x => match x with
    | .BinOp y o z _ => decide (o = op.py) && chkE N G np a sc y && chkE N G np b sc z
    | _ => false
  | .and a b, sc, x => match x with
    | .BoolOp .And [y, z] _ => notIf y && notIf z && chkE N G np a sc y && chkE N G np b sc z
    | .BoolOp .And (y :: z :: w :: r) p => notIf y && chkE N G np a sc y && chkE N G np b sc (.BoolOp .And (z :: w :: r) p)
    | _ => false
  | .or a b, sc, x => match x with
    | .BoolOp .Or [y, z] _ => notIf y && notIf z && chkE N G np a sc y && chkE N G np b sc z
    | .BoolOp .Or (y :: z :: w :: r) p => notIf y && chkE N G np a sc y && chkE N G np b sc (.BoolOp .Or (z :: w :: r) p)
    | _ => false
  | .ife a b e, sc, x => match x with
    | .IfExp t y z _ => notIf t && chkE N G np a sc t && chkE N G np b sc y && chkE N G np e sc z
    | _ => false
  | .cmp op a b, sc, x => match x with
    | .Compare y [o] [z] _ => decide (o = op.py) && !behindInMarks o z && chkE N G np a sc y && chkE N G np b sc z
    | _ => false
  | .chn op op' a b e, sc, x => match x with
    | .Compare y [o, o'] [z, w] _ => decide (o = op.py) && decide (o' = op'.py) && op.val && op'.val && !lastMarks [o, o'] [z, w] && chkE N G np a sc y && chkE N G np b sc z && chkE N G np e sc w
    | _ => false
  | .tup es, sc, x => match x with
    | .Tuple ys _ _ => chkEs N G np es sc ys
    | _ => false
  | .lst m es, sc, x => match x with
    | .List ys _ => chkEs N G np es sc ys
    | _ => false
  | .dnew ks es, sc, x => match x with
    | .Dict [] [] _ => match ks, es with
      | [], .nil => true
      | _, _ => false
    | .Dict (kx :: kr) ys _ => decide ((kx :: kr).length = ks.length) && decide (ys.length = ks.length) && decide (ks.length ≤ 15) && ((ks.zip (kx :: kr)).all fun p => keyB p.1 p.2) && chkEs N G np es sc ys
    | _ => false
  | .ix a b, sc, x => match x with
    | .Subscript y z _ => plainSub z && chkE N G np a sc y && chkE N G np b sc z
    | _ => false
  | .dix a b, sc, x => match x with
    | .Subscript y z _ => plainSub z && chkE N G np a sc y && chkE N G np b sc z
    | _ => false
  | .sl m a lo hi, sc, x => match x with
    | .Subscript y (.Slice l h none _) _ => chkE N G np a sc y && chkO N G np lo sc l && chkO N G np hi sc h
    | _ => false
  | .call y f es, sc, x => match x with
    | .Call (.Name z _) (e0 :: r) [] _ => decide (y = z) && glB sc z && nmOk z && (match G.lookup z with
      | some k => gEq k (.fn f)
      | none => false) && decide (es.len = np f) && chkEs N G np es sc (e0 :: r)
    | _ => false
  | .bif b m es, sc, x => match x with
    | .Call (.Name z _) args [] mp => match b with
      | .rl => match args with
        | [.Call (.Name z2 _) ys [] _] => decide (z = ("list" : Str)) && decide (z2 = ("range" : Str)) && glB sc "list" && glB sc "range" && decide (ys.length = 1 ∨ ys.length = 2) && chkEs N G np es sc ys
        | _ => false
      | .rt => match args with
        | [.Call (.Name z2 _) ys [] _] => decide (z = ("tuple" : Str)) && decide (z2 = ("range" : Str)) && glB sc "tuple" && glB sc "range" && decide (ys.length = 1) && chkEs N G np es sc ys
        | _ => false
      | .isinst [T] => match args with
        | [e0, .Name y _] => decide (z = ("isinstance" : Str)) && glB sc "isinstance" && clB T y && glB sc y && chkEs N G np es sc [e0]
        | _ => false
      | .isinst [T, U] => match args with
        | [e0, .Tuple [.Name y _, .Name w _] _ _] => decide (z = ("isinstance" : Str)) && glB sc "isinstance" && clB T y && glB sc y && clB U w && glB sc w && chkEs N G np es sc [e0]
        | _ => false
      | .isinst _ => false
      | .listvals => match args with
        | [.Call (.Attribute e0 at' apos) [] [] mpos] => decide (z = ("list" : Str)) && decide (at' = ("values" : Str)) && glB sc "list" && plainBase e0 && (apos.endLine == mpos.line) && chkEs N G np es sc [e0]
        | _ => false
      | .lenset => match args with
        | [.Call (.Name z2 _) ys [] _] => decide (z = ("len" : Str)) && decide (z2 = ("set" : Str)) && glB sc "len" && glB sc "set" && decide (ys.length = 1) && chkEs N G np es sc ys
        | _ => false
      | b => match args with
        | e0 :: r => decide (b.nm = some z) && glB sc z && chkEs N G np es sc (e0 :: r)
        | _ => false
    | _ => false
  | .mth mt a es, sc, x => match x with
    | .Call (.Attribute ox at' apos) [] [] cpos => match mt, es with
      | .pop, .nil => decide (at' = ("pop" : Str)) && plainBase ox && (apos.endLine == cpos.line) && chkE N G np a sc ox
      | _, _ => false
    | .Call (.Attribute ox at' apos) (e0 :: r) [] cpos => match mt with
      | .get => match r with
        | [] => decide (at' = ("get" : Str)) && plainBase ox && (apos.endLine == cpos.line) && chkE N G np a sc ox && chkEs N G np es sc [e0]
        | _ => false
      | mt => decide (mt.nm = some at') && plainBase ox && (apos.endLine == cpos.line) && decide ((e0 :: r).length < 20) && chkE N G np a sc ox && chkEs N G np es sc (e0 :: r)
    | _ => false
  | .lc m elt g it cond own, sc, x => match x with
    | .ListComp y [⟨tg, iter, ifs, k⟩] scope _ => decide (k = 0) && blkC N sc scope (ownP N own) && decide ((ownP N own).map (·.2) = own) && subB g.slots own && notSet iter &&
        chkIt N G np it sc tg iter && chkTg N G np g (relS scope sc) scope tg && chkO1 N G np cond (relS scope sc) ifs && chkE N G np elt (relS scope sc) y
    | _ => false
  | .sl3 m a lo hi st, sc, x => match x with
    | .Subscript y (.Slice l h (some s) _) _ => chkE N G np a sc y && chkO N G np lo sc l && chkO N G np hi sc h && chkE N G np st sc s
    | _ => false
  | .fld cl a f, sc, x => match x with
    | .Attribute y f' _ => decide (f = f') && plainBase y && fldB G cl f && chkE N G np a sc y
    | _ => false
  | .make y cl f es, sc, x => match x with
    | .Call (.Name z _) (e0 :: r) [] _ => decide (y = z) && glB sc z && nmOk z && mkB G cl z f && decide (es.len + 1 = np f) && chkEs N G np es sc (e0 :: r)
    | _ => false
  | .meth cl m f a es, sc, x => match x with
    | .Call (.Attribute ox at' apos) [] [] cpos => match es with
      | .nil => decide (m = at') && plainBase ox && (apos.endLine == cpos.line) && mthB G cl m f && decide (1 = np f) && chkE N G np a sc ox
      | _ => false
    | .Call (.Attribute ox at' apos) (e0 :: r) [] cpos => decide (m = at') && plainBase ox && (apos.endLine == cpos.line) && decide ((e0 :: r).length < 20) && mthB G cl m f && decide (es.len + 1 = np f) && chkE N G np a sc ox && chkEs N G np es sc (e0 :: r)
    | _ => false
def chkEs (N : List Str) (G : Gs) (np : Nat → Nat) : Es → Scope → List Expr → Bool
  | .nil, _, xs => match xs with
    | [] => true
    | _ => false
  | .cons e es, sc, xs => match xs with
    | x :: r => notStar x && chkE N G np e sc x && chkEs N G np es sc r
    | [] => false
def chkO (N : List Str) (G : Gs) (np : Nat → Nat) : Eo → Scope → Option Expr → Bool
  | .none, _, x => match x with
    | none => true
    | some _ => false
  | .some e, sc, x => match x with
    | none => false
    | some x => chkE N G np e sc x
def chkO1 (N : List Str) (G : Gs) (np : Nat → Nat) : Eo → Scope → List Expr → Bool
  | .none, _, x => match x with
    | [] => true
    | _ => false
  | .some e, sc, x => match x with
    | [x] => notIf x && chkE N G np e sc x
    | _ => false
def chkIt (N : List Str) (G : Gs) (np : Nat → Nat) : Wi → Scope → Expr → Expr → Bool
  | .ev e, sc, _, x => chkE N G np e sc x
  | .tv e, sc, _, x => chkE N G np e sc x
  | .evx e, sc, _, x => chkE N G np e sc x
  | .enx a, sc, tg, x => match tg, x with
    | .Tuple _ _ _, .Call (.Name z _) [e0] [] _ => decide (z = ("enumerate" : Str)) && glB sc "enumerate" && notStar e0 && chkE N G np a sc e0
    | _, _ => false
  | .rng1 a, sc, _, x => match x with
    | .Call (.Name z _) [e0] [] _ => decide (z = ("range" : Str)) && glB sc "range" && notStar e0 && chkE N G np a sc e0
    | _ => false
  | .rng2 a b, sc, _, x => match x with
    | .Call (.Name z _) [e0, e9] [] _ => decide (z = ("range" : Str)) && glB sc "range" && notStar e0 && notStar e9 && chkE N G np a sc e0 && chkE N G np b sc e9
    | _ => false
  | .rng3 _ _ _, _, _, _ => false
  | .enl a, sc, tg, x => match tg, x with
    | .Tuple _ _ _, .Call (.Name z _) [e0] [] _ => decide (z = ("enumerate" : Str)) && glB sc "enumerate" && notStar e0 && chkE N G np a sc e0
    | _, _ => false
  | .ent a, sc, tg, x => match tg, x with
    | .Tuple _ _ _, .Call (.Name z _) [e0] [] _ => decide (z = ("enumerate" : Str)) && glB sc "enumerate" && notStar e0 && chkE N G np a sc e0
    | _, _ => false
  | .zipT _ _, _, _, _ => false
  | .zipL _ _, _, _, _ => false
  | .keys i, sc, _, x => match x with
    | .Name y _ => decide (N[i]? = some y) && visB sc y && nmOk y
    | _ => false
def chkTg (N : List Str) (G : Gs) (np : Nat → Nat) : Tg → Scope → Scope → Expr → Bool
  | .name i, _, tsc, x => match x with
    | .Name y _ => decide (N[i]? = some y) && locB tsc y
    | _ => false
  | .sub o i, sc, _, x => match x with
    | .Subscript y z _ => plainSub z && chkE N G np o sc y && chkE N G np i sc z
    | _ => false
  | .dsub o i, sc, _, x => match x with
    | .Subscript y z _ => plainSub z && chkE N G np o sc y && chkE N G np i sc z
    | _ => false
  | .slc o l h, sc, _, x => match x with
    | .Subscript y (.Slice (some lx) (some hx) none _) _ => chkE N G np o sc y && chkE N G np l sc lx && chkE N G np h sc hx
    | _ => false
  | .tup ts, sc, tsc, x => match x with
    | .Tuple xs _ _ => decide (xs.length = ts.len) && xs.all notStar && chkTgs N G np ts sc tsc xs
    | _ => false
def chkTgs (N : List Str) (G : Gs) (np : Nat → Nat) : Tgs → Scope → Scope → List Expr → Bool
  | .nil, _, _, xs => match xs with
    | [] => true
    | _ => false
  | .cons t ts, sc, tsc, xs => match xs with
    | x :: r => notStar x && chkTg N G np t sc tsc x && chkTgs N G np ts sc tsc r
    | [] => false
end

structure Snd (X : Cx) (W : Wd) (c : Cfg) (x : Expr) (e : E) : Prop where
  pe : PE X x (tI W c e)
  pt : notIf x = true → PT X x (tIb W c e)
  pw : (∃ op vs p, x = .BoolOp op vs p) → PW X x (tIb W c e)
def Okt (X : Cx) (tsc : Scope) : Prop := ∀ x, locB tsc x = true → Loc X.env.scope x ∧ (X.fn x = true ∨ X.env.scope.names.lookup x = some .local)
section
variable {W : Wd} {N : List Str} {G : Gs} {np : Nat → Nat} {c : Cfg}
theorem Snd.of {X : Cx} {x : Expr} {e : E} (h : PE X x (tI W c e)) (ht : plainTest x = true) : Snd X W c x e := ⟨h, fun _ => t_val ht h, fun ⟨op, vs, p, e⟩ => by subst e; cases ht⟩
theorem lookup_rel {sc : Scope} {x : Str} {k : NameKind} : ∀ {names : List (Str × NameKind)}, names.lookup x = some k → k ≠ .free →
    (names.map fun (n, k) => if (k == .free && sc.kind == .function && sc.names.lookup n == some .cell) then (n, NameKind.cell) else (n, k)).lookup x = some k
  | [], h, _ => by cases h
  | (n, k') :: r, h, hk => by
    rw [List.map_cons]
    have e0 : (if (k' == NameKind.free && sc.kind == ScopeKind.function && sc.names.lookup n == some NameKind.cell) = true then (n, NameKind.cell) else (n, k')).1 = n := by split <;> rfl
    generalize hq : (if (k' == NameKind.free && sc.kind == ScopeKind.function && sc.names.lookup n == some NameKind.cell) = true then (n, NameKind.cell) else (n, k')) = q at e0
    obtain ⟨q1, q2⟩ := q
    have e0 : q1 = n := e0
    subst e0
    by_cases hx : x = q1
    · subst hx
      rw [List.lookup_cons_self] at h
      cases h
      rw [if_neg] at hq
      · cases hq
        show List.lookup x ((if _ then _ else _) :: _) = _
        rw [if_neg, List.lookup_cons_self]
        intro z
        rw [Bool.and_eq_true, Bool.and_eq_true] at z
        exact hk (eq_of_beq z.1.1)
      · intro z
        rw [Bool.and_eq_true, Bool.and_eq_true] at z
        exact hk (eq_of_beq z.1.1)
    · have hb : (x == q1) = false := beq_eq_false_iff_ne.mpr hx
      rw [List.lookup_cons, hb] at h
      show List.lookup x ((if (k' == NameKind.free && sc.kind == ScopeKind.function && sc.names.lookup q1 == some NameKind.cell) = true then (q1, NameKind.cell) else (q1, k')) :: _) = _
      rw [hq, List.lookup_cons, hb]
      exact lookup_rel h hk
theorem okt_blk {X : Cx} {s : Shared} {H : Hp} {scope : Scope} {cl : List (Str × Addr)} {C : Addr} {fp : List Addr} : Okt (X.blk s H scope (compEnvC scope cl C X.env) fp) scope := by
  intro x h
  unfold locB at h
  split at h
  · rename_i e
    have := lookup_rel (sc := X.env.scope) e (by decide)
    exact ⟨.inl this, .inr this⟩
  · rename_i e
    have := lookup_rel (sc := X.env.scope) e (by decide)
    exact ⟨.inr this, .inl (by show (scope.names.lookup x == some .cell) = true; rw [e]; rfl)⟩
  · cases h
theorem okx_blk {X : Cx} {sc : Scope} (o : Okx X W N G np c sc) {s : Shared} {H : Hp} {scope : Scope} (hk : scope.kind = .function) {cl : List (Str × Addr)} {C : Addr} {fp : List Addr} :
    Okx (X.blk s H scope (compEnvC scope cl C X.env) fp) W N G np c (relS scope sc) where
  N_ := o.N_
  nd := o.nd
  sc_ := by rw [← o.sc_]; rfl
  kind := hk
  calm := o.calm
  hu := o.hu
  m := o.m
theorem len_two {α : Type} {l : List α} (h : l.length = 2) : ∃ a b, l = [a, b] := by
  match l, h with
  | [a, b], _ => exact ⟨a, b, rfl⟩
theorem ands {a b : Bool} (h : (a && b) = true) : a = true ∧ b = true := Bool.and_eq_true_iff.mp h
theorem nots {a : Bool} (h : (!a) = true) : a = false := by simpa using h
def Pes (X : Cx) (W : Wd) (c : Cfg) : Es → List Expr → Prop
  | .nil, [] => True
  | .cons e es, x :: xs => notStar x = true ∧ PE X x (tI W c e) ∧ Pes X W c es xs
  | _, _ => False
theorem Pes.pa {X : Cx} : ∀ {es : Es} {xs : List Expr}, Pes X W c es xs → PA X xs (tIs W c es)
  | .nil, [], _ => a_nil
  | .nil, _ :: _, h => h.elim
  | .cons _ _, [], h => h.elim
  | .cons e es, x :: xs, h => a_cons h.2.1 h.2.2.pa h.1
theorem Pes.star {X : Cx} : ∀ {es : Es} {xs : List Expr}, Pes X W c es xs → xs.all notStar = true
  | .nil, [], _ => rfl
  | .nil, _ :: _, h => h.elim
  | .cons _ _, [], h => h.elim
  | .cons e es, x :: xs, h => by rw [List.all_cons, h.1, h.2.2.star]; rfl
theorem Pes.len {X : Cx} : ∀ {es : Es} {xs : List Expr}, Pes X W c es xs → xs.length = es.len
  | .nil, [], _ => rfl
  | .nil, _ :: _, h => h.elim
  | .cons _ _, [], h => h.elim
  | .cons e es, x :: xs, h => by rw [List.length_cons, h.2.2.len]; rfl
theorem Pes.one {X : Cx} {es : Es} {x : Expr} (h : Pes X W c es [x]) : ∃ e, es = .cons e .nil ∧ notStar x = true ∧ PE X x (tI W c e) := by
  cases es with
  | nil => exact h.elim
  | cons e r => cases r with
    | nil => exact ⟨e, rfl, h.1, h.2.1⟩
    | cons _ _ => exact h.2.2.elim
theorem Pes.two {X : Cx} {es : Es} {x y : Expr} (h : Pes X W c es [x, y]) : ∃ e f, es = .cons e (.cons f .nil) ∧ notStar x = true ∧ PE X x (tI W c e) ∧ notStar y = true ∧ PE X y (tI W c f) := by
  cases es with
  | nil => exact h.elim
  | cons e r =>
    obtain ⟨f, rfl, h1, h2⟩ := Pes.one (es := r) h.2.2
    exact ⟨e, f, rfl, h.1, h.2.1, h1, h2⟩
theorem Pes.pps {X : Cx} {pos : Pos} : ∀ {ks : List L2.Key} {kx : List (Option Expr)} {es : Es} {ys : List Expr}, kx.length = ks.length → ys.length = ks.length → ((ks.zip kx).all fun p => keyB p.1 p.2) = true → Pes X W c es ys →
    PPs X pos kx ys (trsOf W c ks es) ∧ kx.all (·.isSome) = true
  | [], [], .nil, [], _, _, _, _ => ⟨pps_nil, rfl⟩
  | k :: ks, x :: kx, .cons e es, y :: ys, h1, h2, h3, h => by
    rw [List.zip_cons_cons, List.all_cons] at h3
    obtain ⟨h3, h4⟩ := ands h3
    obtain ⟨u, rfl, pu⟩ := key_pe h3
    obtain ⟨q1, q2⟩ := h.2.2.pps (pos := pos) (ks := ks) (kx := kx) (Nat.succ.inj h1) (Nat.succ.inj h2) h4
    exact ⟨pps_cons pu h.2.1 q1, by rw [List.all_cons, q2]; rfl⟩
  | [], _ :: _, _, _, h1, _, _, _ => by cases h1
  | _ :: _, [], _, _, h1, _, _, _ => by cases h1
  | [], [], _, _ :: _, _, h2, _, _ => by cases h2
  | _ :: _, _ :: _, _, [], _, h2, _, _ => by cases h2
  | [], [], .cons _ _, [], _, _, _, h => h.elim
  | _ :: _, _ :: _, .nil, _ :: _, _, _, _, h => h.elim
mutual
theorem okE (e : E) : ∀ {X : Cx} {sc : Scope} {x : Expr}, Okx X W N G np c sc → chkE N G np e sc x = true → Snd X W c x e := by
  intro X sc x o h
  cases e with
  | var i =>
    unfold chkE at h
    split at h
    · obtain ⟨h, h3⟩ := ands h
      obtain ⟨h1, h2⟩ := ands h
      exact .of (s_var o (of_decide_eq_true h1) h2 h3) rfl
    · cases h
  | non =>
    unfold chkE at h
    split at h
    · exact .of s_non rfl
    · cases h
  | bl b =>
    unfold chkE at h
    split at h
    · cases of_decide_eq_true h
      exact .of s_bl rfl
    · cases h
  | int b =>
    unfold chkE at h
    split at h
    · cases of_decide_eq_true h
      exact .of s_int rfl
    · cases h
  | str b =>
    unfold chkE at h
    split at h
    · cases of_decide_eq_true h
      exact .of s_str rfl
    · cases h
  | glo y d =>
    unfold chkE at h
    split at h
    · rename_i z p
      obtain ⟨h, h4⟩ := ands h
      obtain ⟨h, h3⟩ := ands h
      obtain ⟨h1, h2⟩ := ands h
      cases of_decide_eq_true h1
      split at h4
      · rename_i k hk
        cases gEq_ok h4
        exact .of (s_glo o h2 h3 hk) rfl
      · cases h4
    · cases h
  | neg a =>
    unfold chkE at h
    split at h
    · exact .of (s_neg (okE a o h).pe) rfl
    · cases h
  | nt a =>
    unfold chkE at h
    split at h
    · obtain ⟨h1, h2⟩ := ands h
      have q := okE a o h2
      exact ⟨s_not q.pe, fun _ => t_not (q.pt h1), fun ⟨_, _, _, e⟩ => by cases e⟩
    · cases h
  | bin op m a b =>
    unfold chkE at h
    split at h
    · obtain ⟨h, h3⟩ := ands h
      obtain ⟨h1, h2⟩ := ands h
      cases of_decide_eq_true h1
      exact .of (s_bin o (okE a o h2).pe (okE b o h3).pe) rfl
    · cases h
  | and a b =>
    unfold chkE at h
    split at h
    · rename_i y z p
      obtain ⟨h, h4⟩ := ands h
      obtain ⟨h, h3⟩ := ands h
      obtain ⟨h1, h2⟩ := ands h
      have qa := okE a o h3
      have qb := okE b o h4
      have w : PW X (.BoolOp .And [y, z] p) (tIb W c (.and a b)) := (pw_and (qa.pt h1) (pw_and1 (qb.pt h2))).imp fun _ _ _ h => and_t h
      exact ⟨s_and qa.pe (pe_one qb.pe), fun _ => w.pt, fun _ => w⟩
    · obtain ⟨h, h3⟩ := ands h
      obtain ⟨h1, h2⟩ := ands h
      have qa := okE a o h2
      have qb := okE b o h3
      have w : PW X _ (tIb W c (.and a b)) := (pw_and (qa.pt h1) (qb.pw ⟨_, _, _, rfl⟩)).imp fun _ _ _ h => and_t h
      exact ⟨s_and qa.pe qb.pe, fun _ => w.pt, fun _ => w⟩
    · cases h
  | or a b =>
    unfold chkE at h
    split at h
    · rename_i y z p
      obtain ⟨h, h4⟩ := ands h
      obtain ⟨h, h3⟩ := ands h
      obtain ⟨h1, h2⟩ := ands h
      have qa := okE a o h3
      have qb := okE b o h4
      have w : PW X (.BoolOp .Or [y, z] p) (tIb W c (.or a b)) := (pw_or (qa.pt h1) (pw_or1 (qb.pt h2))).imp fun _ _ _ h => or_t h
      exact ⟨s_or qa.pe (pe_one qb.pe), fun _ => w.pt, fun _ => w⟩
    · obtain ⟨h, h3⟩ := ands h
      obtain ⟨h1, h2⟩ := ands h
      have qa := okE a o h2
      have qb := okE b o h3
      have w : PW X _ (tIb W c (.or a b)) := (pw_or (qa.pt h1) (qb.pw ⟨_, _, _, rfl⟩)).imp fun _ _ _ h => or_t h
      exact ⟨s_or qa.pe qb.pe, fun _ => w.pt, fun _ => w⟩
    · cases h
  | ife a b e =>
    unfold chkE at h
    split at h
    · obtain ⟨h, h4⟩ := ands h
      obtain ⟨h, h3⟩ := ands h
      obtain ⟨h1, h2⟩ := ands h
      exact ⟨s_ife ((okE a o h2).pt h1) (okE b o h3).pe (okE e o h4).pe, fun z => (by cases z), fun ⟨_, _, _, e⟩ => by cases e⟩
    · cases h
  | cmp op a b =>
    unfold chkE at h
    split at h
    · obtain ⟨h, h4⟩ := ands h
      obtain ⟨h, h3⟩ := ands h
      obtain ⟨h1, h2⟩ := ands h
      cases of_decide_eq_true h1
      have h2 := nots h2
      have qa := (okE a o h3).pe
      have qb := (okE b o h4).pe
      by_cases hv : op.val = true
      · exact ⟨s_cmp o hv h2 qa qb, fun _ => t_cmp o hv h2 qa qb, fun ⟨_, _, _, e⟩ => by cases e⟩
      · cases op <;> first | exact absurd rfl hv | skip
        · exact ⟨s_din o h2 qa qb, fun _ => t_din o h2 qa qb, fun ⟨_, _, _, e⟩ => by cases e⟩
        · exact ⟨s_dnin o h2 qa qb, fun _ => t_dnin o h2 qa qb, fun ⟨_, _, _, e⟩ => by cases e⟩
    · cases h
  | chn op op' a b e =>
    unfold chkE at h
    split at h
    · obtain ⟨h, h8⟩ := ands h
      obtain ⟨h, h7⟩ := ands h
      obtain ⟨h, h6⟩ := ands h
      obtain ⟨h, h5⟩ := ands h
      obtain ⟨h, h4⟩ := ands h
      obtain ⟨h, h3⟩ := ands h
      obtain ⟨h1, h2⟩ := ands h
      cases of_decide_eq_true h1
      cases of_decide_eq_true h2
      have h5 := nots h5
      have qa := (okE a o h6).pe
      have qb := (okE b o h7).pe
      have qc := (okE e o h8).pe
      exact ⟨s_chn o h3 h4 qa qb qc h5, fun _ => t_chn o h3 h4 qa qb qc h5, fun ⟨_, _, _, e⟩ => by cases e⟩
    · cases h
  | tup es =>
    unfold chkE at h
    split at h
    · exact .of (s_tup (okEs es o h).pa) rfl
    · cases h
  | lst m es =>
    unfold chkE at h
    split at h
    · exact .of (s_lst (okEs es o h).pa) rfl
    · cases h
  | dnew ks es =>
    unfold chkE at h
    split at h
    · split at h
      · exact .of s_dnew0 rfl
      · cases h
    · obtain ⟨h, h5⟩ := ands h
      obtain ⟨h, h4⟩ := ands h
      obtain ⟨h, h3⟩ := ands h
      obtain ⟨h1, h2⟩ := ands h
      have h1 := of_decide_eq_true h1
      have h2 := of_decide_eq_true h2
      have h3 := of_decide_eq_true h3
      have q := okEs es o h5
      obtain ⟨q1, q2⟩ := q.pps h1 h2 h4
      exact .of ((pe_disp q1 q2 (by omega) (by simp) (by omega)).imp fun _ _ _ z => disp_t h3 (by rw [← h2, q.len]) z) rfl
    · cases h
  | ix a b =>
    unfold chkE at h
    split at h
    · obtain ⟨h, h3⟩ := ands h
      obtain ⟨h1, h2⟩ := ands h
      exact .of (s_ix o (okE a o h2).pe (okE b o h3).pe h1) rfl
    · cases h
  | dix a b =>
    unfold chkE at h
    split at h
    · obtain ⟨h, h3⟩ := ands h
      obtain ⟨h1, h2⟩ := ands h
      exact .of (s_dix o (okE a o h2).pe (okE b o h3).pe h1) rfl
    · cases h
  | sl m a lo hi =>
    unfold chkE at h
    split at h
    · obtain ⟨h, h3⟩ := ands h
      obtain ⟨h1, h2⟩ := ands h
      exact .of (s_sl o (okE a o h1).pe (okO lo o h2) (okO hi o h3)) rfl
    · cases h
  | call y f es =>
    unfold chkE at h
    split at h
    · obtain ⟨h, h6⟩ := ands h
      obtain ⟨h, h5⟩ := ands h
      obtain ⟨h, h4⟩ := ands h
      obtain ⟨h, h3⟩ := ands h
      obtain ⟨h1, h2⟩ := ands h
      cases of_decide_eq_true h1
      split at h4
      · rename_i k hk
        cases gEq_ok h4
        have q := okEs es o h6
        have st := q.star
        rw [List.all_cons] at st
        exact .of (s_call o h2 h3 hk q.pa (ands st).1 (ands st).2 (of_decide_eq_true h5)) rfl
      · cases h4
    · cases h
  | «bif» b m es =>
    unfold chkE at h
    split at h
    · rename_i z zp args mp
      split at h
      · split at h
        · obtain ⟨h, h6⟩ := ands h
          obtain ⟨h, h5⟩ := ands h
          obtain ⟨h, h4⟩ := ands h
          obtain ⟨h, h3⟩ := ands h
          obtain ⟨h1, h2⟩ := ands h
          cases of_decide_eq_true h1
          cases of_decide_eq_true h2
          have q := okEs es o h6
          rcases of_decide_eq_true h5 with h5 | h5
          · obtain ⟨y, rfl⟩ := List.length_eq_one_iff.mp h5
            obtain ⟨e, rfl, s1, p1⟩ := q.one
            exact .of (s_rl1 o h3 h4 p1 s1) rfl
          · obtain ⟨y, y2, rfl⟩ := len_two h5
            obtain ⟨e, f, rfl, s1, p1, s2, p2⟩ := q.two
            exact .of (s_rl2 o h3 h4 p1 s1 p2 s2) rfl
        · cases h
      · split at h
        · obtain ⟨h, h6⟩ := ands h
          obtain ⟨h, h5⟩ := ands h
          obtain ⟨h, h4⟩ := ands h
          obtain ⟨h, h3⟩ := ands h
          obtain ⟨h1, h2⟩ := ands h
          cases of_decide_eq_true h1
          cases of_decide_eq_true h2
          have q := okEs es o h6
          obtain ⟨y, rfl⟩ := List.length_eq_one_iff.mp (of_decide_eq_true h5)
          obtain ⟨e, rfl, s1, p1⟩ := q.one
          exact .of (s_rt1 o h3 h4 p1 s1) rfl
        · cases h
      · split at h
        · obtain ⟨h, h5⟩ := ands h
          obtain ⟨h, h4⟩ := ands h
          obtain ⟨h, h3⟩ := ands h
          obtain ⟨h1, h2⟩ := ands h
          cases of_decide_eq_true h1
          obtain ⟨e, rfl, s1, p1⟩ := (okEs es o h5).one
          exact .of (s_isi o h2 p1 s1 h3 h4) rfl
        · cases h
      · split at h
        · obtain ⟨h, h7⟩ := ands h
          obtain ⟨h, h6⟩ := ands h
          obtain ⟨h, h5⟩ := ands h
          obtain ⟨h, h4⟩ := ands h
          obtain ⟨h, h3⟩ := ands h
          obtain ⟨h1, h2⟩ := ands h
          cases of_decide_eq_true h1
          obtain ⟨e, rfl, s1, p1⟩ := (okEs es o h7).one
          exact .of (s_isi2 o h2 p1 s1 h3 h4 h5 h6) rfl
        · cases h
      · cases h
      · split at h
        · obtain ⟨h, h6⟩ := ands h
          obtain ⟨h, h5⟩ := ands h
          obtain ⟨h, h4⟩ := ands h
          obtain ⟨h, h3⟩ := ands h
          obtain ⟨h1, h2⟩ := ands h
          cases of_decide_eq_true h1
          cases of_decide_eq_true h2
          obtain ⟨e, rfl, s1, p1⟩ := (okEs es o h6).one
          exact .of (s_lv o h3 p1 h4 h5) rfl
        · cases h
      · split at h
        · obtain ⟨h, h6⟩ := ands h
          obtain ⟨h, h5⟩ := ands h
          obtain ⟨h, h4⟩ := ands h
          obtain ⟨h, h3⟩ := ands h
          obtain ⟨h1, h2⟩ := ands h
          cases of_decide_eq_true h1
          cases of_decide_eq_true h2
          have q := okEs es o h6
          obtain ⟨y, rfl⟩ := List.length_eq_one_iff.mp (of_decide_eq_true h5)
          obtain ⟨e, rfl, s1, p1⟩ := q.one
          exact .of (s_lset o h3 h4 p1 s1) rfl
        · cases h
      · split at h
        · obtain ⟨h, h3⟩ := ands h
          obtain ⟨h1, h2⟩ := ands h
          have q := okEs es o h3
          have st := q.star
          rw [List.all_cons] at st
          exact .of (s_bif o (of_decide_eq_true h1) h2 q.pa (ands st).1 (ands st).2) rfl
        · cases h
    · cases h
  | mth mt a es =>
    unfold chkE at h
    split at h
    · split at h
      · obtain ⟨h, h4⟩ := ands h
        obtain ⟨h, h3⟩ := ands h
        obtain ⟨h1, h2⟩ := ands h
        cases of_decide_eq_true h1
        exact .of (s_pop0 o (okE a o h4).pe h2 h3) rfl
      · cases h
    · split at h
      · split at h
        · obtain ⟨h, h5⟩ := ands h
          obtain ⟨h, h4⟩ := ands h
          obtain ⟨h, h3⟩ := ands h
          obtain ⟨h1, h2⟩ := ands h
          cases of_decide_eq_true h1
          obtain ⟨e, rfl, s1, p1⟩ := (okEs es o h5).one
          exact .of (s_get1 o (okE a o h4).pe p1 s1 h2 h3) rfl
        · cases h
      · obtain ⟨h, h6⟩ := ands h
        obtain ⟨h, h5⟩ := ands h
        obtain ⟨h, h4⟩ := ands h
        obtain ⟨h, h3⟩ := ands h
        obtain ⟨h1, h2⟩ := ands h
        have q := okEs es o h6
        have st := q.star
        rw [List.all_cons] at st
        exact .of (s_mth o (of_decide_eq_true h1) (okE a o h5).pe q.pa (ands st).1 (ands st).2 h2 h3 (of_decide_eq_true h4)) rfl
    · cases h
  | lc m elt g it cond own =>
    unfold chkE at h
    split at h
    · obtain ⟨h, h9⟩ := ands h
      obtain ⟨h, h8⟩ := ands h
      obtain ⟨h, h7⟩ := ands h
      obtain ⟨h, h6⟩ := ands h
      obtain ⟨h, h5⟩ := ands h
      obtain ⟨h, h4⟩ := ands h
      obtain ⟨h, h3⟩ := ands h
      obtain ⟨h1, h2⟩ := ands h
      cases of_decide_eq_true h1
      have ok := blkOk_by h2
      have h3 := of_decide_eq_true h3
      have hs : ∀ j ∈ g.slots, j ∈ own := fun j hj => List.contains_iff_mem.mp (List.all_eq_true.mp h4 j hj)
      refine .of (PE.imp (pe_lc (own := ownP N own) o.calm (by rw [o.N_]; exact o.nd) (okIt it o h6) (by rw [o.N_, o.sc_]; exact ok) (fun s H C cl fp => okTg g (okx_blk o ok.kind) okt_blk h7)
        (fun s H C cl fp => okO1 cond (okx_blk o ok.kind) h8) (fun s H C cl fp => (okE elt (okx_blk o ok.kind) h9).pe) (fun x => fset_ok h5 _ _)) fun σ H Q z => ?_) rfl
      rw [h3]
      exact lc_t hs z
    · cases h
  | sl3 m a lo hi st =>
    unfold chkE at h
    split at h
    · obtain ⟨h, h4⟩ := ands h
      obtain ⟨h, h3⟩ := ands h
      obtain ⟨h1, h2⟩ := ands h
      exact .of (s_sl3 o (okE a o h1).pe (okO lo o h2) (okO hi o h3) (okE st o h4).pe) rfl
    · cases h
  | fld cl a f =>
    unfold chkE at h
    split at h
    · obtain ⟨h, h4⟩ := ands h
      obtain ⟨h, h3⟩ := ands h
      obtain ⟨h1, h2⟩ := ands h
      cases of_decide_eq_true h1
      obtain ⟨C, c1, c2⟩ := fldB_ok h3
      exact .of (s_fld o c1 c2 (okE a o h4).pe h2) rfl
    · cases h
  | make y cl f es =>
    unfold chkE at h
    split at h
    · obtain ⟨h, h6⟩ := ands h
      obtain ⟨h, h5⟩ := ands h
      obtain ⟨h, h4⟩ := ands h
      obtain ⟨h, h3⟩ := ands h
      obtain ⟨h1, h2⟩ := ands h
      cases of_decide_eq_true h1
      obtain ⟨C, c1, c2, c3⟩ := mkB_ok h4
      have q := okEs es o h6
      have st := q.star
      rw [List.all_cons] at st
      exact .of (s_make o h2 h3 c1 c2 c3 q.pa (ands st).1 (ands st).2 (of_decide_eq_true h5)) rfl
    · cases h
  | meth cl m f a es =>
    unfold chkE at h
    split at h
    · split at h
      · obtain ⟨h, h6⟩ := ands h
        obtain ⟨h, h5⟩ := ands h
        obtain ⟨h, h4⟩ := ands h
        obtain ⟨h, h3⟩ := ands h
        obtain ⟨h1, h2⟩ := ands h
        cases of_decide_eq_true h1
        obtain ⟨C, c1, c2⟩ := mthB_ok h4
        exact .of (s_meth0 o c1 c2 (okE a o h6).pe h2 h3 (of_decide_eq_true h5)) rfl
      · cases h
    · obtain ⟨h, h8⟩ := ands h
      obtain ⟨h, h7⟩ := ands h
      obtain ⟨h, h6⟩ := ands h
      obtain ⟨h, h5⟩ := ands h
      obtain ⟨h, h4⟩ := ands h
      obtain ⟨h, h3⟩ := ands h
      obtain ⟨h1, h2⟩ := ands h
      cases of_decide_eq_true h1
      obtain ⟨C, c1, c2⟩ := mthB_ok h5
      have q := okEs es o h8
      have st := q.star
      rw [List.all_cons] at st
      exact .of (s_meth o c1 c2 (okE a o h7).pe q.pa (ands st).1 (ands st).2 h2 h3 (of_decide_eq_true h4) (of_decide_eq_true h6)) rfl
    · cases h
theorem okEs (es : Es) : ∀ {X : Cx} {sc : Scope} {xs : List Expr}, Okx X W N G np c sc → chkEs N G np es sc xs = true → Pes X W c es xs := by
  intro X sc xs o h
  cases es with
  | nil =>
    unfold chkEs at h
    split at h
    · exact True.intro
    · cases h
  | cons e es =>
    unfold chkEs at h
    split at h
    · obtain ⟨h, h3⟩ := ands h
      obtain ⟨h1, h2⟩ := ands h
      exact ⟨h1, (okE e o h2).pe, okEs es o h3⟩
    · cases h
theorem okO (e : Eo) : ∀ {X : Cx} {sc : Scope} {x : Option Expr}, Okx X W N G np c sc → chkO N G np e sc x = true → PO X x (tOi W c e) := by
  intro X sc x o h
  cases e with
  | none =>
    unfold chkO at h
    split at h
    · exact o_non
    · cases h
  | some e =>
    unfold chkO at h
    split at h
    · cases h
    · exact o_som (okE e o h).pe
theorem okO1 (e : Eo) : ∀ {X : Cx} {sc : Scope} {x : List Expr}, Okx X W N G np c sc → chkO1 N G np e sc x = true → PTs X x (tPt W c e) := by
  intro X sc x o h
  cases e with
  | none =>
    unfold chkO1 at h
    split at h
    · exact p_non
    · cases h
  | some e =>
    unfold chkO1 at h
    split at h
    · obtain ⟨h1, h2⟩ := ands h
      exact p_som ((okE e o h2).pt h1)
    · cases h
theorem okIt (it : Wi) : ∀ {X : Cx} {sc : Scope} {tg x : Expr}, Okx X W N G np c sc → chkIt N G np it sc tg x = true → PI X tg x (tIt W c it) := by
  intro X sc tg x o h
  cases it with
  | ev e =>
    unfold chkIt at h
    exact i_ev o.K (okE e o h).pe
  | tv e =>
    unfold chkIt at h
    exact i_tv o.K (okE e o h).pe
  | evx e =>
    unfold chkIt at h
    exact i_evx o.K (okE e o h).pe
  | enx a =>
    unfold chkIt at h
    split at h
    · obtain ⟨h, h4⟩ := ands h
      obtain ⟨h, h3⟩ := ands h
      obtain ⟨h1, h2⟩ := ands h
      cases of_decide_eq_true h1
      exact i_enx o h2 (okE a o h4).pe h3
    · cases h
  | rng1 a =>
    unfold chkIt at h
    split at h
    · obtain ⟨h, h4⟩ := ands h
      obtain ⟨h, h3⟩ := ands h
      obtain ⟨h1, h2⟩ := ands h
      cases of_decide_eq_true h1
      exact i_rng1 o h2 (okE a o h4).pe h3
    · cases h
  | rng2 a b =>
    unfold chkIt at h
    split at h
    · obtain ⟨h, h6⟩ := ands h
      obtain ⟨h, h5⟩ := ands h
      obtain ⟨h, h4⟩ := ands h
      obtain ⟨h, h3⟩ := ands h
      obtain ⟨h1, h2⟩ := ands h
      cases of_decide_eq_true h1
      exact i_rng2 o h2 (okE a o h5).pe h3 (okE b o h6).pe h4
    · cases h
  | rng3 a b e =>
    unfold chkIt at h
    cases h
  | enl a =>
    unfold chkIt at h
    split at h
    · obtain ⟨h, h4⟩ := ands h
      obtain ⟨h, h3⟩ := ands h
      obtain ⟨h1, h2⟩ := ands h
      cases of_decide_eq_true h1
      exact i_enl o h2 (okE a o h4).pe h3
    · cases h
  | ent a =>
    unfold chkIt at h
    split at h
    · obtain ⟨h, h4⟩ := ands h
      obtain ⟨h, h3⟩ := ands h
      obtain ⟨h1, h2⟩ := ands h
      cases of_decide_eq_true h1
      exact i_ent o h2 (okE a o h4).pe h3
    · cases h
  | zipT a b =>
    unfold chkIt at h
    cases h
  | zipL a b =>
    unfold chkIt at h
    cases h
  | keys i =>
    unfold chkIt at h
    split at h
    · obtain ⟨h, h3⟩ := ands h
      obtain ⟨h1, h2⟩ := ands h
      exact i_keys o (of_decide_eq_true h1) h2 h3
    · cases h
theorem okTg (g : Tg) : ∀ {X : Cx} {sc tsc : Scope} {x : Expr}, Okx X W N G np c sc → Okt X tsc → chkTg N G np g sc tsc x = true → PG X x (tGi W c g) := by
  intro X sc tsc x o ot h
  cases g with
  | name i =>
    unfold chkTg at h
    split at h
    · obtain ⟨h1, h2⟩ := ands h
      obtain ⟨q1, q2⟩ := ot _ h2
      exact g_name o (of_decide_eq_true h1) q1 q2
    · cases h
  | sub a b =>
    unfold chkTg at h
    split at h
    · obtain ⟨h, h3⟩ := ands h
      obtain ⟨h1, h2⟩ := ands h
      exact g_sub o (okE a o h2).pe (okE b o h3).pe h1
    · cases h
  | dsub a b =>
    unfold chkTg at h
    split at h
    · obtain ⟨h, h3⟩ := ands h
      obtain ⟨h1, h2⟩ := ands h
      exact g_dsub o (okE a o h2).pe (okE b o h3).pe h1
    · cases h
  | slc a b e =>
    unfold chkTg at h
    split at h
    · obtain ⟨h, h3⟩ := ands h
      obtain ⟨h1, h2⟩ := ands h
      exact g_slc o (okE a o h1).pe (okE b o h2).pe (okE e o h3).pe
    · cases h
  | tup ts =>
    unfold chkTg at h
    split at h
    · obtain ⟨h, h3⟩ := ands h
      obtain ⟨h1, h2⟩ := ands h
      exact g_tup o (okTgs ts o ot h3) h2 (of_decide_eq_true h1)
    · cases h
theorem okTgs (gs : Tgs) : ∀ {X : Cx} {sc tsc : Scope} {xs : List Expr}, Okx X W N G np c sc → Okt X tsc → chkTgs N G np gs sc tsc xs = true → PGs X xs (tGs W c gs) := by
  intro X sc tsc xs o ot h
  cases gs with
  | nil =>
    unfold chkTgs at h
    split at h
    · exact g_nil
    · cases h
  | cons t ts =>
    unfold chkTgs at h
    split at h
    · obtain ⟨h, h3⟩ := ands h
      obtain ⟨h1, h2⟩ := ands h
      exact g_cons (okTg t o ot h2) (okTgs ts o ot h3) h1
    · cases h
end
end
end Sw

set_option maxRecDepth 100000
set_option maxHeartbeats 4000000
/-! SwB: statements, one rule a construct. -/
namespace Sw
open PySem PySem.Spec PyProof.Rows L2
def endP (W : Wd) (c : Cfg) (D : Ends) (ρ hid : List Addr) (H : Hp) (o : Out) (env : Env) : Prop := match o with
  | .nx => ∀ σ, RelEnv W c.lk ρ hid H env σ → D.nx σ H
  | .ct => ∀ σ, RelEnv W c.lk ρ hid H env σ → D.ct σ H
  | .brk => ∀ σ, RelEnv W c.lk ρ hid H env σ → D.bk σ H
  | .ret d => ∀ v, RelD W ρ hid H d v → D.rt v H
def Fin (W : Wd) (c : Cfg) (D : Ends) (bs : List Nat) (ρ hid : List Addr) (H : Hp) (o : Out) (env : Env) (h' : Store) : Prop := ∀ ρ' H', Ext ρ hid H ρ' H' → Rl W bs ρ' hid h' H' → endP W c D ρ' hid H' o env
theorem Fin.go {W : Wd} {c : Cfg} {D : Ends} {bs : List Nat} {ρ hid : List Addr} {H : Hp} {o : Out} {env : Env} {h' : Store} (f : Fin W c D bs ρ hid H o env h') {ρ' : List Addr} {H' : Hp} (x : Ext ρ hid H ρ' H') : Fin W c D bs ρ' hid H' o env h' :=
  fun ρ2 H2 x2 R2 => f ρ2 H2 (x.trans x2) R2
def tS (W : Wd) (c : Cfg) (f : Env → Store → Res) : TS := fun D σ H => ∃ (s : Sit W c σ H) (o : Out) (env' : Env) (h' : Store), f s.env s.h = some (o, env', h') ∧ Fin W c D s.bs s.ρ s.hid H o env' h'
def Sit.re2 {W : Wd} {c : Cfg} {σ σ' : L2.St} {H : Hp} (s : Sit W c σ H) {env : Env} (r : RelEnv W c.lk s.ρ s.hid H env σ') : Sit W c σ' H := ⟨s.bs, s.ρ, s.hid, s.h, env, s.R, s.hb, r⟩
section
variable {X : Cx} {W : Wd} {N : List Str} {G : Gs} {np : Nat → Nat} {c : Cfg} {sc : Scope}

theorem z_never {st : Stmt} : PS X st (tS W c (exS c .stuck)) := ps_never.imp fun D σ H ⟨s, o, env', h', e, _⟩ => by
  unfold exS at e
  cases e
theorem z_nil : PSs X [] (tS W c (exSs c [])) := by
  refine pss_nil.imp ?_
  rintro D σ H ⟨s, o, env', h', e, to⟩
  unfold exSs at e
  cases e
  exact to s.ρ H .refl s.R σ s.re
theorem z_cons {st : Stmt} {rest : List Stmt} {a : S} {r : List S} (h1 : PS X st (tS W c (exS c a))) (h2 : PSs X rest (tS W c (exSs c r))) : PSs X (st :: rest) (tS W c (exSs c (a :: r))) := by
  refine (pss_cons h1 h2).imp ?_
  rintro D σ H ⟨s, o, env', h', e, to⟩
  unfold exSs at e
  split at e
  · rename_i e1 hh e2
    refine ⟨s, .nx, e1, hh, e2, fun ρ1 H1 x1 R1 σ1 re1 => ?_⟩
    exact ⟨⟨s.bs, ρ1, s.hid, hh, e1, R1, s.hb, re1⟩, o, env', h', e, to.go x1⟩
  · rename_i o1 e1 hh e3 e2
    cases e
    refine ⟨s, o, env', h', e2, fun ρ1 H1 x1 R1 => ?_⟩
    have q := to ρ1 H1 x1 R1
    cases o with
    | nx => exact (e3 rfl).elim
    | ct => exact q
    | brk => exact q
    | ret d => exact q
  · cases e
theorem z_pass {p : Pos} : PS X (.Pass p) (tS W c (exS c .pass)) := by
  refine ps_pass.imp ?_
  rintro D σ H ⟨s, o, env', h', e, to⟩
  unfold exS at e
  cases e
  exact to s.ρ H .refl s.R σ s.re
theorem z_doc {x j p p'} : PS X (.Expr (.Constant (.str x) j p) p') (tS W c (exS c .pass)) := by
  refine ps_doc.imp ?_
  rintro D σ H ⟨s, o, env', h', e, to⟩
  unfold exS at e
  cases e
  exact to s.ρ H .refl s.R σ s.re
theorem z_cont {p : Pos} : PS X (.Continue p) (tS W c (exS c .cont)) := by
  refine ps_continue.imp ?_
  rintro D σ H ⟨s, o, env', h', e, to⟩
  unfold exS at e
  cases e
  exact to s.ρ H .refl s.R σ s.re
theorem sw_lc {e : Expr} (h : notLc e = true) (t : Option Expr) (l : Nat) (env : PySem.Env) : swapsWith e t l env = pure false := by
  cases e <;> first | rfl | cases h
theorem z_expr {x : Expr} {a : E} {p : Pos} (ha : PE X x (tI W c a)) (hn : notLc x = true) : PS X (.Expr x p) (tS W c (exS c (.expr a))) := by
  refine (ps_expr ha (sw_lc hn _ _ _)).imp ?_
  rintro D σ H ⟨s, o, env', h', e, to⟩
  unfold exS at e
  obtain ⟨⟨d, h1⟩, e1, e2⟩ := Option.map_eq_some_iff.mp e
  cases e2
  exact ⟨s, d, h1, e1, fun ρ1 v H1 x1 R1 r1 => to ρ1 H1 x1 R1 σ (s.re.mono x1)⟩
theorem z_ret {x : Expr} {a : E} {p : Pos} (ha : PE X x (tI W c a)) : PS X (.Return (some x) p) (tS W c (exS c (.ret a))) := by
  refine (ps_ret ha).imp ?_
  rintro D σ H ⟨s, o, env', h', e, to⟩
  unfold exS at e
  obtain ⟨⟨d, h1⟩, e1, e2⟩ := Option.map_eq_some_iff.mp e
  cases e2
  exact ⟨s, d, h1, e1, fun ρ1 v H1 x1 R1 r1 => to ρ1 H1 x1 R1 v r1⟩
theorem z_retN {p : Pos} : PS X (.Return none p) (tS W c (exS c .retN)) := by
  refine ps_retN.imp ?_
  rintro D σ H ⟨s, o, env', h', e, to⟩
  unfold exS at e
  cases e
  exact to s.ρ H .refl s.R _ rfl
theorem z_if {x : Expr} {a : E} {ys zs : List Stmt} {bs cs : List S} {p : Pos} (ha : PT X x (tIb W c a)) (hb : PSs X ys (tS W c (exSs c bs))) (hc : PSs X zs (tS W c (exSs c cs))) : PS X (.If x ys zs p) (tS W c (exS c (.ife a bs cs))) := by
  refine (ps_if ha hb hc).imp ?_
  rintro D σ H ⟨s, o, env', h', e, to⟩
  unfold exS at e
  split at e
  · rename_i h1 e1
    refine ⟨s, true, h1, e1, fun ρ1 H1 x1 R1 => ?_⟩
    show ite (true = true) _ _
    rw [if_pos rfl]
    exact ⟨s.go x1 R1, o, env', h', e, to.go x1⟩
  · rename_i h1 e1
    refine ⟨s, false, h1, e1, fun ρ1 H1 x1 R1 => ?_⟩
    show ite (false = true) _ _
    rw [if_neg Bool.false_ne_true]
    exact ⟨s.go x1 R1, o, env', h', e, to.go x1⟩
  · cases e

/-! ### an attribute is set -/
theorem sw_fld (x : Expr) (u : Expr) (v : Str) (w : Pos) (l : Nat) (env : PySem.Env) : swapsWith x (some (.Attribute u v w)) l env = pure false := by
  cases x <;> rfl
theorem z_fset (o : Okx X W N G np c sc) {cl : Nat} {C : ClsT} {ox x : Expr} {a b : E} {f : Str} {pf p : Pos} (hC : G.lookC cl = some C) (hf : f ∈ C.flds) (ho : PE X ox (tI W c a)) (hv : PE X x (tI W c b)) :
    PS X (.Assign [.Attribute ox f pf] x p) (tS W c (exS c (.fset cl a f b))) := by
  obtain ⟨n, m, rm⟩ := o.m
  obtain ⟨k1, k2, _⟩ := m.cls cl C hC
  refine (ps_fld ho hv (sw_fld _ _ _ _ _ _)).imp ?_
  rintro Ds σ H ⟨s, ot, env', h', e, to⟩
  unfold exS at e
  split at e
  · rename_i d h1 e1
    split at e
    · rename_i n h2 e2
      split at e
      · rename_i cl' fs hn
        split at e
        · rename_i hc
          obtain ⟨hc, hl⟩ := hc
          subst hc
          obtain ⟨h3, e3, e4⟩ := Option.map_eq_some_iff.mp e
          cases e4
          refine ⟨s, d, h1, e1, fun ρ1 v H1 x1 R1 r1 => ⟨s.go x1 R1, _, _, e2, fun ρ2 w H2 x2 R2 r2 => ?_⟩⟩
          obtain ⟨ad, ha, rfl⟩ := r2
          obtain ⟨dx, fws, hi, hk, q⟩ := R2.ob n _ ad hn ha
          have rd := r1.mono x2
          obtain ⟨pk, pq⟩ := putF_ok rd (f := f) hk q
          have x3 : Mv ρ2 s.hid H2 ρ2 s.hid (upd H2 ad (.ins (W.cA cl') dx (putF f v fws))) := mv_write ha
          obtain ⟨x4, R4⟩ := wr_ok ((s.go x1 R1).go x2 R2) (o' := .ins cl' (putFD f d fs)) e3 hn ha (by rw [hi]; intro _ _ z; cases z) (u := .ins (W.cA cl') dx (putF f v fws)) ⟨dx, _, upd_same, pk, pq.mv x3⟩ fun β h1 h2 => by
            have h1 : D.bels β (fs.map (·.2)) = true := h1
            have h2 : D.bels β [d] = true := h2
            show D.bels β ((putFD f d fs).map (·.2)) = true
            have key : ∀ l : List (Str × D), D.bels β (l.map (·.2)) = true → D.bels β ((putFD f d l).map (·.2)) = true := by
              intro l
              induction l with
              | nil => intro _; exact h2
              | cons p l ih =>
                obtain ⟨g, x⟩ := p
                intro hz
                simp only [List.map_cons, D.bels, Bool.and_eq_true] at hz
                unfold putFD
                split
                · simp only [List.map_cons, D.bels, Bool.and_eq_true] at h2 ⊢
                  exact ⟨h2.1, hz.2⟩
                · simp only [List.map_cons, D.bels, Bool.and_eq_true]
                  exact ⟨hz.1, ih hz.2⟩
            exact key fs h1
          have hfl : fws.length < 1000 := by
            have := congrArg List.length hk
            simp only [List.length_map] at this
            omega
          exact ⟨ad, W.cA cl', dx, fws, rfl, hi, k1, k2 f hf, hfl, to ρ2 _ ((x1.trans x2).trans x4) R4 σ (s.re.mono ((x1.trans x2).trans x4))⟩
        · cases e
      · cases e
    · cases e
  · cases e

/-! ### assignments -/
theorem set_t {g : Tg} {a : E} {D : Ends} {σ : L2.St} {H : Hp} (h : tS W c (exS c (.set g a)) D σ H) : tAsg (tI W c a) (tGi W c g) D σ H := by
  obtain ⟨s, o, env', h', e, to⟩ := h
  unfold exS at e
  split at e
  · rename_i d h1 e1
    split at e
    · rename_i env2 h2 e2
      cases e
      refine ⟨s, d, h1, e1, fun ρ1 v H1 x1 R1 r1 => ?_⟩
      exact ⟨s.go x1 R1, d, env', h', r1, e2, fun ρ2 H2 σ2 x2 R2 re2 _ => to ρ2 H2 (x1.trans x2) R2 σ2 re2⟩
    · cases e
  · cases e
def oneTg : Expr → Bool
  | .Name .. => true
  | .Subscript .. => true
  | _ => false
theorem z_set1 {tg x : Expr} {g : Tg} {a : E} {p : Pos} (ha : PE X x (tI W c a)) (hg : PG X tg (tGi W c g)) (h1 : oneTg tg = true) (hs : swapsWith x (some tg) p.line X.env = pure false) : PS X (.Assign [tg] x p) (tS W c (exS c (.set g a))) := by
  refine (ps_asg ha hg hs ?_ ?_).imp fun _ _ _ h => set_t h
  · cases tg <;> first | rfl | cases h1
  · cases tg <;> first | rfl | cases h1
/-- a tuple's parts, the right side not a display -/
def notTup : Expr → Bool
  | .Tuple .. => false
  | _ => true
theorem sw_tup (x : Expr) (xs : List Expr) (k : Nat) (q : Pos) (l : Nat) (env : PySem.Env) : swapsWith x (some (.Tuple xs k q)) l env = pure false := by
  cases x <;> rfl
theorem asg_star {tg : Expr} (h : notStar tg = true) (env : PySem.Env) : (assignEach [tg] env).map (·.2) = [assign tg env] := by
  cases tg <;> first | rfl | cases h
theorem z_setT {xs : List Expr} {k : Nat} {q : Pos} {x : Expr} {g : Tg} {a : E} {p : Pos} (ha : PE X x (tI W c a)) (hg : PG X (.Tuple xs k q) (tGi W c g)) (hw : swappedStores [.Tuple xs k q] x X.env = pure none) : PS X (.Assign [.Tuple xs k q] x p) (tS W c (exS c (.set g a))) :=
  (ps_asg ha hg (sw_tup x xs k q p.line X.env) hw (asg_star rfl _)).imp fun _ _ _ h => set_t h
/-- the targets of a swapped store: all plain locals, on one line -/
def swNames (sc : Scope) (ts : List Expr) : List Str := ts.filterMap fun
  | .Name id pos => if sc.names.lookup id = some .local ∧ (pos.line == (ts.head?.map (·.pos.line)).getD 0) = true then some id else none
  | _ => none
def swNone (sc : Scope) (ts : List Expr) (x : Expr) : Bool := match x with
  | .Tuple vs _ _ => !(ts.length == 2 || ts.length == 3) || vs.length != ts.length || (swNames sc ts).length != ts.length
  | _ => true
theorem swN_eq {sc : Scope} {env : PySem.Env} (e : env.scope = sc) (ts : List Expr) : (ts.filterMap fun
    | .Name id pos => if (env.kindOf id == some NameKind.local && pos.line == (ts.head?.map (·.pos.line)).getD 0) = true then some id else none
    | _ => none) = swNames sc ts := by
  unfold swNames
  congr 1
  funext x
  cases x <;> try rfl
  rename_i id pos
  subst e
  show (if (env.scope.names.lookup id == some NameKind.local && pos.line == _) = true then some id else none) = _
  simp only [Bool.and_eq_true, beq_iff_eq]
theorem sw_none {env : PySem.Env} (e : env.scope = sc) (hk : sc.kind = .function) {ts : List Expr} {k : Nat} {q : Pos} {x : Expr} (h : swNone sc ts x = true) (hs : ∀ vs k2 p2, x = .Tuple vs k2 p2 → vs.all notStar = true) : swappedStores [.Tuple ts k q] x env = pure none := by
  unfold swappedStores
  cases x with
  | Tuple vs k2 p2 =>
    have hs := hs _ _ _ rfl
    simp only [swNone] at h
    have hN := swN_eq e ts
    simp only
    split
    · rfl
    · rename_i h1
      simp only [Bool.or_eq_true, not_or] at h1
      have h2 : ((swNames sc ts).length != ts.length) = true := by
        simp only [Bool.or_eq_true] at h
        rcases h with (h | h) | h
        · exact absurd (by simpa using h) h1.1.1
        · exact absurd h h1.1.2
        · exact h
      show (if _ then _ else _) = _
      split
      · rfl
      · split
        · rfl
        · rename_i z
          rw [← hN] at h2
          exact absurd (by rw [Bool.or_eq_true]; left; exact h2) z
  | _ => rfl
def swSome (sc : Scope) (ts vs : List Expr) : Bool := (ts.length == 2 || ts.length == 3) && vs.length == ts.length && ((swNames sc ts).length == ts.length) && ((swNames sc ts).eraseDups.length == (swNames sc ts).length) &&
  !(vs.all (foldedForSure 8)) && !(vs.all (constantsAlone 8))
theorem sw_some {env : PySem.Env} (e : env.scope = sc) (hk : sc.kind = .function) {ts vs : List Expr} {k k2 : Nat} {q p2 : Pos} (h : swSome sc ts vs = true) (hs : vs.all notStar = true) :
    swappedStores [.Tuple ts k q] (.Tuple vs k2 p2) env = pure (some (swNames sc ts)) := by
  unfold swSome at h
  obtain ⟨h, h6⟩ := ands h
  obtain ⟨h, h5⟩ := ands h
  obtain ⟨h, h4⟩ := ands h
  obtain ⟨h, h3⟩ := ands h
  obtain ⟨h1, h2⟩ := ands h
  have h5 := nots h5
  have h6 := nots h6
  have hN := swN_eq e ts
  have hb : env.blockKind = .function := by unfold Env.blockKind; rw [e, hk]; rfl
  unfold swappedStores
  simp only
  split
  · rename_i z
    rw [hb] at z
    simp only [Bool.or_eq_true] at z
    rcases z with (z | z) | z
    · exact absurd h1 (by simpa using z)
    · have := eq_of_beq h2
      rw [this] at z
      simp at z
    · cases z
  · show (if _ then _ else _) = _
    split
    · rename_i z
      obtain ⟨y, hy, e⟩ := List.any_eq_true.mp z
      have := List.all_eq_true.mp hs y hy
      cases y <;> first | (cases this; done) | (cases e; done)
    · split
      · rename_i z
        exfalso
        rw [Bool.or_eq_true] at z
        have h3 := eq_of_beq h3
        have h4 := eq_of_beq h4
        rw [← hN] at h3 h4
        rcases z with z | z
        · exact (bne_iff_ne.mp z) h3
        · exact (bne_iff_ne.mp z) h4
      · show (if _ then _ else _) = _
        split
        · rename_i z
          rw [h5] at z
          cases z
        · show (if _ then _ else _) = _
          split
          · rename_i z
            rw [h6] at z
            cases z
          · rw [← hN]
            rfl
theorem par_t2 {i j : Nat} {es : Es} {D : Ends} {σ : L2.St} {H : Hp} (h : tS W c (exS c (.par [i, j] es)) D σ H) : tPar i j (tIs W c es) D σ H := by
  obtain ⟨s, o, env', h', e, to⟩ := h
  unfold exS at e
  split at e
  · rename_i ds h1 e1
    split at e
    · rename_i hz
      obtain ⟨env2, e2, e3⟩ := Option.map_eq_some_iff.mp e
      cases e3
      refine ⟨s, ds, h', e1, fun ρ1 vs H1 x1 R1 r1 => ?_⟩
      match ds, e2, r1 with
      | [d1, d2], e2, r1 =>
        obtain ⟨v1, v2, rfl, q1, q2⟩ := two_of r1
        refine ⟨v1, v2, rfl, ?_⟩
        simp only [setsD, Option.some.injEq] at e2
        subst e2
        exact to ρ1 H1 x1 R1 _ (((s.re.mono x1).set (hz.2 i (by simp)) q1).set (hz.2 j (by simp)) q2)
      | [], e2, _ => cases e2
      | [_], e2, _ => cases e2
      | _ :: _ :: _ :: _, e2, _ => cases e2
    · cases e
  · cases e
theorem three_of {ρ hid : List Addr} {H : Hp} {d e f : D} {vs : List V} (r : RelDs W ρ hid H [d, e, f] vs) : ∃ u v w, vs = [u, v, w] ∧ RelD W ρ hid H d u ∧ RelD W ρ hid H e v ∧ RelD W ρ hid H f w := by
  obtain ⟨u, r1, rfl, q1, r⟩ := r
  obtain ⟨v, w, rfl, q2, q3⟩ := two_of r
  exact ⟨u, v, w, rfl, q1, q2, q3⟩
theorem par_t3 {i j l : Nat} {es : Es} {D : Ends} {σ : L2.St} {H : Hp} (h : tS W c (exS c (.par [i, j, l] es)) D σ H) : tPar3 i j l (tIs W c es) D σ H := by
  obtain ⟨s, o, env', h', e, to⟩ := h
  unfold exS at e
  split at e
  · rename_i ds h1 e1
    split at e
    · rename_i hz
      obtain ⟨env2, e2, e3⟩ := Option.map_eq_some_iff.mp e
      cases e3
      refine ⟨s, ds, h', e1, fun ρ1 vs H1 x1 R1 r1 => ?_⟩
      match ds, e2, r1 with
      | [d1, d2, d3], e2, r1 =>
        obtain ⟨v1, v2, v3, rfl, q1, q2, q3⟩ := three_of r1
        refine ⟨v1, v2, v3, rfl, ?_⟩
        simp only [setsD, Option.some.injEq] at e2
        subst e2
        exact to ρ1 H1 x1 R1 _ ((((s.re.mono x1).set (hz.2 i (by simp)) q1).set (hz.2 j (by simp)) q2).set (hz.2 l (by simp)) q3)
      | [], e2, _ => cases e2
      | [_], e2, _ => cases e2
      | [_, _], e2, _ => cases e2
      | _ :: _ :: _ :: _ :: _, e2, _ => cases e2
    · cases e
  · cases e
theorem z_par2 (o : Okx X W N G np c sc) {i j : Nat} {x y : Str} {a b : Expr} {es : Es} {px py pt p : Pos} {kt k2 pt2} (hi : N[i]? = some x) (hj : N[j]? = some y) (hij : i ≠ j) (hx : sc.names.lookup x = some .local) (hy : sc.names.lookup y = some .local)
    (ha : PA X [a, b] (tIs W c es)) (hs : [a, b].all notStar = true) (hw : swSome sc [.Name x px, .Name y py] [a, b] = true) (hn : swNames sc [.Name x px, .Name y py] = [x, y]) :
    PS X (.Assign [.Tuple [.Name x px, .Name y py] kt pt] (.Tuple [a, b] k2 pt2) p) (tS W c (exS c (.par [i, j] es))) :=
  (ps_par o.calm (by rw [o.N_]; exact o.nd) (by rw [o.N_]; exact hi) (by rw [o.N_]; exact hj) hij (by rw [o.sc_]; exact hx) (by rw [o.sc_]; exact hy) ha (by rw [sw_some o.sc_ o.kind hw hs, hn])).imp fun _ _ _ h => par_t2 h
theorem z_par3 (o : Okx X W N G np c sc) {i j l : Nat} {x y z : Str} {a b f : Expr} {es : Es} {px py pz pt p : Pos} {kt k2 pt2} (hi : N[i]? = some x) (hj : N[j]? = some y) (hl : N[l]? = some z) (hij : i ≠ j) (hil : i ≠ l) (hjl : j ≠ l)
    (hx : sc.names.lookup x = some .local) (hy : sc.names.lookup y = some .local) (hz : sc.names.lookup z = some .local)
    (ha : PA X [a, b, f] (tIs W c es)) (hs : [a, b, f].all notStar = true) (hw : swSome sc [.Name x px, .Name y py, .Name z pz] [a, b, f] = true) (hn : swNames sc [.Name x px, .Name y py, .Name z pz] = [x, y, z]) :
    PS X (.Assign [.Tuple [.Name x px, .Name y py, .Name z pz] kt pt] (.Tuple [a, b, f] k2 pt2) p) (tS W c (exS c (.par [i, j, l] es))) :=
  (ps_par3 o.calm (by rw [o.N_]; exact o.nd) (by rw [o.N_]; exact hi) (by rw [o.N_]; exact hj) (by rw [o.N_]; exact hl) hij hil hjl (by rw [o.sc_]; exact hx) (by rw [o.sc_]; exact hy) (by rw [o.sc_]; exact hz) ha (by rw [sw_some o.sc_ o.kind hw hs, hn])).imp fun _ _ _ h => par_t3 h
/-- x op= e, ints -/
theorem augI_ok (op : Bop) : PIp X op.py (fun x y H Q => ∃ i j k, x = .int i ∧ y = .int j ∧ augI op i j = some k ∧ Q (.int k) H) := by
  intro pins s σ H x y v u Q I rx ry h
  obtain ⟨i, j, k, rfl, rfl, e, q⟩ := h
  cases op with
  | add => cases e; exact iop_add pins s σ H _ _ v u Q I rx ry ⟨i, j, rfl, rfl, q⟩
  | sub => cases e; exact iop_sub pins s σ H _ _ v u Q I rx ry ⟨i, j, rfl, rfl, q⟩
  | mul =>
    simp only [augI] at e
    split at e
    · rename_i hz
      cases e
      exact iop_mul pins s σ H _ _ v u Q I rx ry ⟨i, j, rfl, rfl, hz, q⟩
    · cases e
  | fdiv =>
    simp only [augI] at e
    split at e
    · rename_i hz
      cases e
      exact iop_fdiv pins s σ H _ _ v u Q I rx ry ⟨i, j, rfl, rfl, hz, q⟩
    · cases e
  | mod => cases e
  | pow => cases e
theorem z_aug (o : Okx X W N G np c sc) {i : Nat} {x : Str} {e : Expr} {a : E} {op : Bop} {p p2 : Pos} (hi : N[i]? = some x) (hx : Loc X.env.scope x) (hf : X.fn x = true ∨ X.env.scope.names.lookup x = some .local) (ha : PE X e (tI W c a)) :
    PS X (.AugAssign (.Name x p2) op.py e p) (tS W c (exS c (.aug i op a))) := by
  refine (ps_aug (by rw [o.N_]; exact o.nd) (by rw [o.N_]; exact hi) hx ha (augI_ok op) hf).imp ?_
  rintro D σ H ⟨s, o, env', h', e, to⟩
  unfold exS at e
  split at e
  · rename_i z e1
    split at e
    · rename_i y h1 e2
      split at e
      · cases e
      · rename_i hl
        obtain ⟨k, e3, e4⟩ := Option.map_eq_some_iff.mp e
        cases e4
        obtain ⟨v, e5, rv⟩ := s.re.at_ i _ e1
        cases rv
        refine ⟨_, e5, s, _, h', e2, fun ρ1 w H1 x1 R1 r1 => ?_⟩
        cases r1
        exact ⟨z, y, k, rfl, rfl, e3, to ρ1 H1 x1 R1 _ ((s.re.mono x1).set hl rfl)⟩
    · cases e
  · cases e
theorem set_n {i : Nat} {a : E} {D : Ends} {σ : L2.St} {H : Hp} (h : tS W c (exS c (.set (.name i) a)) D σ H) : tAsg (tI W c a) (gName i) D σ H := by
  obtain ⟨s, o, env', h', e, to⟩ := h
  unfold exS at e
  split at e
  · rename_i d h1 e1
    split at e
    · rename_i env2 h2 e2
      cases e
      unfold asgT at e2
      split at e2
      · cases e2
      · rename_i hl
        cases e2
        refine ⟨s, d, _, e1, fun ρ1 v H1 x1 R1 r1 => ?_⟩
        exact to ρ1 H1 x1 R1 _ ((s.re.mono x1).set hl r1)
    · cases e
  · cases e
/-- name = [..] on one line -/
theorem z_setLc (o : Okx X W N G np c sc) {i : Nat} {y : Str} {py pos spos : Pos} {elt tg iter : Expr} {ifs : List Expr} {scope : Scope} {own : List Nat} {m : Bool} {e : E} {g : Tg} {it : Wi} {cond : Eo} (hy : N[i]? = some y) (hyl : sc.names.lookup y = some .local)
    (hl : (py.line == pos.line) = true) (hsa : (scope.names.any fun (n, k) => n == y && (k == .local || k == .cell)) = false)
    (hown : (ownP N own).map (·.2) = own) (hs : ∀ j ∈ g.slots, j ∈ own) (hi : PI X tg iter (tIt W c it)) (ok : BlkOk N sc scope (ownP N own))
    (hg : ∀ (s : Shared) (H : Hp) (C : Addr) (cl : List (Str × Addr)) (fp : List Addr), PG (X.blk s H scope (compEnvC scope cl C X.env) fp) tg (tGi W c g)) (ht : ∀ (s : Shared) (H : Hp) (C : Addr) (cl : List (Str × Addr)) (fp : List Addr), PTs (X.blk s H scope (compEnvC scope cl C X.env) fp) ifs (tPt W c cond))
    (he : ∀ (s : Shared) (H : Hp) (C : Addr) (cl : List (Str × Addr)) (fp : List Addr), PE (X.blk s H scope (compEnvC scope cl C X.env) fp) elt (tI W c e)) (hf : ∀ x, foldedSetIterable iter X.env x = pure x) :
    PS X (.Assign [.Name y py] (.ListComp elt [⟨tg, iter, ifs, 0⟩] scope pos) spos) (tS W c (exS c (.set (.name i) (.lc m e g it cond own)))) := by
  have hyl' : X.env.scope.names.lookup y = some .local := by rw [o.sc_]; exact hyl
  have hsw := sw_true (elt := elt) (gs := [⟨tg, iter, ifs, 0⟩]) (l := spos.line) (by rw [o.sc_]; exact o.kind) hyl' hl hsa
  have q := ps_setLc (own := ownP N own) o.calm (by rw [o.N_]; exact o.nd) (by rw [o.N_]; exact hy) hyl' hsw hi (by rw [o.N_, o.sc_]; exact ok) hg ht he hf
  rw [hown] at q
  exact q.imp fun D σ H h => lc_t hs (set_n h)

/-! ### loops -/
structure FrI (W : Wd) (c : Cfg) (bs : List Nat) (hid : List Addr) (ρ1 : List Addr) (H1 : Hp) (r : Option (Nat × Ob)) (g : D → Env → Store → Option (Env × Store)) (body : Env → Store → Res) (St : List Addr → List Addr → Hp → Prop) (ds : List D) (res : Out × Env × Store)
    (i m : Nat) (σ : L2.St) (H : Hp) : Prop where
  me : m = ds.length - i
  le : i ≤ ds.length
  ex : ∃ (ρ : List Addr) (env : Env) (h : Store), Ext ρ1 hid H1 ρ H ∧ Rl W bs ρ hid h H ∧ St ρ hid H ∧ RelEnv W c.lk ρ hid H env σ ∧ frL r g body (ds.drop i) env h = some res
theorem z_for (o : Okx X W N G np c sc) (hp : PassesOwn (model X.prog X.w) X.A X.env X.xe) {tg iter : Expr} {ss : List Stmt} {g : Tg} {it : Wi} {body : List S} {p : Pos} (hi : PI X tg iter (tIt W c it)) (hg : PG X tg (tGi W c g)) (hb : PSs X ss (tS W c (exSs c body)))
    (hf : ∀ x, foldedSetIterable iter X.env x = pure x) : PS X (.For tg iter ss [] p) (tS W c (exS c (.fr g it body))) := by
  refine (ps_for hp o.calm hi hg hb hf).imp ?_
  rintro D σ H ⟨s, o, env', h', e, to⟩
  unfold exS at e
  split at e
  · rename_i ds r h1 e1
    refine ⟨s, ds, r, h1, e1, fun ρ1 H1 J St x1 R1 st wk => ?_⟩
    refine ⟨FrI W c s.bs s.hid ρ1 H1 r (fun d env h => asgT c g d env h) (fun env h => exSs c body env h) St ds (o, env', h'), ⟨ds.length, by omega, Nat.zero_le _, ρ1, s.env, h1, .refl, R1, st, s.re.mono x1, e⟩, ?_⟩
    rintro i k σ2 H2 ⟨rfl, hle, ρ2, env2, h2, x2, R2, st2, re2, e2⟩
    by_cases hlt : i < ds.length
    · refine .inr ?_
      rw [show ds.drop i = ds[i] :: ds.drop (i + 1) from (List.getElem_cons_drop hlt).symm] at e2
      unfold frL at e2
      split at e2
      · rename_i hlive
        obtain ⟨j1, j2⟩ := wk.go R2 hlive st2 (d := ds[i]) (i := i) (by simp [hlt])
        split at e2
        · rename_i e3 h3 q3
          refine ⟨j1, fun σ' H' => ∃ k', k' < ds.length - i ∧ FrI W c s.bs s.hid ρ1 H1 r (fun d env h => asgT c g d env h) (fun env h => exSs c body env h) St ds (o, env', h') (i + 1) k' σ' H', fun σ' H' h => h, fun x H' hy => ?_⟩
          obtain ⟨x3, R3, rd⟩ := j2 x H' hy
          refine ⟨⟨s.bs, ρ2, s.hid, h2, env2, R3, s.hb, re2.mono x3⟩, ds[i], e3, h3, rd, q3, fun ρ4 H4 σ4 x4 R4 re4 _ => ?_⟩
          have stp : ∀ {ρ5 : List Addr} {H5 : Hp}, Ext ρ4 s.hid H4 ρ5 H5 → St ρ5 s.hid H5 := fun {ρ5 H5} x5 => wk.mv (wk.mv (wk.mv st2 x3.mv x3.frz) x4.mv x4.frz) x5.mv x5.frz
          have xx : Ext ρ1 s.hid H1 ρ4 H4 := (x2.trans x3).trans x4
          split at e2
          · rename_i e5 h5 q5
            refine ⟨⟨s.bs, ρ4, s.hid, h3, e3, R4, s.hb, re4⟩, .nx, e5, h5, q5, fun ρ5 H5 x5 R5 σ5 re5 => ?_⟩
            exact ⟨ds.length - (i + 1), by omega, rfl, hlt, ρ5, e5, h5, xx.trans x5, R5, stp x5, re5, e2⟩
          · rename_i e5 h5 q5
            refine ⟨⟨s.bs, ρ4, s.hid, h3, e3, R4, s.hb, re4⟩, .ct, e5, h5, q5, fun ρ5 H5 x5 R5 σ5 re5 => ?_⟩
            exact ⟨ds.length - (i + 1), by omega, rfl, hlt, ρ5, e5, h5, xx.trans x5, R5, stp x5, re5, e2⟩
          · rename_i e5 h5 q5
            cases e2
            refine ⟨⟨s.bs, ρ4, s.hid, h3, e3, R4, s.hb, re4⟩, .brk, _, _, q5, fun ρ5 H5 x5 R5 σ5 re5 => ?_⟩
            exact to ρ5 H5 ((x1.trans xx).trans x5) R5 σ5 re5
          · rename_i d5 e5 h5 q5
            cases e2
            refine ⟨⟨s.bs, ρ4, s.hid, h3, e3, R4, s.hb, re4⟩, .ret d5, _, _, q5, fun ρ5 H5 x5 R5 v r5 => ?_⟩
            exact to ρ5 H5 ((x1.trans xx).trans x5) R5 v r5
          · cases e2
        · cases e2
      · cases e2
    · refine .inl ?_
      have hi2 : i = ds.length := by omega
      subst hi2
      rw [List.drop_length] at e2
      unfold frL at e2
      split at e2
      · rename_i hlive
        cases e2
        exact ⟨wk.stop R2 hlive st2 (Nat.le_refl _), to ρ2 H2 (x1.trans x2) R2 σ2 re2⟩
      · cases e2
  · cases e
structure WhI (W : Wd) (c : Cfg) (bs : List Nat) (hid : List Addr) (ρ1 : List Addr) (H1 : Hp) (cond : Env → Store → Option (Bool × Store)) (body : Env → Store → Res) (res : Out × Env × Store) (m : Nat) (σ : L2.St) (H : Hp) : Prop where
  ex : ∃ (ρ : List Addr) (env : Env) (h : Store), Ext ρ1 hid H1 ρ H ∧ Rl W bs ρ hid h H ∧ RelEnv W c.lk ρ hid H env σ ∧ whF cond body m env h = some res
theorem z_while (hp : PassesOwn (model X.prog X.w) X.A X.env X.xe) {x : Expr} {a : E} {ss : List Stmt} {body : List S} {p : Pos} (ha : PT X x (tIb W c a)) (hb : PSs X ss (tS W c (exSs c body))) : PS X (.While x ss [] p) (tS W c (exS c (.wh a body))) := by
  refine (ps_while hp ha hb).imp ?_
  rintro D σ H ⟨s, o, env', h', e, to⟩
  unfold exS at e
  generalize hc : (fun (env : Env) (h : Store) => match evE c a env h with
    | some (.bl k, h1) => some (k, h1)
    | _ => none) = cond at e
  obtain ⟨n, e⟩ := of_whD e
  refine ⟨WhI W c s.bs s.hid s.ρ H cond (fun env h => exSs c body env h) (o, env', h'), ⟨n, s.ρ, s.env, s.h, .refl, s.R, s.re, e⟩, ?_⟩
  rintro m σ1 H1 ⟨ρ1, env1, h1, x1, R1, re1, e1⟩
  cases m with
  | zero => cases e1
  | succ m =>
    unfold whF at e1
    have key : ∀ {k : Bool} {h2 : Store}, cond env1 h1 = some (k, h2) → evE c a env1 h1 = some (.bl k, h2) := fun {k h2} q => by
      rw [← hc] at q
      simp only at q
      split at q
      · rename_i k' h3 q2
        cases q
        exact q2
      · cases q
    split at e1
    · rename_i h2 q2
      refine ⟨⟨s.bs, ρ1, s.hid, h1, env1, R1, s.hb, re1⟩, true, h2, key q2, fun ρ2 H2 x2 R2 => ?_⟩
      show ite (true = true) _ _
      rw [if_pos rfl]
      refine ⟨fun σ' H' => ∃ m', m' < m + 1 ∧ WhI W c s.bs s.hid s.ρ H cond (fun env h => exSs c body env h) (o, env', h') m' σ' H', fun _ _ h => h, ?_⟩
      have re2 := re1.mono x2
      split at e1
      · rename_i e3 h3 q3
        refine ⟨⟨s.bs, ρ2, s.hid, h2, env1, R2, s.hb, re2⟩, .nx, e3, h3, q3, fun ρ3 H3 x3 R3 σ3 re3 => ?_⟩
        exact ⟨m, by omega, ρ3, e3, h3, (x1.trans x2).trans x3, R3, re3, e1⟩
      · rename_i e3 h3 q3
        refine ⟨⟨s.bs, ρ2, s.hid, h2, env1, R2, s.hb, re2⟩, .ct, e3, h3, q3, fun ρ3 H3 x3 R3 σ3 re3 => ?_⟩
        exact ⟨m, by omega, ρ3, e3, h3, (x1.trans x2).trans x3, R3, re3, e1⟩
      · rename_i e3 h3 q3
        cases e1
        refine ⟨⟨s.bs, ρ2, s.hid, h2, env1, R2, s.hb, re2⟩, .brk, _, _, q3, fun ρ3 H3 x3 R3 σ3 re3 => ?_⟩
        exact to ρ3 H3 ((x1.trans x2).trans x3) R3 σ3 re3
      · rename_i d3 e3 h3 q3
        cases e1
        refine ⟨⟨s.bs, ρ2, s.hid, h2, env1, R2, s.hb, re2⟩, .ret d3, _, _, q3, fun ρ3 H3 x3 R3 v r3 => ?_⟩
        exact to ρ3 H3 ((x1.trans x2).trans x3) R3 v r3
      · cases e1
    · rename_i h2 q2
      cases e1
      refine ⟨⟨s.bs, ρ1, s.hid, h1, _, R1, s.hb, re1⟩, false, _, key q2, fun ρ2 H2 x2 R2 => ?_⟩
      show ite (false = true) _ _
      rw [if_neg Bool.false_ne_true]
      exact to ρ2 H2 (x1.trans x2) R2 σ1 (re1.mono x2)
    · cases e1
/-! ### a dict is locked while it is walked -/
/-- what is not ours is read as before (a dict's lock may be put on or off) -/
structure SMv (ρ hid : List Addr) (H : Hp) (H' : Hp) : Prop where
  rd : ∀ a u, (∀ o w, u ≠ .frz o w) → Rd H a u → ¬ own ρ hid a → Rd H' a u
  lst : ∀ a vs, H a = some (.lst vs) → ¬ own ρ hid a → H' a = some (.lst vs)
  tup : ∀ a o vs, H a = some (.frz o (.tup vs)) → H' a = some (.frz o (.tup vs))
mutual
theorem RelD.sm {ρ hid : List Addr} {H H' : Hp} (x : SMv ρ hid H H') : ∀ {d : D} {v : V}, RelD W ρ hid H d v → RelD W ρ hid H' d v
  | .non, _, h => h
  | .bl _, _, h => h
  | .int _, _, h => h
  | .str _, _, h => h
  | .tup ds, _, h => by
    obtain ⟨a, vs, e, r, q⟩ := h
    obtain ⟨o, r, d, n⟩ := r
    exact ⟨a, vs, e, ⟨o, x.tup _ _ _ r, d, n⟩, RelDs.sm x q⟩
  | .lst ds, _, h => by
    obtain ⟨a, vs, e, r, n, q⟩ := h
    exact ⟨a, vs, e, x.lst _ _ r n, n, RelDs.sm x q⟩
  | .lck ds, _, h => by
    obtain ⟨a, vs, e, r, q⟩ := h
    refine ⟨a, vs, e, ?_, RelDs.sm x q⟩
    rcases r with ⟨r, n⟩ | r
    · exact .inl ⟨x.rd _ _ (fun _ _ z => nomatch z) r n, n⟩
    · exact .inr r
  | .dct ks ds, _, h => by
    obtain ⟨a, vs, e, r, n, k, q⟩ := h
    exact ⟨a, vs, e, x.rd _ _ (fun _ _ z => nomatch z) r n, n, k, RelDs.sm x q⟩
  | .ref n, _, h => h
  | .fn f, _, h => h
theorem RelDs.sm {ρ hid : List Addr} {H H' : Hp} (x : SMv ρ hid H H') : ∀ {ds : List D} {vs : List V}, RelDs W ρ hid H ds vs → RelDs W ρ hid H' ds vs
  | [], _, h => h
  | d :: ds, _, h => by
    obtain ⟨v, r, e, q1, q2⟩ := h
    exact ⟨v, r, e, RelD.sm x q1, RelDs.sm x q2⟩
end
theorem ObR.sm {ρ hid : List Addr} {H H' : Hp} (x : SMv ρ hid H H') {a : Addr} {o : Ob} (q : ObR W ρ hid H a o) (e : H' a = H a) : ObR W ρ hid H' a o := by
  cases o with
  | lst ds =>
    obtain ⟨vs, e1, r⟩ := q
    exact ⟨vs, e.trans e1, r.sm x⟩
  | dct kvs =>
    obtain ⟨vs, e1, k, r⟩ := q
    exact ⟨vs, e.trans e1, k, r.sm x⟩
  | lkd kvs =>
    obtain ⟨o, vs, e1, k, r⟩ := q
    exact ⟨o, vs, e.trans e1, k, r.sm x⟩
  | ins c fs =>
    obtain ⟨dx, vs, e1, k, r⟩ := q
    exact ⟨dx, vs, e.trans e1, k, r.sm x⟩
theorem Rl.sm {bs : List Nat} {ρ hid : List Addr} {h : Store} {H : Hp} (R : Rl W bs ρ hid h H) {a : Addr} {u : HO} (na : ¬ own ρ hid a) (x : SMv ρ hid H (upd H a u)) : Rl W bs ρ hid h (upd H a u) := by
  refine ⟨R.len, R.nd, fun b hb => ⟨(R.ap b hb).1, ?_⟩, fun n o b e1 e2 => ?_, R.hb, R.low⟩
  · obtain ⟨w, e⟩ := (R.ap b hb).2
    exact ⟨w, by rw [upd_ne (show b ≠ a from fun z => na (.inr (by rw [← z]; exact hb)))]; exact e⟩
  · exact (R.ob n o b e1 e2).sm x (upd_ne (show b ≠ a from fun z => na (.inl (by rw [← z]; exact List.mem_of_getElem? e2))))
theorem smv_lock {ρ hid : List Addr} {H : Hp} {a : Addr} {kvs : List (L2.Key × V)} (h : H a = some (.dK kvs)) (od : Obj) : SMv ρ hid H (upd H a (.frz od (.dK kvs))) := by
  refine ⟨fun b u hu hb n => ?_, fun b vs hb n => ?_, fun b o vs hb => by rw [upd_ne (fun z => by rw [z, h] at hb; cases hb)]; exact hb⟩
  · by_cases z : b = a
    · subst z
      rcases hb with hb | ⟨o, hb⟩
      · rw [h] at hb
        cases hb
        exact .inr ⟨od, upd_same⟩
      · rw [h] at hb
        cases hb
    · rcases hb with hb | ⟨o, hb⟩
      · exact .inl (by rw [upd_ne z]; exact hb)
      · exact .inr ⟨o, by rw [upd_ne z]; exact hb⟩
  · rw [upd_ne (fun z => by rw [z, h] at hb; cases hb)]
    exact hb
theorem smv_open {ρ hid : List Addr} {H : Hp} {a : Addr} {kvs : List (L2.Key × V)} {od : Obj} (h : H a = some (.frz od (.dK kvs))) : SMv ρ hid H (upd H a (.dK kvs)) := by
  refine ⟨fun b u hu hb n => ?_, fun b vs hb n => ?_, fun b o vs hb => by rw [upd_ne (fun z => by rw [z, h] at hb; cases hb)]; exact hb⟩
  · by_cases z : b = a
    · subst z
      rcases hb with hb | ⟨o, hb⟩
      · rw [h] at hb
        cases hb
        exact (hu _ _ rfl).elim
      · rw [h] at hb
        cases hb
        exact .inl upd_same
    · rcases hb with hb | ⟨o, hb⟩
      · exact .inl (by rw [upd_ne z]; exact hb)
      · exact .inr ⟨o, by rw [upd_ne z]; exact hb⟩
  · rw [upd_ne (fun z => by rw [z, h] at hb; cases hb)]
    exact hb
theorem RelEnv.sm {ρ hid : List Addr} {H H' : Hp} {lk : List Nat} {env : Env} {σ : L2.St} (r : RelEnv W lk ρ hid H env σ) (x : SMv ρ hid H H') : RelEnv W [] ρ hid H' env σ :=
  ⟨r.len, fun i d e => let ⟨v, e1, q⟩ := r.at_ i d e; ⟨v, e1, q.sm x⟩, fun i hi => absurd hi (by simp)⟩
theorem RelEnv.free {ρ hid : List Addr} {H : Hp} {lk : List Nat} {env : Env} {σ : L2.St} (r : RelEnv W lk ρ hid H env σ) : RelEnv W [] ρ hid H env σ :=
  ⟨r.len, r.at_, fun i hi => absurd hi (by simp)⟩
theorem endP.map {c c' : Cfg} (hc : c.lk = []) {D D' : Ends} {ρ ρ' hid : List Addr} {H H' : Hp} {o : Out} {env : Env} (h : endP W c D ρ' hid H' o env)
    (hr : ∀ σ, RelEnv W c'.lk ρ hid H env σ → RelEnv W [] ρ' hid H' env σ) (hv : ∀ d v, RelD W ρ hid H d v → RelD W ρ' hid H' d v)
    (h1 : ∀ σ, D.nx σ H' → D'.nx σ H) (h2 : ∀ σ, D.ct σ H' → D'.ct σ H) (h3 : ∀ σ, D.bk σ H' → D'.bk σ H) (h4 : ∀ v, D.rt v H' → D'.rt v H) : endP W c' D' ρ hid H o env := by
  cases o with
  | nx => exact fun σ r => h1 σ (h σ (by rw [hc]; exact hr σ r))
  | ct => exact fun σ r => h2 σ (h σ (by rw [hc]; exact hr σ r))
  | brk => exact fun σ r => h3 σ (h σ (by rw [hc]; exact hr σ r))
  | ret d => exact fun v r => h4 v (h v (hv d v r))
theorem ps_or {st : Stmt} {t u : TS} (h1 : PS X st t) (h2 : PS X st u) : PS X st (fun D σ H => t D σ H ∨ u D σ H) :=
  ⟨fun pins s σ H D I h => h.elim (h1.run pins s σ H D I) (h2.run pins s σ H D I)⟩
theorem z_lock {st : Stmt} {i : Nat} {a : S} (h : PS X st (tS W { c with lk := [i] } (exS { c with lk := [i] } a))) : PS X st (tS W c (exS c (.lock i a))) := by
  refine (ps_or h (ps_lock h)).imp ?_
  rintro D σ H ⟨s, o, env', h', e, to⟩
  unfold exS at e
  split at e
  · rename_i d e1
    split at e
    · cases e
    · rename_i hlk
      have hlk : c.lk = [] := by simpa using hlk
      split at e
      · rename_i h1 e2
        split at e
        · rename_i o2 env2 h2 e3
          obtain ⟨h3, e4, e5⟩ := Option.map_eq_some_iff.mp e
          cases e5
          obtain ⟨v, ev, rv⟩ := s.re.at_ i d e1
          cases d with
          | dct ks ds =>
            cases e2
            cases e4
            obtain ⟨b, kvs, rfl, rb, nb, kb, qb⟩ := rv
            rcases rb with rb | ⟨od, rb⟩
            · -- it is not locked yet
              refine .inr ⟨b, .dK kvs, rb, True.intro, fun od => ?_⟩
              have x := smv_lock (ρ := s.ρ) (hid := s.hid) rb od
              have hbh : b ∉ s.hid := fun z => nb (.inr z)
              refine ⟨⟨s.bs, s.ρ, s.hid, s.h, s.env, s.R.sm nb x, s.hb, ⟨s.re.len, fun j d' e' => ?_, fun j hj ks' ds' e' => ?_⟩⟩, o, env', h', e3, fun ρ1 H1 x1 R1 => ?_⟩
              · obtain ⟨v', e6, q⟩ := s.re.at_ j d' e'
                exact ⟨v', e6, q.sm x⟩
              · have hj : j = i := by simpa using hj
                subst hj
                exact ⟨b, od, kvs, ev, upd_same, nb⟩
              · obtain ⟨f1, n1⟩ := x1.keep b _ upd_same nb
                have y := smv_open (ρ := ρ1) (hid := s.hid) f1
                have x9 : Ext s.ρ s.hid H ρ1 (upd H1 b (.dK kvs)) := by
                  refine ⟨x1.pre, fun z oz ez nz => ?_, fun z oz uz ez => ?_, fun z hz oz ez => ?_⟩
                  · by_cases zb : z = b
                    · subst zb
                      rw [rb] at ez
                      cases ez
                      exact ⟨upd_same, n1⟩
                    · obtain ⟨g1, g2⟩ := x1.keep z oz (by rw [upd_ne zb]; exact ez) nz
                      exact ⟨by rw [upd_ne zb]; exact g1, g2⟩
                  · have zb : z ≠ b := fun q => by
                      rw [q, rb] at ez
                      cases ez
                    rw [upd_ne zb]
                    exact x1.frz _ _ _ (by rw [upd_ne zb]; exact ez)
                  · have zb : z ≠ b := fun q => hbh (by rw [← q]; exact hz)
                    rw [upd_ne zb]
                    exact x1.hk _ hz _ (by rw [upd_ne zb]; exact ez)
                exact (to ρ1 _ x9 (R1.sm n1 y)).map hlk (fun σ r => r.sm y) (fun d v r => r.sm y) (fun σ q => ⟨f1, q⟩) (fun σ q => ⟨f1, q⟩) (fun σ q => ⟨f1, q⟩) (fun v q => ⟨f1, q⟩)
            · -- it is
              refine .inl ⟨⟨s.bs, s.ρ, s.hid, s.h, s.env, s.R, s.hb, ⟨s.re.len, s.re.at_, fun j hj ks' ds' e' => ?_⟩⟩, o, env', h', e3, fun ρ1 H1 x1 R1 => ?_⟩
              · have hj : j = i := by simpa using hj
                subst hj
                exact ⟨b, od, kvs, ev, rb, nb⟩
              · exact (to ρ1 H1 x1 R1).map hlk (fun σ r => r.free) (fun d v r => r) (fun σ q => q) (fun σ q => q) (fun σ q => q) (fun v q => q)
          | ref n =>
            obtain ⟨b, hb, rfl⟩ := rv
            simp only [lckO] at e2
            split at e2
            · rename_i kvs hn
              cases e2
              obtain ⟨kws, rb, kb, qb⟩ := s.R.ob n _ b hn hb
              have bin : b ∈ s.ρ := List.mem_of_getElem? hb
              have hbh : b ∉ s.hid := fun z => (s.R.ap b z).1 bin
              refine .inr ⟨b, .dK kws, rb, True.intro, fun od => ?_⟩
              have x : Mv s.ρ s.hid H s.ρ s.hid (upd H b (.frz od (.dK kws))) := mv_write hb
              have R1' : Rl W s.bs s.ρ s.hid (s.h.set n (.lkd kvs)) (upd H b (.frz od (.dK kws))) := by
                refine s.R.write hb ⟨od, kws, upd_same, kb, qb.mv x⟩ fun β hβ hnb => ?_
                have := s.R.low β hβ n _ hnb hn
                exact this
              refine ⟨⟨s.bs, s.ρ, s.hid, s.h.set n (.lkd kvs), s.env, R1', s.hb, ⟨s.re.len, fun j d' e' => ?_, fun j hj ks' ds' e' => ?_⟩⟩, o, env', h2, e3, fun ρ1 H1 x1 R1 => ?_⟩
              · obtain ⟨v', e6, q⟩ := s.re.at_ j d' e'
                exact ⟨v', e6, q.mv x⟩
              · have hj : j = i := by simpa using hj
                subst hj
                rw [e1] at e'
                cases e'
              · have f1 : H1 b = some (.frz od (.dK kws)) := x1.frz _ _ _ upd_same
                have hb1 : ρ1[n]? = some b := x1.get hb
                have y : Mv ρ1 s.hid H1 ρ1 s.hid (upd H1 b (.dK kws)) := mv_write hb1
                simp only [unlO] at e4
                split at e4
                · rename_i kvs2 hn2
                  cases e4
                  obtain ⟨od2, kws2, rb2, kb2, qb2⟩ := R1.ob n _ b hn2 hb1
                  rw [f1] at rb2
                  cases rb2
                  have R2 : Rl W s.bs ρ1 s.hid (h2.set n (.dct kvs2)) (upd H1 b (.dK kws)) := by
                    refine R1.write hb1 ⟨kws, upd_same, kb2, qb2.mv y⟩ fun β hβ hnb => ?_
                    have := R1.low β hβ n _ hnb hn2
                    exact this
                  have x9 : Ext s.ρ s.hid H ρ1 (upd H1 b (.dK kws)) := by
                    refine ⟨x1.pre, fun z oz ez nz => ?_, fun z oz uz ez => ?_, fun z hz oz ez => ?_⟩
                    · have zb : z ≠ b := fun q => nz (.inl (by rw [q]; exact bin))
                      obtain ⟨g1, g2⟩ := x1.keep z oz (by rw [upd_ne zb]; exact ez) nz
                      exact ⟨by rw [upd_ne zb]; exact g1, g2⟩
                    · have zb : z ≠ b := fun q => by
                        rw [q, rb] at ez
                        cases ez
                      rw [upd_ne zb]
                      exact x1.frz _ _ _ (by rw [upd_ne zb]; exact ez)
                    · have zb : z ≠ b := fun q => hbh (by rw [← q]; exact hz)
                      rw [upd_ne zb]
                      exact x1.hk _ hz _ (by rw [upd_ne zb]; exact ez)
                  exact (to ρ1 _ x9 R2).map hlk (fun σ r => (r.mv y).free) (fun d v r => r.mv y) (fun σ q => ⟨f1, q⟩) (fun σ q => ⟨f1, q⟩) (fun σ q => ⟨f1, q⟩) (fun v q => ⟨f1, q⟩)
                · cases e4
            · cases e2
          | _ => cases e2
        · cases e
      · cases e
  · cases e
end
end Sw

set_option maxRecDepth 100000
set_option maxHeartbeats 4000000
/-! SwC: the reading of a body is checked. -/
namespace Sw
open PySem PySem.Spec PyProof.Rows L2
def swB (sc : Scope) (y : Str) (py : Pos) (scope : Scope) (pos : Pos) : Bool := decide (sc.names.lookup y = some .local) && (py.line == pos.line) && !(scope.names.any fun (n, k) => n == y && (k == .local || k == .cell))
def parB (N : List Str) (sc : Scope) : List Nat → List Expr → Bool
  | [], [] => true
  | i :: is, .Name y _ :: ts => decide (N[i]? = some y) && decide (sc.names.lookup y = some .local) && parB N sc is ts
  | _, _ => false
def parN : List Expr → List Str
  | .Name y _ :: ts => y :: parN ts
  | _ => []
def nmI : Tg → Option Nat
  | .name i => some i
  | _ => none
mutual
def chkS (N : List Str) (G : Gs) (np : Nat → Nat) (sc : Scope) : S → Stmt → Bool
  | .set g a, st => match st with
    | .Assign [.Name y py] x _ => match x with
      | .ListComp elt gens scope pos => if swB sc y py scope pos = true then (match nmI g with
          | some i => decide (N[i]? = some y) && chkE N G np a sc x
          | none => false) else chkTg N G np g sc sc (.Name y py) && chkE N G np a sc x
      | _ => notLc x && chkTg N G np g sc sc (.Name y py) && chkE N G np a sc x
    | .Assign [.Subscript u v w] x _ => (notLc x || true) && chkTg N G np g sc sc (.Subscript u v w) && chkE N G np a sc x
    | .Assign [.Tuple ts k q] x _ => swNone sc ts x && chkTg N G np g sc sc (.Tuple ts k q) && chkE N G np a sc x
    | _ => false
  | .par is es, st => match st with
    | .Assign [.Tuple ts _ _] (.Tuple vs _ _) _ => decide (is.length = ts.length) && decide (is.Nodup) && parB N sc is ts && swSome sc ts vs && decide (swNames sc ts = parN ts) && chkEs N G np es sc vs
    | _ => false
  | .aug i op a, st => match st with
    | .AugAssign (.Name x _) o e _ => decide (o = op.py) && decide (N[i]? = some x) && locB sc x && chkE N G np a sc e
    | _ => false
  | .expr a, st => match st with
    | .Expr x _ => notLc x && chkE N G np a sc x
    | _ => false
  | .ret a, st => match st with
    | .Return (some x) _ => chkE N G np a sc x
    | _ => false
  | .retN, st => match st with
    | .Return none _ => true
    | _ => false
  | .pass, st => match st with
    | .Pass _ => true
    | .Expr (.Constant (.str _) _ _) _ => true
    | _ => false
  | .cont, st => match st with
    | .Continue _ => true
    | _ => false
  | .ife a b e, st => match st with
    | .If x ys zs _ => notIf x && chkE N G np a sc x && chkSs N G np sc b ys && chkSs N G np sc e zs
    | _ => false
  | .fr g it body, st => match st with
    | .For tg iter ss [] _ => notSet iter && chkIt N G np it sc tg iter && chkTg N G np g sc sc tg && chkSs N G np sc body ss
    | _ => false
  | .wh a body, st => match st with
    | .While x ss [] _ => notIf x && chkE N G np a sc x && chkSs N G np sc body ss
    | _ => false
  | .lock _ s, st => chkS N G np sc s st
  | .stuck, _ => true
  | .fset cl a f b, st => match st with
    | .Assign [.Attribute ox f' _] x _ => decide (f = f') && fldB G cl f && chkE N G np a sc ox && chkE N G np b sc x
    | _ => false
def chkSs (N : List Str) (G : Gs) (np : Nat → Nat) (sc : Scope) : List S → List Stmt → Bool
  | [], sts => match sts with
    | [] => true
    | _ => false
  | s :: r, sts => match sts with
    | st :: rest => chkS N G np sc s st && chkSs N G np sc r rest
    | [] => false
end
section
variable {W : Wd} {N : List Str} {G : Gs} {np : Nat → Nat}
theorem sw_val {y : Str} {py : Pos} {elt : Expr} {gens : List Comprehension} {scope : Scope} {pos : Pos} {l : Nat} {env : PySem.Env} {sc : Scope} (e : env.scope = sc) (h : swB sc y py scope pos = false) : swapsWith (.ListComp elt gens scope pos) (some (.Name y py)) l env = pure false := by
  have hk : (env.kindOf y == some NameKind.local && py.line == pos.line && !(scope.names.any fun (n, k) => n == y && (k == .local || k == .cell))) = false := by
    subst e
    rw [← h]
    unfold swB
    congr 2
    show (env.scope.names.lookup y == some NameKind.local) = _
    by_cases q : env.scope.names.lookup y = some NameKind.local
    · rw [q, decide_eq_true rfl]; rfl
    · rw [decide_eq_false q]
      exact beq_eq_false_iff_ne.mpr q
  unfold swapsWith
  show pure (env.blockKind == ScopeKind.function && env.kindOf y == some NameKind.local && py.line == pos.line && !(scope.names.any fun (n, k) => n == y && (k == .local || k == .cell))) = _
  rw [Bool.and_assoc, Bool.and_assoc, ← Bool.and_assoc (env.kindOf y == some NameKind.local), hk, Bool.and_false]
theorem sw_sub (x : Expr) (u v : Expr) (w : Pos) (l : Nat) (env : PySem.Env) : swapsWith x (some (.Subscript u v w)) l env = pure false := by
  cases x <;> rfl
theorem okt_names {X : Cx} {sc : Scope} {y : Str} (hl : sc.names.lookup y = some .local) : locB sc y = true := by
  unfold locB
  rw [hl]
theorem parB_len {sc : Scope} : ∀ {is : List Nat} {ts : List Expr}, parB N sc is ts = true → ts.all notStar = true
  | [], [], _ => rfl
  | [], _ :: _, h => by cases h
  | i :: is, t :: ts, h => by
    unfold parB at h
    split at h
    · rename_i e1 e2
      cases e1
    · rename_i e1 e2
      cases e1
      cases e2
      rw [List.all_cons, parB_len (ands h).2]
      rfl
    · cases h
  | i :: is, [], h => by cases h
theorem len_three {α : Type} {l : List α} (h : l.length = 3) : ∃ a b c, l = [a, b, c] := by
  match l, h with
  | [a, b, c], _ => exact ⟨a, b, c, rfl⟩
mutual
theorem okS (s : S) : ∀ {c : Cfg} {X : Cx} {sc : Scope} {st : Stmt}, Okx X W N G np c sc → Okt X sc → PassesOwn (model X.prog X.w) X.A X.env X.xe → chkS N G np sc s st = true → PS X st (tS W c (exS c s)) := by
  intro c X sc st o ot hp h
  cases s with
  | set g a =>
    unfold chkS at h
    split at h
    · rename_i y py x p
      split at h
      · rename_i elt gens scope pos
        split at h
        · rename_i hsw
          split at h
          · rename_i i hi
            cases g with
            | name j =>
              cases hi
              obtain ⟨h1, h2⟩ := ands h
              obtain ⟨hsw, hs3⟩ := ands hsw
              obtain ⟨hs1, hs2⟩ := ands hsw
              have hs3 := nots hs3
              cases a with
              | lc m elt' g it cond own =>
                unfold chkE at h2
                split at h2
                · rename_i e
                  cases e
                  obtain ⟨h, h9⟩ := ands h2
                  obtain ⟨h, h8⟩ := ands h
                  obtain ⟨h, h7⟩ := ands h
                  obtain ⟨h, h6⟩ := ands h
                  obtain ⟨h, h5⟩ := ands h
                  obtain ⟨h, h4⟩ := ands h
                  obtain ⟨h, h3⟩ := ands h
                  obtain ⟨h1', hblk⟩ := ands h
                  cases of_decide_eq_true h1'
                  have ok := blkOk_by hblk
                  have hs : ∀ j ∈ g.slots, j ∈ own := fun j hj => List.contains_iff_mem.mp (List.all_eq_true.mp h4 j hj)
                  exact z_setLc o (of_decide_eq_true h1) (of_decide_eq_true hs1) hs2 hs3 (of_decide_eq_true h3) hs (okIt it o h6) ok (fun s H C cl fp => okTg g (okx_blk o ok.kind) okt_blk h7)
                    (fun s H C cl fp => okO1 cond (okx_blk o ok.kind) h8) (fun s H C cl fp => (okE elt' (okx_blk o ok.kind) h9).pe) (fun x => fset_ok h5 _ _)
                · cases h2
              | _ =>
                unfold chkE at h2
                first | (cases h2; done) | (simp at h2; done)
            | _ => cases hi
          · cases h
        · rename_i hsw
          obtain ⟨h1, h2⟩ := ands h
          exact z_set1 (okE a o h2).pe (okTg g o ot h1) rfl (sw_val o.sc_ (by simpa using hsw))
      · obtain ⟨h, h3⟩ := ands h
        obtain ⟨h1, h2⟩ := ands h
        exact z_set1 (okE a o h3).pe (okTg g o ot h2) rfl (sw_lc h1 _ _ _)
    · obtain ⟨h, h3⟩ := ands h
      obtain ⟨h1, h2⟩ := ands h
      exact z_set1 (okE a o h3).pe (okTg g o ot h2) rfl (sw_sub _ _ _ _ _ _)
    · obtain ⟨h, h3⟩ := ands h
      obtain ⟨h1, h2⟩ := ands h
      refine z_setT (okE a o h3).pe (okTg g o ot h2) (sw_none o.sc_ o.kind h1 fun vs k2 p2 e => ?_)
      subst e
      cases a with
      | tup es =>
        unfold chkE at h3
        exact (okEs (W := W) (c := c) es o h3).star
      | _ =>
        unfold chkE at h3
        first | (cases h3; done) | (simp at h3; done)
    · cases h
  | par is es =>
    unfold chkS at h
    split at h
    · rename_i ts k q vs k2 p2 p
      obtain ⟨h, h6⟩ := ands h
      obtain ⟨h, h5⟩ := ands h
      obtain ⟨h, h4⟩ := ands h
      obtain ⟨h, h3⟩ := ands h
      obtain ⟨h1, h2⟩ := ands h
      have h1 := of_decide_eq_true h1
      have h2 := of_decide_eq_true h2
      have h5 := of_decide_eq_true h5
      have q := okEs (W := W) (c := c) es o h6
      have hlen : (ts.length = 2 ∨ ts.length = 3) ∧ vs.length = ts.length := by
        have h4 := h4
        unfold swSome at h4
        obtain ⟨h4, _⟩ := ands h4
        obtain ⟨h4, _⟩ := ands h4
        obtain ⟨h4, _⟩ := ands h4
        obtain ⟨h4, _⟩ := ands h4
        obtain ⟨h4, h7⟩ := ands h4
        refine ⟨?_, eq_of_beq h7⟩
        simpa using h4
      obtain ⟨hl, hv⟩ := hlen
      rcases hl with hl | hl
      · obtain ⟨t1, t2, rfl⟩ := len_two hl
        obtain ⟨v1, v2, rfl⟩ := len_two (hv.trans hl)
        obtain ⟨i, j, rfl⟩ := len_two (h1.trans hl)
        unfold parB at h3
        split at h3
        · rename_i e1 e2; cases e1
        · rename_i e1 e2
          cases e1
          cases e2
          obtain ⟨h3, h3'⟩ := ands h3
          obtain ⟨a1, a2⟩ := ands h3
          unfold parB at h3'
          split at h3'
          · rename_i e1 e2; cases e1
          · rename_i e1 e2
            cases e1
            cases e2
            obtain ⟨h3', _⟩ := ands h3'
            obtain ⟨b1, b2⟩ := ands h3'
            exact z_par2 o (of_decide_eq_true a1) (of_decide_eq_true b1) (by simpa using h2) (of_decide_eq_true a2) (of_decide_eq_true b2) q.pa q.star h4 h5
          · cases h3'
        · cases h3
      · obtain ⟨t1, t2, t3, rfl⟩ := len_three hl
        obtain ⟨v1, v2, v3, rfl⟩ := len_three (hv.trans hl)
        obtain ⟨i, j, l, rfl⟩ := len_three (h1.trans hl)
        unfold parB at h3
        split at h3
        · rename_i e1 e2; cases e1
        · rename_i e1 e2
          cases e1
          cases e2
          obtain ⟨h3, h3'⟩ := ands h3
          obtain ⟨a1, a2⟩ := ands h3
          unfold parB at h3'
          split at h3'
          · rename_i e1 e2; cases e1
          · rename_i e1 e2
            cases e1
            cases e2
            obtain ⟨h3', h3''⟩ := ands h3'
            obtain ⟨b1, b2⟩ := ands h3'
            unfold parB at h3''
            split at h3''
            · rename_i e1 e2; cases e1
            · rename_i e1 e2
              cases e1
              cases e2
              obtain ⟨h3'', _⟩ := ands h3''
              obtain ⟨c1, c2⟩ := ands h3''
              have nd : i ≠ j ∧ i ≠ l ∧ j ≠ l := by
                simp at h2
                exact ⟨h2.1.1, h2.1.2, h2.2⟩
              exact z_par3 o (of_decide_eq_true a1) (of_decide_eq_true b1) (of_decide_eq_true c1) nd.1 nd.2.1 nd.2.2 (of_decide_eq_true a2) (of_decide_eq_true b2) (of_decide_eq_true c2) q.pa q.star h4 h5
            · cases h3''
          · cases h3'
        · cases h3
    · cases h
  | aug i op a =>
    unfold chkS at h
    split at h
    · obtain ⟨h, h4⟩ := ands h
      obtain ⟨h, h3⟩ := ands h
      obtain ⟨h1, h2⟩ := ands h
      cases of_decide_eq_true h1
      obtain ⟨q1, q2⟩ := ot _ h3
      exact z_aug o (of_decide_eq_true h2) q1 q2 (okE a o h4).pe
    · cases h
  | expr a =>
    unfold chkS at h
    split at h
    · obtain ⟨h1, h2⟩ := ands h
      exact z_expr (okE a o h2).pe h1
    · cases h
  | ret a =>
    unfold chkS at h
    split at h
    · exact z_ret (okE a o h).pe
    · cases h
  | retN =>
    unfold chkS at h
    split at h
    · exact z_retN
    · cases h
  | pass =>
    unfold chkS at h
    split at h
    · exact z_pass
    · exact z_doc
    · cases h
  | cont =>
    unfold chkS at h
    split at h
    · exact z_cont
    · cases h
  | ife a b e =>
    unfold chkS at h
    split at h
    · obtain ⟨h, h4⟩ := ands h
      obtain ⟨h, h3⟩ := ands h
      obtain ⟨h1, h2⟩ := ands h
      exact z_if ((okE a o h2).pt h1) (okSs b o ot hp h3) (okSs e o ot hp h4)
    · cases h
  | fr g it body =>
    unfold chkS at h
    split at h
    · obtain ⟨h, h4⟩ := ands h
      obtain ⟨h, h3⟩ := ands h
      obtain ⟨h1, h2⟩ := ands h
      exact z_for o hp (okIt it o h2) (okTg g o ot h3) (okSs body o ot hp h4) (fun x => fset_ok h1 _ _)
    · cases h
  | wh a body =>
    unfold chkS at h
    split at h
    · obtain ⟨h, h3⟩ := ands h
      obtain ⟨h1, h2⟩ := ands h
      exact z_while hp ((okE a o h2).pt h1) (okSs body o ot hp h3)
    · cases h
  | lock i s =>
    unfold chkS at h
    exact z_lock (okS s ⟨o.N_, o.nd, o.sc_, o.kind, o.calm, o.hu, o.m⟩ ot hp h)
  | stuck => exact z_never
  | fset cl a f b =>
    unfold chkS at h
    split at h
    · obtain ⟨h, h4⟩ := ands h
      obtain ⟨h, h3⟩ := ands h
      obtain ⟨h1, h2⟩ := ands h
      cases of_decide_eq_true h1
      obtain ⟨C, c1, c2⟩ := fldB_ok h2
      exact z_fset o c1 c2 (okE a o h3).pe (okE b o h4).pe
    · cases h
theorem okSs (ss : List S) : ∀ {c : Cfg} {X : Cx} {sc : Scope} {sts : List Stmt}, Okx X W N G np c sc → Okt X sc → PassesOwn (model X.prog X.w) X.A X.env X.xe → chkSs N G np sc ss sts = true → PSs X sts (tS W c (exSs c ss)) := by
  intro c X sc sts o ot hp h
  cases ss with
  | nil =>
    unfold chkSs at h
    split at h
    · exact z_nil
    · cases h
  | cons s r =>
    unfold chkSs at h
    split at h
    · obtain ⟨h1, h2⟩ := ands h
      exact z_cons (okS s o ot hp h1) (okSs r o ot hp h2)
    · cases h
end
end
end Sw

set_option maxRecDepth 100000
set_option maxHeartbeats 4000000
/-! SwD: each def keeps what the evaluator says of it; the law's end. -/
namespace Sw
open PySem PySem.Spec PyProof.Rows L2
section
variable {W : Wd}
/-! ### the store is cut back behind a call -/
mutual
theorem bel_of {ρ hid : List Addr} {H : Hp} : ∀ {d : D} {v : V}, RelD W ρ hid H d v → d.bel ρ.length = true
  | .non, _, _ => rfl
  | .bl _, _, _ => rfl
  | .int _, _, _ => rfl
  | .str _, _, _ => rfl
  | .tup ds, _, h => by
    obtain ⟨a, vs, e, r, q⟩ := h
    simp only [D.bel]
    exact bels_of q
  | .lst ds, _, h => by
    obtain ⟨a, vs, e, r, n, q⟩ := h
    simp only [D.bel]
    exact bels_of q
  | .lck ds, _, h => by
    obtain ⟨a, vs, e, r, q⟩ := h
    simp only [D.bel]
    exact bels_of q
  | .dct ks ds, _, h => by
    obtain ⟨a, vs, e, r, n, k, q⟩ := h
    simp only [D.bel]
    exact bels_of q
  | .ref n, _, h => by
    obtain ⟨a, r, e⟩ := h
    simp only [D.bel]
    exact decide_eq_true (List.getElem?_eq_some_iff.mp r).1
  | .fn f, _, _ => rfl
theorem bels_of {ρ hid : List Addr} {H : Hp} : ∀ {ds : List D} {vs : List V}, RelDs W ρ hid H ds vs → D.bels ρ.length ds = true
  | [], _, _ => rfl
  | d :: ds, _, h => by
    obtain ⟨v, r, e, q1, q2⟩ := h
    simp only [D.bels, bel_of q1, bels_of q2]
    rfl
end
theorem ob_bel {ρ hid : List Addr} {H : Hp} {a : Addr} {o : Ob} (q : ObR W ρ hid H a o) : o.bel ρ.length = true := by
  cases o with
  | lst ds => obtain ⟨vs, e1, r⟩ := q; exact bels_of r
  | dct kvs => obtain ⟨vs, e1, k, r⟩ := q; exact bels_of r
  | lkd kvs => obtain ⟨o, vs, e1, k, r⟩ := q; exact bels_of r
  | ins c fs => obtain ⟨dx, vs, e1, k, r⟩ := q; exact bels_of r
theorem not_own {ρ t hid : List Addr} {a : Addr} (h : ¬ own (ρ ++ t) hid a) : ¬ own ρ hid a := fun z => h (z.elim (fun y => .inl (List.mem_append_left _ y)) .inr)
mutual
theorem RelD.cut {ρ t hid : List Addr} {H : Hp} : ∀ {d : D} {v : V}, RelD W (ρ ++ t) hid H d v → d.bel ρ.length = true → RelD W ρ hid H d v
  | .non, _, h, _ => h
  | .bl _, _, h, _ => h
  | .int _, _, h, _ => h
  | .str _, _, h, _ => h
  | .tup ds, _, h, b => by
    obtain ⟨a, vs, e, r, q⟩ := h
    simp only [D.bel] at b
    obtain ⟨o, r, d, n⟩ := r
    exact ⟨a, vs, e, ⟨o, r, d, not_own n⟩, RelDs.cutB q b⟩
  | .lst ds, _, h, b => by
    obtain ⟨a, vs, e, r, n, q⟩ := h
    simp only [D.bel] at b
    exact ⟨a, vs, e, r, not_own n, RelDs.cutB q b⟩
  | .lck ds, _, h, b => by
    obtain ⟨a, vs, e, r, q⟩ := h
    simp only [D.bel] at b
    refine ⟨a, vs, e, ?_, RelDs.cutB q b⟩
    rcases r with ⟨r, n⟩ | r
    · exact .inl ⟨r, not_own n⟩
    · exact .inr r
  | .dct ks ds, _, h, b => by
    obtain ⟨a, vs, e, r, n, k, q⟩ := h
    simp only [D.bel] at b
    exact ⟨a, vs, e, r, not_own n, k, RelDs.cutB q b⟩
  | .ref n, _, h, b => by
    obtain ⟨a, r, e⟩ := h
    simp only [D.bel] at b
    have hl := of_decide_eq_true b
    rw [List.getElem?_append_left hl] at r
    exact ⟨a, r, e⟩
  | .fn f, _, h, _ => h
theorem RelDs.cutB {ρ t hid : List Addr} {H : Hp} : ∀ {ds : List D} {vs : List V}, RelDs W (ρ ++ t) hid H ds vs → D.bels ρ.length ds = true → RelDs W ρ hid H ds vs
  | [], _, h, _ => h
  | d :: ds, _, h, b => by
    obtain ⟨v, r, e, q1, q2⟩ := h
    simp only [D.bels, Bool.and_eq_true] at b
    exact ⟨v, r, e, RelD.cut q1 b.1, RelDs.cutB q2 b.2⟩
end
theorem ObR.cut {ρ t hid : List Addr} {H : Hp} {a : Addr} {o : Ob} (q : ObR W (ρ ++ t) hid H a o) (b : o.bel ρ.length = true) : ObR W ρ hid H a o := by
  cases o with
  | lst ds => obtain ⟨vs, e1, r⟩ := q; exact ⟨vs, e1, r.cutB b⟩
  | dct kvs => obtain ⟨vs, e1, k, r⟩ := q; exact ⟨vs, e1, k, r.cutB b⟩
  | lkd kvs => obtain ⟨o, vs, e1, k, r⟩ := q; exact ⟨o, vs, e1, k, r.cutB b⟩
  | ins c fs => obtain ⟨dx, vs, e1, k, r⟩ := q; exact ⟨dx, vs, e1, k, r.cutB b⟩
theorem Rl.cut {bs : List Nat} {ρ t hid : List Addr} {h1 : Store} {H : Hp} (R : Rl W (ρ.length :: bs) (ρ ++ t) hid h1 H) (hb : ∀ β ∈ bs, β ≤ ρ.length) : Rl W bs ρ hid (h1.take ρ.length) H := by
  have hl : ρ.length ≤ h1.length := by rw [← R.len, List.length_append]; omega
  have get : ∀ {n : Nat} {o : Ob}, (h1.take ρ.length)[n]? = some o → h1[n]? = some o ∧ n < ρ.length := fun {n o} e => by
    have hn := (List.getElem?_eq_some_iff.mp e).1
    rw [List.length_take] at hn
    rw [List.getElem?_take] at e
    split at e
    · exact ⟨e, by omega⟩
    · cases e
  refine ⟨by rw [List.length_take]; omega, (List.nodup_append.mp R.nd).1, fun a ha => ⟨fun z => (R.ap a ha).1 (List.mem_append_left _ z), (R.ap a ha).2⟩, fun n o a e1 e2 => ?_, fun β hβ => ?_, fun β hβ n o hn e => ?_⟩
  · obtain ⟨e3, hn⟩ := get e1
    exact (R.ob n o a e3 (by rw [List.getElem?_append_left hn]; exact e2)).cut (R.low _ (by simp) n o hn e3)
  · rw [List.length_take]
    have := hb β hβ
    omega
  · exact R.low β (by simp [hβ]) n o hn (get e).1
theorem own_new {ρ t hid : List Addr} {bs : List Nat} {h1 : Store} {H : Hp} (R : Rl W bs (ρ ++ t) hid h1 H) {m : Nat} {a : Addr} (e : (ρ ++ t)[m]? = some a) (hm : ρ.length ≤ m) : ¬ own ρ hid a := fun z => by
  rcases z with z | z
  · obtain ⟨i, hi, e2⟩ := List.getElem_of_mem z
    obtain ⟨l1, g1⟩ := List.getElem?_eq_some_iff.mp e
    have l2 : i < (ρ ++ t).length := by rw [List.length_append]; omega
    have g2 : (ρ ++ t)[i] = a := by rw [List.getElem_append_left hi]; exact e2
    have := (List.getElem_inj R.nd).mp (g2.trans g1.symm)
    omega
  · exact (R.ap a z).1 (List.mem_of_getElem? e)
theorem mapM_cons {f : D → Option D} {d : D} {ds es : List D} (h : (d :: ds).mapM f = some es) : ∃ e r, f d = some e ∧ ds.mapM f = some r ∧ es = e :: r := by
  rw [List.mapM_cons] at h
  cases hd : f d with
  | none => rw [hd] at h; cases h
  | some e =>
    rw [hd] at h
    cases hr : ds.mapM f with
    | none =>
      rw [hr] at h
      cases h
    | some r =>
      rw [hr] at h
      cases h
      exact ⟨e, r, rfl, rfl, rfl⟩
theorem froz_ok {ρ t hid : List Addr} {bs : List Nat} {h1 : Store} {H : Hp} (R : Rl W bs (ρ ++ t) hid h1 H) : ∀ (k : Nat) {d d' : D} {v : V}, froz h1 ρ.length k d = some d' → RelD W (ρ ++ t) hid H d v → RelD W ρ hid H d' v
  | 0, d, d', v, e, r => by
    unfold froz at e
    split at e
    · rename_i hb
      cases e
      exact r.cut hb
    · cases e
  | k + 1, d, d', v, e, r => by
    have many : ∀ {ds es : List D} {vs : List V}, ds.mapM (froz h1 ρ.length k) = some es → RelDs W (ρ ++ t) hid H ds vs → RelDs W ρ hid H es vs := by
      intro ds
      induction ds with
      | nil =>
        intro es vs e r
        cases e
        exact r
      | cons d ds ih =>
        intro es vs e r
        obtain ⟨e1, r1, h1, h2, rfl⟩ := mapM_cons e
        obtain ⟨v, vr, rfl, q1, q2⟩ := r
        exact ⟨v, vr, rfl, froz_ok R k h1 q1, ih h2 q2⟩
    unfold froz at e
    split at e
    · rename_i hb
      cases e
      exact r.cut hb
    · rename_i hb
      dsimp only at e
      split at e
      · rename_i ds
        obtain ⟨es, e1, rfl⟩ := Option.map_eq_some_iff.mp e
        obtain ⟨a, vs, rfl, ra, q⟩ := r
        obtain ⟨ob, ra, od, n⟩ := ra
        exact ⟨a, vs, rfl, ⟨ob, ra, od, not_own n⟩, many e1 q⟩
      · rename_i ds
        obtain ⟨es, e1, rfl⟩ := Option.map_eq_some_iff.mp e
        obtain ⟨a, vs, rfl, ra, n, q⟩ := r
        exact ⟨a, vs, rfl, ra, not_own n, many e1 q⟩
      · rename_i m
        have hm : ρ.length ≤ m := by
          simp only [D.bel] at hb
          simpa using hb
        obtain ⟨a, ha, rfl⟩ := r
        split at e
        · rename_i ds hn
          obtain ⟨es, e1, rfl⟩ := Option.map_eq_some_iff.mp e
          obtain ⟨vs, rb, q⟩ := R.ob m _ a hn ha
          exact ⟨a, vs, rfl, rb, own_new R ha hm, many e1 q⟩
        · rename_i kvs hn
          obtain ⟨es, e1, rfl⟩ := Option.map_eq_some_iff.mp e
          obtain ⟨kws, rb, kb, q⟩ := R.ob m _ a hn ha
          refine ⟨a, kws, rfl, .inl rb, own_new R ha hm, kb, many ?_ q⟩
          rw [← e1]
          generalize kvs = l
          induction l with
          | nil => rfl
          | cons p l ih => rw [List.map_cons, List.mapM_cons, List.mapM_cons, ih]
        · cases e
      · cases e

/-! ### a def -/
theorem relEnv_start {ρ hid : List Addr} {H : Hp} {ds : List D} {vs : List V} (N : List Str) (r : RelDs W ρ hid H ds vs) : RelEnv W [] ρ hid H (ds.map some ++ List.replicate (N.length - ds.length) none) (L2.start N vs) := by
  have hl := r.length
  refine ⟨by simp [L2.start, hl], fun i d e => ?_, fun i hi => absurd hi (by simp)⟩
  by_cases hi : i < ds.length
  · rw [List.getElem?_append_left (by simpa using hi), List.getElem?_map] at e
    cases hd : ds[i]? with
    | none => rw [hd] at e; cases e
    | some d' =>
      rw [hd] at e
      cases e
      obtain ⟨v, e2, q⟩ := r.get hd
      refine ⟨v, ?_, q⟩
      unfold L2.start
      rw [List.getElem?_append_left (by simpa [← hl] using hi), List.getElem?_map, e2]
      rfl
  · rw [List.getElem?_append_right (by simpa using hi), List.getElem?_replicate] at e
    split at e <;> cases e
variable {P : Program} {w : World} {K : PySem.W.Frag} {mg : Str → Option Value} {base : Heap} {G : Gs} {np : Nat → Nat} {PP : Nat → Option FDef}
/-- what is known of a def -/
def DefQ (K : PySem.W.Frag) (W : Wd) (PP : Nat → Option FDef) (G : Gs) (np : Nat → Nat) (f : Nat) (fd : FuncData) (ps : List Str) : Prop :=
  ∃ (x qual : Str) (params : Arguments) (body : List Stmt) (scope : Scope) (N : List Str) (F : FDef), FunD K x qual params body scope [] [] (W.fnA f) fd ∧ FnScope N ps scope ∧ PP f = some F ∧ F.ns = N.length ∧ F.np = ps.length ∧ np f = ps.length ∧
    chkSs N G np scope F.body body = true ∧ Binds K fd ps []
theorem okt_fn {N : List Str} {qual : Str} {scope : Scope} {f : Addr} {cd : Value} {A : Around} {outer : List PySem.Env} {s : Shared} {H : Hp} {E : XK} : Okt (cxOf CX0 P w K mg base N qual scope f cd A outer s H E).nox scope := by
  intro x h
  unfold locB at h
  split at h
  · exact ⟨.inl (by assumption), .inl rfl⟩
  · exact ⟨.inr (by assumption), .inl rfl⟩
  · cases h
theorem fn_all (hK : W.K = K) (val : ∀ x d, G.lookup x = some d → ∃ v u, mg x = some u ∧ RelV v u ∧ ∀ ρ hid H, RelD W ρ hid H d v) (free : ∀ x ∈ builtinNames, mg x = none)
    (glo : ∀ x f, G.lookup x = some (.fn f) → mg x = some (.ref (W.fnA f)) ∧ ∃ fd ps, DefQ K W PP G np f fd ps)
    (cls : ∀ i C, G.lookC i = some C → Cls K (W.cA i) ∧ (∀ f ∈ C.flds, NoAttr K (W.cA i) f) ∧ (∀ m f, C.meths.lookup m = some f → Meth K (W.cA i) m (W.fnA f) ∧ ∃ fd ps, DefQ K W PP G np f fd ps) ∧
      ∀ f, C.init = some f → Mk K (W.cA i) (W.fnA f) ∧ mg C.name = some (.ref (W.cA i)) ∧ ∃ fd ps, DefQ K W PP G np f fd ps) :
    ∀ (n : Nat) (f : Nat) (fd : FuncData) (ps : List Str), DefQ K W PP G np f fd ps → FnOk P w K mg base CX0 (2 * n) (W.fnA f) fd ps (spF W (callI PP n) f (np f))
  | 0, f, fd, ps, q => by
    obtain ⟨x, qual, params, body, scope, N, F, hF, hS, hP, h1, h2, h3, hc, hb⟩ := q
    refine ⟨fun vs H Q E ⟨bs, ρ, hid, h, b, ds, d, h', R, hb, r, hn, e, k⟩ => by rw [← r.length, hn, h3], fun A outer s H args us vs Q E hr he hb hv ⟨bs, ρ, hid, h, b, ds, d, h', R, hb', r, hn, e, k⟩ => ?_⟩
    unfold callI at e
    cases e
  | n + 1, f, fd, ps, q => by
    have q0 := q
    obtain ⟨x, qual, params, body, scope, N, F, hF, hS, hP, h1, h2, h3, hc, hb⟩ := q
    refine hF.ok hS (fun vs H Q E ⟨bs, ρ, hid, h, b, ds, d, h', R, hb, r, hn, e, k⟩ => by rw [← r.length, hn, h3]) fun cdv A outer s H vs Q E hr ⟨bs, ρ, hid, h, b, ds, d, h', R, hβ, r, hn, e, k⟩ => ?_
    have fnx : ∀ {g : Nat} {fd' : FuncData} {ps' : List Str}, DefQ K W PP G np g fd' ps' → FnX P w K mg base W np (callI PP n) (2 * n + 1) g := fun {g fd' ps'} q' => by
      have hk := fn_all hK val free glo cls n g fd' ps' q'
      obtain ⟨x', qual', params', body', scope', N', F', hF', hS', hP', h1', h2', h3', hc', hb'⟩ := q'
      exact ⟨2 * n, fd', ps', hk, Nat.le_refl _, hb'⟩
    have md : Md P w K mg base W G np (callI PP n) (2 * n + 1) := ⟨hK, val, fun y g hg => by
      obtain ⟨e1, fd', ps', q'⟩ := glo y g hg
      have hk := fn_all hK val free glo cls n g fd' ps' q'
      obtain ⟨x', qual', params', body', scope', N', F', hF', hS', hP', h1', h2', h3', hc', hb'⟩ := q'
      exact ⟨2 * n, fd', ps', hk, by omega, e1, hF'.kp, hb'⟩, free, fun i C hC => by
      obtain ⟨c1, c2, c3, c4⟩ := cls i C hC
      refine ⟨c1, c2, fun m f hm => ?_, fun f hf => ?_⟩
      · obtain ⟨c5, fd', ps', q'⟩ := c3 m f hm
        exact ⟨c5, fnx q'⟩
      · obtain ⟨c5, c6, fd', ps', q'⟩ := c4 f hf
        exact ⟨c5, c6, fnx q'⟩⟩
    have okx : ∀ (c : Cfg), c.call = callI PP n → Okx (cxOf CX0 P w K mg base N qual scope (W.fnA f) cdv A outer s H E).nox W N G np c scope := fun c hcall =>
      ⟨rfl, hS.nd, rfl, hS.kind, rfl, by have := hr.un; show (A.deeper (envOfC qual scope s.heap.objs.size (W.fnA f) cdv)).units + 66 < cLine; omega, 2 * n + 1, by rw [hcall]; exact md, hr⟩
    unfold callI at e
    rw [hP] at e
    simp only at e
    split at e
    · rename_i hna
      have hnN : F.ns - F.np = N.length - ds.length := by omega
      cases hkeep : F.keep with
      | true =>
        rw [hkeep] at e
        simp only [if_true] at e
        refine ⟨_, PSs.nox (okSs (c := ⟨b, [], callI PP n⟩) F.body (okx _ rfl) okt_fn PassesOwn.never hc), ?_⟩
        have s0 : Sit W ⟨b, [], callI PP n⟩ (L2.start N vs) H := ⟨bs, ρ, hid, h, _, R, hβ, relEnv_start N r⟩
        split at e
        · rename_i d1 env1 h1' e1
          cases e
          refine ⟨⟨bs, ρ, hid, h, _, R, hβ, relEnv_start N r⟩, .ret d, env1, h', ?_, fun ρ1 H1 x1 R1 v rv => k ρ1 v H1 x1 R1 rv⟩
          rw [hnN] at e1
          exact e1
        · rename_i env1 h1' e1
          cases e
          refine ⟨⟨bs, ρ, hid, h, _, R, hβ, relEnv_start N r⟩, .nx, env1, h', ?_, fun ρ1 H1 x1 R1 σ rσ => k ρ1 _ H1 x1 R1 rfl⟩
          rw [hnN] at e1
          exact e1
        · cases e
      | false =>
        rw [hkeep] at e
        simp only [Bool.false_eq_true, if_false] at e
        have Rb : Rl W (ρ.length :: bs) ρ hid h H := by
          refine ⟨R.len, R.nd, R.ap, R.ob, fun β hβ => ?_, fun β hβ m o hm eo => ?_⟩
          · rcases List.mem_cons.mp hβ with z | z
            · rw [z, R.len]; exact Nat.le_refl _
            · exact R.hb β z
          · rcases List.mem_cons.mp hβ with z | z
            · rw [z]
              obtain ⟨a, ha, q⟩ := R.addr eo
              exact ob_bel q
            · exact R.low β z m o hm eo
        have hle : ∀ β ∈ bs, β ≤ ρ.length := fun β hβ => by rw [R.len]; exact R.hb β hβ
        have hb2 : ∀ β ∈ ρ.length :: bs, β ≤ h.length := fun β hβ => by
          rcases List.mem_cons.mp hβ with z | z
          · rw [z, R.len]; exact Nat.le_refl _
          · exact R.hb β z
        refine ⟨_, PSs.nox (okSs (c := ⟨h.length, [], callI PP n⟩) F.body (okx _ rfl) okt_fn PassesOwn.never hc), ?_⟩
        have back : ∀ {ρ1 : List Addr} {H1 : Hp} {h1 : Store}, Ext ρ hid H ρ1 H1 → Rl W (ρ.length :: bs) ρ1 hid h1 H1 → Ext ρ hid H ρ H1 ∧ Rl W bs ρ hid (h1.take h.length) H1 := fun {ρ1 H1 h1} x1 R1 => by
          obtain ⟨t, rfl⟩ := x1.pre
          refine ⟨⟨⟨[], by simp⟩, fun a o ea na => ⟨(x1.keep a o ea na).1, na⟩, x1.frz, x1.hk⟩, ?_⟩
          rw [← R.len]
          exact R1.cut hle
        split at e
        · rename_i d1 env1 h1' e1
          obtain ⟨d2, e2, e3⟩ := Option.map_eq_some_iff.mp e
          cases e3
          refine ⟨⟨ρ.length :: bs, ρ, hid, h, _, Rb, hb2, relEnv_start N r⟩, .ret d1, env1, h1', ?_, fun ρ1 H1 x1 R1 v rv => ?_⟩
          · rw [hnN] at e1
            exact e1
          · obtain ⟨x2, R2⟩ := back x1 R1
            refine k ρ v H1 x2 R2 ?_
            obtain ⟨t, rfl⟩ := x1.pre
            rw [← R.len] at e2
            exact froz_ok R1 4 e2 rv
        · rename_i env1 h1' e1
          cases e
          refine ⟨⟨ρ.length :: bs, ρ, hid, h, _, Rb, hb2, relEnv_start N r⟩, .nx, env1, h1', ?_, fun ρ1 H1 x1 R1 σ rσ => ?_⟩
          · rw [hnN] at e1
            exact e1
          · obtain ⟨x2, R2⟩ := back x1 R1
            exact k ρ _ H1 x2 R2 rfl
        · cases e
    · cases e
end
end Sw

set_option maxRecDepth 100000
set_option maxHeartbeats 4000000
/-! SwE: a law's text as one datum; its end. -/
namespace Sw
open PySem PySem.Spec PyProof.Rows L2
/-- a def of the law's text: where it stands, its slots, its parameters, its reading -/
structure DefT where
  id : Nat
  d : He.DefD
  N : List Str
  ps : List Str
  F : FDef
def lookT (T : List DefT) (i : Nat) : Option DefT := T.find? fun t => Nat.beq t.id i
def PPof (T : List DefT) (i : Nat) : Option FDef := (lookT T i).map (·.F)
def npOf (l : List (Nat × Nat)) (i : Nat) : Nat := match l with
  | [] => 0
  | (j, n) :: r => bif Nat.beq j i then n else npOf r i
def fnScB (N ps : List Str) (sc : Scope) : Bool := decide (sc.kind = .function) && !sc.isCoroutine && !sc.isGenerator && decide N.Nodup && decide (N.take ps.length = ps) && ps.all (fun x => locB sc x) && sc.names.all (fun y => decide (y.2 ≠ .free))
theorem fnScB_ok {N ps : List Str} {sc : Scope} (h : fnScB N ps sc = true) : FnScope N ps sc := by
  unfold fnScB at h
  obtain ⟨h, h7⟩ := ands h
  obtain ⟨h, h6⟩ := ands h
  obtain ⟨h, h5⟩ := ands h
  obtain ⟨h, h4⟩ := ands h
  obtain ⟨h, h3⟩ := ands h
  obtain ⟨h1, h2⟩ := ands h
  refine ⟨of_decide_eq_true h1, nots h2, nots h3, of_decide_eq_true h4, of_decide_eq_true h5, fun x hx => ?_, fun y hy => of_decide_eq_true (List.all_eq_true.mp h7 y hy)⟩
  have := List.all_eq_true.mp h6 x hx
  unfold locB at this
  split at this
  · exact .inl (by assumption)
  · exact .inr (by assumption)
  · cases this
/-- the text's own part of a def's check -/
def DefT.litB (l : List (Nat × Nat)) (t : DefT) : Bool := decide (t.F.ns = t.N.length) && decide (t.F.np = t.ps.length) && decide (npOf l t.id = t.ps.length) && decide (t.d.at_ = (t.d.name, none) ∨ t.d.at_.2 = some t.d.name) && t.d.dfl.isEmpty && t.d.kwd.isEmpty && fnScB t.N t.ps t.d.scope
structure DefT.Ok (G : Gs) (l : List (Nat × Nat)) (t : DefT) : Prop where
  lit : t.litB l = true
  chk : chkSs t.N G (npOf l) t.d.scope t.F.body t.d.body = true
  bd : ∀ (kV doc pm : Value) (an : Option Addr) (cdv ct : Value) (us : List Value), us.length = t.ps.length → PySem.bindArgs (PySem.W.fnOf t.d.name t.d.qual t.d.params t.d.body t.d.scope .none kV doc pm an cdv ct) ⟨us, []⟩ = pure (t.ps.zip us)
def faG (p : Str × D) : Option He.Fa := match p.2 with
  | .fn _ => some (.glo p.1)
  | .int k => some (.int p.1 k)
  | .str z => some (.str p.1 z)
  | _ => none
def faC (C : ClsT) : List He.Fa := .glo C.name :: .cls C.name :: (C.flds.map fun f => .noat C.name f) ++ (C.meths.map fun m => .meth C.name m.1) ++ (match C.init with
  | some _ => [.mkr C.name]
  | none => [])
def faOf (G : Gs) : List He.Fa := builtinNames.map .free ++ G.tab.filterMap faG ++ (G.cls.map faC).flatten
def GB (T : List DefT) (p : Str × D) : Bool := match p.2 with
  | .fn i => (match lookT T i with
    | some t => decide (t.d.at_ = (p.1, none))
    | none => false)
  | .int _ => true
  | .str _ => true
  | _ => false
def atB (T : List DefT) (f : Nat) (p : Str × Option Str) : Bool := match lookT T f with
  | some t => decide (t.d.at_ = p)
  | none => false
def CB (T : List DefT) (C : ClsT) : Bool := (C.meths.all fun m => atB T m.2 (C.name, some m.1)) && (match C.init with
  | some f => atB T f (C.name, some "__init__")
  | none => true)
theorem atB_ok {T : List DefT} {f : Nat} {p : Str × Option Str} (h : atB T f p = true) : ∃ t, lookT T f = some t ∧ t.d.at_ = p := by
  unfold atB at h
  split at h
  · exact ⟨_, by assumption, of_decide_eq_true h⟩
  · cases h
def Gs.okB (G : Gs) (T : List DefT) : Bool := G.tab.all (GB T) && G.cls.all (CB T)
theorem mem_of_lk {m : Str} {f : Nat} : ∀ {l : List (Str × Nat)}, l.lookup m = some f → (m, f) ∈ l
  | [], h => by cases h
  | (y, e) :: G, h => by
    rw [List.lookup_cons] at h
    split at h
    · rename_i q
      cases h
      rw [eq_of_beq q]
      exact List.mem_cons_self
    · exact List.mem_cons_of_mem _ (mem_of_lk h)
theorem mem_of_tab {x : Str} {d : D} : ∀ {G : List (Str × D)}, G.lookup x = some d → (x, d) ∈ G
  | [], h => by cases h
  | (y, e) :: G, h => by
    rw [List.lookup_cons] at h
    split at h
    · rename_i q
      cases h
      rw [eq_of_beq q]
      exact List.mem_cons_self
    · exact List.mem_cons_of_mem _ (mem_of_tab h)
theorem mem_of_look {x : Str} {d : D} {G : Gs} (h : G.lookup x = some d) : (x, d) ∈ G.tab := mem_of_tab h
theorem fact_mem {fa : List He.Fa} {fn : List He.DefD} {K : PySem.W.Frag} (c : He.SaysD fa fn K) {f : He.Fa} (h : f ∈ fa) : f.ok K = true := by
  obtain ⟨i, hi⟩ := List.mem_iff_getElem?.mp h
  exact c.fact i hi
section
variable {P : Program} {w : World} {K : PySem.W.Frag} {mg : Str → Option Value} {h : Heap} {T : List DefT} {G : Gs} {l : List (Nat × Nat)}
def wdOf (T : List DefT) (G : Gs) (K : PySem.W.Frag) : Wd := ⟨K, fun i => He.fAd K (((lookT T i).map (·.d.at_)).getD (Str.empty, none)), fun i => He.ga K (((G.lookC i).map (·.name)).getD Str.empty)⟩
theorem defq_of (X : K.In h) (Gh : h.Ns mainGlobals mg) (c : He.SaysD (faOf G) (T.map (·.d)) K) (ok : ∀ t ∈ T, DefT.Ok G l t) {i : Nat} {t : DefT} (e : lookT T i = some t) :
    (wdOf T G K).fnA i = He.fAd K t.d.at_ ∧ ∃ fd, FunD K t.d.name t.d.qual t.d.params t.d.body t.d.scope [] [] ((wdOf T G K).fnA i) fd ∧ DefQ K (wdOf T G K) (PPof T) G (npOf l) i fd t.ps := by
  have hm : t ∈ T := List.mem_of_find?_eq_some e
  have hid : t.id = i := Nat.eq_of_beq_eq_true (List.find?_some (p := fun t : DefT => Nat.beq t.id i) e)
  have o := ok t hm
  have hl := o.lit
  unfold DefT.litB at hl
  obtain ⟨hl, h7⟩ := ands hl
  obtain ⟨hl, h6⟩ := ands hl
  obtain ⟨hl, h5⟩ := ands hl
  obtain ⟨hl, h4⟩ := ands hl
  obtain ⟨hl, h3⟩ := ands hl
  obtain ⟨h1, h2⟩ := ands hl
  have ea : (wdOf T G K).fnA i = He.fAd K t.d.at_ := by simp [wdOf, e]
  obtain ⟨j, hj⟩ := List.mem_iff_getElem?.mp hm
  obtain ⟨fd, F⟩ := c.def_ j (d := t.d) (by rw [List.getElem?_map, hj]; rfl)
  have e5 : t.d.dvs K = [] := by
    have : t.d.dfl = [] := by simpa using h5
    unfold He.DefD.dvs
    rw [this]
    rfl
  have e6 : t.d.kws K = [] := by
    have : t.d.kwd = [] := by simpa using h6
    unfold He.DefD.kws
    rw [this]
    rfl
  rw [e5, e6, ← ea] at F
  refine ⟨ea, fd, F, t.d.name, t.d.qual, t.d.params, t.d.body, t.d.scope, t.N, t.F, F, fnScB_ok h7, ?_, of_decide_eq_true h1, of_decide_eq_true h2, by rw [← hid]; exact of_decide_eq_true h3, o.chk, F.bindsN o.bd⟩
  simp [PPof, e]
/-- all defs at once -/
theorem facts_of (X : K.In h) (Gh : h.Ns mainGlobals mg) (c : He.SaysD (faOf G) (T.map (·.d)) K) (ok : ∀ t ∈ T, DefT.Ok G l t) (hG : G.okB T = true) {li : Nat} {t : DefT} {x0 lx : Str} (e : lookT T li = some t) (hp : t.ps = [x0]) (hx : t.d.at_ = (lx, none))
    {fa : Addr} (hfa : mg lx = some (.ref fa)) (hl : (lx, D.fn li) ∈ G.tab) (n : Nat) :
    ∃ fd, (∀ (s : Shared) (v : Value), BindsTo s fd ⟨[v], []⟩ [(x0, v)]) ∧ ∀ base : Heap, FnOk P w K mg base CX0 (2 * n) fa fd [x0] (spF (wdOf T G K) (callI (PPof T) n) li (npOf l li)) := by
  have mem : ∀ {p : Str × D} {f : He.Fa}, p ∈ G.tab → faG p = some f → f.ok K = true := fun {p f} hp hf => fact_mem c (List.mem_append_left _ (List.mem_append_right _ (List.mem_filterMap.mpr ⟨p, hp, hf⟩)))
  obtain ⟨hG, hGC⟩ := ands hG
  have glo : ∀ x f, (x, D.fn f) ∈ G.tab → mg x = some (.ref ((wdOf T G K).fnA f)) ∧ ∃ fd ps, DefQ K (wdOf T G K) (PPof T) G (npOf l) f fd ps := fun x f hm => by
    have q := List.all_eq_true.mp hG _ hm
    simp only [GB] at q
    split at q
    · rename_i t' et
      obtain ⟨ea, fd, F, dq⟩ := defq_of X Gh c ok et
      refine ⟨?_, fd, t'.ps, dq⟩
      rw [ea, of_decide_eq_true q]
      exact He.glo_ok X Gh (mem hm rfl)
    · cases q
  obtain ⟨ea, fd, F, dq⟩ := defq_of X Gh c ok e
  have eq1 := (glo lx li hl).1
  rw [hfa] at eq1
  have eq2 : fa = (wdOf T G K).fnA li := by injection eq1 with eq1; injection eq1
  have bd := F.bindsA (ps := t.ps) (ok t (List.mem_of_find?_eq_some e)).bd
  rw [hp] at bd dq
  refine ⟨fd, fun s v => bd s [v] rfl, fun base => ?_⟩
  rw [eq2]
  have dqa : ∀ {f : Nat} {p : Str × Option Str}, atB T f p = true → (wdOf T G K).fnA f = He.fAd K p ∧ ∃ fd ps, DefQ K (wdOf T G K) (PPof T) G (npOf l) f fd ps := fun {f p} h => by
    obtain ⟨t', et, ep⟩ := atB_ok h
    obtain ⟨ea, fd, F, dq⟩ := defq_of X Gh c ok et
    exact ⟨by rw [ea, ep], fd, t'.ps, dq⟩
  have cls : ∀ i C, G.lookC i = some C → Cls K ((wdOf T G K).cA i) ∧ (∀ f ∈ C.flds, NoAttr K ((wdOf T G K).cA i) f) ∧ (∀ m f, C.meths.lookup m = some f → Meth K ((wdOf T G K).cA i) m ((wdOf T G K).fnA f) ∧ ∃ fd ps, DefQ K (wdOf T G K) (PPof T) G (npOf l) f fd ps) ∧
      ∀ f, C.init = some f → Mk K ((wdOf T G K).cA i) ((wdOf T G K).fnA f) ∧ mg C.name = some (.ref ((wdOf T G K).cA i)) ∧ ∃ fd ps, DefQ K (wdOf T G K) (PPof T) G (npOf l) f fd ps := by
    intro i C hC
    have hm : C ∈ G.cls := List.mem_of_find?_eq_some hC
    have ec : (wdOf T G K).cA i = He.ga K C.name := by simp [wdOf, hC]
    have q := List.all_eq_true.mp hGC _ hm
    unfold CB at q
    obtain ⟨q1, q2⟩ := ands q
    have fact : ∀ {f : He.Fa}, f ∈ faC C → f.ok K = true := fun {f} hf => fact_mem c (List.mem_append_right _ (List.mem_flatten.mpr ⟨_, List.mem_map.mpr ⟨C, hm, rfl⟩, hf⟩))
    rw [ec]
    refine ⟨He.cls_ok (fact (by simp [faC])), fun f hf => He.noat_ok (fact (by simp [faC, hf])), fun m f hmf => ?_, fun f hf => ?_⟩
    · have hmem := mem_of_lk hmf
      obtain ⟨e1, dq⟩ := dqa (List.all_eq_true.mp q1 _ hmem)
      refine ⟨?_, dq⟩
      rw [e1]
      exact He.meth_ok (fact (by
        refine List.mem_append_left _ (List.mem_append_right _ (List.mem_map.mpr ⟨_, hmem, rfl⟩))))
    · rw [hf] at q2
      obtain ⟨e1, dq⟩ := dqa q2
      refine ⟨?_, He.glo_ok X Gh (fact (by simp [faC])), dq⟩
      rw [e1]
      exact He.mkr_ok (fact (by simp [faC, hf]))
  refine fn_all (W := wdOf T G K) (G := G) rfl (fun x d hd => ?_) (fun x hx => ?_) (fun x f hf => ?_) cls n li fd [x0] dq
  · have hm := mem_of_look hd
    cases d with
    | fn f => exact ⟨.ref ((wdOf T G K).fnA f), _, (glo x f hm).1, rfl, fun _ _ _ => rfl⟩
    | int k =>
      obtain ⟨tk, et⟩ := He.int_ok X Gh (mem hm rfl)
      exact ⟨.int k, _, et, ⟨tk, rfl⟩, fun _ _ _ => rfl⟩
    | str z =>
      obtain ⟨tk, et⟩ := He.str_ok X Gh (mem hm rfl)
      exact ⟨.str z, _, et, ⟨tk, rfl⟩, fun _ _ _ => rfl⟩
    | _ =>
      have q := List.all_eq_true.mp hG _ hm
      cases q
  · exact He.free_ok X Gh (fact_mem c (List.mem_append_left _ (List.mem_append_left _ (List.mem_map.mpr ⟨x, hx, rfl⟩))))
  · exact glo x f (mem_of_look hf)
/-- the law's promise -/
theorem law_sp {n li m : Nat} (hnp : npOf l li = 1) (hev : ∀ ns : List Int, ns.length ≤ m → ∃ h', callI (PPof T) n li [.lck (ns.map D.int)] 0 [] = some (.bl true, h')) (H : Hp) (a : Addr) (ns : List Int) (hn : ns.length ≤ m) (hS : SqL K H a (ns.map V.int)) (E : XK) :
    spF (wdOf T G K) (callI (PPof T) n) li (npOf l li) [.ref a] H (fun v _ => v = .bl true) E := by
  obtain ⟨h', e⟩ := hev ns hn
  refine ⟨[], [], [], [], 0, [.lck (ns.map D.int)], .bl true, h', ⟨rfl, List.nodup_nil, fun a ha => absurd ha (by simp), fun n o a e1 e2 => absurd e1 (by simp), fun β hβ => absurd hβ (by simp), fun β hβ => absurd hβ (by simp)⟩, fun β hβ => absurd hβ (by simp), ⟨.ref a, [], rfl, ⟨a, ns.map V.int, rfl, ?_, relInts ns⟩, rfl⟩, by rw [hnp]; rfl, e, fun ρ' v H' x R r => r⟩
  rcases hS with hS | hS
  · exact .inl ⟨hS, fun z => by rcases z with z | z <;> simp at z⟩
  · exact .inr hS
end
end Sw

/-! Pm: lists that are permutations of 0 .. n - 1: composition, inverse, powers. -/
namespace Pm
def ap (e : List Nat) (i : Nat) : Nat := e.getD i 0
def ids (n : Nat) : List Nat := List.range n
structure IsP (n : Nat) (e : List Nat) : Prop where
  len : e.length = n
  nd : e.Nodup
  lt : ∀ x ∈ e, x < n
def comp (a b : List Nat) : List Nat := a.map (ap b)
theorem ap_eq {e : List Nat} {i : Nat} (h : i < e.length) : ap e i = e[i] := by simp [ap, h]
theorem ap_some {e : List Nat} {i : Nat} (h : i < e.length) : e[i]? = some (ap e i) := by simp [ap, h]
theorem ap_mem {e : List Nat} {i : Nat} (h : i < e.length) : ap e i ∈ e := by rw [ap_eq h]; exact List.getElem_mem h
theorem ext_ap {a b : List Nat} (hl : a.length = b.length) (h : ∀ i, i < a.length → ap a i = ap b i) : a = b := by
  apply List.ext_getElem hl
  intro i h1 h2
  rw [← ap_eq h1, ← ap_eq h2]
  exact h i h1
theorem nodup_le : ∀ (n : Nat) (l : List Nat), l.Nodup → (∀ x ∈ l, x < n) → l.length ≤ n
  | 0, l, _, h => by
    cases l with
    | nil => exact Nat.le_refl _
    | cons x l => exact absurd (h x (by simp)) (by omega)
  | n + 1, l, hn, h => by
    by_cases hm : n ∈ l
    · have h1 := nodup_le n (l.erase n) (hn.erase n) (fun x hx => by
        have h2 := (hn.mem_erase_iff).mp hx
        have := h x h2.2
        have := h2.1
        omega)
      rw [List.length_erase_of_mem hm] at h1
      omega
    · have := nodup_le n l hn (fun x hx => by
        have := h x hx
        have : x ≠ n := fun e => hm (e ▸ hx)
        omega)
      omega
theorem IsP.ap_lt {n : Nat} {e : List Nat} (p : IsP n e) {i : Nat} (h : i < n) : ap e i < n := p.lt _ (ap_mem (by rw [p.len]; exact h))
theorem IsP.inj {n : Nat} {e : List Nat} (p : IsP n e) {i j : Nat} (hi : i < n) (hj : j < n) (h : ap e i = ap e j) : i = j := by
  have h1 : i < e.length := by rw [p.len]; exact hi
  have h2 : j < e.length := by rw [p.len]; exact hj
  exact (List.getElem?_inj h1 p.nd).mp (by rw [ap_some h1, ap_some h2, h])
theorem IsP.mem {n : Nat} {e : List Nat} (p : IsP n e) {q : Nat} (h : q < n) : q ∈ e := by
  apply Classical.byContradiction
  intro hm
  have := nodup_le n (q :: e) (List.nodup_cons.mpr ⟨hm, p.nd⟩) (fun x hx => by
    rcases List.mem_cons.mp hx with rfl | hx
    · exact h
    · exact p.lt x hx)
  rw [List.length_cons, p.len] at this
  omega
theorem IsP.surj {n : Nat} {e : List Nat} (p : IsP n e) {q : Nat} (h : q < n) : ∃ i, i < n ∧ ap e i = q := by
  obtain ⟨i, hi, e1⟩ := List.getElem_of_mem (p.mem h)
  exact ⟨i, by rw [← p.len]; exact hi, by rw [ap_eq hi, e1]⟩
/-- by its places -/
theorem isP_of {n : Nat} {e : List Nat} (hl : e.length = n) (ht : ∀ i, i < n → ap e i < n) (hj : ∀ i j, i < n → j < n → ap e i = ap e j → i = j) : IsP n e := by
  refine ⟨hl, ?_, fun x hx => ?_⟩
  · rw [List.nodup_iff_pairwise_ne, List.pairwise_iff_getElem]
    intro i j hi hj' hij h
    have := hj i j (by omega) (by omega) (by rw [ap_eq hi, ap_eq hj', h])
    omega
  · obtain ⟨i, hi, e1⟩ := List.getElem_of_mem hx
    rw [← e1, ← ap_eq hi]
    exact ht i (by omega)
theorem ids_ap {n i : Nat} (h : i < n) : ap (ids n) i = i := by
  rw [ap_eq (by simp [ids]; exact h)]
  simp [ids]
theorem ids_len (n : Nat) : (ids n).length = n := by simp [ids]
theorem ids_isP (n : Nat) : IsP n (ids n) := isP_of (ids_len n) (fun i h => by rw [ids_ap h]; exact h) (fun i j hi hj h => by rw [ids_ap hi, ids_ap hj] at h; exact h)
theorem comp_len (a b : List Nat) : (comp a b).length = a.length := by simp [comp]
theorem comp_ap {a b : List Nat} {i : Nat} (h : i < a.length) : ap (comp a b) i = ap b (ap a i) := by
  rw [ap_eq (by rw [comp_len]; exact h), ap_eq h]
  simp only [comp, List.getElem_map]
theorem comp_isP {n : Nat} {a b : List Nat} (p : IsP n a) (q : IsP n b) : IsP n (comp a b) := by
  have hl : a.length = n := p.len
  refine isP_of (by rw [comp_len, hl]) (fun i h => ?_) (fun i j hi hj h => ?_)
  · rw [comp_ap (by omega)]
    exact q.ap_lt (p.ap_lt h)
  · rw [comp_ap (by omega), comp_ap (by omega)] at h
    exact p.inj hi hj (q.inj (p.ap_lt hi) (p.ap_lt hj) h)
theorem comp_assoc {n : Nat} {a b : List Nat} (p : IsP n a) (hb : b.length = n) (c : List Nat) : comp (comp a b) c = comp a (comp b c) := by
  have hl : a.length = n := p.len
  apply ext_ap (by simp [comp_len])
  intro i hi
  rw [comp_len, comp_len] at hi
  rw [comp_ap (by rw [comp_len]; omega), comp_ap hi, comp_ap hi, comp_ap (by have := p.ap_lt (i := i) (by omega); omega)]
theorem ids_comp {n : Nat} {a : List Nat} (h : a.length = n) : comp (ids n) a = a := by
  apply ext_ap (by rw [comp_len, ids_len, h])
  intro i hi
  rw [comp_len, ids_len] at hi
  rw [comp_ap (by rw [ids_len]; exact hi), ids_ap hi]
theorem comp_ids {n : Nat} {a : List Nat} (p : IsP n a) : comp a (ids n) = a := by
  apply ext_ap (by rw [comp_len])
  intro i hi
  rw [comp_len] at hi
  rw [comp_ap hi, ids_ap (p.ap_lt (by have := p.len; omega))]
/-! ### the inverse, as it is made: place by place -/
def invStep (r : List Nat) (q : Nat × Nat) : List Nat := r.set q.1 q.2
def inv (e : List Nat) : List Nat := e.zipIdx.foldl invStep (List.replicate e.length 0)
theorem inv_len_fold : ∀ (l : List (Nat × Nat)) (r : List Nat), (l.foldl invStep r).length = r.length
  | [], _ => rfl
  | q :: l, r => by rw [List.foldl_cons, inv_len_fold l]; simp [invStep]
theorem inv_len (e : List Nat) : (inv e).length = e.length := by
  unfold inv
  rw [inv_len_fold]
  simp
theorem fold_other : ∀ (l : List (Nat × Nat)) (r : List Nat) (x : Nat), (∀ q ∈ l, q.1 ≠ x) → ap (l.foldl invStep r) x = ap r x
  | [], _, _, _ => rfl
  | q :: l, r, x, h => by
    rw [List.foldl_cons, fold_other l _ x (fun p hp => h p (by simp [hp]))]
    have : q.1 ≠ x := h q (by simp)
    simp [invStep, ap, List.getElem?_set_ne this]
theorem fold_at : ∀ (l : List (Nat × Nat)) (r : List Nat) (x k : Nat), (l.map (·.1)).Nodup → (x, k) ∈ l → x < r.length → ap (l.foldl invStep r) x = k
  | [], _, _, _, _, h, _ => by cases h
  | q :: l, r, x, k, hn, h, hx => by
    rw [List.map_cons, List.nodup_cons] at hn
    rw [List.foldl_cons]
    rcases List.mem_cons.mp h with e | h
    · subst e
      rw [fold_other l _ x (fun p hp e => hn.1 (List.mem_map.mpr ⟨p, hp, e⟩))]
      simp [invStep, ap, hx]
    · exact fold_at l _ x k hn.2 h (by simpa [invStep] using hx)
theorem inv_ap {n : Nat} {e : List Nat} (p : IsP n e) {i : Nat} (h : i < n) : ap (inv e) (ap e i) = i := by
  have hl : i < e.length := by rw [p.len]; exact h
  refine fold_at e.zipIdx _ _ _ ?_ ?_ ?_
  · rw [List.zipIdx_map_fst]
    exact p.nd
  · rw [List.mem_zipIdx_iff_getElem?]
    exact ap_some hl
  · rw [List.length_replicate, p.len]
    exact p.ap_lt h
theorem ap_inv {n : Nat} {e : List Nat} (p : IsP n e) {q : Nat} (h : q < n) : ap e (ap (inv e) q) = q := by
  obtain ⟨i, hi, rfl⟩ := p.surj h
  rw [inv_ap p hi]
theorem inv_isP {n : Nat} {e : List Nat} (p : IsP n e) : IsP n (inv e) := by
  refine isP_of (by rw [inv_len, p.len]) (fun q h => ?_) (fun q r hq hr h => ?_)
  · obtain ⟨i, hi, rfl⟩ := p.surj h
    rw [inv_ap p hi]
    exact hi
  · have := congrArg (ap e) h
    rw [ap_inv p hq, ap_inv p hr] at this
    exact this
theorem comp_inv {n : Nat} {e : List Nat} (p : IsP n e) : comp e (inv e) = ids n := by
  apply ext_ap (by rw [comp_len, p.len, ids_len])
  intro i hi
  rw [comp_len, p.len] at hi
  rw [comp_ap (by rw [p.len]; exact hi), inv_ap p hi, ids_ap hi]
theorem inv_comp {n : Nat} {e : List Nat} (p : IsP n e) : comp (inv e) e = ids n := by
  apply ext_ap (by rw [comp_len, inv_len, p.len, ids_len])
  intro i hi
  rw [comp_len, inv_len, p.len] at hi
  rw [comp_ap (by rw [inv_len, p.len]; exact hi), ap_inv p hi, ids_ap hi]
/-- what undoes e is its inverse -/
theorem inv_unique {n : Nat} {e f : List Nat} (p : IsP n e) (q : IsP n f) (h : comp e f = ids n) : f = inv e := by
  rw [← ids_comp (n := n) q.len, ← inv_comp p, comp_assoc (inv_isP p) p.len, h, comp_ids (inv_isP p)]
theorem inv_inv {n : Nat} {e : List Nat} (p : IsP n e) : inv (inv e) = e := (inv_unique (inv_isP p) p (inv_comp p)).symm
theorem inv_of_comp {n : Nat} {a b : List Nat} (p : IsP n a) (q : IsP n b) : inv (comp a b) = comp (inv b) (inv a) := by
  refine (inv_unique (comp_isP p q) (comp_isP (inv_isP q) (inv_isP p)) ?_).symm
  rw [comp_assoc p q.len, ← comp_assoc q (inv_isP q).len, comp_inv q, ids_comp (inv_isP p).len, comp_inv p]
theorem inv_ids (n : Nat) : inv (ids n) = ids n := (inv_unique (ids_isP n) (ids_isP n) (comp_ids (ids_isP n))).symm
/-! ### powers -/
def it (e : List Nat) : Nat → Nat → Nat
  | 0, i => i
  | k + 1, i => ap e (it e k i)
theorem it_add (e : List Nat) (a : Nat) : ∀ (b i : Nat), it e (a + b) i = it e b (it e a i)
  | 0, i => rfl
  | b + 1, i => by rw [← Nat.add_assoc]; show ap e (it e (a + b) i) = ap e (it e b (it e a i)); rw [it_add e a b i]
theorem it_lt {n : Nat} {e : List Nat} (p : IsP n e) : ∀ (k : Nat) {i : Nat}, i < n → it e k i < n
  | 0, _, h => h
  | k + 1, _, h => p.ap_lt (it_lt p k h)
theorem it_inj {n : Nat} {e : List Nat} (p : IsP n e) : ∀ (k : Nat) {i j : Nat}, i < n → j < n → it e k i = it e k j → i = j
  | 0, _, _, _, _, h => h
  | k + 1, _, _, hi, hj, h => it_inj p k hi hj (p.inj (it_lt p k hi) (it_lt p k hj) h)
def pw (n : Nat) (e : List Nat) (k : Nat) : List Nat := (ids n).map (it e k)
theorem pw_len (n : Nat) (e : List Nat) (k : Nat) : (pw n e k).length = n := by simp [pw, ids_len]
theorem pw_ap {n : Nat} {e : List Nat} {k i : Nat} (h : i < n) : ap (pw n e k) i = it e k i := by
  rw [ap_eq (by rw [pw_len]; exact h)]
  simp [pw, ids]
theorem pw_isP {n : Nat} {e : List Nat} (p : IsP n e) (k : Nat) : IsP n (pw n e k) := isP_of (pw_len _ _ _) (fun i h => by rw [pw_ap h]; exact it_lt p k h) (fun i j hi hj h => by
  rw [pw_ap hi, pw_ap hj] at h
  exact it_inj p k hi hj h)
theorem pw_add {n : Nat} {e : List Nat} (p : IsP n e) (a b : Nat) : pw n e (a + b) = comp (pw n e a) (pw n e b) := by
  apply ext_ap (by rw [comp_len, pw_len, pw_len])
  intro i hi
  rw [pw_len] at hi
  rw [comp_ap (by rw [pw_len]; exact hi), pw_ap hi, pw_ap hi, pw_ap (it_lt p a hi), it_add]
theorem pw_zero (n : Nat) (e : List Nat) : pw n e 0 = ids n := by
  apply ext_ap (by rw [pw_len, ids_len])
  intro i hi
  rw [pw_len] at hi
  rw [pw_ap hi, ids_ap hi]
  rfl
theorem pw_one {n : Nat} {e : List Nat} (p : IsP n e) : pw n e 1 = e := by
  apply ext_ap (by rw [pw_len, p.len])
  intro i hi
  rw [pw_len] at hi
  rw [pw_ap hi]
  rfl
/-! ### the orbit of a place -/
theorem it_mul {e : List Nat} {k i : Nat} (h : it e k i = i) : ∀ m, it e (k * m) i = i
  | 0 => rfl
  | m + 1 => by rw [Nat.mul_add, Nat.mul_one, it_add, it_mul h m, h]
/-- some power leads back -/
theorem it_back {n : Nat} {e : List Nat} (p : IsP n e) {i : Nat} (hi : i < n) : ∃ k, 1 ≤ k ∧ k ≤ n ∧ it e k i = i := by
  apply Classical.byContradiction
  intro hc
  have hn : ((List.range (n + 1)).map fun k => it e k i).Nodup := by
    rw [List.nodup_iff_pairwise_ne, List.pairwise_map]
    refine List.Pairwise.imp_of_mem ?_ List.pairwise_lt_range
    intro a b ha hb hab h
    rw [List.mem_range] at ha hb
    apply hc
    refine ⟨b - a, by omega, by omega, ?_⟩
    have : it e b i = it e a (it e (b - a) i) := by rw [← it_add, show b - a + a = b by omega]
    rw [this] at h
    exact (it_inj p a hi (it_lt p _ hi) h).symm
  have := nodup_le n _ hn (fun x hx => by
    obtain ⟨k, _, rfl⟩ := List.mem_map.mp hx
    exact it_lt p k hi)
  simp at this
  omega
def isOrb (e : List Nat) (i : Nat) (k : Nat) : Bool := decide (it e (k + 1) i = i)
/-- the length of the orbit -/
def orbL (n : Nat) (e : List Nat) (i : Nat) : Nat := (List.range n).findIdx (isOrb e i) + 1
theorem orbL_spec {n : Nat} {e : List Nat} (p : IsP n e) {i : Nat} (hi : i < n) : orbL n e i ≤ n ∧ it e (orbL n e i) i = i ∧ ∀ k, 1 ≤ k → k < orbL n e i → it e k i ≠ i := by
  obtain ⟨k, h1, h2, h3⟩ := it_back p hi
  have hlt : (List.range n).findIdx (isOrb e i) < (List.range n).length := by
    apply List.findIdx_lt_length_of_exists
    exact ⟨k - 1, by simp; omega, by simp [isOrb, show k - 1 + 1 = k by omega, h3]⟩
  have hg := List.findIdx_getElem (w := hlt)
  unfold orbL
  rw [List.length_range] at hlt
  refine ⟨by omega, ?_, fun k hk1 hk2 hk => ?_⟩
  · simpa [isOrb] using hg
  · have := List.not_of_lt_findIdx (p := isOrb e i) (xs := List.range n) (i := k - 1) (by omega)
    simp [isOrb, show k - 1 + 1 = k by omega] at this
    exact this hk
theorem orbL_pos (n : Nat) (e : List Nat) (i : Nat) : 1 ≤ orbL n e i := by unfold orbL; omega
/-- the first places of a way -/
def itL (e : List Nat) (i k : Nat) : List Nat := (List.range k).map fun k => it e k i
theorem itL_succ (e : List Nat) (i k : Nat) : itL e i (k + 1) = itL e i k ++ [it e k i] := by simp [itL, List.range_succ]
theorem itL_len (e : List Nat) (i k : Nat) : (itL e i k).length = k := by simp [itL]
theorem mem_itL {e : List Nat} {i k x : Nat} : x ∈ itL e i k ↔ ∃ j, j < k ∧ it e j i = x := by simp [itL]
def orb (n : Nat) (e : List Nat) (i : Nat) : List Nat := (List.range (orbL n e i)).map fun k => it e k i
theorem it_mod {n : Nat} {e : List Nat} (p : IsP n e) {i : Nat} (hi : i < n) (k : Nat) : it e k i = it e (k % orbL n e i) i := by
  have h := (orbL_spec p hi).2.1
  conv => lhs; rw [← Nat.div_add_mod k (orbL n e i)]
  rw [it_add, it_mul h]
theorem orb_len (n : Nat) (e : List Nat) (i : Nat) : (orb n e i).length = orbL n e i := by simp [orb]
theorem orb_get {n : Nat} {e : List Nat} {i k : Nat} (h : k < orbL n e i) : (orb n e i)[k]? = some (it e k i) := by
  simp [orb, h]
theorem orb_nodup {n : Nat} {e : List Nat} (p : IsP n e) {i : Nat} (hi : i < n) : (orb n e i).Nodup := by
  unfold orb
  rw [List.nodup_iff_pairwise_ne, List.pairwise_map]
  refine List.Pairwise.imp_of_mem ?_ List.pairwise_lt_range
  intro a b ha hb hab h
  rw [List.mem_range] at ha hb
  have : it e b i = it e a (it e (b - a) i) := by rw [← it_add, show b - a + a = b by omega]
  rw [this] at h
  exact (orbL_spec p hi).2.2 (b - a) (by omega) (by omega) (it_inj p a hi (it_lt p _ hi) h).symm
theorem mem_orb {n : Nat} {e : List Nat} (p : IsP n e) {i : Nat} (hi : i < n) {j : Nat} : j ∈ orb n e i ↔ ∃ k, it e k i = j := by
  constructor
  · intro h
    obtain ⟨k, _, rfl⟩ := List.mem_map.mp h
    exact ⟨k, rfl⟩
  · rintro ⟨k, rfl⟩
    rw [it_mod p hi]
    exact List.mem_map.mpr ⟨k % orbL n e i, List.mem_range.mpr (Nat.mod_lt _ (orbL_pos n e i)), rfl⟩
theorem orb_step {n : Nat} {e : List Nat} (p : IsP n e) {i : Nat} (hi : i < n) {j : Nat} (h : j < n) : ap e j ∈ orb n e i ↔ j ∈ orb n e i := by
  rw [mem_orb p hi, mem_orb p hi]
  constructor
  · rintro ⟨k, hk⟩
    have h1 := (orbL_spec p hi).2.1
    have h2 := orbL_pos n e i
    refine ⟨k + orbL n e i - 1, ?_⟩
    have h3 : it e (k + orbL n e i - 1 + 1) i = ap e j := by
      rw [show k + orbL n e i - 1 + 1 = orbL n e i + k by omega, it_add, h1, hk]
    exact p.inj (it_lt p _ hi) h h3
  · rintro ⟨k, hk⟩
    exact ⟨k + 1, by show ap e (it e k i) = _; rw [hk]⟩
theorem orb_sub {n : Nat} {e : List Nat} (p : IsP n e) {i : Nat} (hi : i < n) {j : Nat} (h : j ∈ orb n e i) : j < n := by
  obtain ⟨k, rfl⟩ := (mem_orb p hi).mp h
  exact it_lt p k hi
theorem orb_eq (n : Nat) (e : List Nat) (i : Nat) : orb n e i = itL e i (orbL n e i) := rfl
theorem it_notin {n : Nat} {e : List Nat} (p : IsP n e) {i : Nat} (hi : i < n) {k : Nat} (h : k < orbL n e i) : it e k i ∉ itL e i k := by
  intro hm
  obtain ⟨j, hj, ej⟩ := mem_itL.mp hm
  have : it e k i = it e j (it e (k - j) i) := by rw [← it_add, show k - j + j = k by omega]
  rw [this] at ej
  exact (orbL_spec p hi).2.2 (k - j) (by omega) (by omega) (it_inj p j hi (it_lt p _ hi) ej).symm
/-! ### all cycles -/
def cycStep (n : Nat) (e : List Nat) (cs : List (List Nat)) (i : Nat) : List (List Nat) := if i ∈ cs.flatten then cs else cs ++ [orb n e i]
def cycs (n : Nat) (e : List Nat) (m : Nat) : List (List Nat) := (List.range m).foldl (cycStep n e) []
theorem cycs_succ (n : Nat) (e : List Nat) (m : Nat) : cycs n e (m + 1) = cycStep n e (cycs n e m) m := by
  unfold cycs
  rw [List.range_succ, List.foldl_append]
  rfl
theorem cycs_len (n : Nat) (e : List Nat) : ∀ m, (cycs n e m).length ≤ m
  | 0 => Nat.le_refl _
  | m + 1 => by
    have := cycs_len n e m
    rw [cycs_succ]
    unfold cycStep
    split
    · omega
    · simp; omega
structure CycOk (n : Nat) (e : List Nat) (m : Nat) (cs : List (List Nat)) : Prop where
  orb : ∀ c ∈ cs, ∃ i, i < m ∧ i < n ∧ c = orb n e i
  all : ∀ i, i < m → i ∈ cs.flatten
  nd : cs.flatten.Nodup
theorem CycOk.step {n : Nat} {e : List Nat} {m : Nat} {cs : List (List Nat)} (p : IsP n e) (h : CycOk n e m cs) {j : Nat} (hj : j < n) : ap e j ∈ cs.flatten ↔ j ∈ cs.flatten := by
  rw [List.mem_flatten, List.mem_flatten]
  constructor
  · rintro ⟨c, hc, hm⟩
    obtain ⟨i, _, hi, rfl⟩ := h.orb c hc
    exact ⟨_, hc, (orb_step p hi hj).mp hm⟩
  · rintro ⟨c, hc, hm⟩
    obtain ⟨i, _, hi, rfl⟩ := h.orb c hc
    exact ⟨_, hc, (orb_step p hi hj).mpr hm⟩
theorem CycOk.its {n : Nat} {e : List Nat} {m : Nat} {cs : List (List Nat)} (p : IsP n e) (h : CycOk n e m cs) {j : Nat} (hj : j < n) : ∀ k, it e k j ∈ cs.flatten ↔ j ∈ cs.flatten
  | 0 => Iff.rfl
  | k + 1 => (h.step p (it_lt p k hj)).trans (h.its p hj k)
theorem cycs_ok {n : Nat} {e : List Nat} (p : IsP n e) : ∀ {m : Nat}, m ≤ n → CycOk n e m (cycs n e m)
  | 0, _ => ⟨fun c h => (by cases h), fun i h => absurd h (by omega), List.nodup_nil⟩
  | m + 1, hm => by
    have ih := cycs_ok p (m := m) (by omega)
    rw [cycs_succ]
    unfold cycStep
    by_cases hi : m ∈ (cycs n e m).flatten
    · rw [if_pos hi]
      refine ⟨fun c hc => ?_, fun i h => ?_, ih.nd⟩
      · obtain ⟨i, h1, h2, h3⟩ := ih.orb c hc
        exact ⟨i, by omega, h2, h3⟩
      · by_cases he : i = m
        · rw [he]; exact hi
        · exact ih.all i (by omega)
    · rw [if_neg hi]
      refine ⟨fun c hc => ?_, fun i h => ?_, ?_⟩
      · rcases List.mem_append.mp hc with hc | hc
        · obtain ⟨i, h1, h2, h3⟩ := ih.orb c hc
          exact ⟨i, by omega, h2, h3⟩
        · rw [List.mem_singleton] at hc
          exact ⟨m, by omega, by omega, hc⟩
      · rw [List.flatten_append, List.mem_append]
        by_cases he : i = m
        · right
          subst he
          simp only [List.flatten_cons, List.flatten_nil, List.append_nil]
          exact (mem_orb p (by omega)).mpr ⟨0, rfl⟩
        · exact .inl (ih.all i (by omega))
      · rw [List.flatten_append, List.nodup_append]
        refine ⟨ih.nd, ?_, ?_⟩
        · simp only [List.flatten_cons, List.flatten_nil, List.append_nil]
          exact orb_nodup p (by omega)
        · intro a ha b hb hab
          subst hab
          simp only [List.flatten_cons, List.flatten_nil, List.append_nil] at hb
          obtain ⟨k, hk⟩ := (mem_orb p (by omega)).mp hb
          rw [← hk] at ha
          exact hi ((ih.its p (by omega) k).mp ha)
theorem CycOk.sub {n : Nat} {e : List Nat} {m : Nat} {cs : List (List Nat)} (p : IsP n e) (h : CycOk n e m cs) {x : Nat} (hx : x ∈ cs.flatten) : x < n := by
  obtain ⟨c, hc, hm⟩ := List.mem_flatten.mp hx
  obtain ⟨i, _, hi, rfl⟩ := h.orb c hc
  exact orb_sub p hi hm
theorem CycOk.flat_len {n : Nat} {e : List Nat} {m : Nat} {cs : List (List Nat)} (p : IsP n e) (h : CycOk n e m cs) : cs.flatten.length ≤ n := nodup_le n _ h.nd fun x hx => h.sub p hx
/-! ### powers by cycles -/
def pwI (n : Nat) (e : List Nat) (c : Int) : List Nat := if c < 0 then inv (pw n e (-c).toNat) else pw n e c.toNat
theorem pwI_isP {n : Nat} {e : List Nat} (p : IsP n e) (c : Int) : IsP n (pwI n e c) := by
  unfold pwI
  split
  · exact inv_isP (pw_isP p _)
  · exact pw_isP p _
theorem pwI_nat (n : Nat) (e : List Nat) (k : Nat) : pwI n e k = pw n e k := by
  unfold pwI
  rw [if_neg (by omega), Int.toNat_natCast]
def repP (c : Int) (cyc : List Nat) : List (Nat × Nat) := cyc.zipIdx.map fun q => (q.1, ap cyc (((q.2 : Int) + c) % (cyc.length : Int)).toNat)
def rep (n : Nat) (e : List Nat) (c : Int) : List Nat := ((cycs n e n).map (repP c)).flatten.foldl invStep (List.replicate n 0)
theorem orb_ap {n : Nat} {e : List Nat} {i k : Nat} (h : k < orbL n e i) : ap (orb n e i) k = it e k i := by
  unfold ap
  rw [List.getD_eq_getElem?_getD, orb_get h]
  rfl
theorem it_pwI {n : Nat} {e : List Nat} (p : IsP n e) {s : Nat} (hs : s < n) (k : Nat) (c : Int) : ap (orb n e s) (((k : Int) + c) % (orbL n e s : Int)).toNat = ap (pwI n e c) (it e k s) := by
  have hL := orbL_pos n e s
  have h1 := Int.emod_nonneg ((k : Int) + c) (show (orbL n e s : Int) ≠ 0 by omega)
  have h2 := Int.emod_lt_of_pos ((k : Int) + c) (show (0 : Int) < orbL n e s by omega)
  rw [orb_ap (by omega)]
  unfold pwI
  split
  · rename_i hc
    have e1 : it e k s = ap (pw n e (-c).toNat) (it e (((k : Int) + c) % (orbL n e s : Int)).toNat s) := by
      rw [pw_ap (it_lt p _ hs), ← it_add, it_mod p hs k, it_mod p hs (_ + _)]
      congr 1
      have : (((((k : Int) + c) % (orbL n e s : Int)).toNat + (-c).toNat : Nat) : Int) % (orbL n e s : Int) = (k : Int) % (orbL n e s : Int) := by
        rw [Int.natCast_add, Int.toNat_of_nonneg h1, Int.emod_add_emod]
        congr 1
        omega
      have e3 : ((k % orbL n e s : Nat) : Int) = (((((k : Int) + c) % (orbL n e s : Int)).toNat + (-c).toNat) % orbL n e s : Nat) := by
        rw [Int.natCast_emod, Int.natCast_emod, this]
      exact Int.ofNat_inj.mp e3
    rw [e1, inv_ap (pw_isP p _) (it_lt p _ hs)]
  · rename_i hc
    rw [pw_ap (it_lt p _ hs), ← it_add, it_mod p hs (k + c.toNat)]
    congr 1
    have e3 : (((((k : Int) + c) % (orbL n e s : Int)).toNat : Nat) : Int) = ((k + c.toNat) % orbL n e s : Nat) := by
      rw [Int.toNat_of_nonneg h1, Int.natCast_emod]
      congr 1
      omega
    exact Int.ofNat_inj.mp e3
theorem rep_fst (c : Int) (cs : List (List Nat)) : ((cs.map (repP c)).flatten).map (·.1) = cs.flatten := by
  induction cs with
  | nil => rfl
  | cons x cs ih =>
    rw [List.map_cons, List.flatten_cons, List.flatten_cons, List.map_append, ih]
    congr 1
    unfold repP
    rw [List.map_map]
    exact List.zipIdx_map_fst 0 x
theorem rep_eq {n : Nat} {e : List Nat} (p : IsP n e) (c : Int) : rep n e c = pwI n e c := by
  have ok := cycs_ok p (Nat.le_refl n)
  have hlen : (rep n e c).length = n := by
    unfold rep
    rw [inv_len_fold]
    simp
  apply ext_ap (by rw [hlen, (pwI_isP p c).len])
  intro x hx
  rw [hlen] at hx
  obtain ⟨cy, hc, hm⟩ := List.mem_flatten.mp (ok.all x hx)
  obtain ⟨s, _, hs, rfl⟩ := ok.orb cy hc
  obtain ⟨k, hk, e1⟩ := List.getElem_of_mem hm
  rw [orb_len] at hk
  have e2 : it e k s = x := by
    have := orb_get (n := n) (e := e) (i := s) hk
    rw [List.getElem?_eq_getElem (by rw [orb_len]; exact hk), e1] at this
    exact (Option.some.inj this).symm
  refine fold_at _ _ _ _ ?_ ?_ (by simpa using hx)
  · rw [rep_fst]
    exact ok.nd
  · rw [List.mem_flatten]
    refine ⟨repP c (orb n e s), List.mem_map_of_mem hc, ?_⟩
    unfold repP
    refine List.mem_map.mpr ⟨(x, k), ?_, ?_⟩
    · rw [List.mem_zipIdx_iff_getElem?, orb_get hk, e2]
    · simp only
      rw [orb_len, it_pwI p hs k c, e2]
end Pm

/-! Pt: plans, visits, exchanges and ticks as plain functions; ticks as permutations of places. -/
namespace Sp
open Pm
structure Plan where
  sizes : List Nat
  routes : List (List (Option Nat))
structure Plan.Ok (p : Plan) : Prop where
  s1 : 1 ≤ p.sizes.length
  s2 : p.sizes.length ≤ 12
  s3 : ∀ s ∈ p.sizes, s ≤ 9
  r1 : 1 ≤ p.routes.length
  r2 : p.routes.length ≤ 6
  r3 : ∀ r ∈ p.routes, 1 ≤ r.length ∧ r.length ≤ 6 ∧ ∀ x, some x ∈ r → x < p.sizes.length
def entryAt (r : List (Option Nat)) (t : Int) : Option Nat := (r[((t - 1) % (r.length : Int)).toNat]?).join
def visStep (t : Int) (x : List (Option Nat) × Nat) : Option (Nat × Nat) := (entryAt x.1 t).map fun s => (x.2, s)
def visits (p : Plan) (t : Int) : List (Nat × Nat) := p.routes.zipIdx.filterMap (visStep t)
theorem visits_len (p : Plan) (t : Int) : (visits p t).length ≤ p.routes.length := by
  unfold visits
  refine Nat.le_trans (List.length_filterMap_le _ _) ?_
  rw [List.length_zipIdx]
  exact Nat.le_refl _
def total (p : Plan) : Nat := p.routes.length + p.sizes.sum
def firstOn (p : Plan) (s : Nat) : Nat := p.routes.length + (p.sizes.take s).sum
def exch (p : Plan) (v : Nat × Nat) (xs : List Nat) : List Nat :=
  if p.sizes.getD v.2 0 = 0 then xs else
    (xs.take (firstOn p v.2) ++ ((xs.drop (firstOn p v.2 + 1)).take (p.sizes.getD v.2 0 - 1) ++ [xs.getD v.1 0]) ++ xs.drop (firstOn p v.2 + p.sizes.getD v.2 0)).set v.1 (xs.getD (firstOn p v.2) 0)
theorem sum_split : ∀ (xs : List Nat) (s : Nat), s < xs.length → (xs.take s).sum + xs.getD s 0 ≤ xs.sum
  | [], s, h => by simp at h
  | x :: xs, 0, h => by simp
  | x :: xs, s + 1, h => by
    have := sum_split xs s (by simpa using h)
    simp only [List.take_succ_cons, List.sum_cons, List.getD_cons_succ]
    omega
theorem firstOn_le {p : Plan} {s : Nat} (h : s < p.sizes.length) : firstOn p s + p.sizes.getD s 0 ≤ total p := by
  have := sum_split p.sizes s h
  unfold firstOn total
  omega
theorem total_le {p : Plan} (o : p.Ok) : total p ≤ 114 := by
  have h1 : ∀ xs : List Nat, (∀ s ∈ xs, s ≤ 9) → xs.sum ≤ 9 * xs.length := by
    intro xs
    induction xs with
    | nil => intro _; simp
    | cons x xs ih =>
      intro h
      have a := h x (by simp)
      have b := ih fun s hs => h s (by simp [hs])
      simp only [List.sum_cons, List.length_cons]
      omega
  have := h1 p.sizes o.s3
  have := o.s2
  have := o.r2
  unfold total
  omega
theorem exch_len {p : Plan} {v : Nat × Nat} {xs : List Nat} (hl : xs.length = total p) (hs : v.2 < p.sizes.length) : (exch p v xs).length = total p := by
  have hf := firstOn_le hs
  unfold exch
  split
  · exact hl
  · simp only [List.length_set, List.length_append, List.length_take, List.length_drop, List.length_cons, List.length_nil]
    omega
theorem visits_mem {p : Plan} (o : p.Ok) {t : Int} {v : Nat × Nat} (h : v ∈ visits p t) : v.1 < p.routes.length ∧ v.2 < p.sizes.length := by
  unfold visits at h
  obtain ⟨⟨r, k⟩, hm, e⟩ := List.mem_filterMap.mp h
  have q := List.mem_zipIdx hm
  obtain ⟨s, es, ev⟩ := Option.map_eq_some_iff.mp (show (entryAt r t).map (fun s => (k, s)) = some v from e)
  subst ev
  refine ⟨by have := q.2.1; omega, ?_⟩
  have hr : r ∈ p.routes := q.2.2 ▸ List.getElem_mem _
  obtain ⟨_, _, r3⟩ := o.r3 r hr
  apply r3
  unfold entryAt at es
  cases e2 : r[((t - 1) % (r.length : Int)).toNat]? with
  | none => rw [e2] at es; cases es
  | some a =>
    rw [e2] at es
    have : a = some s := es
    rw [← this]
    exact List.mem_of_getElem? e2
def runTick (p : Plan) (t : Int) (xs : List Nat) : List Nat := (visits p t).foldl (fun xs v => exch p v xs) xs
theorem fold_len {p : Plan} (vs : List (Nat × Nat)) (hv : ∀ v ∈ vs, v.2 < p.sizes.length) : ∀ {xs : List Nat}, xs.length = total p → (vs.foldl (fun xs v => exch p v xs) xs).length = total p := by
  induction vs with
  | nil => intro xs h; exact h
  | cons v vs ih => intro xs h; exact ih (fun w hw => hv w (by simp [hw])) (exch_len h (hv v (by simp)))
theorem runTick_len {p : Plan} (o : p.Ok) (t : Int) {xs : List Nat} (hl : xs.length = total p) : (runTick p t xs).length = total p := fold_len _ (fun v hv => (visits_mem o hv).2) hl
/-- an exchange moves what there is -/
theorem exch_perm {p : Plan} {v : Nat × Nat} {xs : List Nat} (hl : xs.length = total p) (hc : v.1 < p.routes.length) (hs : v.2 < p.sizes.length) : List.Perm (exch p v xs) xs := by
  have hf := firstOn_le hs
  have hcf : v.1 < firstOn p v.2 := by unfold firstOn; omega
  unfold exch
  generalize p.sizes.getD v.2 0 = sz at *
  generalize firstOn p v.2 = f at *
  generalize v.1 = c at *
  split
  · exact List.Perm.refl _
  · rename_i hz
    have e1 : xs = (xs.take c ++ xs.getD c 0 :: (xs.take f).drop (c + 1)) ++ xs.getD f 0 :: ((xs.drop (f + 1)).take (sz - 1) ++ xs.drop (f + sz)) := by
      have a1 : xs.take c ++ xs.getD c 0 :: (xs.take f).drop (c + 1) = xs.take f := by
        have := List.take_append_drop c (xs.take f)
        rw [List.take_take, Nat.min_eq_left (by omega)] at this
        have e2 : xs.getD c 0 :: (xs.take f).drop (c + 1) = (xs.take f).drop c := by
          rw [List.drop_eq_getElem_cons (l := xs.take f) (i := c) (by simp; omega)]
          congr 1
          rw [List.getElem_take, List.getD_eq_getElem?_getD, List.getElem?_eq_getElem (by omega)]
          rfl
        rw [e2]
        exact this
      have a2 : (xs.drop (f + 1)).take (sz - 1) ++ xs.drop (f + sz) = xs.drop (f + 1) := by
        rw [show xs.drop (f + sz) = (xs.drop (f + 1)).drop (sz - 1) by rw [List.drop_drop]; congr 1; omega, List.take_append_drop]
      rw [a1, a2, show xs.getD f 0 = xs[f]'(by omega) by rw [List.getD_eq_getElem?_getD, List.getElem?_eq_getElem (by omega)]; rfl, ← List.drop_eq_getElem_cons, List.take_append_drop]
    have e2 : (xs.take f ++ ((xs.drop (f + 1)).take (sz - 1) ++ [xs.getD c 0]) ++ xs.drop (f + sz)).set c (xs.getD f 0) =
        (xs.take c ++ xs.getD f 0 :: (xs.take f).drop (c + 1)) ++ ((xs.drop (f + 1)).take (sz - 1) ++ [xs.getD c 0]) ++ xs.drop (f + sz) := by
      rw [List.set_append_left _ _ (by simp; omega), List.set_append_left _ _ (by simp; omega), List.set_eq_take_append_cons_drop, if_pos (by simp; omega), List.take_take, Nat.min_eq_left (by omega)]
    rw [e2]
    conv => rhs; rw [e1]
    generalize xs.take c = A
    generalize (xs.take f).drop (c + 1) = B
    generalize (xs.drop (f + 1)).take (sz - 1) = M
    generalize xs.drop (f + sz) = R
    rw [List.perm_iff_count]
    intro a
    simp only [List.count_append, List.count_cons, List.count_nil]
    omega
/-- an exchange does not look at the parcels -/
theorem exch_map {p : Plan} {v : Nat × Nat} {xs : List Nat} (g : Nat → Nat) (hl : xs.length = total p) (hc : v.1 < p.routes.length) (hs : v.2 < p.sizes.length) : exch p v (xs.map g) = (exch p v xs).map g := by
  have hf := firstOn_le hs
  have hcf : v.1 < firstOn p v.2 := by unfold firstOn; omega
  unfold exch
  generalize p.sizes.getD v.2 0 = sz at *
  generalize firstOn p v.2 = f at *
  generalize v.1 = c at *
  split
  · rfl
  · have h1 : ∀ k, k < xs.length → (xs.map g).getD k 0 = g (xs.getD k 0) := by
      intro k hk
      simp [hk]
    rw [h1 c (by omega), h1 f (by omega), List.map_set]
    simp only [List.map_append, List.map_take, List.map_drop, List.map_cons, List.map_nil]
theorem fold_perm {p : Plan} (vs : List (Nat × Nat)) (hv : ∀ v ∈ vs, v.1 < p.routes.length ∧ v.2 < p.sizes.length) : ∀ {xs : List Nat}, xs.length = total p → List.Perm (vs.foldl (fun xs v => exch p v xs) xs) xs := by
  induction vs with
  | nil => intro xs h; exact List.Perm.refl _
  | cons v vs ih => intro xs h; exact (ih (fun w hw => hv w (by simp [hw])) (exch_len h (hv v (by simp)).2)).trans (exch_perm h (hv v (by simp)).1 (hv v (by simp)).2)
theorem fold_map {p : Plan} (g : Nat → Nat) (vs : List (Nat × Nat)) (hv : ∀ v ∈ vs, v.1 < p.routes.length ∧ v.2 < p.sizes.length) : ∀ {xs : List Nat}, xs.length = total p → vs.foldl (fun xs v => exch p v xs) (xs.map g) = (vs.foldl (fun xs v => exch p v xs) xs).map g := by
  induction vs with
  | nil => intro xs h; rfl
  | cons v vs ih =>
    intro xs h
    rw [List.foldl_cons, List.foldl_cons, exch_map g h (hv v (by simp)).1 (hv v (by simp)).2]
    exact ih (fun w hw => hv w (by simp [hw])) (exch_len h (hv v (by simp)).2)
theorem runTick_perm {p : Plan} (o : p.Ok) (t : Int) {xs : List Nat} (hl : xs.length = total p) : List.Perm (runTick p t xs) xs := fold_perm _ (fun _ hv => visits_mem o hv) hl
theorem runTick_map {p : Plan} (o : p.Ok) (t : Int) (g : Nat → Nat) {xs : List Nat} (hl : xs.length = total p) : runTick p t (xs.map g) = (runTick p t xs).map g := fold_map g _ (fun _ hv => visits_mem o hv) hl
/-! ### ticks one behind another -/
def run (p : Plan) (t : Int) : Nat → List Nat → List Nat
  | 0, xs => xs
  | k + 1, xs => runTick p (t + k + 1) (run p t k xs)
theorem run_len {p : Plan} (o : p.Ok) (t : Int) : ∀ (k : Nat) {xs : List Nat}, xs.length = total p → (run p t k xs).length = total p
  | 0, _, h => h
  | k + 1, _, h => runTick_len o _ (run_len o t k h)
theorem run_perm {p : Plan} (o : p.Ok) (t : Int) : ∀ (k : Nat) {xs : List Nat}, xs.length = total p → List.Perm (run p t k xs) xs
  | 0, _, h => List.Perm.refl _
  | k + 1, _, h => (runTick_perm o _ (run_len o t k h)).trans (run_perm o t k h)
theorem run_map {p : Plan} (o : p.Ok) (t : Int) (g : Nat → Nat) : ∀ (k : Nat) {xs : List Nat}, xs.length = total p → run p t k (xs.map g) = (run p t k xs).map g
  | 0, _, h => rfl
  | k + 1, xs, h => by
    show runTick p _ (run p t k (xs.map g)) = (runTick p _ (run p t k xs)).map g
    rw [run_map o t g k h, runTick_map o _ g (run_len o t k h)]
theorem run_add (p : Plan) (t : Int) (a : Nat) : ∀ (b : Nat) (xs : List Nat), run p t (a + b) xs = run p (t + a) b (run p t a xs)
  | 0, _ => rfl
  | b + 1, xs => by
    show runTick p (t + ((a + b : Nat) : Int) + 1) (run p t (a + b) xs) = runTick p (t + a + b + 1) (run p (t + a) b (run p t a xs))
    rw [run_add p t a b xs]
    congr 1
    omega
/-- which parcel of the start is at a place -/
def cont (p : Plan) (t : Int) (k : Nat) : List Nat := run p t k (ids (total p))
theorem cont_isP {p : Plan} (o : p.Ok) (t : Int) (k : Nat) : IsP (total p) (cont p t k) := by
  have h := run_perm o t k (ids_len (total p))
  have q := ids_isP (total p)
  exact ⟨by unfold cont; rw [h.length_eq, q.len], h.nodup_iff.mpr q.nd, fun x hx => q.lt x (h.mem_iff.mp hx)⟩
theorem map_ids {n : Nat} {xs : List Nat} (h : xs.length = n) : (ids n).map (ap xs) = xs := ids_comp h
theorem run_eq {p : Plan} (o : p.Ok) (t : Int) (k : Nat) {xs : List Nat} (h : xs.length = total p) : run p t k xs = comp (cont p t k) xs := by
  conv => lhs; rw [← map_ids h]
  rw [run_map o t _ k (ids_len _)]
  rfl
theorem cont_add {p : Plan} (o : p.Ok) (t : Int) (a b : Nat) : cont p t (a + b) = comp (cont p (t + a) b) (cont p t a) := by
  unfold cont
  rw [run_add, run_eq o (t + a) b (run_len o t a (ids_len _))]
  rfl
/-- the effect of ticks -/
def eff (p : Plan) (t : Int) (k : Nat) : List Nat := inv (cont p t k)
theorem eff_isP {p : Plan} (o : p.Ok) (t : Int) (k : Nat) : IsP (total p) (eff p t k) := inv_isP (cont_isP o t k)
theorem eff_add {p : Plan} (o : p.Ok) (t : Int) (a b : Nat) : eff p t (a + b) = comp (eff p t a) (eff p (t + a) b) := by
  unfold eff
  rw [cont_add o, inv_of_comp (cont_isP o _ _) (cont_isP o _ _)]
theorem eff_zero (p : Plan) (t : Int) : eff p t 0 = ids (total p) := inv_ids _
/-- the effect of any number of ticks -/
def effI (p : Plan) (t : Int) (a : Int) : List Nat := if a < 0 then inv (eff p (t + a) (-a).toNat) else eff p t a.toNat
theorem effI_isP {p : Plan} (o : p.Ok) (t : Int) (a : Int) : IsP (total p) (effI p t a) := by
  unfold effI
  split
  · exact inv_isP (eff_isP o _ _)
  · exact eff_isP o _ _
/-- from a time before all of it -/
theorem effI_base {p : Plan} (o : p.Ok) {T t a : Int} (h1 : T ≤ t) (h2 : T ≤ t + a) : effI p t a = comp (inv (eff p T (t - T).toNat)) (eff p T (t + a - T).toNat) := by
  have q1 := eff_isP o T (t - T).toNat
  have q2 := eff_isP o T (t + a - T).toNat
  unfold effI
  split
  · have e1 := eff_add o T (t + a - T).toNat (-a).toNat
    rw [show (t + a - T).toNat + (-a).toNat = (t - T).toNat by omega, show T + ((t + a - T).toNat : Int) = t + a by omega] at e1
    have q3 := eff_isP o (t + a) (-a).toNat
    rw [e1, inv_of_comp q2 q3, comp_assoc (inv_isP q3) (inv_isP q2).len, inv_comp q2, comp_ids (inv_isP q3)]
  · have e1 := eff_add o T (t - T).toNat a.toNat
    rw [show (t - T).toNat + a.toNat = (t + a - T).toNat by omega, show T + ((t - T).toNat : Int) = t by omega] at e1
    rw [e1, ← comp_assoc (inv_isP q1) q1.len, inv_comp q1, ids_comp (eff_isP o _ _).len]
theorem effI_add {p : Plan} (o : p.Ok) (t a b : Int) : effI p t (a + b) = comp (effI p t a) (effI p (t + a) b) := by
  obtain ⟨T, h1, h2, h3⟩ : ∃ T : Int, T ≤ t ∧ T ≤ t + a ∧ T ≤ t + a + b := ⟨t - a.natAbs - b.natAbs, by omega, by omega, by omega⟩
  rw [effI_base o h1 h2, effI_base o h1 (a := a + b) (by omega), effI_base o h2 h3]
  have q1 := eff_isP o T (t - T).toNat
  have q2 := eff_isP o T (t + a - T).toNat
  have q3 := eff_isP o T (t + a + b - T).toNat
  rw [comp_assoc (inv_isP q1) q2.len, ← comp_assoc q2 (inv_isP q2).len, comp_inv q2, ids_comp q3.len, show t + (a + b) - T = t + a + b - T by omega]
theorem effI_zero (p : Plan) (t : Int) : effI p t 0 = ids (total p) := by
  unfold effI
  rw [if_neg (by omega)]
  exact eff_zero p t
theorem effI_neg {p : Plan} (o : p.Ok) (t a : Int) : effI p t (-a) = inv (effI p (t - a) a) := by
  have h := effI_add o (t - a) a (-a)
  rw [show a + -a = 0 by omega, effI_zero, show t - a + a = t by omega] at h
  exact inv_unique (effI_isP o _ _) (effI_isP o _ _) h.symm
theorem effI_nat (p : Plan) (t : Int) (k : Nat) : effI p t k = eff p t k := by
  unfold effI
  rw [if_neg (by omega), Int.toNat_natCast]
/-! ### the pattern -/
def Periodic (p : Plan) (L : Nat) : Prop := ∀ t, visits p (t + L) = visits p t
theorem run_per {p : Plan} {L : Nat} (h : Periodic p L) (t : Int) : ∀ (k : Nat) (xs : List Nat), run p (t + L) k xs = run p t k xs
  | 0, _ => rfl
  | k + 1, xs => by
    show runTick p (t + L + k + 1) (run p (t + L) k xs) = runTick p (t + k + 1) (run p t k xs)
    rw [run_per h t k xs]
    unfold runTick
    rw [show t + (L : Int) + k + 1 = t + k + 1 + L by omega, h]
theorem eff_per {p : Plan} {L : Nat} (h : Periodic p L) (t : Int) (k : Nat) : eff p (t + L) k = eff p t k := by
  unfold eff cont
  rw [run_per h]
theorem eff_pers {p : Plan} {L : Nat} (h : Periodic p L) (t : Int) (k : Nat) : ∀ q : Nat, eff p (t + (L * q : Nat)) k = eff p t k
  | 0 => by congr 1; simp
  | q + 1 => by
    rw [show t + ((L * (q + 1) : Nat) : Int) = t + ((L * q : Nat) : Int) + L by rw [Nat.mul_add]; omega, eff_per h, eff_pers h t k q]
theorem eff_pow {p : Plan} (o : p.Ok) {L : Nat} (h : Periodic p L) (t : Int) : ∀ q : Nat, eff p t (L * q) = pw (total p) (eff p t L) q
  | 0 => by rw [pw_zero]; exact eff_zero p t
  | q + 1 => by
    rw [Nat.mul_add, Nat.mul_one, eff_add o, eff_pow o h t q, eff_pers h, pw_add (eff_isP o t L), pw_one (eff_isP o t L)]
theorem eff_split {p : Plan} (o : p.Ok) {L : Nat} (h : Periodic p L) (t : Int) (k : Nat) : eff p t k = comp (pw (total p) (eff p t L) (k / L)) (eff p t (k - k / L * L)) := by
  have e : k = L * (k / L) + (k - k / L * L) := by
    have := Nat.div_mul_le_self k L
    rw [Nat.mul_comm L]
    omega
  conv => lhs; rw [e]
  rw [eff_add o, eff_pow o h, eff_pers h]
/-! ### a route's period -/
def RPer (r : List (Option Nat)) (d : Nat) : Prop := 1 ≤ d ∧ d ∣ r.length ∧ ∀ i, i < r.length → r[i]? = r[i % d]?
theorem entry_per {r : List (Option Nat)} {d L : Nat} (h : RPer r d) (hr : 1 ≤ r.length) (hL : d ∣ L) (t : Int) : entryAt r (t + L) = entryAt r t := by
  obtain ⟨h1, h2, h3⟩ := h
  have key : ∀ u : Int, r[(u % (r.length : Int)).toNat]? = r[(u % (d : Int)).toNat]? := by
    intro u
    have a1 := Int.emod_nonneg u (show (r.length : Int) ≠ 0 by omega)
    have a2 := Int.emod_lt_of_pos u (show (0 : Int) < r.length by omega)
    rw [h3 _ (by omega)]
    congr 1
    have e1 : ((u % (r.length : Int)).toNat % d : Nat) = ((u % (r.length : Int)) % (d : Int)).toNat := by
      have : (((u % (r.length : Int)).toNat % d : Nat) : Int) = (u % (r.length : Int)) % (d : Int) := by
        rw [Int.natCast_emod, Int.toNat_of_nonneg a1]
      omega
    rw [e1, Int.emod_emod_of_dvd u (Int.natCast_dvd_natCast.mpr h2)]
  unfold entryAt
  rw [key, key]
  obtain ⟨m, hm⟩ := hL
  congr 3
  rw [hm, show t + ((d * m : Nat) : Int) - 1 = (t - 1) + (d : Int) * (m : Int) by rw [Int.natCast_mul]; omega, Int.add_mul_emod_self_left]
theorem filterMap_congr' {α β : Type} {f g : α → Option β} : ∀ {xs : List α}, (∀ x ∈ xs, f x = g x) → xs.filterMap f = xs.filterMap g
  | [], _ => rfl
  | x :: xs, h => by rw [List.filterMap_cons, List.filterMap_cons, h x (by simp), filterMap_congr' (xs := xs) fun y hy => h y (by simp [hy])]
theorem periodic_of {p : Plan} (o : p.Ok) {L : Nat} (h : ∀ r ∈ p.routes, ∃ d, RPer r d ∧ d ∣ L) : Periodic p L := by
  intro t
  unfold visits
  apply filterMap_congr'
  intro x hx
  obtain ⟨r, k⟩ := x
  have q := List.mem_zipIdx hx
  have hr : r ∈ p.routes := q.2.2 ▸ List.getElem_mem _
  obtain ⟨d, h1, h2⟩ := h r hr
  unfold visStep
  simp only
  rw [entry_per h1 (o.r3 r hr).1 h2]
theorem rper_of_cond {r : List (Option Nat)} {d : Nat} (hd : 1 ≤ d) (h1 : r.length / d * d = r.length) (h2 : r = (List.replicate (r.length / d) (r.take d)).flatten) : RPer r d := by
  refine ⟨hd, ⟨r.length / d, by rw [Nat.mul_comm]; exact h1.symm⟩, ?_⟩
  have key : ∀ (k : Nat) (x : List (Option Nat)), x.length = d → ∀ i, i < k * d → (List.replicate k x).flatten[i]? = x[i % d]? := by
    intro k x hx
    induction k with
    | zero => intro i hi; omega
    | succ k ih =>
      intro i hi
      rw [List.replicate_succ, List.flatten_cons]
      by_cases hlt : i < d
      · rw [List.getElem?_append_left (by omega), Nat.mod_eq_of_lt hlt]
      · rw [List.getElem?_append_right (by omega), hx, ih (i - d) (by rw [Nat.add_mul] at hi; omega)]
        congr 1
        exact (Nat.mod_eq_sub_mod (by omega)).symm
  intro i hi
  by_cases hz : r.length / d = 0
  · rw [hz] at h1
    omega
  · have hle : d ≤ r.length := by
      have : 1 * d ≤ r.length / d * d := Nat.mul_le_mul_right d (Nat.pos_of_ne_zero hz)
      omega
    have hx : (r.take d).length = d := by rw [List.length_take]; omega
    have e1 := key (r.length / d) (r.take d) hx i (by omega)
    rw [← h2] at e1
    rw [e1, List.getElem?_take, if_pos (Nat.mod_lt _ hd)]
def rcond (r : List (Option Nat)) (d : Nat) : Bool := decide (r.length / d * d = r.length) && decide (r = (List.replicate (r.length / d) (r.take d)).flatten)
/-- a route's smallest period -/
def rper (r : List (Option Nat)) : Nat := ((List.range' 1 (r.length - 1)).find? (rcond r)).getD r.length
theorem rper_ok {r : List (Option Nat)} (hr : 1 ≤ r.length) : RPer r (rper r) ∧ rper r ≤ r.length := by
  unfold rper
  cases e : (List.range' 1 (r.length - 1)).find? (rcond r) with
  | none => exact ⟨⟨hr, ⟨1, by simp⟩, fun i hi => by rw [Option.getD_none, Nat.mod_eq_of_lt hi]⟩, Nat.le_refl _⟩
  | some d =>
    have h1 := List.find?_some e
    have h2 := List.mem_range'_1.mp (List.mem_of_find?_eq_some e)
    unfold rcond at h1
    rw [Bool.and_eq_true, decide_eq_true_eq, decide_eq_true_eq] at h1
    exact ⟨rper_of_cond h2.1 h1.1 h1.2, by simp; omega⟩
/-- the pattern length -/
def patL (p : Plan) : Nat := p.routes.foldl (fun L r => Nat.lcm L (rper r)) 1
theorem lcm_fold (f : List (Option Nat) → Nat) : ∀ (rs : List (List (Option Nat))) (L : Nat), L ∣ rs.foldl (fun L r => Nat.lcm L (f r)) L ∧ (∀ r ∈ rs, f r ∣ rs.foldl (fun L r => Nat.lcm L (f r)) L) ∧ ∀ M, L ∣ M → (∀ r ∈ rs, f r ∣ M) → rs.foldl (fun L r => Nat.lcm L (f r)) L ∣ M
  | [], L => ⟨Nat.dvd_refl _, (fun _ h => nomatch h), fun M h _ => h⟩
  | r :: rs, L => by
    obtain ⟨h1, h2, h3⟩ := lcm_fold f rs (Nat.lcm L (f r))
    refine ⟨Nat.dvd_trans (Nat.dvd_lcm_left _ _) h1, fun x hx => ?_, fun M hL hM => ?_⟩
    · rcases List.mem_cons.mp hx with rfl | hx
      · exact Nat.dvd_trans (Nat.dvd_lcm_right _ _) h1
      · exact h2 x hx
    · exact h3 M (Nat.lcm_dvd hL (hM r (by simp))) fun x hx => hM x (by simp [hx])
theorem patL_per {p : Plan} (o : p.Ok) : Periodic p (patL p) := periodic_of o fun r hr => ⟨rper r, (rper_ok (o.r3 r hr).1).1, (lcm_fold rper p.routes 1).2.1 r hr⟩
theorem patL_60 {p : Plan} (o : p.Ok) : patL p ∣ 60 := (lcm_fold rper p.routes 1).2.2 60 ⟨60, rfl⟩ fun r hr => by
  obtain ⟨h1, h2, h3⟩ := o.r3 r hr
  obtain ⟨h4, h5⟩ := rper_ok h1
  have h6 := h4.1
  have : rper r = 1 ∨ rper r = 2 ∨ rper r = 3 ∨ rper r = 4 ∨ rper r = 5 ∨ rper r = 6 := by omega
  rcases this with e | e | e | e | e | e <;> rw [e] <;> decide
theorem patL_pos {p : Plan} (o : p.Ok) : 1 ≤ patL p := Nat.pos_of_dvd_of_pos (patL_60 o) (by decide)
theorem patL_le {p : Plan} (o : p.Ok) : patL p ≤ 60 := Nat.le_of_dvd (by decide) (patL_60 o)
/-! ### places -/
inductive Pl where
  | car (c : Nat) | sh (s k : Nat)
deriving DecidableEq
def shl (q : Nat × Nat) : List Pl := (List.range q.1).map (Pl.sh q.2)
def plsTo (p : Plan) (j : Nat) : List Pl := (List.range p.routes.length).map .car ++ ((p.sizes.zipIdx.take j).map shl).flatten
def pls (p : Plan) : List Pl := plsTo p p.sizes.length
theorem plsTo_succ {p : Plan} {j : Nat} {q : Nat × Nat} (h : p.sizes.zipIdx[j]? = some q) : plsTo p (j + 1) = plsTo p j ++ shl q := by
  unfold plsTo
  rw [List.take_add_one, h]
  simp
theorem zip_flat_len : ∀ (xs : List Nat) (k : Nat), ((xs.zipIdx k).map shl).flatten.length = xs.sum
  | [], _ => rfl
  | x :: xs, k => by
    rw [List.zipIdx_cons, List.map_cons, List.flatten_cons, List.length_append, zip_flat_len xs, List.sum_cons]
    simp [shl]
theorem pls_len (p : Plan) : (pls p).length = total p := by
  unfold pls plsTo total
  rw [List.length_append, List.take_of_length_le (by simp), zip_flat_len]
  simp
theorem plsTo_len (p : Plan) (j : Nat) : (plsTo p j).length ≤ total p := by
  rw [← pls_len]
  unfold pls plsTo
  rw [List.length_append, List.length_append, List.take_of_length_le (i := p.sizes.length) (by simp)]
  refine Nat.add_le_add_left ?_ _
  conv => rhs; rw [← List.take_append_drop j p.sizes.zipIdx]
  rw [List.map_append, List.flatten_append, List.length_append]
  omega
/-! ### states -/
structure St where
  time : Int
  carried : List Nat
  shelves : List (List Nat)
def St.cont (s : St) : List Nat := s.carried ++ s.shelves.flatten
structure St.Ok (p : Plan) (s : St) : Prop where
  t1 : -(10 ^ 30) ≤ s.time
  t2 : s.time ≤ 10 ^ 30
  c : s.carried.length = p.routes.length
  z : s.shelves.map List.length = p.sizes
  nd : s.cont.Nodup
  r : ∀ x ∈ s.cont, 1 ≤ x ∧ x ≤ 999
def cutS : List Nat → List Nat → List (List Nat)
  | [], _ => []
  | z :: zs, xs => xs.take z :: cutS zs (xs.drop z)
def stOf (p : Plan) (t : Int) (xs : List Nat) : St := ⟨t, xs.take p.routes.length, cutS p.sizes (xs.drop p.routes.length)⟩
theorem cutS_flat : ∀ {zs xs : List Nat}, xs.length = zs.sum → (cutS zs xs).flatten = xs
  | [], xs, h => by
    have : xs = [] := List.eq_nil_of_length_eq_zero (by simpa using h)
    rw [this]
    rfl
  | z :: zs, xs, h => by
    rw [List.sum_cons] at h
    show xs.take z ++ (cutS zs (xs.drop z)).flatten = xs
    rw [cutS_flat (zs := zs) (by rw [List.length_drop]; omega), List.take_append_drop]
theorem cutS_snoc (z : Nat) : ∀ (zs ys : List Nat), cutS (zs ++ [z]) ys = cutS zs ys ++ [(ys.drop zs.sum).take z]
  | [], ys => rfl
  | y :: zs, ys => by
    show ys.take y :: cutS (zs ++ [z]) (ys.drop y) = ys.take y :: cutS zs (ys.drop y) ++ [(ys.drop (y :: zs).sum).take z]
    rw [cutS_snoc z zs, List.drop_drop, List.sum_cons]
    rfl
theorem cutS_lens : ∀ {zs xs : List Nat}, xs.length = zs.sum → (cutS zs xs).map List.length = zs
  | [], xs, h => rfl
  | z :: zs, xs, h => by
    rw [List.sum_cons] at h
    show (xs.take z).length :: (cutS zs (xs.drop z)).map List.length = z :: zs
    rw [cutS_lens (zs := zs) (by rw [List.length_drop]; omega), List.length_take, Nat.min_eq_left (by omega)]
theorem cutS_of : ∀ (ss : List (List Nat)), cutS (ss.map List.length) ss.flatten = ss
  | [] => rfl
  | s :: ss => by
    show (s ++ ss.flatten).take s.length :: cutS (ss.map List.length) ((s ++ ss.flatten).drop s.length) = s :: ss
    rw [List.take_left, List.drop_left, cutS_of ss]
theorem sum_lens : ∀ (ss : List (List Nat)), ss.flatten.length = (ss.map List.length).sum
  | [] => rfl
  | s :: ss => by rw [List.flatten_cons, List.length_append, sum_lens ss]; rfl
theorem St.Ok.len {p : Plan} {s : St} (o : s.Ok p) : s.cont.length = total p := by
  unfold St.cont total
  rw [List.length_append, o.c, sum_lens, o.z]
theorem stOf_cont {p : Plan} {t : Int} {xs : List Nat} (h : xs.length = total p) : (stOf p t xs).cont = xs := by
  unfold St.cont stOf
  simp only
  rw [cutS_flat (by rw [List.length_drop, h]; unfold total; omega), List.take_append_drop]
theorem stOf_self {p : Plan} {s : St} (o : s.Ok p) : stOf p s.time s.cont = s := by
  unfold stOf St.cont
  rw [← o.c, List.take_left, List.drop_left, ← o.z, cutS_of]
theorem stOf_ok {p : Plan} {t : Int} {xs : List Nat} (h1 : -(10 ^ 30) ≤ t) (h2 : t ≤ 10 ^ 30) (h : xs.length = total p) (hn : xs.Nodup) (hr : ∀ x ∈ xs, 1 ≤ x ∧ x ≤ 999) : (stOf p t xs).Ok p := by
  refine ⟨h1, h2, ?_, ?_, by rw [stOf_cont h]; exact hn, by rw [stOf_cont h]; exact hr⟩
  · unfold stOf
    simp only
    rw [List.length_take, h]
    unfold total
    omega
  · exact cutS_lens (by rw [List.length_drop, h]; unfold total; omega)
/-- the parcels moved by an effect -/
def mv (e xs : List Nat) : List Nat := (e.zipIdx.map fun q => (q.1, ap xs q.2)).foldl invStep (List.replicate xs.length 0)
theorem mv_eq {n : Nat} {e xs : List Nat} (p : IsP n e) (h : xs.length = n) : mv e xs = comp (inv e) xs := by
  have hl : (mv e xs).length = n := by
    unfold mv
    rw [inv_len_fold, List.length_replicate, h]
  have hp : ((e.zipIdx.map fun q => (q.1, ap xs q.2)).map (·.1)) = e := by
    rw [List.map_map]
    exact List.zipIdx_map_fst 0 e
  apply ext_ap (by rw [hl, comp_len, (inv_isP p).len])
  intro i hi
  rw [hl] at hi
  obtain ⟨k, hk, rfl⟩ := p.surj hi
  rw [comp_ap (by rw [(inv_isP p).len]; exact hi), inv_ap p hk]
  refine fold_at _ _ _ _ (by rw [hp]; exact p.nd) ?_ (by rw [List.length_replicate, h]; exact hi)
  refine List.mem_map.mpr ⟨(ap e k, k), ?_, rfl⟩
  rw [List.mem_zipIdx_iff_getElem?]
  exact ap_some (by rw [p.len]; exact hk)
theorem comp_perm {n : Nat} {e xs : List Nat} (p : IsP n e) (h : xs.length = n) : List.Perm (comp e xs) xs := by
  have h1 : List.Perm e (ids n) := by
    rw [List.perm_iff_count]
    intro a
    have := ids_isP n
    rw [p.nd.count, this.nd.count]
    by_cases ha : a < n
    · rw [if_pos (p.mem ha), if_pos (this.mem ha)]
    · rw [if_neg (fun h => ha (p.lt _ h)), if_neg (fun h => ha (this.lt _ h))]
  have := h1.map (ap xs)
  rw [map_ids h] at this
  exact this
/-- the state after ticks -/
def adv (p : Plan) (s : St) (c : Int) : St := stOf p (s.time + c) (comp (inv (effI p s.time c)) s.cont)
theorem adv_perm {p : Plan} (o : p.Ok) {s : St} (q : s.Ok p) (c : Int) : List.Perm (comp (inv (effI p s.time c)) s.cont) s.cont := comp_perm (inv_isP (effI_isP o _ _)) q.len
theorem adv_len {p : Plan} (o : p.Ok) {s : St} (q : s.Ok p) (c : Int) : (comp (inv (effI p s.time c)) s.cont).length = total p := by
  rw [(adv_perm o q c).length_eq, q.len]
theorem adv_ok {p : Plan} (o : p.Ok) {s : St} (q : s.Ok p) {c : Int} (h1 : -(10 ^ 30) ≤ s.time + c) (h2 : s.time + c ≤ 10 ^ 30) : (adv p s c).Ok p :=
  stOf_ok h1 h2 (adv_len o q c) ((adv_perm o q c).nodup_iff.mpr q.nd) fun x hx => q.r x ((adv_perm o q c).mem_iff.mp hx)
theorem adv_cont {p : Plan} (o : p.Ok) {s : St} (q : s.Ok p) (c : Int) : (adv p s c).cont = comp (inv (effI p s.time c)) s.cont := stOf_cont (adv_len o q c)
theorem adv_adv {p : Plan} (o : p.Ok) {s : St} (q : s.Ok p) (c d : Int) : adv p (adv p s c) d = adv p s (c + d) := by
  have q1 := effI_isP o s.time c
  have q2 := effI_isP o (s.time + c) d
  unfold adv
  rw [stOf_cont (adv_len o q c), effI_add o, inv_of_comp q1 q2, comp_assoc (inv_isP q2) (inv_isP q1).len]
  show stOf p (s.time + c + d) _ = stOf p (s.time + (c + d)) _
  rw [Int.add_assoc]
  rfl
theorem adv_zero {p : Plan} {s : St} (q : s.Ok p) : adv p s 0 = s := by
  unfold adv
  rw [effI_zero, inv_ids, ids_comp q.len, Int.add_zero, stOf_self q]
/-! ### the number of a place -/
def plN (p : Plan) : Pl → Nat
  | .car c => c
  | .sh s k => firstOn p s + k
theorem firstOn_succ {p : Plan} {j z : Nat} (h : p.sizes[j]? = some z) : firstOn p (j + 1) = firstOn p j + z := by
  unfold firstOn
  rw [List.take_add_one, h, List.sum_append]
  simp
  omega
theorem zip_some {xs : List Nat} {j z : Nat} (h : xs[j]? = some z) : xs.zipIdx[j]? = some (z, j) := by
  rw [List.getElem?_zipIdx, h]
  simp
theorem plsTo_at (p : Plan) : ∀ j, j ≤ p.sizes.length → (plsTo p j).length = firstOn p j ∧ ∀ i x, (plsTo p j)[i]? = some x → plN p x = i
  | 0, _ => by
    refine ⟨by simp [plsTo, firstOn], fun i x h => ?_⟩
    unfold plsTo at h
    rw [List.take_zero, List.map_nil, List.flatten_nil, List.append_nil, List.getElem?_map] at h
    obtain ⟨c, hc, rfl⟩ := Option.map_eq_some_iff.mp h
    obtain ⟨h1, h2⟩ := List.getElem?_eq_some_iff.mp hc
    simp at h2
    exact h2.symm
  | j + 1, hj => by
    obtain ⟨h1, h2⟩ := plsTo_at p j (by omega)
    have hz : p.sizes[j]? = some p.sizes[j] := List.getElem?_eq_getElem (by omega)
    rw [plsTo_succ (zip_some hz), firstOn_succ hz]
    refine ⟨by rw [List.length_append, h1]; simp [shl], fun i x h => ?_⟩
    by_cases hi : i < (plsTo p j).length
    · rw [List.getElem?_append_left hi] at h
      exact h2 i x h
    · rw [List.getElem?_append_right (by omega)] at h
      unfold shl at h
      rw [List.getElem?_map] at h
      obtain ⟨k, hk, rfl⟩ := Option.map_eq_some_iff.mp h
      obtain ⟨h3, h4⟩ := List.getElem?_eq_some_iff.mp hk
      simp at h4
      show firstOn p j + k = i
      omega
theorem pls_at {p : Plan} {i : Nat} {x : Pl} (h : (pls p)[i]? = some x) : plN p x = i := (plsTo_at p _ (Nat.le_refl _)).2 i x h
def plOf (p : Plan) (i : Nat) : Pl := (pls p).getD i (.car 0)
theorem plOf_some {p : Plan} {i : Nat} (h : i < total p) : (pls p)[i]? = some (plOf p i) := by
  unfold plOf
  rw [List.getD_eq_getElem?_getD, List.getElem?_eq_getElem (by rw [pls_len]; exact h)]
  rfl
theorem plOf_inj {p : Plan} {i j : Nat} (hi : i < total p) (hj : j < total p) (h : plOf p i = plOf p j) : i = j := by
  rw [← pls_at (plOf_some hi), ← pls_at (plOf_some hj), h]
theorem plsTo_pre (p : Plan) : ∀ (d j : Nat), ∃ t, plsTo p (j + d) = plsTo p j ++ t
  | 0, j => ⟨[], by simp⟩
  | d + 1, j => by
    obtain ⟨t, ht⟩ := plsTo_pre p d j
    by_cases h : j + d < p.sizes.length
    · have hz : p.sizes[j + d]? = some p.sizes[j + d] := List.getElem?_eq_getElem h
      refine ⟨t ++ shl (p.sizes[j + d], j + d), ?_⟩
      rw [← Nat.add_assoc, plsTo_succ (zip_some hz), ht, List.append_assoc]
    · refine ⟨t, ?_⟩
      rw [← ht]
      unfold plsTo
      rw [List.take_of_length_le (by simp; omega), List.take_of_length_le (by simp; omega)]
theorem plOf_car {p : Plan} {c : Nat} (h : c < p.routes.length) : plOf p c = .car c := by
  obtain ⟨t, ht⟩ := plsTo_pre p p.sizes.length 0
  unfold plOf pls
  rw [← Nat.zero_add p.sizes.length, ht, List.getD_eq_getElem?_getD]
  unfold plsTo
  rw [List.take_zero, List.map_nil, List.flatten_nil, List.append_nil, List.getElem?_append_left (by simpa using h)]
  simp [h]
theorem plOf_sh {p : Plan} {s k : Nat} (hs : s < p.sizes.length) (hk : k < p.sizes.getD s 0) : plOf p (firstOn p s + k) = .sh s k := by
  have hz : p.sizes[s]? = some (p.sizes.getD s 0) := by simp [hs]
  obtain ⟨t, ht⟩ := plsTo_pre p (p.sizes.length - (s + 1)) (s + 1)
  have hl := (plsTo_at p s (by omega)).1
  unfold plOf pls
  rw [show p.sizes.length = s + 1 + (p.sizes.length - (s + 1)) by omega, ht, plsTo_succ (zip_some hz), List.getD_eq_getElem?_getD, List.append_assoc, List.getElem?_append_right (by omega), List.getElem?_append_left (by simp only [shl, List.length_map, List.length_range]; omega), hl, show firstOn p s + k - firstOn p s = k by omega]
  simp only [shl]
  rw [List.getElem?_map, List.getElem?_range hk]
  rfl
/-! ### what is exchanged in a tick -/
def exRun (p : Plan) : List (Nat × Nat) → List Nat → List (Nat × Nat × Nat × Nat)
  | [], _ => []
  | v :: vs, xs => (v.1, v.2, ap xs v.1, ap (exch p v xs) v.1) :: exRun p vs (exch p v xs)
theorem exRun_snoc (p : Plan) (v : Nat × Nat) : ∀ (vs : List (Nat × Nat)) (xs : List Nat), exRun p (vs ++ [v]) xs = exRun p vs xs ++ [(v.1, v.2, ap (vs.foldl (fun xs v => exch p v xs) xs) v.1, ap (exch p v (vs.foldl (fun xs v => exch p v xs) xs)) v.1)]
  | [], _ => rfl
  | w :: vs, xs => by
    show _ :: exRun p (vs ++ [v]) (exch p w xs) = _
    rw [exRun_snoc p v vs]
    rfl
theorem exRun_len (p : Plan) : ∀ (vs : List (Nat × Nat)) (xs : List Nat), (exRun p vs xs).length = vs.length
  | [], _ => rfl
  | v :: vs, xs => by simp [exRun, exRun_len p vs]
def nextSt (p : Plan) (s : St) : St := stOf p (s.time + 1) (runTick p (s.time + 1) s.cont)
def nextEx (p : Plan) (s : St) : List (Nat × Nat × Nat × Nat) := exRun p (visits p (s.time + 1)) s.cont
theorem nextSt_ok {p : Plan} (o : p.Ok) {s : St} (q : s.Ok p) (h : s.time + 1 ≤ 10 ^ 30) : (nextSt p s).Ok p := by
  have hp := runTick_perm o (s.time + 1) q.len
  exact stOf_ok (by have := q.t1; omega) h (runTick_len o _ q.len) (hp.nodup_iff.mpr q.nd) fun x hx => q.r x (hp.mem_iff.mp hx)
theorem nextSt_adv {p : Plan} (o : p.Ok) {s : St} (q : s.Ok p) : nextSt p s = adv p s 1 := by
  unfold nextSt adv
  congr 1
  have h := run_eq o s.time 1 q.len
  have e : effI p s.time 1 = eff p s.time 1 := effI_nat p s.time 1
  have e2 : inv (effI p s.time 1) = Sp.cont p s.time 1 := by
    rw [e]
    exact inv_inv (cont_isP o _ _)
  rw [e2, ← h]
  show _ = runTick p (s.time + ((0 : Nat) : Int) + 1) s.cont
  congr 1
  omega
/-! ### the simulation with lists of lists -/
structure Fit (p : Plan) (s : St) : Prop where
  c : s.carried.length = p.routes.length
  z : s.shelves.map List.length = p.sizes
theorem St.Ok.fit {p : Plan} {s : St} (o : s.Ok p) : Fit p s := ⟨o.c, o.z⟩
theorem Fit.len {p : Plan} {s : St} (o : Fit p s) : s.cont.length = total p := by
  unfold St.cont total
  rw [List.length_append, o.c, sum_lens, o.z]
theorem stOf_fit {p : Plan} {s : St} (o : Fit p s) : stOf p s.time s.cont = s := by
  unfold stOf St.cont
  rw [← o.c, List.take_left, List.drop_left, ← o.z, cutS_of]
def stepQ (s : St) (v : Nat × Nat) : List Nat := s.shelves.getD v.2 [] ++ [s.carried.getD v.1 0]
def stepW (s : St) (v : Nat × Nat) : St := ⟨s.time, s.carried.set v.1 ((stepQ s v).headD 0), s.shelves.set v.2 (stepQ s v).tail⟩
theorem stepW_fit {p : Plan} {s : St} (o : Fit p s) {v : Nat × Nat} (hv : v.2 < p.sizes.length) : Fit p (stepW s v) := by
  have hl : v.2 < s.shelves.length := by
    have := congrArg List.length o.z
    rw [List.length_map] at this
    omega
  refine ⟨by simp [stepW, o.c], ?_⟩
  show (s.shelves.set v.2 (stepQ s v).tail).map List.length = p.sizes
  rw [List.map_set, ← o.z]
  have : (stepQ s v).tail.length = s.shelves[v.2].length := by
    unfold stepQ
    rw [List.length_tail, List.length_append, List.getD_eq_getElem?_getD, List.getElem?_eq_getElem hl]
    simp
  rw [this]
  have h2 : (s.shelves.map List.length)[v.2]? = some s.shelves[v.2].length := by simp [hl]
  apply List.ext_getElem?
  intro i
  by_cases hi : i = v.2
  · subst hi
    rw [List.getElem?_set_self (by simpa using hl), h2]
  · rw [List.getElem?_set_ne (Ne.symm hi)]
theorem take_sum {ss : List (List Nat)} : ∀ k, ((ss.map List.length).take k).sum = (ss.take k).flatten.length := fun k => by rw [← List.map_take, sum_lens]
theorem stepW_cont {p : Plan} {s : St} (o : Fit p s) {v : Nat × Nat} (hc : v.1 < p.routes.length) (hv : v.2 < p.sizes.length) : (stepW s v).cont = exch p v s.cont := by
  obtain ⟨t, car, shs⟩ := s
  obtain ⟨c, k⟩ := v
  obtain ⟨oc, oz⟩ := o
  simp only at oc oz hc hv
  have hl : k < shs.length := by
    have := congrArg List.length oz
    rw [List.length_map] at this
    omega
  have hsz : p.sizes.getD k 0 = shs[k].length := by
    rw [← oz, List.getD_eq_getElem?_getD]
    simp [hl]
  have hf : firstOn p k = car.length + (shs.take k).flatten.length := by
    unfold firstOn
    rw [← oz, take_sum, oc]
  have hfl : shs.flatten = (shs.take k).flatten ++ (shs[k] ++ (shs.drop (k + 1)).flatten) := by
    conv => lhs; rw [← List.take_append_drop k shs]
    rw [List.flatten_append, List.drop_eq_getElem_cons hl, List.flatten_cons]
  have hset : ∀ q, (shs.set k q).flatten = (shs.take k).flatten ++ (q ++ (shs.drop (k + 1)).flatten) := by
    intro q
    rw [List.set_eq_take_append_cons_drop, if_pos hl, List.flatten_append, List.flatten_cons]
  have hcl : c < car.length := by omega
  unfold stepW stepQ St.cont exch
  simp only
  rw [hsz, hf, hfl, hset]
  rw [List.getD_eq_getElem?_getD (l := shs), List.getElem?_eq_getElem hl, Option.getD_some]
  generalize (shs.take k).flatten = A
  generalize (shs.drop (k + 1)).flatten = R
  generalize shs[k] = z
  have hcd : ∀ X : List Nat, (car ++ X).getD c 0 = car.getD c 0 := by
    intro X
    rw [List.getD_eq_getElem?_getD, List.getElem?_append_left hcl, List.getD_eq_getElem?_getD]
  rw [hcd]
  have hcar : car.getD c 0 = car[c] := by rw [List.getD_eq_getElem?_getD, List.getElem?_eq_getElem hcl]; rfl
  cases z with
  | nil =>
    rw [if_pos List.length_nil]
    simp only [List.nil_append, List.headD_cons, List.tail_cons]
    congr 1
    apply List.ext_getElem?
    intro i
    by_cases hi : i = c
    · subst hi
      rw [List.getElem?_set_self hcl, List.getElem?_eq_getElem hcl, hcar]
    · rw [List.getElem?_set_ne (Ne.symm hi)]
  | cons x z =>
    rw [if_neg (by rw [List.length_cons]; omega)]
    simp only [List.cons_append, List.headD_cons, List.tail_cons, List.length_cons]
    have e1 : (car ++ (A ++ (x :: (z ++ R)))).getD (car.length + A.length) 0 = x := by
      rw [← List.append_assoc, List.getD_eq_getElem?_getD, List.getElem?_append_right (by simp)]
      simp
    have e2 : (car ++ (A ++ (x :: (z ++ R)))).take (car.length + A.length) = car ++ A := by
      rw [← List.append_assoc, ← List.length_append, List.take_left]
    have e3 : ((car ++ (A ++ (x :: (z ++ R)))).drop (car.length + A.length + 1)).take (z.length + 1 - 1) = z := by
      rw [← List.append_assoc, ← List.drop_drop, ← List.length_append, List.drop_left]
      simp
    have e4 : (car ++ (A ++ (x :: (z ++ R)))).drop (car.length + A.length + (z.length + 1)) = R := by
      rw [← List.append_assoc, ← List.drop_drop, ← List.length_append, List.drop_left]
      simp
    rw [e1, e2, e3, e4, List.set_append_left _ _ (by simp; omega), List.set_append_left _ _ (by simp; omega), List.set_append_left _ _ hcl]
    simp
theorem Fit.m {p : Plan} {s : St} (o : Fit p s) : s.shelves.length = p.sizes.length := by
  have := congrArg List.length o.z
  rwa [List.length_map] at this
theorem stepWs {p : Plan} : ∀ (vs : List (Nat × Nat)), (∀ v ∈ vs, v.1 < p.routes.length ∧ v.2 < p.sizes.length) → ∀ {s : St}, Fit p s → Fit p (vs.foldl stepW s) ∧ (vs.foldl stepW s).cont = vs.foldl (fun xs v => exch p v xs) s.cont ∧ (vs.foldl stepW s).time = s.time
  | [], _, s, o => ⟨o, rfl, rfl⟩
  | v :: vs, hv, s, o => by
    obtain ⟨h1, h2⟩ := hv v (by simp)
    obtain ⟨a, b, c⟩ := stepWs vs (fun w hw => hv w (by simp [hw])) (stepW_fit o h2)
    rw [List.foldl_cons, List.foldl_cons]
    exact ⟨a, by rw [b, stepW_cont o h1 h2], c⟩
theorem nextSt_steps {p : Plan} (o : p.Ok) {s : St} (f : Fit p s) : (visits p (s.time + 1)).foldl stepW ⟨s.time + 1, s.carried, s.shelves⟩ = nextSt p s := by
  obtain ⟨a, b, c⟩ := stepWs (visits p (s.time + 1)) (fun v hv => visits_mem o hv) (s := ⟨s.time + 1, s.carried, s.shelves⟩) ⟨f.c, f.z⟩
  rw [← stepOf a, b, c]
  rfl
where
  stepOf {p : Plan} {s : St} (o : Fit p s) : stOf p s.time s.cont = s := stOf_fit o
theorem cont_ap {p : Plan} {s : St} (f : Fit p s) {c : Nat} (hc : c < p.routes.length) : ap s.cont c = s.carried.getD c 0 := by
  have := f.c
  unfold ap St.cont
  rw [List.getD_eq_getElem?_getD, List.getElem?_append_left (by omega), List.getD_eq_getElem?_getD]
/-- the visits of the first carriers -/
def visTo (p : Plan) (t : Int) (j : Nat) : List (Nat × Nat) := (p.routes.zipIdx.take j).filterMap (visStep t)
theorem visTo_all (p : Plan) (t : Int) : visTo p t p.routes.length = visits p t := by
  unfold visTo visits
  rw [List.take_of_length_le (by simp)]
theorem visTo_succ {p : Plan} {t : Int} {j : Nat} {r : List (Option Nat)} (h : p.routes[j]? = some r) : visTo p t (j + 1) = visTo p t j ++ ((entryAt r t).map fun s => (j, s)).toList := by
  unfold visTo
  have : p.routes.zipIdx[j]? = some (r, j) := by rw [List.getElem?_zipIdx, h]; simp
  rw [List.take_add_one, this, List.filterMap_append]
  have e : List.filterMap (visStep t) (some (r, j)).toList = ((entryAt r t).map fun s => (j, s)).toList := by
    show List.filterMap (visStep t) [(r, j)] = _
    cases h : entryAt r t with
    | none => rw [List.filterMap_cons_none (by unfold visStep; simp [h])]; rfl
    | some s => rw [List.filterMap_cons_some (b := (j, s)) (by unfold visStep; simp [h])]; rfl
  rw [e]
theorem visTo_mem {p : Plan} (o : p.Ok) {t : Int} {j : Nat} {v : Nat × Nat} (h : v ∈ visTo p t j) : v.1 < p.routes.length ∧ v.2 < p.sizes.length := by
  apply visits_mem o (t := t)
  unfold visTo at h
  unfold visits
  obtain ⟨x, hx, e⟩ := List.mem_filterMap.mp h
  exact List.mem_filterMap.mpr ⟨x, List.mem_of_mem_take hx, e⟩
theorem visTo_len (p : Plan) (t : Int) (j : Nat) : (visTo p t j).length ≤ p.routes.length := by
  unfold visTo
  refine Nat.le_trans (List.length_filterMap_le _ _) ?_
  rw [List.length_take, List.length_zipIdx]
  omega
end Sp

set_option maxRecDepth 100000
set_option maxHeartbeats 0
namespace Bd
open PySem Sw
def N_is_route : List Str := ["sizes", "route", "entry"]
def B_is_route : List S := [.ife (.nt (.chn .le .le (.int 1) (.bif .len false (.cons (.var 1) (.nil))) (.glo "MAX_ENTRIES" (.int 6)))) [.ret (.bl false)] [], .ret (.bif .all false (.cons (.lc false (.or (.cmp .isN (.var 2) (.non)) (.chn .le .lt (.int 0) (.var 2) (.bif .len false (.cons (.var 0) (.nil))))) (.name 2) (.evx (.var 1)) (.none) [2]) (.nil)))]
def F_is_route : FDef := ⟨2, 3, false, B_is_route⟩
def N_first_invalid : List Str := ["items", "most", "flags"]
def B_first_invalid : List S := [.ife (.nt (.chn .le .le (.int 1) (.bif .len false (.cons (.var 0) (.nil))) (.var 1))) [.ret (.neg (.int 1))] [], .ret (.ife (.cmp .inn (.bl false) (.var 2)) (.mth .index (.var 2) (.cons (.bl false) (.nil))) (.non))]
def F_first_invalid : FDef := ⟨3, 3, false, B_first_invalid⟩
def N_validate_plan : List Str := ["plan", "sizes", "routes", "index", "size", "route"]
def B_validate_plan : List S := [.set (.tup (.cons (.name 1) (.cons (.name 2) (.nil)))) (.var 0), .set (.name 3) (.call "first_invalid" 1 (.cons (.var 1) (.cons (.glo "MAX_SHELVES" (.int 12)) (.cons (.lc false (.chn .le .le (.int 0) (.var 4) (.glo "MAX_SIZE" (.int 9))) (.name 4) (.evx (.var 1)) (.none) [4]) (.nil))))), .ife (.cmp .notN (.var 3) (.non)) [.stuck] [], .set (.name 3) (.call "first_invalid" 1 (.cons (.var 2) (.cons (.glo "MAX_CARRIERS" (.int 6)) (.cons (.lc false (.call "is_route" 0 (.cons (.var 1) (.cons (.var 5) (.nil)))) (.name 5) (.evx (.var 2)) (.none) [5]) (.nil))))), .ife (.cmp .notN (.var 3) (.non)) [.stuck] []]
def F_validate_plan : FDef := ⟨1, 6, false, B_validate_plan⟩
def N_validate_count : List Str := ["count", "smallest", "largest"]
def B_validate_count : List S := [.ife (.nt (.chn .le .le (.var 1) (.var 0) (.var 2))) [.stuck] []]
def F_validate_count : FDef := ⟨3, 3, false, B_validate_count⟩
def N_all_places : List Str := ["plan", "found", "shelf", "size", "carrier", "position"]
def B_all_places : List S := [.set (.name 1) (.lc true (.tup (.cons (.glo "CARRIER" (.str "carrier")) (.cons (.var 4) (.nil)))) (.name 4) (.rng1 (.bif .len false (.cons (.ix (.var 0) (.int 1)) (.nil)))) (.none) [4]), .fr (.tup (.cons (.name 2) (.cons (.name 3) (.nil)))) (.enx (.ix (.var 0) (.int 0))) [.expr (.mth .extend (.var 1) (.cons (.lc false (.tup (.cons (.glo "SHELF" (.str "shelf")) (.cons (.var 2) (.cons (.var 5) (.nil))))) (.name 5) (.rng1 (.var 3)) (.none) [5]) (.nil)))], .ret (.var 1)]
def F_all_places : FDef := ⟨1, 6, false, B_all_places⟩
def N_number_of : List Str := ["plan", "place", "found"]
def B_number_of : List S := [.set (.name 2) (.call "all_places" 4 (.cons (.var 0) (.nil))), .ife (.cmp .nin (.var 1) (.var 2)) [.stuck] [], .ret (.mth .index (.var 2) (.cons (.var 1) (.nil)))]
def F_number_of : FDef := ⟨2, 3, false, B_number_of⟩
def N_first_on : List Str := ["plan", "shelf"]
def B_first_on : List S := [.ret (.bin .add false (.bif .len false (.cons (.ix (.var 0) (.int 1)) (.nil))) (.bif .sum false (.cons (.sl false (.ix (.var 0) (.int 0)) (.none) (.some (.var 1))) (.nil))))]
def F_first_on : FDef := ⟨2, 2, false, B_first_on⟩
def N_greatest_common_divisor : List Str := ["one", "other"]
def B_greatest_common_divisor : List S := [.wh (.cmp .ne (.var 1) (.int 0)) [.par [0, 1] (.cons (.var 1) (.cons (.bin .mod false (.bif .int false (.cons (.var 0) (.nil))) (.bif .int false (.cons (.var 1) (.nil)))) (.nil)))], .ret (.var 0)]
def F_greatest_common_divisor : FDef := ⟨2, 2, false, B_greatest_common_divisor⟩
def N_least_common_multiple : List Str := ["one", "other"]
def B_least_common_multiple : List S := [.ret (.bin .mul false (.bin .fdiv false (.var 0) (.call "greatest_common_divisor" 7 (.cons (.var 0) (.cons (.var 1) (.nil))))) (.var 1))]
def F_least_common_multiple : FDef := ⟨2, 2, false, B_least_common_multiple⟩
def N_route_period : List Str := ["route", "length"]
def B_route_period : List S := [.fr (.name 1) (.rng2 (.int 1) (.bif .len false (.cons (.var 0) (.nil)))) [.ife (.and (.cmp .eq (.bin .mul false (.bin .fdiv false (.bif .len false (.cons (.var 0) (.nil))) (.var 1)) (.var 1)) (.bif .len false (.cons (.var 0) (.nil)))) (.cmp .eq (.var 0) (.bin .mul false (.sl false (.var 0) (.none) (.some (.var 1))) (.bin .fdiv false (.bif .len false (.cons (.var 0) (.nil))) (.var 1))))) [.ret (.var 1)] []], .ret (.bif .len false (.cons (.var 0) (.nil)))]
def F_route_period : FDef := ⟨1, 2, false, B_route_period⟩
def N_pattern_of : List Str := ["plan", "length", "route"]
def B_pattern_of : List S := [.set (.name 1) (.int 1), .fr (.name 2) (.evx (.ix (.var 0) (.int 1))) [.set (.name 1) (.call "least_common_multiple" 8 (.cons (.var 1) (.cons (.call "route_period" 9 (.cons (.var 2) (.nil))) (.nil))))], .ret (.var 1)]
def F_pattern_of : FDef := ⟨1, 3, false, B_pattern_of⟩
def N_visits_of : List Str := ["plan", "number", "found", "carrier", "route", "shelf"]
def B_visits_of : List S := [.set (.name 2) (.lst true (.nil)), .fr (.tup (.cons (.name 3) (.cons (.name 4) (.nil)))) (.enx (.ix (.var 0) (.int 1))) [.set (.name 5) (.ix (.var 4) (.bin .mod false (.bif .int false (.cons (.bin .sub false (.var 1) (.int 1)) (.nil))) (.bif .len false (.cons (.var 4) (.nil))))), .ife (.cmp .notN (.var 5) (.non)) [.expr (.mth .append (.var 2) (.cons (.tup (.cons (.var 3) (.cons (.var 5) (.nil)))) (.nil)))] []], .ret (.var 2)]
def F_visits_of : FDef := ⟨2, 6, false, B_visits_of⟩
def N_exchange : List Str := ["plan", "contents", "carrier", "shelf", "size", "first", "taken"]
def B_exchange : List S := [.par [4, 5] (.cons (.ix (.ix (.var 0) (.int 0)) (.var 3)) (.cons (.call "first_on" 6 (.cons (.var 0) (.cons (.var 3) (.nil)))) (.nil))), .ife (.cmp .gt (.var 4) (.int 0)) [.set (.name 6) (.ix (.var 1) (.var 5)), .set (.slc (.var 1) (.var 5) (.bin .add false (.var 5) (.var 4))) (.bin .add false (.sl false (.var 1) (.some (.bin .add false (.var 5) (.int 1))) (.some (.bin .add false (.var 5) (.var 4)))) (.lst false (.cons (.ix (.var 1) (.var 2)) (.nil)))), .set (.sub (.var 1) (.var 2)) (.var 6)] []]
def F_exchange : FDef := ⟨4, 7, false, B_exchange⟩
def N_run_tick : List Str := ["plan", "contents", "number", "carrier", "shelf"]
def B_run_tick : List S := [.fr (.tup (.cons (.name 3) (.cons (.name 4) (.nil)))) (.evx (.call "visits_of" 11 (.cons (.var 0) (.cons (.var 2) (.nil))))) [.expr (.call "exchange" 12 (.cons (.var 0) (.cons (.var 1) (.cons (.var 3) (.cons (.var 4) (.nil))))))]]
def F_run_tick : FDef := ⟨3, 5, false, B_run_tick⟩
def N_inverse_of : List Str := ["effect", "result", "place", "goal"]
def B_inverse_of : List S := [.set (.name 1) (.bin .mul true (.lst false (.cons (.int 0) (.nil))) (.bif .len false (.cons (.var 0) (.nil)))), .fr (.tup (.cons (.name 2) (.cons (.name 3) (.nil)))) (.enx (.var 0)) [.set (.sub (.var 1) (.var 3)) (.var 2)], .ret (.bif .tuple false (.cons (.var 1) (.nil)))]
def F_inverse_of : FDef := ⟨1, 4, false, B_inverse_of⟩
def N_combined : List Str := ["one", "other", "place"]
def B_combined : List S := [.ret (.bif .tuple false (.cons (.lc false (.ix (.var 1) (.var 2)) (.name 2) (.evx (.var 0)) (.none) [2]) (.nil)))]
def F_combined : FDef := ⟨2, 3, false, B_combined⟩
def N_cycles_of : List Str := ["effect", "found", "seen", "start", "cycle", "place"]
def B_cycles_of : List S := [.par [1, 2] (.cons (.lst true (.nil)) (.cons (.dnew [] (.nil)) (.nil))), .fr (.name 3) (.rng1 (.bif .len false (.cons (.var 0) (.nil)))) [.ife (.cmp .dnin (.var 3) (.var 2)) [.par [4, 5] (.cons (.lst true (.nil)) (.cons (.var 3) (.nil))), .wh (.cmp .dnin (.var 5) (.var 2)) [.set (.dsub (.var 2) (.var 5)) (.bl true), .expr (.mth .append (.var 4) (.cons (.var 5) (.nil))), .set (.name 5) (.ix (.var 0) (.var 5))], .expr (.mth .append (.var 1) (.cons (.bif .tuple false (.cons (.var 4) (.nil))) (.nil)))] []], .ret (.var 1)]
def F_cycles_of : FDef := ⟨1, 6, false, B_cycles_of⟩
def N_repeated : List Str := ["effect", "count", "result", "cycle", "index", "place"]
def B_repeated : List S := [.set (.name 2) (.bin .mul true (.lst false (.cons (.int 0) (.nil))) (.bif .len false (.cons (.var 0) (.nil)))), .fr (.name 3) (.evx (.call "cycles_of" 16 (.cons (.var 0) (.nil)))) [.fr (.tup (.cons (.name 4) (.cons (.name 5) (.nil)))) (.enx (.var 3)) [.set (.sub (.var 2) (.var 5)) (.ix (.var 3) (.bin .mod false (.bif .int false (.cons (.bin .add false (.var 4) (.var 1)) (.nil))) (.bif .len false (.cons (.var 3) (.nil)))))]], .ret (.bif .tuple false (.cons (.var 2) (.nil)))]
def F_repeated : FDef := ⟨2, 6, false, B_repeated⟩
def N_ticks_effect : List Str := ["plan", "time", "count", "contents", "number"]
def B_ticks_effect : List S := [.set (.name 3) (.bif .rl true (.cons (.bif .len false (.cons (.call "all_places" 4 (.cons (.var 0) (.nil))) (.nil))) (.nil))), .fr (.name 4) (.rng2 (.bin .add false (.var 1) (.int 1)) (.bin .add false (.bin .add false (.var 1) (.var 2)) (.int 1))) [.expr (.call "run_tick" 13 (.cons (.var 0) (.cons (.var 3) (.cons (.var 4) (.nil)))))], .ret (.call "inverse_of" 14 (.cons (.var 3) (.nil)))]
def F_ticks_effect : FDef := ⟨3, 5, false, B_ticks_effect⟩
def N_pattern_effect : List Str := ["plan", "time"]
def B_pattern_effect : List S := [.ret (.call "ticks_effect" 18 (.cons (.var 0) (.cons (.var 1) (.cons (.call "pattern_of" 10 (.cons (.var 0) (.nil))) (.nil)))))]
def F_pattern_effect : FDef := ⟨2, 2, false, B_pattern_effect⟩
def N_effect_between : List Str := ["plan", "time", "count", "length", "whole"]
def B_effect_between : List S := [.ife (.cmp .lt (.var 2) (.int 0)) [.ret (.call "inverse_of" 14 (.cons (.call "effect_between" 20 (.cons (.var 0) (.cons (.bin .add false (.var 1) (.var 2)) (.cons (.bin .sub false (.int 0) (.var 2)) (.nil))))) (.nil)))] [], .set (.name 3) (.call "pattern_of" 10 (.cons (.var 0) (.nil))), .set (.name 4) (.call "repeated" 17 (.cons (.call "pattern_effect" 19 (.cons (.var 0) (.cons (.var 1) (.nil)))) (.cons (.bin .fdiv false (.var 2) (.var 3)) (.nil)))), .ret (.call "combined" 15 (.cons (.var 4) (.cons (.call "ticks_effect" 18 (.cons (.var 0) (.cons (.var 1) (.cons (.bin .sub false (.var 2) (.bin .mul false (.bin .fdiv false (.var 2) (.var 3)) (.var 3))) (.nil))))) (.nil))))]
def F_effect_between : FDef := ⟨3, 5, false, B_effect_between⟩
def N_contents_of : List Str := ["state", "contents", "shelf"]
def B_contents_of : List S := [.set (.name 1) (.bif .list true (.cons (.ix (.var 0) (.int 1)) (.nil))), .fr (.name 2) (.evx (.ix (.var 0) (.int 2))) [.expr (.mth .extend (.var 1) (.cons (.bif .list false (.cons (.var 2) (.nil))) (.nil)))], .ret (.var 1)]
def F_contents_of : FDef := ⟨1, 3, true, B_contents_of⟩
def N_state_of : List Str := ["plan", "time", "contents", "first", "shelves", "size"]
def B_state_of : List S := [.set (.name 3) (.bif .len false (.cons (.ix (.var 0) (.int 1)) (.nil))), .set (.name 4) (.lst true (.nil)), .fr (.name 5) (.evx (.ix (.var 0) (.int 0))) [.expr (.mth .append (.var 4) (.cons (.bif .tuple false (.cons (.sl false (.var 2) (.some (.var 3)) (.some (.bin .add false (.var 3) (.var 5)))) (.nil))) (.nil))), .aug 3 .add (.var 5)], .ret (.tup (.cons (.var 1) (.cons (.bif .tuple false (.cons (.sl false (.var 2) (.none) (.some (.bif .len false (.cons (.ix (.var 0) (.int 1)) (.nil))))) (.nil))) (.cons (.bif .tuple false (.cons (.var 4) (.nil))) (.nil)))))]
def F_state_of : FDef := ⟨3, 6, false, B_state_of⟩
def N_fits : List Str := ["plan", "state", "time", "carried", "shelves", "contents", "shelf", "parcel"]
def B_fits : List S := [.ife (.cmp .ne (.bif .len false (.cons (.var 1) (.nil))) (.int 3)) [.ret (.bl false)] [], .set (.tup (.cons (.name 2) (.cons (.name 3) (.cons (.name 4) (.nil))))) (.var 1), .ife (.or (.nt (.chn .le .le (.bin .sub false (.int 0) (.glo "MAX_TIME" (.int 1000000000000000000000000000000))) (.var 2) (.glo "MAX_TIME" (.int 1000000000000000000000000000000)))) (.cmp .ne (.bif .len false (.cons (.var 3) (.nil))) (.bif .len false (.cons (.ix (.var 0) (.int 1)) (.nil))))) [.ret (.bl false)] [], .ife (.cmp .ne (.lc false (.bif .len false (.cons (.var 6) (.nil))) (.name 6) (.evx (.var 4)) (.none) [6]) (.bif .list false (.cons (.ix (.var 0) (.int 0)) (.nil)))) [.ret (.bl false)] [], .set (.name 5) (.call "contents_of" 21 (.cons (.var 1) (.nil))), .ret (.and (.cmp .eq (.bif .lenset false (.cons (.var 5) (.nil))) (.bif .len false (.cons (.var 5) (.nil)))) (.bif .all false (.cons (.lc false (.chn .le .le (.int 1) (.var 7) (.glo "MAX_PARCEL" (.int 999))) (.name 7) (.evx (.var 5)) (.none) [7]) (.nil))))]
def F_fits : FDef := ⟨2, 8, false, B_fits⟩
def N_validate_state : List Str := ["plan", "state"]
def B_validate_state : List S := [.expr (.call "validate_plan" 2 (.cons (.var 0) (.nil))), .ife (.nt (.call "fits" 23 (.cons (.var 0) (.cons (.var 1) (.nil))))) [.stuck] []]
def F_validate_state : FDef := ⟨2, 2, false, B_validate_state⟩
def N_spot_of : List Str := ["state", "parcel", "contents"]
def B_spot_of : List S := [.set (.name 2) (.call "contents_of" 21 (.cons (.var 0) (.nil))), .ife (.cmp .nin (.var 1) (.var 2)) [.stuck] [], .ret (.mth .index (.var 2) (.cons (.var 1) (.nil)))]
def F_spot_of : FDef := ⟨2, 3, false, B_spot_of⟩
def N_moved : List Str := ["plan", "state", "time", "effect", "contents", "result", "place", "goal"]
def B_moved : List S := [.set (.name 4) (.call "contents_of" 21 (.cons (.var 1) (.nil))), .set (.name 5) (.bin .mul true (.lst false (.cons (.int 0) (.nil))) (.bif .len false (.cons (.var 4) (.nil)))), .fr (.tup (.cons (.name 6) (.cons (.name 7) (.nil)))) (.enx (.var 3)) [.set (.sub (.var 5) (.var 7)) (.ix (.var 4) (.var 6))], .ret (.call "state_of" 22 (.cons (.var 0) (.cons (.var 2) (.cons (.var 5) (.nil)))))]
def F_moved : FDef := ⟨4, 8, false, B_moved⟩
def N_tick : List Str := ["plan", "state", "contents", "exchanges", "carrier", "shelf", "left"]
def B_tick : List S := [.expr (.call "validate_state" 24 (.cons (.var 0) (.cons (.var 1) (.nil)))), .par [2, 3] (.cons (.call "contents_of" 21 (.cons (.var 1) (.nil))) (.cons (.lst true (.nil)) (.nil))), .fr (.tup (.cons (.name 4) (.cons (.name 5) (.nil)))) (.evx (.call "visits_of" 11 (.cons (.var 0) (.cons (.bin .add false (.ix (.var 1) (.int 0)) (.int 1)) (.nil))))) [.set (.name 6) (.ix (.var 2) (.var 4)), .expr (.call "exchange" 12 (.cons (.var 0) (.cons (.var 2) (.cons (.var 4) (.cons (.var 5) (.nil)))))), .expr (.mth .append (.var 3) (.cons (.tup (.cons (.var 4) (.cons (.var 5) (.cons (.var 6) (.cons (.ix (.var 2) (.var 4)) (.nil)))))) (.nil)))], .ret (.tup (.cons (.call "state_of" 22 (.cons (.var 0) (.cons (.bin .add false (.ix (.var 1) (.int 0)) (.int 1)) (.cons (.var 2) (.nil))))) (.cons (.var 3) (.nil))))]
def F_tick : FDef := ⟨2, 7, false, B_tick⟩
def N_advance : List Str := ["plan", "state", "count"]
def B_advance : List S := [.expr (.call "validate_state" 24 (.cons (.var 0) (.cons (.var 1) (.nil)))), .expr (.call "validate_count" 3 (.cons (.var 2) (.cons (.bin .sub false (.int 0) (.glo "MAX_TICKS" (.int 1000000000000000000))) (.cons (.glo "MAX_TICKS" (.int 1000000000000000000)) (.nil))))), .ret (.call "moved" 26 (.cons (.var 0) (.cons (.var 1) (.cons (.bin .add false (.ix (.var 1) (.int 0)) (.var 2)) (.cons (.call "effect_between" 20 (.cons (.var 0) (.cons (.ix (.var 1) (.int 0)) (.cons (.var 2) (.nil))))) (.nil))))))]
def F_advance : FDef := ⟨3, 3, false, B_advance⟩
def N_locate : List Str := ["plan", "state", "parcel", "count", "spot"]
def B_locate : List S := [.expr (.call "validate_state" 24 (.cons (.var 0) (.cons (.var 1) (.nil)))), .set (.name 4) (.call "spot_of" 25 (.cons (.var 1) (.cons (.var 2) (.nil)))), .expr (.call "validate_count" 3 (.cons (.var 3) (.cons (.bin .sub false (.int 0) (.glo "MAX_TICKS" (.int 1000000000000000000))) (.cons (.glo "MAX_TICKS" (.int 1000000000000000000)) (.nil))))), .ret (.ix (.call "all_places" 4 (.cons (.var 0) (.nil))) (.ix (.call "effect_between" 20 (.cons (.var 0) (.cons (.ix (.var 1) (.int 0)) (.cons (.var 3) (.nil))))) (.var 4)))]
def F_locate : FDef := ⟨4, 5, false, B_locate⟩
def N_parcel_at : List Str := ["plan", "state", "place", "count", "spot", "effect"]
def B_parcel_at : List S := [.expr (.call "validate_state" 24 (.cons (.var 0) (.cons (.var 1) (.nil)))), .set (.name 4) (.call "number_of" 5 (.cons (.var 0) (.cons (.var 2) (.nil)))), .expr (.call "validate_count" 3 (.cons (.var 3) (.cons (.bin .sub false (.int 0) (.glo "MAX_TICKS" (.int 1000000000000000000))) (.cons (.glo "MAX_TICKS" (.int 1000000000000000000)) (.nil))))), .set (.name 5) (.call "effect_between" 20 (.cons (.var 0) (.cons (.ix (.var 1) (.int 0)) (.cons (.var 3) (.nil))))), .ret (.ix (.call "contents_of" 21 (.cons (.var 1) (.nil))) (.mth .tindex (.var 5) (.cons (.var 4) (.nil))))]
def F_parcel_at : FDef := ⟨4, 6, false, B_parcel_at⟩
def N__law_mix : List Str := ["_law_script", "_law_seed", "_law_mixed", "_law_cell"]
def B__law_mix : List S := [.set (.name 2) (.var 1), .fr (.name 3) (.evx (.var 0)) [.set (.name 2) (.bin .mod false (.bin .add false (.bin .add false (.bin .mul false (.var 2) (.int 48271)) (.bin .mod false (.var 3) (.int 2147483629))) (.int 1)) (.int 2147483647))], .ret (.lst true (.cons (.var 2) (.cons (.bif .list true (.cons (.var 0) (.nil))) (.cons (.int 0) (.nil)))))]
def F__law_mix : FDef := ⟨2, 4, true, B__law_mix⟩
def N__law_next : List Str := ["_law_h", "_law_limit", "_law_cell"]
def B__law_next : List S := [.set (.name 2) (.ix (.bin .add false (.ix (.var 0) (.int 1)) (.lst false (.cons (.int 0) (.nil)))) (.bin .mod false (.bif .int false (.cons (.ix (.var 0) (.int 2)) (.nil))) (.bif .max2 false (.cons (.int 1) (.cons (.bif .len false (.cons (.ix (.var 0) (.int 1)) (.nil))) (.nil)))))), .ife (.cmp .ge (.var 2) (.bin .pow false (.int 10) (.int 18))) [.set (.sub (.ix (.var 0) (.int 1)) (.bin .mod false (.bif .int false (.cons (.ix (.var 0) (.int 2)) (.nil))) (.bif .len false (.cons (.ix (.var 0) (.int 1)) (.nil))))) (.bin .fdiv false (.var 2) (.var 1)), .ret (.bin .mod false (.bif .int false (.cons (.var 2) (.nil))) (.var 1))] [], .set (.sub (.var 0) (.int 0)) (.bin .mod false (.bin .add false (.bin .add false (.bin .mul false (.ix (.var 0) (.int 0)) (.int 48271)) (.bin .mul false (.var 2) (.int 69621))) (.int 11)) (.int 2147483647)), .set (.sub (.var 0) (.int 2)) (.bin .add false (.ix (.var 0) (.int 2)) (.int 1)), .ret (.bin .mod false (.bin .fdiv false (.ix (.var 0) (.int 0)) (.int 7)) (.var 1))]
def F__law_next : FDef := ⟨2, 3, false, B__law_next⟩
def N__law_alike : List Str := ["_law_found", "_law_due", "_law_k"]
def B__law_alike : List S := [.ife (.bif (.isinst ["dict"]) false (.cons (.var 1) (.nil))) [.stuck] [], .ife (.bif (.isinst ["tuple", "list"]) false (.cons (.var 1) (.nil))) [.ife (.or (.nt (.bif (.isinst ["tuple", "list"]) false (.cons (.var 0) (.nil)))) (.cmp .ne (.bif (.isinst ["list"]) false (.cons (.var 0) (.nil))) (.bif (.isinst ["list"]) false (.cons (.var 1) (.nil))))) [.ret (.bl false)] [], .ife (.cmp .ne (.bif .len false (.cons (.var 0) (.nil))) (.bif .len false (.cons (.var 1) (.nil)))) [.ret (.bl false)] [], .ret (.cmp .eq (.lc false (.var 2) (.name 2) (.rng1 (.bif .len false (.cons (.var 1) (.nil)))) (.some (.nt (.call "_law_alike" 33 (.cons (.ix (.var 0) (.var 2)) (.cons (.ix (.var 1) (.var 2)) (.nil)))))) [2]) (.lst false (.nil)))] [], .ife (.or (.cmp .isN (.var 1) (.non)) (.bif (.isinst ["str"]) false (.cons (.var 1) (.nil)))) [.ret (.and (.cmp .eq (.var 0) (.var 1)) (.cmp .eq (.bif (.isinst ["str"]) false (.cons (.var 0) (.nil))) (.bif (.isinst ["str"]) false (.cons (.var 1) (.nil)))))] [], .ret (.and (.bif (.isinst ["int"]) false (.cons (.var 0) (.nil))) (.and (.cmp .eq (.bif (.isinst ["bool"]) false (.cons (.var 0) (.nil))) (.bif (.isinst ["bool"]) false (.cons (.var 1) (.nil)))) (.cmp .eq (.var 0) (.var 1))))]
def F__law_alike : FDef := ⟨2, 3, false, B__law_alike⟩
def N__law_plan : List Str := ["_law_h", "_law_shelves", "_law_carriers", "_law_sizes", "_law_shelf", "_law_routes", "_law_carrier", "_law_entries", "_law_k"]
def B__law_plan : List S := [.set (.name 3) (.lst true (.nil)), .fr (.name 4) (.rng1 (.bin .add false (.int 1) (.call "_law_next" 32 (.cons (.var 0) (.cons (.var 1) (.nil)))))) [.expr (.mth .append (.var 3) (.cons (.ix (.lst false (.cons (.call "_law_next" 32 (.cons (.var 0) (.cons (.int 3) (.nil)))) (.cons (.call "_law_next" 32 (.cons (.var 0) (.cons (.int 10) (.nil)))) (.nil)))) (.bin .fdiv false (.call "_law_next" 32 (.cons (.var 0) (.cons (.int 5) (.nil)))) (.int 4))) (.nil)))], .set (.name 5) (.lst true (.nil)), .fr (.name 6) (.rng1 (.bin .add false (.int 1) (.call "_law_next" 32 (.cons (.var 0) (.cons (.var 2) (.nil)))))) [.set (.name 7) (.lst true (.nil)), .fr (.name 8) (.rng1 (.bin .add false (.int 1) (.call "_law_next" 32 (.cons (.var 0) (.cons (.ix (.lst false (.cons (.int 3) (.cons (.int 6) (.nil)))) (.call "_law_next" 32 (.cons (.var 0) (.cons (.int 2) (.nil))))) (.nil)))))) [.expr (.mth .append (.var 7) (.cons (.ife (.cmp .eq (.call "_law_next" 32 (.cons (.var 0) (.cons (.int 5) (.nil)))) (.int 0)) (.non) (.call "_law_next" 32 (.cons (.var 0) (.cons (.bif .len false (.cons (.var 3) (.nil))) (.nil))))) (.nil)))], .expr (.mth .append (.var 5) (.cons (.bif .tuple false (.cons (.var 7) (.nil))) (.nil)))], .ret (.tup (.cons (.bif .tuple false (.cons (.var 3) (.nil))) (.cons (.bif .tuple false (.cons (.var 5) (.nil))) (.nil))))]
def F__law_plan : FDef := ⟨3, 9, false, B__law_plan⟩
def N__law_state : List Str := ["_law_h", "_law_plan_here", "_law_start", "_law_step_here", "_law_parcels", "_law_time", "_law_carried", "_law_shelves", "_law_spot", "_law_size", "_law_k"]
def B__law_state : List S := [.set (.tup (.cons (.name 2) (.cons (.name 3) (.nil)))) (.tup (.cons (.call "_law_next" 32 (.cons (.var 0) (.cons (.int 997) (.nil)))) (.cons (.bin .add false (.int 1) (.call "_law_next" 32 (.cons (.var 0) (.cons (.int 996) (.nil))))) (.nil)))), .set (.name 4) (.lc false (.bin .add false (.int 1) (.bin .mod false (.bif .int false (.cons (.bin .add false (.var 2) (.bin .mul false (.var 3) (.var 10))) (.nil))) (.int 997))) (.name 10) (.rng1 (.bin .add false (.bif .len false (.cons (.ix (.var 1) (.int 1)) (.nil))) (.bif .sum false (.cons (.ix (.var 1) (.int 0)) (.nil))))) (.none) [10]), .set (.name 5) (.ix (.lst false (.cons (.int 0) (.cons (.call "_law_next" 32 (.cons (.var 0) (.cons (.int 50) (.nil)))) (.cons (.bin .sub false (.int 0) (.call "_law_next" 32 (.cons (.var 0) (.cons (.int 50) (.nil))))) (.cons (.bin .sub false (.bin .pow false (.int 10) (.int 15)) (.call "_law_next" 32 (.cons (.var 0) (.cons (.bin .pow false (.int 10) (.int 15)) (.nil))))) (.nil)))))) (.call "_law_next" 32 (.cons (.var 0) (.cons (.int 4) (.nil))))), .par [6, 7, 8] (.cons (.bif .tuple false (.cons (.sl false (.var 4) (.none) (.some (.bif .len false (.cons (.ix (.var 1) (.int 1)) (.nil))))) (.nil))) (.cons (.lst true (.nil)) (.cons (.bif .len false (.cons (.ix (.var 1) (.int 1)) (.nil))) (.nil)))), .fr (.name 9) (.evx (.ix (.var 1) (.int 0))) [.expr (.mth .append (.var 7) (.cons (.bif .tuple false (.cons (.sl false (.var 4) (.some (.var 8)) (.some (.bin .add false (.var 8) (.var 9)))) (.nil))) (.nil))), .set (.name 8) (.bin .add false (.var 8) (.var 9))], .ret (.tup (.cons (.var 5) (.cons (.var 6) (.cons (.bif .tuple false (.cons (.var 7) (.nil))) (.nil)))))]
def F__law_state : FDef := ⟨2, 11, false, B__law_state⟩
def N__law_step : List Str := ["_law_plan_here", "_law_w", "_law_found", "_law_carrier", "_law_route", "_law_shelf", "_law_parcel"]
def B__law_step : List S := [.set (.dsub (.var 1) (.str "time")) (.bin .add false (.dix (.var 1) (.str "time")) (.int 1)), .set (.name 2) (.lst true (.nil)), .fr (.name 3) (.rng1 (.bif .len false (.cons (.ix (.var 0) (.int 1)) (.nil)))) [.set (.name 4) (.ix (.ix (.var 0) (.int 1)) (.var 3)), .set (.name 5) (.ix (.var 4) (.bin .mod false (.bin .sub false (.dix (.var 1) (.str "time")) (.int 1)) (.bif .len false (.cons (.var 4) (.nil))))), .ife (.cmp .notN (.var 5) (.non)) [.set (.name 6) (.ix (.dix (.var 1) (.str "carried")) (.var 3)), .expr (.mth .append (.ix (.dix (.var 1) (.str "shelves")) (.var 5)) (.cons (.var 6) (.nil))), .set (.sub (.dix (.var 1) (.str "carried")) (.var 3)) (.mth .popAt (.ix (.dix (.var 1) (.str "shelves")) (.var 5)) (.cons (.int 0) (.nil))), .expr (.mth .append (.var 2) (.cons (.tup (.cons (.var 3) (.cons (.var 5) (.cons (.var 6) (.cons (.ix (.dix (.var 1) (.str "carried")) (.var 3)) (.nil)))))) (.nil)))] []], .ret (.var 2)]
def F__law_step : FDef := ⟨2, 7, false, B__law_step⟩
def N__law_begun : List Str := ["_law_state_here", "_law_shelf"]
def B__law_begun : List S := [.ret (.dnew [.inr "time", .inr "carried", .inr "shelves"] (.cons (.ix (.var 0) (.int 0)) (.cons (.bif .list true (.cons (.ix (.var 0) (.int 1)) (.nil))) (.cons (.lc false (.bif .list true (.cons (.var 1) (.nil))) (.name 1) (.evx (.ix (.var 0) (.int 2))) (.none) [1]) (.nil)))))]
def F__law_begun : FDef := ⟨1, 2, true, B__law_begun⟩
def N__law_seen : List Str := ["_law_w", "_law_shelf"]
def B__law_seen : List S := [.ret (.tup (.cons (.dix (.var 0) (.str "time")) (.cons (.bif .tuple false (.cons (.dix (.var 0) (.str "carried")) (.nil))) (.cons (.bif .tuple false (.cons (.lc false (.bif .tuple false (.cons (.var 1) (.nil))) (.name 1) (.evx (.dix (.var 0) (.str "shelves"))) (.none) [1]) (.nil))) (.nil)))))]
def F__law_seen : FDef := ⟨1, 2, false, B__law_seen⟩
def N__law_spots : List Str := ["_law_state_here", "_law_found", "_law_carrier", "_law_shelf", "_law_position"]
def B__law_spots : List S := [.set (.name 1) (.dnew [] (.nil)), .fr (.name 2) (.rng1 (.bif .len false (.cons (.ix (.var 0) (.int 1)) (.nil)))) [.set (.dsub (.var 1) (.ix (.ix (.var 0) (.int 1)) (.var 2))) (.tup (.cons (.str "carrier") (.cons (.var 2) (.nil))))], .fr (.name 3) (.rng1 (.bif .len false (.cons (.ix (.var 0) (.int 2)) (.nil)))) [.fr (.name 4) (.rng1 (.bif .len false (.cons (.ix (.ix (.var 0) (.int 2)) (.var 3)) (.nil)))) [.set (.dsub (.var 1) (.ix (.ix (.ix (.var 0) (.int 2)) (.var 3)) (.var 4))) (.tup (.cons (.str "shelf") (.cons (.var 3) (.cons (.var 4) (.nil)))))]], .ret (.var 1)]
def F__law_spots : FDef := ⟨1, 5, false, B__law_spots⟩
def N_law : List Str := ["_law_script", "_law_h", "_law_turn", "_law_plan_here", "_law_state_here", "_law_count", "_law_w", "_law_states", "_law_k", "_law_exchanges", "_law_due", "_law_time", "_law_one", "_law_other", "_law_spots_here", "_law_parcel"]
def B_law : List S := [.set (.name 1) (.call "_law_mix" 31 (.cons (.var 0) (.cons (.int 3) (.nil)))), .fr (.name 2) (.rng1 (.int 2)) [.set (.name 3) (.call "_law_plan" 34 (.cons (.var 1) (.cons (.ix (.lst false (.cons (.int 4) (.cons (.int 12) (.nil)))) (.call "_law_next" 32 (.cons (.var 1) (.cons (.int 2) (.nil))))) (.cons (.int 6) (.nil))))), .par [4, 5] (.cons (.call "_law_state" 35 (.cons (.var 1) (.cons (.var 3) (.nil)))) (.cons (.call "_law_next" 32 (.cons (.var 1) (.cons (.int 81) (.nil)))) (.nil))), .par [6, 7] (.cons (.call "_law_begun" 37 (.cons (.var 4) (.nil))) (.cons (.lst true (.cons (.var 4) (.nil))) (.nil))), .fr (.name 8) (.rng1 (.var 5)) [.set (.name 9) (.call "_law_step" 36 (.cons (.var 3) (.cons (.var 6) (.nil)))), .expr (.mth .append (.var 7) (.cons (.call "_law_seen" 38 (.cons (.var 6) (.nil))) (.nil))), .set (.name 10) (.tup (.cons (.ix (.var 7) (.bin .add false (.var 8) (.int 1))) (.cons (.var 9) (.nil)))), .ife (.and (.cmp .lt (.var 8) (.int 15)) (.nt (.call "_law_alike" 33 (.cons (.call "tick" 27 (.cons (.var 3) (.cons (.ix (.var 7) (.var 8)) (.nil)))) (.cons (.var 10) (.nil)))))) [.ret (.bl false)] []], .fr (.name 11) (.rng1 (.int 4)) [.par [12, 13] (.cons (.call "_law_next" 32 (.cons (.var 1) (.cons (.bin .add false (.var 5) (.int 1)) (.nil)))) (.cons (.call "_law_next" 32 (.cons (.var 1) (.cons (.bin .add false (.var 5) (.int 1)) (.nil)))) (.nil))), .ife (.nt (.call "_law_alike" 33 (.cons (.call "advance" 28 (.cons (.var 3) (.cons (.ix (.var 7) (.var 12)) (.cons (.bin .sub false (.var 13) (.var 12)) (.nil))))) (.cons (.ix (.var 7) (.var 13)) (.nil))))) [.ret (.bl false)] [], .set (.name 14) (.call "_law_spots" 39 (.cons (.ix (.var 7) (.var 13)) (.nil))), .set (.name 15) (.ix (.bif .sorted false (.cons (.var 14) (.nil))) (.call "_law_next" 32 (.cons (.var 1) (.cons (.bif .len false (.cons (.var 14) (.nil))) (.nil))))), .ife (.nt (.call "_law_alike" 33 (.cons (.call "locate" 29 (.cons (.var 3) (.cons (.ix (.var 7) (.var 12)) (.cons (.var 15) (.cons (.bin .sub false (.var 13) (.var 12)) (.nil)))))) (.cons (.dix (.var 14) (.var 15)) (.nil))))) [.ret (.bl false)] [], .ife (.nt (.call "_law_alike" 33 (.cons (.call "parcel_at" 30 (.cons (.var 3) (.cons (.ix (.var 7) (.var 12)) (.cons (.dix (.var 14) (.var 15)) (.cons (.bin .sub false (.var 13) (.var 12)) (.nil)))))) (.cons (.var 15) (.nil))))) [.ret (.bl false)] []]], .ret (.bl true)]
def F_law : FDef := ⟨1, 16, false, B_law⟩
def N_validate_shelf : List Str := ["plan", "shelf"]
def B_validate_shelf : List S := [.ife (.nt (.chn .le .lt (.int 0) (.var 1) (.bif .len false (.cons (.ix (.var 0) (.int 0)) (.nil))))) [.stuck] []]
def F_validate_shelf : FDef := ⟨2, 2, false, B_validate_shelf⟩
def N_places : List Str := ["plan"]
def B_places : List S := [.expr (.call "validate_plan" 2 (.cons (.var 0) (.nil))), .ret (.call "all_places" 4 (.cons (.var 0) (.nil)))]
def F_places : FDef := ⟨1, 1, false, B_places⟩
def N_pattern_steps : List Str := ["plan", "time", "contents", "steps", "number", "left", "carrier", "shelf", "place", "start"]
def B_pattern_steps : List S := [.set (.name 2) (.bif .rl true (.cons (.bif .len false (.cons (.call "all_places" 4 (.cons (.var 0) (.nil))) (.nil))) (.nil))), .set (.name 3) (.lc false (.lst true (.nil)) (.name 8) (.evx (.var 2)) (.none) [8]), .fr (.name 4) (.rng2 (.bin .add false (.var 1) (.int 1)) (.bin .add false (.bin .add false (.var 1) (.call "pattern_of" 10 (.cons (.var 0) (.nil)))) (.int 1))) [.set (.name 5) (.dnew [] (.nil)), .fr (.tup (.cons (.name 6) (.cons (.name 7) (.nil)))) (.evx (.call "visits_of" 11 (.cons (.var 0) (.cons (.var 4) (.nil))))) [.set (.dsub (.var 5) (.ix (.var 2) (.var 6))) (.var 7), .expr (.call "exchange" 12 (.cons (.var 0) (.cons (.var 2) (.cons (.var 6) (.cons (.var 7) (.nil))))))], .fr (.tup (.cons (.name 8) (.cons (.name 9) (.nil)))) (.enx (.var 2)) [.expr (.mth .append (.ix (.var 3) (.var 9)) (.cons (.tup (.cons (.mth .get (.var 5) (.cons (.var 9) (.nil))) (.cons (.var 8) (.nil)))) (.nil)))]], .ret (.var 3)]
def F_pattern_steps : FDef := ⟨2, 10, false, B_pattern_steps⟩
def N_first_sights : List Str := ["plan", "time", "shelf", "steps", "found", "cycle", "start", "every", "place", "step"]
def B_first_sights : List S := [.par [3, 4] (.cons (.call "pattern_steps" 43 (.cons (.var 0) (.cons (.var 1) (.nil)))) (.cons (.dnew [] (.nil)) (.nil))), .fr (.name 5) (.evx (.call "cycles_of" 16 (.cons (.call "pattern_effect" 19 (.cons (.var 0) (.cons (.var 1) (.nil)))) (.nil)))) [.fr (.name 6) (.rng1 (.bif .len false (.cons (.var 5) (.nil)))) [.set (.name 7) (.lst true (.nil)), .fr (.name 8) (.evx (.bin .add false (.sl false (.var 5) (.some (.var 6)) (.none)) (.sl false (.var 5) (.none) (.some (.var 6))))) [.expr (.mth .extend (.var 7) (.cons (.lc false (.ix (.var 9) (.int 0)) (.name 9) (.evx (.ix (.var 3) (.var 8))) (.none) [9]) (.nil)))], .ife (.cmp .inn (.var 2) (.var 7)) [.set (.dsub (.var 4) (.ix (.var 5) (.var 6))) (.bin .add false (.mth .index (.var 7) (.cons (.var 2) (.nil))) (.int 1))] []]], .ret (.var 4)]
def F_first_sights : FDef := ⟨3, 10, false, B_first_sights⟩
def N_watched : List Str := ["plan", "time", "shelf", "count", "sights", "place"]
def B_watched : List S := [.expr (.call "validate_plan" 2 (.cons (.var 0) (.nil))), .expr (.call "validate_shelf" 41 (.cons (.var 0) (.cons (.var 2) (.nil)))), .expr (.call "validate_count" 3 (.cons (.var 3) (.cons (.int 0) (.cons (.glo "MAX_TICKS" (.int 1000000000000000000)) (.nil))))), .set (.name 4) (.call "first_sights" 44 (.cons (.var 0) (.cons (.var 1) (.cons (.var 2) (.nil))))), .lock 4 (.ret (.bif .sorted false (.cons (.lc false (.var 5) (.name 5) (.keys 4) (.some (.cmp .le (.dix (.var 4) (.var 5)) (.var 3))) [5]) (.nil))))]
def F_watched : FDef := ⟨4, 6, false, B_watched⟩
def N_watching_time : List Str := ["plan", "time", "shelf"]
def B_watching_time : List S := [.expr (.call "validate_plan" 2 (.cons (.var 0) (.nil))), .expr (.call "validate_shelf" 41 (.cons (.var 0) (.cons (.var 2) (.nil)))), .ret (.bif .max false (.cons (.bin .add false (.lst false (.cons (.int 0) (.nil))) (.bif .listvals false (.cons (.call "first_sights" 44 (.cons (.var 0) (.cons (.var 1) (.cons (.var 2) (.nil))))) (.nil)))) (.nil)))]
def F_watching_time : FDef := ⟨3, 3, false, B_watching_time⟩
def N_law_v2 : List Str := ["_law_script", "_law_h", "_law_turn", "_law_plan_here", "_law_state_here", "_law_shelf", "_law_every", "_law_now", "_law_first", "_law_w", "_law_moment", "_law_carrier", "_law_goal", "_law_left", "_law_taken", "_law_count", "_law_due", "_law_time", "_law_last", "_law_parcel", "_law_k"]
def B_law_v2 : List S := [.set (.name 1) (.call "_law_mix" 31 (.cons (.var 0) (.cons (.int 13) (.nil)))), .fr (.name 2) (.rng1 (.int 2)) [.set (.name 3) (.call "_law_plan" 34 (.cons (.var 1) (.cons (.int 4) (.cons (.int 4) (.nil))))), .par [4, 5] (.cons (.call "_law_state" 35 (.cons (.var 1) (.cons (.var 3) (.nil)))) (.cons (.call "_law_next" 32 (.cons (.var 1) (.cons (.bif .len false (.cons (.ix (.var 3) (.int 0)) (.nil))) (.nil)))) (.nil))), .set (.tup (.cons (.name 6) (.cons (.name 7) (.cons (.name 8) (.nil))))) (.tup (.cons (.call "places" 42 (.cons (.var 3) (.nil))) (.cons (.call "_law_spots" 39 (.cons (.var 4) (.nil))) (.cons (.dnew [] (.nil)) (.nil))))), .set (.name 9) (.call "_law_begun" 37 (.cons (.var 4) (.nil))), .fr (.name 10) (.rng2 (.int 1) (.int 1001)) [.fr (.tup (.cons (.name 11) (.cons (.name 12) (.cons (.name 13) (.cons (.name 14) (.nil)))))) (.evx (.call "_law_step" 36 (.cons (.var 3) (.cons (.var 9) (.nil))))) [.ife (.and (.cmp .eq (.var 12) (.var 5)) (.cmp .dnin (.var 13) (.var 8))) [.set (.dsub (.var 8) (.var 13)) (.var 10)] []]], .set (.name 15) (.call "_law_next" 32 (.cons (.var 1) (.cons (.ix (.lst false (.cons (.int 30) (.cons (.int 1001) (.nil)))) (.call "_law_next" 32 (.cons (.var 1) (.cons (.int 2) (.nil))))) (.nil)))), .lock 8 (.set (.name 16) (.bif .sorted false (.cons (.lc false (.mth .index (.var 6) (.cons (.dix (.var 7) (.var 19)) (.nil))) (.name 19) (.keys 8) (.some (.cmp .le (.dix (.var 8) (.var 19)) (.var 15))) [19]) (.nil)))), .ife (.nt (.call "_law_alike" 33 (.cons (.call "watched" 45 (.cons (.var 3) (.cons (.ix (.var 4) (.int 0)) (.cons (.var 5) (.cons (.var 15) (.nil)))))) (.cons (.var 16) (.nil))))) [.ret (.bl false)] [], .set (.name 17) (.call "watching_time" 46 (.cons (.var 3) (.cons (.ix (.var 4) (.int 0)) (.cons (.var 5) (.nil))))), .lock 8 (.ife (.and (.cmp .le (.var 17) (.int 1000)) (.cmp .ne (.var 17) (.bif .max false (.cons (.bin .add false (.lst false (.cons (.int 0) (.nil))) (.lc false (.dix (.var 8) (.var 19)) (.name 19) (.keys 8) (.none) [19])) (.nil))))) [.ret (.bl false)] []), .set (.name 18) (.call "watched" 45 (.cons (.var 3) (.cons (.ix (.var 4) (.int 0)) (.cons (.var 5) (.cons (.bin .pow false (.int 10) (.int 18)) (.nil)))))), .ife (.cmp .ne (.call "watched" 45 (.cons (.var 3) (.cons (.ix (.var 4) (.int 0)) (.cons (.var 5) (.cons (.var 17) (.nil)))))) (.var 18)) [.ret (.bl false)] [], .ife (.and (.cmp .gt (.var 17) (.int 0)) (.cmp .eq (.call "watched" 45 (.cons (.var 3) (.cons (.ix (.var 4) (.int 0)) (.cons (.var 5) (.cons (.bin .sub false (.var 17) (.int 1)) (.nil)))))) (.var 18))) [.ret (.bl false)] [], .ife (.cmp .ne (.lc false (.var 20) (.name 20) (.evx (.var 16)) (.some (.cmp .nin (.var 20) (.var 18))) [20]) (.lst false (.nil))) [.ret (.bl false)] []], .ret (.bl true)]
def F_law_v2 : FDef := ⟨1, 21, false, B_law_v2⟩
def N_pattern_length : List Str := ["plan"]
def B_pattern_length : List S := [.expr (.call "validate_plan" 2 (.cons (.var 0) (.nil))), .ret (.call "pattern_of" 10 (.cons (.var 0) (.nil)))]
def F_pattern_length : FDef := ⟨1, 1, false, B_pattern_length⟩
def N_order_of : List Str := ["effect", "result", "cycle"]
def B_order_of : List S := [.set (.name 1) (.int 1), .fr (.name 2) (.evx (.call "cycles_of" 16 (.cons (.var 0) (.nil)))) [.set (.name 1) (.call "least_common_multiple" 8 (.cons (.var 1) (.cons (.bif .len false (.cons (.var 2) (.nil))) (.nil))))], .ret (.var 1)]
def F_order_of : FDef := ⟨1, 3, false, B_order_of⟩
def N_cycle_from : List Str := ["effect", "spot", "cycle", "index"]
def B_cycle_from : List S := [.fr (.name 2) (.evx (.call "cycles_of" 16 (.cons (.var 0) (.nil)))) [.ife (.cmp .inn (.var 1) (.var 2)) [.set (.name 3) (.mth .tindex (.var 2) (.cons (.var 1) (.nil))), .ret (.bin .add false (.sl false (.var 2) (.some (.var 3)) (.none)) (.sl false (.var 2) (.none) (.some (.var 3))))] []], .ret (.tup (.nil))]
def F_cycle_from : FDef := ⟨2, 4, false, B_cycle_from⟩
def N_return_time : List Str := ["plan", "state", "parcel", "spot"]
def B_return_time : List S := [.expr (.call "validate_state" 24 (.cons (.var 0) (.cons (.var 1) (.nil)))), .set (.name 3) (.call "spot_of" 25 (.cons (.var 1) (.cons (.var 2) (.nil)))), .ret (.bin .mul false (.call "pattern_of" 10 (.cons (.var 0) (.nil))) (.bif .len false (.cons (.call "cycle_from" 50 (.cons (.call "pattern_effect" 19 (.cons (.var 0) (.cons (.ix (.var 1) (.int 0)) (.nil)))) (.cons (.var 3) (.nil)))) (.nil))))]
def F_return_time : FDef := ⟨3, 4, false, B_return_time⟩
def N_period : List Str := ["plan", "state"]
def B_period : List S := [.expr (.call "validate_state" 24 (.cons (.var 0) (.cons (.var 1) (.nil)))), .ret (.bin .mul false (.call "pattern_of" 10 (.cons (.var 0) (.nil))) (.call "order_of" 49 (.cons (.call "pattern_effect" 19 (.cons (.var 0) (.cons (.ix (.var 1) (.int 0)) (.nil)))) (.nil))))]
def F_period : FDef := ⟨2, 2, false, B_period⟩
def N__law_far : List Str := ["_law_h", "_law_number"]
def B__law_far : List S := [.set (.name 1) (.call "_law_next" 32 (.cons (.var 0) (.cons (.ix (.lst false (.cons (.int 10) (.cons (.bin .pow false (.int 10) (.int 6)) (.cons (.bin .mul false (.int 5) (.bin .pow false (.int 10) (.int 17))) (.nil))))) (.call "_law_next" 32 (.cons (.var 0) (.cons (.int 3) (.nil))))) (.nil)))), .ret (.bin .mul false (.var 1) (.bin .sub false (.int 1) (.bin .mul false (.int 2) (.call "_law_next" 32 (.cons (.var 0) (.cons (.int 2) (.nil)))))))]
def F__law_far : FDef := ⟨1, 2, false, B__law_far⟩
def N__law_periods_right : List Str := ["_law_h", "_law_plan_here", "_law_state_here", "_law_parcel", "_law_now", "_law_whole", "_law_alone", "_law_length", "_law_k", "_law_factor", "_law_part"]
def B__law_periods_right : List S := [.set (.name 4) (.call "_law_spots" 39 (.cons (.var 2) (.nil))), .par [5, 6, 7] (.cons (.call "period" 52 (.cons (.var 1) (.cons (.var 2) (.nil)))) (.cons (.call "return_time" 51 (.cons (.var 1) (.cons (.var 2) (.cons (.var 3) (.nil))))) (.cons (.call "pattern_length" 48 (.cons (.var 1) (.nil))) (.nil)))), .ife (.or (.nt (.bif (.isinst ["int"]) false (.cons (.var 5) (.nil)))) (.or (.cmp .ne (.bin .mod false (.bif .int false (.cons (.var 5) (.nil))) (.var 6)) (.int 0)) (.cmp .ne (.bin .mod false (.bif .int false (.cons (.var 6) (.nil))) (.var 7)) (.int 0)))) [.ret (.bl false)] [], .fr (.name 8) (.evx (.tup (.cons (.int 1) (.cons (.neg (.int 2)) (.cons (.bin .add false (.int 1) (.call "_law_next" 32 (.cons (.var 0) (.cons (.int 1000) (.nil))))) (.cons (.bin .sub false (.neg (.int 1)) (.call "_law_next" 32 (.cons (.var 0) (.cons (.int 1000) (.nil))))) (.nil))))))) [.ife (.cmp .ne (.call "locate" 29 (.cons (.var 1) (.cons (.var 2) (.cons (.var 3) (.cons (.bin .mul false (.var 8) (.var 6)) (.nil)))))) (.dix (.var 4) (.var 3))) [.ret (.bl false)] [], .ife (.and (.cmp .le (.bif .abs false (.cons (.bin .mul false (.var 8) (.var 5)) (.nil))) (.bin .pow false (.int 10) (.int 18))) (.cmp .ne (.sl false (.call "advance" 28 (.cons (.var 1) (.cons (.var 2) (.cons (.bin .mul false (.var 8) (.var 5)) (.nil))))) (.some (.int 1)) (.none)) (.sl false (.var 2) (.some (.int 1)) (.none)))) [.ret (.bl false)] []], .fr (.name 8) (.rng2 (.int 1) (.bif .min2 false (.cons (.int 40) (.cons (.bin .fdiv false (.var 6) (.var 7)) (.nil))))) [.ife (.cmp .eq (.call "locate" 29 (.cons (.var 1) (.cons (.var 2) (.cons (.var 3) (.cons (.bin .mul false (.var 8) (.var 7)) (.nil)))))) (.dix (.var 4) (.var 3))) [.ret (.bl false)] []], .fr (.name 9) (.evx (.tup (.cons (.int 2) (.cons (.int 3) (.cons (.int 5) (.cons (.int 7) (.nil))))))) [.set (.name 10) (.bin .mul false (.bin .fdiv false (.bin .fdiv false (.var 5) (.var 7)) (.var 9)) (.var 7)), .ife (.and (.chn .lt .le (.int 0) (.var 10) (.bin .pow false (.int 10) (.int 18))) (.cmp .eq (.bin .mul false (.var 10) (.var 9)) (.var 5))) [.ife (.cmp .eq (.sl false (.call "advance" 28 (.cons (.var 1) (.cons (.var 2) (.cons (.var 10) (.nil))))) (.some (.int 1)) (.none)) (.sl false (.var 2) (.some (.int 1)) (.none))) [.ret (.bl false)] []] []], .ret (.bl true)]
def F__law_periods_right : FDef := ⟨4, 11, false, B__law_periods_right⟩
def N_law_v3 : List Str := ["_law_script", "_law_h", "_law_turn", "_law_plan_here", "_law_state_here", "_law_first", "_law_second", "_law_middle", "_law_last", "_law_spots_here", "_law_parcel"]
def B_law_v3 : List S := [.set (.name 1) (.call "_law_mix" 31 (.cons (.var 0) (.cons (.int 4) (.nil)))), .fr (.name 2) (.rng1 (.int 2)) [.set (.name 3) (.call "_law_plan" 34 (.cons (.var 1) (.cons (.ix (.lst false (.cons (.int 4) (.cons (.int 12) (.nil)))) (.call "_law_next" 32 (.cons (.var 1) (.cons (.int 2) (.nil))))) (.cons (.int 6) (.nil))))), .par [4, 5, 6] (.cons (.call "_law_state" 35 (.cons (.var 1) (.cons (.var 3) (.nil)))) (.cons (.call "_law_far" 53 (.cons (.var 1) (.nil))) (.cons (.call "_law_far" 53 (.cons (.var 1) (.nil))) (.nil)))), .set (.name 7) (.call "advance" 28 (.cons (.var 3) (.cons (.var 4) (.cons (.var 5) (.nil))))), .set (.name 8) (.call "advance" 28 (.cons (.var 3) (.cons (.var 7) (.cons (.var 6) (.nil))))), .ife (.or (.nt (.call "_law_alike" 33 (.cons (.call "advance" 28 (.cons (.var 3) (.cons (.var 4) (.cons (.bin .add false (.var 5) (.var 6)) (.nil))))) (.cons (.var 8) (.nil))))) (.cmp .ne (.ix (.var 8) (.int 0)) (.bin .add false (.bin .add false (.ix (.var 4) (.int 0)) (.var 5)) (.var 6)))) [.ret (.bl false)] [], .ife (.nt (.call "_law_alike" 33 (.cons (.call "advance" 28 (.cons (.var 3) (.cons (.var 8) (.cons (.bin .sub false (.int 0) (.var 6)) (.nil))))) (.cons (.var 7) (.nil))))) [.ret (.bl false)] [], .set (.name 9) (.call "_law_spots" 39 (.cons (.var 8) (.nil))), .set (.name 10) (.ix (.bif .sorted false (.cons (.var 9) (.nil))) (.call "_law_next" 32 (.cons (.var 1) (.cons (.bif .len false (.cons (.var 9) (.nil))) (.nil))))), .ife (.cmp .ne (.call "locate" 29 (.cons (.var 3) (.cons (.var 4) (.cons (.var 10) (.cons (.bin .add false (.var 5) (.var 6)) (.nil)))))) (.dix (.var 9) (.var 10))) [.ret (.bl false)] [], .ife (.cmp .ne (.call "parcel_at" 30 (.cons (.var 3) (.cons (.var 4) (.cons (.dix (.var 9) (.var 10)) (.cons (.bin .add false (.var 5) (.var 6)) (.nil)))))) (.var 10)) [.ret (.bl false)] [], .ife (.nt (.call "_law_periods_right" 54 (.cons (.var 1) (.cons (.var 3) (.cons (.var 4) (.cons (.var 10) (.nil))))))) [.ret (.bl false)] []], .ret (.bl true)]
def F_law_v3 : FDef := ⟨1, 11, false, B_law_v3⟩
def N_places_on : List Str := ["plan", "shelf"]
def B_places_on : List S := [.ret (.bif .rl false (.cons (.call "first_on" 6 (.cons (.var 0) (.cons (.var 1) (.nil)))) (.cons (.bin .add false (.call "first_on" 6 (.cons (.var 0) (.cons (.var 1) (.nil)))) (.ix (.ix (.var 0) (.int 0)) (.var 1))) (.nil))))]
def F_places_on : FDef := ⟨2, 2, false, B_places_on⟩
def N_Pair___init__ : List Str := ["self", "plan", "state", "first", "second", "steps", "effect", "shelves", "shelf", "place", "step"]
def B_Pair___init__ : List S := [.set (.tup (.cons (.name 5) (.cons (.name 6) (.nil)))) (.tup (.cons (.call "pattern_steps" 43 (.cons (.var 1) (.cons (.ix (.var 2) (.int 0)) (.nil)))) (.cons (.call "pattern_effect" 19 (.cons (.var 1) (.cons (.ix (.var 2) (.int 0)) (.nil)))) (.nil)))), .set (.name 7) (.dnew [] (.nil)), .fr (.name 8) (.rng1 (.bif .len false (.cons (.ix (.var 1) (.int 0)) (.nil)))) [.expr (.mth .update (.var 7) (.cons (.lc false (.tup (.cons (.var 9) (.cons (.var 8) (.nil)))) (.name 9) (.evx (.call "places_on" 56 (.cons (.var 1) (.cons (.var 8) (.nil))))) (.none) [9]) (.nil)))], .fset 0 (.var 0) "length" (.call "pattern_of" 10 (.cons (.var 1) (.nil))), .fset 0 (.var 0) "now" (.lst false (.cons (.mth .get (.var 7) (.cons (.var 3) (.nil))) (.cons (.mth .get (.var 7) (.cons (.var 4) (.nil))) (.nil)))), .fset 0 (.var 0) "one" (.lc false (.lc false (.mth .get (.var 7) (.cons (.ix (.var 10) (.int 1)) (.nil))) (.name 10) (.evx (.ix (.var 5) (.var 9))) (.none) [10]) (.name 9) (.evx (.call "cycle_from" 50 (.cons (.var 6) (.cons (.var 3) (.nil))))) (.none) [9]), .fset 0 (.var 0) "other" (.lc false (.lc false (.mth .get (.var 7) (.cons (.ix (.var 10) (.int 1)) (.nil))) (.name 10) (.evx (.ix (.var 5) (.var 9))) (.none) [10]) (.name 9) (.evx (.call "cycle_from" 50 (.cons (.var 6) (.cons (.var 4) (.nil))))) (.none) [9]), .fset 0 (.var 0) "rounds" (.call "least_common_multiple" 8 (.cons (.bif .len false (.cons (.fld 0 (.var 0) "one") (.nil))) (.cons (.bif .len false (.cons (.fld 0 (.var 0) "other") (.nil))) (.nil))))]
def F_Pair___init__ : FDef := ⟨5, 11, false, B_Pair___init__⟩
def N_Pair_meets_now : List Str := ["self"]
def B_Pair_meets_now : List S := [.ret (.and (.cmp .notN (.ix (.fld 0 (.var 0) "now") (.int 0)) (.non)) (.cmp .eq (.ix (.fld 0 (.var 0) "now") (.int 0)) (.ix (.fld 0 (.var 0) "now") (.int 1))))]
def F_Pair_meets_now : FDef := ⟨1, 1, false, B_Pair_meets_now⟩
def N_Pair_meetings_in : List Str := ["self", "number", "first", "second", "index"]
def B_Pair_meetings_in : List S := [.set (.name 2) (.ix (.fld 0 (.var 0) "one") (.bin .mod false (.bif .int false (.cons (.var 1) (.nil))) (.bif .len false (.cons (.fld 0 (.var 0) "one") (.nil))))), .set (.name 3) (.ix (.fld 0 (.var 0) "other") (.bin .mod false (.bif .int false (.cons (.var 1) (.nil))) (.bif .len false (.cons (.fld 0 (.var 0) "other") (.nil))))), .ret (.lc false (.var 4) (.name 4) (.rng1 (.fld 0 (.var 0) "length")) (.some (.and (.cmp .notN (.ix (.var 2) (.var 4)) (.non)) (.cmp .eq (.ix (.var 2) (.var 4)) (.ix (.var 3) (.var 4))))) [4])]
def F_Pair_meetings_in : FDef := ⟨2, 5, false, B_Pair_meetings_in⟩
def N_Pair_can_meet : List Str := ["self", "step", "rest", "index", "mine", "some"]
def B_Pair_can_meet : List S := [.set (.name 1) (.call "greatest_common_divisor" 7 (.cons (.bif .len false (.cons (.fld 0 (.var 0) "one") (.nil))) (.cons (.bif .len false (.cons (.fld 0 (.var 0) "other") (.nil))) (.nil)))), .fr (.name 2) (.rng1 (.var 1)) [.fr (.name 3) (.rng1 (.fld 0 (.var 0) "length")) [.set (.name 4) (.lc false (.ix (.var 5) (.var 3)) (.name 5) (.evx (.sl3 false (.fld 0 (.var 0) "one") (.some (.var 2)) (.none) (.var 1))) (.some (.cmp .notN (.ix (.var 5) (.var 3)) (.non))) [5]), .ife (.cmp .ne (.lc false (.var 5) (.name 5) (.evx (.sl3 false (.fld 0 (.var 0) "other") (.some (.var 2)) (.none) (.var 1))) (.some (.cmp .inn (.ix (.var 5) (.var 3)) (.var 4))) [5]) (.lst false (.nil))) [.ret (.bl true)] []]], .ret (.bl false)]
def F_Pair_can_meet : FDef := ⟨1, 6, false, B_Pair_can_meet⟩
def N_Pair_first : List Str := ["self", "number", "found"]
def B_Pair_first : List S := [.ife (.meth 0 "meets_now" 58 (.var 0) (.nil)) [.ret (.int 0)] [], .set (.name 1) (.int 0), .wh (.meth 0 "can_meet" 60 (.var 0) (.nil)) [.set (.name 2) (.meth 0 "meetings_in" 59 (.var 0) (.cons (.var 1) (.nil))), .ife (.cmp .ne (.var 2) (.lst false (.nil))) [.ret (.bin .add false (.bin .add false (.bin .mul false (.var 1) (.fld 0 (.var 0) "length")) (.ix (.var 2) (.int 0))) (.int 1))] [], .aug 1 .add (.int 1)], .ret (.non)]
def F_Pair_first : FDef := ⟨1, 3, false, B_Pair_first⟩
def N_Pair_count : List Str := ["self", "ticks", "whole", "turns", "rest", "total", "found", "left", "number", "index"]
def B_Pair_count : List S := [.set (.name 2) (.bin .fdiv false (.var 1) (.fld 0 (.var 0) "length")), .set (.name 3) (.bin .fdiv false (.var 2) (.fld 0 (.var 0) "rounds")), .set (.name 4) (.bin .sub false (.var 2) (.bin .mul false (.var 3) (.fld 0 (.var 0) "rounds"))), .set (.name 5) (.ife (.cmp .gt (.var 3) (.int 0)) (.bif .sum false (.cons (.lc false (.bif .len false (.cons (.meth 0 "meetings_in" 59 (.var 0) (.cons (.var 8) (.nil))) (.nil))) (.name 8) (.rng1 (.fld 0 (.var 0) "rounds")) (.none) [8]) (.nil))) (.int 0)), .set (.name 6) (.bin .add false (.bin .mul false (.var 3) (.var 5)) (.bif .sum false (.cons (.lc false (.bif .len false (.cons (.meth 0 "meetings_in" 59 (.var 0) (.cons (.var 8) (.nil))) (.nil))) (.name 8) (.rng1 (.var 4)) (.none) [8]) (.nil)))), .set (.name 7) (.bin .sub false (.var 1) (.bin .mul false (.var 2) (.fld 0 (.var 0) "length"))), .ret (.bin .add false (.var 6) (.bif .len false (.cons (.lc false (.var 9) (.name 9) (.evx (.meth 0 "meetings_in" 59 (.var 0) (.cons (.var 4) (.nil)))) (.some (.cmp .lt (.var 9) (.var 7))) [9]) (.nil))))]
def F_Pair_count : FDef := ⟨2, 10, false, B_Pair_count⟩
def N_pair_of : List Str := ["plan", "state", "one", "other"]
def B_pair_of : List S := [.expr (.call "validate_state" 24 (.cons (.var 0) (.cons (.var 1) (.nil)))), .ret (.make "Pair" 0 57 (.cons (.var 0) (.cons (.var 1) (.cons (.call "spot_of" 25 (.cons (.var 1) (.cons (.var 2) (.nil)))) (.cons (.call "spot_of" 25 (.cons (.var 1) (.cons (.var 3) (.nil)))) (.nil))))))]
def F_pair_of : FDef := ⟨4, 4, true, B_pair_of⟩
def N_first_meeting : List Str := ["plan", "state", "one", "other"]
def B_first_meeting : List S := [.ret (.meth 0 "first" 61 (.call "pair_of" 63 (.cons (.var 0) (.cons (.var 1) (.cons (.var 2) (.cons (.var 3) (.nil)))))) (.nil))]
def F_first_meeting : FDef := ⟨4, 4, false, B_first_meeting⟩
def N_ticks_together : List Str := ["plan", "state", "one", "other", "count", "pair"]
def B_ticks_together : List S := [.set (.name 5) (.call "pair_of" 63 (.cons (.var 0) (.cons (.var 1) (.cons (.var 2) (.cons (.var 3) (.nil)))))), .expr (.call "validate_count" 3 (.cons (.var 4) (.cons (.int 0) (.cons (.glo "MAX_TICKS" (.int 1000000000000000000)) (.nil))))), .ret (.meth 0 "count" 62 (.var 5) (.cons (.var 4) (.nil)))]
def F_ticks_together : FDef := ⟨5, 6, false, B_ticks_together⟩
def N_never_met : List Str := ["plan", "state", "parcel", "spot", "found", "place", "other", "pair"]
def B_never_met : List S := [.expr (.call "validate_state" 24 (.cons (.var 0) (.cons (.var 1) (.nil)))), .par [3, 4] (.cons (.call "spot_of" 25 (.cons (.var 1) (.cons (.var 2) (.nil)))) (.cons (.lst true (.nil)) (.nil))), .fr (.tup (.cons (.name 5) (.cons (.name 6) (.nil)))) (.enx (.call "contents_of" 21 (.cons (.var 1) (.nil)))) [.ife (.cmp .ne (.var 5) (.var 3)) [.set (.name 7) (.make "Pair" 0 57 (.cons (.var 0) (.cons (.var 1) (.cons (.var 3) (.cons (.var 5) (.nil)))))), .ife (.and (.nt (.meth 0 "meets_now" 58 (.var 7) (.nil))) (.nt (.meth 0 "can_meet" 60 (.var 7) (.nil)))) [.expr (.mth .append (.var 4) (.cons (.var 6) (.nil)))] []] []], .ret (.bif .sorted false (.cons (.var 4) (.nil)))]
def F_never_met : FDef := ⟨3, 8, false, B_never_met⟩
def N__law_meets : List Str := ["_law_state_here", "_law_one", "_law_other", "_law_shelf"]
def B__law_meets : List S := [.ret (.cmp .ne (.lc false (.var 3) (.name 3) (.evx (.ix (.var 0) (.int 2))) (.some (.and (.cmp .inn (.var 1) (.var 3)) (.cmp .inn (.var 2) (.var 3)))) [3]) (.lst false (.nil)))]
def F__law_meets : FDef := ⟨3, 4, false, B__law_meets⟩
def N_law_v4 : List Str := ["_law_script", "_law_h", "_law_turn", "_law_plan_here", "_law_state_here", "_law_whole", "_law_w", "_law_states", "_law_k", "_law_parcels", "_law_one", "_law_other", "_law_ticks", "_law_due", "_law_count", "_law_number", "_law_many", "_law_rest", "_law_never", "_law_third", "_law_meets_here"]
def B_law_v4 : List S := [.set (.name 1) (.call "_law_mix" 31 (.cons (.var 0) (.cons (.int 10) (.nil)))), .fr (.name 2) (.rng1 (.int 3)) [.set (.name 3) (.call "_law_plan" 34 (.cons (.var 1) (.cons (.int 3) (.cons (.int 3) (.nil))))), .set (.name 4) (.call "_law_state" 35 (.cons (.var 1) (.cons (.var 3) (.nil)))), .set (.name 5) (.call "period" 52 (.cons (.var 3) (.cons (.var 4) (.nil)))), .ife (.cmp .le (.var 5) (.int 400)) [.set (.tup (.cons (.name 6) (.cons (.name 7) (.nil)))) (.tup (.cons (.call "_law_begun" 37 (.cons (.var 4) (.nil))) (.cons (.lst true (.cons (.var 4) (.nil))) (.nil)))), .fr (.name 8) (.rng1 (.var 5)) [.expr (.call "_law_step" 36 (.cons (.var 3) (.cons (.var 6) (.nil)))), .expr (.mth .append (.var 7) (.cons (.call "_law_seen" 38 (.cons (.var 6) (.nil))) (.nil)))], .set (.name 9) (.bif .sorted false (.cons (.call "_law_spots" 39 (.cons (.var 4) (.nil))) (.nil))), .set (.tup (.cons (.name 10) (.cons (.name 11) (.nil)))) (.tup (.cons (.ix (.var 9) (.call "_law_next" 32 (.cons (.var 1) (.cons (.bif .len false (.cons (.var 9) (.nil))) (.nil))))) (.cons (.ix (.var 9) (.call "_law_next" 32 (.cons (.var 1) (.cons (.bif .len false (.cons (.var 9) (.nil))) (.nil))))) (.nil)))), .set (.name 12) (.lc false (.var 8) (.name 8) (.rng1 (.bin .add false (.var 5) (.int 1))) (.some (.call "_law_meets" 67 (.cons (.ix (.var 7) (.var 8)) (.cons (.var 10) (.cons (.var 11) (.nil)))))) [8]), .set (.name 13) (.ife (.cmp .ne (.var 12) (.lst false (.nil))) (.ix (.var 12) (.int 0)) (.non)), .ife (.nt (.call "_law_alike" 33 (.cons (.call "first_meeting" 64 (.cons (.var 3) (.cons (.var 4) (.cons (.var 10) (.cons (.var 11) (.nil)))))) (.cons (.var 13) (.nil))))) [.ret (.bl false)] [], .set (.name 14) (.call "_law_next" 32 (.cons (.var 1) (.cons (.bin .add false (.var 5) (.int 1)) (.nil)))), .set (.name 15) (.bif .len false (.cons (.lc false (.var 8) (.name 8) (.evx (.var 12)) (.some (.chn .le .le (.int 1) (.var 8) (.var 14))) [8]) (.nil))), .ife (.nt (.call "_law_alike" 33 (.cons (.call "ticks_together" 65 (.cons (.var 3) (.cons (.var 4) (.cons (.var 10) (.cons (.var 11) (.cons (.var 14) (.nil))))))) (.cons (.var 15) (.nil))))) [.ret (.bl false)] [], .par [16, 17] (.cons (.call "_law_next" 32 (.cons (.var 1) (.cons (.bin .pow false (.int 10) (.int 14)) (.nil)))) (.cons (.bif .len false (.cons (.lc false (.var 8) (.name 8) (.evx (.var 12)) (.some (.cmp .gt (.var 8) (.int 0))) [8]) (.nil))) (.nil))), .ife (.cmp .ne (.call "ticks_together" 65 (.cons (.var 3) (.cons (.var 4) (.cons (.var 10) (.cons (.var 11) (.cons (.bin .add false (.bin .mul false (.var 16) (.var 5)) (.var 14)) (.nil))))))) (.bin .add false (.bin .mul false (.var 16) (.var 17)) (.var 15))) [.ret (.bl false)] [], .set (.name 18) (.lst true (.nil)), .fr (.name 19) (.evx (.var 9)) [.set (.name 20) (.lc false (.var 8) (.name 8) (.rng1 (.var 5)) (.some (.call "_law_meets" 67 (.cons (.ix (.var 7) (.var 8)) (.cons (.var 10) (.cons (.var 19) (.nil)))))) [8]), .ife (.and (.cmp .ne (.var 19) (.var 10)) (.cmp .eq (.var 20) (.lst false (.nil)))) [.expr (.mth .append (.var 18) (.cons (.var 19) (.nil)))] []], .ife (.nt (.call "_law_alike" 33 (.cons (.call "never_met" 66 (.cons (.var 3) (.cons (.var 4) (.cons (.var 10) (.nil))))) (.cons (.var 18) (.nil))))) [.ret (.bl false)] []] []], .ret (.bl true)]
def F_law_v4 : FDef := ⟨1, 21, false, B_law_v4⟩
def N__law_meet : List Str := ["_law_plan_here", "_law_state_here", "_law_one", "_law_other", "_law_count", "_law_mine", "_law_yours"]
def B__law_meet : List S := [.par [5, 6] (.cons (.call "locate" 29 (.cons (.var 0) (.cons (.var 1) (.cons (.var 2) (.cons (.var 4) (.nil)))))) (.cons (.call "locate" 29 (.cons (.var 0) (.cons (.var 1) (.cons (.var 3) (.cons (.var 4) (.nil)))))) (.nil))), .ret (.and (.cmp .eq (.ix (.var 5) (.int 0)) (.str "shelf")) (.cmp .eq (.sl false (.var 5) (.none) (.some (.int 2))) (.sl false (.var 6) (.none) (.some (.int 2)))))]
def F__law_meet : FDef := ⟨5, 7, false, B__law_meet⟩
def N_law_v5 : List Str := ["_law_script", "_law_h", "_law_turn", "_law_plan_here", "_law_state_here", "_law_parcels", "_law_one", "_law_other", "_law_soon", "_law_first", "_law_second", "_law_middle", "_law_many", "_law_both", "_law_at", "_law_step_here", "_law_k"]
def B_law_v5 : List S := [.set (.name 1) (.call "_law_mix" 31 (.cons (.var 0) (.cons (.int 11) (.nil)))), .fr (.name 2) (.rng1 (.int 2)) [.set (.name 3) (.call "_law_plan" 34 (.cons (.var 1) (.cons (.ix (.lst false (.cons (.int 3) (.cons (.int 6) (.nil)))) (.call "_law_next" 32 (.cons (.var 1) (.cons (.int 2) (.nil))))) (.cons (.int 4) (.nil))))), .set (.name 4) (.call "_law_state" 35 (.cons (.var 1) (.cons (.var 3) (.nil)))), .set (.name 5) (.bif .sorted false (.cons (.call "_law_spots" 39 (.cons (.var 4) (.nil))) (.nil))), .set (.tup (.cons (.name 6) (.cons (.name 7) (.nil)))) (.tup (.cons (.ix (.var 5) (.call "_law_next" 32 (.cons (.var 1) (.cons (.bif .len false (.cons (.var 5) (.nil))) (.nil))))) (.cons (.ix (.var 5) (.call "_law_next" 32 (.cons (.var 1) (.cons (.bif .len false (.cons (.var 5) (.nil))) (.nil))))) (.nil)))), .set (.name 8) (.call "first_meeting" 64 (.cons (.var 3) (.cons (.var 4) (.cons (.var 6) (.cons (.var 7) (.nil)))))), .ife (.cmp .ne (.call "first_meeting" 64 (.cons (.var 3) (.cons (.var 4) (.cons (.var 7) (.cons (.var 6) (.nil)))))) (.var 8)) [.ret (.bl false)] [], .par [9, 10] (.cons (.call "_law_next" 32 (.cons (.var 1) (.cons (.ix (.lst false (.cons (.int 60) (.cons (.bin .pow false (.int 10) (.int 16)) (.nil)))) (.call "_law_next" 32 (.cons (.var 1) (.cons (.int 2) (.nil))))) (.nil)))) (.cons (.call "_law_next" 32 (.cons (.var 1) (.cons (.ix (.lst false (.cons (.int 60) (.cons (.bin .pow false (.int 10) (.int 16)) (.nil)))) (.call "_law_next" 32 (.cons (.var 1) (.cons (.int 2) (.nil))))) (.nil)))) (.nil))), .par [11, 12] (.cons (.call "advance" 28 (.cons (.var 3) (.cons (.var 4) (.cons (.var 9) (.nil))))) (.cons (.call "ticks_together" 65 (.cons (.var 3) (.cons (.var 4) (.cons (.var 6) (.cons (.var 7) (.cons (.var 9) (.nil))))))) (.nil))), .set (.name 13) (.call "ticks_together" 65 (.cons (.var 3) (.cons (.var 4) (.cons (.var 6) (.cons (.var 7) (.cons (.bin .add false (.var 9) (.var 10)) (.nil))))))), .ife (.cmp .ne (.bin .add false (.var 12) (.call "ticks_together" 65 (.cons (.var 3) (.cons (.var 11) (.cons (.var 7) (.cons (.var 6) (.cons (.var 10) (.nil)))))))) (.var 13)) [.ret (.bl false)] [], .ife (.and (.cmp .ne (.var 6) (.var 7)) (.cmp .ne (.cmp .inn (.var 7) (.call "never_met" 66 (.cons (.var 3) (.cons (.var 4) (.cons (.var 6) (.nil)))))) (.cmp .isN (.var 8) (.non)))) [.ret (.bl false)] [], .ife (.cmp .isN (.var 8) (.non)) [.ife (.cmp .ne (.var 13) (.int 0)) [.ret (.bl false)] []] [.ife (.nt (.call "_law_meet" 69 (.cons (.var 3) (.cons (.var 4) (.cons (.var 6) (.cons (.var 7) (.cons (.var 8) (.nil)))))))) [.ret (.bl false)] [.ife (.cmp .ne (.lc false (.var 16) (.name 16) (.rng2 (.bif .max2 false (.cons (.int 0) (.cons (.bin .sub false (.var 8) (.int 25)) (.nil)))) (.var 8)) (.some (.call "_law_meet" 69 (.cons (.var 3) (.cons (.var 4) (.cons (.var 6) (.cons (.var 7) (.cons (.var 16) (.nil)))))))) [16]) (.lst false (.nil))) [.ret (.bl false)] [.ife (.and (.cmp .gt (.var 8) (.int 0)) (.cmp .ne (.call "ticks_together" 65 (.cons (.var 3) (.cons (.var 4) (.cons (.var 6) (.cons (.var 7) (.cons (.var 8) (.nil))))))) (.int 1))) [.ret (.bl false)] []]]], .set (.name 14) (.call "_law_next" 32 (.cons (.var 1) (.cons (.bin .pow false (.int 10) (.int 17)) (.nil)))), .set (.name 15) (.bin .sub false (.call "ticks_together" 65 (.cons (.var 3) (.cons (.var 4) (.cons (.var 6) (.cons (.var 7) (.cons (.bin .add false (.var 14) (.int 1)) (.nil))))))) (.call "ticks_together" 65 (.cons (.var 3) (.cons (.var 4) (.cons (.var 6) (.cons (.var 7) (.cons (.var 14) (.nil)))))))), .ife (.cmp .ne (.var 15) (.bif .int false (.cons (.call "_law_meet" 69 (.cons (.var 3) (.cons (.var 4) (.cons (.var 6) (.cons (.var 7) (.cons (.bin .add false (.var 14) (.int 1)) (.nil))))))) (.nil)))) [.ret (.bl false)] []], .ret (.bl true)]
def F_law_v5 : FDef := ⟨1, 17, false, B_law_v5⟩
def tabL : List FDef := [F_is_route, F_first_invalid, F_validate_plan, F_validate_count, F_all_places, F_number_of, F_first_on, F_greatest_common_divisor, F_least_common_multiple, F_route_period, F_pattern_of, F_visits_of, F_exchange, F_run_tick, F_inverse_of, F_combined, F_cycles_of, F_repeated, F_ticks_effect, F_pattern_effect, F_effect_between, F_contents_of, F_state_of, F_fits, F_validate_state, F_spot_of, F_moved, F_tick, F_advance, F_locate, F_parcel_at, F__law_mix, F__law_next, F__law_alike, F__law_plan, F__law_state, F__law_step, F__law_begun, F__law_seen, F__law_spots, F_law, F_validate_shelf, F_places, F_pattern_steps, F_first_sights, F_watched, F_watching_time, F_law_v2, F_pattern_length, F_order_of, F_cycle_from, F_return_time, F_period, F__law_far, F__law_periods_right, F_law_v3, F_places_on, F_Pair___init__, F_Pair_meets_now, F_Pair_meetings_in, F_Pair_can_meet, F_Pair_first, F_Pair_count, F_pair_of, F_first_meeting, F_ticks_together, F_never_met, F__law_meets, F_law_v4, F__law_meet, F_law_v5]
end Bd

/-! Pn: orders of permutations, orbits turned, patterns as powers. -/
namespace Pm
theorem it_back_dvd {n : Nat} {e : List Nat} (p : IsP n e) {i : Nat} (hi : i < n) (m : Nat) : it e m i = i ↔ orbL n e i ∣ m := by
  have h := orbL_spec p hi
  constructor
  · intro hm
    rw [it_mod p hi m] at hm
    apply Nat.dvd_of_mod_eq_zero
    apply Classical.byContradiction
    intro hne
    exact h.2.2 (m % orbL n e i) (Nat.pos_of_ne_zero hne) (Nat.mod_lt _ (orbL_pos n e i)) hm
  · rintro ⟨k, rfl⟩
    exact it_mul h.2.1 k
theorem it_comm (e : List Nat) (a b i : Nat) : it e a (it e b i) = it e b (it e a i) := by rw [← it_add, ← it_add, Nat.add_comm]
theorem orbL_it {n : Nat} {e : List Nat} (p : IsP n e) {i : Nat} (hi : i < n) (k : Nat) : orbL n e (it e k i) = orbL n e i := by
  unfold orbL
  congr 2
  funext m
  unfold isOrb
  rw [decide_eq_decide, it_comm e (m + 1) k i]
  constructor
  · intro h
    exact it_inj p k (it_lt p _ hi) hi h
  · intro h
    rw [h]
theorem orb_rot {n : Nat} {e : List Nat} (p : IsP n e) {i k : Nat} (hi : i < n) (hk : k < orbL n e i) : (orb n e i).drop k ++ (orb n e i).take k = orb n e (it e k i) := by
  have hl := orb_len n e i
  have hL := orbL_it p hi k
  apply List.ext_getElem?
  intro j
  by_cases hj : j < orbL n e i
  · rw [orb_get (by rw [hL]; exact hj)]
    by_cases h2 : j < orbL n e i - k
    · rw [List.getElem?_append_left (by rw [List.length_drop, hl]; exact h2), List.getElem?_drop, orb_get (by omega), ← it_add]
    · rw [List.getElem?_append_right (by rw [List.length_drop, hl]; omega), List.length_drop, hl, List.getElem?_take, if_pos (by omega), orb_get (by omega), ← it_add]
      congr 1
      have h3 := (orbL_spec p hi).2.1
      rw [show k + j = orbL n e i + (j - (orbL n e i - k)) by omega, it_add, h3]
  · rw [List.getElem?_eq_none (by rw [List.length_append, List.length_drop, List.length_take, hl]; omega), List.getElem?_eq_none (by rw [orb_len, hL]; omega)]
/-- the order -/
def ordE (n : Nat) (e : List Nat) : Nat := (cycs n e n).foldl (fun r c => Nat.lcm r c.length) 1
theorem lcm_foldl (f : List Nat → Nat) : ∀ (cs : List (List Nat)) (L : Nat), L ∣ cs.foldl (fun r c => Nat.lcm r (f c)) L ∧ (∀ c ∈ cs, f c ∣ cs.foldl (fun r c => Nat.lcm r (f c)) L) ∧ ∀ M, L ∣ M → (∀ c ∈ cs, f c ∣ M) → cs.foldl (fun r c => Nat.lcm r (f c)) L ∣ M
  | [], L => ⟨Nat.dvd_refl _, (fun _ h => nomatch h), fun M h _ => h⟩
  | r :: rs, L => by
    obtain ⟨h1, h2, h3⟩ := lcm_foldl f rs (Nat.lcm L (f r))
    refine ⟨Nat.dvd_trans (Nat.dvd_lcm_left _ _) h1, fun x hx => ?_, fun M hL hM => ?_⟩
    · rcases List.mem_cons.mp hx with rfl | hx
      · exact Nat.dvd_trans (Nat.dvd_lcm_right _ _) h1
      · exact h2 x hx
    · exact h3 M (Nat.lcm_dvd hL (hM r (by simp))) fun x hx => hM x (by simp [hx])
theorem lcm_fold_pos (f : List Nat → Nat) : ∀ (cs : List (List Nat)) (L : Nat), 0 < L → (∀ c ∈ cs, 0 < f c) → 0 < cs.foldl (fun r c => Nat.lcm r (f c)) L
  | [], _, h, _ => h
  | c :: cs, L, h, hc => lcm_fold_pos f cs _ (Nat.lcm_pos h (hc c (by simp))) fun x hx => hc x (by simp [hx])
theorem ordE_pos {n : Nat} {e : List Nat} (p : IsP n e) : 0 < ordE n e := lcm_fold_pos List.length _ 1 (by decide) fun c hc => by
  obtain ⟨i, _, _, rfl⟩ := (cycs_ok p (Nat.le_refl n)).orb c hc
  rw [orb_len]
  exact orbL_pos _ _ _
theorem orbL_dvd {n : Nat} {e : List Nat} (p : IsP n e) {i : Nat} (hi : i < n) : orbL n e i ∣ ordE n e := by
  have ok := cycs_ok p (Nat.le_refl n)
  obtain ⟨c, hc, hm⟩ := List.mem_flatten.mp (ok.all i hi)
  obtain ⟨j, _, hj, rfl⟩ := ok.orb c hc
  obtain ⟨k, rfl⟩ := (mem_orb p hj).mp hm
  have := (lcm_foldl List.length (cycs n e n) 1).2.1 _ hc
  rw [orb_len] at this
  rw [orbL_it p hj]
  exact this
theorem ordE_dvd {n : Nat} {e : List Nat} (p : IsP n e) {m : Nat} (h : ∀ i, i < n → it e m i = i) : ordE n e ∣ m := by
  refine (lcm_foldl List.length (cycs n e n) 1).2.2 m ⟨m, by simp⟩ fun c hc => ?_
  obtain ⟨i, _, hi, rfl⟩ := (cycs_ok p (Nat.le_refl n)).orb c hc
  rw [orb_len]
  exact (it_back_dvd p hi m).mp (h i hi)
/-- a whole power leaves a place as it is -/
theorem pwI_fix {n : Nat} {e : List Nat} (p : IsP n e) {i : Nat} (hi : i < n) {z : Int} : ap (pwI n e z) i = i ↔ orbL n e i ∣ z.natAbs := by
  unfold pwI
  split
  · rename_i hz
    rw [show (-z).toNat = z.natAbs by omega, ← it_back_dvd p hi]
    have q := pw_isP p z.natAbs
    constructor
    · intro h
      have := congrArg (ap (pw n e z.natAbs)) h
      rw [ap_inv q hi, pw_ap hi] at this
      exact this.symm
    · intro h
      have : ap (pw n e z.natAbs) i = i := by rw [pw_ap hi]; exact h
      conv => lhs; rw [← this]
      exact inv_ap q hi
  · rename_i hz
    rw [show z.toNat = z.natAbs by omega, ← it_back_dvd p hi, pw_ap hi]
theorem pwI_ids {n : Nat} {e : List Nat} (p : IsP n e) {z : Int} : pwI n e z = ids n ↔ ordE n e ∣ z.natAbs := by
  have q := pwI_isP p z
  constructor
  · intro h
    refine ordE_dvd p fun i hi => (it_back_dvd p hi _).mpr ((pwI_fix p hi).mp ?_)
    rw [h, ids_ap hi]
  · intro h
    apply ext_ap (by rw [q.len, ids_len])
    intro i hi
    rw [q.len] at hi
    rw [ids_ap hi]
    exact (pwI_fix p hi).mpr (Nat.dvd_trans (orbL_dvd p hi) h)
end Pm
namespace Sp
open Pm
theorem effI_pat {p : Plan} (o : p.Ok) {L : Nat} (h : Periodic p L) (t : Int) (z : Int) : effI p t (L * z) = pwI (total p) (eff p t L) z := by
  have pos : ∀ (t : Int) (k : Nat), effI p t ((L * k : Nat) : Int) = pw (total p) (eff p t L) k := fun t k => by rw [effI_nat, eff_pow o h]
  by_cases hz : z < 0
  · obtain ⟨k, rfl⟩ : ∃ k : Nat, z = -(k : Int) := ⟨(-z).toNat, by omega⟩
    have e1 : (L : Int) * -(k : Int) = -((L * k : Nat) : Int) := by rw [Int.mul_neg, Int.natCast_mul]
    rw [e1, effI_neg o, pos]
    unfold pwI
    rw [if_pos hz, show (- -(k : Int)).toNat = k by omega]
    congr 2
    have := eff_pers h (t - ((L * k : Nat) : Int)) L k
    rw [show t - ((L * k : Nat) : Int) + ((L * k : Nat) : Int) = t by omega] at this
    exact this.symm
  · obtain ⟨k, rfl⟩ : ∃ k : Nat, z = (k : Int) := ⟨z.toNat, by omega⟩
    rw [show (L : Int) * (k : Int) = ((L * k : Nat) : Int) by rw [Int.natCast_mul], pos, pwI_nat]
/-- what does not move leaves carried and shelves -/
theorem adv_fix {p : Plan} (o : p.Ok) {s : St} (q : s.Ok p) {c : Int} (h : effI p s.time c = ids (total p)) : (adv p s c).carried = s.carried ∧ (adv p s c).shelves = s.shelves := by
  unfold adv
  rw [h, inv_ids, ids_comp q.len]
  have := stOf_self q
  unfold stOf at this ⊢
  have h1 := congrArg St.carried this
  have h2 := congrArg St.shelves this
  exact ⟨h1, h2⟩
/-- parcels at the same places: nothing has moved -/
theorem adv_same {p : Plan} (o : p.Ok) {s : St} (q : s.Ok p) {c : Int} (h1 : (adv p s c).carried = s.carried) (h2 : (adv p s c).shelves = s.shelves) : effI p s.time c = ids (total p) := by
  have pe := effI_isP o s.time c
  have hc : (adv p s c).cont = s.cont := by
    unfold St.cont
    rw [h1, h2]
  rw [adv_cont o q] at hc
  have hi : inv (effI p s.time c) = ids (total p) := by
    apply ext_ap (by rw [(inv_isP pe).len, ids_len])
    intro i hi
    rw [(inv_isP pe).len] at hi
    rw [ids_ap hi]
    have h3 := congrArg (fun l => ap l i) hc
    rw [comp_ap (by rw [(inv_isP pe).len]; exact hi)] at h3
    have hl := q.len
    have h4 := (inv_isP pe).ap_lt hi
    exact (List.getElem?_inj (i := ap (inv (effI p s.time c)) i) (j := i) (by omega) q.nd).mp (by rw [ap_some (by omega), ap_some (by omega), h3])
  rw [← inv_inv pe, hi, inv_ids]
end Sp

/-! Sp0: which defs a law has. -/
namespace Sp
open PySem L2 Sw Bd
def tab (i : Nat) : Option FDef := tabL[i]?
def Has (P : Nat → Option FDef) (l : List Nat) : Prop := ∀ i ∈ l, P i = tab i
theorem Has.f {P : Nat → Option FDef} {l : List Nat} (H : Has P l) (i : Nat) {F : FDef} (e : l.contains i = true) (e2 : tab i = some F) : P i = some F := (H i (by simpa using e)).trans e2
theorem Has.sub {P : Nat → Option FDef} {l l2 : List Nat} (H : Has P l) (e : l2.all (fun i => l.contains i) = true) : Has P l2 := fun i hi => H i (by
  have := List.all_eq_true.mp e i hi
  simpa using this)
end Sp

set_option maxRecDepth 100000
set_option maxHeartbeats 1000000
/-! Sp1: plans, validation. -/
namespace Sp
open PySem L2 Sw Bd
def dI (n : Nat) : D := .int n
def dEnt : Option Nat → D
  | none => .non
  | some x => .int x
def dRoute (r : List (Option Nat)) : D := .tup (r.map dEnt)
def dPlan (p : Plan) : D := .tup [.tup (p.sizes.map dI), .tup (p.routes.map dRoute)]
theorem asBls_map {α : Type} (f : α → Bool) : ∀ xs : List α, asBls (xs.map fun x => D.bl (f x)) = some (xs.map f)
  | [] => rfl
  | x :: xs => by rw [List.map_cons, asBls, asBls_map f xs]; rfl
theorem asInts_map {α : Type} (f : α → Int) : ∀ xs : List α, asInts (xs.map fun x => D.int (f x)) = some (xs.map f)
  | [] => rfl
  | x :: xs => by rw [List.map_cons, asInts, asInts_map f xs]; rfl
theorem sum_cast : ∀ xs : List Nat, (xs.map fun n : Nat => (n : Int)).sum = ((xs.sum : Nat) : Int)
  | [] => rfl
  | x :: xs => by rw [List.map_cons, List.sum_cons, List.sum_cons, sum_cast xs]; omega
theorem le_size {n : Nat} (h : n ≤ 100000) : n ≤ sizeLine := by
  rw [sizeLine_eq]
  omega
@[simp] theorem filterMap_some {α β : Type} (f : α → β) (xs : List α) : xs.filterMap (fun x => some (f x)) = xs.map f := by
  induction xs with
  | nil => rfl
  | cons x xs ih => simp [ih]
@[simp] theorem froz_bl (h : Store) (n k : Nat) (x : Bool) : froz h n k (.bl x) = some (.bl x) := froz_bel rfl
@[simp] theorem froz_int (h : Store) (n k : Nat) (x : Int) : froz h n k (.int x) = some (.int x) := froz_bel rfl
@[simp] theorem froz_non (h : Store) (n k : Nat) : froz h n k .non = some .non := froz_bel rfl
section
variable {P : Nat → Option FDef} {n b : Nat} {h : Store}
def c_is_route : List Nat := [0]
theorem is_route_ok (H : Has P c_is_route) {sizes : List Nat} {r : List (Option Nat)} (h0 : sizes.length ≤ 12) (h1 : 1 ≤ r.length) (h2 : r.length ≤ 6) (h3 : ∀ x, some x ∈ r → x < sizes.length) :
    callI P (n + 1) 0 [.tup (sizes.map dI), dRoute r] b h = some (.bl true, h) := by
  refine opt_eq (call_of (H.f 0 rfl rfl) rfl rfl ?_)
  simp [F_is_route, B_is_route, getV, dRoute, biF]
  refine ⟨by omega, by omega, le_size (by omega), lc_rule dEnt (fun _ => some (.bl true)) (live_none h) (fun x hx => ?_) ?_⟩
  · cases x with
    | none => simp [wipeD, getV, biF, dEnt]
    | some x =>
      have := h3 x hx
      simp [wipeD, getV, biF, dEnt]
      omega
  · simp [asBls_map]
def c_first_invalid : List Nat := [1]
theorem first_invalid_ok {α : Type} (H : Has P c_first_invalid) {xs : List D} {most : Int} {fl : List α} (h0 : 1 ≤ xs.length) (h1 : (xs.length : Int) ≤ most) :
    callI P (n + 1) 1 [.tup xs, .int most, .lst (fl.map fun _ => .bl true)] b h = some (.non, h) := by
  have e : inD h (.bl false) (.lst (fl.map fun _ => .bl true)) = some false := by
    have := in_bls h (fl.map fun _ => true) false
    rw [List.map_map] at this
    have e2 : (D.bl ∘ fun (_ : α) => true) = fun _ => D.bl true := rfl
    rw [e2] at this
    rw [this]
    simp
  refine opt_eq (call_of (H.f 1 rfl rfl) rfl rfl ?_)
  simp [F_first_invalid, B_first_invalid, getV, biF, e]
  omega
def c_validate_plan : List Nat := [2, 0, 1]
theorem validate_plan_ok (H : Has P c_validate_plan) {p : Plan} (o : p.Ok) :
    callI P (n + 2) 2 [dPlan p] b h = some (.non, h) := by
  refine opt_eq (call_of (H.f 2 rfl rfl) rfl rfl ?_)
  simp [F_validate_plan, B_validate_plan, getV, dPlan]
  refine ⟨le_size (by have := o.s2; omega), lc_rule dI (fun _ => some (.bl true)) (live_none h) (fun x hx => ?_) ?_⟩
  · have := o.s3 x hx
    simp [wipeD, getV, dI]
    omega
  · simp
    refine opt_of_eq (first_invalid_ok (H.sub rfl) (xs := p.sizes.map dI) (by simpa using o.s1) (by have := o.s2; simp; omega)) ?_
    simp
    refine ⟨le_size (by have := o.r2; omega), lc_rule dRoute (fun _ => some (.bl true)) (live_none h) (fun r hr => ?_) ?_⟩
    · obtain ⟨h1, h2, h3⟩ := o.r3 r hr
      simp [wipeD, getV]
      exact opt_of_eq (is_route_ok (H.sub rfl) o.s2 h1 h2 h3) ⟨rfl, rfl⟩
    · simp
      refine opt_of_eq (first_invalid_ok (H.sub rfl) (xs := p.routes.map dRoute) (by simpa using o.r1) (by have := o.r2; simp; omega)) ?_
      simp
def c_validate_count : List Nat := [3]
theorem validate_count_ok (H : Has P c_validate_count) {c lo hi : Int} (h0 : lo ≤ c) (h1 : c ≤ hi) : callI P (n + 1) 3 [.int c, .int lo, .int hi] b h = some (.non, h) := by
  refine opt_eq (call_of (H.f 3 rfl rfl) rfl rfl ?_)
  simp [F_validate_count, B_validate_count, getV, h0, h1]
theorem ixD_plan0 {p : Plan} : ixD h (dPlan p) 0 = some (.tup (p.sizes.map dI)) := rfl
theorem ixD_plan1 {p : Plan} : ixD h (dPlan p) 1 = some (.tup (p.routes.map dRoute)) := rfl
def c_validate_shelf : List Nat := [41]
theorem validate_shelf_ok (H : Has P c_validate_shelf) {p : Plan} {s : Nat} (h0 : s < p.sizes.length) : callI P (n + 1) 41 [dPlan p, .int s] b h = some (.non, h) := by
  refine opt_eq (call_of (H.f 41 rfl rfl) rfl rfl ?_)
  simp [F_validate_shelf, B_validate_shelf, getV, ixD_plan0, biF]
  omega
def c_first_on : List Nat := [6]
theorem first_on_ok (H : Has P c_first_on) {p : Plan} {s : Nat} : callI P (n + 1) 6 [dPlan p, .int s] b h = some (.int ((p.routes.length + (p.sizes.take s).sum : Nat) : Int), h) := by
  refine opt_eq (call_of (H.f 6 rfl rfl) rfl rfl ?_)
  simp [F_first_on, B_first_on, getV, ixD_plan0, ixD_plan1, biF, slD]
  rw [cutD_to, ← List.map_take]
  refine opt_of_eq (asInts_map (fun n : Nat => (n : Int)) _) ?_
  exact sum_cast _
end
end Sp

set_option maxRecDepth 100000
set_option maxHeartbeats 1000000
/-! Sp2: visits, exchanges, ticks. -/
namespace Sp
open PySem L2 Sw Bd
def dVis (v : Nat × Nat) : D := .tup [.int v.1, .int v.2]
theorem dVis_bel (n : Nat) (v : Nat × Nat) : (dVis v).bel n = true := rfl
section
variable {P : Nat → Option FDef} {n b : Nat} {h : Store}
theorem atI_mod {xs : List D} (t : Int) (h1 : 1 ≤ xs.length) : ∃ d, atI xs (t % (xs.length : Int)) = some d ∧ xs[(t % (xs.length : Int)).toNat]? = some d := by
  have h2 : (0 : Int) < xs.length := by omega
  have h3 := Int.emod_nonneg t (show (xs.length : Int) ≠ 0 by omega)
  have h4 := Int.emod_lt_of_pos t h2
  have h5 : (t % (xs.length : Int)).toNat < xs.length := by omega
  refine ⟨xs[(t % (xs.length : Int)).toNat], ?_, by simp [h5]⟩
  unfold atI ixN
  rw [if_pos h3, if_pos h4]
  simp [h5]
theorem atI_entry {r : List (Option Nat)} (t : Int) (h1 : 1 ≤ r.length) : atI (r.map dEnt) ((t - 1) % (r.length : Int)) = some (dEnt (entryAt r t)) := by
  have h1' : 1 ≤ (r.map dEnt).length := by simpa using h1
  obtain ⟨d, e1, e2⟩ := atI_mod (t - 1) h1'
  rw [List.length_map] at e1 e2
  rw [e1, ← e2, List.getElem?_map]
  unfold entryAt
  have h3 := Int.emod_lt_of_pos (t - 1) (show (0 : Int) < r.length by omega)
  have h4 := Int.emod_nonneg (t - 1) (show (r.length : Int) ≠ 0 by omega)
  have h5 : ((t - 1) % (r.length : Int)).toNat < r.length := by omega
  rw [List.getElem?_eq_getElem h5]
  rfl
def c_visits_of : List Nat := [11]
theorem visits_of_ok (H : Has P c_visits_of) {p : Plan} (o : p.Ok) (t : Int) : callI P (n + 1) 11 [dPlan p, .int t] b h = some (.lst ((visits p t).map dVis), h) := by
  refine opt_eq (call_of (H.f 11 rfl rfl) rfl rfl ?_)
  simp [F_visits_of, B_visits_of, getV, ixD_plan1]
  rw [enumD_map]
  refine fr_nx (fun q : List (Option Nat) × Nat => D.tup [.int q.2, dRoute q.1]) (fun j e h1 => (∃ a3 a4 a5, e = [some (dPlan p), some (.int t), some (.ref h.length), a3, a4, a5]) ∧ h1 = h ++ [.lst (((p.routes.zipIdx.take j).filterMap (visStep t)).map dVis)]) ⟨⟨_, _, _, rfl⟩, rfl⟩ (fun _ _ _ _ => live_none _) (fun j x e h1 hx hI => ?_) (fun e h1 hI => ?_)
  · obtain ⟨⟨a3, a4, a5, rfl⟩, rfl⟩ := hI
    obtain ⟨r, k⟩ := x
    have hm : r ∈ p.routes := by
      have := List.mem_of_getElem? hx
      exact (List.mem_zipIdx this).2.2 ▸ List.getElem_mem _
    obtain ⟨r1, r2, r3⟩ := o.r3 r hm
    simp [dRoute, getV, ixD_tup, atI_entry t r1, biF, mtTy, mtF, on1, mAppend, getR, getL]
    refine ⟨by omega, ?_⟩
    rw [List.take_add_one, hx, List.filterMap_append, List.map_append]
    have e1 : visStep t (r, k) = (entryAt r t).map fun s => (k, s) := rfl
    cases he : entryAt r t with
    | none => simp [dEnt, e1, he]
    | some s =>
      have hlen : (List.filterMap (visStep t) (List.take j p.routes.zipIdx)).length ≤ 6 := by
        refine Nat.le_trans (List.length_filterMap_le _ _) ?_
        rw [List.length_take, List.length_zipIdx]
        have := o.r2
        omega
      simp [dEnt, e1, he, dVis]
      refine ⟨le_size (by omega), by have := le_size (n := 7) (by omega); omega, ?_⟩
      rw [wr_new (Nat.le_refl _) (by simp), opt_some]
      simp
  · obtain ⟨⟨a3, a4, a5, rfl⟩, rfl⟩ := hI
    rw [List.take_length]
    simp
    exact opt_of_eq (froz_lst (ds := (visits p t).map dVis) (by simp; rfl) (Nat.le_refl _) (bels_map (dVis_bel _) _)) (by simp)
theorem atI_nat {xs : List D} {k : Nat} {d : D} (h : xs[k]? = some d) : atI xs (k : Int) = some d := by
  have hl := (List.getElem?_eq_some_iff.mp h).1
  unfold atI ixN
  rw [if_pos (by omega), if_pos (by omega)]
  simpa using h
theorem ixN_nat {n k : Nat} (h : k < n) : ixN n (k : Int) = some k := by
  unfold ixN
  rw [if_pos (by omega), if_pos (by omega)]
  simp
theorem getD_dI {xs : List Nat} {k : Nat} (h : k < xs.length) : (xs.map dI)[k]? = some (dI (xs.getD k 0)) := by
  simp [h]
def c_exchange : List Nat := [12, 6]
theorem exchange_ok (H : Has P c_exchange) {p : Plan} (o : p.Ok) {m c s : Nat} {xs : List Nat} (hm : h[m]? = some (.lst (xs.map dI))) (hl : xs.length = total p) (hc : c < p.routes.length) (hs : s < p.sizes.length) :
    callI P (n + 2) 12 [dPlan p, .ref m, .int c, .int s] b h = some (.non, h.set m (.lst ((exch p (c, s) xs).map dI))) := by
  have hml : m < h.length := (List.getElem?_eq_some_iff.mp hm).1
  have hf := firstOn_le hs
  have hco : c < firstOn p s := by unfold firstOn; omega
  refine opt_eq (call_of (H.f 12 rfl rfl) rfl rfl ?_)
  simp [F_exchange, B_exchange, getV, ixD_plan0]
  refine opt_of_eq (show ixD h (D.tup (List.map dI p.sizes)) (s : Int) = _ from atI_nat (getD_dI hs)) ?_
  refine opt_of_eq (first_on_ok (H.sub rfl)) ?_
  rw [show p.routes.length + (p.sizes.take s).sum = firstOn p s from rfl]
  have hset : ∀ o : Ob, (h.set m o).length = h.length := fun o => by simp
  have hx := show exch p (c, s) xs = if p.sizes.getD s 0 = 0 then xs else
    (xs.take (firstOn p s) ++ ((xs.drop (firstOn p s + 1)).take (p.sizes.getD s 0 - 1) ++ [xs.getD c 0]) ++ xs.drop (firstOn p s + p.sizes.getD s 0)).set c (xs.getD (firstOn p s) 0) from rfl
  have ht := total_le o
  generalize exch p (c, s) xs = ys at hx ⊢
  generalize p.sizes.getD s 0 = sz at *
  generalize firstOn p s = f at *
  subst hx
  by_cases hz : sz = 0
  · subst hz
    simp [setsD, dI]
    exact (set_self hm).symm
  · simp [setsD, dI, hz]
    rw [if_pos (by omega)]
    refine opt_of_eq ((ixD_ref hm _).trans (atI_nat (getD_dI (by omega)))) ?_
    refine opt_of_eq (slD_ref hm _ _) ?_
    simp only []
    refine opt_of_eq ((ixD_ref hm _).trans (atI_nat (getD_dI (by omega)))) ?_
    rw [show (f : Int) + 1 = ((f + 1 : Nat) : Int) by omega, show (f : Int) + (sz : Int) = ((f + sz : Nat) : Int) by omega, cutD_mid _ _ _ (by simp; omega)]
    simp
    refine ⟨le_size (by omega), le_size (by omega), ?_⟩
    rw [show f + sz - (f + 1) = sz - 1 by omega]
    have hb : D.bels 0 (List.take (sz - 1) (List.drop (f + 1) (List.map dI xs)) ++ [dI (xs[c]?.getD 0)]) = true := by
      rw [← List.map_drop, ← List.map_take, show [dI (xs[c]?.getD 0)] = [xs[c]?.getD 0].map dI from rfl, ← List.map_append]
      exact bels0_map (fun _ => rfl) _
    have e1 : slcD h.length (.ref m) (f : Int) ((f : Int) + (sz : Int)) (.lst (List.take (sz - 1) (List.drop (f + 1) (List.map dI xs)) ++ [dI (xs[c]?.getD 0)])) h =
        some (h.set m (.lst (List.take f (List.map dI xs) ++ (List.take (sz - 1) (List.drop (f + 1) (List.map dI xs)) ++ [dI (xs[c]?.getD 0)]) ++ List.drop (f + sz) (List.map dI xs)))) := by
      unfold slcD
      simp only [hm, getL]
      rw [if_pos ⟨by omega, by omega, by simp; omega, by simp; exact le_size (by omega), rfl⟩, wr_old hb hml]
      rw [show ((f : Int) + (sz : Int)).toNat = f + sz by omega, Int.toNat_natCast]
    refine opt_of_eq e1 ?_
    have e2 : subD h.length (.ref m) (c : Int) (dI (xs[f]?.getD 0)) (h.set m (.lst (List.take f (List.map dI xs) ++ (List.take (sz - 1) (List.drop (f + 1) (List.map dI xs)) ++ [dI (xs[c]?.getD 0)]) ++ List.drop (f + sz) (List.map dI xs)))) =
        some (h.set m (.lst ((List.take f (List.map dI xs) ++ (List.take (sz - 1) (List.drop (f + 1) (List.map dI xs)) ++ [dI (xs[c]?.getD 0)]) ++ List.drop (f + sz) (List.map dI xs)).set c (dI (xs[f]?.getD 0))))) := by
      rw [subD_ref (List.getElem?_set_self hml) (by simp; omega) (.inl rfl), List.set_set]
    refine opt_of_eq e2 ?_
    rw [take_set]
    simp [dI]
def c_run_tick : List Nat := [13, 11, 12, 6]
theorem run_tick_ok (H : Has P c_run_tick) {p : Plan} (o : p.Ok) {m : Nat} (t : Int) {xs : List Nat} (hm : h[m]? = some (.lst (xs.map dI))) (hl : xs.length = total p) :
    callI P (n + 3) 13 [dPlan p, .ref m, .int t] b h = some (.non, h.set m (.lst ((runTick p t xs).map dI))) := by
  have hml : m < h.length := (List.getElem?_eq_some_iff.mp hm).1
  refine opt_eq (call_of (H.f 13 rfl rfl) rfl rfl ?_)
  simp [F_run_tick, B_run_tick, getV]
  refine opt_of_eq (visits_of_ok (H.sub rfl) o t) ?_
  simp
  refine fr_nx dVis (fun j e h1 => (∃ a3 a4, e = [some (dPlan p), some (.ref m), some (.int t), a3, a4]) ∧ h1 = h.set m (.lst ((((visits p t).take j).foldl (fun xs v => exch p v xs) xs).map dI))) ⟨⟨_, _, rfl⟩, (set_self hm).symm⟩ (fun _ _ _ _ => live_none _) (fun j v e h1 hx hI => ?_) (fun e h1 hI => ?_)
  · obtain ⟨⟨a3, a4, rfl⟩, rfl⟩ := hI
    obtain ⟨c, s⟩ := v
    obtain ⟨hc, hs⟩ := visits_mem o (List.mem_of_getElem? hx)
    have hlen : (((visits p t).take j).foldl (fun xs v => exch p v xs) xs).length = total p := fold_len _ (fun v hv => (visits_mem o (List.mem_of_mem_take hv)).2) hl
    simp [dVis, getV]
    refine opt_of_eq (exchange_ok (H.sub rfl) o (List.getElem?_set_self hml) hlen hc hs) ?_
    simp [List.take_add_one, hx]
  · obtain ⟨⟨a3, a4, rfl⟩, rfl⟩ := hI
    rw [List.take_length]
    simp [runTick, take_set]
end
end Sp

set_option maxRecDepth 100000
set_option maxHeartbeats 1000000
/-! Sp3: effects: inverse, combined, cycles, repeated. -/
namespace Sp
open PySem L2 Sw Bd Pm
def dEff (e : List Nat) : D := .tup (e.map dI)
/-- a list or a tuple, and what is walked of it -/
structure Seq (h : Store) (x : D) (ds : List D) : Prop where
  wk : ∃ r, ∀ l, wkX (h ++ l) x = some (ds, r) ∧ live r (h ++ l)
  gs : ∀ l, getS (h ++ l) x = some ds
  ns : ∀ z, x ≠ .str z
theorem Seq.tup (h : Store) (ds : List D) : Seq h (.tup ds) ds := ⟨⟨none, fun _ => ⟨rfl, True.intro⟩⟩, fun _ => rfl, fun _ e => nomatch e⟩
theorem Seq.lst (h : Store) (ds : List D) : Seq h (.lst ds) ds := ⟨⟨none, fun _ => ⟨rfl, True.intro⟩⟩, fun _ => rfl, fun _ e => nomatch e⟩
theorem Seq.ref {h : Store} {m : Nat} {ds : List D} (e : h[m]? = some (.lst ds)) : Seq h (.ref m) ds := by
  have q : ∀ l, (h ++ l)[m]? = some (.lst ds) := fun l => by rw [get_old (List.getElem?_eq_some_iff.mp e).1, e]
  exact ⟨⟨_, fun l => ⟨wkX_ref (q l), q l⟩⟩, fun l => getS_ref (q l), fun _ e => nomatch e⟩
theorem Seq.app {h : Store} {x : D} {ds : List D} (s : Seq h x ds) (l : Store) : Seq (h ++ l) x ds := by
  obtain ⟨⟨r, hr⟩, g, n⟩ := s
  exact ⟨⟨r, fun k => by rw [List.append_assoc]; exact hr _⟩, fun k => by rw [List.append_assoc]; exact g _, n⟩
theorem Seq.len {h : Store} {x : D} {ds : List D} (s : Seq h x ds) (m : Bool) : biF .len m [x] h = some (.int ds.length, h) := by
  have := s.gs []
  rw [List.append_nil] at this
  cases x with
  | str z => exact absurd rfl (s.ns z)
  | _ => simp only [biF, this]
theorem Seq.tuple {h : Store} {x : D} {ds : List D} (s : Seq h x ds) (m : Bool) : biF .tuple m [x] h = some (.tup ds, h) := by
  have := s.gs []
  rw [List.append_nil] at this
  simp only [biF, this, Option.map_some]
theorem Seq.ix {h : Store} {x : D} {ds : List D} (s : Seq h x ds) (i : Int) : ixD h x i = atI ds i := by
  have := s.gs []
  rw [List.append_nil] at this
  cases x with
  | str z => exact absurd rfl (s.ns z)
  | _ => simp only [ixD, this]
/-- [0] * n, a list that is changed -/
theorem rep0 {h : Store} {n : Nat} (hn : n ≤ 1000) : binop .mul true (.lst [.int 0]) (.int (n : Int)) h = some (.ref h.length, h ++ [.lst ((List.replicate n 0).map dI)]) := by
  have e : ∀ n, (List.replicate n [D.int 0]).flatten = (List.replicate n 0).map dI := by
    intro n
    induction n with
    | zero => rfl
    | succ n ih => rw [List.replicate_succ, List.flatten_cons, ih, List.replicate_succ]; rfl
  simp only [binop, getL]
  rw [if_pos ⟨by omega, by omega, le_size (by simp; omega)⟩, mkL_t, Int.toNat_natCast, e]
theorem bels_dI (n : Nat) (xs : List Nat) : D.bels n (xs.map dI) = true := bels_map (fun _ => rfl) xs
theorem bel_eff (n : Nat) (e : List Nat) : (dEff e).bel n = true := bels_dI n e
section
variable {P : Nat → Option FDef} {n b : Nat} {h : Store}
def c_inverse_of : List Nat := [14]
theorem inverse_of_ok (H : Has P c_inverse_of) {x : D} {e : List Nat} (sx : Seq h x (e.map dI)) (hl : e.length ≤ 1000) (he : ∀ x ∈ e, x < e.length) : callI P (n + 1) 14 [x] b h = some (dEff (inv e), h) := by
  obtain ⟨r, hr⟩ := sx.wk
  refine opt_eq (call_of (H.f 14 rfl rfl) rfl rfl ?_)
  simp [F_inverse_of, B_inverse_of, getV]
  refine ⟨le_size (by omega), ?_⟩
  refine opt_of_eq (sx.len _) ?_
  simp only [List.length_map]
  refine opt_of_eq (rep0 hl) ?_
  simp [getV]
  refine opt_of_eq (hr _).1 ?_
  simp only []
  rw [enumD_map]
  refine fr_nx (fun q : Nat × Nat => D.tup [.int q.2, dI q.1]) (fun j e1 h1 => (∃ a3 a4, e1 = [some x, some (.ref h.length), a3, a4]) ∧ h1 = h ++ [.lst (((e.zipIdx.take j).foldl invStep (List.replicate e.length 0)).map dI)]) ⟨⟨_, _, rfl⟩, by simp⟩ (fun _ _ _ hI => by rw [hI.2]; exact (hr _).2) (fun j q e1 h1 hx hI => ?_) (fun e1 h1 hI => ?_)
  · obtain ⟨⟨a3, a4, rfl⟩, rfl⟩ := hI
    obtain ⟨g, k⟩ := q
    have hg : g < e.length := by
      have := List.mem_of_getElem? hx
      exact he g ((List.mem_zipIdx this).2.2 ▸ List.getElem_mem _)
    simp [getV, dI]
    refine opt_of_eq (subD_ref (h := h ++ [_]) (by simp; rfl) (by simp [inv_len_fold]; exact hg) (.inl rfl)) ?_
    simp [List.take_add_one, hx, invStep, dI]
  · obtain ⟨⟨a3, a4, rfl⟩, rfl⟩ := hI
    simp [getV]
    refine opt_of_eq ((Seq.ref (by simp; rfl)).tuple _) ?_
    simp only []
    rw [show e.zipIdx.take e.length = e.zipIdx from List.take_of_length_le (by simp)]
    exact opt_of_eq (froz_bel (bel_eff _ (inv e))) (by simp)
end
end Sp

set_option maxRecDepth 100000
set_option maxHeartbeats 1000000
/-! Sp4: cycles, powers. -/
namespace Sw
open PySem L2
theorem wh_nx {c : Cfg} {t : E} {body : List S} {Z : Out × Env × Store → Prop} (I : Nat → Env → Store → Prop)
    (hs : ∀ m e h, I m e h → wE c t e h fun x h1 => onB x fun k => if k = true then wSs c body e h1 fun o e2 h2 => stepK o (∃ m', m' < m ∧ I m' e2 h2) fun d => Z (.ret d, e2, h2) else Z (.nx, e, h1))
    (m : Nat) {env : Env} {h : Store} (h0 : I m env h) : opt (whD (whC c t) (fun env h => exSs c body env h) env h) Z := by
  refine wh_rule I (fun m e h hI => ?_) m h0
  rw [w_whC]
  refine opt.imp (hs m e h hI) fun p hp => ?_
  obtain ⟨x, h1⟩ := p
  cases x with
  | bl k =>
    simp only [onB_bl] at hp ⊢
    cases k with
    | false => simpa using hp
    | true =>
      simp only [if_true] at hp ⊢
      refine opt.imp hp fun q hq => ?_
      obtain ⟨o, e3, h3⟩ := q
      simp only at hq ⊢
      cases o with
      | nx => exact .inl ⟨.inl rfl, hq⟩
      | ct => exact .inl ⟨.inr rfl, hq⟩
      | ret d => exact .inr ⟨d, rfl, hq⟩
      | brk => exact False.elim hq
  | _ => exact False.elim hp
end Sw
namespace Sp
open PySem L2 Sw Bd Pm
/-! ### dicts with numbers as keys -/
theorem look_map {f : Nat → D} {j : Nat} : ∀ {ks : List Nat}, look (ks.map fun k : Nat => ((.inl (k : Int) : L2.Key), f k)) (.inl (j : Int)) = if j ∈ ks then some (f j) else none
  | [] => rfl
  | k :: ks => by
    have ih := look_map (f := f) (j := j) (ks := ks)
    unfold look at ih ⊢
    rw [List.map_cons, List.find?_cons]
    by_cases e : k = j
    · subst e
      simp
    · have e1 : ((Sum.inl (k : Int) : L2.Key) = Sum.inl (j : Int)) = False := by
        simp
        omega
      simp only [e1, decide_false]
      rw [ih]
      have : (j ∈ k :: ks) = (j ∈ ks) := by
        simp [show j ≠ k by omega]
      simp [this]
theorem put_new {kvs : List (L2.Key × D)} {k : L2.Key} {v : D} (h : ∀ p ∈ kvs, p.1 ≠ k) : put kvs k v = kvs ++ [(k, v)] := by
  unfold put
  rw [if_neg]
  intro e
  obtain ⟨p, hp, q⟩ := List.any_eq_true.mp e
  exact h p hp (by simpa using q)
def kvT (k : Nat) : L2.Key × D := (.inl (k : Int), .bl true)
section
variable {h : Store} {m b : Nat} {ds : List D}
theorem mtTy_ref (e : h[m]? = some (.lst ds)) : mtTy .append (.ref m) h = true ∧ mtTy .extend (.ref m) h = true ∧ mtTy .pop (.ref m) h = true ∧ mtTy .popAt (.ref m) h = true ∧ mtTy .index (.ref m) h = true := by
  have := getR_ref e
  simp only [mtTy, this]
  simp
theorem append_ref {v : D} (e : h[m]? = some (.lst ds)) (hl : ds.length < 100000) (hb : D.bels 0 [v] = true ∨ b ≤ m) : mtF b .append (.ref m) [v] h = some (.non, h.set m (.lst (ds ++ [v]))) := by
  have hm := (List.getElem?_eq_some_iff.mp e).1
  have hs := le_size (n := ds.length + 1) (by omega)
  simp only [mtF, on1, mAppend, e]
  rw [if_pos (by omega)]
  unfold wr
  rw [if_pos ⟨hb, hm⟩]
  rfl
theorem dsub_new {kvs : List (L2.Key × D)} {i : Int} {d : D} (e : h[m]? = some (.dct kvs)) (hl : kvs.length < 100000) (hb : D.bels 0 [d] = true ∨ b ≤ m) (hk : ∀ p ∈ kvs, p.1 ≠ .inl i) : dsubD b (.ref m) (.int i) d h = some (h.set m (.dct (kvs ++ [(.inl i, d)]))) := by
  have hm := (List.getElem?_eq_some_iff.mp e).1
  have hs := le_size (n := kvs.length + 1) (by omega)
  simp only [dsubD, dKey, e]
  rw [if_pos (by omega), put_new hk]
  unfold wr
  rw [if_pos ⟨hb, hm⟩]
end
theorem dinD_ref {h : Store} {m : Nat} {kvs : List (L2.Key × D)} (e : h[m]? = some (.dct kvs)) (i : Int) : dinD h (.int i) (.ref m) = some (look kvs (.inl i)).isSome := by
  simp only [dinD, dKey, getK, e]
theorem look_kvT {ks : List Nat} {j : Nat} : look (ks.map kvT) (.inl (j : Int)) = if j ∈ ks then some (.bl true) else none := look_map
theorem rangeL_nat (n : Nat) : (rangeL 0 (n : Int)).map D.int = (List.range n).map dI := by
  simp [rangeL, dI, Function.comp_def]
def dCyc (c : List Nat) : D := .tup (c.map dI)
section
variable {P : Nat → Option FDef} {n b : Nat} {h : Store}
def c_combined : List Nat := [15]
theorem combined_ok (H : Has P c_combined) {one other : List Nat} (hl : one.length ≤ 1000) (ho : ∀ x ∈ one, x < other.length) : callI P (n + 1) 15 [dEff one, dEff other] b h = some (dEff (comp one other), h) := by
  refine opt_eq (call_of (H.f 15 rfl rfl) rfl rfl ?_)
  simp [F_combined, B_combined, getV, dEff]
  refine ⟨le_size (by omega), lc_rule dI (fun x => some (dI (ap other x))) (live_none h) (fun x hx => ?_) ?_⟩
  · simp [wipeD, getV, dI]
    exact opt_of_eq (show ixD h (D.tup (other.map dI)) (x : Int) = some (dI (ap other x)) from atI_nat (getD_dI (ho x hx))) rfl
  · simp
    refine opt_of_eq ((Seq.lst h _).tuple _) ?_
    rw [show List.map (fun x => dI (ap other x)) one = (comp one other).map dI by simp [comp]]
    exact opt_of_eq (froz_bel (bel_eff _ _)) (by simp [dEff])
def dFound (cs : List (List Nat)) : Ob := .lst (cs.map dCyc)
def dSeen (ks : List Nat) : Ob := .dct (ks.map kvT)
def c_cycles_of : List Nat := [16]
theorem cycles_of_ok (H : Has P c_cycles_of) {e : List Nat} {N : Nat} (p : IsP N e) (hN : N ≤ 1000) : callI P (n + 1) 16 [dEff e] b h = some (.lst ((cycs N e N).map dCyc), h) := by
  have hl : e.length = N := p.len
  refine opt_eq (call_of (H.f 16 rfl rfl) rfl rfl ?_)
  simp [F_cycles_of, B_cycles_of, getV, dEff, setsD]
  refine opt_of_eq ((Seq.tup _ _).len _) ?_
  simp [hl]
  refine ⟨by omega, ?_⟩
  rw [rangeL_nat]
  refine fr_nx dI (fun j e1 h1 => (∃ a3 a4 a5, e1 = [some (dEff e), some (.ref h.length), some (.ref (h.length + 1)), a3, a4, a5]) ∧ ∃ J, h1 = h ++ (dFound (cycs N e j) :: dSeen (cycs N e j).flatten :: J)) ⟨⟨_, _, _, rfl⟩, [], rfl⟩ (fun _ _ _ _ => live_none _) (fun j q e1 h1 hx hI => ?_) (fun e1 h1 hI => ?_)
  · obtain ⟨⟨a3, a4, a5, rfl⟩, J, rfl⟩ := hI
    obtain ⟨hj, hq⟩ := List.getElem?_eq_some_iff.mp hx
    simp at hj hq
    subst hq
    have ok := cycs_ok p (m := j) (by omega)
    have hs := cycs_succ N e j
    have hcl := cycs_len N e j
    generalize cycs N e (j + 1) = cs2 at *
    generalize cycs N e j = cs at *
    unfold cycStep at hs
    simp [getV, dI]
    refine opt_of_eq (dinD_ref (kvs := cs.flatten.map kvT) (by simp [dSeen]) _) ?_
    rw [look_kvT]
    by_cases hm : j ∈ cs.flatten
    · rw [if_pos hm] at hs ⊢
      subst hs
      simp
    · rw [if_neg hm] at hs ⊢
      subst hs
      simp [setsD]
      refine wh_nx (fun m e1 h1 => ∃ k, k ≤ orbL N e j ∧ m = orbL N e j - k ∧ e1 = [some (dEff e), some (.ref h.length), some (.ref (h.length + 1)), some (.int j), some (.ref (h.length + (J.length + 1 + 1))), some (.int (Pm.it e k j : Nat))] ∧ h1 = h ++ (dFound cs :: dSeen (cs.flatten ++ itL e j k) :: (J ++ [.lst ((itL e j k).map dI)]))) (fun m e1 h1 hI => ?_) _ ⟨0, by omega, rfl, rfl, by simp [itL]⟩
      obtain ⟨k, hk, rfl, rfl, rfl⟩ := hI
      simp [getV]
      refine opt_of_eq (dinD_ref (kvs := (cs.flatten ++ itL e j k).map kvT) (by simp [dSeen]) _) ?_
      rw [look_kvT]
      have hjN : j < N := by omega
      have e0 : Pm.it e k j ∈ cs.flatten ↔ False := by rw [ok.its p hjN k]; exact ⟨hm, False.elim⟩
      have hlt := it_lt p k hjN
      by_cases hk2 : k = orbL N e j
      · have e1 : Pm.it e k j ∈ cs.flatten ++ itL e j k := by
          rw [List.mem_append]
          right
          rw [hk2, (orbL_spec p hjN).2.1]
          exact mem_itL.mpr ⟨0, orbL_pos _ _ _, rfl⟩
        rw [if_pos e1]
        simp
        have g1 : (h ++ dFound cs :: dSeen (cs.flatten ++ itL e j k) :: (J ++ [Ob.lst (List.map dI (itL e j k))]))[h.length]? = some (.lst (cs.map dCyc)) := by simp [dFound]
        refine ⟨(mtTy_ref g1).1, ?_⟩
        refine opt_of_eq ((Seq.ref (m := h.length + (J.length + 1 + 1)) (ds := (itL e j k).map dI) (by simp)).tuple _) ?_
        simp only []
        have hcs : cs.length < 100000 := by omega
        refine opt_of_eq (append_ref g1 (by simpa using hcs) (.inr (Nat.le_refl _))) ?_
        simp [dFound, dCyc, orb_eq, hk2]
      · have hk3 : k < orbL N e j := by omega
        have e1 : Pm.it e k j ∉ cs.flatten ++ itL e j k := by
          rw [List.mem_append, e0, false_or]
          exact it_notin p hjN hk3
        rw [if_neg e1]
        simp
        have hfl := ok.flat_len p
        have hol := (orbL_spec p hjN).1
        refine opt_of_eq (dsub_new (kvs := (cs.flatten ++ itL e j k).map kvT) (by simp [dSeen]) (by rw [List.length_map, List.length_append, itL_len]; omega) (.inl rfl) (fun q hq he => ?_)) ?_
        · obtain ⟨x, hx, rfl⟩ := List.mem_map.mp hq
          have : x = Pm.it e k j := by
            simp [kvT] at he
            omega
          exact e1 (this ▸ hx)
        · have g1 : ((h ++ dFound cs :: dSeen (cs.flatten ++ itL e j k) :: (J ++ [Ob.lst ((itL e j k).map dI)])).set (h.length + 1) (.dct ((cs.flatten ++ itL e j k).map kvT ++ [(.inl ((Pm.it e k j : Nat) : Int), .bl true)])))[h.length + (J.length + 1 + 1)]? = some (.lst ((itL e j k).map dI)) := by
            simp
          refine ⟨(mtTy_ref g1).1, ?_⟩
          refine opt_of_eq (append_ref g1 (by simp [itL_len]; omega) (.inl rfl)) ?_
          refine opt_of_eq (show ixD _ (dEff e) ((Pm.it e k j : Nat) : Int) = some (dI (ap e (Pm.it e k j))) from atI_nat (getD_dI (by omega))) ?_
          refine ⟨_, by omega, k + 1, by omega, rfl, rfl, ?_⟩
          rw [itL_succ]
          simp [dSeen, kvT, dI]
  · obtain ⟨⟨a3, a4, a5, rfl⟩, J, rfl⟩ := hI
    simp [getV]
    exact opt_of_eq (froz_lst (ds := (cycs N e N).map dCyc) (by simp [dFound]) (Nat.le_refl _) (bels_map (f := dCyc) (fun c => bels_dI _ c) _)) rfl
end
end Sp

set_option maxRecDepth 100000
set_option maxHeartbeats 1000000
/-! Sp5: repeated, the effect of ticks, patterns. -/
namespace Sp
open PySem L2 Sw Bd Pm
section
variable {P : Nat → Option FDef} {n b : Nat} {h : Store}
@[simp] theorem biF_int (m : Bool) (i : Int) (h : Store) : biF .int m [.int i] h = some (.int i, h) := rfl
@[simp] theorem biF_len_tup (m : Bool) (ds : List D) (h : Store) : biF .len m [.tup ds] h = some (.int ds.length, h) := rfl
@[simp] theorem biF_len_lst (m : Bool) (ds : List D) (h : Store) : biF .len m [.lst ds] h = some (.int ds.length, h) := rfl
theorem mod_of {i j : Int} {m : Bool} {h : Store} (hj : 0 < j) : binop .mod m (.int i) (.int j) h = some (.int (i % j), h) := by
  simp [binI, hj]
theorem fdiv_of {i j : Int} {m : Bool} {h : Store} (hj : 0 < j) (hb : j < 2 ^ 100) : binop .fdiv m (.int i) (.int j) h = some (.int (i / j), h) := by
  have h1 : j.natAbs.log2 < 9000 := by
    have : j.natAbs.log2 < 100 := (Nat.log2_lt (by omega)).mpr (by omega)
    omega
  simp [binI, hj, h1]
theorem dCyc_eq (c : List Nat) : dCyc c = dEff c := rfl
theorem ixD_eff {e : List Nat} {k : Nat} (hk : k < e.length) (h : Store) : ixD h (dEff e) (k : Int) = some (dI (ap e k)) := atI_nat (getD_dI hk)
def c_repeated : List Nat := [17, 16]
theorem flatten_take {α : Type} (f : List Nat → List α) (cs : List (List Nat)) (j : Nat) (c : List Nat) (h : cs[j]? = some c) : ((cs.take (j + 1)).map f).flatten = ((cs.take j).map f).flatten ++ f c := by
  rw [List.take_add_one, h]
  simp
theorem repeated_ok (H : Has P c_repeated) {e : List Nat} {N : Nat} (p : IsP N e) (hN : N ≤ 1000) (c : Int) : callI P (n + 2) 17 [dEff e, .int c] b h = some (dEff (pwI N e c), h) := by
  have hl : e.length = N := p.len
  have ok := cycs_ok p (Nat.le_refl N)
  refine opt_eq (call_of (H.f 17 rfl rfl) rfl rfl ?_)
  simp [F_repeated, B_repeated, getV]
  refine ⟨le_size (by omega), ?_⟩
  refine opt_of_eq ((Seq.tup _ _).len _) ?_
  simp only [List.length_map]
  refine opt_of_eq (rep0 (by omega)) ?_
  simp [getV]
  refine opt_of_eq (cycles_of_ok (H.sub rfl) p hN) ?_
  simp
  refine fr_nx dCyc (fun j e1 h1 => (∃ a3 a4 a5, e1 = [some (dEff e), some (.int c), some (.ref h.length), a3, a4, a5]) ∧ h1 = h ++ [.lst (((((cycs N e N).take j).map (repP c)).flatten.foldl invStep (List.replicate N 0)).map dI)]) ⟨⟨_, _, _, rfl⟩, by simp [hl, dI]⟩ (fun _ _ _ _ => live_none _) (fun j cy e1 h1 hx hI => ?_) (fun e1 h1 hI => ?_)
  · obtain ⟨⟨a3, a4, a5, rfl⟩, rfl⟩ := hI
    obtain ⟨s, _, hs, hcy⟩ := ok.orb cy (List.mem_of_getElem? hx)
    rw [flatten_take _ _ _ _ hx, List.foldl_append]
    have hr : ((((cycs N e N).take j).map (repP c)).flatten.foldl invStep (List.replicate N 0)).length = N := by rw [inv_len_fold]; simp
    generalize (((cycs N e N).take j).map (repP c)).flatten.foldl invStep (List.replicate N 0) = R at *
    simp [getV, dCyc]
    have hcl : 1 ≤ cy.length := by rw [hcy, orb_len]; exact orbL_pos _ _ _
    rw [enumD_map]
    refine fr_nx (fun q : Nat × Nat => D.tup [.int q.2, dI q.1]) (fun i e1 h1 => (∃ a4 a5, e1 = [some (dEff e), some (.int c), some (.ref h.length), some (dCyc cy), a4, a5]) ∧ h1 = h ++ [.lst ((((repP c cy).take i).foldl invStep R).map dI)]) ⟨⟨_, _, rfl⟩, by simp⟩ (fun _ _ _ _ => live_none _) (fun i q e1 h1 hx2 hI => ?_) (fun e1 h1 hI => ?_)
    · obtain ⟨⟨a4, a5, rfl⟩, rfl⟩ := hI
      obtain ⟨x, k⟩ := q
      have hm := List.mem_of_getElem? hx2
      have hxc : x ∈ cy := (List.mem_zipIdx hm).2.2 ▸ List.getElem_mem _
      have hxN : x < N := orb_sub p hs (by rw [← hcy]; exact hxc)
      have hk : i < cy.length := by
        have := (List.getElem?_eq_some_iff.mp hx2).1
        simpa using this
      simp [getV, dI, dCyc]
      refine ⟨by omega, ?_⟩
      have h1 := Int.emod_nonneg ((k : Int) + c) (show (cy.length : Int) ≠ 0 by omega)
      have h2 := Int.emod_lt_of_pos ((k : Int) + c) (show (0 : Int) < cy.length by omega)
      have h3 := ixD_eff (e := cy) (k := (((k : Int) + c) % (cy.length : Int)).toNat) (by omega) (h ++ [Ob.lst ((((repP c cy).take i).foldl invStep R).map dI)])
      rw [Int.toNat_of_nonneg h1] at h3
      refine opt_of_eq h3 ?_
      refine opt_of_eq (subD_ref (h := h ++ [_]) (by simp; rfl) (by simp [inv_len_fold, hr]; exact hxN) (.inl rfl)) ?_
      have h4 : (repP c cy)[i]? = some (x, ap cy (((k : Int) + c) % (cy.length : Int)).toNat) := by
        unfold repP
        rw [List.getElem?_map, hx2]
        rfl
      rw [List.take_add_one, h4]
      simp [invStep]
    · obtain ⟨⟨a4, a5, rfl⟩, rfl⟩ := hI
      simp
      rw [List.take_of_length_le (by simp [repP])]
  · obtain ⟨⟨a3, a4, a5, rfl⟩, rfl⟩ := hI
    rw [List.take_length]
    simp [getV]
    refine opt_of_eq ((Seq.ref (by simp; rfl)).tuple _) ?_
    rw [show (((cycs N e N).map (repP c)).flatten.foldl invStep (List.replicate N 0)) = pwI N e c from rep_eq p c]
    exact opt_of_eq (froz_bel (bel_eff _ _)) (by simp [dEff])
end
end Sp

set_option maxRecDepth 100000
set_option maxHeartbeats 1000000
/-! Sp6: places, patterns, the effect of ticks. -/
namespace Sp
open PySem L2 Sw Bd Pm
def dPl : Pl → D
  | .car c => .tup [.str "carrier", .int c]
  | .sh s k => .tup [.str "shelf", .int s, .int k]
theorem rangeL_add (t : Int) (c : Nat) : (rangeL t (t + c)).map D.int = (List.range c).map fun k : Nat => D.int (t + k) := by
  simp [rangeL, Function.comp_def]
  rw [show (t + (c : Int) - t).toNat = c by omega]
section
variable {h : Store} {m b : Nat} {ds : List D}
theorem extend_ref {v : D} {es : List D} (e : h[m]? = some (.lst ds)) (ev : getL h v = some es) (hl : ds.length + es.length < 100000) (hb : D.bels 0 es = true ∨ b ≤ m) : mtF b .extend (.ref m) [v] h = some (.non, h.set m (.lst (ds ++ es))) := by
  have hm := (List.getElem?_eq_some_iff.mp e).1
  simp only [mtF, on1, mExtend, e, ev]
  rw [if_pos (le_size (by omega))]
  unfold wr
  rw [if_pos ⟨hb, hm⟩]
  rfl
end
section
variable {P : Nat → Option FDef} {n b : Nat} {h : Store}
def c_all_places : List Nat := [4]
theorem all_places_ok (H : Has P c_all_places) {p : Plan} (o : p.Ok) : callI P (n + 1) 4 [dPlan p] b h = some (.lst ((pls p).map dPl), h) := by
  have ht := total_le o
  refine opt_eq (call_of (H.f 4 rfl rfl) rfl rfl ?_)
  simp [F_all_places, B_all_places, getV, ixD_plan0, ixD_plan1]
  refine ⟨by have := o.r2; omega, le_size (by have := o.r2; simp [rangeL]; omega), ?_⟩
  rw [rangeL_nat]
  refine lc_rule dI (fun c => some (dPl (.car c))) (live_none h) (fun c hc => ?_) ?_
  · simp [wipeD, getV, dI, dPl]
    exact le_size (by omega)
  · simp [getV, ixD_plan0]
    rw [enumD_map]
    refine fr_nx (fun q : Nat × Nat => D.tup [.int q.2, dI q.1]) (fun j e1 h1 => (∃ a3 a4 a5 a6, e1 = [some (dPlan p), some (.ref h.length), a3, a4, a5, a6]) ∧ h1 = h ++ [.lst ((plsTo p j).map dPl)]) ⟨⟨_, _, _, _, rfl⟩, by simp [plsTo, Function.comp_def]⟩ (fun _ _ _ _ => live_none _) (fun j q e1 h1 hx hI => ?_) (fun e1 h1 hI => ?_)
    · obtain ⟨⟨a3, a4, a5, a6, rfl⟩, rfl⟩ := hI
      obtain ⟨z, s⟩ := q
      have hz : z ≤ 9 := by
        have := List.mem_of_getElem? hx
        exact o.s3 z ((List.mem_zipIdx this).2.2 ▸ List.getElem_mem _)
      have hlen := plsTo_len p j
      rw [plsTo_succ hx]
      generalize plsTo p j = L at *
      simp [getV, dI]
      refine ⟨(mtTy_ref (ds := L.map dPl) (by simp)).2.1, by omega, le_size (by simp [rangeL]; omega), ?_⟩
      rw [rangeL_nat]
      refine lc_rule dI (fun k => some (dPl (.sh s k))) (live_none _) (fun c hc => ?_) ?_
      · simp [wipeD, getV, dI, dPl]
        exact le_size (by omega)
      · simp
        refine opt_of_eq (extend_ref (ds := L.map dPl) (es := (List.range z).map fun k => dPl (.sh s k)) (by simp) rfl (by simp; omega) (.inr (Nat.le_refl _))) ?_
        simp [shl, Function.comp_def]
    · obtain ⟨⟨a3, a4, a5, a6, rfl⟩, rfl⟩ := hI
      simp [getV]
      refine opt_of_eq (froz_lst (ds := (pls p).map dPl) (by simp [pls]) (Nat.le_refl _) (bels_map (fun c => by cases c <;> rfl) _)) ?_
      rfl
def c_ticks_effect : List Nat := [18, 4, 13, 11, 12, 6, 14]
theorem ticks_effect_ok (H : Has P c_ticks_effect) {p : Plan} (o : p.Ok) {t : Int} {c : Nat} (h1 : -(2 * 10 ^ 18) ≤ t) (h2 : t ≤ 2 * 10 ^ 18) (hc : c ≤ 1000) : callI P (n + 4) 18 [dPlan p, .int t, .int c] b h = some (dEff (eff p t c), h) := by
  have ht := total_le o
  refine opt_eq (call_of (H.f 18 rfl rfl) rfl rfl ?_)
  simp [F_ticks_effect, B_ticks_effect, getV]
  refine opt_of_eq (all_places_ok (H.sub rfl) o) ?_
  simp [pls_len]
  refine opt_of_eq (show biF .rl true [.int (total p)] h = some (.ref h.length, h ++ [.lst ((ids (total p)).map dI)]) from ?_) ?_
  · simp only [biF]
    rw [if_pos (by constructor <;> omega), mkL_t, rangeL_nat]
    rfl
  · simp [getV]
    refine ⟨by omega, ?_⟩
    rw [show t + (c : Int) + 1 = t + 1 + c by omega, rangeL_add]
    refine fr_nx (fun k : Nat => D.int (t + 1 + k)) (fun j e1 h1 => (∃ a5, e1 = [some (dPlan p), some (.int t), some (.int c), some (.ref h.length), a5]) ∧ h1 = h ++ [.lst ((run p t j (ids (total p))).map dI)]) ⟨⟨_, rfl⟩, rfl⟩ (fun _ _ _ _ => live_none _) (fun j q e1 h1 hx hI => ?_) (fun e1 h1 hI => ?_)
    · obtain ⟨⟨a5, rfl⟩, rfl⟩ := hI
      obtain ⟨hj, hq⟩ := List.getElem?_eq_some_iff.mp hx
      simp at hj hq
      subst hq
      simp [getV]
      refine opt_of_eq (run_tick_ok (H.sub rfl) o _ (by simp) (run_len o t j (ids_len _))) ?_
      simp [run]
      rw [show t + 1 + (j : Int) = t + j + 1 by omega]
    · obtain ⟨⟨a5, rfl⟩, rfl⟩ := hI
      have q := cont_isP o t c
      simp [getV]
      refine opt_of_eq (inverse_of_ok (H.sub rfl) (e := cont p t c) (Seq.ref (by simp [cont])) (by rw [q.len]; omega) (by rw [q.len]; exact q.lt)) ?_
      exact opt_of_eq (froz_bel (bel_eff _ _)) (by simp [eff])
end
end Sp

set_option maxRecDepth 100000
set_option maxHeartbeats 1000000
/-! Sp7: greatest common divisors, patterns, the effect between times. -/
namespace Sp
open PySem L2 Sw Bd Pm
theorem nbs_map {α : Type} {f : α → D} (hf : ∀ x, (f x).nb = true) (xs : List α) : D.nbs (xs.map f) = true := nbs_iff.mpr fun d hd => by
  obtain ⟨x, _, rfl⟩ := List.mem_map.mp hd
  exact hf x
theorem deps_map {α : Type} {f : α → D} {k : Nat} (hf : ∀ x, (f x).dep ≤ k) (xs : List α) : D.deps (xs.map f) ≤ k := deps_le.mpr fun d hd => by
  obtain ⟨x, _, rfl⟩ := List.mem_map.mp hd
  exact hf x
theorem dEnt_inj {a b : Option Nat} (h : dEnt a = dEnt b) : a = b := by
  cases a with
  | none => cases b with
    | none => rfl
    | some y => cases h
  | some x => cases b with
    | none => cases h
    | some y =>
      have : (x : Int) = y := D.int.inj h
      rw [show x = y by omega]
theorem map_inj {α : Type} {f : α → D} (hf : ∀ x y, f x = f y → x = y) : ∀ {xs ys : List α}, xs.map f = ys.map f → xs = ys
  | [], [], _ => rfl
  | [], _ :: _, h => by cases h
  | _ :: _, [], h => by cases h
  | x :: xs, y :: ys, h => by
    rw [List.map_cons, List.map_cons] at h
    injection h with h1 h2
    rw [hf x y h1, map_inj hf h2]
theorem find_first {α : Type} {f : α → Bool} : ∀ {xs : List α} {j : Nat} {x : α}, xs[j]? = some x → (∀ y ∈ xs.take j, f y = false) → f x = true → xs.find? f = some x
  | [], _, _, h, _, _ => by simp at h
  | y :: ys, 0, x, h, _, hx => by
    simp at h
    subst h
    rw [List.find?_cons_of_pos hx]
  | y :: ys, j + 1, x, h, hn, hx => by
    rw [List.find?_cons_of_neg (by rw [hn y (by simp)]; simp)]
    exact find_first (by simpa using h) (fun z hz => hn z (by simp [hz])) hx
theorem dEnt_nb (x : Option Nat) : (dEnt x).nb = true := by cases x <;> rfl
theorem dEnt_dep (x : Option Nat) : (dEnt x).dep ≤ 0 := by cases x <;> exact Nat.le_refl 0
section
variable {P : Nat → Option FDef} {n b : Nat} {h : Store}
def c_gcd : List Nat := [7]
theorem gcd_ok (H : Has P c_gcd) {x y : Nat} : callI P (n + 1) 7 [.int x, .int y] b h = some (.int (Nat.gcd x y : Nat), h) := by
  refine opt_eq (call_of (H.f 7 rfl rfl) rfl rfl ?_)
  simp [F_greatest_common_divisor, B_greatest_common_divisor, getV]
  refine wh_nx (fun m e1 h1 => ∃ u v : Nat, m = v ∧ e1 = [some (.int u), some (.int v)] ∧ h1 = h ∧ Nat.gcd u v = Nat.gcd x y) (fun m e1 h1 hI => ?_) y ⟨x, y, rfl, rfl, rfl, rfl⟩
  obtain ⟨u, v, rfl, rfl, rfl, hg⟩ := hI
  by_cases hv : m = 0
  · subst hv
    simp [getV]
    have : u = x.gcd y := by simpa using hg
    rw [this]
  · simp [getV, biF, setsD, hv]
    refine ⟨by omega, _, Nat.mod_lt u (Nat.pos_of_ne_zero hv), m, ⟨rfl, by simp⟩, ?_⟩
    rw [← hg, Nat.gcd_comm u m, Nat.gcd_rec m u, Nat.gcd_comm]
def c_lcm : List Nat := [8, 7]
theorem lcm_ok (H : Has P c_lcm) {x y : Nat} (hx : 0 < x) (hy : 0 < y) (hb : y < 2 ^ 60) : callI P (n + 2) 8 [.int x, .int y] b h = some (.int (Nat.lcm x y : Nat), h) := by
  have hg : 0 < Nat.gcd x y := Nat.gcd_pos_of_pos_left y hx
  have hg2 : Nat.gcd x y ≤ y := Nat.le_of_dvd hy (Nat.gcd_dvd_right x y)
  refine opt_eq (call_of (H.f 8 rfl rfl) rfl rfl ?_)
  simp [F_least_common_multiple, B_least_common_multiple, getV]
  refine opt_of_eq (gcd_ok (H.sub rfl)) ?_
  simp only []
  refine opt_of_eq (fdiv_of (by omega) (by omega)) ?_
  simp
  refine ⟨.inr (by constructor <;> omega), ?_⟩
  unfold Nat.lcm
  rw [← Int.natCast_ediv, ← Int.natCast_mul, Nat.div_mul_right_comm (Nat.gcd_dvd_left x y)]
def c_route_period : List Nat := [9]
theorem route_period_ok (H : Has P c_route_period) {r : List (Option Nat)} (h1 : 1 ≤ r.length) (h2 : r.length ≤ 6) : callI P (n + 1) 9 [dRoute r] b h = some (.int (rper r), h) := by
  refine opt_eq (call_of (H.f 9 rfl rfl) rfl rfl ?_)
  simp [F_route_period, B_route_period, getV, dRoute]
  refine ⟨by constructor <;> omega, ?_⟩
  have e0 : (rangeL 1 (r.length : Int)).map D.int = (List.range' 1 (r.length - 1)).map dI := by
    simp [rangeL, dI, List.range'_eq_map_range, Function.comp_def]
  rw [e0]
  refine fr_ret dI (fun j e1 h1 => (∃ a2, e1 = [some (dRoute r), a2]) ∧ h1 = h ∧ ∀ d ∈ (List.range' 1 (r.length - 1)).take j, rcond r d = false) ⟨⟨_, rfl⟩, rfl, by simp⟩ (fun _ _ _ _ => live_none _) (fun j d e1 h1 hx hI => ?_) (fun e1 h1 hI => ?_)
  · obtain ⟨⟨a2, rfl⟩, rfl, hc⟩ := hI
    have hd := List.mem_range'_1.mp (List.mem_of_getElem? hx)
    have hlog : d.log2 < 9000 := by
      have : d.log2 < 100 := (Nat.log2_lt (by omega)).mpr (by omega)
      omega
    have hno : rcond r d = false → ∀ d ∈ (List.range' 1 (r.length - 1)).take (j + 1), rcond r d = false := by
      intro h0 x hx2
      rw [List.take_add_one, hx] at hx2
      rcases List.mem_append.mp hx2 with h | h
      · exact hc x h
      · simp at h
        rw [h]
        exact h0
    simp [getV, dRoute, dI]
    refine ⟨⟨by omega, hlog⟩, .inr (by constructor <;> omega), ?_⟩
    by_cases h3 : r.length / d * d = r.length
    · rw [if_pos (by rw [← Int.natCast_ediv, ← Int.natCast_mul, h3])]
      refine opt_of_eq (show slD false (D.tup (r.map dEnt)) none (some (d : Int)) h1 = some (.tup ((r.take d).map dEnt), h1) by simp [slD, cutD_to]) ?_
      simp
      refine ⟨⟨by omega, hlog⟩, ?_⟩
      have hk : 2 ≤ r.length / d := by
        apply Classical.byContradiction
        intro hn
        have : r.length / d = 0 ∨ r.length / d = 1 := (show ∀ q : Nat, ¬ 2 ≤ q → q = 0 ∨ q = 1 by omega) _ hn
        rcases this with e | e <;> rw [e] at h3 <;> omega
      have hk2 : r.length / d ≤ r.length := Nat.div_le_self _ _
      have e1 : binop .mul false (D.tup (r.take d |>.map dEnt)) (.int ((r.length : Int) / (d : Int))) h1 = some (.tup ((List.replicate (r.length / d) (r.take d)).flatten.map dEnt), h1) := by
        rw [← Int.natCast_ediv]
        simp only [binop]
        have hne : (r.take d).map dEnt ≠ [] := by
          intro hn
          have h9 : ((r.take d).map dEnt).length = d := by rw [List.length_map, List.length_take]; omega
          rw [hn, List.length_nil] at h9
          omega
        rw [if_pos ⟨hne, by omega, by omega, by simp; omega⟩, Int.toNat_natCast, List.map_flatten, List.map_replicate]
      rw [← List.map_take]
      refine opt_of_eq e1 ?_
      simp only []
      have q1 : ∀ xs : List (Option Nat), (D.tup (xs.map dEnt)).nb = true := fun xs => nbs_map dEnt_nb xs
      have q2 : ∀ xs : List (Option Nat), (D.tup (xs.map dEnt)).dep < 12 := fun xs => by
        have := deps_map dEnt_dep xs
        simp only [D.dep]
        omega
      refine opt_eqD (pyOf_nb (q1 _) (q2 _)) (pyOf_nb (q1 _) (q2 _)) (q1 _) (q1 _) (fun e => ?_) (fun e => ?_)
      · have e2 := map_inj (fun _ _ => dEnt_inj) (D.tup.inj e)
        have h4 : rcond r d = true := by
          unfold rcond
          rw [decide_eq_true h3, decide_eq_true e2]
          rfl
        have h5 : rper r = d := by
          unfold rper
          rw [find_first hx hc h4]
          rfl
        simp [h5]
      · simp
        refine hno ?_
        have : r ≠ (List.replicate (r.length / d) (r.take d)).flatten := fun e3 => e (congrArg (fun xs => D.tup (xs.map dEnt)) e3)
        unfold rcond
        rw [decide_eq_false this, Bool.and_false]
    · rw [if_neg (by
        intro h4
        apply h3
        have : ((r.length / d * d : Nat) : Int) = (r.length : Nat) := by rw [Int.natCast_mul, Int.natCast_ediv]; exact h4
        omega)]
      refine hno ?_
      unfold rcond
      rw [decide_eq_false h3]
      rfl
  · obtain ⟨⟨a2, rfl⟩, rfl, hc⟩ := hI
    rw [List.take_of_length_le (by simp)] at hc
    have : rper r = r.length := by
      unfold rper
      rw [List.find?_eq_none.mpr (by simpa using hc)]
      rfl
    simp [getV, dRoute, this]
end
end Sp

set_option maxRecDepth 100000
set_option maxHeartbeats 1000000
/-! Sp8: the pattern, the effect between times. -/
namespace Sp
open PySem L2 Sw Bd Pm
section
variable {P : Nat → Option FDef} {n b : Nat} {h : Store}
def c_pattern_of : List Nat := [10, 9, 8, 7]
theorem pattern_of_ok (H : Has P c_pattern_of) {p : Plan} (o : p.Ok) : callI P (n + 3) 10 [dPlan p] b h = some (.int (patL p), h) := by
  refine opt_eq (call_of (H.f 10 rfl rfl) rfl rfl ?_)
  simp [F_pattern_of, B_pattern_of, getV, ixD_plan1]
  refine fr_nx dRoute (fun j e1 h1 => (∃ a3, e1 = [some (dPlan p), some (.int ((p.routes.take j).foldl (fun L r => Nat.lcm L (rper r)) 1 : Nat)), a3]) ∧ h1 = h) ⟨⟨_, rfl⟩, rfl⟩ (fun _ _ _ _ => live_none _) (fun j r e1 h1 hx hI => ?_) (fun e1 h1 hI => ?_)
  · obtain ⟨⟨a3, rfl⟩, rfl⟩ := hI
    have hr := List.mem_of_getElem? hx
    obtain ⟨h1, h2, h3⟩ := o.r3 r hr
    obtain ⟨h4, h5⟩ := rper_ok h1
    have h6 := h4.1
    have hpos : 0 < (p.routes.take j).foldl (fun L r => Nat.lcm L (rper r)) 1 := by
      have := (lcm_fold rper (p.routes.take j) 1).2.2 60 ⟨60, rfl⟩ fun r hr => by
        obtain ⟨h1, h2, h3⟩ := o.r3 r (List.mem_of_mem_take hr)
        obtain ⟨h4, h5⟩ := rper_ok h1
        have h6 := h4.1
        have : rper r = 1 ∨ rper r = 2 ∨ rper r = 3 ∨ rper r = 4 ∨ rper r = 5 ∨ rper r = 6 := by omega
        rcases this with e | e | e | e | e | e <;> rw [e] <;> decide
      exact Nat.pos_of_dvd_of_pos this (by decide)
    simp [getV]
    refine opt_of_eq (route_period_ok (H.sub rfl) h1 h2) ?_
    simp only []
    refine opt_of_eq (lcm_ok (H.sub rfl) hpos (by omega) (by omega)) ?_
    simp [List.take_add_one, hx]
  · obtain ⟨⟨a3, rfl⟩, rfl⟩ := hI
    rw [List.take_length]
    simp [getV, patL]
def c_pattern_effect : List Nat := [19, 10, 9, 8, 7, 18, 4, 13, 11, 12, 6, 14]
theorem pattern_effect_ok (H : Has P c_pattern_effect) {p : Plan} (o : p.Ok) {t : Int} (h1 : -(2 * 10 ^ 18) ≤ t) (h2 : t ≤ 2 * 10 ^ 18) : callI P (n + 5) 19 [dPlan p, .int t] b h = some (dEff (eff p t (patL p)), h) := by
  have hL := patL_le o
  refine opt_eq (call_of (H.f 19 rfl rfl) rfl rfl ?_)
  simp [F_pattern_effect, B_pattern_effect, getV]
  refine opt_of_eq (pattern_of_ok (H.sub rfl) o) ?_
  simp
  refine opt_of_eq (ticks_effect_ok (H.sub rfl) o h1 h2 (by omega)) ?_
  exact opt_of_eq (froz_bel (bel_eff _ _)) (by simp)
def c_effect_between : List Nat := [20, 19, 10, 9, 8, 7, 18, 4, 13, 11, 12, 6, 14, 17, 16, 15]
theorem effect_between_nat (H : Has P c_effect_between) {p : Plan} (o : p.Ok) {t : Int} {k : Nat} (h1 : -(2 * 10 ^ 18) ≤ t) (h2 : t ≤ 2 * 10 ^ 18) (hk : k ≤ 10 ^ 18) : callI P (n + 6) 20 [dPlan p, .int t, .int k] b h = some (dEff (eff p t k), h) := by
  have hL := patL_le o
  have hL1 := patL_pos o
  have hT := total_le o
  have q1 := eff_isP o t (patL p)
  have hsub : k - k / patL p * patL p ≤ 1000 := by
    have := Nat.mod_lt k hL1
    have e := Nat.div_add_mod k (patL p)
    rw [Nat.mul_comm] at e
    omega
  have hle := Nat.div_mul_le_self k (patL p)
  have hdv : k / patL p ≤ k := Nat.div_le_self _ _
  refine opt_eq (call_of (H.f 20 rfl rfl) rfl rfl ?_)
  simp [F_effect_between, B_effect_between, getV]
  refine opt_of_eq (pattern_of_ok (H.sub rfl) o) ?_
  simp [getV]
  refine opt_of_eq (pattern_effect_ok (H.sub rfl) o h1 h2) ?_
  simp
  have hlog : (patL p).log2 < 9000 := by
    have : (patL p).log2 < 100 := (Nat.log2_lt (by omega)).mpr (by omega)
    omega
  refine ⟨⟨by omega, hlog⟩, ?_⟩
  rw [← Int.natCast_ediv]
  refine opt_of_eq (repeated_ok (H.sub rfl) q1 (by omega) _) ?_
  simp only []
  refine ⟨⟨by omega, hlog⟩, .inr (by constructor <;> omega), ?_⟩
  rw [show (k : Int) - ((k / patL p : Nat) : Int) * (patL p : Int) = ((k - k / patL p * patL p : Nat) : Int) by rw [← Int.natCast_mul]; omega]
  refine opt_of_eq (ticks_effect_ok (H.sub rfl) o h1 h2 hsub) ?_
  simp only []
  have q2 := pwI_isP q1 ((k / patL p : Nat) : Int)
  have q3 := eff_isP o t (k - k / patL p * patL p)
  refine opt_of_eq (combined_ok (H.sub rfl) (by rw [q2.len]; omega) (fun x hx => by rw [q3.len]; exact q2.lt x hx)) ?_
  rw [pwI_nat, ← eff_split o (patL_per o)]
  exact opt_of_eq (froz_bel (bel_eff _ _)) (by simp)
theorem effect_between_ok (H : Has P c_effect_between) {p : Plan} (o : p.Ok) {t c : Int} (h1 : -(2 * 10 ^ 18) ≤ t) (h2 : t ≤ 2 * 10 ^ 18) (h3 : -(2 * 10 ^ 18) ≤ t + c) (hc1 : -(10 ^ 18) ≤ c) (hc2 : c ≤ 10 ^ 18) : callI P (n + 7) 20 [dPlan p, .int t, .int c] b h = some (dEff (effI p t c), h) := by
  by_cases hc : c < 0
  · have hT := total_le o
    obtain ⟨k, hk⟩ : ∃ k : Nat, c = -(k : Int) := ⟨(-c).toNat, by omega⟩
    subst hk
    have q := eff_isP o (t + -(k : Int)) k
    refine opt_eq (call_of (H.f 20 rfl rfl) rfl rfl ?_)
    simp [F_effect_between, B_effect_between, getV]
    rw [if_pos (by omega)]
    refine opt_of_eq (effect_between_nat (n := n) H o (by omega) (by omega) (by omega)) ?_
    simp only []
    refine opt_of_eq (inverse_of_ok (H.sub rfl) (Seq.tup _ _) (by rw [q.len]; omega) (by rw [q.len]; exact q.lt)) ?_
    refine opt_of_eq (froz_bel (bel_eff _ _)) ?_
    simp [effI, hc]
    rw [if_pos (by omega)]
  · obtain ⟨k, hk⟩ : ∃ k : Nat, c = (k : Int) := ⟨c.toNat, by omega⟩
    subst hk
    rw [effI_nat]
    exact effect_between_nat (n := n + 1) H o (by omega) (by omega) (by omega)
end
end Sp

set_option maxRecDepth 100000
set_option maxHeartbeats 1000000
/-! Sp9: states. -/
namespace Sp
open PySem L2 Sw Bd Pm
@[simp] theorem biF_list_tup (m : Bool) (ds : List D) (h : Store) : biF .list m [.tup ds] h = some (mkL m ds h) := rfl
@[simp] theorem biF_list_lst (m : Bool) (ds : List D) (h : Store) : biF .list m [.lst ds] h = some (mkL m ds h) := rfl
@[simp] theorem biF_tuple_lst (m : Bool) (ds : List D) (h : Store) : biF .tuple m [.lst ds] h = some (.tup ds, h) := rfl
@[simp] theorem biF_tuple_tup (m : Bool) (ds : List D) (h : Store) : biF .tuple m [.tup ds] h = some (.tup ds, h) := rfl
def dShelf (s : List Nat) : D := .tup (s.map dI)
def dSt (s : St) : D := .tup [.int s.time, .tup (s.carried.map dI), .tup (s.shelves.map dShelf)]
theorem dSt_bel (n : Nat) (s : St) : (dSt s).bel n = true := by
  simp [dSt, D.bel, D.bels, bels_dI]
  exact bels_map (f := dShelf) (fun x => bels_dI n x) _
theorem slD_get {h : Store} {x : D} {ds : List D} (e : getR h x = some ds) (l u : Option Int) : slD false x l u h = some (.lst (cutD ds l u), h) := by
  unfold slD
  cases x with
  | tup z => cases e
  | _ => simp only [e, Option.map_some, mkL_f]
section
variable {P : Nat → Option FDef} {n b : Nat} {h : Store}
theorem ixD_st0 {s : St} : ixD h (dSt s) 0 = some (.int s.time) := rfl
theorem ixD_st1 {s : St} : ixD h (dSt s) 1 = some (.tup (s.carried.map dI)) := rfl
theorem ixD_st2 {s : St} : ixD h (dSt s) 2 = some (.tup (s.shelves.map dShelf)) := rfl
def c_contents_of : List Nat := [21]
theorem contents_of_ok (H : Has P c_contents_of) {s : St} (hl : s.cont.length ≤ 1000) : callI P (n + 1) 21 [dSt s] b h = some (.ref h.length, h ++ [.lst (s.cont.map dI)]) := by
  refine opt_eq (call_keep (H.f 21 rfl rfl) rfl rfl ?_)
  simp [F_contents_of, B_contents_of, getV, ixD_st1, ixD_st2, biF]
  refine fr_nx dShelf (fun j e1 h1 => (∃ a3, e1 = [some (dSt s), some (.ref h.length), a3]) ∧ h1 = h ++ [.lst ((s.carried ++ (s.shelves.take j).flatten).map dI)]) ⟨⟨_, rfl⟩, by simp⟩ (fun _ _ _ _ => live_none _) (fun j r e1 h1 hx hI => ?_) (fun e1 h1 hI => ?_)
  · obtain ⟨⟨a3, rfl⟩, rfl⟩ := hI
    have hlen : (s.carried ++ (s.shelves.take (j + 1)).flatten).length ≤ 1000 := by
      refine Nat.le_trans ?_ hl
      unfold St.cont
      rw [List.length_append, List.length_append]
      refine Nat.add_le_add_left ?_ _
      conv => rhs; rw [← List.take_append_drop (j + 1) s.shelves]
      rw [List.flatten_append, List.length_append]
      omega
    have e1 : (s.shelves.take (j + 1)).flatten = (s.shelves.take j).flatten ++ r := by
      rw [List.take_add_one, hx]
      simp
    rw [e1, ← List.append_assoc] at hlen ⊢
    generalize s.carried ++ (s.shelves.take j).flatten = L at *
    rw [List.length_append] at hlen
    simp [getV, dShelf]
    refine ⟨(mtTy_ref (ds := L.map dI) (by simp)).2.1, ?_⟩
    refine opt_of_eq (extend_ref (m := h.length) (h := h ++ [.lst (L.map dI)]) (v := .lst (r.map dI)) (ds := L.map dI) (es := r.map dI) (by simp) rfl (by simp; omega) (.inl (bels_dI 0 r))) ?_
    simp
  · obtain ⟨⟨a3, rfl⟩, rfl⟩ := hI
    rw [List.take_length]
    simp [getV, St.cont]
def c_state_of : List Nat := [22]
theorem state_of_ok (H : Has P c_state_of) {p : Plan} (o : p.Ok) {t : Int} {x : D} {xs : List Nat} (hx : ∀ l, getR (h ++ l) x = some (xs.map dI)) (hl : xs.length = total p) : callI P (n + 1) 22 [dPlan p, .int t, x] b h = some (dSt (stOf p t xs), h) := by
  have hT := total_le o
  refine opt_eq (call_of (H.f 22 rfl rfl) rfl rfl ?_)
  simp [F_state_of, B_state_of, getV, ixD_plan0, ixD_plan1]
  refine fr_nx dI (fun j e1 h1 => (∃ a6, e1 = [some (dPlan p), some (.int t), some x, some (.int (firstOn p j : Nat)), some (.ref h.length), a6]) ∧ h1 = h ++ [.lst ((cutS (p.sizes.take j) (xs.drop p.routes.length)).map dShelf)]) ⟨⟨_, by simp [firstOn]; rfl⟩, rfl⟩ (fun _ _ _ _ => live_none _) (fun j z e1 h1 hx1 hI => ?_) (fun e1 h1 hI => ?_)
  · obtain ⟨⟨a6, rfl⟩, rfl⟩ := hI
    obtain ⟨hj, hz⟩ := List.getElem?_eq_some_iff.mp hx1
    have hf := firstOn_le hj
    have e1 : p.sizes.getD j 0 = z := by simp [hx1]
    rw [e1] at hf
    have e2 : p.sizes.take (j + 1) = p.sizes.take j ++ [z] := by rw [List.take_add_one, hx1]; rfl
    have e3 : firstOn p (j + 1) = firstOn p j + z := by
      unfold firstOn
      rw [e2, List.sum_append]
      simp
      omega
    have e4 : (xs.drop p.routes.length).drop (p.sizes.take j).sum = xs.drop (firstOn p j) := by rw [List.drop_drop]; rfl
    have hcl : (cutS (p.sizes.take j) (xs.drop p.routes.length)).length ≤ 12 := by
      have : ∀ zs ys, (cutS zs ys).length = zs.length := by
        intro zs
        induction zs with
        | nil => intro _; rfl
        | cons z zs ih => intro ys; simp [cutS, ih]
      rw [this, List.length_take]
      have := o.s2
      omega
    rw [e2, cutS_snoc, e3, e4]
    generalize cutS (p.sizes.take j) (xs.drop p.routes.length) = L at *
    generalize firstOn p j = f at *
    simp [getV, dI]
    refine ⟨(mtTy_ref (ds := L.map dShelf) (by simp)).1, ?_⟩
    refine opt_of_eq (slD_get (hx _) _ _) ?_
    simp only []
    rw [show (f : Int) + (z : Int) = ((f + z : Nat) : Int) by omega, cutD_mid _ _ _ (by simp; omega), show f + z - f = z by omega, ← List.map_drop, ← List.map_take]
    simp only [biF_tuple_lst, opt_some]
    refine opt_of_eq (append_ref (ds := L.map dShelf) (by simp) (by simp; omega) (.inr (Nat.le_refl _))) ?_
    simp [augI, dShelf]
  · obtain ⟨⟨a6, rfl⟩, rfl⟩ := hI
    simp [getV, ixD_plan1]
    refine opt_of_eq (slD_get (hx _) _ _) ?_
    simp only []
    rw [cutD_to, ← List.map_take]
    simp only [biF_tuple_lst, opt_some]
    refine opt_of_eq ((Seq.ref (ds := (cutS p.sizes (xs.drop p.routes.length)).map dShelf) (by simp)).tuple _) ?_
    simp only []
    refine ⟨le_size (by omega), ?_⟩
    exact opt_of_eq (froz_bel (dSt_bel _ (stOf p t xs))) (by simp)
end
end Sp

set_option maxRecDepth 100000
set_option maxHeartbeats 1000000
/-! SpA: states are valid, moved, advanced. -/
namespace Sp
open PySem L2 Sw Bd Pm
theorem dI_nb (x : Nat) : (dI x).nb = true := rfl
theorem dI_inj (x y : Nat) (h : dI x = dI y) : x = y := by
  have : (x : Int) = y := D.int.inj h
  omega
theorem nb_dI (xs : List Nat) : D.nbs (xs.map dI) = true := nbs_map dI_nb xs
theorem deps_dI (xs : List Nat) : D.deps (xs.map dI) ≤ 0 := deps_map (fun _ => Nat.le_refl 0) xs
theorem pyOf_dI (h : Store) (xs : List Nat) : pyOf h (.lst (xs.map dI)) = some (pd (.lst (xs.map dI))) := pyOf_nb (nb_dI xs) (by have := deps_dI xs; simp only [D.dep]; omega)
theorem eqD_eq {h : Store} {x y p : D} (ex : pyOf h x = some (pd p)) (ey : pyOf h y = some (pd p)) (hp : p.nb = true) : eqD h x y = some true := opt_eq (opt_eqD ex ey hp hp (fun _ => rfl) (fun e => absurd rfl e))
theorem eqD_ne {h : Store} {x y p q : D} (ex : pyOf h x = some (pd p)) (ey : pyOf h y = some (pd q)) (hp : p.nb = true) (hq : q.nb = true) (ne : p ≠ q) : eqD h x y = some false := opt_eq (opt_eqD ex ey hp hq (fun e => absurd e ne) (fun _ => rfl))
theorem cmpD_eq' (x y : D) (h : Store) : cmpD .eq x y h = eqD h x y := rfl
theorem cmpD_ne' (x y : D) (h : Store) : cmpD .ne x y h = (eqD h x y).map (!·) := rfl
theorem asInts_dI : ∀ xs : List Nat, asInts (xs.map dI) = some (xs.map fun n : Nat => (n : Int)) := asInts_map (fun n : Nat => (n : Int))
theorem lenset_ref {h : Store} {m : Nat} {xs : List Nat} {f : Bool} (e : h[m]? = some (.lst (xs.map dI))) (hn : xs.Nodup) (hl : xs.length ≤ 1000) : biF .lenset f [.ref m] h = some (.int xs.length, h) := by
  have h1 : (xs.map fun n : Nat => (n : Int)).Nodup := by
    rw [List.nodup_iff_pairwise_ne, List.pairwise_map]
    exact (List.nodup_iff_pairwise_ne.mp hn).imp fun h e => h (by omega)
  simp only [biF, getR_ref e, asInts_dI]
  rw [if_pos ⟨h1, by simp; omega⟩, List.length_map]
section
variable {P : Nat → Option FDef} {n b : Nat} {h : Store}
def c_fits : List Nat := [23, 21]
theorem fits_ok (H : Has P c_fits) {p : Plan} (o : p.Ok) {s : St} (q : s.Ok p) : callI P (n + 2) 23 [dPlan p, dSt s] b h = some (.bl true, h) := by
  have hT := total_le o
  have hl := q.len
  have hz : s.shelves.length ≤ 12 := by
    have := congrArg List.length q.z
    rw [List.length_map] at this
    have := o.s2
    omega
  refine opt_eq (call_of (H.f 23 rfl rfl) rfl rfl ?_)
  simp [F_fits, B_fits, getV, dSt]
  refine ⟨q.t1, q.t2, ?_⟩
  refine opt_of_eq ixD_plan1 ?_
  simp [q.c]
  refine ⟨le_size (by omega), ?_⟩
  refine lc_rule dShelf (fun s => some (dI s.length)) (live_none h) (fun c hc => ?_) ?_
  · simp [wipeD, getV, dI, dShelf]
  · simp
    refine opt_of_eq ixD_plan0 ?_
    simp [cmpD_ne']
    have e1 : List.map (fun s => dI (List.length s)) s.shelves = p.sizes.map dI := by rw [← q.z, List.map_map]; rfl
    rw [e1]
    refine opt_of_eq (eqD_eq (pyOf_dI _ _) (pyOf_dI _ _) (nb_dI _)) ?_
    simp
    refine opt_of_eq (contents_of_ok (s := s) (H.sub rfl) (by omega)) ?_
    simp only []
    refine opt_of_eq (lenset_ref (by simp) q.nd (by omega)) ?_
    simp only []
    refine opt_of_eq ((Seq.ref (ds := s.cont.map dI) (by simp)).len _) ?_
    simp
    refine opt_of_eq (wkX_ref (ds := s.cont.map dI) (by simp)) ?_
    simp
    refine ⟨le_size (by omega), ?_⟩
    refine lc_rule dI (fun _ => some (.bl true)) (by simp [live]) (fun c hc => ?_) ?_
    · have := q.r c hc
      simp [wipeD, getV, dI]
      omega
    · simp [biF, asBls_map]
def c_validate_state : List Nat := [24, 2, 0, 1, 23, 21]
theorem validate_state_ok (H : Has P c_validate_state) {p : Plan} (o : p.Ok) {s : St} (q : s.Ok p) : callI P (n + 3) 24 [dPlan p, dSt s] b h = some (.non, h) := by
  refine opt_eq (call_of (H.f 24 rfl rfl) rfl rfl ?_)
  simp [F_validate_state, B_validate_state, getV]
  refine opt_of_eq (validate_plan_ok (H.sub rfl) o) ?_
  simp
  refine opt_of_eq (fits_ok (H.sub rfl) o q) ?_
  simp
def c_spot_of : List Nat := [25, 21]
theorem spot_of_ok (H : Has P c_spot_of) {p : Plan} (o : p.Ok) {s : St} (q : s.Ok p) {k : Nat} (hk : k < total p) : callI P (n + 2) 25 [dSt s, dI (ap s.cont k)] b h = some (dI k, h) := by
  have hT := total_le o
  have hl := q.len
  have hdep := deps_dI s.cont
  have e1 : pyOf (h ++ [.lst (s.cont.map dI)]) (.ref h.length) = some (.list (pds (s.cont.map dI))) := by
    rw [pyOf_ref (ds := s.cont.map dI) (by simp), pyOf_dI]
    rfl
  refine opt_eq (call_of (H.f 25 rfl rfl) rfl rfl ?_)
  simp [F_spot_of, B_spot_of, getV]
  refine opt_of_eq (contents_of_ok (s := s) (H.sub rfl) (by omega)) ?_
  simp [getV]
  refine opt_inL (dI_nb _) (by show 0 < 12; omega) e1 (fun _ e => nomatch e) (nb_dI _) (fun _ => ?_) (fun hn => ?_)
  · simp
    refine ⟨(mtTy_ref (ds := s.cont.map dI) (by simp)).2.2.2.2, ?_⟩
    refine opt_index (j := k) (dI_nb _) (by show 0 < 12; omega) e1 (nb_dI _) (getD_dI (by omega)) (fun i hi he => ?_) ?_
    · rw [getD_dI (by omega)] at he
      have e2 := dI_inj _ _ (Option.some.inj he)
      have := (List.getElem?_inj (i := i) (j := k) (by omega) q.nd).mp (by rw [ap_some (by omega), ap_some (by omega)]; exact congrArg some e2)
      omega
    · simp [dI]
  · exact absurd (List.mem_map_of_mem (ap_mem (by omega))) hn
def c_moved : List Nat := [26, 21, 22]
theorem moved_ok (H : Has P c_moved) {p : Plan} (o : p.Ok) {s : St} (q : s.Ok p) {t : Int} {e : List Nat} (pe : IsP (total p) e) : callI P (n + 2) 26 [dPlan p, dSt s, .int t, dEff e] b h = some (dSt (stOf p t (comp (inv e) s.cont)), h) := by
  have hT := total_le o
  have hl := q.len
  have hel := pe.len
  refine opt_eq (call_of (H.f 26 rfl rfl) rfl rfl ?_)
  simp [F_moved, B_moved, getV]
  refine opt_of_eq (contents_of_ok (s := s) (H.sub rfl) (by omega)) ?_
  simp [getV]
  refine ⟨le_size (by omega), ?_⟩
  refine opt_of_eq ((Seq.ref (ds := s.cont.map dI) (by simp)).len _) ?_
  simp only [List.length_map]
  refine opt_of_eq (rep0 (by omega)) ?_
  simp [getV]
  refine opt_of_eq (show wkX _ (dEff e) = some (e.map dI, none) from rfl) ?_
  simp only []
  rw [enumD_map]
  refine fr_nx (fun q : Nat × Nat => D.tup [.int q.2, dI q.1]) (fun j e1 h1 => (∃ a6 a7, e1 = [some (dPlan p), some (dSt s), some (.int t), some (dEff e), some (.ref h.length), some (.ref (h.length + 1)), a6, a7]) ∧ h1 = h ++ [.lst (s.cont.map dI), .lst ((((e.zipIdx.take j).map fun q => (q.1, ap s.cont q.2)).foldl invStep (List.replicate s.cont.length 0)).map dI)]) ⟨⟨_, _, rfl⟩, by simp⟩ (fun _ _ _ hI => live_none _) (fun j z e1 h1 hx hI => ?_) (fun e1 h1 hI => ?_)
  · obtain ⟨⟨a6, a7, rfl⟩, rfl⟩ := hI
    obtain ⟨g, k⟩ := z
    have hm := List.mem_of_getElem? hx
    have hg : g < total p := pe.lt g ((List.mem_zipIdx hm).2.2 ▸ List.getElem_mem _)
    have hk : k < total p := by
      have := (List.mem_zipIdx hm).2.1
      omega
    have e2 : (e.zipIdx.take (j + 1)).map (fun q => (q.1, ap s.cont q.2)) = (e.zipIdx.take j).map (fun q => (q.1, ap s.cont q.2)) ++ [(g, ap s.cont k)] := by
      rw [List.take_add_one, hx]
      simp
    rw [e2, List.foldl_append]
    have hR : (((e.zipIdx.take j).map fun q => (q.1, ap s.cont q.2)).foldl invStep (List.replicate s.cont.length 0)).length = total p := by
      rw [inv_len_fold, List.length_replicate, hl]
    generalize ((e.zipIdx.take j).map fun q => (q.1, ap s.cont q.2)).foldl invStep (List.replicate s.cont.length 0) = R at *
    simp [getV, dI]
    have g1 : (h ++ [Ob.lst (s.cont.map dI), .lst (R.map dI)])[h.length]? = some (.lst (s.cont.map dI)) := by simp
    have g2 : (h ++ [Ob.lst (s.cont.map dI), .lst (R.map dI)])[h.length + 1]? = some (.lst (R.map dI)) := by simp
    refine opt_of_eq ((ixD_ref g1 _).trans (atI_nat (getD_dI (by omega)))) ?_
    refine opt_of_eq (subD_ref g2 (by simp; omega) (.inl rfl)) ?_
    simp [invStep, ap]
  · obtain ⟨⟨a6, a7, rfl⟩, rfl⟩ := hI
    rw [List.take_of_length_le (by simp)]
    have e1 := mv_eq pe hl
    unfold mv at e1
    rw [e1]
    have hcl : (comp (inv e) s.cont).length = total p := by rw [comp_len, inv_len, hel]
    simp [getV]
    refine opt_of_eq (state_of_ok (H.sub rfl) o (xs := comp (inv e) s.cont) (fun l => getR_ref (by simp)) hcl) ?_
    refine opt_of_eq (froz_bel (dSt_bel _ _)) ?_
    simp
def c_advance : List Nat := [28, 24, 2, 0, 1, 23, 21, 3, 26, 22, 20, 19, 10, 9, 8, 7, 18, 4, 13, 11, 12, 6, 14, 17, 16, 15]
theorem advance_ok (H : Has P c_advance) {p : Plan} (o : p.Ok) {s : St} (q : s.Ok p) {c : Int} (h1 : -(2 * 10 ^ 18) ≤ s.time) (h2 : s.time ≤ 2 * 10 ^ 18) (h3 : -(2 * 10 ^ 18) ≤ s.time + c) (hc1 : -(10 ^ 18) ≤ c) (hc2 : c ≤ 10 ^ 18) : callI P (n + 8) 28 [dPlan p, dSt s, .int c] b h = some (dSt (adv p s c), h) := by
  refine opt_eq (call_of (H.f 28 rfl rfl) rfl rfl ?_)
  simp [F_advance, B_advance, getV, ixD_st0]
  refine opt_of_eq (validate_state_ok (H.sub rfl) o q) ?_
  simp only []
  refine opt_of_eq (validate_count_ok (H.sub rfl) (by omega) (by omega)) ?_
  simp [getV, ixD_st0]
  refine opt_of_eq (effect_between_ok (H.sub rfl) o h1 h2 h3 hc1 hc2) ?_
  simp only []
  refine opt_of_eq (moved_ok (H.sub rfl) o q (effI_isP o _ _)) ?_
  refine opt_of_eq (froz_bel (dSt_bel _ _)) ?_
  simp [adv]
end
end Sp

set_option maxRecDepth 100000
set_option maxHeartbeats 1000000
/-! SpB: places of parcels, a tick. -/
namespace Sp
open PySem L2 Sw Bd Pm
theorem dPl_nb (x : Pl) : (dPl x).nb = true := by cases x <;> (simp [dPl, D.nb, D.nbs]; kernel_rfl)
theorem dPl_dep (x : Pl) : (dPl x).dep ≤ 1 := by cases x <;> exact Nat.le_refl 1
theorem dPl_bel (n : Nat) (x : Pl) : (dPl x).bel n = true := by cases x <;> rfl
theorem dPl_inj (x y : Pl) (h : dPl x = dPl y) : x = y := by
  cases x with
  | car c =>
    cases y with
    | car d =>
      have h1 := D.tup.inj h
      simp at h1
      rw [show c = d by omega]
    | sh s k =>
      have h1 := D.tup.inj h
      simp at h1
  | sh s k =>
    cases y with
    | car d =>
      have h1 := D.tup.inj h
      simp at h1
    | sh s' k' =>
      have h1 := D.tup.inj h
      simp at h1
      rw [show s = s' by omega, show k = k' by omega]
section
variable {P : Nat → Option FDef} {n b : Nat} {h : Store}
def c_number_of : List Nat := [5, 4]
theorem number_of_ok (H : Has P c_number_of) {p : Plan} (o : p.Ok) {k : Nat} (hk : k < total p) : callI P (n + 2) 5 [dPlan p, dPl (plOf p k)] b h = some (dI k, h) := by
  have hdep := deps_map dPl_dep (pls p)
  have hnb := nbs_map dPl_nb (pls p)
  have e1 : pyOf h (.lst ((pls p).map dPl)) = some (.list (pds ((pls p).map dPl))) := pyOf_nb (d := .lst ((pls p).map dPl)) hnb (by simp only [D.dep]; omega)
  have hd1 := dPl_dep (plOf p k)
  refine opt_eq (call_of (H.f 5 rfl rfl) rfl rfl ?_)
  simp [F_number_of, B_number_of, getV]
  refine opt_of_eq (all_places_ok (H.sub rfl) o) ?_
  simp [getV]
  refine opt_inL (dPl_nb (plOf p k)) (by omega) e1 (fun _ e => nomatch e) hnb (fun _ => ?_) (fun hn => ?_)
  · simp [mtTy, mtF, getR, getL]
    refine opt_index (j := k) (dPl_nb (plOf p k)) (by omega) e1 hnb (by rw [List.getElem?_map, plOf_some hk]; rfl) (fun i hi he => ?_) ?_
    · rw [List.getElem?_map, plOf_some (by omega)] at he
      have := plOf_inj (by omega) hk (dPl_inj _ _ (Option.some.inj he))
      omega
    · simp [dI]
  · exact absurd (List.mem_map_of_mem (List.mem_of_getElem? (plOf_some hk))) hn
def c_locate : List Nat := [29, 24, 2, 0, 1, 23, 21, 3, 25, 20, 19, 10, 9, 8, 7, 18, 4, 13, 11, 12, 6, 14, 17, 16, 15]
theorem locate_ok (H : Has P c_locate) {p : Plan} (o : p.Ok) {s : St} (q : s.Ok p) {c : Int} (h1 : -(2 * 10 ^ 18) ≤ s.time) (h2 : s.time ≤ 2 * 10 ^ 18) (h3 : -(2 * 10 ^ 18) ≤ s.time + c) (hc1 : -(10 ^ 18) ≤ c) (hc2 : c ≤ 10 ^ 18) {k : Nat} (hk : k < total p) :
    callI P (n + 8) 29 [dPlan p, dSt s, dI (ap s.cont k), .int c] b h = some (dPl (plOf p (ap (effI p s.time c) k)), h) := by
  have pe := effI_isP o s.time c
  refine opt_eq (call_of (H.f 29 rfl rfl) rfl rfl ?_)
  simp [F_locate, B_locate, getV, ixD_st0]
  refine opt_of_eq (validate_state_ok (H.sub rfl) o q) ?_
  simp only []
  refine opt_of_eq (spot_of_ok (H.sub rfl) o q hk) ?_
  simp [getV]
  refine opt_of_eq (validate_count_ok (H.sub rfl) (by omega) (by omega)) ?_
  simp [getV, ixD_st0]
  refine opt_of_eq (all_places_ok (H.sub rfl) o) ?_
  simp
  refine opt_of_eq (effect_between_ok (H.sub rfl) o h1 h2 h3 hc1 hc2) ?_
  simp
  refine opt_of_eq (ixD_eff (by rw [pe.len]; exact hk) _) ?_
  simp [dI]
  have hlt := pe.ap_lt hk
  refine opt_of_eq (show ixD h (.lst ((pls p).map dPl)) ((ap (effI p s.time c) k : Nat) : Int) = some (dPl (plOf p (ap (effI p s.time c) k))) from atI_nat (by rw [List.getElem?_map, plOf_some hlt]; rfl)) ?_
  exact opt_of_eq (froz_bel (dPl_bel _ _)) rfl
def c_parcel_at : List Nat := [30, 24, 2, 0, 1, 23, 21, 3, 5, 20, 19, 10, 9, 8, 7, 18, 4, 13, 11, 12, 6, 14, 17, 16, 15]
theorem parcel_at_ok (H : Has P c_parcel_at) {p : Plan} (o : p.Ok) {s : St} (q : s.Ok p) {c : Int} (h1 : -(2 * 10 ^ 18) ≤ s.time) (h2 : s.time ≤ 2 * 10 ^ 18) (h3 : -(2 * 10 ^ 18) ≤ s.time + c) (hc1 : -(10 ^ 18) ≤ c) (hc2 : c ≤ 10 ^ 18) {k : Nat} (hk : k < total p) :
    callI P (n + 8) 30 [dPlan p, dSt s, dPl (plOf p k), .int c] b h = some (dI (ap s.cont (ap (inv (effI p s.time c)) k)), h) := by
  have pe := effI_isP o s.time c
  have hT := total_le o
  have hl := q.len
  have hdep := deps_dI (effI p s.time c)
  refine opt_eq (call_of (H.f 30 rfl rfl) rfl rfl ?_)
  simp [F_parcel_at, B_parcel_at, getV, ixD_st0]
  refine opt_of_eq (validate_state_ok (H.sub rfl) o q) ?_
  simp only []
  refine opt_of_eq (number_of_ok (H.sub rfl) o hk) ?_
  simp [getV]
  refine opt_of_eq (validate_count_ok (H.sub rfl) (by omega) (by omega)) ?_
  simp [getV, ixD_st0]
  refine opt_of_eq (effect_between_ok (H.sub rfl) o h1 h2 h3 hc1 hc2) ?_
  simp [getV]
  refine opt_of_eq (contents_of_ok (s := s) (H.sub rfl) (by omega)) ?_
  simp [mtTy, mtF, getT, dEff]
  have hlt := (inv_isP pe).ap_lt hk
  refine opt_tindex (j := ap (inv (effI p s.time c)) k) (dI_nb _) (by show 0 < 12; omega) (nb_dI _) (by omega) ?_ (fun i hi he => ?_) ?_
  · rw [getD_dI (by rw [pe.len]; exact hlt)]
    have := ap_inv pe hk
    unfold ap at this ⊢
    rw [this]
  · rw [getD_dI (by rw [pe.len]; omega)] at he
    have e2 := dI_inj _ _ (Option.some.inj he)
    have := inv_ap pe (i := i) (by omega)
    unfold ap at this hi
    rw [e2] at this
    omega
  · simp
    refine opt_of_eq ((ixD_ref (ds := s.cont.map dI) (by simp) _).trans (atI_nat (getD_dI (by omega)))) ?_
    simp [dI, ap]
end
end Sp

set_option maxRecDepth 100000
set_option maxHeartbeats 1000000
/-! SpC: a tick. -/
namespace Sp
open PySem L2 Sw Bd Pm
def dEx (q : Nat × Nat × Nat × Nat) : D := .tup [.int q.1, .int q.2.1, .int q.2.2.1, .int q.2.2.2]
theorem froz_tup {h1 : Store} {n k : Nat} {ds es : List D} (hb : D.bels n ds = false) (e : ds.mapM (froz h1 n k) = some es) : froz h1 n (k + 1) (.tup ds) = some (.tup es) := by
  unfold froz
  have : (D.tup ds).bel n = false := hb
  rw [this]
  simp only [Bool.false_eq_true, if_false, e, Option.map_some]
section
variable {P : Nat → Option FDef} {n b : Nat} {h : Store}
def c_tick : List Nat := [27, 24, 2, 0, 1, 23, 21, 11, 12, 6, 22]
theorem tick_ok (H : Has P c_tick) {p : Plan} (o : p.Ok) {s : St} (q : s.Ok p) : callI P (n + 4) 27 [dPlan p, dSt s] b h = some (.tup [dSt (nextSt p s), .lst ((nextEx p s).map dEx)], h) := by
  have hT := total_le o
  have hl := q.len
  have hr := o.r2
  refine opt_eq (call_of (H.f 27 rfl rfl) rfl rfl ?_)
  simp [F_tick, B_tick, getV, ixD_st0]
  refine opt_of_eq (validate_state_ok (H.sub rfl) o q) ?_
  simp only []
  refine opt_of_eq (contents_of_ok (s := s) (H.sub rfl) (by omega)) ?_
  simp [setsD, getV, ixD_st0]
  refine opt_of_eq (visits_of_ok (H.sub rfl) o _) ?_
  simp
  refine fr_nx dVis (fun j e1 h1 => (∃ a4 a5 a6, e1 = [some (dPlan p), some (dSt s), some (.ref h.length), some (.ref (h.length + 1)), a4, a5, a6]) ∧ h1 = h ++ [.lst ((((visits p (s.time + 1)).take j).foldl (fun xs v => exch p v xs) s.cont).map dI), .lst ((exRun p ((visits p (s.time + 1)).take j) s.cont).map dEx)]) ⟨⟨_, _, _, rfl⟩, by simp [exRun]⟩ (fun _ _ _ _ => live_none _) (fun j v e1 h1 hx hI => ?_) (fun e1 h1 hI => ?_)
  · obtain ⟨⟨a4, a5, a6, rfl⟩, rfl⟩ := hI
    obtain ⟨c, k⟩ := v
    obtain ⟨hc, hk⟩ := visits_mem o (List.mem_of_getElem? hx)
    have hlen : (((visits p (s.time + 1)).take j).foldl (fun xs v => exch p v xs) s.cont).length = total p := fold_len _ (fun v hv => (visits_mem o (List.mem_of_mem_take hv)).2) hl
    have hlen2 : (exRun p ((visits p (s.time + 1)).take j) s.cont).length ≤ 6 := by
      rw [exRun_len, List.length_take]
      have := visits_len p (s.time + 1)
      omega
    have e2 : (visits p (s.time + 1)).take (j + 1) = (visits p (s.time + 1)).take j ++ [(c, k)] := by rw [List.take_add_one, hx]; rfl
    rw [e2, exRun_snoc, List.foldl_append]
    generalize ((visits p (s.time + 1)).take j).foldl (fun xs v => exch p v xs) s.cont = R at *
    generalize exRun p ((visits p (s.time + 1)).take j) s.cont = E at *
    have hcT : c < total p := by unfold total; omega
    have hl2 := exch_len (v := (c, k)) hlen hk
    simp [getV, dVis]
    have g1 : (h ++ [Ob.lst (R.map dI), .lst (E.map dEx)])[h.length]? = some (.lst (R.map dI)) := by simp
    refine opt_of_eq ((ixD_ref g1 _).trans (atI_nat (getD_dI (by omega)))) ?_
    refine opt_of_eq (exchange_ok (H.sub rfl) o g1 hlen hc hk) ?_
    simp [getV]
    have g2 : (h ++ [Ob.lst ((exch p (c, k) R).map dI), .lst (E.map dEx)])[h.length + 1]? = some (.lst (E.map dEx)) := by simp
    refine ⟨(mtTy_ref g2).1, ?_⟩
    refine opt_of_eq ((ixD_ref (ds := (exch p (c, k) R).map dI) (by simp) _).trans (atI_nat (getD_dI (by omega)))) ?_
    try simp only []
    refine ⟨le_size (by omega), ?_⟩
    refine opt_of_eq (append_ref g2 (by simp; omega) (.inr (by omega))) ?_
    simp [dEx, dI, ap]
  · obtain ⟨⟨a4, a5, a6, rfl⟩, rfl⟩ := hI
    rw [List.take_length]
    have hrl : (runTick p (s.time + 1) s.cont).length = total p := runTick_len o _ hl
    simp [getV, ixD_st0]
    refine opt_of_eq (state_of_ok (H.sub rfl) o (xs := runTick p (s.time + 1) s.cont) (fun l => getR_ref (by simp [runTick])) hrl) ?_
    simp
    refine ⟨le_size (by omega), ?_⟩
    refine opt_of_eq (froz_tup (es := [dSt (nextSt p s), .lst ((nextEx p s).map dEx)]) (by simp [D.bels, D.bel]) ?_) rfl
    have f1 : froz (h ++ [Ob.lst (((visits p (s.time + 1)).foldl (fun xs v => exch p v xs) s.cont).map dI), .lst ((exRun p (visits p (s.time + 1)) s.cont).map dEx)]) h.length 3 (.ref (h.length + 1)) = some (.lst ((nextEx p s).map dEx)) :=
      froz_lst (ds := (nextEx p s).map dEx) (by simp [nextEx]) (by omega) (bels_map (fun _ => rfl) _)
    rw [List.mapM_cons, froz_bel (dSt_bel _ _), List.mapM_cons, f1]
    rfl
end
end Sp

set_option maxRecDepth 100000
set_option maxHeartbeats 1000000
/-! SpD: the random source. -/
namespace Sp
open PySem L2 Sw Bd Pm
/-- the source: the cells, the mixed number and the place -/
def RS (s : Store) : Prop := ∃ (ns : List Int) (m k : Nat), s = [.lst (ns.map D.int), .lst [.int m, .ref 0, .int k]] ∧ ns.length ≤ 63
theorem binop_ref_lst {h : Store} {n : Nat} {xs ys : List D} (e : h[n]? = some (.lst xs)) (hl : xs.length + ys.length ≤ 100000) : binop .add false (.ref n) (.lst ys) h = some (.lst (xs ++ ys), h) := by
  simp only [binop, getL, e]
  rw [if_pos (le_size hl)]
  rfl
theorem pow_of {i : Int} {j : Nat} (hi : i.natAbs < 2 ^ 60) (hj : j ≤ 1000) : binI .pow i (j : Int) = some (i ^ j) := by
  show (if 0 ≤ (j : Int) ∧ (j : Int) ≤ 1000000 ∧ i.natAbs < 2 ^ 64 then some (i ^ (j : Int).toNat) else none) = _
  rw [if_pos ⟨by omega, by omega, by omega⟩, Int.toNat_natCast]
theorem pow10_18 : binI .pow 10 18 = some (10 ^ 18) := pow_of (j := 18) (by decide) (by decide)
theorem pow10_15 : binI .pow 10 15 = some (10 ^ 15) := pow_of (j := 15) (by decide) (by decide)
theorem ofNat' {i : Int} (h : 0 ≤ i) : ∃ k : Nat, i = k := ⟨i.toNat, by omega⟩
section
variable {P : Nat → Option FDef} {n b : Nat} {h : Store}
def c_next : List Nat := [32]
theorem next_opt (H : Has P c_next) {s : Store} (rs : RS s) {lim : Int} (h1 : 1 ≤ lim) (h2 : lim ≤ 10 ^ 18) {rest : Store} {Q : D × Store → Prop} (hq : ∀ (r : Nat) s', RS s' → (r : Int) < lim → Q (.int r, s' ++ rest)) : opt (callI P (n + 1) 32 [.ref 1, .int lim] b (s ++ rest)) Q := by
  obtain ⟨ns, m, k, rfl, hl⟩ := rs
  refine call_of (H.f 32 rfl rfl) rfl rfl ?_
  simp [F__law_next, B__law_next, getV]
  have g0 : (Ob.lst (ns.map D.int) :: Ob.lst [D.int m, D.ref 0, D.int k] :: rest)[0]? = some (.lst (ns.map D.int)) := rfl
  have g1 : (Ob.lst (ns.map D.int) :: Ob.lst [D.int m, D.ref 0, D.int k] :: rest)[1]? = some (.lst [D.int m, D.ref 0, D.int k]) := rfl
  have t0 : ∀ x y z : D, atI [x, y, z] 0 = some x := fun _ _ _ => rfl
  have t1 : ∀ x y z : D, atI [x, y, z] 1 = some y := fun _ _ _ => rfl
  have t2 : ∀ x y z : D, atI [x, y, z] 2 = some z := fun _ _ _ => rfl
  have hmax : ∃ L : Nat, 1 ≤ L ∧ (if ((ns.map D.int).length : Int) > 1 then ((ns.map D.int).length : Int) else 1) = L ∧ (ns ≠ [] → L = ns.length) ∧ (ns = [] → L = 1) := by
    cases ns with
    | nil => exact ⟨1, by simp⟩
    | cons c cs =>
      refine ⟨(c :: cs).length, by simp, ?_, fun _ => rfl, fun h => nomatch h⟩
      simp only [List.length_map]
      split
      · rfl
      · rename_i h
        simp at h ⊢
        omega
  obtain ⟨L, hL1, hL2, hL3, hL4⟩ := hmax
  refine opt_of_eq ((ixD_ref g1 _).trans (t1 _ _ _)) ⟨le_size (by omega), ?_⟩
  refine opt_of_eq (binop_ref_lst g0 (by simp; omega)) ?_
  simp only []
  refine opt_of_eq ((ixD_ref g1 _).trans (t2 _ _ _)) ?_
  simp only [biF_int, opt_some]
  refine opt_of_eq ((ixD_ref g1 _).trans (t1 _ _ _)) ?_
  refine opt_of_eq ((Seq.ref g0).len _) ?_
  refine opt_of_eq (show biF .max2 false [D.int 1, .int ((ns.map D.int).length : Nat)] _ = some (.int L, _) by rw [← hL2]; rfl) ?_
  simp only []
  refine opt_of_eq (mod_of (by omega)) ?_
  simp only [onI_int]
  have m1 := Int.emod_nonneg (k : Int) (show (L : Int) ≠ 0 by omega)
  have m2 := Int.emod_lt_of_pos (k : Int) (show (0 : Int) < L by omega)
  obtain ⟨i, hi⟩ := ofNat' m1
  rw [hi] at m2 ⊢
  obtain ⟨c, hc, hc2⟩ : ∃ c : Int, (ns ++ [0])[i]? = some c ∧ (c ≠ 0 → i < ns.length) := by
    by_cases hn : ns = []
    · subst hn
      have := hL4 rfl
      exact ⟨0, by rw [show i = 0 by omega]; rfl, fun h => absurd rfl h⟩
    · have := hL3 hn
      exact ⟨(ns ++ [0])[i]'(by simp; omega), List.getElem?_eq_getElem _, fun _ => by omega⟩
  refine opt_of_eq (show ixD _ (D.lst (ns.map D.int ++ [D.int 0])) (i : Int) = some (.int c) from atI_nat (by
    rw [show ns.map D.int ++ [D.int 0] = (ns ++ [0]).map D.int by simp, List.getElem?_map, hc]
    rfl)) ?_
  rw [pow10_18]
  simp only [opt_some, cmpD_ge]
  by_cases hbig : (10 : Int) ^ 18 ≤ c
  · have hne : ns ≠ [] := by
      intro hn
      have := hc2 (by omega)
      rw [hn] at this
      simp at this
    have hLn := hL3 hne
    rw [if_pos (by simpa using hbig)]
    refine opt_of_eq (fdiv_of (by omega) (by omega)) ?_
    simp only []
    refine opt_of_eq ((ixD_ref g1 _).trans (t1 _ _ _)) ?_
    refine opt_of_eq ((ixD_ref g1 _).trans (t2 _ _ _)) ?_
    simp only [biF_int, opt_some]
    refine opt_of_eq ((ixD_ref g1 _).trans (t1 _ _ _)) ?_
    refine opt_of_eq ((Seq.ref g0).len _) ?_
    simp only []
    refine opt_of_eq (mod_of (by simp; omega)) ?_
    simp only [onI_int, List.length_map]
    rw [← hLn, hi]
    refine opt_of_eq (subD_ref g0 (by rw [List.length_map]; omega) (.inl rfl)) ?_
    refine opt_of_eq (mod_of (by omega)) ?_
    have r1 := Int.emod_nonneg c (show lim ≠ 0 by omega)
    have r2 := Int.emod_lt_of_pos c (show 0 < lim by omega)
    obtain ⟨r, hr⟩ := ofNat' r1
    rw [hr] at r2 ⊢
    simp only []
    simp only [froz_int, opt_some, List.set_cons_zero]
    have := hq r [.lst ((ns.set i (c / lim)).map D.int), .lst [.int m, .ref 0, .int k]] ⟨ns.set i (c / lim), m, k, rfl, by simpa using hl⟩ r2
    rw [List.map_set] at this
    simpa using this
  · rw [if_neg (by simpa using hbig)]
    refine opt_of_eq ((ixD_ref g1 _).trans (t0 _ _ _)) ?_
    simp
    refine ⟨.inr (by constructor <;> omega), .inr (by constructor <;> omega), ?_⟩
    have w1 := Int.emod_nonneg ((m : Int) * 48271 + c * 69621 + 11) (show (2147483647 : Int) ≠ 0 by omega)
    obtain ⟨m', hm'⟩ := ofNat' w1
    rw [hm']
    refine opt_of_eq (show subD _ (D.ref 1) ((0 : Nat) : Int) _ _ = _ from subD_ref g1 (by simp) (.inl rfl)) ?_
    have g2 : (Ob.lst (ns.map D.int) :: Ob.lst [D.int m', D.ref 0, D.int k] :: rest)[1]? = some (.lst [D.int m', D.ref 0, D.int k]) := rfl
    simp only [List.set_cons_succ, List.set_cons_zero]
    refine opt_of_eq ((ixD_ref g2 _).trans (t2 _ _ _)) ?_
    simp
    refine opt_of_eq (show subD _ (D.ref 1) ((2 : Nat) : Int) _ _ = _ from subD_ref g2 (by simp) (.inl rfl)) ?_
    have g3 : (Ob.lst (ns.map D.int) :: Ob.lst [D.int m', D.ref 0, D.int (k + 1)] :: rest)[1]? = some (.lst [D.int m', D.ref 0, D.int (k + 1)]) := rfl
    simp only [List.set_cons_succ, List.set_cons_zero]
    refine opt_of_eq ((ixD_ref g3 _).trans (t0 _ _ _)) ?_
    refine opt_of_eq (fdiv_of (by omega) (by omega)) ?_
    simp only []
    refine opt_of_eq (mod_of (by omega)) ?_
    have r1 := Int.emod_nonneg ((m' : Int) / 7) (show lim ≠ 0 by omega)
    have r2 := Int.emod_lt_of_pos ((m' : Int) / 7) (show 0 < lim by omega)
    obtain ⟨r, hr⟩ := ofNat' r1
    rw [hr] at r2 ⊢
    simp
    have := hq r [.lst (ns.map D.int), .lst [.int m', .ref 0, .int (k + 1 : Nat)]] ⟨ns, m', k + 1, rfl, hl⟩ r2
    simpa using this
theorem RS.len {s : Store} (rs : RS s) : s.length = 2 := by
  obtain ⟨ns, m, k, rfl, _⟩ := rs
  rfl
theorem get3 {s rest l : Store} {L : Nat} (hL : s.length + rest.length = L) (i : Nat) : (s ++ (rest ++ l))[L + i]? = l[i]? := by
  rw [List.getElem?_append_right (by omega), List.getElem?_append_right (by omega)]
  congr 1
  omega
theorem set3 {s rest l : Store} {L : Nat} (hL : s.length + rest.length = L) (i : Nat) (o : Ob) : (s ++ (rest ++ l)).set (L + i) o = s ++ (rest ++ l.set i o) := by
  rw [List.set_append_right _ _ (by omega), List.set_append_right _ _ (by omega)]
  congr 3
  omega
def c_mix : List Nat := [31]
theorem mix_ok (H : Has P c_mix) {ns : List Int} (hl : ns.length ≤ 63) (seed : Nat) : ∃ s, RS s ∧ callI P (n + 1) 31 [.lck (ns.map D.int), .int seed] b [] = some (.ref 1, s) := by
  suffices h : opt (callI P (n + 1) 31 [.lck (ns.map D.int), .int seed] b []) fun r => RS r.2 ∧ r.1 = .ref 1 by
    obtain ⟨⟨d, s⟩, e, q1, q2⟩ := h
    simp only at q1 q2
    subst q2
    exact ⟨s, q1, e⟩
  refine call_keep (H.f 31 rfl rfl) rfl rfl ?_
  simp [F__law_mix, B__law_mix, getV]
  refine fr_nx D.int (fun j e1 h1 => (∃ (m : Nat) (a3 : Option D), e1 = [some (.lck (ns.map D.int)), some (.int seed), some (.int m), a3]) ∧ h1 = []) ⟨⟨seed, _, rfl⟩, rfl⟩ (fun _ _ _ _ => live_none _) (fun j c e1 h1 hx hI => ?_) (fun e1 h1 hI => ?_)
  · obtain ⟨⟨m, a3, rfl⟩, rfl⟩ := hI
    simp [getV]
    refine ⟨.inr (by constructor <;> omega), ?_⟩
    have w1 := Int.emod_nonneg ((m : Int) * 48271 + c % 2147483629 + 1) (show (2147483647 : Int) ≠ 0 by omega)
    obtain ⟨m', hm'⟩ := ofNat' w1
    exact ⟨m', hm'⟩
  · obtain ⟨⟨m, a3, rfl⟩, rfl⟩ := hI
    simp [getV, biF]
    exact ⟨le_size (by omega), ns, m, 0, rfl, hl⟩
end
end Sp

set_option maxRecDepth 100000
set_option maxHeartbeats 1000000
/-! SpE: drawn plans and states. -/
namespace Sp
open PySem L2 Sw Bd Pm
theorem dPlan_bel (n : Nat) (p : Plan) : (dPlan p).bel n = true := by
  have h1 : ∀ x, (dEnt x).bel n = true := fun x => by cases x <;> rfl
  have h2 : ∀ r, (dRoute r).bel n = true := fun r => bels_map h1 r
  simp [dPlan, D.bel, D.bels, bels_dI]
  exact bels_map h2 _
theorem range_at {n j x : Nat} (h : (List.range n)[j]? = some x) : j < n ∧ x = j := by
  obtain ⟨h1, h2⟩ := List.getElem?_eq_some_iff.mp h
  simp at h1 h2
  exact ⟨h1, h2.symm⟩
section
variable {P : Nat → Option FDef} {n b : Nat} {h : Store}
def c_lplan : List Nat := [34, 32]
theorem lplan_opt (H : Has P c_lplan) {s : Store} (rs : RS s) {ns nc : Nat} (h1 : 1 ≤ ns) (h2 : ns ≤ 12) (h3 : 1 ≤ nc) (h4 : nc ≤ 6) {rest : Store} {Q : D × Store → Prop} (hq : ∀ (p : Plan) s', RS s' → p.Ok → p.sizes.length ≤ ns → p.routes.length ≤ nc → Q (dPlan p, s' ++ rest)) :
    opt (callI P (n + 2) 34 [.ref 1, .int ns, .int nc] b (s ++ rest)) Q := by
  have hs2 := rs.len
  refine call_of (H.f 34 rfl rfl) rfl rfl ?_
  simp [F__law_plan, B__law_plan, getV, hs2]
  refine next_opt (H.sub rfl) rs (by omega) (by omega) (fun z s1 rs1 hz => ?_)
  obtain ⟨L, hL⟩ : ∃ L, L = 2 + rest.length := ⟨_, rfl⟩
  simp [rs1.len]
  rw [← hL]
  have pos : ∀ s : Store, RS s → s.length + rest.length = L := fun s r => by rw [r.len, hL]
  refine ⟨by omega, ?_⟩
  rw [show (1 : Int) + (z : Int) = ((1 + z : Nat) : Int) by omega, rangeL_nat]
  refine fr_nx dI (fun j e1 h1 => (∃ a4, e1 = [some (.ref 1), some (.int ns), some (.int nc), some (.ref L), a4, none, none, none, none]) ∧ ∃ s', RS s' ∧ ∃ zs : List Nat, zs.length = j ∧ (∀ z ∈ zs, z ≤ 9) ∧ h1 = s' ++ (rest ++ [.lst (zs.map dI)])) ⟨⟨_, rfl⟩, s1, rs1, [], rfl, (fun _ h => nomatch h), rfl⟩ (fun _ _ _ _ => live_none _) (fun j x e1 h1 hx hI => ?_) (fun e1 h1 hI => ?_)
  · obtain ⟨⟨a4, rfl⟩, s2, rs2, zs, hzl, hz9, rfl⟩ := hI
    obtain ⟨hj, hx⟩ := range_at hx
    simp [getV]
    refine ⟨(mtTy_ref (ds := zs.map dI) (by simpa using get3 (l := [.lst (zs.map dI)]) (pos s2 rs2) 0)).1, ?_⟩
    refine next_opt (H.sub rfl) rs2 (by omega) (by omega) (fun r1 s3 rs3 hr1 => ?_)
    simp only []
    refine next_opt (H.sub rfl) rs3 (by omega) (by omega) (fun r2 s4 rs4 hr2 => ?_)
    refine ⟨le_size (by simp), ?_⟩
    simp only []
    refine next_opt (H.sub rfl) rs4 (by omega) (by omega) (fun r3 s5 rs5 hr3 => ?_)
    simp only []
    refine opt_of_eq (fdiv_of (by omega) (by omega)) ?_
    simp only [onI_int]
    have hg := get3 (l := [.lst (zs.map dI)]) (pos s5 rs5) 0
    have fin : ∀ z : Nat, z ≤ 9 → opt (mtF L .append (.ref L) [.int z] (s5 ++ (rest ++ [.lst (zs.map dI)]))) fun r => (∃ a4, [some (D.ref 1), some (.int ns), some (.int nc), some (.ref L), some (dI x), none, none, none, none] = [some (.ref 1), some (.int ns), some (.int nc), some (.ref L), a4, none, none, none, none]) ∧ ∃ s', RS s' ∧ ∃ zs : List Nat, zs.length = j + 1 ∧ (∀ z ∈ zs, z ≤ 9) ∧ r.2 = s' ++ (rest ++ [.lst (zs.map dI)]) := by
      intro z hz
      refine opt_of_eq (append_ref (ds := zs.map dI) (by simpa using hg) (by simp; omega) (.inl rfl)) ?_
      refine ⟨⟨_, rfl⟩, s5, rs5, zs ++ [z], by simp [hzl], fun y hy => ?_, ?_⟩
      · rcases List.mem_append.mp hy with h | h
        · exact hz9 y h
        · simp at h
          omega
      · have := set3 (l := [.lst (zs.map dI)]) (pos s5 rs5) 0 (.lst (zs.map dI ++ [.int z]))
        simpa [dI] using this
    have h4 : r3 / 4 = 0 ∨ r3 / 4 = 1 := by omega
    rcases h4 with h4 | h4
    · refine opt_of_eq (show ixD _ (D.lst [D.int r1, D.int r2]) ((r3 : Int) / 4) = some (.int r1) by rw [show (r3 : Int) / 4 = ((0 : Nat) : Int) by omega]; exact atI_nat rfl) ?_
      simpa [dI] using fin r1 (by omega)
    · refine opt_of_eq (show ixD _ (D.lst [D.int r1, D.int r2]) ((r3 : Int) / 4) = some (.int r2) by rw [show (r3 : Int) / 4 = ((1 : Nat) : Int) by omega]; exact atI_nat rfl) ?_
      simpa [dI] using fin r2 (by omega)
  · obtain ⟨⟨a4, rfl⟩, s2, rs2, zs, hzl, hz9, rfl⟩ := hI
    have hzl' : zs.length = 1 + z := by simpa using hzl
    simp [getV]
    refine next_opt (H.sub rfl) rs2 (by omega) (by omega) (fun c s3 rs3 hc => ?_)
    simp
    refine ⟨by omega, ?_⟩
    rw [show (1 : Int) + (c : Int) = ((1 + c : Nat) : Int) by omega, rangeL_nat, show s2.length + (rest.length + 1) = L + 1 by have := pos s2 rs2; omega]
    refine fr_nx dI (fun j e1 h1 => (∃ a6 a7 a8, e1 = [some (.ref 1), some (.int ns), some (.int nc), some (.ref L), a4, some (.ref (L + 1)), a6, a7, a8]) ∧ ∃ s', RS s' ∧ ∃ (J : Store) (qs : List (List (Option Nat))), qs.length = j ∧ (∀ r ∈ qs, 1 ≤ r.length ∧ r.length ≤ 6 ∧ ∀ x, some x ∈ r → x < zs.length) ∧ h1 = s' ++ (rest ++ (.lst (zs.map dI) :: .lst (qs.map dRoute) :: J))) ⟨⟨_, _, _, rfl⟩, s3, rs3, [], [], rfl, (fun _ h => nomatch h), rfl⟩ (fun _ _ _ _ => live_none _) (fun j x e1 h1 hx hI => ?_) (fun e1 h1 hI => ?_)
    · obtain ⟨⟨a6, a7, a8, rfl⟩, s4, rs4, J, qs, hql, hqs, rfl⟩ := hI
      obtain ⟨hj, hx⟩ := range_at hx
      simp [getV]
      refine ⟨le_size (by omega), ?_⟩
      rw [show s4.length + (rest.length + (J.length + 1 + 1)) = L + (2 + J.length) by have := pos s4 rs4; omega]
      obtain ⟨M, hM⟩ : ∃ M, M = L + (2 + J.length) := ⟨_, rfl⟩
      refine next_opt (H.sub rfl) rs4 (by omega) (by omega) (fun g s5 rs5 hg => ?_)
      simp only [onI_int]
      have six : ∃ m : Nat, 1 ≤ m ∧ m ≤ 6 ∧ ∀ hh, ixD hh (D.lst [D.int 3, D.int 6]) (g : Int) = some (.int m) := by
        have : g = 0 ∨ g = 1 := by omega
        rcases this with rfl | rfl
        · exact ⟨3, by omega, by omega, fun _ => rfl⟩
        · exact ⟨6, by omega, by omega, fun _ => rfl⟩
      obtain ⟨m, hm1, hm6, hm⟩ := six
      refine opt_of_eq (hm _) ?_
      refine next_opt (H.sub rfl) rs5 (by omega) (by omega) (fun w s6 rs6 hw => ?_)
      simp
      refine ⟨by omega, ?_⟩
      rw [← hM, show (1 : Int) + (w : Int) = ((1 + w : Nat) : Int) by omega, rangeL_nat]
      refine fr_nx dI (fun i e1 h1 => (∃ a8, e1 = [some (.ref 1), some (.int ns), some (.int nc), some (.ref L), a4, some (.ref (L + 1)), some (dI x), some (.ref M), a8]) ∧ ∃ s', RS s' ∧ ∃ r : List (Option Nat), r.length = i ∧ (∀ x, some x ∈ r → x < zs.length) ∧ h1 = s' ++ (rest ++ (.lst (zs.map dI) :: .lst (qs.map dRoute) :: (J ++ [.lst (r.map dEnt)])))) ⟨⟨_, rfl⟩, s6, rs6, [], rfl, (fun _ h => nomatch h), rfl⟩ (fun _ _ _ _ => live_none _) (fun i y e1 h1 hy hI => ?_) (fun e1 h1 hI => ?_)
      · obtain ⟨⟨a8, rfl⟩, s7, rs7, r, hrl, hr, rfl⟩ := hI
        obtain ⟨hi, hy⟩ := range_at hy
        have gM : ∀ s', RS s' → ∀ r' : List (Option Nat), (s' ++ (rest ++ (Ob.lst (zs.map dI) :: .lst (qs.map dRoute) :: (J ++ [.lst (r'.map dEnt)]))))[M]? = some (.lst (r'.map dEnt)) := fun s' hs' r' => by
          rw [hM, get3 (pos s' hs')]
          simp [show 2 + J.length = J.length + 1 + 1 by omega]
        have sM : ∀ s', RS s' → ∀ (r' : List (Option Nat)) o, (s' ++ (rest ++ (Ob.lst (zs.map dI) :: .lst (qs.map dRoute) :: (J ++ [.lst (r'.map dEnt)])))).set M o = s' ++ (rest ++ (Ob.lst (zs.map dI) :: .lst (qs.map dRoute) :: (J ++ [o]))) := fun s' hs' r' o => by
          rw [hM, set3 (pos s' hs')]
          simp [show 2 + J.length = J.length + 1 + 1 by omega]
        simp [getV]
        refine ⟨(mtTy_ref (gM s7 rs7 r)).1, ?_⟩
        refine next_opt (H.sub rfl) rs7 (by omega) (by omega) (fun u s8 rs8 hu => ?_)
        simp
        have fin : ∀ (s9 : Store), RS s9 → ∀ v : Option Nat, (∀ x, v = some x → x < zs.length) → opt (mtF L .append (.ref M) [dEnt v] (s9 ++ (rest ++ (Ob.lst (zs.map dI) :: .lst (qs.map dRoute) :: (J ++ [.lst (r.map dEnt)]))))) fun r_2 => ∃ s', RS s' ∧ ∃ r : List (Option Nat), r.length = i + 1 ∧ (∀ x, some x ∈ r → x < zs.length) ∧ r_2.2 = s' ++ (rest ++ (.lst (zs.map dI) :: .lst (qs.map dRoute) :: (J ++ [.lst (r.map dEnt)]))) := by
          intro s9 rs9 v hv
          refine opt_of_eq (append_ref (gM s9 rs9 r) (by simp; omega) (.inl (by cases v <;> rfl))) ?_
          rw [sM s9 rs9 r]
          refine ⟨s9, rs9, r ++ [v], by simp [hrl], fun x hx => ?_, by simp⟩
          rcases List.mem_append.mp hx with h | h
          · exact hr x h
          · simp at h
            exact hv x h.symm
        by_cases hu0 : u = 0
        · rw [if_pos hu0]
          exact fin s8 rs8 none (fun _ h => nomatch h)
        · rw [if_neg hu0]
          have gL := get3 (l := Ob.lst (zs.map dI) :: .lst (qs.map dRoute) :: (J ++ [.lst (r.map dEnt)])) (pos s8 rs8) 0
          refine opt_of_eq ((Seq.ref (ds := zs.map dI) (by simpa using gL)).len _) ?_
          simp only [List.length_map]
          refine next_opt (H.sub rfl) rs8 (by omega) (by omega) (fun v s9 rs9 hv => ?_)
          exact fin s9 rs9 (some v) (fun x h => by cases h; omega)
      · obtain ⟨⟨a8, rfl⟩, s7, rs7, r, hrl, hr, rfl⟩ := hI
        have hrl' : r.length = 1 + w := by simpa using hrl
        have gM : (s7 ++ (rest ++ (Ob.lst (zs.map dI) :: .lst (qs.map dRoute) :: (J ++ [.lst (r.map dEnt)]))))[M]? = some (.lst (r.map dEnt)) := by
          rw [hM, get3 (pos s7 rs7)]
          simp [show 2 + J.length = J.length + 1 + 1 by omega]
        have g1 : (s7 ++ (rest ++ (Ob.lst (zs.map dI) :: .lst (qs.map dRoute) :: (J ++ [.lst (r.map dEnt)]))))[L + 1]? = some (.lst (qs.map dRoute)) := by
          rw [get3 (pos s7 rs7)]
          rfl
        simp
        refine ⟨(mtTy_ref g1).1, ?_⟩
        refine opt_of_eq ((Seq.ref gM).tuple _) ?_
        simp only []
        refine opt_of_eq (append_ref g1 (by simp; omega) (.inr (by omega))) ?_
        rw [set3 (pos s7 rs7)]
        refine ⟨s7, rs7, J ++ [.lst (r.map dEnt)], qs ++ [r], by simp [hql], fun r' hr' => ?_, by simp [dRoute]⟩
        rcases List.mem_append.mp hr' with h | h
        · exact hqs r' h
        · simp at h
          subst h
          exact ⟨by omega, by omega, hr⟩
    · obtain ⟨⟨a6, a7, a8, rfl⟩, s4, rs4, J, qs, hql, hqs, rfl⟩ := hI
      have hql' : qs.length = 1 + c := by simpa using hql
      have g0 := get3 (l := Ob.lst (zs.map dI) :: .lst (qs.map dRoute) :: J) (pos s4 rs4) 0
      have g1 := get3 (l := Ob.lst (zs.map dI) :: .lst (qs.map dRoute) :: J) (pos s4 rs4) 1
      simp
      refine opt_of_eq ((Seq.ref (ds := zs.map dI) (by simpa using g0)).tuple _) ?_
      simp only []
      refine opt_of_eq ((Seq.ref (ds := qs.map dRoute) (by simpa using g1)).tuple _) ?_
      refine ⟨le_size (by omega), ?_⟩
      refine opt_of_eq (froz_bel (dPlan_bel _ ⟨zs, qs⟩)) ?_
      have := hq ⟨zs, qs⟩ s4 rs4 ⟨by simp; omega, by simp; omega, hz9, by simp; omega, by simp; omega, hqs⟩ (by simp; omega) (by simp; omega)
      rw [← pos s4 rs4, ← List.append_assoc, List.take_append_of_le_length (by simp), List.take_of_length_le (by simp)]
      exact this
end
end Sp

set_option maxRecDepth 100000
set_option maxHeartbeats 1000000
/-! SpF: drawn states. -/
namespace Sp
open PySem L2 Sw Bd Pm
theorem cop997 : ∀ s, s < 997 → 0 < s → Nat.gcd 997 s = 1 := by decide +kernel
def drawn (a d k : Nat) : Nat := 1 + (a + d * k) % 997
theorem drawn_inj {a d i j : Nat} (h1 : 0 < d) (h2 : d < 997) (hi : i < 997) (hj : j < 997) (h : drawn a d i = drawn a d j) : i = j := by
  have key : ∀ i j, i ≤ j → j < 997 → (a + d * i) % 997 = (a + d * j) % 997 → i = j := by
    intro i j hij hj h
    have h3 : 997 ∣ (a + d * j) - (a + d * i) := Nat.dvd_of_mod_eq_zero (Nat.sub_mod_eq_zero_of_mod_eq h.symm)
    have h4 : (a + d * j) - (a + d * i) = d * (j - i) := by rw [Nat.mul_sub]; omega
    rw [h4] at h3
    have h5 : Nat.Coprime 997 d := cop997 d h2 h1
    have h6 := h5.dvd_of_dvd_mul_left h3
    have := Nat.eq_zero_of_dvd_of_lt h6 (by omega)
    omega
  unfold drawn at h
  by_cases hij : i ≤ j
  · exact key i j hij hj (by omega)
  · exact (key j i (by omega) hi (by omega)).symm
def drawL (a d n : Nat) : List Nat := (List.range n).map (drawn a d)
theorem drawL_ok {a d n : Nat} (h1 : 0 < d) (h2 : d < 997) (hn : n ≤ 200) : (drawL a d n).length = n ∧ (drawL a d n).Nodup ∧ ∀ x ∈ drawL a d n, 1 ≤ x ∧ x ≤ 999 := by
  refine ⟨by simp [drawL], ?_, fun x hx => ?_⟩
  · unfold drawL
    rw [List.nodup_iff_pairwise_ne, List.pairwise_map]
    refine List.Pairwise.imp_of_mem ?_ List.pairwise_lt_range
    intro i j hi hj hij h
    rw [List.mem_range] at hi hj
    have := drawn_inj h1 h2 (by omega) (by omega) h
    omega
  · obtain ⟨k, _, rfl⟩ := List.mem_map.mp hx
    unfold drawn
    omega
section
variable {P : Nat → Option FDef} {n b : Nat} {h : Store}
def c_lstate : List Nat := [35, 32]
theorem lstate_opt (H : Has P c_lstate) {s : Store} (rs : RS s) {p : Plan} (o : p.Ok) {rest : Store} {Q : D × Store → Prop} (hq : ∀ (st : St) s', RS s' → st.Ok p → -50 ≤ st.time → st.time ≤ 10 ^ 15 → Q (dSt st, s' ++ rest)) :
    opt (callI P (n + 2) 35 [.ref 1, dPlan p] b (s ++ rest)) Q := by
  have hT := total_le o
  refine call_of (H.f 35 rfl rfl) rfl rfl ?_
  simp [F__law_state, B__law_state, getV]
  refine next_opt (H.sub rfl) rs (by omega) (by omega) (fun a s1 rs1 ha => ?_)
  simp only []
  refine next_opt (H.sub rfl) rs1 (by omega) (by omega) (fun d s2 rs2 hd => ?_)
  simp [getV, ixD_plan0, ixD_plan1]
  refine ⟨le_size (by omega), ?_⟩
  obtain ⟨L, hL⟩ : ∃ L, L = s.length + rest.length := ⟨_, rfl⟩
  have pos : ∀ s : Store, RS s → s.length + rest.length = L := fun s r => by rw [r.len, hL, rs.len]
  rw [← hL]
  have hsum : biF .sum false [D.tup (p.sizes.map dI)] (s2 ++ rest) = some (.int (p.sizes.sum : Nat), s2 ++ rest) := by
    simp only [biF, getS_tup, asInts_dI, Option.map_some]
    rw [sum_cast]
  refine opt_of_eq hsum ?_
  simp
  rw [show (p.routes.length : Int) + (p.sizes.sum : Int) = ((total p : Nat) : Int) by unfold total; omega, rangeL_nat]
  refine ⟨by omega, by simp [rangeL]; exact le_size (by omega), ?_⟩
  refine lc_rule dI (fun k => some (dI (drawn a (1 + d) k))) (live_none _) (fun k hk => ?_) ?_
  · simp [wipeD, getV, dI]
    rw [List.mem_range] at hk
    refine ⟨.inr (by constructor <;> omega), ?_⟩
    unfold drawn
    simp
  · simp
    rw [show (List.range (total p)).map (fun k => dI (drawn a (1 + d) k)) = (drawL a (1 + d) (total p)).map dI by simp [drawL]]
    obtain ⟨dl1, dl2, dl3⟩ := drawL_ok (a := a) (d := 1 + d) (n := total p) (by omega) (by omega) (by omega)
    generalize drawL a (1 + d) (total p) = xs at *
    refine next_opt (H.sub rfl) rs2 (by omega) (by omega) (fun t1 s3 rs3 ht1 => ?_)
    simp only []
    refine next_opt (H.sub rfl) rs3 (by omega) (by omega) (fun t2 s4 rs4 ht2 => ?_)
    simp only [binop_int, binI_sub, Option.map_some, opt_some, pow10_15]
    refine next_opt (H.sub rfl) rs4 (by omega) (by omega) (fun t3 s5 rs5 ht3 => ?_)
    simp only [binop_int, binI_sub, Option.map_some, opt_some]
    refine ⟨le_size (by omega), ?_⟩
    refine next_opt (H.sub rfl) rs5 (by omega) (by omega) (fun w s6 rs6 hw => ?_)
    simp only [onI_int]
    obtain ⟨t, ht1, ht2, ht⟩ : ∃ t : Int, -50 ≤ t ∧ t ≤ 10 ^ 15 ∧ ∀ hh, ixD hh (D.lst [D.int 0, D.int t1, D.int (0 - t2), D.int (10 ^ 15 - t3)]) (w : Int) = some (.int t) := by
      have : w = 0 ∨ w = 1 ∨ w = 2 ∨ w = 3 := by omega
      rcases this with rfl | rfl | rfl | rfl
      · exact ⟨0, by omega, by omega, fun _ => rfl⟩
      · exact ⟨t1, by omega, by omega, fun _ => rfl⟩
      · exact ⟨0 - t2, by omega, by omega, fun _ => rfl⟩
      · exact ⟨10 ^ 15 - t3, by omega, by omega, fun _ => rfl⟩
    refine opt_of_eq (ht _) ?_
    refine opt_of_eq (slD_get (getR_lst _ _) _ _) ?_
    simp only [biF_tuple_lst, opt_some]
    rw [cutD_to, ← List.map_take]
    simp [setsD, ixD_plan0]
    refine fr_nx dI (fun j e1 h1 => (∃ a9, e1 = [some (.ref 1), some (dPlan p), some (.int a), some (.int (1 + d)), some (.lst (xs.map dI)), some (.int t), some (.tup ((xs.take p.routes.length).map dI)), some (.ref L), some (.int (firstOn p j : Nat)), a9, none]) ∧ h1 = s6 ++ (rest ++ [.lst ((cutS (p.sizes.take j) (xs.drop p.routes.length)).map dShelf)])) ⟨⟨_, by simp [firstOn, pos s6 rs6]; rfl⟩, rfl⟩ (fun _ _ _ _ => live_none _) (fun j z e1 h1 hx1 hI => ?_) (fun e1 h1 hI => ?_)
    · obtain ⟨⟨a9, rfl⟩, rfl⟩ := hI
      obtain ⟨hj, hz⟩ := List.getElem?_eq_some_iff.mp hx1
      have hf := firstOn_le hj
      have e1 : p.sizes.getD j 0 = z := by simp [hx1]
      rw [e1] at hf
      have e2 : p.sizes.take (j + 1) = p.sizes.take j ++ [z] := by rw [List.take_add_one, hx1]; rfl
      have e4 : (xs.drop p.routes.length).drop (p.sizes.take j).sum = xs.drop (firstOn p j) := by rw [List.drop_drop]; rfl
      have hcl : (cutS (p.sizes.take j) (xs.drop p.routes.length)).length ≤ 12 := by
        have : ∀ zs ys, (cutS zs ys).length = zs.length := by
          intro zs
          induction zs with
          | nil => intro _; rfl
          | cons z zs ih => intro ys; simp [cutS, ih]
        rw [this, List.length_take]
        have := o.s2
        omega
      rw [e2, cutS_snoc, firstOn_succ hx1, e4]
      generalize cutS (p.sizes.take j) (xs.drop p.routes.length) = K at *
      generalize firstOn p j = f at *
      have g0 := get3 (l := [Ob.lst (K.map dShelf)]) (pos s6 rs6) 0
      simp [getV, dI]
      refine ⟨(mtTy_ref (ds := K.map dShelf) (by simpa using g0)).1, ?_⟩
      refine opt_of_eq (slD_get (getR_lst _ _) _ _) ?_
      simp only [biF_tuple_lst, opt_some]
      rw [show (f : Int) + (z : Int) = ((f + z : Nat) : Int) by omega, cutD_mid _ _ _ (by simp; omega), show f + z - f = z by omega, ← List.map_drop, ← List.map_take]
      refine opt_of_eq (append_ref (ds := K.map dShelf) (by simpa using g0) (by simp; omega) (.inr (Nat.le_refl _))) ?_
      have g1 := set3 (l := [Ob.lst (K.map dShelf)]) (pos s6 rs6) 0 (.lst (K.map dShelf ++ [D.tup (((xs.drop f).take z).map dI)]))
      simp [dShelf] at g1 ⊢
      exact g1
    · obtain ⟨⟨a9, rfl⟩, rfl⟩ := hI
      simp [getV]
      have g0 := get3 (l := [Ob.lst ((cutS p.sizes (xs.drop p.routes.length)).map dShelf)]) (pos s6 rs6) 0
      refine opt_of_eq ((Seq.ref (ds := (cutS p.sizes (xs.drop p.routes.length)).map dShelf) (by simpa using g0)).tuple _) ?_
      simp only []
      refine ⟨le_size (by omega), ?_⟩
      rw [← List.map_take]
      refine opt_of_eq (froz_bel (dSt_bel _ (stOf p t xs))) ?_
      rw [← pos s6 rs6, ← List.append_assoc, List.take_append_of_le_length (by simp), List.take_of_length_le (by simp)]
      exact hq _ s6 rs6 (stOf_ok (by omega) (by omega) dl1 dl2 dl3) ht1 ht2
end
end Sp

set_option maxRecDepth 100000
set_option maxHeartbeats 1000000
/-! SpG: the simulated world. -/
namespace Sp
open PySem L2 Sw Bd Pm
def dOb (z : List Nat) : Ob := .lst (z.map dI)
def wD (t : Int) (B m : Nat) : List (L2.Key × D) := [(.inr "time", .int t), (.inr "carried", .ref B), (.inr "shelves", .lst ((List.range m).map fun i => .ref (B + 1 + i)))]
/-- the objects of a world, from B on -/
def wObs (s : St) (B : Nat) : Store := .lst (s.carried.map dI) :: (s.shelves.map dOb ++ [.dct (wD s.time B s.shelves.length)])
section
variable {A R : Store} {s : St} {B : Nat}
theorem w_car (hA : A.length = B) : (A ++ (wObs s B ++ R))[B]? = some (.lst (s.carried.map dI)) := by
  rw [List.getElem?_append_right (by omega), hA, Nat.sub_self]
  rfl
theorem w_sh (hA : A.length = B) {i : Nat} {z : List Nat} (hi : s.shelves[i]? = some z) : (A ++ (wObs s B ++ R))[B + 1 + i]? = some (.lst (z.map dI)) := by
  have hl := (List.getElem?_eq_some_iff.mp hi).1
  rw [List.getElem?_append_right (by omega), hA, show B + 1 + i - B = i + 1 by omega, List.getElem?_append_left (by simp [wObs]; omega)]
  unfold wObs
  rw [List.getElem?_cons_succ, List.getElem?_append_left (by simpa using hl), List.getElem?_map, hi]
  rfl
theorem w_dct (hA : A.length = B) : (A ++ (wObs s B ++ R))[B + 1 + s.shelves.length]? = some (.dct (wD s.time B s.shelves.length)) := by
  rw [List.getElem?_append_right (by omega), hA, show B + 1 + s.shelves.length - B = s.shelves.length + 1 by omega, List.getElem?_append_left (by simp [wObs])]
  unfold wObs
  rw [List.getElem?_cons_succ, List.getElem?_append_right (by simp)]
  simp
theorem w_set_car (hA : A.length = B) (c : List Nat) : (A ++ (wObs s B ++ R)).set B (.lst (c.map dI)) = A ++ (wObs ⟨s.time, c, s.shelves⟩ B ++ R) := by
  rw [List.set_append_right _ _ (by omega), hA, Nat.sub_self]
  rfl
theorem w_set_sh (hA : A.length = B) {i : Nat} (hi : i < s.shelves.length) (z : List Nat) : (A ++ (wObs s B ++ R)).set (B + 1 + i) (.lst (z.map dI)) = A ++ (wObs ⟨s.time, s.carried, s.shelves.set i z⟩ B ++ R) := by
  rw [List.set_append_right _ _ (by omega), hA, show B + 1 + i - B = i + 1 by omega, List.set_append_left _ _ (by simp [wObs]; omega)]
  unfold wObs
  rw [List.set_cons_succ, List.set_append_left _ _ (by simpa using hi)]
  simp [dOb, List.map_set]
theorem w_set_dct (hA : A.length = B) (t : Int) : (A ++ (wObs s B ++ R)).set (B + 1 + s.shelves.length) (.dct (wD t B s.shelves.length)) = A ++ (wObs ⟨t, s.carried, s.shelves⟩ B ++ R) := by
  rw [List.set_append_right _ _ (by omega), hA, show B + 1 + s.shelves.length - B = s.shelves.length + 1 by omega, List.set_append_left _ _ (by simp [wObs])]
  unfold wObs
  rw [List.set_cons_succ, List.set_append_right _ _ (by simp)]
  simp
end
theorem wD_put (t t' : Int) (B m : Nat) : put (wD t B m) (.inr "time") (.int t') = wD t' B m := rfl
theorem wD_time (t : Int) (B m : Nat) : look (wD t B m) (.inr "time") = some (.int t) := rfl
theorem wD_car (t : Int) (B m : Nat) : look (wD t B m) (.inr "carried") = some (.ref B) := rfl
theorem wD_sh (t : Int) (B m : Nat) : look (wD t B m) (.inr "shelves") = some (.lst ((List.range m).map fun i => .ref (B + 1 + i))) := rfl
theorem dix_ref {h : Store} {m : Nat} {kvs : List (L2.Key × D)} (e : h[m]? = some (.dct kvs)) (x : Str) : dixD h (.ref m) (.str x) = look kvs (.inr x) := by
  simp only [dixD, getK, dKey, e]
theorem wObs_len (s : St) (B : Nat) : (wObs s B).length = s.shelves.length + 2 := by simp [wObs]
section
variable {P : Nat → Option FDef} {n b : Nat} {h : Store}
def c_begun : List Nat := [37]
theorem begun_ok (H : Has P c_begun) {s : St} (hl : s.shelves.length ≤ 12) : callI P (n + 1) 37 [dSt s] b h = some (.ref (h.length + 1 + s.shelves.length), h ++ wObs s h.length) := by
  refine opt_eq (call_keep (H.f 37 rfl rfl) rfl rfl ?_)
  simp [F__law_begun, B__law_begun, getV, ixD_st0, ixD_st1, ixD_st2]
  refine ⟨le_size (by omega), ?_⟩
  refine lc_inv (i := 0) (acc := []) dShelf (fun j a h1 => a = (List.range j).map (fun i => D.ref (h.length + 1 + i)) ∧ h1 = h ++ (.lst (s.carried.map dI) :: (s.shelves.take j).map dOb)) ⟨rfl, rfl⟩ (fun _ _ _ _ => live_none _) (fun j x a h1 hx hI => ?_) (fun a h1 hI => ?_)
  · obtain ⟨rfl, rfl⟩ := hI
    simp only [Nat.zero_add]
    have hj := (List.getElem?_eq_some_iff.mp hx).1
    simp [wipeD, getV, dShelf]
    have e1 : (s.shelves.map dOb)[j]? = some (.lst (x.map dI)) := by rw [List.getElem?_map, hx]; rfl
    rw [List.take_add_one, e1, List.range_succ]
    simp
    omega
  · obtain ⟨ha, rfl⟩ := hI
    rw [List.nil_append] at ha
    subst ha
    simp
    refine ⟨by decide +kernel, by omega, ?_⟩
    simp [wObs, wD]
end
end Sp

set_option maxRecDepth 100000
set_option maxHeartbeats 1000000
/-! SpH: a step of the simulation. -/
namespace Sp
open PySem L2 Sw Bd Pm
section
variable {h : Store} {m b : Nat} {ds : List D}
theorem popAt0 {y : D} {ys : List D} (e : h[m]? = some (.lst (y :: ys))) : mtF b .popAt (.ref m) [.int 0] h = some (y, h.set m (.lst ys)) := by
  have hm := (List.getElem?_eq_some_iff.mp e).1
  have hi : ixN (ys.length + 1) 0 = some 0 := by
    unfold ixN
    rw [if_pos (by omega), if_pos (by omega)]
    rfl
  simp only [mtF, mPopAt, e, List.length_cons, hi, List.getElem?_cons_zero]
  rw [if_pos (by constructor <;> omega)]
  unfold wr
  rw [if_pos ⟨.inl rfl, hm⟩]
  rfl
theorem dsub_put {kvs : List (L2.Key × D)} {x : Str} {d : D} (e : h[m]? = some (.dct kvs)) (hl : kvs.length < 100000) (hb : D.bels 0 [d] = true ∨ b ≤ m) : dsubD b (.ref m) (.str x) d h = some (h.set m (.dct (put kvs (.inr x) d))) := by
  have hm := (List.getElem?_eq_some_iff.mp e).1
  have hs := le_size (n := kvs.length + 1) (by omega)
  simp only [dsubD, dKey, e]
  rw [if_pos (by omega)]
  unfold wr
  rw [if_pos ⟨hb, hm⟩]
end
theorem w_new {A R : Store} {s : St} {B F : Nat} (hA : A.length = B) (hF : F = B + (s.shelves.length + 2 + R.length)) (o : Ob) : (A ++ (wObs s B ++ (R ++ [o])))[F]? = some o := by
  have h1 := wObs_len s B
  rw [List.getElem?_append_right (by omega), List.getElem?_append_right (by omega), List.getElem?_append_right (by omega), hA, h1, show F - B - (s.shelves.length + 2) - R.length = 0 by omega]
  rfl
theorem w_set_new {A R : Store} {s : St} {B F : Nat} (hA : A.length = B) (hF : F = B + (s.shelves.length + 2 + R.length)) (o o' : Ob) : (A ++ (wObs s B ++ (R ++ [o]))).set F o' = A ++ (wObs s B ++ (R ++ [o'])) := by
  have h1 := wObs_len s B
  rw [List.set_append_right _ _ (by omega), List.set_append_right _ _ (by omega), List.set_append_right _ _ (by omega), hA, h1, show F - B - (s.shelves.length + 2) - R.length = 0 by omega]
  rfl
section
variable {P : Nat → Option FDef} {n b : Nat} {h : Store}
def c_lstep : List Nat := [36]
theorem lstep_ok (H : Has P c_lstep) {p : Plan} (o : p.Ok) {s : St} (f : Fit p s) {A R : Store} {B : Nat} (hA : A.length = B) :
    callI P (n + 1) 36 [dPlan p, .ref (B + 1 + s.shelves.length)] b (A ++ (wObs s B ++ R)) = some (.lst ((nextEx p s).map dEx), A ++ (wObs (nextSt p s) B ++ R)) := by
  have hr := o.r2
  refine opt_eq (call_of (H.f 36 rfl rfl) rfl rfl ?_)
  simp [F__law_step, B__law_step, getV]
  refine opt_of_eq ((dix_ref (w_dct hA) _).trans (wD_time _ _ _)) ?_
  simp [getV]
  refine opt_of_eq (dsub_put (w_dct hA) (by simp [wD]) (.inl rfl)) ?_
  rw [wD_put, w_set_dct hA]
  simp [getV, ixD_plan1]
  refine ⟨by omega, ?_⟩
  rw [rangeL_nat, hA]
  simp only [wObs_len]
  obtain ⟨F, hF⟩ : ∃ F, F = B + (s.shelves.length + 2 + R.length) := ⟨_, rfl⟩
  rw [← hF]
  have hm := f.m
  refine fr_nx dI (fun j e1 h1 => (∃ a4 a5 a6 a7, e1 = [some (dPlan p), some (.ref (B + 1 + s.shelves.length)), some (.ref F), a4, a5, a6, a7]) ∧ ∃ W : St, W = (visTo p (s.time + 1) j).foldl stepW ⟨s.time + 1, s.carried, s.shelves⟩ ∧ h1 = A ++ (wObs W B ++ (R ++ [.lst ((exRun p (visTo p (s.time + 1) j) s.cont).map dEx)]))) ⟨⟨_, _, _, _, rfl⟩, _, rfl, rfl⟩ (fun _ _ _ _ => live_none _) (fun j x e1 h1 hx hI => ?_) (fun e1 h1 hI => ?_)
  · obtain ⟨⟨a4, a5, a6, a7, rfl⟩, W, hW, rfl⟩ := hI
    obtain ⟨hj, rfl⟩ := range_at hx
    have hr1 : p.routes[x]? = some p.routes[x] := List.getElem?_eq_getElem hj
    obtain ⟨r1, r2, r3⟩ := o.r3 _ (List.getElem_mem hj)
    generalize p.routes[x] = r at *
    obtain ⟨fW, cW, tW⟩ := stepWs (visTo p (s.time + 1) x) (fun v hv => visTo_mem o hv) (s := ⟨s.time + 1, s.carried, s.shelves⟩) ⟨f.c, f.z⟩
    rw [← hW] at fW cW tW
    rw [visTo_succ hr1]
    have hmW : W.shelves.length = s.shelves.length := by rw [fW.m, hm]
    have hlE : (exRun p (visTo p (s.time + 1) x) s.cont).length ≤ 6 := by
      rw [exRun_len]
      have := visTo_len p (s.time + 1) x
      omega
    have gd := w_dct (A := A) (s := W) (R := R ++ [.lst ((exRun p (visTo p (s.time + 1) x) s.cont).map dEx)]) hA
    rw [hmW] at gd
    simp [getV, ixD_plan1, dI]
    refine opt_of_eq (show ixD _ (D.tup (p.routes.map dRoute)) (x : Int) = some (dRoute r) from atI_nat (by rw [List.getElem?_map, hr1]; rfl)) ?_
    try simp [getV]
    refine opt_of_eq ((dix_ref gd _).trans (wD_time _ _ _)) ?_
    simp [dRoute]
    refine ⟨by omega, ?_⟩
    rw [tW]
    refine opt_of_eq (show ixD _ (D.tup (r.map dEnt)) ((s.time + 1 - 1) % (r.length : Int)) = some (dEnt (entryAt r (s.time + 1))) from atI_entry _ r1) ?_
    have hin : ∀ k, entryAt r (s.time + 1) = some k → k < p.sizes.length := by
      intro k hk
      refine (visTo_mem o (t := s.time + 1) (j := x + 1) (v := (x, k)) ?_).2
      rw [visTo_succ hr1, hk]
      simp
    generalize entryAt r (s.time + 1) = en at *
    cases en with
    | none =>
      simp [dEnt]
      rw [hW]
    | some k =>
      have hk := hin k rfl
      have hkW : k < W.shelves.length := by rw [fW.m]; exact hk
      have hxc : x < W.carried.length := by rw [fW.c]; exact hj
      simp [dEnt]
      obtain ⟨E, hE⟩ : ∃ E, E = exRun p (visTo p (s.time + 1) x) s.cont := ⟨_, rfl⟩
      have hz : W.shelves[k]? = some W.shelves[k] := List.getElem?_eq_getElem hkW
      have hFW : F = B + (W.shelves.length + 2 + R.length) := by rw [hF, hmW]
      obtain ⟨x0, q', hq⟩ : ∃ x0 q', W.shelves[k] ++ [W.carried.getD x 0] = x0 :: q' := by
        cases W.shelves[k] with
        | nil => exact ⟨_, _, rfl⟩
        | cons y ys => exact ⟨_, _, rfl⟩
      have hstep : stepW W (x, k) = ⟨W.time, W.carried.set x x0, W.shelves.set k q'⟩ := by
        unfold stepW stepQ
        simp only
        rw [List.getD_eq_getElem?_getD (l := W.shelves), hz, Option.getD_some, hq]
        rfl
      have hexr : exRun p (visTo p (s.time + 1) x ++ [(x, k)]) s.cont = E ++ [(x, k, W.carried.getD x 0, x0)] := by
        rw [exRun_snoc, ← hE]
        have c2 : (visTo p (s.time + 1) x).foldl (fun xs v => exch p v xs) s.cont = W.cont := cW.symm
        simp only [c2]
        have h5 := stepW_fit fW (v := (x, k)) hk
        rw [cont_ap fW hj, ← stepW_cont fW (v := (x, k)) hj hk, cont_ap h5 hj, hstep]
        have : (W.carried.set x x0).getD x 0 = x0 := by
          rw [List.getD_eq_getElem?_getD, List.getElem?_set_self hxc]
          rfl
        rw [this]
      rw [← hW, hexr, hstep]
      rw [← hE] at gd hlE ⊢
      clear hexr hstep cW hW hE
      have refs : ∀ hh, ixD hh (D.lst ((List.range s.shelves.length).map fun i => .ref (B + 1 + i))) (k : Int) = some (.ref (B + 1 + k)) := fun hh => atI_nat (by
        rw [List.getElem?_map, List.getElem?_range (by omega)]
        rfl)
      refine opt_of_eq ((dix_ref gd _).trans (wD_car _ _ _)) ?_
      refine opt_of_eq ((ixD_ref (w_car hA) _).trans (atI_nat (getD_dI hxc))) ?_
      refine opt_of_eq ((dix_ref gd _).trans (wD_sh _ _ _)) ?_
      refine opt_of_eq (refs _) ?_
      refine ⟨(mtTy_ref (w_sh hA hz)).1, ?_⟩
      refine opt_of_eq (append_ref (w_sh hA hz) (by
        have h9 : W.shelves[k].length ≤ 9 := by
          have h8 : p.sizes[k]? = some W.shelves[k].length := by rw [← fW.z, List.getElem?_map, hz]; rfl
          exact o.s3 _ (List.mem_of_getElem? h8)
        simp
        omega) (.inl rfl)) ?_
      rw [show W.shelves[k].map dI ++ [dI (W.carried.getD x 0)] = (x0 :: q').map dI by rw [← hq]; simp, w_set_sh hA hkW]
      have hm1 : (W.shelves.set k (x0 :: q')).length = s.shelves.length := by rw [List.length_set, hmW]
      have gd1 := w_dct (A := A) (s := ⟨W.time, W.carried, W.shelves.set k (x0 :: q')⟩) (R := R ++ [.lst (E.map dEx)]) hA
      simp only [hm1] at gd1
      have hz1 : (W.shelves.set k (x0 :: q'))[k]? = some (x0 :: q') := List.getElem?_set_self hkW
      have gs1 := w_sh (A := A) (s := ⟨W.time, W.carried, W.shelves.set k (x0 :: q')⟩) (R := R ++ [.lst (E.map dEx)]) (B := B) hA hz1
      refine opt_of_eq ((dix_ref gd1 _).trans (wD_sh _ _ _)) ?_
      refine opt_of_eq (refs _) ?_
      refine ⟨(mtTy_ref gs1).2.2.2.1, ?_⟩
      refine opt_of_eq (popAt0 gs1) ?_
      have ws1 := w_set_sh (A := A) (s := ⟨W.time, W.carried, W.shelves.set k (x0 :: q')⟩) (R := R ++ [.lst (E.map dEx)]) (B := B) hA (i := k) (by simpa using hkW) q'
      simp only [List.set_set] at ws1
      simp only []
      rw [ws1]
      have hm2 : (W.shelves.set k q').length = s.shelves.length := by rw [List.length_set, hmW]
      have gd2 := w_dct (A := A) (s := ⟨W.time, W.carried, W.shelves.set k q'⟩) (R := R ++ [.lst (E.map dEx)]) hA
      simp only [hm2] at gd2
      have gc2 := w_car (A := A) (s := ⟨W.time, W.carried, W.shelves.set k q'⟩) (R := R ++ [.lst (E.map dEx)]) hA
      refine opt_of_eq ((dix_ref gd2 _).trans (wD_car _ _ _)) ?_
      refine opt_of_eq (subD_ref gc2 (by simpa using hxc) (.inl rfl)) ?_
      have wc2 := w_set_car (A := A) (s := ⟨W.time, W.carried, W.shelves.set k q'⟩) (R := R ++ [.lst (E.map dEx)]) hA (W.carried.set x x0)
      rw [List.map_set] at wc2
      simp only []
      rw [wc2]
      have gd3 := w_dct (A := A) (s := ⟨W.time, W.carried.set x x0, W.shelves.set k q'⟩) (R := R ++ [.lst (E.map dEx)]) hA
      simp only [hm2] at gd3
      have gc3 := w_car (A := A) (s := ⟨W.time, W.carried.set x x0, W.shelves.set k q'⟩) (R := R ++ [.lst (E.map dEx)]) hA
      have gn := w_new (A := A) (s := ⟨W.time, W.carried.set x x0, W.shelves.set k q'⟩) (R := R) hA (F := F) (by simp only [hm2]; exact hF) (.lst (E.map dEx))
      refine ⟨(mtTy_ref gn).1, ?_⟩
      refine opt_of_eq ((dix_ref gd3 _).trans (wD_car _ _ _)) ?_
      refine opt_of_eq ((ixD_ref gc3 _).trans (atI_nat (d := dI x0) (by rw [List.getElem?_map, List.getElem?_set_self hxc]; rfl))) ?_
      refine ⟨le_size (by omega), ?_⟩
      refine opt_of_eq (append_ref gn (by simp; omega) (.inl rfl)) ?_
      simp only []
      rw [w_set_new hA (by simp only [hm2]; exact hF)]
      simp [dEx, dI]
  · obtain ⟨⟨a4, a5, a6, a7, rfl⟩, W, hW, rfl⟩ := hI
    rw [List.length_range, visTo_all] at hW ⊢
    rw [nextSt_steps o f] at hW
    subst hW
    have fN : Fit p (nextSt p s) := by
      rw [← nextSt_steps o f]
      exact (stepWs _ (fun v hv => visits_mem o hv) (s := ⟨s.time + 1, s.carried, s.shelves⟩) ⟨f.c, f.z⟩).1
    simp [getV]
    have hF2 : F = B + ((nextSt p s).shelves.length + 2 + R.length) := by rw [hF, fN.m, hm]
    refine opt_of_eq (froz_lst (w_new hA hF2 _) (by omega) (bels_map (fun _ => rfl) _)) ?_
    rw [← List.append_assoc, ← List.append_assoc, List.take_append_of_le_length (by simp [wObs_len]; omega), List.take_of_length_le (by simp [wObs_len]; omega), List.append_assoc]
    exact ⟨rfl, rfl⟩
end
end Sp

set_option maxRecDepth 100000
set_option maxHeartbeats 1000000
/-! SpI: the law's equality, states as seen, parcels' places. -/
namespace Sp
open PySem L2 Sw Bd Pm
mutual
/-- what the law compares: None, bools, ints, texts, tuples and lists of them -/
def dat : D → Bool
  | .non => true
  | .bl _ => true
  | .int _ => true
  | .str x => (PyData.str x).canLay0
  | .tup ds => dats ds && decide (ds.length ≤ 100000)
  | .lst ds => dats ds && decide (ds.length ≤ 100000)
  | _ => false
def dats : List D → Bool
  | [] => true
  | d :: ds => dat d && dats ds
end
theorem dats_iff : ∀ {ds : List D}, dats ds = true ↔ ∀ d ∈ ds, dat d = true
  | [] => by simp [dats]
  | d :: ds => by simp [dats, dats_iff (ds := ds)]
theorem eqD_bl (x y : Bool) (h : Store) : eqD h (.bl x) (.bl y) = some (x == y) := by
  cases x <;> cases y <;> rfl
theorem biF_isinst (ts : List String) (m : Bool) (d : D) (h : Store) : biF (.isinst ts) m [d] h = (tyD h d).map fun t => (.bl (ts.any fun T => subTy t T), h) := rfl
theorem tyD_non (h : Store) : tyD h .non = some "NoneType" := rfl
theorem tyD_bl (h : Store) (b : Bool) : tyD h (.bl b) = some "bool" := rfl
theorem tyD_int (h : Store) (b : Int) : tyD h (.int b) = some "int" := rfl
theorem tyD_str (h : Store) (b : Str) : tyD h (.str b) = some "str" := rfl
theorem tyD_tup (h : Store) (b : List D) : tyD h (.tup b) = some "tuple" := rfl
theorem tyD_lst (h : Store) (b : List D) : tyD h (.lst b) = some "list" := rfl
section
variable {P : Nat → Option FDef} {n b : Nat} {h : Store}
def c_alike : List Nat := [33]
theorem eq_bl (x y : Bool) (h : Store) : cmpD .eq (.bl x) (.bl y) h = some (x == y) := eqD_bl x y h
theorem ne_bl (x y : Bool) (h : Store) : cmpD .ne (.bl x) (.bl y) h = some (!(x == y)) := by
  show (eqD h (.bl x) (.bl y)).map (!·) = _
  rw [eqD_bl]
  rfl
theorem eq_self_nb {x : D} (hn : x.nb = true) (hd : x.dep < 12) (h : Store) : cmpD .eq x x h = some true := eqD_eq (pyOf_nb hn hd) (pyOf_nb hn hd) hn
theorem alike_leaf (H : Has P c_alike) {d : D} (hd : dat d = true) (hk : d.dep = 0) : callI P (n + 1) 33 [d, d] b h = some (.bl true, h) := by
  refine opt_eq (call_of (H.f 33 rfl rfl) rfl rfl ?_)
  cases d with
  | non =>
    simp [F__law_alike, B__law_alike, getV, biF_isinst, tyD_non, tyD_bl, tyD_int, tyD_str, tyD_tup, tyD_lst, subTy]
    refine opt_of_eq (eq_self_nb rfl (by decide) _) ⟨rfl, ?_⟩
    exact opt_of_eq (eq_bl _ _ _) rfl
  | bl x =>
    simp [F__law_alike, B__law_alike, getV, biF_isinst, tyD_non, tyD_bl, tyD_int, tyD_str, tyD_tup, tyD_lst, subTy]
    refine opt_of_eq (eq_bl _ _ _) ⟨rfl, ?_⟩
    exact opt_of_eq (eq_bl _ _ _) (by simp)
  | int i =>
    simp [F__law_alike, B__law_alike, getV, biF_isinst, tyD_non, tyD_bl, tyD_int, tyD_str, tyD_tup, tyD_lst, subTy]
    exact opt_of_eq (eq_bl _ _ _) rfl
  | str x =>
    simp [F__law_alike, B__law_alike, getV, biF_isinst, tyD_non, tyD_bl, tyD_int, tyD_str, tyD_tup, tyD_lst, subTy]
    refine opt_of_eq (eq_self_nb (x := .str x) hd (by simp [D.dep]) _) ⟨rfl, ?_⟩
    exact opt_of_eq (eq_bl _ _ _) rfl
  | tup ds => simp [D.dep] at hk
  | lst ds => simp [D.dep] at hk
  | _ => cases hd
theorem alike_ok (H : Has P c_alike) : ∀ (k : Nat) (d : D), dat d = true → d.dep ≤ k → ∀ {n b : Nat} {h : Store}, callI P (n + k + 1) 33 [d, d] b h = some (.bl true, h) := by
  intro k
  induction k with
  | zero =>
    intro d hd hk n b h
    exact alike_leaf H hd (by omega)
  | succ k ih =>
    intro d hd hk n b h
    have many : ∀ (ds : List D) (T : D), (T = .tup ds ∨ T = .lst ds) → dats ds = true → D.deps ds ≤ k → ds.length ≤ 100000 → callI P (n + k + 1 + 1) 33 [T, T] b h = some (.bl true, h) := by
      intro ds T hT h1 h2 h3
      have hle := le_size h3
      refine opt_eq (call_of (H.f 33 rfl rfl) rfl rfl ?_)
      have hT2 : ∀ hh, getS hh T = some ds := by
        rcases hT with rfl | rfl <;> (intro hh; rfl)
      have hns : ∀ z, T ≠ .str z := by
        rcases hT with rfl | rfl <;> (intro z e; cases e)
      have hix : ∀ (hh : Store) (i : Nat), (hi : i < ds.length) → ixD hh T (i : Int) = some ds[i] := by
        intro hh i hi
        have : ixD hh T (i : Int) = atI ds (i : Int) := by
          cases T with
          | str z => exact absurd rfl (hns z)
          | _ => simp only [ixD, hT2 hh]
        rw [this]
        exact atI_nat (List.getElem?_eq_getElem hi)
      have hlen : ∀ m hh, biF .len m [T] hh = some (.int ds.length, hh) := by
        rcases hT with rfl | rfl <;> (intro m hh; rfl)
      have step : ∀ (c : Cfg), c.call = callI P (n + k + 1) → c.lk = [] → opt (lcL none
          (lcB c (.name 2) (.some (.nt (.call "_law_alike" 33 (.cons (.ix (.var 0) (.var 2)) (.cons (.ix (.var 1) (.var 2)) .nil))))) (.var 2) (wipeD [some T, some T, none] [2])) ((rangeL 0 (ds.length : Int)).map D.int) h) fun p => p = ([], h) := by
        intro c hc hl
        rw [rangeL_nat]
        refine lc_rule dI (fun _ => none) (live_none h) (fun i hi => ?_) ?_
        · rw [List.mem_range] at hi
          simp [wipeD, getV, dI, hl]
          refine opt_of_eq (hix h i hi) ?_
          refine opt_of_eq (hix h i hi) ?_
          rw [hc]
          refine opt_of_eq (ih ds[i] (dats_iff.mp h1 _ (List.getElem_mem hi)) (deps_le.mp h2 _ (List.getElem_mem hi))) ?_
          simp
        · simp
      have fin : ∀ hh, cmpD .eq (.lst []) (.lst []) hh = some true := fun hh => eq_self_nb (x := .lst []) rfl (by simp [D.dep, D.deps]) hh
      have hty : ∃ t, (∀ hh, tyD hh T = some t) ∧ (t = "tuple" ∨ t = "list") := by
        rcases hT with rfl | rfl
        · exact ⟨"tuple", fun _ => rfl, .inl rfl⟩
        · exact ⟨"list", fun _ => rfl, .inr rfl⟩
      obtain ⟨t, ht, ht2⟩ := hty
      have rl : (rangeL 0 (ds.length : Int)).length = ds.length := by simp [rangeL]
      clear hT
      rcases ht2 with rfl | rfl
      · simp [F__law_alike, B__law_alike, getV, biF_isinst, ht, subTy, hlen, rl]
        refine opt_of_eq (ne_bl _ _ _) ?_
        simp
        refine ⟨by omega, hle, ?_⟩
        refine opt.imp (step _ rfl rfl) fun q hq => ?_
        subst hq
        exact opt_of_eq (fin _) ⟨rfl, by simp⟩
      · simp [F__law_alike, B__law_alike, getV, biF_isinst, ht, subTy, hlen, rl]
        refine opt_of_eq (ne_bl _ _ _) ?_
        simp
        refine ⟨by omega, hle, ?_⟩
        refine opt.imp (step _ rfl rfl) fun q hq => ?_
        subst hq
        exact opt_of_eq (fin _) ⟨rfl, by simp⟩
    cases d with
    | tup ds =>
      simp only [dat, Bool.and_eq_true, decide_eq_true_eq] at hd
      exact many ds _ (.inl rfl) hd.1 (by simp only [D.dep] at hk; omega) hd.2
    | lst ds =>
      simp only [dat, Bool.and_eq_true, decide_eq_true_eq] at hd
      exact many ds _ (.inr rfl) hd.1 (by simp only [D.dep] at hk; omega) hd.2
    | _ => exact alike_leaf H hd rfl
end
end Sp

set_option maxRecDepth 100000
set_option maxHeartbeats 1000000
/-! SpJ: states as seen, parcels' places. -/
namespace Sp
open PySem L2 Sw Bd Pm
/-- the dict from parcels to places, up to a number -/
def kvS (p : Plan) (s : St) (i : Nat) : List (L2.Key × D) := (List.range i).map fun (j : Nat) => (((.inl ((ap s.cont j : Nat) : Int)) : L2.Key), dPl (plOf p j))
def dSpots (p : Plan) (s : St) : D := .dct ((kvS p s (total p)).map (·.1)) ((kvS p s (total p)).map (·.2))
theorem kvS_succ (p : Plan) (s : St) (i : Nat) : kvS p s (i + 1) = kvS p s i ++ [(.inl ((ap s.cont i : Nat) : Int), dPl (plOf p i))] := by
  unfold kvS
  rw [List.range_succ, List.map_append]
  rfl
theorem kvS_new {p : Plan} {s : St} (q : s.Ok p) {i : Nat} (hi : i < total p) : ∀ x ∈ kvS p s i, x.1 ≠ .inl ((ap s.cont i : Nat) : Int) := by
  intro x hx e
  obtain ⟨j, hj, rfl⟩ := List.mem_map.mp hx
  rw [List.mem_range] at hj
  have hl := q.len
  simp at e
  have e2 : ap s.cont j = ap s.cont i := by omega
  have := (List.getElem?_inj (i := j) (j := i) (by omega) q.nd).mp (by rw [ap_some (by omega), ap_some (by omega), e2])
  omega
theorem cont_sh {p : Plan} {s : St} (f : Fit p s) {k i : Nat} {z : List Nat} (hz : s.shelves[k]? = some z) (hi : i < z.length) : ap s.cont (firstOn p k + i) = z.getD i 0 := by
  have hl := (List.getElem?_eq_some_iff.mp hz).1
  have hf : firstOn p k = s.carried.length + (s.shelves.take k).flatten.length := by
    unfold firstOn
    rw [← f.z, take_sum, f.c]
  have hfl : s.shelves.flatten = (s.shelves.take k).flatten ++ (z ++ (s.shelves.drop (k + 1)).flatten) := by
    conv => lhs; rw [← List.take_append_drop k s.shelves]
    rw [List.flatten_append, List.drop_eq_getElem_cons hl, List.flatten_cons, (List.getElem?_eq_some_iff.mp hz).2]
  unfold ap St.cont
  rw [hfl, hf, List.getD_eq_getElem?_getD, List.getElem?_append_right (by omega), List.getElem?_append_right (by omega), List.getElem?_append_left (by omega), List.getD_eq_getElem?_getD]
  congr 2
  omega
section
variable {P : Nat → Option FDef} {n b : Nat} {h : Store}
def c_seen : List Nat := [38]
theorem seen_ok (H : Has P c_seen) {s : St} (hm : s.shelves.length ≤ 12) {A R : Store} {B : Nat} (hA : A.length = B) :
    callI P (n + 1) 38 [.ref (B + 1 + s.shelves.length)] b (A ++ (wObs s B ++ R)) = some (dSt s, A ++ (wObs s B ++ R)) := by
  have gd := w_dct (s := s) (R := R) hA
  refine opt_eq (call_of (H.f 38 rfl rfl) rfl rfl ?_)
  simp [F__law_seen, B__law_seen, getV]
  refine opt_of_eq ((dix_ref gd _).trans (wD_time _ _ _)) ?_
  refine opt_of_eq ((dix_ref gd _).trans (wD_car _ _ _)) ?_
  refine opt_of_eq ((Seq.ref (w_car hA)).tuple _) ?_
  simp only []
  refine opt_of_eq ((dix_ref gd _).trans (wD_sh _ _ _)) ?_
  simp
  refine ⟨le_size (by omega), ?_⟩
  refine lc_rule (fun i : Nat => D.ref (B + 1 + i)) (fun i => some (dShelf (s.shelves.getD i []))) (live_none _) (fun i hi => ?_) ?_
  · rw [List.mem_range] at hi
    simp [wipeD, getV]
    have hz : s.shelves[i]? = some s.shelves[i] := List.getElem?_eq_getElem hi
    refine opt_of_eq ((Seq.ref (w_sh hA hz)).tuple _) ?_
    simp [dShelf, hz]
  · simp
    refine ⟨le_size (by omega), ?_⟩
    have e1 : (List.range s.shelves.length).map (fun i => dShelf (s.shelves[i]?.getD [])) = s.shelves.map dShelf := by
      apply List.ext_getElem (by simp)
      intro i h1 h2
      simp at h1 h2
      simp [h2]
    rw [e1]
    refine opt_of_eq (froz_bel (dSt_bel _ s)) ?_
    rw [← hA, ← List.length_append, ← List.length_append, List.take_length]
    exact ⟨rfl, rfl⟩
def c_spots : List Nat := [39]
theorem spots_ok (H : Has P c_spots) {p : Plan} (o : p.Ok) {s : St} (q : s.Ok p) : callI P (n + 1) 39 [dSt s] b h = some (dSpots p s, h) := by
  have hT := total_le o
  have hl := q.len
  have f := q.fit
  have hm := f.m
  have o2 := o.s2
  refine opt_eq (call_of (H.f 39 rfl rfl) rfl rfl ?_)
  simp [F__law_spots, B__law_spots, getV, ixD_st1]
  refine ⟨by have := q.c; have := o.r2; omega, ?_⟩
  rw [rangeL_nat]
  refine fr_nx dI (fun j e1 h1 => (∃ a3, e1 = [some (dSt s), some (.ref h.length), a3, none, none]) ∧ h1 = h ++ [.dct (kvS p s j)]) ⟨⟨_, rfl⟩, rfl⟩ (fun _ _ _ _ => live_none _) (fun j x e1 h1 hx hI => ?_) (fun e1 h1 hI => ?_)
  · obtain ⟨⟨a3, rfl⟩, rfl⟩ := hI
    obtain ⟨hj, rfl⟩ := range_at hx
    have hj2 : x < p.routes.length := by rw [← q.c]; exact hj
    have hxT : x < total p := by unfold total; omega
    simp [getV, ixD_st1, dI]
    refine ⟨le_size (by omega), ?_⟩
    refine opt_of_eq (show ixD _ (D.tup (s.carried.map dI)) (x : Int) = some (dI (ap s.cont x)) from by rw [cont_ap f hj2]; exact atI_nat (getD_dI hj)) ?_
    refine opt_of_eq (dsub_new (kvs := kvS p s x) (by simp) (by simp [kvS]; omega) (.inl rfl) (kvS_new q hxT)) ?_
    rw [kvS_succ, plOf_car hj2]
    simp [dPl]
  · obtain ⟨⟨a3, rfl⟩, rfl⟩ := hI
    rw [List.length_range, q.c]
    simp [getV, ixD_st2]
    refine ⟨by omega, ?_⟩
    rw [rangeL_nat]
    refine fr_nx dI (fun j e1 h1 => (∃ a4 a5, e1 = [some (dSt s), some (.ref h.length), a3, a4, a5]) ∧ h1 = h ++ [.dct (kvS p s (firstOn p j))]) ⟨⟨_, _, rfl⟩, by simp [firstOn]⟩ (fun _ _ _ _ => live_none _) (fun j x e1 h1 hx hI => ?_) (fun e1 h1 hI => ?_)
    · obtain ⟨⟨a4, a5, rfl⟩, rfl⟩ := hI
      obtain ⟨hj, rfl⟩ := range_at hx
      have hz : s.shelves[x]? = some s.shelves[x] := List.getElem?_eq_getElem hj
      have hsz : p.sizes[x]? = some s.shelves[x].length := by rw [← f.z, List.getElem?_map, hz]; rfl
      have hfl := firstOn_le (p := p) (s := x) (by omega)
      rw [show p.sizes.getD x 0 = s.shelves[x].length by rw [List.getD_eq_getElem?_getD, hsz]; rfl] at hfl
      have hix : ∀ hh, ixD hh (D.tup (s.shelves.map dShelf)) (x : Int) = some (dShelf s.shelves[x]) := fun hh => atI_nat (by rw [List.getElem?_map, hz]; rfl)
      rw [firstOn_succ hsz]
      generalize hzz : s.shelves[x] = z at *
      have h9 : z.length ≤ 9 := o.s3 _ (List.mem_of_getElem? hsz)
      simp [getV, ixD_st2, dI]
      refine opt_of_eq (hix _) ?_
      simp [dShelf]
      refine ⟨by omega, ?_⟩
      rw [rangeL_nat]
      refine fr_nx dI (fun i e1 h1 => (∃ a5, e1 = [some (dSt s), some (.ref h.length), a3, some (dI x), a5]) ∧ h1 = h ++ [.dct (kvS p s (firstOn p x + i))]) ⟨⟨_, rfl⟩, rfl⟩ (fun _ _ _ _ => live_none _) (fun i y e1 h1 hy hI => ?_) (fun e1 h1 hI => ?_)
      · obtain ⟨⟨a5, rfl⟩, rfl⟩ := hI
        obtain ⟨hi, rfl⟩ := range_at hy
        simp [getV, ixD_st2, dI]
        refine ⟨le_size (by omega), ?_⟩
        refine opt_of_eq (hix _) ?_
        refine opt_of_eq (show ixD _ (dShelf z) (y : Int) = some (dI (ap s.cont (firstOn p x + y))) from by rw [cont_sh f hz hi]; exact atI_nat (getD_dI hi)) ?_
        refine opt_of_eq (dsub_new (kvs := kvS p s (firstOn p x + y)) (by simp) (by simp [kvS]; omega) (.inl rfl) (kvS_new q (by omega))) ?_
        rw [← Nat.add_assoc, kvS_succ, plOf_sh (by omega) (by rw [List.getD_eq_getElem?_getD, hsz]; exact hi)]
        simp [dPl]
      · obtain ⟨⟨a5, rfl⟩, rfl⟩ := hI
        simp
    · obtain ⟨⟨a4, a5, rfl⟩, rfl⟩ := hI
      rw [List.length_range, hm]
      have e1 : firstOn p p.sizes.length = total p := by unfold firstOn total; rw [List.take_length]
      rw [e1]
      simp [getV]
      refine opt_of_eq (froz_dct (kvs := kvS p s (total p)) (by simp) (Nat.le_refl _) ?_) ?_
      · unfold kvS
        rw [List.map_map]
        exact bels_map (fun j => dPl_bel _ _) _
      · simp [dSpots]
end
end Sp

set_option maxRecDepth 100000
set_option maxHeartbeats 1000000
/-! SpK: what laws over states share. -/
namespace Sp
open PySem L2 Sw Bd Pm
theorem dats_map {α : Type} {f : α → D} {xs : List α} (hf : ∀ x ∈ xs, dat (f x) = true) : dats (xs.map f) = true := dats_iff.mpr fun d hd => by
  obtain ⟨x, hx, rfl⟩ := List.mem_map.mp hd
  exact hf x hx
theorem deps_mem {α : Type} {f : α → D} {k : Nat} {xs : List α} (hf : ∀ x ∈ xs, (f x).dep ≤ k) : D.deps (xs.map f) ≤ k := deps_le.mpr fun d hd => by
  obtain ⟨x, hx, rfl⟩ := List.mem_map.mp hd
  exact hf x hx
theorem dat_ints {xs : List Nat} (h : xs.length ≤ 100000) : dat (.tup (xs.map dI)) = true ∧ dat (.lst (xs.map dI)) = true := by
  have h1 : dats (xs.map dI) = true := dats_map fun _ _ => rfl
  constructor <;> (simp only [dat, h1, Bool.true_and, decide_eq_true_eq, List.length_map]; exact h)
theorem dat_st {p : Plan} (o : p.Ok) {s : St} (f : Fit p s) : dat (dSt s) = true := by
  have hm := f.m
  have o2 := o.s2
  have r2 := o.r2
  have h1 := (dat_ints (xs := s.carried) (by rw [f.c]; omega)).1
  have h2 : dat (.tup (s.shelves.map dShelf)) = true := by
    have : dats (s.shelves.map dShelf) = true := dats_map fun z hz => (dat_ints (by
      have : z.length ∈ p.sizes := by rw [← f.z]; exact List.mem_map_of_mem hz
      have := o.s3 _ this
      omega)).1
    simp only [dat, this, Bool.true_and, decide_eq_true_eq, List.length_map]
    omega
  have h3 : dats [.int s.time, .tup (s.carried.map dI), .tup (s.shelves.map dShelf)] = true := by
    simp only [dats, h1, h2]
    rfl
  show (dats _ && decide _) = true
  rw [h3]
  rfl
theorem dep_st (s : St) : (dSt s).dep ≤ 3 := by
  have h1 : (D.tup (s.carried.map dI)).dep ≤ 1 := by
    have := deps_dI s.carried
    simp only [D.dep]
    omega
  have h2 : D.deps (s.shelves.map dShelf) ≤ 1 := deps_map (fun z => by
    have := deps_dI z
    simp only [dShelf, D.dep]
    omega) _
  simp only [dSt, D.dep, D.deps] at *
  omega
theorem dat_exs {l : List (Nat × Nat × Nat × Nat)} (h : l.length ≤ 100000) : dat (.lst (l.map dEx)) = true := by
  have h1 : dats (l.map dEx) = true := dats_map fun _ _ => rfl
  simp only [dat, h1, Bool.true_and, decide_eq_true_eq, List.length_map]
  exact h
theorem dep_exs (l : List (Nat × Nat × Nat × Nat)) : (D.lst (l.map dEx)).dep ≤ 2 := by
  have h1 : D.deps (l.map dEx) ≤ 1 := deps_map (fun z => by simp [dEx, D.dep, D.deps]) _
  simp only [D.dep]
  omega
theorem dat_pl (x : Pl) : dat (dPl x) = true := by cases x <;> (simp [dPl, dat, dats]; kernel_rfl)
section
variable {P : Nat → Option FDef} {n b : Nat} {h : Store}
theorem alike5 (H : Has P c_alike) {d : D} (h1 : dat d = true) (h2 : d.dep ≤ 5) : callI P (n + 6) 33 [d, d] b h = some (.bl true, h) := alike_ok H 5 d h1 h2
theorem lstep2 (H : Has P c_lstep) {p : Plan} (o : p.Ok) {s : St} (f : Fit p s) {S J R : Store} {B : Nat} (hA : S.length + J.length = B) :
    callI P (n + 1) 36 [dPlan p, .ref (B + 1 + s.shelves.length)] b (S ++ (J ++ (wObs s B ++ R))) = some (.lst ((nextEx p s).map dEx), S ++ (J ++ (wObs (nextSt p s) B ++ R))) := by
  have := lstep_ok (n := n) (b := b) H o f (A := S ++ J) (R := R) (B := B) (by rw [List.length_append]; exact hA)
  rw [List.append_assoc, List.append_assoc] at this
  exact this
theorem seen2 (H : Has P c_seen) {s : St} (hm : s.shelves.length ≤ 12) {S J R : Store} {B : Nat} (hA : S.length + J.length = B) :
    callI P (n + 1) 38 [.ref (B + 1 + s.shelves.length)] b (S ++ (J ++ (wObs s B ++ R))) = some (dSt s, S ++ (J ++ (wObs s B ++ R))) := by
  have := seen_ok (n := n) (b := b) H hm (A := S ++ J) (R := R) (B := B) (by rw [List.length_append]; exact hA)
  rw [List.append_assoc] at this
  exact this
theorem zip_maps {α β γ : Type} (f : α → β) (g : α → γ) : ∀ xs : List α, (xs.map f).zip (xs.map g) = xs.map fun x => (f x, g x)
  | [] => rfl
  | x :: xs => by simp [zip_maps f g xs]
theorem getK_spots (p : Plan) (s : St) : getK h (dSpots p s) = some (kvS p s (total p)) := by
  have e : getK h (dSpots p s) = if ((kvS p s (total p)).map (·.1)).length = ((kvS p s (total p)).map (·.2)).length then some (((kvS p s (total p)).map (·.1)).zip ((kvS p s (total p)).map (·.2))) else none := rfl
  rw [e, if_pos (by simp), zip_maps]
  simp
theorem kvS_look {p : Plan} {s : St} (q : s.Ok p) {j : Nat} (hj : j < total p) : look (kvS p s (total p)) (.inl ((ap s.cont j : Nat) : Int)) = some (dPl (plOf p j)) := by
  have hl := q.len
  have key : ∀ (l : List Nat), (∀ i ∈ l, i < total p) → j ∈ l → look (l.map fun (j : Nat) => (((.inl ((ap s.cont j : Nat) : Int)) : L2.Key), dPl (plOf p j))) (.inl ((ap s.cont j : Nat) : Int)) = some (dPl (plOf p j)) := by
    intro l
    induction l with
    | nil => intro _ h; cases h
    | cons i l ih =>
      intro hi hm
      unfold look
      rw [List.map_cons, List.find?_cons]
      by_cases e : i = j
      · subst e
        simp
      · have e1 : ((Sum.inl ((ap s.cont i : Nat) : Int) : L2.Key) = Sum.inl ((ap s.cont j : Nat) : Int)) = False := by
          simp
          intro h
          have e2 : ap s.cont i = ap s.cont j := by omega
          have hi2 := hi i (by simp)
          exact e ((List.getElem?_inj (i := i) (j := j) (by omega) q.nd).mp (by rw [ap_some (by omega), ap_some (by omega), e2]))
        simp only [e1, decide_false]
        exact ih (fun i h => hi i (by simp [h])) (by
          rcases List.mem_cons.mp hm with h | h
          · exact absurd h.symm e
          · exact h)
  exact key _ (fun i h => List.mem_range.mp h) (List.mem_range.mpr hj)
theorem dix_spots {p : Plan} {s : St} (q : s.Ok p) {j : Nat} (hj : j < total p) : dixD h (dSpots p s) (dI (ap s.cont j)) = some (dPl (plOf p j)) := by
  unfold dixD
  rw [getK_spots]
  exact kvS_look q hj
theorem len_spots (p : Plan) (s : St) (m : Bool) : biF .len m [dSpots p s] h = some (.int (total p : Nat), h) := by
  have : biF .len m [dSpots p s] h = (getK h (dSpots p s)).map fun kvs => (.int kvs.length, h) := rfl
  rw [this, getK_spots]
  simp [kvS]
theorem sorted_spots {p : Plan} {s : St} (q : s.Ok p) : ∃ L : List Int, biF .sorted false [dSpots p s] h = some (.lst (L.map D.int), h) ∧ L.length = total p ∧ ∀ x ∈ L, ∃ j, j < total p ∧ x = (ap s.cont j : Nat) := by
  have e1 : biF .sorted false [dSpots p s] h = match getK h (dSpots p s) with
      | some kvs => (asInts (kvs.map fun p => kD p.1)).map fun ns => mkL false ((ns.mergeSort (fun a b => decide (a ≤ b))).map .int) h
      | none => none := rfl
  have e2 : (kvS p s (total p)).map (fun p => kD p.1) = (List.range (total p)).map fun j => D.int ((ap s.cont j : Nat) : Int) := by
    unfold kvS
    rw [List.map_map]
    rfl
  rw [getK_spots] at e1
  simp only [e2, asInts_map, Option.map_some, mkL_f] at e1
  refine ⟨_, e1, ?_, fun x hx => ?_⟩
  · rw [List.length_mergeSort]
    simp
  · rw [List.mem_mergeSort] at hx
    obtain ⟨j, hj, rfl⟩ := List.mem_map.mp hx
    exact ⟨j, List.mem_range.mp hj, rfl⟩
end
end Sp

set_option maxRecDepth 100000
set_option maxHeartbeats 1000000
/-! SpL: periods and return times. -/
namespace Sp
open PySem L2 Sw Bd Pm
section
variable {P : Nat → Option FDef} {n b : Nat} {h : Store}
def c_pattern_length : List Nat := [48, 2, 0, 1, 10, 9, 8, 7]
theorem pattern_length_ok (H : Has P c_pattern_length) {p : Plan} (o : p.Ok) : callI P (n + 4) 48 [dPlan p] b h = some (.int (patL p), h) := by
  refine opt_eq (call_of (H.f 48 rfl rfl) rfl rfl ?_)
  simp [F_pattern_length, B_pattern_length, getV]
  refine opt_of_eq (validate_plan_ok (H.sub rfl) o) ?_
  simp [getV]
  refine opt_of_eq (pattern_of_ok (H.sub rfl) o) ?_
  simp
def c_order_of : List Nat := [49, 16, 8, 7]
theorem order_of_ok (H : Has P c_order_of) {e : List Nat} {N : Nat} (p : IsP N e) (hN : N ≤ 1000) : callI P (n + 3) 49 [dEff e] b h = some (.int (ordE N e), h) := by
  have ok := cycs_ok p (Nat.le_refl N)
  refine opt_eq (call_of (H.f 49 rfl rfl) rfl rfl ?_)
  simp [F_order_of, B_order_of, getV]
  refine opt_of_eq (cycles_of_ok (H.sub rfl) p hN) ?_
  simp
  refine fr_nx dCyc (fun j e1 h1 => (∃ a2, e1 = [some (dEff e), some (.int (((cycs N e N).take j).foldl (fun r c => Nat.lcm r c.length) 1 : Nat)), a2]) ∧ h1 = h) ⟨⟨_, rfl⟩, rfl⟩ (fun _ _ _ _ => live_none _) (fun j c e1 h1 hx hI => ?_) (fun e1 h1 hI => ?_)
  · obtain ⟨⟨a2, rfl⟩, rfl⟩ := hI
    have hpos : ∀ c ∈ cycs N e N, 0 < c.length ∧ c.length ≤ N := fun c hc => by
      obtain ⟨i, _, hi, rfl⟩ := ok.orb c hc
      rw [orb_len]
      exact ⟨orbL_pos _ _ _, (orbL_spec p hi).1⟩
    have hc := hpos c (List.mem_of_getElem? hx)
    have h0 := lcm_fold_pos List.length ((cycs N e N).take j) 1 (by decide) fun c hc => (hpos c (List.mem_of_mem_take hc)).1
    simp [getV, dCyc]
    refine opt_of_eq (lcm_ok (H.sub rfl) h0 hc.1 (by omega)) ?_
    simp [List.take_add_one, hx]
  · obtain ⟨⟨a2, rfl⟩, rfl⟩ := hI
    rw [List.take_length]
    simp [getV, ordE]
def c_cycle_from : List Nat := [50, 16]
theorem cycle_from_ok (H : Has P c_cycle_from) {e : List Nat} {N : Nat} (p : IsP N e) (hN : N ≤ 1000) {s : Nat} (hs : s < N) : callI P (n + 2) 50 [dEff e, .int s] b h = some (dEff (orb N e s), h) := by
  have ok := cycs_ok p (Nat.le_refl N)
  refine opt_eq (call_of (H.f 50 rfl rfl) rfl rfl ?_)
  simp [F_cycle_from, B_cycle_from, getV]
  refine opt_of_eq (cycles_of_ok (H.sub rfl) p hN) ?_
  simp
  refine fr_ret dCyc (fun j e1 h1 => (∃ a2 a3, e1 = [some (dEff e), some (.int s), a2, a3]) ∧ h1 = h ∧ ∀ c ∈ (cycs N e N).take j, s ∉ c) ⟨⟨_, _, rfl⟩, rfl, by simp⟩ (fun _ _ _ _ => live_none _) (fun j c e1 h1 hx hI => ?_) (fun e1 h1 hI => ?_)
  · obtain ⟨⟨a2, a3, rfl⟩, rfl, hn⟩ := hI
    obtain ⟨i, _, hi, hc⟩ := ok.orb c (List.mem_of_getElem? hx)
    have hd := deps_dI c
    have hcl : c.length ≤ N := by rw [hc, orb_len]; exact (orbL_spec p hi).1
    simp [getV, dCyc]
    refine opt_inT (x := .int s) (ds := c.map dI) rfl (by show 0 < 12; omega) (nb_dI _) (by omega) (fun hm => ?_) (fun hm => ?_)
    · obtain ⟨x, hxc, hxs⟩ := List.mem_map.mp hm
      have : x = s := dI_inj _ _ hxs
      subst this
      obtain ⟨k, hk, ek⟩ := List.getElem_of_mem hxc
      have hkL : k < orbL N e i := by rw [hc, orb_len] at hk; exact hk
      have e3 : it e k i = x := by
        have := orb_get (n := N) (e := e) (i := i) hkL
        rw [← hc, List.getElem?_eq_getElem hk, ek] at this
        exact (Option.some.inj this).symm
      simp [mtTy, mtF, getT]
      refine opt_tindex (j := k) (x := .int x) rfl (by show 0 < 12; omega) (nb_dI _) (by omega) (by rw [List.getElem?_map, List.getElem?_eq_getElem hk, ek]; rfl) (fun m hm2 he => ?_) ?_
      · have hml : m < c.length := by omega
        rw [List.getElem?_map, List.getElem?_eq_getElem hml] at he
        have h5 : c[m] = x := dI_inj _ _ (Option.some.inj he)
        have hnd : c.Nodup := by rw [hc]; exact orb_nodup p hi
        have := (List.getElem?_inj (i := m) (j := k) hml hnd).mp (by rw [List.getElem?_eq_getElem hml, List.getElem?_eq_getElem hk, h5, ek])
        omega
      · simp [slD]
        rw [cutD_from, cutD_to]
        refine ⟨by simp; exact le_size (by omega), ?_⟩
        have e4 := orb_rot p hi hkL
        rw [← hc, e3] at e4
        rw [← List.map_drop, ← List.map_take, ← List.map_append, e4]
        exact opt_of_eq (froz_bel (bel_eff _ _)) (by simp [dEff])
    · simp
      intro c' hc'
      rw [List.take_add_one, hx] at hc'
      rcases List.mem_append.mp hc' with h | h
      · exact hn c' h
      · simp at h
        subst h
        exact fun hs2 => hm (List.mem_map.mpr ⟨s, hs2, rfl⟩)
  · obtain ⟨⟨a2, a3, rfl⟩, rfl, hn⟩ := hI
    rw [List.take_length] at hn
    obtain ⟨c, hc, hm⟩ := List.mem_flatten.mp (ok.all s hs)
    exact absurd hm (hn c hc)
def c_return_time : List Nat := [51, 24, 2, 0, 1, 23, 21, 25, 10, 9, 8, 7, 50, 16, 19, 18, 4, 13, 11, 12, 6, 14]
theorem return_time_ok (H : Has P c_return_time) {p : Plan} (o : p.Ok) {s : St} (q : s.Ok p) (h1 : -(2 * 10 ^ 18) ≤ s.time) (h2 : s.time ≤ 2 * 10 ^ 18) {k : Nat} (hk : k < total p) :
    callI P (n + 6) 51 [dPlan p, dSt s, dI (ap s.cont k)] b h = some (.int (patL p * orbL (total p) (eff p s.time (patL p)) k : Nat), h) := by
  have hT := total_le o
  have hL := patL_le o
  have pe := eff_isP o s.time (patL p)
  refine opt_eq (call_of (H.f 51 rfl rfl) rfl rfl ?_)
  simp [F_return_time, B_return_time, getV]
  refine opt_of_eq (validate_state_ok (H.sub rfl) o q) ?_
  simp only []
  refine opt_of_eq (spot_of_ok (H.sub rfl) o q hk) ?_
  simp [getV]
  refine opt_of_eq (pattern_of_ok (H.sub rfl) o) ?_
  simp [ixD_st0]
  refine opt_of_eq (pattern_effect_ok (H.sub rfl) o h1 h2) ?_
  simp [dI]
  refine opt_of_eq (cycle_from_ok (H.sub rfl) pe (by omega) hk) ?_
  simp [dEff, orb_len]
  exact .inl (by constructor <;> omega)
def c_period : List Nat := [52, 24, 2, 0, 1, 23, 21, 10, 9, 8, 7, 49, 16, 19, 18, 4, 13, 11, 12, 6, 14]
theorem period_ok (H : Has P c_period) {p : Plan} (o : p.Ok) {s : St} (q : s.Ok p) (h1 : -(2 * 10 ^ 18) ≤ s.time) (h2 : s.time ≤ 2 * 10 ^ 18) :
    callI P (n + 6) 52 [dPlan p, dSt s] b h = some (.int (patL p * ordE (total p) (eff p s.time (patL p)) : Nat), h) := by
  have hT := total_le o
  have hL := patL_le o
  have pe := eff_isP o s.time (patL p)
  refine opt_eq (call_of (H.f 52 rfl rfl) rfl rfl ?_)
  simp [F_period, B_period, getV]
  refine opt_of_eq (validate_state_ok (H.sub rfl) o q) ?_
  simp [getV]
  refine opt_of_eq (pattern_of_ok (H.sub rfl) o) ?_
  simp [ixD_st0]
  refine opt_of_eq (pattern_effect_ok (H.sub rfl) o h1 h2) ?_
  simp
  refine opt_of_eq (order_of_ok (H.sub rfl) pe (by omega)) ?_
  simp
  exact .inl (by constructor <;> omega)
end
end Sp

set_option maxRecDepth 100000
set_option maxHeartbeats 1000000
/-! SpN: far numbers, what is carried and shelved, compared. -/
namespace Sp
open PySem L2 Sw Bd Pm
theorem ne_same {x : D} (hn : x.nb = true) (hd : x.dep < 12) (h : Store) : cmpD .ne x x h = some false := by
  show (eqD h x x).map (!·) = _
  rw [eqD_eq (pyOf_nb hn hd) (pyOf_nb hn hd) hn]
  rfl
theorem eq_diff {x y : D} (hn : x.nb = true) (hd : x.dep < 12) (hn2 : y.nb = true) (hd2 : y.dep < 12) (ne : x ≠ y) (h : Store) : cmpD .eq x y h = some false := eqD_ne (pyOf_nb hn hd) (pyOf_nb hn2 hd2) hn hn2 ne
/-- what a state is but for its time -/
def dTail (s : St) : D := .tup [.tup (s.carried.map dI), .tup (s.shelves.map dShelf)]
theorem dTail_nb (s : St) : (dTail s).nb = true := by
  have h2 : D.nbs (s.shelves.map dShelf) = true := nbs_map (f := dShelf) (fun z => nb_dI z) _
  simp [dTail, D.nb, D.nbs, nb_dI, h2]
theorem dTail_dep (s : St) : (dTail s).dep < 12 := by
  have h1 := deps_dI s.carried
  have h2 : D.deps (s.shelves.map dShelf) ≤ 1 := deps_map (f := dShelf) (fun z => by
    have := deps_dI z
    simp only [dShelf, D.dep]
    omega) _
  simp only [dTail, D.dep, D.deps]
  omega
theorem dTail_inj {s t : St} (h : dTail s = dTail t) : s.carried = t.carried ∧ s.shelves = t.shelves := by
  have h1 := D.tup.inj h
  injection h1 with a b
  injection b with b c
  exact ⟨map_inj dI_inj (D.tup.inj a), map_inj (f := dShelf) (fun x y e => map_inj dI_inj (D.tup.inj e)) (D.tup.inj b)⟩
theorem sl_tail (m : Bool) (s : St) (h : Store) : slD m (dSt s) (some 1) none h = some (dTail s, h) := by
  show some (D.tup (cutD [.int s.time, .tup (s.carried.map dI), .tup (s.shelves.map dShelf)] (some ((1 : Nat) : Int)) none), h) = _
  rw [cutD_from]
  rfl
theorem pow10_6 : binI .pow 10 6 = some (10 ^ 6) := pow_of (j := 6) (by decide) (by decide)
theorem pow10_17 : binI .pow 10 17 = some (10 ^ 17) := pow_of (j := 17) (by decide) (by decide)
section
variable {P : Nat → Option FDef} {n b : Nat} {h : Store}
def c_far : List Nat := [53, 32]
theorem far_opt (H : Has P c_far) {s : Store} (rs : RS s) {rest : Store} {Q : D × Store → Prop} (hq : ∀ (z : Int) s', RS s' → -(5 * 10 ^ 17) ≤ z → z ≤ 5 * 10 ^ 17 → Q (.int z, s' ++ rest)) :
    opt (callI P (n + 2) 53 [.ref 1] b (s ++ rest)) Q := by
  refine call_of (H.f 53 rfl rfl) rfl rfl ?_
  simp [F__law_far, B__law_far, getV]
  rw [pow10_6, pow10_17]
  simp
  refine ⟨.inr (by constructor <;> omega), le_size (by omega), ?_⟩
  rw [← List.length_append]
  refine next_opt (H.sub rfl) rs (by omega) (by omega) (fun g s1 rs1 hg => ?_)
  simp only [onI_int]
  obtain ⟨lim, hl1, hl2, hlim⟩ : ∃ m : Int, 1 ≤ m ∧ m ≤ 5 * 10 ^ 17 ∧ ∀ hh, ixD hh (D.lst [D.int 10, D.int 1000000, D.int 500000000000000000]) (g : Int) = some (.int m) := by
    have : g = 0 ∨ g = 1 ∨ g = 2 := by omega
    rcases this with rfl | rfl | rfl
    · exact ⟨10, by omega, by omega, fun _ => rfl⟩
    · exact ⟨1000000, by omega, by omega, fun _ => rfl⟩
    · exact ⟨500000000000000000, by omega, by omega, fun _ => rfl⟩
  refine opt_of_eq (hlim _) ?_
  refine next_opt (H.sub rfl) rs1 hl1 (by omega) (fun z s2 rs2 hz => ?_)
  simp [getV]
  refine next_opt (H.sub rfl) rs2 (by omega) (by omega) (fun w s3 rs3 hw => ?_)
  simp
  refine ⟨.inl (by constructor <;> omega), .inr (by constructor <;> omega), ?_⟩
  have hl : s.length + rest.length = (s3 ++ rest).length := by rw [List.length_append, rs.len, rs3.len]
  rw [hl, List.take_length]
  refine hq _ s3 rs3 ?_ ?_
  · have : w = 0 ∨ w = 1 := by omega
    rcases this with rfl | rfl <;> simp <;> omega
  · have : w = 0 ∨ w = 1 := by omega
    rcases this with rfl | rfl <;> simp <;> omega
def c_periods_right : List Nat := [54, 32, 39, 52, 51, 48, 29, 28, 24, 2, 0, 1, 23, 21, 3, 25, 26, 22, 50, 49, 20, 19, 10, 9, 8, 7, 18, 4, 13, 11, 12, 6, 14, 17, 16, 15]
theorem periods_right_opt (H : Has P c_periods_right) {p : Plan} (o : p.Ok) {st : St} (q : st.Ok p) (t1 : -50 ≤ st.time) (t2 : st.time ≤ 10 ^ 15) {k : Nat} (hk : k < total p) {s : Store} (rs : RS s) {rest : Store} {Q : D × Store → Prop} (hq : ∀ s', RS s' → Q (.bl true, s' ++ rest)) :
    opt (callI P (n + 10) 54 [.ref 1, dPlan p, dSt st, dI (ap st.cont k)] b (s ++ rest)) Q := by
  have hT := total_le o
  have hL := patL_le o
  have hL1 := patL_pos o
  have pe := eff_isP o st.time (patL p)
  have hper := patL_per o
  have hord := ordE_pos pe
  have horb := orbL_pos (total p) (eff p st.time (patL p)) k
  have hle := (orbL_spec pe hk).1
  have hdv := orbL_dvd pe hk
  refine call_of (H.f 54 rfl rfl) rfl rfl ?_
  simp [F__law_periods_right, B__law_periods_right, getV]
  refine opt_of_eq (spots_ok (H.sub rfl) o q) ?_
  simp [getV]
  refine opt_of_eq (period_ok (H.sub rfl) o q (by omega) (by omega)) ?_
  simp only []
  refine opt_of_eq (return_time_ok (H.sub rfl) o q (by omega) (by omega) hk) ?_
  simp only []
  refine opt_of_eq (pattern_length_ok (H.sub rfl) o) ?_
  simp [setsD]
  have i1 : ∀ (i : Int) (hh : Store), biF (.isinst ["int"]) false [D.int i] hh = some (.bl true, hh) := fun _ _ => rfl
  refine opt_of_eq (i1 _ _) ?_
  have mz : ((patL p : Nat) : Int) * ((ordE (total p) (eff p st.time (patL p)) : Nat) : Int) % (((patL p : Nat) : Int) * ((orbL (total p) (eff p st.time (patL p)) k : Nat) : Int)) = 0 := by
    apply Int.emod_eq_zero_of_dvd
    exact Int.mul_dvd_mul_left _ (Int.natCast_dvd_natCast.mpr hdv)
  have fixk : ∀ z : Int, ap (effI p st.time ((patL p : Nat) * z)) k = k ↔ orbL (total p) (eff p st.time (patL p)) k ∣ z.natAbs := fun z => by
    rw [effI_pat o hper]
    exact pwI_fix pe hk
  have fixa : ∀ z : Int, effI p st.time ((patL p : Nat) * z) = ids (total p) ↔ ordE (total p) (eff p st.time (patL p)) ∣ z.natAbs := fun z => by
    rw [effI_pat o hper]
    exact pwI_ids pe
  generalize orbL (total p) (eff p st.time (patL p)) k = O at *
  generalize hE : ordE (total p) (eff p st.time (patL p)) = E at *
  generalize patL p = L at *
  have hLO : 0 < (L : Int) * (O : Int) := Int.mul_pos (by omega) (by omega)
  have hLOs : (L : Int) * (O : Int) ≤ 60 * 114 := Int.mul_le_mul (by omega) (by omega) (by omega) (by omega)
  simp [mz, hLO]
  refine ⟨by omega, ?_⟩
  rw [← List.length_append]
  have hlen : ∀ s' : Store, RS s' → (s ++ rest).length = (s' ++ rest).length := fun s' r => by rw [List.length_append, List.length_append, rs.len, r.len]
  generalize (s ++ rest).length = bb at *
  refine next_opt (H.sub rfl) rs (by omega) (by omega) (fun r1 s1 rs1 hr1 => ?_)
  simp only [binop_int, binI_add, Option.map_some, opt_some]
  refine next_opt (H.sub rfl) rs1 (by omega) (by omega) (fun r2 s2 rs2 hr2 => ?_)
  simp only [binop_int, binI_sub, Option.map_some, opt_some]
  refine ⟨le_size (by omega), ?_⟩
  rw [show [D.int 1, D.int (-2), D.int (1 + r1), D.int (-1 - r2)] = [1, -2, 1 + (r1 : Int), -1 - (r2 : Int)].map D.int from rfl]
  refine fr_ret D.int (fun j e1 h1 => (∃ a8 a9 a10, e1 = [some (.ref 1), some (dPlan p), some (dSt st), some (dI (ap st.cont k)), some (dSpots p st), some (.int ((L : Int) * E)), some (.int ((L : Int) * O)), some (.int L), a8, a9, a10]) ∧ h1 = s2 ++ rest) ⟨⟨_, _, _, rfl⟩, rfl⟩ (fun _ _ _ _ => live_none _) (fun j z e1 h1 hz hI => ?_) (fun e1 h1 hI => ?_)
  · obtain ⟨⟨a8, a9, a10, rfl⟩, rfl⟩ := hI
    have hzb : -1001 ≤ z ∧ z ≤ 1001 := by
      have := List.mem_of_getElem? hz
      simp at this
      rcases this with rfl | rfl | rfl | rfl <;> omega
    have hc : z * ((L : Int) * O) = (L : Int) * (z * O) := Int.mul_left_comm z L O
    have hcb : -(10 ^ 8) ≤ z * ((L : Int) * O) ∧ z * ((L : Int) * O) ≤ 10 ^ 8 := by
      have h1 : z * ((L : Int) * O) ≤ 1001 * ((L : Int) * O) := Int.mul_le_mul_of_nonneg_right hzb.2 (by omega)
      have h2 : -1001 * ((L : Int) * O) ≤ z * ((L : Int) * O) := Int.mul_le_mul_of_nonneg_right hzb.1 (by omega)
      omega
    simp [getV]
    refine ⟨.inl (by constructor <;> omega), ?_⟩
    refine opt_of_eq (locate_ok (H.sub rfl) o q (by omega) (by omega) (by omega) (by omega) (by omega) hk) ?_
    rw [hc, (fixk (z * O)).mpr (by rw [Int.natAbs_mul, Int.natAbs_natCast]; exact Nat.dvd_mul_left _ _)]
    simp only []
    refine opt_of_eq (dix_spots q hk) ?_
    refine opt_of_eq (ne_same (dPl_nb _) (by have := dPl_dep (plOf p k); omega) _) ?_
    simp [getV]
    refine ⟨.inl (by constructor <;> omega), ?_⟩
    have habs : ∀ (i : Int) (hh : Store), biF .abs false [D.int i] hh = some (.int (i.natAbs : Int), hh) := fun i hh => by
      show some (D.int (if i < 0 then -i else i), hh) = _
      split <;> (congr 3; omega)
    refine opt_of_eq (habs _ _) ?_
    rw [pow10_18]
    simp
    intro hb
    refine ⟨.inl (by constructor <;> omega), ?_⟩
    refine opt_of_eq (advance_ok (c := z * ((L : Int) * E)) (H.sub rfl) o q (by omega) (by omega) (by omega) (by omega) (by omega)) ?_
    simp only []
    refine opt_of_eq (sl_tail _ _ _) ?_
    simp only []
    refine opt_of_eq (sl_tail _ _ _) ?_
    have hce : z * ((L : Int) * E) = (L : Int) * (z * E) := Int.mul_left_comm z L E
    have hids := (fixa (z * E)).mpr (by rw [Int.natAbs_mul, Int.natAbs_natCast]; exact Nat.dvd_mul_left _ _)
    rw [← hce] at hids
    obtain ⟨f1, f2⟩ := adv_fix o q hids
    rw [show dTail (adv p st (z * ((L : Int) * E))) = dTail st by unfold dTail; rw [f1, f2]]
    refine opt_of_eq (ne_same (dTail_nb _) (dTail_dep _) _) ?_
    simp
  · obtain ⟨⟨a8, a9, a10, rfl⟩, rfl⟩ := hI
    have hdivO : (L : Int) * O / L = O := Int.mul_ediv_cancel_left _ (by omega)
    have hdivE : (L : Int) * E / L = E := Int.mul_ediv_cancel_left _ (by omega)
    have hlog : ∀ x : Nat, x ≤ 100 → x.log2 < 9000 := fun x hx => by
      by_cases h0 : x = 0
      · subst h0
        decide
      · have : x.log2 < 100 := (Nat.log2_lt h0).mpr (by omega)
        omega
    simp [getV]
    refine ⟨⟨by omega, hlog _ (by omega)⟩, ?_⟩
    rw [hdivO]
    obtain ⟨M, hM, hM1, hM2⟩ : ∃ M : Nat, (∀ hh, biF .min2 false [D.int 40, D.int (O : Int)] hh = some (.int M, hh)) ∧ M ≤ O ∧ M ≤ 40 := by
      refine ⟨if O < 40 then O else 40, fun hh => ?_, by split <;> omega, by split <;> omega⟩
      show some (D.int (if (O : Int) < 40 then (O : Int) else 40), hh) = _
      split <;> rename_i h1 <;> split <;> rename_i h2 <;> first | rfl | omega
    refine opt_of_eq (hM _) ?_
    simp
    refine ⟨by constructor <;> omega, ?_⟩
    have e0 : (rangeL 1 (M : Int)).map D.int = (List.range' 1 (M - 1)).map dI := by
      simp [rangeL, dI, List.range'_eq_map_range, Function.comp_def]
    rw [e0]
    refine fr_ret dI (fun j e1 h1 => (∃ a8 a9 a10, e1 = [some (.ref 1), some (dPlan p), some (dSt st), some (dI (ap st.cont k)), some (dSpots p st), some (.int ((L : Int) * E)), some (.int ((L : Int) * O)), some (.int L), a8, a9, a10]) ∧ h1 = s2 ++ rest) ⟨⟨_, _, _, rfl⟩, rfl⟩ (fun _ _ _ _ => live_none _) (fun j z e1 h1 hz hI => ?_) (fun e1 h1 hI => ?_)
    · obtain ⟨⟨a8, a9, a10, rfl⟩, rfl⟩ := hI
      have hzr := List.mem_range'_1.mp (List.mem_of_getElem? hz)
      have hzb : (z : Int) * L ≤ 40 * 60 := Int.mul_le_mul (by omega) (by omega) (by omega) (by omega)
      have hz0 : 0 ≤ (z : Int) * L := Int.mul_nonneg (by omega) (by omega)
      simp [getV, dI]
      refine ⟨.inl (by constructor <;> omega), ?_⟩
      refine opt_of_eq (locate_ok (H.sub rfl) o q (by omega) (by omega) (by omega) (by omega) (by omega) hk) ?_
      simp only []
      refine opt_of_eq (dix_spots q hk) ?_
      have hne : ap (effI p st.time ((z : Int) * L)) k ≠ k := by
        rw [Int.mul_comm]
        intro he
        have := (fixk (z : Int)).mp he
        rw [Int.natAbs_natCast] at this
        have := Nat.le_of_dvd (by omega) this
        omega
      have hlt := (effI_isP o st.time ((z : Int) * L)).ap_lt hk
      refine opt_of_eq (eq_diff (dPl_nb _) (by have := dPl_dep (plOf p (ap (effI p st.time ((z : Int) * L)) k)); omega) (dPl_nb _) (by have := dPl_dep (plOf p k); omega) (fun he => hne (plOf_inj hlt hk (dPl_inj _ _ he))) _) ?_
      simp
    · obtain ⟨⟨a8, a9, a10, rfl⟩, rfl⟩ := hI
      simp
      refine ⟨le_size (by omega), ?_⟩
      rw [show [D.int 2, D.int 3, D.int 5, D.int 7] = [2, 3, 5, 7].map dI from rfl]
      refine fr_ret dI (fun j e1 h1 => (∃ a8 a9 a10, e1 = [some (.ref 1), some (dPlan p), some (dSt st), some (dI (ap st.cont k)), some (dSpots p st), some (.int ((L : Int) * E)), some (.int ((L : Int) * O)), some (.int L), a8, a9, a10]) ∧ h1 = s2 ++ rest) ⟨⟨_, _, _, rfl⟩, rfl⟩ (fun _ _ _ _ => live_none _) (fun j z e1 h1 hz hI => ?_) (fun e1 h1 hI => ?_)
      · obtain ⟨⟨a8, a9, a10, rfl⟩, rfl⟩ := hI
        have hzb : 2 ≤ z ∧ z ≤ 7 := by
          have := List.mem_of_getElem? hz
          simp at this
          rcases this with rfl | rfl | rfl | rfl <;> omega
        simp [getV, dI]
        refine ⟨⟨by omega, hlog _ (by omega)⟩, ?_⟩
        rw [hdivE]
        refine ⟨⟨by omega, hlog _ (by omega)⟩, .inr (by constructor <;> omega), fun hpos => ?_⟩
        rw [pow10_18]
        simp
        intro hb
        refine ⟨.inr (by constructor <;> omega), fun hw => ?_⟩
        have hce : (E : Int) / z * L = (L : Int) * (E / z : Nat) := by rw [Int.natCast_ediv, Int.mul_comm]
        refine opt_of_eq (advance_ok (c := (E : Int) / z * L) (H.sub rfl) o q (by omega) (by omega) (by omega) (by omega) (by omega)) ?_
        simp only []
        refine opt_of_eq (sl_tail _ _ _) ?_
        simp only []
        refine opt_of_eq (sl_tail _ _ _) ?_
        have hm0 : 0 < E / z := by
          apply Nat.pos_of_ne_zero
          intro h0
          rw [hce, h0] at hpos
          simp at hpos
        have hmE : E / z < E := Nat.div_lt_self hord (by omega)
        have hne : dTail (adv p st ((E : Int) / z * L)) ≠ dTail st := by
          intro he
          obtain ⟨f1, f2⟩ := dTail_inj he
          have h5 := adv_same o q f1 f2
          rw [hce] at h5
          have h6 := (fixa _).mp h5
          rw [Int.natAbs_natCast] at h6
          have := Nat.le_of_dvd hm0 h6
          omega
        refine opt_of_eq (eq_diff (dTail_nb _) (dTail_dep _) (dTail_nb _) (dTail_dep _) hne _) ?_
        simp
      · obtain ⟨⟨a8, a9, a10, rfl⟩, rfl⟩ := hI
        simp
        rw [hlen s2 rs2, List.take_length]
        exact hq s2 rs2
end
end Sp

/-! Pq: on which shelf a parcel is left, tick by tick. -/
namespace Sp
open Pm
/-- the shelf on which what is at a place is left in a tick -/
def visAt (p : Plan) (u : Int) (pos : Nat) : Option Nat := ((visits p u).find? fun v => decide (v.1 = pos)).map (·.2)
/-- the shelf on which the parcel from place x is left in the tick k + 1 -/
def lt (p : Plan) (t : Int) (x k : Nat) : Option Nat := visAt p (t + k + 1) (ap (eff p t k) x)
theorem lt_add {p : Plan} (o : p.Ok) (t : Int) {x : Nat} (hx : x < total p) (a b : Nat) : lt p t x (a + b) = lt p (t + a) (ap (eff p t a) x) b := by
  unfold lt
  rw [eff_add o, comp_ap (by rw [(eff_isP o t a).len]; exact hx)]
  congr 1
  omega
theorem lt_per {p : Plan} {L : Nat} (h : Periodic p L) (t : Int) (x k : Nat) : lt p (t + L) x k = lt p t x k := by
  unfold lt visAt
  rw [eff_per h, show t + (L : Int) + k + 1 = t + k + 1 + L by omega, h]
theorem lt_pers {p : Plan} (o : p.Ok) {L : Nat} (h : Periodic p L) (t : Int) {x : Nat} (hx : x < total p) (k : Nat) : ∀ j, lt p t x (L * j + k) = lt p t (it (eff p t L) j x) k
  | 0 => by simp [it]
  | j + 1 => by
    rw [show L * (j + 1) + k = L + (L * j + k) by rw [Nat.mul_add]; omega, lt_add o t hx, lt_per h, lt_pers o h t ((eff_isP o t L).ap_lt hx) k j]
    congr 1
    rw [show j + 1 = 1 + j by omega, it_add]
    rfl
/-- the ways repeat -/
theorem lt_orb {p : Plan} (o : p.Ok) {L : Nat} (h : Periodic p L) (t : Int) {x : Nat} (hx : x < total p) (k : Nat) : lt p t x (L * orbL (total p) (eff p t L) x + k) = lt p t x k := by
  rw [lt_pers o h t hx, (orbL_spec (eff_isP o t L) hx).2.1]
/-- carriers act in ascending order -/
theorem visits_sorted (p : Plan) (u : Int) : (visits p u).Pairwise fun v w => v.1 < w.1 := by
  unfold visits
  rw [List.pairwise_filterMap]
  have : p.routes.zipIdx.Pairwise fun a b => a.2 < b.2 := by
    rw [List.pairwise_iff_getElem]
    intro i j hi hj hij
    simp
    exact hij
  refine this.imp fun {a b} hab v hv w hw => ?_
  obtain ⟨s, _, rfl⟩ := Option.map_eq_some_iff.mp (show (entryAt a.1 u).map (fun s => (a.2, s)) = some v from hv)
  obtain ⟨s', _, rfl⟩ := Option.map_eq_some_iff.mp (show (entryAt b.1 u).map (fun s => (b.2, s)) = some w from hw)
  exact hab
theorem visAt_some {p : Plan} {u : Int} {pos k : Nat} : visAt p u pos = some k ↔ (pos, k) ∈ visits p u := by
  unfold visAt
  have hs := visits_sorted p u
  generalize visits p u = vs at *
  induction vs with
  | nil => simp
  | cons v vs ih =>
    rw [List.pairwise_cons] at hs
    rw [List.find?_cons, List.mem_cons]
    by_cases e : v.1 = pos
    · simp only [e, decide_true, Option.map_some, Option.some.injEq]
      constructor
      · intro h
        left
        rw [← h, ← e]
      · rintro (h | h)
        · rw [← h]
        · have := hs.1 _ h
          simp at this
          omega
    · simp only [e, decide_false]
      refine Iff.trans (ih hs.2) ?_
      constructor
      · exact .inr
      · rintro (h | h)
        · exact absurd (congrArg Prod.fst h).symm e
        · exact h
/-- an exchange leaves what other carriers carry -/
theorem exch_other {p : Plan} {v : Nat × Nat} {xs : List Nat} (hl : xs.length = total p) (hs : v.2 < p.sizes.length) {c : Nat} (hc : c < p.routes.length) (hne : c ≠ v.1) : ap (exch p v xs) c = ap xs c := by
  have hf := firstOn_le hs
  have hcf : c < firstOn p v.2 := by unfold firstOn; omega
  unfold exch
  generalize p.sizes.getD v.2 0 = sz at *
  generalize firstOn p v.2 = f at *
  split
  · rfl
  · unfold ap
    rw [List.getD_eq_getElem?_getD, List.getElem?_set_ne (Ne.symm hne), List.getElem?_append_left (by rw [List.length_append, List.length_take]; omega), List.getElem?_append_left (by rw [List.length_take]; omega), List.getElem?_take, if_pos hcf, List.getD_eq_getElem?_getD]
theorem fold_other {p : Plan} : ∀ (vs : List (Nat × Nat)) {xs : List Nat}, xs.length = total p → (∀ v ∈ vs, v.2 < p.sizes.length) → ∀ {c : Nat}, c < p.routes.length → (∀ v ∈ vs, c ≠ v.1) → ap (vs.foldl (fun xs v => exch p v xs) xs) c = ap xs c
  | [], _, _, _, _, _, _ => rfl
  | v :: vs, xs, hl, hs, c, hc, hn => by
    rw [List.foldl_cons, fold_other vs (exch_len hl (hs v (by simp))) (fun w hw => hs w (by simp [hw])) hc (fun w hw => hn w (by simp [hw])), exch_other hl (hs v (by simp)) hc (hn v (by simp))]
/-- what a carrier leaves is what it carried when the tick began -/
theorem take_other {p : Plan} (o : p.Ok) {u : Int} {j : Nat} {v : Nat × Nat} (hv : (visits p u)[j]? = some v) {xs : List Nat} (hl : xs.length = total p) : ap (((visits p u).take j).foldl (fun xs v => exch p v xs) xs) v.1 = ap xs v.1 := by
  refine fold_other _ hl (fun w hw => (visits_mem o (List.mem_of_mem_take hw)).2) (visits_mem o (List.mem_of_getElem? hv)).1 (fun w hw he => ?_)
  have hs := visits_sorted p u
  rw [List.pairwise_iff_getElem] at hs
  obtain ⟨i, hi, e⟩ := List.getElem_of_mem hw
  rw [List.length_take] at hi
  obtain ⟨hj, ej⟩ := List.getElem?_eq_some_iff.mp hv
  have := hs i j (by omega) hj (by omega)
  rw [List.getElem_take] at e
  rw [e, ej] at this
  omega
/-- the first time (from 1 on) that a parcel is left on a shelf, within a number of ticks -/
def firstLt (p : Plan) (t : Int) (s x n : Nat) : Option Nat := ((List.range n).find? fun k => decide (lt p t x k = some s)).map (· + 1)
theorem firstLt_some {p : Plan} {t : Int} {s x n k : Nat} : firstLt p t s x n = some k ↔ 1 ≤ k ∧ k ≤ n ∧ lt p t x (k - 1) = some s ∧ ∀ i, i < k - 1 → lt p t x i ≠ some s := by
  unfold firstLt
  constructor
  · intro h
    obtain ⟨j, hj, rfl⟩ := Option.map_eq_some_iff.mp h
    have h1 := List.find?_some hj
    rw [List.find?_range_eq_some] at hj
    obtain ⟨h2, h3, h4⟩ := hj
    simp at h1 h3
    refine ⟨by omega, by omega, by simpa using h1, fun i hi => ?_⟩
    have := h4 i (by omega)
    simpa using this
  · rintro ⟨h1, h2, h3, h4⟩
    refine Option.map_eq_some_iff.mpr ⟨k - 1, ?_, by omega⟩
    rw [List.find?_range_eq_some]
    exact ⟨by simpa using h3, by simp; omega, fun j hj => by simpa using h4 j hj⟩
end Sp

set_option maxRecDepth 100000
set_option maxHeartbeats 1000000
/-! SpO: the steps of a pattern. -/
namespace Sp
open PySem L2 Sw Bd Pm
def dStep (p : Plan) (t : Int) (x i : Nat) : D := .tup [dEnt (lt p t x i), dI (ap (eff p t (i + 1)) x)]
def stepsD (p : Plan) (t : Int) (x j : Nat) : List D := (List.range j).map (dStep p t x)
theorem stepsD_succ (p : Plan) (t : Int) (x j : Nat) : stepsD p t x (j + 1) = stepsD p t x j ++ [dStep p t x j] := by
  unfold stepsD
  rw [List.range_succ, List.map_append]
  rfl
def lObs (N : Nat) (G : Nat → List D) : Store := (List.range N).map fun x => Ob.lst (G x)
section
variable {h J : Store} {o : Ob} {N : Nat} {G : Nat → List D}
theorem lObs_len : (lObs N G).length = N := by simp [lObs]
theorem l_get {x : Nat} (hx : x < N) : (h ++ (o :: (lObs N G ++ J)))[h.length + 1 + x]? = some (.lst (G x)) := by
  rw [List.getElem?_append_right (by omega), show h.length + 1 + x - h.length = x + 1 by omega, List.getElem?_cons_succ, List.getElem?_append_left (by rw [lObs_len]; exact hx)]
  unfold lObs
  rw [List.getElem?_map, List.getElem?_range hx]
  rfl
theorem l_set {x : Nat} (hx : x < N) (ds : List D) : (h ++ (o :: (lObs N G ++ J))).set (h.length + 1 + x) (.lst ds) = h ++ (o :: (lObs N (fun y => if y = x then ds else G y) ++ J)) := by
  rw [List.set_append_right _ _ (by omega), show h.length + 1 + x - h.length = x + 1 by omega, List.set_cons_succ, List.set_append_left _ _ (by rw [lObs_len]; exact hx)]
  congr 3
  unfold lObs
  apply List.ext_getElem?
  intro i
  by_cases hi : i = x
  · subst hi
    rw [List.getElem?_set_self (by simpa using hx), List.getElem?_map, List.getElem?_range hx]
    simp
  · rw [List.getElem?_set_ne (Ne.symm hi), List.getElem?_map, List.getElem?_map]
    by_cases hl : i < N
    · rw [List.getElem?_range hl]
      simp [hi]
    · rw [List.getElem?_eq_none (by simpa using hl)]
      rfl
theorem l_new (x : Ob) : (h ++ (o :: (lObs N G ++ (J ++ [x]))))[h.length + (1 + (N + J.length))]? = some x := by
  rw [List.getElem?_append_right (by omega), show h.length + (1 + (N + J.length)) - h.length = (N + J.length) + 1 by omega, List.getElem?_cons_succ, List.getElem?_append_right (by rw [lObs_len]; omega), List.getElem?_append_right (by rw [lObs_len]; omega), lObs_len, show N + J.length - N - J.length = 0 by omega]
  rfl
theorem l_set_new (x y : Ob) : (h ++ (o :: (lObs N G ++ (J ++ [x])))).set (h.length + (1 + (N + J.length))) y = h ++ (o :: (lObs N G ++ (J ++ [y]))) := by
  rw [List.set_append_right _ _ (by omega), show h.length + (1 + (N + J.length)) - h.length = (N + J.length) + 1 by omega, List.set_cons_succ, List.set_append_right _ _ (by rw [lObs_len]; omega), List.set_append_right _ _ (by rw [lObs_len]; omega), lObs_len, show N + J.length - N - J.length = 0 by omega]
  rfl
end
def kvL (xs : List Nat) (vs : List (Nat × Nat)) : List (L2.Key × D) := vs.map fun v => (((.inl ((ap xs v.1 : Nat) : Int)) : L2.Key), D.int v.2)
theorem kvL_look {p : Plan} (o : p.Ok) {u : Int} {xs : List Nat} (q : IsP (total p) xs) {pos : Nat} (hp : pos < total p) : (look (kvL xs (visits p u)) (.inl ((ap xs pos : Nat) : Int))).getD .non = dEnt (visAt p u pos) := by
  have key : ∀ vs : List (Nat × Nat), (∀ v ∈ vs, v.1 < total p) → (look (kvL xs vs) (.inl ((ap xs pos : Nat) : Int))).getD .non = dEnt ((vs.find? fun v => decide (v.1 = pos)).map (·.2)) := by
    intro vs
    induction vs with
    | nil => intro _; rfl
    | cons v vs ih =>
      intro hv
      have ih := ih fun w hw => hv w (by simp [hw])
      unfold kvL look at ih ⊢
      rw [List.map_cons, List.find?_cons, List.find?_cons]
      by_cases e : v.1 = pos
      · simp [e, dEnt]
      · have e1 : ((Sum.inl ((ap xs v.1 : Nat) : Int) : L2.Key) = Sum.inl ((ap xs pos : Nat) : Int)) = False := by
          simp
          intro hh
          exact e (q.inj (hv v (by simp)) hp (by omega))
        simp only [e1, e, decide_false]
        exact ih
  exact key _ fun v hv => by have := (visits_mem o hv).1; unfold total; omega
section
variable {P : Nat → Option FDef} {n b : Nat} {h : Store}
def c_pattern_steps : List Nat := [43, 4, 10, 9, 8, 7, 11, 12, 6]
theorem pattern_steps_ok (H : Has P c_pattern_steps) {p : Plan} (o : p.Ok) {t : Int} (h1 : -(2 * 10 ^ 18) ≤ t) (h2 : t ≤ 2 * 10 ^ 18) :
    callI P (n + 4) 43 [dPlan p, .int t] b h = some (.lst ((List.range (total p)).map fun x => .lst (stepsD p t x (patL p))), h) := by
  have hT := total_le o
  have hL := patL_le o
  have r2 := o.r2
  refine opt_eq (call_of (H.f 43 rfl rfl) rfl rfl ?_)
  simp [F_pattern_steps, B_pattern_steps, getV]
  refine opt_of_eq (all_places_ok (H.sub rfl) o) ?_
  simp [pls_len]
  refine opt_of_eq (show biF .rl true [.int (total p)] h = some (.ref h.length, h ++ [.lst ((ids (total p)).map dI)]) from ?_) ?_
  · simp only [biF]
    rw [if_pos (by constructor <;> omega), mkL_t, rangeL_nat]
    rfl
  simp [getV]
  refine opt_of_eq (wkX_ref (ds := (ids (total p)).map dI) (by simp)) ?_
  simp [ids_len]
  refine ⟨le_size (by omega), ?_⟩
  refine lc_inv (i := 0) (acc := []) dI (fun j a h1 => a = (List.range j).map (fun i => D.ref (h.length + 1 + i)) ∧ h1 = h ++ (.lst ((ids (total p)).map dI) :: lObs j fun _ => [])) ⟨rfl, rfl⟩ (fun _ _ _ hI => by rw [hI.2]; simp [live]) (fun j x a h1 hx hI => ?_) (fun a h1 hI => ?_)
  · obtain ⟨rfl, rfl⟩ := hI
    simp [wipeD, lObs, List.range_succ]
    omega
  · obtain ⟨ha, rfl⟩ := hI
    rw [List.nil_append, ids_len, Nat.zero_add] at ha
    subst ha
    rw [ids_len, Nat.zero_add]
    simp [getV]
    refine opt_of_eq (pattern_of_ok (H.sub rfl) o) ?_
    simp
    refine ⟨by omega, ?_⟩
    rw [show t + (patL p : Int) + 1 = t + 1 + patL p by omega, rangeL_add]
    refine fr_nx (fun k : Nat => D.int (t + 1 + k)) (fun j e1 h1 => (∃ a4 a5 a6 a7 a8 a9, e1 = [some (dPlan p), some (.int t), some (.ref h.length), some (.lst ((List.range (total p)).map fun i => .ref (h.length + 1 + i))), a4, a5, a6, a7, a8, a9]) ∧ ∃ J, h1 = h ++ (.lst ((Sp.cont p t j).map dI) :: (lObs (total p) (fun x => stepsD p t x j) ++ J))) ⟨⟨_, _, _, _, _, _, rfl⟩, [], by simp [Sp.cont, run, stepsD]⟩ (fun _ _ _ _ => live_none _) (fun j y e1 h1 hy hI => ?_) (fun e1 h1 hI => ?_)
    · obtain ⟨⟨a4, a5, a6, a7, a8, a9, rfl⟩, J, rfl⟩ := hI
      obtain ⟨hj, rfl⟩ := range_at hy
      have q := cont_isP o t y
      have hql := q.len
      simp [getV, lObs_len]
      refine opt_of_eq (visits_of_ok (H.sub rfl) o _) ?_
      simp
      obtain ⟨u, hu⟩ : ∃ u, u = t + 1 + (y : Int) := ⟨_, rfl⟩
      have hu2 : t + (y : Int) + 1 = u := by omega
      rw [← hu]
      refine fr_nx dVis (fun i e1 h1 => (∃ a6 a7, e1 = [some (dPlan p), some (.int t), some (.ref h.length), some (.lst ((List.range (total p)).map fun i => .ref (h.length + 1 + i))), some (.int u), some (.ref (h.length + (1 + (total p + J.length)))), a6, a7, a8, a9]) ∧ h1 = h ++ (.lst ((((visits p u).take i).foldl (fun xs v => exch p v xs) (Sp.cont p t y)).map dI) :: (lObs (total p) (fun x => stepsD p t x y) ++ (J ++ [.dct (kvL (Sp.cont p t y) ((visits p u).take i))])))) ⟨⟨a6, a7, by rw [show total p + J.length + 1 = 1 + (total p + J.length) by omega]⟩, by simp [kvL]⟩ (fun _ _ _ _ => live_none _) (fun i v e1 h1 hv hI => ?_) (fun e1 h1 hI => ?_)
      · obtain ⟨⟨a6, a7, rfl⟩, rfl⟩ := hI
        have htk := take_other o hv hql
        obtain ⟨c, k⟩ := v
        obtain ⟨hc, hk⟩ := visits_mem o (List.mem_of_getElem? hv)
        have hlen : (((visits p u).take i).foldl (fun xs v => exch p v xs) (Sp.cont p t y)).length = total p := fold_len _ (fun v hv => (visits_mem o (List.mem_of_mem_take hv)).2) hql
        have e2 : (visits p u).take (i + 1) = (visits p u).take i ++ [(c, k)] := by rw [List.take_add_one, hv]; rfl
        have hvl : (visits p u).length ≤ 6 := by have := visits_len p u; omega
        have hkey : ∀ x ∈ kvL (Sp.cont p t y) ((visits p u).take i), x.1 ≠ .inl ((ap (Sp.cont p t y) c : Nat) : Int) := by
          intro x hx he
          obtain ⟨w, hw, rfl⟩ := List.mem_map.mp hx
          have hs := visits_sorted p u
          rw [List.pairwise_iff_getElem] at hs
          obtain ⟨m, hm, ew⟩ := List.getElem_of_mem hw
          rw [List.length_take] at hm
          obtain ⟨hi, ei⟩ := List.getElem?_eq_some_iff.mp hv
          have h7 := hs m i (by omega) hi (by omega)
          rw [List.getElem_take] at ew
          rw [ew, ei] at h7
          simp at he
          have hw1 := (visits_mem o (List.mem_of_mem_take hw)).1
          have := q.inj (i := w.1) (j := c) (by unfold total; omega) (by unfold total; omega) (by omega)
          simp at h7
          omega
        rw [e2, List.foldl_append]
        simp only [List.foldl_cons, List.foldl_nil]
        have hkl : (kvL (Sp.cont p t y) ((visits p u).take i)).length ≤ 6 := by simp [kvL]; omega
        have hkv : kvL (Sp.cont p t y) ((visits p u).take i ++ [(c, k)]) = kvL (Sp.cont p t y) ((visits p u).take i) ++ [(.inl ((ap (Sp.cont p t y) c : Nat) : Int), .int k)] := by simp [kvL]
        rw [hkv]
        generalize kvL (Sp.cont p t y) ((visits p u).take i) = K at *
        simp only at htk
        generalize ((visits p u).take i).foldl (fun xs v => exch p v xs) (Sp.cont p t y) = R at *
        have hcT : c < total p := by unfold total; omega
        simp [getV, dVis]
        refine opt_of_eq ((ixD_ref (ds := R.map dI) (by simp) _).trans (atI_nat (getD_dI (by omega)))) ?_
        rw [show R.getD c 0 = ap (Sp.cont p t y) c from htk]
        simp only [dI]
        refine opt_of_eq (dsub_new (kvs := K) (l_new _) (by omega) (.inl rfl) hkey) ?_
        rw [l_set_new]
        refine opt_of_eq (exchange_ok (H.sub rfl) o (m := h.length) (xs := R) (by simp) hlen hc hk) ?_
        simp
      · obtain ⟨⟨a6, a7, rfl⟩, rfl⟩ := hI
        rw [List.take_length]
        have hrun : (visits p u).foldl (fun xs v => exch p v xs) (Sp.cont p t y) = Sp.cont p t (y + 1) := by
          unfold Sp.cont
          show _ = runTick p (t + y + 1) _
          rw [hu2]
          rfl
        rw [hrun]
        have q1 := cont_isP o t (y + 1)
        have hq1 := q1.len
        try simp [getV]
        refine opt_of_eq (wkX_ref (ds := (Sp.cont p t (y + 1)).map dI) (by simp)) ?_
        simp only []
        rw [enumD_map]
        refine fr_nx (fun q : Nat × Nat => D.tup [.int q.2, dI q.1]) (fun i e1 h1 => (∃ a8 a9, e1 = [some (dPlan p), some (.int t), some (.ref h.length), some (.lst ((List.range (total p)).map fun i => .ref (h.length + 1 + i))), some (.int u), some (.ref (h.length + (1 + (total p + J.length)))), a6, a7, a8, a9]) ∧ h1 = h ++ (.lst ((Sp.cont p t (y + 1)).map dI) :: (lObs (total p) (fun x => stepsD p t x (if x ∈ (Sp.cont p t (y + 1)).take i then y + 1 else y)) ++ (J ++ [.dct (kvL (Sp.cont p t y) (visits p u))])))) ⟨⟨_, _, rfl⟩, by simp⟩ (fun _ _ _ hI => by rw [hI.2]; simp [live]) (fun i w e1 h1 hw hI => ?_) (fun e1 h1 hI => ?_)
        · obtain ⟨⟨a8, a9, rfl⟩, rfl⟩ := hI
          obtain ⟨st, pl⟩ := w
          have hw2 : (Sp.cont p t (y + 1))[i]? = some st ∧ pl = i := by
            rw [List.getElem?_zipIdx] at hw
            cases h9 : (Sp.cont p t (y + 1))[i]? with
            | none => rw [h9] at hw; simp at hw
            | some z =>
              rw [h9] at hw
              simp at hw
              exact ⟨by rw [hw.1], by omega⟩
          obtain ⟨hst, rfl⟩ := hw2
          obtain ⟨hi, hst2⟩ := List.getElem?_eq_some_iff.mp hst
          have hstN : st < total p := q1.lt st (List.mem_of_getElem? hst)
          have hnot : st ∉ (Sp.cont p t (y + 1)).take pl := by
            intro hm
            obtain ⟨m, hm1, hm2⟩ := List.getElem_of_mem hm
            rw [List.length_take] at hm1
            rw [List.getElem_take] at hm2
            have := (List.getElem?_inj (i := m) (j := pl) (by omega) q1.nd).mp (by rw [List.getElem?_eq_getElem (by omega), hst, hm2])
            omega
          have hpos : ap (eff p t (y + 1)) st = pl := by
            have h9 : ap (Sp.cont p t (y + 1)) pl = st := by rw [ap_eq hi]; exact hst2
            unfold eff
            rw [← h9, inv_ap q1 (by omega)]
          have hlk : (look (kvL (Sp.cont p t y) (visits p u)) (.inl (st : Int))).getD .non = dEnt (lt p t st y) := by
            have hp2 := (eff_isP o t y).ap_lt hstN
            have h9 := kvL_look o (u := u) q hp2
            rw [show ap (Sp.cont p t y) (ap (eff p t y) st) = st from ap_inv q hstN] at h9
            rw [h9]
            unfold lt
            rw [hu2]
          simp [getV, dI]
          refine opt_of_eq (show ixD _ (D.lst ((List.range (total p)).map fun i => .ref (h.length + 1 + i))) (st : Int) = some (.ref (h.length + 1 + st)) from atI_nat (by rw [List.getElem?_map, List.getElem?_range hstN]; rfl)) ?_
          have gl := l_get (h := h) (o := .lst ((Sp.cont p t (y + 1)).map dI)) (G := fun x => stepsD p t x (if x ∈ (Sp.cont p t (y + 1)).take pl then y + 1 else y)) (J := J ++ [.dct (kvL (Sp.cont p t y) (visits p u))]) hstN
          have gk := l_new (h := h) (o := .lst ((Sp.cont p t (y + 1)).map dI)) (N := total p) (G := fun x => stepsD p t x (if x ∈ (Sp.cont p t (y + 1)).take pl then y + 1 else y)) (J := J) (.dct (kvL (Sp.cont p t y) (visits p u)))
          refine ⟨(mtTy_ref gl).1, ?_⟩
          have hget : ∀ hh : Store, hh[h.length + (1 + (total p + J.length))]? = some (.dct (kvL (Sp.cont p t y) (visits p u))) → mtTy .get (.ref (h.length + (1 + (total p + J.length)))) hh = true ∧ ∀ bb, mtF bb .get (.ref (h.length + (1 + (total p + J.length)))) [.int (st : Int)] hh = some (dEnt (lt p t st y), hh) := by
            intro hh he
            have hgk : getK hh (.ref (h.length + (1 + (total p + J.length)))) = some (kvL (Sp.cont p t y) (visits p u)) := by simp only [getK, he]
            refine ⟨by simp only [mtTy, hgk]; rfl, fun bb => ?_⟩
            simp only [mtF, dGet, hgk, dKey, hlk]
          refine ⟨(hget _ gk).1, ?_⟩
          refine opt_of_eq ((hget _ gk).2 _) ?_
          simp only []
          refine ⟨le_size (by omega), ?_⟩
          have hdS : D.tup [dEnt (lt p t st y), .int (pl : Int)] = dStep p t st y := by
            unfold dStep
            rw [hpos]
            rfl
          rw [hdS]
          rw [if_neg hnot] at gl
          refine opt_of_eq (append_ref gl (by simp [stepsD]; omega) (.inr (by omega))) ?_
          rw [← stepsD_succ, l_set hstN]
          simp only []
          congr 3
          unfold lObs
          apply List.map_congr_left
          intro x hx
          simp only [Ob.lst.injEq]
          by_cases hxs : x = st
          · subst hxs
            rw [if_pos rfl, if_pos (by rw [List.take_add_one, hst]; simp)]
          · rw [if_neg hxs]
            have : (x ∈ (Sp.cont p t (y + 1)).take (pl + 1)) = (x ∈ (Sp.cont p t (y + 1)).take pl) := by
              rw [List.take_add_one, hst]
              simp [hxs]
            simp only [this]
        · obtain ⟨⟨a8, a9, rfl⟩, rfl⟩ := hI
          rw [List.length_zipIdx, List.take_length]
          simp
          refine ⟨J ++ [.dct (kvL (Sp.cont p t y) (visits p u))], ?_⟩
          have : lObs (total p) (fun x => stepsD p t x (if x ∈ Sp.cont p t (y + 1) then y + 1 else y)) = lObs (total p) (fun x => stepsD p t x (y + 1)) := by
            unfold lObs
            apply List.map_congr_left
            intro x hx
            rw [List.mem_range] at hx
            simp only [q1.mem hx, if_true]
          rw [this]
    · obtain ⟨⟨a4, a5, a6, a7, a8, a9, rfl⟩, J, rfl⟩ := hI
      rw [List.length_range]
      simp [getV]
      have hN : 0 < total p := by have := o.r1; unfold total; omega
      have hb : ∀ x, D.bels h.length (stepsD p t x (patL p)) = true := fun x => bels_map (fun i => by
        cases h9 : lt p t x i <;> simp [dStep, D.bel, D.bels, dEnt, h9, dI]) _
      have hfr : froz (h ++ (Ob.lst ((Sp.cont p t (patL p)).map dI) :: (lObs (total p) (fun x => stepsD p t x (patL p)) ++ J))) h.length 4 (.lst ((List.range (total p)).map fun i => .ref (h.length + 1 + i))) = some (.lst ((List.range (total p)).map fun x => .lst (stepsD p t x (patL p)))) := by
        unfold froz
        have hbel : (D.lst ((List.range (total p)).map fun i => .ref (h.length + 1 + i))).bel h.length = false := by
          have : total p = total p - 1 + 1 := by omega
          rw [this, List.range_succ_eq_map]
          simp [D.bel, D.bels]
          intro hh
          omega
        rw [hbel]
        simp only [Bool.false_eq_true, if_false]
        rw [List.mapM_map]
        have hmm := mapM_some (f := froz (h ++ (Ob.lst ((Sp.cont p t (patL p)).map dI) :: (lObs (total p) (fun x => stepsD p t x (patL p)) ++ J))) h.length 3 ∘ fun i => D.ref (h.length + 1 + i)) (g := fun x => D.lst (stepsD p t x (patL p))) (xs := List.range (total p)) (fun x hx => by
          have hg := l_get (h := h) (o := .lst ((Sp.cont p t (patL p)).map dI)) (J := J) (G := fun x => stepsD p t x (patL p)) (List.mem_range.mp hx)
          exact froz_lst hg (by omega) (hb x))
        rw [hmm]
        rfl
      exact opt_of_eq hfr rfl
end
end Sp

set_option maxRecDepth 100000
set_option maxHeartbeats 1000000
/-! SpP: first sights at a shelf. -/
namespace Sp
open PySem L2 Sw Bd Pm
theorem flat_range {α : Type} (f : Nat → α) (L : Nat) : ∀ m, ((List.range m).map fun j => (List.range L).map fun r => f (L * j + r)).flatten = (List.range (L * m)).map f
  | 0 => by simp
  | m + 1 => by
    rw [List.range_succ, List.map_append, List.flatten_append, flat_range f L m, Nat.mul_add, Nat.mul_one]
    apply List.ext_getElem?
    intro i
    by_cases hi : i < L * m
    · rw [List.getElem?_append_left (by simpa using hi), List.getElem?_map, List.getElem?_map, List.getElem?_range hi, List.getElem?_range (by omega)]
    · rw [List.getElem?_append_right (by simp; omega)]
      simp only [List.map_cons, List.map_nil, List.flatten_cons, List.flatten_nil, List.append_nil, List.length_map, List.length_range]
      by_cases h2 : i < L * m + L
      · rw [List.getElem?_map, List.getElem?_map, List.getElem?_range (by omega), List.getElem?_range h2]
        simp
        congr 1
        omega
      · rw [List.getElem?_eq_none (by simp; omega), List.getElem?_eq_none (by simp; omega)]
/-- all the shelves on which a parcel is left on its way round -/
def wayD (p : Plan) (t : Int) (x m : Nat) : List D := (List.range m).map fun k => dEnt (lt p t x k)
def sightN (p : Plan) (t : Int) (x : Nat) : Nat := patL p * orbL (total p) (eff p t (patL p)) x
def sight (p : Plan) (t : Int) (s x : Nat) : Option Nat := firstLt p t s x (sightN p t x)
def kvF (p : Plan) (t : Int) (s : Nat) (xs : List Nat) : List (L2.Key × D) := xs.filterMap fun x => (sight p t s x).map fun k => (((.inl (x : Int)) : L2.Key), D.int k)
theorem kvF_snoc (p : Plan) (t : Int) (s : Nat) (xs : List Nat) (x : Nat) : kvF p t s (xs ++ [x]) = kvF p t s xs ++ ((sight p t s x).map fun k => (((.inl (x : Int)) : L2.Key), D.int k)).toList := by
  unfold kvF
  rw [List.filterMap_append]
  cases h : sight p t s x with
  | none => rw [List.filterMap_cons_none (by rw [h]; rfl)]; rfl
  | some k => rw [List.filterMap_cons_some (by rw [h]; rfl)]; rfl
theorem kvF_len (p : Plan) (t : Int) (s : Nat) (xs : List Nat) : (kvF p t s xs).length ≤ xs.length := List.length_filterMap_le _ _
theorem kvF_key {p : Plan} {t : Int} {s : Nat} {xs : List Nat} {x : Nat} (h : x ∉ xs) : ∀ q ∈ kvF p t s xs, q.1 ≠ .inl (x : Int) := by
  intro q hq e
  obtain ⟨y, hy, hq2⟩ := List.mem_filterMap.mp hq
  obtain ⟨k, _, rfl⟩ := Option.map_eq_some_iff.mp hq2
  simp at e
  exact h (by rw [← show y = x by omega]; exact hy)
theorem bels_fil {n : Nat} {f : Nat → Option Nat} : ∀ xs : List Nat, D.bels n (xs.filterMap fun x => (f x).map fun k => D.int k) = true
  | [] => rfl
  | x :: xs => by
    cases h : f x with
    | none => rw [List.filterMap_cons_none (by rw [h]; rfl)]; exact bels_fil xs
    | some k => rw [List.filterMap_cons_some (b := D.int k) (by rw [h]; rfl), D.bels, bels_fil xs]; rfl
/-- the places by cycles -/
def cycPl (p : Plan) (t : Int) : List Nat := (cycs (total p) (eff p t (patL p)) (total p)).flatten
section
variable {P : Nat → Option FDef} {n b : Nat} {h : Store}
def c_first_sights : List Nat := [44, 43, 4, 10, 9, 8, 7, 11, 12, 6, 16, 19, 18, 13, 14]
theorem first_sights_ok (H : Has P c_first_sights) {p : Plan} (o : p.Ok) {t : Int} (h1 : -(2 * 10 ^ 18) ≤ t) (h2 : t ≤ 2 * 10 ^ 18) {s : Nat} :
    callI P (n + 6) 44 [dPlan p, .int t, .int s] b h = some (.dct ((kvF p t s (cycPl p t)).map (·.1)) ((kvF p t s (cycPl p t)).map (·.2)), h) := by
  have hT := total_le o
  have hL := patL_le o
  have pe := eff_isP o t (patL p)
  have ok := cycs_ok pe (Nat.le_refl (total p))
  have hper := patL_per o
  refine opt_eq (call_of (H.f 44 rfl rfl) rfl rfl ?_)
  simp [F_first_sights, B_first_sights, getV]
  refine opt_of_eq (pattern_steps_ok (H.sub rfl) o h1 h2) ?_
  simp [setsD]
  refine opt_of_eq (pattern_effect_ok (H.sub rfl) o h1 h2) ?_
  simp
  refine opt_of_eq (cycles_of_ok (H.sub rfl) pe (by omega)) ?_
  simp
  obtain ⟨ST, hST⟩ : ∃ ST, ST = D.lst ((List.range (total p)).map fun x => .lst (stepsD p t x (patL p))) := ⟨_, rfl⟩
  rw [← hST]
  refine fr_nx dCyc (fun j e1 h1 => (∃ a5 a6 a7 a8 a9, e1 = [some (dPlan p), some (.int t), some (.int s), some ST, some (.ref h.length), a5, a6, a7, a8, a9]) ∧ ∃ J, h1 = h ++ (.dct (kvF p t s ((cycs (total p) (eff p t (patL p)) (total p)).take j).flatten) :: J)) ⟨⟨_, _, _, _, _, rfl⟩, [], by simp [kvF]⟩ (fun _ _ _ _ => live_none _) (fun j cy e1 h1 hx hI => ?_) (fun e1 h1 hI => ?_)
  · obtain ⟨⟨a5, a6, a7, a8, a9, rfl⟩, J, rfl⟩ := hI
    obtain ⟨i0, _, hi0, hcy⟩ := ok.orb cy (List.mem_of_getElem? hx)
    have hcl : cy.length = orbL (total p) (eff p t (patL p)) i0 := by rw [hcy, orb_len]
    have hcl2 : cy.length ≤ total p := by rw [hcl]; exact (orbL_spec pe hi0).1
    have hsplit : (cycs (total p) (eff p t (patL p)) (total p)).flatten = ((cycs (total p) (eff p t (patL p)) (total p)).take j).flatten ++ (cy ++ ((cycs (total p) (eff p t (patL p)) (total p)).drop (j + 1)).flatten) := by
      conv => lhs; rw [← List.take_append_drop j (cycs (total p) (eff p t (patL p)) (total p))]
      rw [List.flatten_append, List.drop_eq_getElem_cons (List.getElem?_eq_some_iff.mp hx).1, List.flatten_cons, (List.getElem?_eq_some_iff.mp hx).2]
    have hnd := ok.nd
    have hfl := ok.flat_len pe
    rw [hsplit] at hnd hfl
    rw [List.length_append] at hfl
    rw [List.nodup_append] at hnd
    obtain ⟨_, hnd2, hnd3⟩ := hnd
    rw [List.nodup_append] at hnd2
    have e2 : ((cycs (total p) (eff p t (patL p)) (total p)).take (j + 1)).flatten = ((cycs (total p) (eff p t (patL p)) (total p)).take j).flatten ++ cy := by
      rw [List.take_add_one, hx]
      simp
    rw [e2]
    generalize ((cycs (total p) (eff p t (patL p)) (total p)).take j).flatten = XS at *
    simp [getV, dCyc]
    refine ⟨by omega, ?_⟩
    rw [rangeL_nat]
    refine fr_nx dI (fun i e1 h1 => (∃ a6 a7 a8 a9, e1 = [some (dPlan p), some (.int t), some (.int s), some ST, some (.ref h.length), some (.tup (cy.map dI)), a6, a7, a8, a9]) ∧ ∃ J, h1 = h ++ (.dct (kvF p t s (XS ++ cy.take i)) :: J)) ⟨⟨_, _, _, _, rfl⟩, J, by simp⟩ (fun _ _ _ _ => live_none _) (fun i y e1 h1 hy hI => ?_) (fun e1 h1 hI => ?_)
    · obtain ⟨⟨a6, a7, a8, a9, rfl⟩, J2, rfl⟩ := hI
      obtain ⟨hi, rfl⟩ := range_at hy
      obtain ⟨x, hxy⟩ : ∃ x, cy[y]? = some x := ⟨_, List.getElem?_eq_getElem hi⟩
      have hxN : x < total p := by
        have := List.mem_of_getElem? hxy
        rw [hcy] at this
        exact orb_sub pe hi0 this
      have hit : it (eff p t (patL p)) y i0 = x := by
        have := orb_get (n := total p) (e := eff p t (patL p)) (i := i0) (k := y) (by omega)
        rw [← hcy, hxy] at this
        exact (Option.some.inj this).symm
      have hrot := orb_rot pe (i := i0) (k := y) hi0 (by omega)
      rw [← hcy, hit] at hrot
      have e3 : XS ++ cy.take (y + 1) = (XS ++ cy.take y) ++ [x] := by rw [List.take_add_one, hxy]; simp
      have hxn : x ∉ XS ++ cy.take y := by
        rw [List.mem_append]
        rintro (hm | hm)
        · exact hnd3 x hm x (List.mem_append_left _ (List.mem_of_getElem? hxy)) rfl
        · obtain ⟨m, hm1, hm2⟩ := List.getElem_of_mem hm
          rw [List.length_take] at hm1
          rw [List.getElem_take] at hm2
          have := (List.getElem?_inj (i := m) (j := y) (by omega) hnd2.1).mp (by rw [List.getElem?_eq_getElem (by omega), hxy, hm2])
          omega
      have hlenK : (kvF p t s (XS ++ cy.take y)).length ≤ total p := by
        refine Nat.le_trans (kvF_len _ _ _ _) ?_
        rw [List.length_append, List.length_take]
        rw [List.length_append] at hfl
        omega
      rw [e3, kvF_snoc]
      have hkk := kvF_key (p := p) (t := t) (s := s) hxn
      generalize kvF p t s (XS ++ cy.take y) = K at *
      simp [getV, dI]
      have slF : ∀ hh : Store, slD false (D.tup (cy.map dI)) (some (y : Int)) none hh = some (.tup ((cy.drop y).map dI), hh) := fun hh => by simp [slD, cutD_from]
      have slT : ∀ hh : Store, slD false (D.tup (cy.map dI)) none (some (y : Int)) hh = some (.tup ((cy.take y).map dI), hh) := fun hh => by simp [slD, cutD_to]
      refine opt_of_eq (slF _) ?_
      simp only []
      refine opt_of_eq (slT _) ?_
      simp only [binop_tup]
      rw [if_pos (le_size (by simp; omega)), ← List.map_append, hrot]
      simp
      have horb := orb_len (total p) (eff p t (patL p)) x
      have horb2 := (orbL_spec pe hxN).1
      have hLO : patL p * orbL (total p) (eff p t (patL p)) x ≤ 60 * 114 := Nat.mul_le_mul (by omega) (by omega)
      refine fr_nx dI (fun m e1 h1 => (∃ a8 a9, e1 = [some (dPlan p), some (.int t), some (.int s), some ST, some (.ref h.length), some (.tup (cy.map dI)), some (.int y), some (.ref (h.length + (J2.length + 1))), a8, a9]) ∧ h1 = h ++ (.dct K :: (J2 ++ [.lst (wayD p t x (patL p * m))]))) ⟨⟨a8, a9, rfl⟩, ?_⟩ (fun _ _ _ _ => live_none _) (fun m pl e1 h1 hm hI => ?_) (fun e1 h1 hI => ?_)
      · rw [Nat.mul_zero]
        rfl
      · obtain ⟨⟨a8, a9, rfl⟩, rfl⟩ := hI
        have hmL : m < orbL (total p) (eff p t (patL p)) x := by
          have := (List.getElem?_eq_some_iff.mp hm).1
          omega
        have hpl : pl = it (eff p t (patL p)) m x := by
          have := orb_get (n := total p) (e := eff p t (patL p)) (i := x) hmL
          rw [hm] at this
          exact Option.some.inj this
        have hplN : pl < total p := by rw [hpl]; exact it_lt pe m hxN
        have hmb : patL p * m ≤ 60 * 114 := Nat.mul_le_mul (by omega) (by omega)
        have gE : (h ++ (Ob.dct K :: (J2 ++ [.lst (wayD p t x (patL p * m))])))[h.length + (J2.length + 1)]? = some (.lst (wayD p t x (patL p * m))) := by simp
        simp [getV, dI]
        refine ⟨(mtTy_ref gE).2.1, ?_⟩
        refine opt_of_eq (show ixD _ ST (pl : Int) = some (.lst (stepsD p t pl (patL p))) from by rw [hST]; exact atI_nat (by rw [List.getElem?_map, List.getElem?_range hplN]; rfl)) ?_
        simp [stepsD]
        refine ⟨le_size (by omega), ?_⟩
        refine lc_rule (dStep p t pl) (fun r => some (dEnt (lt p t pl r))) (live_none _) (fun r hr => ?_) ?_
        · simp [wipeD, getV, dStep]
          exact opt_of_eq (show ixD _ (D.tup [dEnt (lt p t pl r), dI (ap (eff p t (r + 1)) pl)]) 0 = some (dEnt (lt p t pl r)) from rfl) rfl
        · simp
          refine opt_of_eq (extend_ref gE (v := .lst ((List.range (patL p)).map fun r => dEnt (lt p t pl r))) rfl (by simp [wayD]; omega) (.inr (by omega))) ?_
          have e5 : wayD p t x (patL p * m) ++ (List.range (patL p)).map (fun r => dEnt (lt p t pl r)) = wayD p t x (patL p * (m + 1)) := by
            unfold wayD
            rw [← flat_range _ (patL p) (m + 1), List.range_succ (n := m), List.map_append, List.flatten_append, flat_range (fun k => dEnt (lt p t x k)) (patL p) m]
            congr 1
            simp only [List.map_cons, List.map_nil, List.flatten_cons, List.flatten_nil, List.append_nil]
            apply List.map_congr_left
            intro r _
            rw [lt_pers o hper t hxN, hpl]
          rw [e5]
          simp
      · obtain ⟨⟨a8, a9, rfl⟩, rfl⟩ := hI
        rw [horb]
        have hnb : D.nbs (wayD p t x (patL p * orbL (total p) (eff p t (patL p)) x)) = true := nbs_map (fun k => dEnt_nb _) _
        have hdp : D.deps (wayD p t x (patL p * orbL (total p) (eff p t (patL p)) x)) ≤ 0 := deps_map (fun k => dEnt_dep _) _
        have gE : (h ++ (Ob.dct K :: (J2 ++ [.lst (wayD p t x (patL p * orbL (total p) (eff p t (patL p)) x))])))[h.length + (J2.length + 1)]? = some (.lst (wayD p t x (patL p * orbL (total p) (eff p t (patL p)) x))) := by simp
        have ey : pyOf (h ++ (Ob.dct K :: (J2 ++ [.lst (wayD p t x (patL p * orbL (total p) (eff p t (patL p)) x))]))) (.ref (h.length + (J2.length + 1))) = some (.list (pds (wayD p t x (patL p * orbL (total p) (eff p t (patL p)) x)))) := by
          rw [pyOf_ref gE]
          exact pyOf_nb (d := .lst (wayD p t x (patL p * orbL (total p) (eff p t (patL p)) x))) hnb (by simp only [D.dep]; omega)
        have hget : ∀ k, k < patL p * orbL (total p) (eff p t (patL p)) x → (wayD p t x (patL p * orbL (total p) (eff p t (patL p)) x))[k]? = some (dEnt (lt p t x k)) := fun k hk => by
          unfold wayD
          rw [List.getElem?_map, List.getElem?_range hk]
          rfl
        have hsn : sightN p t x = patL p * orbL (total p) (eff p t (patL p)) x := rfl
        simp [getV]
        refine opt_inL (x := .int s) rfl (by show 0 < 12; omega) ey (fun _ e => nomatch e) hnb (fun hm => ?_) (fun hm => ?_)
        · obtain ⟨k0, hk0, ek0⟩ := List.mem_map.mp hm
          rw [List.mem_range] at hk0
          have hex : ∃ k, sight p t s x = some k := by
            cases hs : sight p t s x with
            | some k => exact ⟨k, rfl⟩
            | none =>
              unfold sight firstLt at hs
              rw [Option.map_eq_none_iff, List.find?_eq_none] at hs
              have := hs k0 (by rw [List.mem_range, hsn]; exact hk0)
              rw [show lt p t x k0 = some s from dEnt_inj (b := some s) ek0] at this
              simp at this
          obtain ⟨k, hk⟩ := hex
          obtain ⟨k1, k2, k3, k4⟩ := firstLt_some.mp hk
          simp
          refine ⟨(mtTy_ref gE).2.2.2.2, ?_⟩
          refine opt_index (j := k - 1) (x := .int s) rfl (by show 0 < 12; omega) ey hnb (by rw [hget _ (by omega), k3]; rfl) (fun i hi he => ?_) ?_
          · rw [hget _ (by omega)] at he
            exact k4 i hi (dEnt_inj (b := some s) (Option.some.inj he))
          · simp [getV]
            refine opt_of_eq (show ixD _ (D.tup (cy.map dI)) (y : Int) = some (dI x) from atI_nat (by rw [List.getElem?_map, hxy]; rfl)) ?_
            simp only [dI]
            refine opt_of_eq (dsub_new (kvs := K) (by simp) (by omega) (.inl rfl) hkk) ?_
            rw [hk]
            simp
            omega
        · have hno : sight p t s x = none := by
            cases hs : sight p t s x with
            | none => rfl
            | some k =>
              obtain ⟨k1, k2, k3, k4⟩ := firstLt_some.mp hs
              exact absurd (List.mem_map.mpr ⟨k - 1, List.mem_range.mpr (by omega), by rw [k3]; rfl⟩) hm
          rw [hno]
          simp
    · obtain ⟨⟨a6, a7, a8, a9, rfl⟩, J2, rfl⟩ := hI
      simp
  · obtain ⟨⟨a5, a6, a7, a8, a9, rfl⟩, J, rfl⟩ := hI
    rw [List.take_length]
    simp [getV]
    refine opt_of_eq (froz_dct (kvs := kvF p t s (cycPl p t)) (by simp [cycPl]) (Nat.le_refl _) ?_) ?_
    · rw [show (kvF p t s (cycPl p t)).map (·.2) = (cycPl p t).filterMap (fun x => (sight p t s x).map fun k => D.int k) by
        unfold kvF
        rw [List.map_filterMap]
        congr 1
        funext x
        cases sight p t s x <;> rfl]
      exact bels_fil _
    · rfl
end
end Sp

set_option maxRecDepth 100000
set_option maxHeartbeats 1000000
/-! SpQ: watching a shelf. -/
namespace Sp
open PySem L2 Sw Bd Pm
theorem sort_asc {ns : List Nat} {N : Nat} {f : Nat → Bool} (hn : ns.Nodup) (hm : ∀ x, x ∈ ns ↔ x < N ∧ f x = true) : (ns.map fun x : Nat => (x : Int)).mergeSort (fun a b => decide (a ≤ b)) = ((List.range N).filter f).map fun x : Nat => (x : Int) := by
  have h1 : List.Perm ns ((List.range N).filter f) := by
    rw [List.perm_iff_count]
    intro a
    have h2 : ((List.range N).filter f).Nodup := List.Pairwise.filter _ List.nodup_range
    rw [hn.count, h2.count]
    have : a ∈ ns ↔ a ∈ (List.range N).filter f := by rw [hm, List.mem_filter, List.mem_range]
    by_cases h : a ∈ ns
    · rw [if_pos h, if_pos (this.mp h)]
    · rw [if_neg h, if_neg (fun h3 => h (this.mpr h3))]
  have h3 := List.pairwise_mergeSort (le := fun a b : Int => decide (a ≤ b)) (fun a b c h1 h2 => by simp at *; omega) (fun a b => by simp; omega) (ns.map fun x : Nat => (x : Int))
  refine perm_eq ((List.mergeSort_perm _ _).trans (h1.map _)) (h3.imp fun h => of_decide_eq_true h) ?_
  rw [List.pairwise_map]
  exact (List.Pairwise.filter _ List.pairwise_lt_range).imp fun h => by omega
def wOk (p : Plan) (t : Int) (s : Nat) (c : Int) (x : Nat) : Bool := match sight p t s x with
  | some k => decide ((k : Int) ≤ c)
  | none => false
theorem wOk_iff {p : Plan} {t : Int} {s : Nat} {c : Int} {x : Nat} : wOk p t s c x = true ↔ ∃ k, sight p t s x = some k ∧ (k : Int) ≤ c := by
  unfold wOk
  cases h : sight p t s x with
  | none => simp
  | some k => simp
def wL (p : Plan) (t : Int) (s : Nat) (c : Int) : List Nat := (List.range (total p)).filter (wOk p t s c)
/-- who is seen, in the order of the dict -/
def fL (p : Plan) (t : Int) (s : Nat) : List Nat := (cycPl p t).filter fun x => (sight p t s x).isSome
def sv (p : Plan) (t : Int) (s x : Nat) : Nat := (sight p t s x).getD 0
theorem kvF_eq (p : Plan) (t : Int) (s : Nat) : kvF p t s (cycPl p t) = (fL p t s).map fun (x : Nat) => (((.inl (x : Int)) : L2.Key), D.int (sv p t s x)) := by
  unfold kvF fL sv
  induction cycPl p t with
  | nil => rfl
  | cons x xs ih =>
    cases h : sight p t s x with
    | none => rw [List.filterMap_cons_none (by rw [h]; rfl), ih, List.filter_cons_of_neg (by rw [h]; simp)]
    | some k => rw [List.filterMap_cons_some (by rw [h]; rfl), ih, List.filter_cons_of_pos (by rw [h]; rfl), List.map_cons, h]; rfl
theorem fL_mem {p : Plan} (o : p.Ok) {t : Int} {s x : Nat} : x ∈ fL p t s ↔ x < total p ∧ ∃ k, sight p t s x = some k := by
  have pe := eff_isP o t (patL p)
  have ok := cycs_ok pe (Nat.le_refl (total p))
  unfold fL
  rw [List.mem_filter, Option.isSome_iff_exists]
  constructor
  · rintro ⟨h1, h2⟩
    exact ⟨ok.sub pe h1, h2⟩
  · rintro ⟨h1, h2⟩
    exact ⟨ok.all x h1, h2⟩
theorem fL_nd {p : Plan} (o : p.Ok) {t : Int} {s : Nat} : (fL p t s).Nodup ∧ (fL p t s).length ≤ total p := by
  have pe := eff_isP o t (patL p)
  have ok := cycs_ok pe (Nat.le_refl (total p))
  exact ⟨List.Pairwise.filter _ ok.nd, Nat.le_trans (List.length_filter_le _ _) (ok.flat_len pe)⟩
theorem filterMap_if {α β : Type} (q : α → Bool) (f : α → β) : ∀ xs : List α, xs.filterMap (fun x => if q x = true then some (f x) else none) = (xs.filter q).map f
  | [] => rfl
  | x :: xs => by
    cases h : q x with
    | false => rw [List.filterMap_cons_none (by rw [h]; rfl), List.filter_cons_of_neg (by rw [h]; simp), filterMap_if q f xs]
    | true => rw [List.filterMap_cons_some (b := f x) (by rw [h]; rfl), List.filter_cons_of_pos h, List.map_cons, filterMap_if q f xs]
section
variable {P : Nat → Option FDef} {n b : Nat} {h : Store}
def c_places : List Nat := [42, 2, 0, 1, 4]
theorem places_ok (H : Has P c_places) {p : Plan} (o : p.Ok) : callI P (n + 3) 42 [dPlan p] b h = some (.lst ((pls p).map dPl), h) := by
  refine opt_eq (call_of (H.f 42 rfl rfl) rfl rfl ?_)
  simp [F_places, B_places, getV]
  refine opt_of_eq (validate_plan_ok (H.sub rfl) o) ?_
  simp [getV]
  refine opt_of_eq (all_places_ok (H.sub rfl) o) ?_
  exact opt_of_eq (froz_bel (show (D.lst ((pls p).map dPl)).bel h.length = true from bels_map (fun c => dPl_bel _ c) _)) (by simp)
def c_watched : List Nat := [45, 2, 0, 1, 41, 3, 44, 43, 4, 10, 9, 8, 7, 11, 12, 6, 16, 19, 18, 13, 14]
theorem watched_ok (H : Has P c_watched) {p : Plan} (o : p.Ok) {t : Int} (h1 : -(2 * 10 ^ 18) ≤ t) (h2 : t ≤ 2 * 10 ^ 18) {s : Nat} (hs : s < p.sizes.length) {c : Int} (hc1 : 0 ≤ c) (hc2 : c ≤ 10 ^ 18) :
    callI P (n + 7) 45 [dPlan p, .int t, .int s, .int c] b h = some (.lst ((wL p t s c).map dI), h) := by
  have hT := total_le o
  have pe := eff_isP o t (patL p)
  have ok := cycs_ok pe (Nat.le_refl (total p))
  refine opt_eq (call_of (H.f 45 rfl rfl) rfl rfl ?_)
  simp [F_watched, B_watched, getV]
  refine opt_of_eq (validate_plan_ok (H.sub rfl) o) ?_
  simp only []
  refine opt_of_eq (validate_shelf_ok (H.sub rfl) hs) ?_
  simp only []
  refine opt_of_eq (validate_count_ok (H.sub rfl) (by omega) (by omega)) ?_
  simp only []
  refine opt_of_eq (first_sights_ok (H.sub rfl) o h1 h2) ?_
  obtain ⟨fn1, fn2⟩ := fL_nd o (t := t) (s := s)
  have hkd : D.dct ((kvF p t s (cycPl p t)).map (·.1)) ((kvF p t s (cycPl p t)).map (·.2)) = .dct ((fL p t s).map fun x : Nat => ((.inl (x : Int)) : L2.Key)) ((fL p t s).map fun x => D.int (sv p t s x)) := by
    rw [kvF_eq, List.map_map, List.map_map]
    rfl
  rw [hkd]
  simp [getV, lckO, keysD]
  refine ⟨le_size (by omega), ?_⟩
  rw [show List.map (kD ∘ fun x : Nat => ((.inl (x : Int)) : L2.Key)) (fL p t s) = (fL p t s).map dI from rfl]
  refine lc_rule dI (fun x => if decide (((sv p t s x : Nat) : Int) ≤ c) = true then some (dI x) else none) (live_none h) (fun x hx => ?_) ?_
  · simp [wipeD, getV, dI]
    have hlk : dixD h (.dct ((fL p t s).map fun x : Nat => ((.inl (x : Int)) : L2.Key)) ((fL p t s).map fun x => D.int (sv p t s x))) (.int (x : Int)) = some (.int (sv p t s x)) := by
      have e1 : getK h (.dct ((fL p t s).map fun x : Nat => ((.inl (x : Int)) : L2.Key)) ((fL p t s).map fun x => D.int (sv p t s x))) = some ((fL p t s).map fun x : Nat => (((.inl (x : Int)) : L2.Key), D.int (sv p t s x))) := by
        show (if _ then some _ else none) = _
        rw [if_pos (by simp), zip_maps]
      unfold dixD
      rw [e1]
      show look _ (.inl (x : Int)) = _
      rw [look_map (f := fun x => D.int (sv p t s x)), if_pos hx]
    refine opt_of_eq hlk ?_
    simp
  · rw [filterMap_if]
    have hsort : biF .sorted false [.lst (((fL p t s).filter fun x => decide (((sv p t s x : Nat) : Int) ≤ c)).map dI)] h = some (.lst ((wL p t s c).map dI), h) := by
      have e1 : biF .sorted false [.lst (((fL p t s).filter fun x => decide (((sv p t s x : Nat) : Int) ≤ c)).map dI)] h = (asInts (((fL p t s).filter fun x => decide (((sv p t s x : Nat) : Int) ≤ c)).map dI)).map fun ns => mkL false ((ns.mergeSort (fun a b => decide (a ≤ b))).map .int) h := rfl
      rw [e1, asInts_dI]
      simp only [Option.map_some, mkL_f]
      rw [sort_asc (N := total p) (f := wOk p t s c) (List.Pairwise.filter _ fn1) (fun x => ?_)]
      · rw [List.map_map]
        rfl
      · rw [List.mem_filter, fL_mem o, wOk_iff]
        constructor
        · rintro ⟨⟨h1, k, hk⟩, h3⟩
          refine ⟨h1, k, hk, ?_⟩
          unfold sv at h3
          rw [hk] at h3
          simpa using h3
        · rintro ⟨h1, k, hk, h3⟩
          refine ⟨⟨h1, k, hk⟩, ?_⟩
          unfold sv
          rw [hk]
          simpa using h3
    refine opt_of_eq hsort ?_
    simp [unlO]
    exact opt_of_eq (froz_bel (show (D.lst ((wL p t s c).map dI)).bel h.length = true from bels_dI _ _)) rfl
def c_watching_time : List Nat := [46, 2, 0, 1, 41, 44, 43, 4, 10, 9, 8, 7, 11, 12, 6, 16, 19, 18, 13, 14]
theorem watching_time_ok (H : Has P c_watching_time) {p : Plan} (o : p.Ok) {t : Int} (h1 : -(2 * 10 ^ 18) ≤ t) (h2 : t ≤ 2 * 10 ^ 18) {s : Nat} (hs : s < p.sizes.length) :
    ∃ m : Nat, callI P (n + 7) 46 [dPlan p, .int t, .int s] b h = some (.int m, h) ∧ (∀ x k, x < total p → sight p t s x = some k → k ≤ m) ∧ (m = 0 ∨ ∃ x, x < total p ∧ sight p t s x = some m) := by
  obtain ⟨fn1, fn2⟩ := fL_nd o (t := t) (s := s)
  have hT := total_le o
  obtain ⟨m, hm⟩ : ∃ m, ((0 : Int) :: (fL p t s).map fun x => ((sv p t s x : Nat) : Int)).max? = some m := by
    cases h9 : ((0 : Int) :: (fL p t s).map fun x => ((sv p t s x : Nat) : Int)).max? with
    | none => simp at h9
    | some m => exact ⟨m, rfl⟩
  obtain ⟨hm1, hm2⟩ := List.max?_eq_some_iff.mp hm
  have hm0 : 0 ≤ m := hm2 0 (by simp)
  obtain ⟨k, rfl⟩ := ofNat' hm0
  refine ⟨k, ?_, fun x j hx hj => ?_, ?_⟩
  · refine opt_eq (call_of (H.f 46 rfl rfl) rfl rfl ?_)
    simp [F_watching_time, B_watching_time, getV]
    refine opt_of_eq (validate_plan_ok (H.sub rfl) o) ?_
    simp only []
    refine opt_of_eq (validate_shelf_ok (H.sub rfl) hs) ?_
    simp
    refine ⟨le_size (by omega), ?_⟩
    refine opt_of_eq (first_sights_ok (H.sub rfl) o h1 h2) ?_
    simp only []
    have hkd : D.dct ((kvF p t s (cycPl p t)).map (·.1)) ((kvF p t s (cycPl p t)).map (·.2)) = .dct ((fL p t s).map fun x : Nat => ((.inl (x : Int)) : L2.Key)) ((fL p t s).map fun x => D.int (sv p t s x)) := by
      rw [kvF_eq, List.map_map, List.map_map]
      rfl
    rw [hkd]
    have hlv : biF .listvals false [.dct ((fL p t s).map fun x : Nat => ((.inl (x : Int)) : L2.Key)) ((fL p t s).map fun x => D.int (sv p t s x))] h = some (.lst ((fL p t s).map fun x => D.int (sv p t s x)), h) := by
      show (getK h _).map _ = _
      have e1 : getK h (.dct ((fL p t s).map fun x : Nat => ((.inl (x : Int)) : L2.Key)) ((fL p t s).map fun x => D.int (sv p t s x))) = some ((fL p t s).map fun x : Nat => (((.inl (x : Int)) : L2.Key), D.int (sv p t s x))) := by
        show (if _ then some _ else none) = _
        rw [if_pos (by simp), zip_maps]
      rw [e1]
      simp [Function.comp_def]
    refine opt_of_eq hlv ?_
    simp
    refine ⟨le_size (by omega), ?_⟩
    have hmx : biF .max false [.lst (.int 0 :: (fL p t s).map fun x => D.int (sv p t s x))] h = some (.int k, h) := by
      show (match asInts (D.int 0 :: (fL p t s).map fun x => D.int (sv p t s x)) with
        | some ns => ns.max?.map fun n => (D.int n, h)
        | none => none) = _
      have e2 : asInts (D.int 0 :: (fL p t s).map fun x => D.int (sv p t s x)) = some ((0 : Int) :: (fL p t s).map fun x => ((sv p t s x : Nat) : Int)) := by
        show (asInts ((fL p t s).map fun x => D.int (sv p t s x))).map (0 :: ·) = _
        rw [asInts_map (fun x => ((sv p t s x : Nat) : Int))]
        rfl
      rw [e2]
      simp only [hm]
      rfl
    refine opt_of_eq hmx ?_
    simp
  · have := hm2 ((sv p t s x : Nat) : Int) (List.mem_cons_of_mem _ (List.mem_map.mpr ⟨x, (fL_mem o).mpr ⟨hx, j, hj⟩, rfl⟩))
    unfold sv at this
    rw [hj] at this
    simp at this
    omega
  · rcases List.mem_cons.mp hm1 with h0 | h0
    · left
      omega
    · right
      obtain ⟨x, hx, hxk⟩ := List.mem_map.mp h0
      obtain ⟨hx1, j, hj⟩ := (fL_mem o).mp hx
      refine ⟨x, hx1, ?_⟩
      unfold sv at hxk
      rw [hj] at hxk ⊢
      simp at hxk
      rw [show j = k by omega]
end
end Sp

set_option maxRecDepth 100000
set_option maxHeartbeats 1000000
/-! SpR: who is left first, as a dict of parcels; locks. -/
namespace Sp
open PySem L2 Sw Bd Pm
theorem lt_step {p : Plan} {t : Int} {s x m k : Nat} : firstLt p t s x (m + 1) = some k ↔ firstLt p t s x m = some k ∨ (firstLt p t s x m = none ∧ lt p t x m = some s ∧ k = m + 1) := by
  have hnone : firstLt p t s x m = none ↔ ∀ i, i < m → lt p t x i ≠ some s := by
    unfold firstLt
    rw [Option.map_eq_none_iff, List.find?_eq_none]
    simp
  rw [hnone]
  constructor
  · intro h
    obtain ⟨h1, h2, h3, h4⟩ := firstLt_some.mp h
    by_cases hk : k ≤ m
    · exact .inl (firstLt_some.mpr ⟨h1, hk, h3, h4⟩)
    · have : k = m + 1 := by omega
      subst this
      exact .inr ⟨fun i hi => h4 i (by omega), h3, rfl⟩
  · rintro (h | ⟨h1, h2, rfl⟩)
    · obtain ⟨h1, h2, h3, h4⟩ := firstLt_some.mp h
      exact firstLt_some.mpr ⟨h1, by omega, h3, h4⟩
    · exact firstLt_some.mpr ⟨by omega, by omega, h2, fun i hi => h1 i (by omega)⟩
theorem firstLt_ge {p : Plan} {t : Int} {s x m m' k : Nat} (h : firstLt p t s x m = some k) (hk : k ≤ m') : firstLt p t s x m' = some k := by
  obtain ⟨h1, h2, h3, h4⟩ := firstLt_some.mp h
  exact firstLt_some.mpr ⟨h1, hk, h3, h4⟩
/-- whoever is left on a shelf at all is left there in its first round -/
theorem sight_of {p : Plan} (o : p.Ok) {t : Int} {s x m k : Nat} (hx : x < total p) (h : firstLt p t s x m = some k) : sight p t s x = some k := by
  obtain ⟨h1, h2, h3, h4⟩ := firstLt_some.mp h
  refine firstLt_some.mpr ⟨h1, ?_, h3, h4⟩
  have hS : 1 ≤ sightN p t x := Nat.mul_pos (patL_pos o) (orbL_pos _ _ _)
  apply Classical.byContradiction
  intro hn
  have hper : ∀ q j, lt p t x (sightN p t x * q + j) = lt p t x j := by
    intro q
    induction q with
    | zero => intro j; simp
    | succ q ih =>
      intro j
      rw [show sightN p t x * (q + 1) + j = sightN p t x + (sightN p t x * q + j) by rw [Nat.mul_add]; omega]
      show lt p t x (patL p * orbL (total p) (eff p t (patL p)) x + _) = _
      rw [lt_orb o (patL_per o) t hx]
      exact ih j
  have h5 := hper ((k - 1) / sightN p t x) ((k - 1) % sightN p t x)
  rw [Nat.div_add_mod] at h5
  have h6 := Nat.mod_lt (k - 1) hS
  refine h4 ((k - 1) % sightN p t x) (by omega) ?_
  rw [← h5]
  exact h3
theorem exRun_at (p : Plan) : ∀ (vs : List (Nat × Nat)) (xs : List Nat) (i : Nat) (q : Nat × Nat × Nat × Nat), (exRun p vs xs)[i]? = some q → vs[i]? = some (q.1, q.2.1) ∧ q.2.2.1 = ap ((vs.take i).foldl (fun xs v => exch p v xs) xs) q.1
  | [], _, i, _, h => by simp [exRun] at h
  | v :: vs, xs, 0, q, h => by
    simp [exRun] at h
    subst h
    exact ⟨rfl, rfl⟩
  | v :: vs, xs, i + 1, q, h => by
    simp only [exRun, List.getElem?_cons_succ] at h
    obtain ⟨h1, h2⟩ := exRun_at p vs _ i q h
    exact ⟨by simpa using h1, by simpa using h2⟩
/-- a dict from parcels (of places) to numbers -/
def kvP (st : St) (f : Nat → Nat) (fs : List Nat) : List (L2.Key × D) := fs.map fun (x : Nat) => (((.inl ((ap st.cont x : Nat) : Int)) : L2.Key), D.int (f x))
theorem kvP_snoc (st : St) (f : Nat → Nat) (fs : List Nat) (x : Nat) : kvP st f (fs ++ [x]) = kvP st f fs ++ [(.inl ((ap st.cont x : Nat) : Int), .int (f x))] := by simp [kvP]
theorem ap_inj {p : Plan} {st : St} (q : st.Ok p) {x y : Nat} (hx : x < total p) (hy : y < total p) (h : ap st.cont x = ap st.cont y) : x = y := by
  have hl := q.len
  exact (List.getElem?_inj (i := x) (j := y) (by omega) q.nd).mp (by rw [ap_some (by omega), ap_some (by omega), h])
theorem kvP_look {p : Plan} {st : St} (q : st.Ok p) {f : Nat → Nat} {x : Nat} (hx : x < total p) : ∀ {fs : List Nat}, (∀ y ∈ fs, y < total p) → look (kvP st f fs) (.inl ((ap st.cont x : Nat) : Int)) = if x ∈ fs then some (.int (f x)) else none
  | [], _ => rfl
  | y :: fs, h => by
    have ih := kvP_look q hx (f := f) (fs := fs) fun z hz => h z (by simp [hz])
    unfold kvP look at ih ⊢
    rw [List.map_cons, List.find?_cons]
    by_cases e : y = x
    · subst e
      simp
    · have e1 : ((Sum.inl ((ap st.cont y : Nat) : Int) : L2.Key) = Sum.inl ((ap st.cont x : Nat) : Int)) = False := by
        simp
        intro hh
        exact e (ap_inj q (h y (by simp)) hx (by omega))
      simp only [e1, decide_false]
      rw [ih]
      have : (x ∈ y :: fs) = (x ∈ fs) := by simp [show x ≠ y from fun h => e h.symm]
      simp [this]
theorem kvP_new {p : Plan} {st : St} (q : st.Ok p) {f : Nat → Nat} {x : Nat} (hx : x < total p) {fs : List Nat} (h : ∀ y ∈ fs, y < total p) (hn : x ∉ fs) : ∀ z ∈ kvP st f fs, z.1 ≠ .inl ((ap st.cont x : Nat) : Int) := by
  intro z hz e
  obtain ⟨y, hy, rfl⟩ := List.mem_map.mp hz
  simp at e
  have := ap_inj q (h y hy) hx (by omega)
  subst this
  exact hn hy
section
variable {S J R : Store} {F : Nat} {o : Ob}
theorem d_get (hF : S.length + J.length = F) : (S ++ (J ++ (o :: R)))[F]? = some o := by
  rw [List.getElem?_append_right (by omega), List.getElem?_append_right (by omega), show F - S.length - J.length = 0 by omega]
  rfl
theorem d_set (hF : S.length + J.length = F) (o' : Ob) : (S ++ (J ++ (o :: R))).set F o' = S ++ (J ++ (o' :: R)) := by
  rw [List.set_append_right _ _ (by omega), List.set_append_right _ _ (by omega), show F - S.length - J.length = 0 by omega]
  rfl
end
section
variable {P : Nat → Option FDef} {n b : Nat} {h : Store}
theorem lstep3 (H : Has P c_lstep) {p : Plan} (o : p.Ok) {s : St} (f : Fit p s) {S J : Store} {ob : Ob} {B : Nat} (hA : S.length + J.length + 1 = B) :
    callI P (n + 1) 36 [dPlan p, .ref (B + 1 + s.shelves.length)] b (S ++ (J ++ (ob :: wObs s B))) = some (.lst ((nextEx p s).map dEx), S ++ (J ++ (ob :: wObs (nextSt p s) B))) := by
  have := lstep2 (n := n) (b := b) H o f (S := S) (J := J ++ [ob]) (R := []) (B := B) (by rw [List.length_append]; simp; omega)
  simpa using this
theorem range1_1001 : (rangeL 1 1001).map D.int = (List.range 1000).map fun k : Nat => D.int (1 + k) := by
  simp [rangeL, Function.comp_def]
end
end Sp

set_option maxRecDepth 100000
set_option maxHeartbeats 1000000
/-! Pp: meetings. -/
namespace Pm
theorem bez (a b : Nat) : ∃ u v : Int, (a : Int) * u + b * v = Nat.gcd a b := by
  induction a, b using Nat.gcd.induction with
  | H0 b => exact ⟨0, 1, by simp⟩
  | H1 a b ha ih =>
    obtain ⟨u, v, h⟩ := ih
    refine ⟨v - (b / a : Nat) * u, u, ?_⟩
    rw [Nat.gcd_rec a b, ← h]
    have h1 : ((b % a : Nat) : Int) = b - a * (b / a : Nat) := by
      have := Nat.div_add_mod b a
      have h2 : ((a * (b / a) + b % a : Nat) : Int) = (b : Int) := by rw [this]
      rw [Int.natCast_add, Int.natCast_mul] at h2
      omega
    rw [h1, Int.mul_sub, Int.sub_mul, Int.mul_assoc]
    omega
/-- a number that leaves given rests -/
theorem crt {a b i j : Nat} (ha : 0 < a) (hb : 0 < b) (h : i % Nat.gcd a b = j % Nat.gcd a b) : ∃ N : Nat, N % a = i % a ∧ N % b = j % b := by
  obtain ⟨u, v, e⟩ := bez a b
  obtain ⟨d, hd⟩ : ∃ d : Int, (j : Int) - i = (Nat.gcd a b : Nat) * d := by
    have h1 : (i : Int) % (Nat.gcd a b : Nat) = (j : Int) % (Nat.gcd a b : Nat) := by
      have := congrArg (fun n : Nat => (n : Int)) h
      simpa [Int.natCast_emod] using this
    have h2 : ((j : Int) - i) % (Nat.gcd a b : Nat) = 0 := by rw [Int.sub_emod, h1]; simp
    obtain ⟨d, hd⟩ := Int.dvd_of_emod_eq_zero h2
    exact ⟨d, hd⟩
  have hab : (0 : Int) < (a * b : Nat) := by exact_mod_cast Nat.mul_pos ha hb
  obtain ⟨M, hM⟩ : ∃ M : Int, M = i + a * u * d := ⟨_, rfl⟩
  have hM2 : M = j + b * (-(v * d)) := by
    have h2 : (a : Int) * u * d + b * v * d = (j : Int) - i := by rw [hd, ← e, Int.add_mul]
    have h3 : (b : Int) * (-(v * d)) = -(b * v * d) := by rw [Int.mul_neg, Int.mul_assoc]
    rw [h3]
    omega
  refine ⟨(M % (a * b : Nat)).toNat, ?_, ?_⟩
  · have h1 := Int.emod_nonneg M (show ((a * b : Nat) : Int) ≠ 0 by omega)
    have h2 : (((M % (a * b : Nat)).toNat % a : Nat) : Int) = ((i % a : Nat) : Int) := by
      rw [Int.natCast_emod, Int.toNat_of_nonneg h1, Int.natCast_mul, Int.emod_emod_of_dvd _ ⟨(b : Int), rfl⟩, hM, Int.mul_assoc, Int.add_mul_emod_self_left, Int.natCast_emod]
    exact_mod_cast h2
  · have h1 := Int.emod_nonneg M (show ((a * b : Nat) : Int) ≠ 0 by omega)
    have h2 : (((M % (a * b : Nat)).toNat % b : Nat) : Int) = ((j % b : Nat) : Int) := by
      rw [Int.natCast_emod, Int.toNat_of_nonneg h1, Int.natCast_mul, Int.emod_emod_of_dvd _ ⟨(a : Int), by rw [Int.mul_comm]⟩, hM2, Int.add_mul_emod_self_left, Int.natCast_emod]
    exact_mod_cast h2
end Pm
namespace Sp
open Pm
/-- on which shelf a place is -/
def shOf (p : Plan) (x : Nat) : Option Nat := match plOf p x with
  | .sh s _ => some s
  | .car _ => none
/-- where the parcel of place x is after k ticks -/
def pos (p : Plan) (t : Int) (x k : Nat) : Nat := ap (eff p t k) x
theorem pos_lt {p : Plan} (o : p.Ok) {t : Int} {x : Nat} (hx : x < total p) (k : Nat) : pos p t x k < total p := (eff_isP o t k).ap_lt hx
theorem pos_pat {p : Plan} (o : p.Ok) {L : Nat} (h : Periodic p L) (t : Int) {x : Nat} (hx : x < total p) (k : Nat) : ∀ j, pos p t x (L * j + k) = pos p t (it (eff p t L) j x) k
  | 0 => by simp [it]
  | j + 1 => by
    have ih := pos_pat o h t ((eff_isP o t L).ap_lt hx) k j
    unfold pos at ih ⊢
    rw [show L * (j + 1) + k = L + (L * j + k) by rw [Nat.mul_add]; omega, eff_add o, comp_ap (by rw [(eff_isP o t L).len]; exact hx), eff_per h, ih]
    congr 1
    rw [show j + 1 = 1 + j by omega, it_add]
    rfl
/-- the shelf where it is -/
def ws (p : Plan) (t : Int) (x k : Nat) : Option Nat := shOf p (pos p t x k)
theorem ws_pat {p : Plan} (o : p.Ok) {L : Nat} (h : Periodic p L) (t : Int) {x : Nat} (hx : x < total p) (k j : Nat) : ws p t x (L * j + k) = ws p t (it (eff p t L) j x) k := by
  unfold ws
  rw [pos_pat o h t hx]
/-- of its round only the rest counts -/
theorem ws_mod {p : Plan} (o : p.Ok) {L : Nat} (h : Periodic p L) (t : Int) {x : Nat} (hx : x < total p) (k j : Nat) : ws p t x (L * j + k) = ws p t x (L * (j % orbL (total p) (eff p t L) x) + k) := by
  rw [ws_pat o h t hx, ws_pat o h t hx, it_mod (eff_isP o t L) hx]
/-- two meet after k ticks -/
def mb (p : Plan) (t : Int) (x y k : Nat) : Bool := (ws p t x k).isSome && decide (ws p t x k = ws p t y k)
theorem mb_comm (p : Plan) (t : Int) (x y k : Nat) : mb p t x y k = mb p t y x k := by
  unfold mb
  by_cases h : ws p t x k = ws p t y k
  · simp [h]
  · simp [h, Ne.symm h]
/-- they meet at some tick of the turns i, j (of one, of the other) -/
theorem mb_ex {p : Plan} (o : p.Ok) {L : Nat} (hp : Periodic p L) (t : Int) {x y : Nat} (hx : x < total p) (hy : y < total p) {i j k s : Nat}
    (hg : i % Nat.gcd (orbL (total p) (eff p t L) x) (orbL (total p) (eff p t L) y) = j % Nat.gcd (orbL (total p) (eff p t L) x) (orbL (total p) (eff p t L) y))
    (h1 : ws p t x (L * i + k) = some s) (h2 : ws p t y (L * j + k) = some s) : ∃ N, mb p t x y (L * N + k) = true := by
  obtain ⟨N, n1, n2⟩ := crt (orbL_pos (total p) (eff p t L) x) (orbL_pos (total p) (eff p t L) y) hg
  refine ⟨N, ?_⟩
  have e1 : ws p t x (L * N + k) = some s := by rw [ws_mod o hp t hx, n1, ← ws_mod o hp t hx, h1]
  have e2 : ws p t y (L * N + k) = some s := by rw [ws_mod o hp t hy, n2, ← ws_mod o hp t hy, h2]
  simp [mb, e1, e2]
/-- after all rounds it is as before -/
theorem mb_per {p : Plan} (o : p.Ok) {L : Nat} (hp : Periodic p L) (t : Int) {x y : Nat} (hx : x < total p) (hy : y < total p) {R : Nat} (h1 : orbL (total p) (eff p t L) x ∣ R) (h2 : orbL (total p) (eff p t L) y ∣ R) (k N : Nat) :
    mb p t x y (L * N + k) = mb p t x y (L * (N % R) + k) := by
  have key : ∀ {z : Nat}, z < total p → orbL (total p) (eff p t L) z ∣ R → ws p t z (L * N + k) = ws p t z (L * (N % R) + k) := fun {z} hz hd => by
    rw [ws_mod o hp t hz k N, ws_mod o hp t hz k (N % R), Nat.mod_mod_of_dvd _ hd]
  unfold mb
  rw [key hx h1, key hy h2]
end Sp

set_option maxRecDepth 100000
set_option maxHeartbeats 1000000
/-! SpS: pairs of parcels, made. -/
namespace Sp
open PySem L2 Sw Bd Pm
/-- a dict from numbers: new pairs go to the end -/
theorem putAll_new : ∀ {ps kvs : List (L2.Key × D)}, (ps.map (·.1)).Nodup → (∀ q ∈ ps, ∀ r ∈ kvs, r.1 ≠ q.1) → putAll kvs ps = kvs ++ ps
  | [], kvs, _, _ => by simp [putAll]
  | q :: ps, kvs, hn, h => by
    have e1 : put kvs q.1 q.2 = kvs ++ [q] := by
      unfold put
      rw [if_neg]
      intro hz
      obtain ⟨r, hr, e⟩ := List.any_eq_true.mp hz
      exact h q (by simp) r hr (by simpa using e)
    rw [List.map_cons, List.nodup_cons] at hn
    show putAll (put kvs q.1 q.2) ps = _
    rw [e1, putAll_new hn.2 (fun q' hq' r hr => ?_), List.append_assoc]
    · rfl
    · rcases List.mem_append.mp hr with hr | hr
      · exact h q' (by simp [hq']) r hr
      · rw [List.mem_singleton.mp hr]
        intro z
        exact hn.1 (z ▸ List.mem_map.mpr ⟨q', hq', rfl⟩)
theorem upd_ref {b m : Nat} {v : D} {es : List D} {kvs ps : List (L2.Key × D)} {h : Store} (e : h[m]? = some (.dct kvs)) (ev : getR h v = some es) (ep : pairsD es = some ps) (hl : kvs.length + ps.length < 100000) (hn : (ps.map (·.1)).Nodup)
    (hk : ∀ q ∈ ps, ∀ r ∈ kvs, r.1 ≠ q.1) (hb : D.bels 0 (ps.map (·.2)) = true ∨ b ≤ m) : mtF b .update (.ref m) [v] h = some (.non, h.set m (.dct (kvs ++ ps))) := by
  show mUpd b m v h = _
  unfold mUpd
  rw [e, ev]
  simp only [ep]
  rw [if_pos (show kvs.length + ps.length ≤ sizeLine from le_size (by omega)), putAll_new hn hk]
  unfold wr
  rw [if_pos ⟨hb, (List.getElem?_eq_some_iff.mp e).1⟩]
  rfl
theorem len_putFD (f : Str) (d : D) {k : Nat} : ∀ {fs : List (Str × D)}, fs.length ≤ k → (putFD f d fs).length ≤ k + 1
  | [], _ => by simp [putFD]
  | (g, x) :: fs, h => by
    unfold putFD
    split
    · simp at h ⊢; omega
    · have := len_putFD f d (k := k - 1) (fs := fs) (by simp at h; omega)
      simp at h ⊢
      omega
theorem len_put1 {f : Str} {d : D} : (putFD f d []).length < 1000 := Nat.lt_of_le_of_lt (len_putFD f d (Nat.le_refl 0)) (by decide)
theorem len_put2 {f g : Str} {d e : D} : (putFD f d (putFD g e [])).length < 1000 := Nat.lt_of_le_of_lt (len_putFD f d (len_putFD g e (Nat.le_refl 0))) (by decide)
theorem len_put3 {f g k : Str} {d e u : D} : (putFD f d (putFD g e (putFD k u []))).length < 1000 := Nat.lt_of_le_of_lt (len_putFD f d (len_putFD g e (len_putFD k u (Nat.le_refl 0)))) (by decide)
theorem len_put4 {f g k l : Str} {d e u v : D} : (putFD f d (putFD g e (putFD k u (putFD l v [])))).length < 1000 := Nat.lt_of_le_of_lt (len_putFD f d (len_putFD g e (len_putFD k u (len_putFD l v (Nat.le_refl 0))))) (by decide)
/-- the places on the shelves up to j, with their shelves -/
def kvH (p : Plan) (j : Nat) : List (L2.Key × D) := (List.range (p.sizes.take j).sum).map fun i : Nat => (((.inl ((p.routes.length + i : Nat) : Int)) : L2.Key), dEnt (shOf p (p.routes.length + i)))
theorem shOf_sh {p : Plan} {s k : Nat} (hs : s < p.sizes.length) (hk : k < p.sizes.getD s 0) : shOf p (firstOn p s + k) = some s := by
  unfold shOf
  rw [plOf_sh hs hk]
theorem shOf_car {p : Plan} {c : Nat} (h : c < p.routes.length) : shOf p c = none := by
  unfold shOf
  rw [plOf_car h]
theorem kvH_succ {p : Plan} {j z : Nat} (h : p.sizes[j]? = some z) : kvH p (j + 1) = kvH p j ++ (List.range z).map fun k : Nat => (((.inl ((firstOn p j + k : Nat) : Int)) : L2.Key), D.int j) := by
  have hj : j < p.sizes.length := (List.getElem?_eq_some_iff.mp h).1
  have hz : p.sizes.getD j 0 = z := by simp [h]
  unfold kvH
  rw [List.take_add_one, h]
  simp only [Option.toList_some, List.sum_append, List.sum_cons, List.sum_nil, Nat.add_zero]
  rw [List.range_add, List.map_append, List.map_map]
  congr 1
  apply List.map_congr_left
  intro k hk
  rw [List.mem_range] at hk
  have e1 : p.routes.length + ((p.sizes.take j).sum + k) = firstOn p j + k := by unfold firstOn; omega
  simp only [Function.comp]
  rw [e1, shOf_sh hj (by omega)]
  rfl
theorem kvH_get {p : Plan} {z : Nat} (hz : z < total p) : (look (kvH p p.sizes.length) (.inl (z : Int))).getD .non = dEnt (shOf p z) := by
  unfold kvH
  rw [List.take_length]
  by_cases hc : z < p.routes.length
  · rw [shOf_car hc]
    have : look ((List.range p.sizes.sum).map fun i : Nat => (((.inl ((p.routes.length + i : Nat) : Int)) : L2.Key), dEnt (shOf p (p.routes.length + i)))) (.inl (z : Int)) = none := by
      unfold look
      rw [Option.map_eq_none_iff, List.find?_eq_none]
      intro q hq
      obtain ⟨i, _, rfl⟩ := List.mem_map.mp hq
      simp
      omega
    rw [this]
    rfl
  · have hi : z - p.routes.length < p.sizes.sum := by unfold total at hz; omega
    have : look ((List.range p.sizes.sum).map fun i : Nat => (((.inl ((p.routes.length + i : Nat) : Int)) : L2.Key), dEnt (shOf p (p.routes.length + i)))) (.inl (z : Int)) = some (dEnt (shOf p z)) := by
      unfold look
      have : ((List.range p.sizes.sum).map fun i : Nat => (((.inl ((p.routes.length + i : Nat) : Int)) : L2.Key), dEnt (shOf p (p.routes.length + i)))).find? (fun q => decide (q.1 = .inl (z : Int))) = some (.inl (z : Int), dEnt (shOf p z)) := by
        rw [List.find?_eq_some_iff_getElem]
        refine ⟨by simp, z - p.routes.length, by simpa using hi, ?_, fun j hj => ?_⟩
        · simp
          rw [show p.routes.length + (z - p.routes.length) = z by omega]
          simp
          omega
        · simp
          omega
      rw [this]
      rfl
    rw [this]
    rfl
section
variable {P : Nat → Option FDef} {n b : Nat} {h : Store}
def c_places_on : List Nat := [56, 6]
theorem places_on_ok (H : Has P c_places_on) {p : Plan} {s z : Nat} (hz : p.sizes[s]? = some z) (h1 : firstOn p s + z < 1000) : callI P (n + 2) 56 [dPlan p, .int s] b h = some (.lst ((List.range z).map fun k : Nat => dI (firstOn p s + k)), h) := by
  have hs := (List.getElem?_eq_some_iff.mp hz).1
  refine opt_eq (call_of (H.f 56 rfl rfl) rfl rfl ?_)
  simp [F_places_on, B_places_on, getV]
  refine opt_of_eq (first_on_ok (H.sub rfl)) ?_
  simp
  refine opt_of_eq (first_on_ok (H.sub rfl)) ?_
  simp [ixD_plan0]
  refine opt_of_eq (show ixD h (.tup (p.sizes.map dI)) (s : Int) = some (dI z) from atI_nat (by rw [List.getElem?_map, hz]; rfl)) ?_
  have e1 : (p.routes.length : Int) + ((p.sizes.take s).sum : Nat) = (firstOn p s : Nat) := rfl
  simp [dI]
  rw [e1]
  refine opt_of_eq (show biF .rl false [.int (firstOn p s : Nat), .int ((firstOn p s : Nat) + (z : Int))] h = some (.lst ((List.range z).map fun k : Nat => D.int ((firstOn p s : Nat) + (k : Int))), h) from ?_) ?_
  · simp only [biF]
    rw [if_pos (by refine ⟨⟨?_, ?_⟩, ⟨?_, ?_⟩, ?_⟩ <;> omega), mkL_f, rangeL_add]
  · refine opt_of_eq (froz_bel (show (D.lst _).bel h.length = true from bels_map (fun c => rfl) _)) (by simp)
/-- the shelves where the parcel of place x is, turn by turn of its round -/
def dOn (p : Plan) (t : Int) (x : Nat) : List D := (List.range (orbL (total p) (eff p t (patL p)) x)).map fun j => .lst ((List.range (patL p)).map fun k => dEnt (ws p t x (patL p * j + (k + 1))))
def rnds (p : Plan) (t : Int) (x y : Nat) : Nat := Nat.lcm (orbL (total p) (eff p t (patL p)) x) (orbL (total p) (eff p t (patL p)) y)
def pairF (p : Plan) (t : Int) (x y : Nat) : List (Str × D) := [("length", .int (patL p)), ("now", .lst [dEnt (shOf p x), dEnt (shOf p y)]), ("one", .lst (dOn p t x)), ("other", .lst (dOn p t y)), ("rounds", .int (rnds p t x y))]
def c_pair_init : List Nat := [57, 43, 4, 10, 9, 8, 7, 11, 12, 6, 56, 50, 16, 19, 18, 13, 14]
theorem pair_init_ok (H : Has P c_pair_init) {p : Plan} (o : p.Ok) {s : St} (h1 : -(2 * 10 ^ 18) ≤ s.time) (h2 : s.time ≤ 2 * 10 ^ 18) {x y : Nat} (hx : x < total p) (hy : y < total p) :
    callI P (n + 6) 57 [.ref h.length, dPlan p, dSt s, .int x, .int y] b (h ++ [.ins 0 []]) = some (.non, h ++ [.ins 0 (pairF p s.time x y)]) := by
  have hT := total_le o
  have hL := patL_le o
  have pe := eff_isP o s.time (patL p)
  refine opt_eq (call_of (H.f 57 rfl rfl) rfl rfl ?_)
  simp [F_Pair___init__, B_Pair___init__, getV, ixD_st0]
  refine opt_of_eq (pattern_steps_ok (H.sub rfl) o h1 h2) ?_
  simp [ixD_st0]
  refine opt_of_eq (pattern_effect_ok (H.sub rfl) o h1 h2) ?_
  simp [ixD_plan0]
  have os := o.s2
  refine ⟨le_size (by omega), by constructor <;> omega, ?_⟩
  rw [rangeL_nat]
  obtain ⟨SL, hSL⟩ : ∃ SL, SL = List.map (fun x => D.lst (stepsD p s.time x (patL p))) (List.range (total p)) := ⟨_, rfl⟩
  rw [← hSL]
  have gD : ∀ (a : Ob) (kv : List (L2.Key × D)), (h ++ [a, .dct kv])[h.length + 1]? = some (.dct kv) := fun a kv => by
    rw [List.getElem?_append_right (by omega)]
    simp
  have sD : ∀ (a c : Ob) (kv : List (L2.Key × D)), (h ++ [a, .dct kv]).set (h.length + 1) c = h ++ [a, c] := fun a c kv => by
    rw [List.set_append_right _ _ (by omega)]
    simp
  have gI : ∀ (fs : List (Str × D)) (c : Ob), (h ++ [.ins 0 fs, c])[h.length]? = some (.ins 0 fs) := fun fs c => by
    rw [List.getElem?_append_right (by omega)]
    simp
  have sI : ∀ (a a' c : Ob), (h ++ [a, c]).set h.length a' = h ++ [a', c] := fun a a' c => by
    rw [List.set_append_right _ _ (by omega)]
    simp
  have fS : ∀ (f : Str) (d : D) (fs : List (Str × D)) (c : Ob), fs.length < 1000 → D.bels 0 [d] = true → fsetD (h.length + 1) 0 f (.ref h.length) d (h ++ [.ins 0 fs, c]) = some (h ++ [.ins 0 (putFD f d fs), c]) := fun f d fs c h3 h4 => by
    unfold fsetD
    simp only [gI]
    rw [if_pos ⟨trivial, h3⟩]
    unfold wr
    rw [if_pos ⟨.inl h4, by simp⟩, sI]
  have dG : ∀ (a : Ob) {z : Nat}, z < total p → mtF (h.length + 1) .get (.ref (h.length + 1)) [.int z] (h ++ [a, .dct (kvH p p.sizes.length)]) = some (dEnt (shOf p z), h ++ [a, .dct (kvH p p.sizes.length)]) := fun a z hz => by
    show dGet _ _ _ _ = _
    unfold dGet getK
    simp only [gD]
    show some ((look (kvH p p.sizes.length) (.inl (z : Int))).getD .non, _) = _
    rw [kvH_get hz]
  have tG : ∀ (a : Ob) (kv : List (L2.Key × D)), mtTy .get (.ref (h.length + 1)) (h ++ [a, .dct kv]) = true := fun a kv => by
    show (getK _ _).isSome = true
    unfold getK
    simp only [gD]
    rfl
  have cyc : ∀ (a : Ob) (a8 a9 a10 : Option D) {w : Nat}, w < total p → ∀ Q : List D × Store → Prop, Q (dOn p s.time w, h ++ [a, .dct (kvH p p.sizes.length)]) →
      opt (lcL none (lcB { b := h.length + 1, call := callI P (n + 5) } (.name 9) .none (.lc false (.mth .get (.var 7) (.cons (.ix (.var 10) (.int 1)) .nil)) (.name 10) (.evx (.ix (.var 5) (.var 9))) .none [10])
        (wipeD [some (.ref h.length), some (dPlan p), some (dSt s), some (.int x), some (.int y), some (.lst SL), some (dEff (eff p s.time (patL p))), some (.ref (h.length + 1)), a8, a9, a10] [9]))
        ((orb (total p) (eff p s.time (patL p)) w).map dI) (h ++ [a, .dct (kvH p p.sizes.length)])) Q := by
    intro a a8 a9 a10 w hw Q hQ
    refine lc_rule dI (fun z => some (.lst ((List.range (patL p)).map fun k => dEnt (ws p s.time z (k + 1))))) (live_none _) (fun z hz => ?_) ?_
    · have hzN := orb_sub pe hw hz
      simp [wipeD, getV, dI]
      refine opt_of_eq (show ixD _ (D.lst SL) (z : Int) = some (.lst (stepsD p s.time z (patL p))) from atI_nat (by rw [hSL, List.getElem?_map, List.getElem?_range hzN]; rfl)) ?_
      simp [stepsD]
      refine ⟨le_size (by omega), ?_⟩
      refine lc_rule (dStep p s.time z) (fun k => some (dEnt (ws p s.time z (k + 1)))) (live_none _) (fun k hk => ?_) ?_
      · simp [wipeD, getV]
        refine ⟨tG _ _, ?_⟩
        refine opt_of_eq (show ixD _ (dStep p s.time z k) 1 = some (.int (pos p s.time z (k + 1))) from rfl) ?_
        refine opt_of_eq (dG a (pos_lt o hzN (k + 1))) ?_
        first | exact ⟨rfl, rfl⟩ | simp [ws]
      · rw [show (List.range (patL p)).filterMap (fun k => some (dEnt (ws p s.time z (k + 1)))) = (List.range (patL p)).map (fun k => dEnt (ws p s.time z (k + 1))) from congrFun (List.filterMap_eq_map (f := fun k => dEnt (ws p s.time z (k + 1)))) _]
        exact ⟨rfl, rfl⟩
    · rw [show (orb (total p) (eff p s.time (patL p)) w).filterMap (fun z => some (D.lst ((List.range (patL p)).map fun k => dEnt (ws p s.time z (k + 1))))) = dOn p s.time w from ?_]
      · exact hQ
      · rw [show (orb (total p) (eff p s.time (patL p)) w).filterMap (fun z => some (D.lst ((List.range (patL p)).map fun k => dEnt (ws p s.time z (k + 1))))) = (orb (total p) (eff p s.time (patL p)) w).map (fun z => D.lst ((List.range (patL p)).map fun k => dEnt (ws p s.time z (k + 1)))) from congrFun (List.filterMap_eq_map (f := fun z => D.lst ((List.range (patL p)).map fun k => dEnt (ws p s.time z (k + 1))))) _]
        unfold orb dOn
        rw [List.map_map]
        apply List.map_congr_left
        intro j _
        simp only [Function.comp]
        congr 1
        apply List.map_congr_left
        intro k _
        rw [ws_pat o (patL_per o) s.time hw]
  refine fr_nx (fun j : Nat => D.int j) (fun j e1 h1 => (∃ a8 a9 a10, e1 = [some (.ref h.length), some (dPlan p), some (dSt s), some (.int x), some (.int y), some (.lst SL), some (dEff (eff p s.time (patL p))), some (.ref (h.length + 1)), a8, a9, a10]) ∧ h1 = h ++ [.ins 0 [], .dct (kvH p j)]) ⟨⟨_, _, _, rfl⟩, by simp [kvH]⟩ (fun _ _ _ _ => live_none _) (fun j q e1 h1 hx2 hI => ?_) (fun e1 h1 hI => ?_)
  · obtain ⟨⟨a8, a9, a10, rfl⟩, rfl⟩ := hI
    obtain ⟨hj, rfl⟩ := range_at hx2
    obtain ⟨z, hz⟩ : ∃ z, p.sizes[q]? = some z := ⟨p.sizes[q], List.getElem?_eq_getElem hj⟩
    have hfl := firstOn_le (p := p) hj
    have hz2 : p.sizes.getD q 0 = z := by simp [hz]
    rw [hz2] at hfl
    simp [getV]
    refine ⟨by simp [mtTy, isDct, gD], ?_⟩
    refine opt_of_eq (places_on_ok (H.sub rfl) hz (by omega)) ?_
    simp
    refine ⟨le_size (by omega), ?_⟩
    refine lc_rule (fun k : Nat => dI (firstOn p q + k)) (fun k => some (.tup [dI (firstOn p q + k), .int q])) (live_none _) (fun k hk => ?_) ?_
    · simp [wipeD, getV, dI]
      exact le_size (by omega)
    · rw [show (List.range z).filterMap (fun k => some (D.tup [dI (firstOn p q + k), .int q])) = (List.range z).map (fun k => D.tup [dI (firstOn p q + k), .int q]) from congrFun (List.filterMap_eq_map (f := fun k => D.tup [dI (firstOn p q + k), .int q])) _]
      have epd : ∀ l : List Nat, pairsD (l.map fun k => D.tup [dI (firstOn p q + k), .int q]) = some (l.map fun k : Nat => (((.inl ((firstOn p q + k : Nat) : Int)) : L2.Key), D.int q)) := by
        intro l
        induction l with
        | nil => rfl
        | cons k l ih =>
          rw [List.map_cons, List.map_cons]
          simp only [dI] at ih ⊢
          simp only [pairsD, dKey, ih]
      have hlen : (kvH p q).length + z ≤ total p := by
        unfold kvH
        rw [List.length_map, List.length_range]
        unfold firstOn at hfl
        omega
      refine opt_of_eq (upd_ref (gD _ _) (show getR _ (D.lst _) = some _ from rfl) (epd _) (by simp; omega) ?_ ?_ (.inl ?_)) ?_
      · rw [List.map_map]
        exact List.pairwise_map.mpr (List.nodup_range.imp fun {a b} hab hz => hab (by simp at hz; omega))
      · intro r hr r2 hr2
        obtain ⟨k, _, rfl⟩ := List.mem_map.mp hr
        obtain ⟨i, hi, rfl⟩ := List.mem_map.mp hr2
        rw [List.mem_range] at hi
        simp
        unfold firstOn
        omega
      · rw [List.map_map]
        exact bels_map (fun _ => rfl) _
      · rw [sD, kvH_succ hz]
  · obtain ⟨⟨a8, a9, a10, rfl⟩, rfl⟩ := hI
    rw [List.length_range]
    simp [getV]
    refine opt_of_eq (pattern_of_ok (H.sub rfl) o) ?_
    simp
    refine opt_of_eq (fS _ _ _ _ (by simp) rfl) ?_
    simp [tG]
    refine opt_of_eq (dG _ hx) ?_
    simp [tG]
    refine opt_of_eq (dG _ hy) ?_
    simp
    refine ⟨le_size (by omega), ?_⟩
    have hE : ∀ o : Option Nat, (dEnt o).bel 0 = true := fun o => by cases o <;> rfl
    refine opt_of_eq (fS _ _ _ _ len_put1 (by simp [D.bels, D.bel, hE])) ?_
    have hB : ∀ w, D.bels 0 [D.lst (dOn p s.time w)] = true := fun w => by
      simp only [D.bels, D.bel, Bool.and_true]
      unfold dOn
      rw [bels_iff]
      intro d hd
      obtain ⟨j, _, rfl⟩ := List.mem_map.mp hd
      show D.bels 0 _ = true
      rw [bels_iff]
      intro d hd
      obtain ⟨k, _, rfl⟩ := List.mem_map.mp hd
      exact hE _
    have hO : ∀ w, w < total p → orbL (total p) (eff p s.time (patL p)) w ≤ total p := fun w hw => (orbL_spec pe hw).1
    have hO1 : ∀ w, 0 < orbL (total p) (eff p s.time (patL p)) w := fun w => orbL_pos _ _ _
    have hln : ∀ w, w < total p → ∀ hh, biF .len false [D.lst (dOn p s.time w)] hh = some (.int (orbL (total p) (eff p s.time (patL p)) w : Nat), hh) := fun w hw hh => by
      show some (D.int ((dOn p s.time w).length : Nat), hh) = _
      simp [dOn]
    refine opt_of_eq (cycle_from_ok (H.sub rfl) pe (by omega) hx) ?_
    refine opt_of_eq (wkX_tup _ _) ?_
    refine ⟨le_size (by have := hO x hx; simp [orb_len]; omega), ?_⟩
    refine cyc _ _ _ _ hx _ ?_
    refine opt_of_eq (fS _ _ _ _ len_put2 (hB x)) ?_
    refine opt_of_eq (cycle_from_ok (H.sub rfl) pe (by omega) hy) ?_
    refine opt_of_eq (wkX_tup _ _) ?_
    refine ⟨le_size (by have := hO y hy; simp [orb_len]; omega), ?_⟩
    refine cyc _ _ _ _ hy _ ?_
    refine opt_of_eq (fS _ _ _ _ len_put3 (hB y)) ?_
    refine opt_of_eq (show fldD 0 "one" (.ref h.length) _ = some (.lst (dOn p s.time x)) from ?_) ?_
    · unfold fldD
      simp only [gI]
      rfl
    refine opt_of_eq (hln x hx _) ?_
    refine opt_of_eq (show fldD 0 "other" (.ref h.length) _ = some (.lst (dOn p s.time y)) from ?_) ?_
    · unfold fldD
      simp only [gI]
      rfl
    refine opt_of_eq (hln y hy _) ?_
    refine opt_of_eq (lcm_ok (H.sub rfl) (hO1 x) (hO1 y) (by have := hO y hy; omega)) ?_
    refine opt_of_eq (fS _ _ _ _ len_put4 rfl) ?_
    show List.take (h.length + 1) (h ++ [_, _]) = _
    rw [List.take_append]
    simp
    refine ⟨List.take_of_length_le (by omega), ?_⟩
    have ne1 : ("length" : Str) ≠ "now" := by decide +kernel
    have ne2 : ("length" : Str) ≠ "one" := by decide +kernel
    have ne3 : ("length" : Str) ≠ "other" := by decide +kernel
    have ne4 : ("length" : Str) ≠ "rounds" := by decide +kernel
    have ne5 : ("now" : Str) ≠ "one" := by decide +kernel
    have ne6 : ("now" : Str) ≠ "other" := by decide +kernel
    have ne7 : ("now" : Str) ≠ "rounds" := by decide +kernel
    have ne8 : ("one" : Str) ≠ "other" := by decide +kernel
    have ne9 : ("one" : Str) ≠ "rounds" := by decide +kernel
    have neA : ("other" : Str) ≠ "rounds" := by decide +kernel
    simp only [putFD, if_neg ne1, if_neg ne2, if_neg ne3, if_neg ne4, if_neg ne5, if_neg ne6, if_neg ne7, if_neg ne8, if_neg ne9, if_neg neA]
    rfl
end
end Sp

set_option maxRecDepth 100000
set_option maxHeartbeats 1000000
/-! SpT: what a pair answers. -/
namespace Sp
open PySem L2 Sw Bd Pm
theorem ws_zero {p : Plan} (o : p.Ok) {t : Int} {x : Nat} (hx : x < total p) : ws p t x 0 = shOf p x := by
  have := ws_pat o (patL_per o) t hx 0 0
  unfold ws pos
  rw [show eff p t 0 = ids (total p) from ?_, ids_ap hx]
  unfold eff
  exact inv_ids _
theorem ent_not (o : Option Nat) (h : Store) : cmpD .notN (dEnt o) .non h = some o.isSome := by cases o <;> rfl
theorem isNon_ent (o : Option Nat) : isNonD (dEnt o) = !o.isSome := by cases o <;> rfl
theorem ent_eq (a b : Option Nat) (h : Store) : cmpD .eq (dEnt a) (dEnt b) h = some (decide (a = b)) := by
  have hnb : ∀ o : Option Nat, (dEnt o).nb = true := fun o => by cases o <;> rfl
  have hd : ∀ o : Option Nat, (dEnt o).dep < 12 := fun o => by cases o <;> (show 0 < 12; decide)
  by_cases e : a = b
  · subst e
    rw [decide_eq_true rfl]
    exact eqD_eq (pyOf_nb (hnb a) (hd a)) (pyOf_nb (hnb a) (hd a)) (hnb a)
  · rw [decide_eq_false e]
    refine eq_diff (hnb a) (hd a) (hnb b) (hd b) (fun z => e ?_) h
    cases a <;> cases b <;> simp [dEnt] at z ⊢
    omega
/-- a pair stands at m -/
def PairAt (p : Plan) (t : Int) (x y m : Nat) (h : Store) : Prop := h[m]? = some (.ins 0 (pairF p t x y))
section
variable {P : Nat → Option FDef} {n b : Nat} {h : Store} {p : Plan} {t : Int} {x y m : Nat}
theorem fld_at {f : Str} {d : D} (hm : PairAt p t x y m h) (e : (pairF p t x y).lookup f = some d) : fldD 0 f (.ref m) h = some d := by
  show (match h[m]? with
    | some (.ins cl' fs) => if cl' = 0 then fs.lookup f else none
    | _ => none) = _
  rw [show h[m]? = _ from hm]
  show (if 0 = 0 then (pairF p t x y).lookup f else none) = _
  rw [if_pos rfl, e]
theorem pf_length (hm : PairAt p t x y m h) : fldD 0 "length" (.ref m) h = some (.int (patL p)) := fld_at hm rfl
theorem pf_now (hm : PairAt p t x y m h) : fldD 0 "now" (.ref m) h = some (.lst [dEnt (shOf p x), dEnt (shOf p y)]) := fld_at hm rfl
theorem pf_one (hm : PairAt p t x y m h) : fldD 0 "one" (.ref m) h = some (.lst (dOn p t x)) := fld_at hm rfl
theorem pf_other (hm : PairAt p t x y m h) : fldD 0 "other" (.ref m) h = some (.lst (dOn p t y)) := fld_at hm rfl
theorem pf_rounds (hm : PairAt p t x y m h) : fldD 0 "rounds" (.ref m) h = some (.int (rnds p t x y)) := fld_at hm rfl
def c_meets_now : List Nat := [58]
theorem meets_now_ok (H : Has P c_meets_now) (o : p.Ok) (hx : x < total p) (hy : y < total p) (hm : PairAt p t x y m h) : callI P (n + 1) 58 [.ref m] b h = some (.bl (mb p t x y 0), h) := by
  refine opt_eq (call_of (H.f 58 rfl rfl) rfl rfl ?_)
  simp [F_Pair_meets_now, B_Pair_meets_now, getV]
  refine opt_of_eq (pf_now hm) ?_
  refine opt_of_eq (show ixD h (D.lst [dEnt (shOf p x), dEnt (shOf p y)]) 0 = some (dEnt (shOf p x)) from rfl) ?_
  simp [mb, ws_zero o hx, ws_zero o hy, isNon_ent]
  cases hs : shOf p x with
  | none => simp
  | some s0 =>
    simp
    refine opt_of_eq (pf_now hm) ?_
    refine opt_of_eq (show ixD h (D.lst [dEnt (shOf p x), dEnt (shOf p y)]) 0 = some (dEnt (shOf p x)) from rfl) ?_
    refine opt_of_eq (pf_now hm) ?_
    refine opt_of_eq (show ixD h (D.lst [dEnt (shOf p x), dEnt (shOf p y)]) 1 = some (dEnt (shOf p y)) from rfl) ?_
    refine opt_of_eq (ent_eq _ _ _) ?_
    simp [hs]
/-- the ticks of turn N at which they meet -/
def mIn (p : Plan) (t : Int) (x y N : Nat) : List Nat := (List.range (patL p)).filter fun k => mb p t x y (patL p * N + (k + 1))
def c_meetings_in : List Nat := [59]
theorem meetings_in_ok (H : Has P c_meetings_in) (o : p.Ok) (hx : x < total p) (hy : y < total p) (hm : PairAt p t x y m h) {N : Nat} : callI P (n + 1) 59 [.ref m, .int N] b h = some (.lst ((mIn p t x y N).map dI), h) := by
  have hL := patL_le o
  have hln : ∀ w hh, biF .len false [D.lst (dOn p t w)] hh = some (.int (orbL (total p) (eff p t (patL p)) w : Nat), hh) := fun w hh => by
    show some (D.int ((dOn p t w).length : Nat), hh) = _
    simp [dOn]
  have hmod : ∀ w, binop .mod false (.int (N : Int)) (.int (orbL (total p) (eff p t (patL p)) w : Nat)) h = some (.int (N % orbL (total p) (eff p t (patL p)) w : Nat), h) := fun w => by
    have := orbL_pos (total p) (eff p t (patL p)) w
    have e1 : binI .mod (N : Int) (orbL (total p) (eff p t (patL p)) w : Nat) = some ((N % orbL (total p) (eff p t (patL p)) w : Nat) : Int) := by
      show (if 0 < ((orbL (total p) (eff p t (patL p)) w : Nat) : Int) then some ((N : Int) % (orbL (total p) (eff p t (patL p)) w : Nat)) else none) = _
      rw [if_pos (by omega)]
      rfl
    show (binI .mod _ _).map _ = _
    rw [e1]
    rfl
  have hix : ∀ w, ixD h (D.lst (dOn p t w)) ((N % orbL (total p) (eff p t (patL p)) w : Nat) : Int) = some (.lst ((List.range (patL p)).map fun k => dEnt (ws p t w (patL p * (N % orbL (total p) (eff p t (patL p)) w) + (k + 1))))) := fun w =>
    atI_nat (by unfold dOn; rw [List.getElem?_map, List.getElem?_range (Nat.mod_lt _ (orbL_pos _ _ _))]; rfl)
  refine opt_eq (call_of (H.f 59 rfl rfl) rfl rfl ?_)
  simp [F_Pair_meetings_in, B_Pair_meetings_in, getV]
  refine opt_of_eq (pf_one hm) ?_
  refine opt_of_eq (pf_one hm) ?_
  refine opt_of_eq (hln x _) ?_
  refine opt_of_eq (hmod x) ?_
  simp only [onI_int]
  refine opt_of_eq (hix x) ?_
  refine opt_of_eq (pf_other hm) ?_
  refine opt_of_eq (pf_other hm) ?_
  refine opt_of_eq (hln y _) ?_
  refine opt_of_eq (hmod y) ?_
  simp only [onI_int]
  refine opt_of_eq (hix y) ?_
  refine opt_of_eq (pf_length hm) ?_
  simp only [onI_int]
  refine ⟨by constructor <;> omega, le_size (by simp [rangeL]; omega), ?_⟩
  rw [rangeL_nat]
  refine lc_rule (fun k : Nat => D.int k) (fun k => if mb p t x y (patL p * N + (k + 1)) = true then some (dI k) else none) (live_none _) (fun k hk => ?_) ?_
  · rw [List.mem_range] at hk
    have e1 : ∀ w, w < total p → ixD h (D.lst ((List.range (patL p)).map fun k => dEnt (ws p t w (patL p * (N % orbL (total p) (eff p t (patL p)) w) + (k + 1))))) (k : Int) = some (dEnt (ws p t w (patL p * N + (k + 1)))) := fun w hw =>
      atI_nat (by rw [List.getElem?_map, List.getElem?_range hk, ws_mod o (patL_per o) t hw (k + 1) N]; rfl)
    simp [wipeD, getV]
    refine opt_of_eq (e1 x hx) ?_
    simp [isNon_ent, mb]
    cases hs : ws p t x (patL p * N + (k + 1)) with
    | none => simp
    | some s0 =>
      simp
      refine opt_of_eq (e1 x hx) ?_
      refine opt_of_eq (e1 y hy) ?_
      refine opt_of_eq (ent_eq _ _ _) ?_
      simp [hs, dI]
  · rw [filterMap_if]
    exact opt_of_eq (froz_bel (show (D.lst ((mIn p t x y N).map dI)).bel h.length = true from bels_dI _ _)) ⟨rfl, List.take_length⟩
end
end Sp

set_option maxRecDepth 100000
set_option maxHeartbeats 1000000
/-! Pk: slices with a step. -/
namespace Sp
open PySem L2 Sw Bd Pm
theorem pick_map {α β : Type} (f : α → β) (xs : List α) (lo hi st : Option Int) : pickD (xs.map f) lo hi st = (pickD xs lo hi st).map f := by
  unfold pickD
  rw [List.length_map, List.map_filterMap]
  congr 1
  funext i
  simp
theorem pick_le {α : Type} (xs : List α) (r g : Nat) (hg : 0 < g) : (pickD xs (some (r : Int)) none (some (g : Int))).length ≤ xs.length := by
  unfold pickD
  refine Nat.le_trans (List.length_filterMap_le _ _) ?_
  refine sliceRange_length_le _ _ _ _ (fun _ => ?_) (fun h => ?_)
  · unfold sliceBounds
    have h1 : ((some (g : Int)).getD 1 : Int) > 0 := by show (g : Int) > 0; omega
    simp only [h1, if_true]
    constructor
    · split <;> omega
    · omega
  · exfalso
    apply h
    show (g : Int) > 0
    omega
theorem mem_pick {n r g j : Nat} (hg : 0 < g) (hr : r < g) : j ∈ pickD (List.range n) (some (r : Int)) none (some (g : Int)) ↔ j < n ∧ j % g = r := by
  have eb : sliceBounds (some (r : Int)) none (some (g : Int)) (List.range n).length = (((min r n : Nat) : Int), (n : Int), (g : Int)) := by
    unfold sliceBounds
    have h1 : ((some (g : Int)).getD 1 : Int) > 0 := by show (g : Int) > 0; omega
    have h2 : ¬ ((r : Int) < 0) := by omega
    simp only [h1, h2, if_true, if_false, List.length_range]
    refine Prod.ext ?_ rfl
    show max 0 (min (r : Int) n) = _
    omega
  unfold pickD
  rw [eb]
  simp only [List.mem_filterMap]
  have hidx : ∀ i : Nat, i ∈ sliceRange ((min r n : Nat) : Int) n g ↔ i < n ∧ i % g = r ∨ False := by
    intro i
    unfold sliceRange
    simp only [show (g : Int) > 0 by omega, if_true, or_false, List.mem_map, List.mem_range]
    by_cases hrn : r < n
    · rw [if_pos (by omega), Nat.min_eq_left (by omega)]
      have ec : (((n : Int) - r + g - 1) / g).toNat = (n - r + g - 1) / g := by
        rw [show (n : Int) - r + g - 1 = ((n - r + g - 1 : Nat) : Int) by omega, ← Int.natCast_ediv]
        rfl
      rw [ec]
      constructor
      · rintro ⟨k, hk, rfl⟩
        have e1 : ((r : Int) + g * k).toNat = r + g * k := by
          rw [show (r : Int) + g * k = ((r + g * k : Nat) : Int) by simp]
          rfl
        rw [e1]
        have h3 : (k + 1) * g ≤ n - r + g - 1 := (Nat.le_div_iff_mul_le hg).mp hk
        rw [Nat.add_mul, Nat.one_mul, Nat.mul_comm] at h3
        refine ⟨by omega, ?_⟩
        rw [Nat.add_mul_mod_self_left, Nat.mod_eq_of_lt hr]
      · rintro ⟨h1, h2⟩
        have h3 := Nat.div_add_mod i g
        refine ⟨i / g, ?_, ?_⟩
        · rw [Nat.lt_iff_add_one_le, Nat.le_div_iff_mul_le hg, Nat.add_mul, Nat.one_mul, Nat.mul_comm]
          omega
        · rw [show (r : Int) + g * ((i / g : Nat) : Int) = ((r + g * (i / g) : Nat) : Int) by simp]
          show r + g * (i / g) = i
          omega
    · rw [if_neg (by omega)]
      constructor
      · rintro ⟨k, hk, _⟩
        exact absurd hk (by simp)
      · rintro ⟨h1, h2⟩
        have := Nat.mod_le i g
        omega
  constructor
  · rintro ⟨i, hi, e⟩
    have h1 := ((hidx i).mp hi).resolve_right id
    rw [List.getElem?_range h1.1] at e
    cases e
    exact h1
  · intro hj
    exact ⟨j, (hidx j).mpr (.inl hj), List.getElem?_range hj.1⟩
end Sp

set_option maxRecDepth 100000
set_option maxHeartbeats 2000000
/-! SpU: can two meet at all. -/
namespace Sp
open PySem L2 Sw Bd Pm
theorem ne_diff {x y : D} (hn : x.nb = true) (hd : x.dep < 12) (hn2 : y.nb = true) (hd2 : y.dep < 12) (ne : x ≠ y) (h : Store) : cmpD .ne x y h = some true := by
  show (eqD h x y).map (!·) = _
  rw [show eqD h x y = some false from eqD_ne (pyOf_nb hn hd) (pyOf_nb hn2 hd2) hn hn2 ne]
  rfl
theorem ent_inj {a b : Option Nat} (h : dEnt a = dEnt b) : a = b := by
  cases a <;> cases b <;> simp [dEnt] at h ⊢
  omega
theorem ent_nb (o : Option Nat) : (dEnt o).nb = true := by cases o <;> rfl
theorem ent_dep (o : Option Nat) : (dEnt o).dep ≤ 0 := by cases o <;> exact Nat.le_refl 0
/-- a turn's row of shelves -/
def rowD (p : Plan) (t : Int) (x j : Nat) : D := .lst ((List.range (patL p)).map fun k => dEnt (ws p t x (patL p * j + (k + 1))))
theorem row_nb (p : Plan) (t : Int) (x j : Nat) : (rowD p t x j).nb = true := by
  show D.nbs _ = true
  exact nbs_map (fun k => ent_nb _) _
theorem row_dep (p : Plan) (t : Int) (x j : Nat) : (rowD p t x j).dep ≤ 1 := by
  have := deps_map (f := fun k => dEnt (ws p t x (patL p * j + (k + 1)))) (fun k => ent_dep _) (List.range (patL p))
  simp only [rowD, D.dep]
  omega
theorem row_ix {p : Plan} {t : Int} {x j k : Nat} (hk : k < patL p) (h : Store) : ixD h (rowD p t x j) (k : Int) = some (dEnt (ws p t x (patL p * j + (k + 1)))) := atI_nat (by rw [List.getElem?_map, List.getElem?_range hk]; rfl)
/-- meeting at tick k of the turns of rest r -/
def hit (p : Plan) (t : Int) (x y g r k : Nat) : Prop := ∃ i j s, i % g = r ∧ j % g = r ∧ i < orbL (total p) (eff p t (patL p)) x ∧ j < orbL (total p) (eff p t (patL p)) y ∧ ws p t x (patL p * i + (k + 1)) = some s ∧ ws p t y (patL p * j + (k + 1)) = some s
def canP (p : Plan) (t : Int) (x y : Nat) : Prop := ∃ N k, k < patL p ∧ mb p t x y (patL p * N + (k + 1)) = true
theorem can_iff {p : Plan} (o : p.Ok) {t : Int} {x y : Nat} (hx : x < total p) (hy : y < total p) :
    canP p t x y ↔ ∃ r k, r < Nat.gcd (orbL (total p) (eff p t (patL p)) x) (orbL (total p) (eff p t (patL p)) y) ∧ k < patL p ∧ hit p t x y (Nat.gcd (orbL (total p) (eff p t (patL p)) x) (orbL (total p) (eff p t (patL p)) y)) r k := by
  have h1 := orbL_pos (total p) (eff p t (patL p)) x
  have h2 := orbL_pos (total p) (eff p t (patL p)) y
  have hg : 0 < Nat.gcd (orbL (total p) (eff p t (patL p)) x) (orbL (total p) (eff p t (patL p)) y) := Nat.gcd_pos_of_pos_left _ h1
  constructor
  · rintro ⟨N, k, hk, hm⟩
    refine ⟨N % Nat.gcd (orbL (total p) (eff p t (patL p)) x) (orbL (total p) (eff p t (patL p)) y), k, Nat.mod_lt _ hg, hk, N % orbL (total p) (eff p t (patL p)) x, N % orbL (total p) (eff p t (patL p)) y, ?_⟩
    simp only [mb, Bool.and_eq_true, decide_eq_true_eq] at hm
    obtain ⟨s, hs⟩ := Option.isSome_iff_exists.mp hm.1
    refine ⟨s, Nat.mod_mod_of_dvd _ (Nat.gcd_dvd_left _ _), Nat.mod_mod_of_dvd _ (Nat.gcd_dvd_right _ _), Nat.mod_lt _ h1, Nat.mod_lt _ h2, ?_, ?_⟩
    · rw [← ws_mod o (patL_per o) t hx, hs]
    · rw [← ws_mod o (patL_per o) t hy, ← hm.2, hs]
  · rintro ⟨r, k, hr, hk, i, j, s, hi, hj, _, _, e1, e2⟩
    obtain ⟨N, hN⟩ := mb_ex o (patL_per o) t hx hy (by rw [hi, hj]) e1 e2
    exact ⟨N, k, hk, hN⟩
section
variable {P : Nat → Option FDef} {n b : Nat} {h : Store} {p : Plan} {t : Int} {x y m : Nat}
def c_can_meet : List Nat := [60, 7]
theorem can_meet_ok (H : Has P c_can_meet) (o : p.Ok) (hx : x < total p) (hy : y < total p) (hm : PairAt p t x y m h) : ∃ v, callI P (n + 2) 60 [.ref m] b h = some (.bl v, h) ∧ (v = true ↔ canP p t x y) := by
  suffices hh : opt (callI P (n + 2) 60 [.ref m] b h) fun r => ∃ v, r = (.bl v, h) ∧ (v = true ↔ canP p t x y) by
    obtain ⟨r, e, v, rfl, q⟩ := hh
    exact ⟨v, e, q⟩
  have hT := total_le o
  have hL := patL_le o
  have pe := eff_isP o t (patL p)
  obtain ⟨ox, hox⟩ : ∃ ox, ox = orbL (total p) (eff p t (patL p)) x := ⟨_, rfl⟩
  obtain ⟨oy, hoy⟩ : ∃ oy, oy = orbL (total p) (eff p t (patL p)) y := ⟨_, rfl⟩
  obtain ⟨g, hg⟩ : ∃ g, g = Nat.gcd ox oy := ⟨_, rfl⟩
  have hox1 : 0 < ox := by rw [hox]; exact orbL_pos _ _ _
  have hoxN : ox ≤ total p := by rw [hox]; exact (orbL_spec pe hx).1
  have hoyN : oy ≤ total p := by rw [hoy]; exact (orbL_spec pe hy).1
  have hg0 : 0 < g := by rw [hg]; exact Nat.gcd_pos_of_pos_left _ hox1
  have hgN : g ≤ ox := by rw [hg]; exact Nat.le_of_dvd hox1 (Nat.gcd_dvd_left _ _)
  have hci := can_iff o (t := t) hx hy
  rw [← hox, ← hoy, ← hg] at hci
  have done : dOn p t x = (List.range ox).map (rowD p t x) := by rw [hox]; rfl
  have doth : dOn p t y = (List.range oy).map (rowD p t y) := by rw [hoy]; rfl
  refine call_of (H.f 60 rfl rfl) rfl rfl ?_
  simp [F_Pair_can_meet, B_Pair_can_meet, getV]
  refine opt_of_eq (pf_one hm) ?_
  refine opt_of_eq (show biF .len false [D.lst (dOn p t x)] h = some (.int ox, h) from ?_) ?_
  · show some (D.int ((dOn p t x).length : Nat), h) = _
    simp [done]
  refine opt_of_eq (pf_other hm) ?_
  refine opt_of_eq (show biF .len false [D.lst (dOn p t y)] h = some (.int oy, h) from ?_) ?_
  · show some (D.int ((dOn p t y).length : Nat), h) = _
    simp [doth]
  refine opt_of_eq (gcd_ok (H.sub rfl)) ?_
  rw [← hg]
  simp
  refine ⟨by constructor <;> omega, ?_⟩
  rw [rangeL_nat]
  refine fr_ret (fun r : Nat => D.int r) (fun j e1 h1 => (∃ a2 a3 a4 a5, e1 = [some (.ref m), some (.int g), a2, a3, a4, a5]) ∧ h1 = h ∧ ∀ r k, r < j → k < patL p → ¬ hit p t x y g r k) ⟨⟨_, _, _, _, rfl⟩, rfl, fun r k hr => absurd hr (by omega)⟩ (fun _ _ _ _ => live_none _) (fun j r e1 h1 hr hI => ?_) (fun e1 h1 hI => ?_)
  · obtain ⟨⟨a2, a3, a4, a5, rfl⟩, rfl, hno⟩ := hI
    obtain ⟨hrg, rfl⟩ := range_at hr
    simp [getV]
    refine opt_of_eq (pf_length hm) ?_
    simp
    refine ⟨by constructor <;> omega, ?_⟩
    rw [rangeL_nat]
    have sl : ∀ w ow, dOn p t w = (List.range ow).map (rowD p t w) → sl3D false (.lst (dOn p t w)) (some (r : Int)) none (g : Int) h1 = some (.lst ((pickD (List.range ow) (some (r : Int)) none (some (g : Int))).map (rowD p t w)), h1) := fun w ow e => by
      unfold sl3D
      rw [if_pos (by omega)]
      show some (mkL false (pickD (dOn p t w) _ _ _) h1) = _
      rw [mkL_f, e, pick_map]
    obtain ⟨PX, hPX⟩ : ∃ PX, PX = pickD (List.range ox) (some (r : Int)) none (some (g : Int)) := ⟨_, rfl⟩
    obtain ⟨PY, hPY⟩ : ∃ PY, PY = pickD (List.range oy) (some (r : Int)) none (some (g : Int)) := ⟨_, rfl⟩
    have mX : ∀ i, i ∈ PX ↔ i < ox ∧ i % g = r := fun i => by rw [hPX]; exact mem_pick hg0 hrg
    have mY : ∀ i, i ∈ PY ↔ i < oy ∧ i % g = r := fun i => by rw [hPY]; exact mem_pick hg0 hrg
    have lX : PX.length ≤ ox := by have := pick_le (List.range ox) r g hg0; rw [List.length_range] at this; rw [hPX]; exact this
    have lY : PY.length ≤ oy := by have := pick_le (List.range oy) r g hg0; rw [List.length_range] at this; rw [hPY]; exact this
    refine fr_ret dI (fun i e1 h2 => (∃ a3 a4 a5, e1 = [some (.ref m), some (.int g), some (.int r), a3, a4, a5]) ∧ h2 = h1 ∧ ∀ k, k < i → ¬ hit p t x y g r k) ⟨⟨_, _, _, rfl⟩, rfl, fun k hk => absurd hk (by omega)⟩ (fun _ _ _ _ => live_none _) (fun i k e1 h2 hk hI => ?_) (fun e1 h2 hI => ?_)
    · obtain ⟨⟨a3, a4, a5, rfl⟩, rfl, hno2⟩ := hI
      obtain ⟨hkL, rfl⟩ := range_at hk
      simp [getV, dI]
      refine opt_of_eq (pf_one hm) ?_
      refine opt_of_eq (sl x ox done) ?_
      rw [← hPX]
      refine opt_of_eq (wkX_lst _ _) ?_
      refine ⟨le_size (by simp; omega), ?_⟩
      refine lc_rule (rowD p t x) (fun i => if (ws p t x (patL p * i + (k + 1))).isSome = true then some (dEnt (ws p t x (patL p * i + (k + 1)))) else none) (live_none _) (fun i hi => ?_) ?_
      · simp [wipeD, getV]
        refine opt_of_eq (row_ix hkL _) ?_
        cases hs : ws p t x (patL p * i + (k + 1)) with
        | none => simp [dEnt, isNonD]
        | some s0 =>
          simp [dEnt, isNonD]
          refine opt_of_eq (row_ix hkL _) ?_
          simp [hs, dEnt]
      · rw [filterMap_if]
        obtain ⟨MV, hMV⟩ : ∃ MV : List (Option Nat), MV = (PX.filter fun i => (ws p t x (patL p * i + (k + 1))).isSome).map fun i => ws p t x (patL p * i + (k + 1)) := ⟨_, rfl⟩
        have eMV : ((PX.filter fun i => (ws p t x (patL p * i + (k + 1))).isSome).map fun i => dEnt (ws p t x (patL p * i + (k + 1)))) = MV.map dEnt := by rw [hMV, List.map_map]; rfl
        rw [eMV]
        simp
        refine opt_of_eq (pf_other hm) ?_
        refine opt_of_eq (sl y oy doth) ?_
        rw [← hPY]
        refine opt_of_eq (wkX_lst _ _) ?_
        refine ⟨le_size (by simp; omega), ?_⟩
        have nMV : D.nbs (MV.map dEnt) = true := nbs_map ent_nb _
        have dMV : D.deps (MV.map dEnt) ≤ 0 := deps_map ent_dep _
        refine lc_rule (rowD p t y) (fun j => if decide (ws p t y (patL p * j + (k + 1)) ∈ MV) = true then some (rowD p t y j) else none) (live_none _) (fun j hj => ?_) ?_
        · simp [wipeD, getV]
          refine opt_of_eq (row_ix hkL _) ?_
          refine opt_inL (x := dEnt (ws p t y (patL p * j + (k + 1)))) (ent_nb _) (by have := ent_dep (ws p t y (patL p * j + (k + 1))); omega) (pyOf_nb (d := .lst (MV.map dEnt)) nMV (by simp only [D.dep]; omega)) (fun _ h => nomatch h) nMV (fun hin => ?_) (fun hin => ?_)
          · obtain ⟨a, ha, e⟩ := List.mem_map.mp hin
            have := ent_inj e
            subst this
            simp [ha]
          · have hn : ws p t y (patL p * j + (k + 1)) ∉ MV := fun z => hin (List.mem_map.mpr ⟨_, z, rfl⟩)
            simp [hn]
        · rw [filterMap_if]
          obtain ⟨FY, hFY⟩ : ∃ FY, FY = PY.filter fun j => decide (ws p t y (patL p * j + (k + 1)) ∈ MV) := ⟨_, rfl⟩
          rw [← hFY]
          have nR : (D.lst (FY.map (rowD p t y))).nb = true := nbs_map (fun j => row_nb p t y j) _
          have dR : (D.lst (FY.map (rowD p t y))).dep < 12 := by
            have := deps_map (f := rowD p t y) (fun j => row_dep p t y j) FY
            simp only [D.dep]
            omega
          have key : FY ≠ [] ↔ hit p t x y g r k := by
            constructor
            · intro hne
              obtain ⟨j, hj⟩ := List.exists_mem_of_ne_nil _ hne
              rw [hFY, List.mem_filter] at hj
              obtain ⟨hj1, hj2⟩ := hj
              rw [decide_eq_true_eq, hMV] at hj2
              obtain ⟨i, hi, e⟩ := List.mem_map.mp hj2
              rw [List.mem_filter] at hi
              obtain ⟨s, hs⟩ := Option.isSome_iff_exists.mp hi.2
              obtain ⟨i1, i2⟩ := (mX i).mp hi.1
              obtain ⟨j1, j2⟩ := (mY j).mp hj1
              exact ⟨i, j, s, i2, j2, by rw [← hox]; exact i1, by rw [← hoy]; exact j1, hs, by rw [← e, hs]⟩
            · rintro ⟨i, j, s, i2, j2, i1, j1, e1, e2⟩ hz
              rw [← hox] at i1
              rw [← hoy] at j1
              have : j ∈ FY := by
                rw [hFY, List.mem_filter]
                refine ⟨(mY j).mpr ⟨j1, j2⟩, ?_⟩
                rw [decide_eq_true_eq, hMV, e2]
                exact List.mem_map.mpr ⟨i, List.mem_filter.mpr ⟨(mX i).mpr ⟨i1, i2⟩, by rw [e1]; rfl⟩, e1⟩
              rw [hz] at this
              cases this
          simp
          by_cases hz : FY = []
          · rw [hz]
            refine opt_of_eq (ne_same (x := .lst []) rfl (by decide) _) ?_
            simp
            intro k' hk'
            by_cases hkk : k' = k
            · subst hkk
              exact fun z => key.mpr z hz
            · exact hno2 k' (by omega)
          · refine opt_of_eq (ne_diff nR dR (y := .lst []) rfl (by decide) (fun z => hz ?_) _) ?_
            · have := D.lst.inj z
              simpa using this
            · simp
              rw [hci]
              exact ⟨r, k, hrg, hkL, key.mp hz⟩
    · obtain ⟨⟨a3, a4, a5, rfl⟩, rfl, hno2⟩ := hI
      rw [List.length_range] at hno2
      simp
      intro r' k' hr' hk'
      by_cases hrr : r' = r
      · subst hrr
        exact hno2 k' hk'
      · exact hno r' k' (by omega) hk'
  · obtain ⟨⟨a2, a3, a4, a5, rfl⟩, rfl, hno⟩ := hI
    rw [List.length_range] at hno
    simp
    rw [hci]
    rintro ⟨r, k, hr, hk, hh⟩
    exact hno r k hr hk hh
end
end Sp

set_option maxRecDepth 100000
set_option maxHeartbeats 2000000
/-! SpV: the first meeting. -/
namespace Sp
open PySem L2 Sw Bd Pm
/-- the first tick at which two meet -/
def FirstM (p : Plan) (t : Int) (x y : Nat) : Option Nat → Prop
  | some k => mb p t x y k = true ∧ ∀ i, i < k → mb p t x y i = false
  | none => ∀ i, mb p t x y i = false
theorem mIn_nil {p : Plan} {t : Int} {x y N : Nat} : mIn p t x y N = [] ↔ ∀ k, k < patL p → mb p t x y (patL p * N + (k + 1)) = false := by
  unfold mIn
  rw [List.filter_eq_nil_iff]
  simp
theorem mIn_cons {p : Plan} {t : Int} {x y N k : Nat} {r : List Nat} (h : mIn p t x y N = k :: r) : k < patL p ∧ mb p t x y (patL p * N + (k + 1)) = true ∧ ∀ i, i < k → mb p t x y (patL p * N + (i + 1)) = false := by
  have h1 : ((List.range (patL p)).filter fun k => mb p t x y (patL p * N + (k + 1))).head? = some k := by
    rw [show ((List.range (patL p)).filter fun k => mb p t x y (patL p * N + (k + 1))) = k :: r from h]
    rfl
  rw [List.head?_filter, List.find?_eq_some_iff_getElem] at h1
  obtain ⟨h2, i, hi, e, h3⟩ := h1
  rw [List.length_range] at hi
  rw [List.getElem_range] at e
  subst e
  refine ⟨hi, h2, fun j hj => ?_⟩
  have := h3 j hj
  rw [List.getElem_range] at this
  simpa using this
/-- every tick but 0 is in a turn -/
theorem tick_turn {p : Plan} (o : p.Ok) {i : Nat} (hi : 0 < i) : ∃ N k, k < patL p ∧ i = patL p * N + (k + 1) := by
  have hL := patL_pos o
  refine ⟨(i - 1) / patL p, (i - 1) % patL p, Nat.mod_lt _ hL, ?_⟩
  have := Nat.div_add_mod (i - 1) (patL p)
  omega
section
variable {P : Nat → Option FDef} {n b : Nat} {h : Store} {p : Plan} {t : Int} {x y m : Nat}
def c_first : List Nat := [61, 58, 60, 7, 59]
theorem first_ok (H : Has P c_first) (o : p.Ok) (hx : x < total p) (hy : y < total p) (hm : PairAt p t x y m h) : ∃ r, callI P (n + 3) 61 [.ref m] b h = some (dEnt r, h) ∧ FirstM p t x y r := by
  suffices hh : opt (callI P (n + 3) 61 [.ref m] b h) fun q => ∃ r, q = (dEnt r, h) ∧ FirstM p t x y r by
    obtain ⟨q, e, r, rfl, z⟩ := hh
    exact ⟨r, e, z⟩
  have hL := patL_le o
  refine call_of (H.f 61 rfl rfl) rfl rfl ?_
  simp [F_Pair_first, B_Pair_first, getV]
  refine opt_of_eq (show mthD 0 "meets_now" (.ref m) h = some m from ?_) ?_
  · unfold mthD
    simp only [show h[m]? = _ from hm]
    rfl
  refine opt_of_eq (meets_now_ok (H.sub rfl) o hx hy hm) ?_
  simp
  have md : ∀ f : Str, (pairF p t x y).lookup f = none → mthD 0 f (.ref m) h = some m := fun f hf => by
    unfold mthD
    simp only [show h[m]? = _ from hm]
    rw [if_pos ⟨trivial, hf⟩]
  by_cases h0 : mb p t x y 0 = true
  · rw [if_pos h0]
    exact ⟨some 0, rfl, h0, fun i hi => absurd hi (by omega)⟩
  · rw [if_neg h0]
    have h0 : mb p t x y 0 = false := by simpa using h0
    obtain ⟨v, ev, hv⟩ := can_meet_ok (n := n) (b := h.length) (H.sub rfl) o hx hy hm
    by_cases hc : canP p t x y
    · have hv1 : v = true := hv.mpr hc
      subst hv1
      obtain ⟨N0, k0, hk0, hm0⟩ := hc
      refine wh_nx (fun mm e1 h1 => ∃ (N : Nat) (a2 : Option D), mm = N0 + 1 - N ∧ N ≤ N0 ∧ e1 = [some (.ref m), some (.int (N : Nat)), a2] ∧ h1 = h ∧ ∀ N', N' < N → mIn p t x y N' = []) (fun mm e1 h1 hI => ?_) (N0 + 1) ⟨0, _, rfl, by omega, rfl, rfl, fun N' hN' => absurd hN' (by omega)⟩
      obtain ⟨N, a2, rfl, hN, rfl, rfl, hno⟩ := hI
      simp [getV]
      refine opt_of_eq (md "can_meet" rfl) ?_
      refine opt_of_eq ev ?_
      simp
      refine opt_of_eq (md "meetings_in" rfl) ?_
      refine opt_of_eq (meetings_in_ok (H.sub rfl) o hx hy hm) ?_
      have hlen : (mIn p t x y N).length ≤ patL p := by
        unfold mIn
        have := List.length_filter_le (fun k => mb p t x y (patL p * N + (k + 1))) (List.range (patL p))
        rw [List.length_range] at this
        exact this
      cases hmi : mIn p t x y N with
      | nil =>
        refine opt_of_eq (ne_same (x := .lst []) rfl (by decide) _) ?_
        have hNe : N ≠ N0 := fun z => by
          have := mIn_nil.mp hmi k0 hk0
          rw [z, hm0] at this
          cases this
        rw [if_neg (by simp)]
        refine opt_of_eq (show augI .add (N : Int) 1 = some ((N + 1 : Nat) : Int) from rfl) ?_
        refine ⟨N0 + 1 - (N + 1), by omega, N + 1, rfl, by omega, rfl, rfl, fun N' hN' => ?_⟩
        by_cases e : N' = N
        · rw [e]; exact hmi
        · exact hno N' (by omega)
      | cons k r =>
        obtain ⟨q1, q2, q3⟩ := mIn_cons hmi
        have nR : (D.lst ((k :: r).map dI)).nb = true := nb_dI _
        have dR : (D.lst ((k :: r).map dI)).dep < 12 := by
          have := deps_dI (k :: r)
          simp only [D.dep]
          omega
        refine opt_of_eq (ne_diff nR dR (y := .lst []) rfl (by decide) (fun z => by cases z) _) ?_
        rw [if_pos rfl]
        refine opt_of_eq (pf_length hm) ?_
        refine opt_of_eq (show binop Bop.mul false (D.int (N : Int)) (D.int (patL p)) h1 = some (.int ((N : Int) * (patL p : Nat)), h1) from ?_) ?_
        · have hsm : small ((patL p : Nat) : Int) := by constructor <;> omega
          have e1 : binI .mul (N : Int) (patL p : Nat) = some ((N : Int) * (patL p : Nat)) := by
            unfold binI
            exact if_pos (Or.inr hsm)
          simp only [binop, e1, Option.map_some]
        refine opt_of_eq (show ixD h1 (D.lst ((k :: r).map dI)) 0 = some (.int k) from atI_nat (k := 0) rfl) ?_
        refine opt_of_eq (show binop Bop.add false (D.int ((N : Int) * (patL p : Nat))) (D.int k) h1 = some (.int ((N : Int) * (patL p : Nat) + k), h1) from rfl) ?_
        refine opt_of_eq (show binop Bop.add false (D.int ((N : Int) * (patL p : Nat) + k)) (D.int 1) h1 = some (.int ((N : Int) * (patL p : Nat) + k + 1), h1) from rfl) ?_
        refine opt_of_eq (froz_bel rfl) ?_
        refine ⟨some (patL p * N + (k + 1)), ⟨?_, List.take_length⟩, q2, fun i hi => ?_⟩
        · show D.int _ = D.int _
          congr 1
          rw [Int.natCast_add, Int.natCast_mul, Int.mul_comm, Int.natCast_add]
          omega
        · by_cases hi0 : i = 0
          · rw [hi0]; exact h0
          · obtain ⟨N', k', hk', rfl⟩ := tick_turn o (i := i) (by omega)
            rcases Nat.lt_trichotomy N' N with hl | he | hl
            · exact mIn_nil.mp (hno N' hl) k' hk'
            · subst he
              exact q3 k' (by omega)
            · have := Nat.mul_le_mul_left (patL p) (show N + 1 ≤ N' from hl)
              rw [Nat.mul_add, Nat.mul_one] at this
              omega
    · have hv1 : v = false := by
        cases v with
        | false => rfl
        | true => exact absurd (hv.mp rfl) hc
      subst hv1
      refine wh_nx (fun mm e1 h1 => e1 = [some (.ref m), some (.int 0), none] ∧ h1 = h) (fun mm e1 h1 hI => ?_) 0 ⟨rfl, rfl⟩
      obtain ⟨rfl, rfl⟩ := hI
      simp [getV]
      refine opt_of_eq (md "can_meet" rfl) ?_
      refine opt_of_eq ev ?_
      simp
      refine ⟨none, rfl, fun i => ?_⟩
      by_cases hi : i = 0
      · rw [hi]; exact h0
      · obtain ⟨N, k, hk, rfl⟩ := tick_turn o (i := i) (by omega)
        cases hmb : mb p t x y (patL p * N + (k + 1)) with
        | false => rfl
        | true => exact absurd ⟨N, k, hk, hmb⟩ hc
end
end Sp

set_option maxRecDepth 100000
set_option maxHeartbeats 1000000
/-! Pc: how often two meet. -/
namespace Sp
open Pm
/-- how often they meet in the ticks 1 .. T -/
def cnt (p : Plan) (t : Int) (x y T : Nat) : Nat := ((List.range T).filter fun k => mb p t x y (k + 1)).length
def sumC (p : Plan) (t : Int) (x y W : Nat) : Nat := ((List.range W).map fun N => (mIn p t x y N).length).sum
theorem cnt_add (p : Plan) (t : Int) (x y a b : Nat) : cnt p t x y (a + b) = cnt p t x y a + ((List.range b).filter fun k => mb p t x y (a + (k + 1))).length := by
  unfold cnt
  rw [List.range_add, List.filter_append, List.length_append, List.filter_map, List.length_map]
  congr 1
theorem sumC_succ (p : Plan) (t : Int) (x y W : Nat) : sumC p t x y (W + 1) = sumC p t x y W + (mIn p t x y W).length := by
  unfold sumC
  rw [List.range_succ, List.map_append, List.sum_append]
  simp
theorem cnt_turns (p : Plan) (t : Int) (x y : Nat) : ∀ W, cnt p t x y (patL p * W) = sumC p t x y W
  | 0 => by simp [cnt, sumC]
  | W + 1 => by
    rw [Nat.mul_add, Nat.mul_one, cnt_add, cnt_turns p t x y W, sumC_succ]
    rfl
theorem cnt_part (p : Plan) (t : Int) (x y W left : Nat) (h : left ≤ patL p) : cnt p t x y (patL p * W + left) = sumC p t x y W + ((mIn p t x y W).filter fun k => decide (k < left)).length := by
  rw [cnt_add, cnt_turns]
  congr 1
  unfold mIn
  rw [List.filter_filter]
  obtain ⟨d, hd⟩ : ∃ d, patL p = left + d := ⟨patL p - left, by omega⟩
  generalize hf : (fun k => mb p t x y (patL p * W + (k + 1))) = f
  have e0 : (fun k => decide (k < left) && mb p t x y (patL p * W + (k + 1))) = fun k => decide (k < left) && f k := by rw [← hf]
  rw [e0, hd, List.range_add, List.filter_append, List.length_append]
  have e1 : (List.filter (fun k => decide (k < left) && f k) (List.range left)) = List.filter f (List.range left) := by
    apply List.filter_congr
    intro k hk
    rw [List.mem_range] at hk
    simp [hk]
  have e2 : (List.filter (fun k => decide (k < left) && f k) (List.map (fun x => left + x) (List.range d))) = [] := by
    rw [List.filter_eq_nil_iff]
    intro k hk
    obtain ⟨j, _, rfl⟩ := List.mem_map.mp hk
    simp
    omega
  rw [e1, e2]
  rfl
theorem mIn_per {p : Plan} (o : p.Ok) (t : Int) {x y : Nat} (hx : x < total p) (hy : y < total p) (N : Nat) : mIn p t x y N = mIn p t x y (N % rnds p t x y) := by
  unfold mIn
  apply List.filter_congr
  intro k _
  exact mb_per o (patL_per o) t hx hy (Nat.dvd_lcm_left _ _) (Nat.dvd_lcm_right _ _) (k + 1) N
theorem sumC_add {p : Plan} {t : Int} {x y : Nat} (a : Nat) : ∀ b, sumC p t x y (a + b) = sumC p t x y a + ((List.range b).map fun N => (mIn p t x y (a + N)).length).sum
  | 0 => by simp
  | b + 1 => by
    rw [← Nat.add_assoc, sumC_succ, sumC_add a b, List.range_succ, List.map_append, List.sum_append]
    simp
    omega
/-- all rounds, and the rest -/
theorem sumC_rounds {p : Plan} (o : p.Ok) (t : Int) {x y : Nat} (hx : x < total p) (hy : y < total p) (rest : Nat) : ∀ turns, sumC p t x y (rnds p t x y * turns + rest) = turns * sumC p t x y (rnds p t x y) + sumC p t x y rest
  | 0 => by simp
  | turns + 1 => by
    have key : ∀ b, ((List.range b).map fun N => (mIn p t x y (rnds p t x y + N)).length).sum = sumC p t x y b := fun b => by
      unfold sumC
      congr 1
      apply List.map_congr_left
      intro N _
      rw [mIn_per o t hx hy (rnds p t x y + N), Nat.add_mod_left, ← mIn_per o t hx hy]
    rw [show rnds p t x y * (turns + 1) + rest = rnds p t x y + (rnds p t x y * turns + rest) by rw [Nat.mul_add]; omega, sumC_add, key, sumC_rounds o t hx hy rest turns, Nat.add_mul]
    omega
/-- the count as the program makes it -/
theorem cnt_all {p : Plan} (o : p.Ok) (t : Int) {x y : Nat} (hx : x < total p) (hy : y < total p) (T : Nat) :
    cnt p t x y T = T / patL p / rnds p t x y * sumC p t x y (rnds p t x y) + sumC p t x y (T / patL p - T / patL p / rnds p t x y * rnds p t x y)
      + ((mIn p t x y (T / patL p - T / patL p / rnds p t x y * rnds p t x y)).filter fun k => decide (k < T - T / patL p * patL p)).length := by
  have hL := patL_pos o
  obtain ⟨W, hW⟩ : ∃ W, W = T / patL p := ⟨_, rfl⟩
  obtain ⟨R, hR⟩ : ∃ R, R = rnds p t x y := ⟨_, rfl⟩
  have h1 := Nat.div_add_mod T (patL p)
  have h2 := Nat.mod_lt T hL
  have h3 := Nat.div_add_mod W R
  have e1 : T = patL p * W + (T - W * patL p) := by rw [hW, Nat.mul_comm (T / patL p)]; omega
  have e2 : W = R * (W / R) + (W - W / R * R) := by rw [Nat.mul_comm (W / R)]; omega
  have hle : T - W * patL p ≤ patL p := by rw [hW, Nat.mul_comm (T / patL p)]; omega
  rw [← hW, ← hR]
  have e3 : mIn p t x y W = mIn p t x y (W - W / R * R) := by
    rw [mIn_per o t hx hy W, mIn_per o t hx hy (W - W / R * R), ← hR]
    congr 1
    rw [Nat.mul_comm (W / R), show W - R * (W / R) = W % R by omega, Nat.mod_mod]
  conv => lhs; rw [e1]
  rw [cnt_part p t x y W _ hle, e3]
  congr 1
  conv => lhs; rw [e2]
  rw [hR, sumC_rounds o t hx hy]
end Sp

set_option maxRecDepth 100000
set_option maxHeartbeats 2000000
/-! SpX: the count. -/
namespace Sp
open PySem L2 Sw Bd Pm
theorem sumC_le (p : Plan) (t : Int) (x y : Nat) : ∀ W, sumC p t x y W ≤ patL p * W
  | 0 => by simp [sumC]
  | W + 1 => by
    have h1 : (mIn p t x y W).length ≤ patL p := by
      unfold mIn
      have := List.length_filter_le (fun k => mb p t x y (patL p * W + (k + 1))) (List.range (patL p))
      rw [List.length_range] at this
      exact this
    rw [sumC_succ, Nat.mul_add, Nat.mul_one]
    have := sumC_le p t x y W
    omega
theorem sum_castN : ∀ xs : List Nat, (xs.map fun x : Nat => (x : Int)).sum = ((xs.sum : Nat) : Int)
  | [] => rfl
  | x :: xs => by
    rw [List.map_cons, List.sum_cons, List.sum_cons, sum_castN xs]
    simp
theorem sum_c (p : Plan) (t : Int) (x y W : Nat) (h : Store) : biF .sum false [.lst ((List.range W).map fun N => D.int ((mIn p t x y N).length : Nat))] h = some (.int (sumC p t x y W), h) := by
  show (asInts ((List.range W).map fun N => D.int ((mIn p t x y N).length : Nat))).map _ = _
  rw [asInts_map (fun N => ((mIn p t x y N).length : Int))]
  have := sum_castN ((List.range W).map fun N => (mIn p t x y N).length)
  rw [List.map_map] at this
  show some (D.int _, h) = _
  unfold sumC
  rw [← this]
  rfl
section
variable {P : Nat → Option FDef} {n b : Nat} {h : Store} {p : Plan} {t : Int} {x y m : Nat}
def c_count : List Nat := [62, 59]
theorem count_ok (H : Has P c_count) (o : p.Ok) (hx : x < total p) (hy : y < total p) (hm : PairAt p t x y m h) {T : Nat} (hT : T ≤ 10 ^ 18) : callI P (n + 2) 62 [.ref m, .int T] b h = some (.int (cnt p t x y T), h) := by
  have hL := patL_le o
  have hL1 := patL_pos o
  have hTt := total_le o
  have pe := eff_isP o t (patL p)
  have hR : rnds p t x y ≤ 114 * 114 := Nat.le_trans (Nat.le_of_dvd (Nat.mul_pos (orbL_pos _ _ _) (orbL_pos _ _ _)) (Nat.lcm_dvd_mul _ _)) (Nat.mul_le_mul (Nat.le_trans (orbL_spec pe hx).1 hTt) (Nat.le_trans (orbL_spec pe hy).1 hTt))
  have hR1 : 0 < rnds p t x y := Nat.lcm_pos (orbL_pos _ _ _) (orbL_pos _ _ _)
  rw [cnt_all o t hx hy T]
  obtain ⟨W, hW⟩ : ∃ W, W = T / patL p := ⟨_, rfl⟩
  obtain ⟨R, hR2⟩ : ∃ R, R = rnds p t x y := ⟨_, rfl⟩
  obtain ⟨V, hV⟩ : ∃ V, V = W / R := ⟨_, rfl⟩
  rw [← hW, ← hR2, ← hV]
  rw [← hR2] at hR hR1
  have hVR : V * R ≤ W := by rw [hV]; exact Nat.div_mul_le_self W R
  have hWL : W * patL p ≤ T := by rw [hW]; exact Nat.div_mul_le_self T (patL p)
  have hrest : W - V * R < R := by
    have h1 := Nat.div_add_mod W R
    have h2 := Nat.mod_lt W hR1
    rw [hV, Nat.mul_comm (W / R)]
    omega
  have md : ∀ f : Str, (pairF p t x y).lookup f = none → mthD 0 f (.ref m) h = some m := fun f hf => by
    unfold mthD
    simp only [show h[m]? = _ from hm]
    rw [if_pos ⟨trivial, hf⟩]
  have pr : fldD 0 "rounds" (.ref m) h = some (.int R) := by rw [hR2]; exact pf_rounds hm
  have fd : ∀ i j : Nat, 0 < j → j ≤ 114 * 114 → binop .fdiv false (.int (i : Int)) (.int (j : Int)) h = some (.int ((i / j : Nat) : Int), h) := fun i j h1 h2 => by
    have h3 : ((j : Int).natAbs).log2 < 9000 := by
      rw [Int.natAbs_natCast]
      have : j.log2 < 14 := (Nat.log2_lt (by omega)).mpr (by omega)
      omega
    have e1 : binI .fdiv (i : Int) (j : Int) = some ((i / j : Nat) : Int) := by
      unfold binI
      exact if_pos ⟨by omega, h3⟩
    simp only [binop, e1, Option.map_some]
  refine opt_eq (call_of (H.f 62 rfl rfl) rfl rfl ?_)
  simp [F_Pair_count, B_Pair_count, getV]
  refine opt_of_eq (pf_length hm) ?_
  refine opt_of_eq (fd _ _ hL1 (by omega)) ?_
  refine opt_of_eq pr ?_
  rw [← hW]
  refine opt_of_eq (fd _ _ hR1 hR) ?_
  rw [← hV]
  refine opt_of_eq pr ?_
  have ml : ∀ i j : Nat, j ≤ 10 ^ 9 → binop .mul false (.int (i : Int)) (.int (j : Int)) h = some (.int ((i * j : Nat) : Int), h) := fun i j h1 => by
    have hsm : small (j : Int) := by constructor <;> omega
    have e1 : binI .mul (i : Int) (j : Int) = some ((i * j : Nat) : Int) := by
      unfold binI
      exact (if_pos (Or.inr hsm)).trans (by simp)
    simp only [binop, e1, Option.map_some]
  have sb : ∀ i j : Nat, j ≤ i → binop .sub false (.int (i : Int)) (.int (j : Int)) h = some (.int ((i - j : Nat) : Int), h) := fun i j h1 => by
    show some (D.int ((i : Int) - j), h) = _
    rw [show (i : Int) - j = ((i - j : Nat) : Int) by omega]
  refine opt_of_eq (ml _ _ (by omega)) ?_
  refine opt_of_eq (sb _ _ hVR) ?_
  refine opt_of_eq (cmpD_gt _ _ _) ?_
  have hs1 := sumC_le p t x y R
  have hs2 : patL p * R ≤ 60 * (114 * 114) := Nat.mul_le_mul hL hR
  have lnm : ∀ (l : List Nat) (hh : Store), biF .len false [.lst (l.map dI)] hh = some (.int (l.length : Nat), hh) := fun l hh => by
    show some (D.int ((l.map dI).length : Nat), hh) = _
    rw [List.length_map]
  have adN : ∀ i j : Nat, binop .add false (.int (i : Int)) (.int (j : Int)) h = some (.int ((i + j : Nat) : Int), h) := fun i j => by
    show some (D.int ((i : Int) + j), h) = _
    rw [Int.natCast_add]
  have hml : (mIn p t x y (W - V * R)).length ≤ patL p := by
    unfold mIn
    have := List.length_filter_le (fun k => mb p t x y (patL p * (W - V * R) + (k + 1))) (List.range (patL p))
    rw [List.length_range] at this
    exact this
  by_cases hv : 0 < (V : Int)
  case' pos =>
    rw [if_pos (by simpa using hv)]
    refine opt_of_eq pr ?_
    simp only [onI_int]
    refine ⟨by constructor <;> omega, le_size (by simp [rangeL]; omega), ?_⟩
    rw [rangeL_nat]
    refine lc_rule (fun N : Nat => D.int N) (fun N => some (.int ((mIn p t x y N).length : Nat))) (live_none _) (fun N hN => ?_) ?_
    rotate_left
    rw [show (List.range R).filterMap (fun N => some (D.int ((mIn p t x y N).length : Nat))) = (List.range R).map (fun N => D.int ((mIn p t x y N).length : Nat)) from congrFun (List.filterMap_eq_map (f := fun N => D.int ((mIn p t x y N).length : Nat))) _]
    refine opt_of_eq (sum_c p t x y R h) ?_
    refine opt_of_eq (ml V (sumC p t x y R) (by omega)) ?_
    rotate_left
    · simp [wipeD, getV]
      refine opt_of_eq (md "meetings_in" rfl) ?_
      refine opt_of_eq (meetings_in_ok (H.sub rfl) o hx hy hm) ?_
      exact opt_of_eq (lnm _ _) ⟨rfl, rfl⟩
  case' neg =>
    rw [if_neg (by simpa using hv)]
    have hv0 : V = 0 := by omega
    refine opt_of_eq (ml V 0 (by omega)) ?_
    rw [show V * 0 = V * sumC p t x y R by rw [hv0]; simp]
  all_goals
    try simp only [onI_int]
    refine ⟨by constructor <;> omega, le_size (by simp [rangeL]; omega), ?_⟩
    rw [rangeL_nat]
    refine lc_rule (fun N : Nat => D.int N) (fun N => some (.int ((mIn p t x y N).length : Nat))) (live_none _) (fun N hN => ?_) ?_
    · simp [wipeD, getV]
      refine opt_of_eq (md "meetings_in" rfl) ?_
      refine opt_of_eq (meetings_in_ok (H.sub rfl) o hx hy hm) ?_
      exact opt_of_eq (lnm _ _) ⟨rfl, rfl⟩
    · rw [show (List.range (W - V * R)).filterMap (fun N => some (D.int ((mIn p t x y N).length : Nat))) = (List.range (W - V * R)).map (fun N => D.int ((mIn p t x y N).length : Nat)) from congrFun (List.filterMap_eq_map (f := fun N => D.int ((mIn p t x y N).length : Nat))) _]
      refine opt_of_eq (sum_c p t x y (W - V * R) h) ?_
      refine opt_of_eq (adN _ _) ?_
      refine opt_of_eq (pf_length hm) ?_
      refine opt_of_eq (ml W (patL p) (by omega)) ?_
      refine opt_of_eq (sb T _ hWL) ?_
      refine opt_of_eq (md "meetings_in" rfl) ?_
      refine opt_of_eq (meetings_in_ok (H.sub rfl) o hx hy hm) ?_
      refine opt_of_eq (wkX_lst _ _) ?_
      refine ⟨le_size (by simp; omega), ?_⟩
      refine lc_rule dI (fun k => if decide (k < T - W * patL p) = true then some (dI k) else none) (live_none _) (fun k hk => ?_) ?_
      · simp [wipeD, getV, dI]
        try (by_cases hlt : k < T - W * patL p <;> simp [hlt] <;> omega)
      · rw [filterMap_if]
        simp only [List.length_map]
        refine opt_of_eq (adN _ _) ?_
        exact opt_of_eq (froz_bel rfl) ⟨rfl, List.take_length⟩
end
end Sp

set_option maxRecDepth 100000
set_option maxHeartbeats 2000000
/-! SpY: first_meeting, ticks_together, never_met. -/
namespace Sp
open PySem L2 Sw Bd Pm
section
variable {P : Nat → Option FDef} {n b : Nat} {h : Store} {p : Plan}
theorem pairAt_new {t : Int} {x y : Nat} : PairAt p t x y h.length (h ++ [.ins 0 (pairF p t x y)]) := by
  unfold PairAt
  simp
theorem mth_at {t : Int} {x y m : Nat} {f : Str} (hm : PairAt p t x y m h) (hf : (pairF p t x y).lookup f = none) : mthD 0 f (.ref m) h = some m := by
  unfold mthD
  simp only [show h[m]? = _ from hm]
  rw [if_pos ⟨trivial, hf⟩]
def c_pair_of : List Nat := [63, 24, 2, 0, 1, 23, 21, 25, 57, 43, 4, 10, 9, 8, 7, 11, 12, 6, 56, 50, 16, 19, 18, 13, 14]
theorem pair_of_ok (H : Has P c_pair_of) (o : p.Ok) {s : St} (q : s.Ok p) (h1 : -(2 * 10 ^ 18) ≤ s.time) (h2 : s.time ≤ 2 * 10 ^ 18) {x y : Nat} (hx : x < total p) (hy : y < total p) :
    callI P (n + 7) 63 [dPlan p, dSt s, dI (ap s.cont x), dI (ap s.cont y)] b h = some (.ref h.length, h ++ [.ins 0 (pairF p s.time x y)]) := by
  refine opt_eq (call_keep (H.f 63 rfl rfl) rfl rfl ?_)
  simp [F_pair_of, B_pair_of, getV]
  refine opt_of_eq (validate_state_ok (H.sub rfl) o q) ?_
  simp only []
  refine opt_of_eq (spot_of_ok (H.sub rfl) o q hx) ?_
  refine opt_of_eq (spot_of_ok (H.sub rfl) o q hy) ?_
  refine opt_of_eq (pair_init_ok (H.sub rfl) o h1 h2 hx hy) ?_
  simp
def c_first_meeting : List Nat := [64, 63, 24, 2, 0, 1, 23, 21, 25, 57, 43, 4, 10, 9, 8, 7, 11, 12, 6, 56, 50, 16, 19, 18, 13, 14, 61, 58, 60, 59]
theorem first_meeting_ok (H : Has P c_first_meeting) (o : p.Ok) {s : St} (q : s.Ok p) (h1 : -(2 * 10 ^ 18) ≤ s.time) (h2 : s.time ≤ 2 * 10 ^ 18) {x y : Nat} (hx : x < total p) (hy : y < total p) :
    ∃ r, callI P (n + 8) 64 [dPlan p, dSt s, dI (ap s.cont x), dI (ap s.cont y)] b h = some (dEnt r, h) ∧ FirstM p s.time x y r := by
  obtain ⟨r, er, hr⟩ := first_ok (n := n + 4) (b := h.length) (H.sub rfl) o hx hy (pairAt_new (h := h) (t := s.time) (x := x) (y := y))
  refine ⟨r, ?_, hr⟩
  refine opt_eq (call_of (H.f 64 rfl rfl) rfl rfl ?_)
  simp [F_first_meeting, B_first_meeting, getV]
  refine opt_of_eq (pair_of_ok (H.sub rfl) o q h1 h2 hx hy) ?_
  refine opt_of_eq (mth_at (f := "first") (pairAt_new (h := h) (t := s.time) (x := x) (y := y)) rfl) ?_
  refine opt_of_eq er ?_
  cases r <;> simp [dEnt]
def c_ticks_together : List Nat := [65, 63, 24, 2, 0, 1, 23, 21, 25, 57, 43, 4, 10, 9, 8, 7, 11, 12, 6, 56, 50, 16, 19, 18, 13, 14, 3, 62, 59]
theorem ticks_together_ok (H : Has P c_ticks_together) (o : p.Ok) {s : St} (q : s.Ok p) (h1 : -(2 * 10 ^ 18) ≤ s.time) (h2 : s.time ≤ 2 * 10 ^ 18) {x y : Nat} (hx : x < total p) (hy : y < total p) {T : Nat} (hT : T ≤ 10 ^ 18) :
    callI P (n + 8) 65 [dPlan p, dSt s, dI (ap s.cont x), dI (ap s.cont y), .int T] b h = some (.int (cnt p s.time x y T), h) := by
  refine opt_eq (call_of (H.f 65 rfl rfl) rfl rfl ?_)
  simp [F_ticks_together, B_ticks_together, getV]
  refine opt_of_eq (pair_of_ok (H.sub rfl) o q h1 h2 hx hy) ?_
  simp
  refine opt_of_eq (validate_count_ok (H.sub rfl) (by omega) (by omega)) ?_
  simp only []
  refine opt_of_eq (mth_at (f := "count") (pairAt_new (h := h) (t := s.time) (x := x) (y := y)) rfl) ?_
  refine opt_of_eq (count_ok (H.sub rfl) o hx hy (pairAt_new (h := h) (t := s.time) (x := x) (y := y)) hT) ?_
  simp
end
end Sp

set_option maxRecDepth 100000
set_option maxHeartbeats 2000000
/-! SpZ: never_met; meetings as the laws see them. -/
namespace Sp
open PySem L2 Sw Bd Pm
theorem pos_add {p : Plan} (o : p.Ok) {t : Int} {x : Nat} (hx : x < total p) (u k : Nat) : pos p t x (u + k) = pos p (t + u) (pos p t x u) k := by
  unfold pos
  rw [eff_add o, comp_ap (by rw [(eff_isP o t u).len]; exact hx)]
theorem ws_add {p : Plan} (o : p.Ok) {t : Int} {x : Nat} (hx : x < total p) (u k : Nat) : ws p t x (u + k) = ws p (t + u) (pos p t x u) k := by
  unfold ws
  rw [pos_add o hx]
theorem mb_add {p : Plan} (o : p.Ok) {t : Int} {x y : Nat} (hx : x < total p) (hy : y < total p) (u k : Nat) : mb p t x y (u + k) = mb p (t + u) (pos p t x u) (pos p t y u) k := by
  unfold mb
  rw [ws_add o hx, ws_add o hy]
theorem cnt_comm (p : Plan) (t : Int) (x y T : Nat) : cnt p t x y T = cnt p t y x T := by
  unfold cnt
  congr 1
  apply List.filter_congr
  intro k _
  exact mb_comm p t x y (k + 1)
theorem cnt_split {p : Plan} (o : p.Ok) {t : Int} {x y : Nat} (hx : x < total p) (hy : y < total p) (u v : Nat) : cnt p t x y (u + v) = cnt p t x y u + cnt p (t + u) (pos p t x u) (pos p t y u) v := by
  rw [cnt_add]
  congr 1
  unfold cnt
  congr 1
  apply List.filter_congr
  intro k _
  exact mb_add o hx hy u (k + 1)
theorem cnt_succ (p : Plan) (t : Int) (x y T : Nat) : cnt p t x y (T + 1) = cnt p t x y T + if mb p t x y (T + 1) = true then 1 else 0 := by
  rw [cnt_add]
  congr 1
  rw [show List.range 1 = [0] from rfl]
  cases h : mb p t x y (T + 1) with
  | true => rw [List.filter_cons_of_pos (by simpa using h)]; rfl
  | false => rw [List.filter_cons_of_neg (by simpa using h)]; rfl
theorem cnt_zero {p : Plan} {t : Int} {x y : Nat} : ∀ {T : Nat}, (∀ i, 1 ≤ i → i ≤ T → mb p t x y i = false) → cnt p t x y T = 0
  | 0, _ => rfl
  | T + 1, h => by
    rw [cnt_succ, cnt_zero (T := T) fun i h1 h2 => h i h1 (by omega), h (T + 1) (by omega) (Nat.le_refl _)]
    rfl
theorem first_uniq {p : Plan} {t : Int} {x y : Nat} : ∀ {r r' : Option Nat}, FirstM p t x y r → FirstM p t x y r' → r = r'
  | none, none, _, _ => rfl
  | some k, none, h, h' => by have := h.1; rw [h' k] at this; cases this
  | none, some k, h, h' => by have := h'.1; rw [h k] at this; cases this
  | some k, some l, h, h' => by
    rcases Nat.lt_trichotomy k l with c | c | c
    · have := h'.2 k c; rw [h.1] at this; cases this
    · rw [c]
    · have := h.2 l c; rw [h'.1] at this; cases this
theorem first_comm {p : Plan} {t : Int} {x y : Nat} {r : Option Nat} (h : FirstM p t x y r) : FirstM p t y x r := by
  cases r with
  | none => exact fun i => by rw [mb_comm]; exact h i
  | some k => exact ⟨by rw [mb_comm]; exact h.1, fun i hi => by rw [mb_comm]; exact h.2 i hi⟩
theorem first_one {p : Plan} {t : Int} {x y k : Nat} (h : FirstM p t x y (some k)) (hk : 0 < k) : cnt p t x y k = 1 := by
  obtain ⟨k, rfl⟩ : ∃ j, k = j + 1 := ⟨k - 1, by omega⟩
  rw [cnt_succ, cnt_zero fun i h1 h2 => h.2 i (by omega), h.1]
  rfl
open Classical in
/-- one never meets another -/
noncomputable def nev (p : Plan) (t : Int) (x y : Nat) : Bool := decide (y ≠ x) && decide (∀ i, mb p t x y i = false)
theorem nev_iff {p : Plan} {t : Int} {x y : Nat} : nev p t x y = true ↔ y ≠ x ∧ ∀ i, mb p t x y i = false := by
  unfold nev
  simp
theorem nev_can {p : Plan} (o : p.Ok) {t : Int} {x y : Nat} : (∀ i, mb p t x y i = false) ↔ mb p t x y 0 = false ∧ ¬ canP p t x y := by
  constructor
  · intro h
    refine ⟨h 0, ?_⟩
    rintro ⟨N, k, _, hm⟩
    rw [h] at hm
    cases hm
  · rintro ⟨h0, hc⟩ i
    by_cases hi : i = 0
    · rw [hi]; exact h0
    · obtain ⟨N, k, hk, rfl⟩ := tick_turn o (i := i) (by omega)
      cases hmb : mb p t x y (patL p * N + (k + 1)) with
      | false => rfl
      | true => exact absurd ⟨N, k, hk, hmb⟩ hc
/-- who is never met, by places -/
noncomputable def nevL (p : Plan) (s : St) (x j : Nat) : List Nat := ((List.range j).filter (nev p s.time x)).map (ap s.cont)
theorem nevL_succ (p : Plan) (s : St) (x j : Nat) : nevL p s x (j + 1) = nevL p s x j ++ if nev p s.time x j = true then [ap s.cont j] else [] := by
  unfold nevL
  rw [List.range_succ, List.filter_append, List.map_append]
  congr 1
  cases h : nev p s.time x j with
  | true => rw [List.filter_cons_of_pos h]; rfl
  | false => rw [List.filter_cons_of_neg (by rw [h]; simp)]; rfl
theorem nevL_len (p : Plan) (s : St) (x j : Nat) : (nevL p s x j).length ≤ j := by
  unfold nevL
  have := List.length_filter_le (nev p s.time x) (List.range j)
  rw [List.length_range] at this
  rw [List.length_map]
  exact this
def srt (xs : List Nat) : List Int := (xs.map fun x : Nat => (x : Int)).mergeSort (fun a b => decide (a ≤ b))
section
variable {P : Nat → Option FDef} {n b : Nat} {h : Store} {p : Plan}
theorem sorted_ref {m : Nat} {xs : List Nat} (e : h[m]? = some (.lst (xs.map dI))) : biF .sorted false [.ref m] h = some (.lst ((srt xs).map D.int), h) := by
  have h1 : biF .sorted false [.ref m] h = match getR h (.ref m) with
      | some ds => (asInts ds).map fun ns => mkL false ((ns.mergeSort (fun a b => decide (a ≤ b))).map .int) h
      | none => match getK h (.ref m) with
        | some kvs => (asInts (kvs.map fun p => kD p.1)).map fun ns => mkL false ((ns.mergeSort (fun a b => decide (a ≤ b))).map .int) h
        | none => none := rfl
  rw [h1, getR_ref e]
  simp only [asInts_dI, Option.map_some, mkL_f]
  rfl
def c_never_met : List Nat := [66, 24, 2, 0, 1, 23, 21, 25, 57, 43, 4, 10, 9, 8, 7, 11, 12, 6, 56, 50, 16, 19, 18, 13, 14, 58, 60]
theorem never_met_ok (H : Has P c_never_met) (o : p.Ok) {s : St} (q : s.Ok p) (h1 : -(2 * 10 ^ 18) ≤ s.time) (h2 : s.time ≤ 2 * 10 ^ 18) {x : Nat} (hx : x < total p) :
    callI P (n + 8) 66 [dPlan p, dSt s, dI (ap s.cont x)] b h = some (.lst ((srt (nevL p s x (total p))).map D.int), h) := by
  have hT := total_le o
  have hl := q.len
  refine opt_eq (call_of (H.f 66 rfl rfl) rfl rfl ?_)
  simp [F_never_met, B_never_met, getV]
  refine opt_of_eq (validate_state_ok (H.sub rfl) o q) ?_
  simp [getV]
  refine opt_of_eq (spot_of_ok (H.sub rfl) o q hx) ?_
  simp [setsD]
  refine opt_of_eq (contents_of_ok (s := s) (H.sub rfl) (by omega)) ?_
  simp
  refine opt_of_eq (wkX_ref (ds := s.cont.map dI) (by simp)) ?_
  simp only []
  rw [enumD_map]
  refine fr_nx (fun q : Nat × Nat => D.tup [.int q.2, dI q.1]) (fun j e1 h1 => (∃ a5 a6 a7, e1 = [some (dPlan p), some (dSt s), some (dI (ap s.cont x)), some (dI x), some (.ref h.length), a5, a6, a7]) ∧ ∃ J, h1 = h ++ (.lst ((nevL p s x j).map dI) :: .lst (s.cont.map dI) :: J)) ⟨⟨_, _, _, rfl⟩, [], by simp [nevL]⟩ (fun j e1 h1 hI => ?_) (fun j z e1 h1 hz hI => ?_) (fun e1 h1 hI => ?_)
  · obtain ⟨_, J, rfl⟩ := hI
    show _ = _
    simp
  · obtain ⟨⟨a5, a6, a7, rfl⟩, J, rfl⟩ := hI
    obtain ⟨hj, z1, z2⟩ : j < total p ∧ z.1 = ap s.cont j ∧ z.2 = j := by
      rw [List.getElem?_zipIdx] at hz
      cases hc : s.cont[j]? with
      | none => rw [hc] at hz; cases hz
      | some w =>
        rw [hc] at hz
        have e : (w, 0 + j) = z := Option.some.inj hz
        have hlt := (List.getElem?_eq_some_iff.mp hc).1
        subst e
        refine ⟨by omega, ?_, by simp⟩
        unfold ap
        rw [List.getD_eq_getElem?_getD, hc]
        rfl
    obtain ⟨zv, zi⟩ := z
    simp only at z1 z2
    subst z1 z2
    rw [nevL_succ]
    have hlen := nevL_len p s x zi
    obtain ⟨S1, hS1⟩ : ∃ S1, S1 = h ++ (.lst ((nevL p s x zi).map dI) :: .lst (s.cont.map dI) :: J) := ⟨_, rfl⟩
    rw [← hS1]
    simp [getV]
    by_cases hne : zi = x
    · subst hne
      have hn : nev p s.time zi zi = false := by
        cases hv : nev p s.time zi zi with
        | false => rfl
        | true => exact absurd rfl (nev_iff.mp hv).1
      simp [hn, dI]
      exact ⟨J, hS1⟩
    · have hne2 : ¬ ((zi : Int) = (x : Int)) := by omega
      simp [dI, hne2]
      refine opt_of_eq (pair_init_ok (n := n + 1) (h := S1) (H.sub rfl) o h1 h2 hx hj) ?_
      simp [getV]
      have eS2 : S1 ++ [.ins 0 (pairF p s.time x zi)] = h ++ (.lst ((nevL p s x zi).map dI) :: .lst (s.cont.map dI) :: (J ++ [.ins 0 (pairF p s.time x zi)])) := by rw [hS1]; simp
      obtain ⟨S2, hS2⟩ : ∃ S2, S2 = S1 ++ [.ins 0 (pairF p s.time x zi)] := ⟨_, rfl⟩
      have at2 : PairAt p s.time x zi S1.length S2 := by rw [hS2]; exact pairAt_new
      rw [← hS2]
      rw [← hS2] at eS2
      have app : ∀ Q : D × Store → Prop, Q (.non, h ++ (.lst ((nevL p s x zi ++ [ap s.cont zi]).map dI) :: .lst (s.cont.map dI) :: (J ++ [.ins 0 (pairF p s.time x zi)]))) → mtTy .append (.ref h.length) S2 = true ∧ opt (mtF h.length .append (.ref h.length) [.int (ap s.cont zi : Nat)] S2) Q := fun Q hQ => by
        have e0 : S2[h.length]? = some (.lst ((nevL p s x zi).map dI)) := by rw [eS2]; simp
        refine ⟨(mtTy_ref e0).1, ?_⟩
        refine opt_of_eq (append_ref e0 (by rw [List.length_map]; omega) (.inr (Nat.le_refl _))) ?_
        rw [eS2, List.set_append_right _ _ (Nat.le_refl _), Nat.sub_self]
        simpa [dI] using hQ
      refine opt_of_eq (mth_at (f := "meets_now") at2 rfl) ?_
      refine opt_of_eq (meets_now_ok (H.sub rfl) o hx hj at2) ?_
      simp
      cases h0 : mb p s.time x zi 0 with
      | true =>
        have hn : nev p s.time x zi = false := by
          cases hv : nev p s.time x zi with
          | false => rfl
          | true => have := (nev_iff.mp hv).2 0; rw [h0] at this; cases this
        simp [hn]
        exact ⟨_, eS2⟩
      | false =>
        simp
        refine opt_of_eq (mth_at (f := "can_meet") at2 rfl) ?_
        obtain ⟨v, ev, hv⟩ := can_meet_ok (n := n + 5) (b := h.length) (H.sub rfl) o hx hj at2
        refine opt_of_eq ev ?_
        cases v with
        | true =>
          have hn : nev p s.time x zi = false := by
            cases hv2 : nev p s.time x zi with
            | false => rfl
            | true => exact absurd (hv.mp rfl) ((nev_can o).mp (nev_iff.mp hv2).2).2
          simp [hn]
          exact ⟨_, eS2⟩
        | false =>
          have hn : nev p s.time x zi = true := nev_iff.mpr ⟨hne, (nev_can o).mpr ⟨h0, fun z => by have := hv.mpr z; cases this⟩⟩
          simp [hn]
          exact app _ ⟨_, by rw [List.map_append]; rfl⟩
  · obtain ⟨⟨a5, a6, a7, rfl⟩, J, rfl⟩ := hI
    rw [List.length_zipIdx, hl]
    simp [getV]
    refine opt_of_eq (sorted_ref (xs := nevL p s x (total p)) (by simp)) ?_
    simp
    refine opt_of_eq (froz_bel ?_) ?_
    · exact bels_map (fun _ => rfl) _
    · simp
theorem first_bound {t : Int} {x y k : Nat} (o : p.Ok) (hx : x < total p) (hy : y < total p) (f : FirstM p t x y (some k)) : k ≤ 60 * (114 * 114) := by
  have hL := patL_le o
  have hTt := total_le o
  have pe := eff_isP o t (patL p)
  have hR : rnds p t x y ≤ 114 * 114 := Nat.le_trans (Nat.le_of_dvd (Nat.mul_pos (orbL_pos _ _ _) (orbL_pos _ _ _)) (Nat.lcm_dvd_mul _ _)) (Nat.mul_le_mul (Nat.le_trans (orbL_spec pe hx).1 hTt) (Nat.le_trans (orbL_spec pe hy).1 hTt))
  have hR1 : 0 < rnds p t x y := Nat.lcm_pos (orbL_pos _ _ _) (orbL_pos _ _ _)
  by_cases hk : k = 0
  · omega
  · obtain ⟨N, j, hj, e⟩ := tick_turn o (i := k) (by omega)
    have hN : N < rnds p t x y := by
      refine Nat.lt_of_not_le fun hge => ?_
      have h1 := f.1
      rw [e, mb_per o (patL_per o) t hx hy (Nat.dvd_lcm_left _ _) (Nat.dvd_lcm_right _ _)] at h1
      have h2 : patL p * (N % rnds p t x y) + (j + 1) < k := by
        have := Nat.mod_lt N hR1
        have := Nat.mul_lt_mul_of_pos_left (show N % rnds p t x y < N by omega) (patL_pos o)
        omega
      have := f.2 _ h2
      unfold rnds at this
      rw [h1] at this
      cases this
    have h3 := Nat.mul_le_mul_left (patL p) (show N + 1 ≤ rnds p t x y from hN)
    rw [Nat.mul_add, Nat.mul_one] at h3
    have h4 := Nat.mul_le_mul hL hR
    omega
theorem eq_strF (h : Store) : cmpD .eq (.str "carrier") (.str "shelf") h = some false := eq_diff (x := .str "carrier") (by kernel_rfl) (by decide) (y := .str "shelf") (by kernel_rfl) (by decide) (fun z => by injection z with z; exact absurd z (by decide)) h
def c_law_meet : List Nat := 69 :: c_locate
theorem lmeet_ok (H : Has P c_law_meet) (o : p.Ok) {s : St} (q : s.Ok p) (h1 : -(10 ^ 18) ≤ s.time) (h2 : s.time ≤ 10 ^ 18) {x y : Nat} (hx : x < total p) (hy : y < total p) {c : Nat} (hc : c ≤ 10 ^ 18) :
    callI P (n + 9) 69 [dPlan p, dSt s, dI (ap s.cont x), dI (ap s.cont y), .int c] b h = some (.bl (mb p s.time x y c), h) := by
  have e1 := locate_ok (n := n) (b := h.length) (h := h) (c := (c : Int)) (H.sub rfl) o q (by omega) (by omega) (by omega) (by omega) (by omega) hx
  have e2 := locate_ok (n := n) (b := h.length) (h := h) (c := (c : Int)) (H.sub rfl) o q (by omega) (by omega) (by omega) (by omega) (by omega) hy
  rw [effI_nat] at e1 e2
  refine opt_eq (call_of (H.f 69 rfl rfl) rfl rfl ?_)
  simp [F__law_meet, B__law_meet, getV]
  refine opt_of_eq e1 ?_
  refine opt_of_eq e2 ?_
  simp [setsD, getV]
  have hm : mb p s.time x y c = ((shOf p (ap (eff p s.time c) x)).isSome && decide (shOf p (ap (eff p s.time c) x) = shOf p (ap (eff p s.time c) y))) := rfl
  rw [hm]
  unfold shOf
  cases plOf p (ap (eff p s.time c) x) with
  | car i =>
    refine opt_of_eq (show ixD h (dPl (.car i)) 0 = some (.str "carrier") from rfl) ?_
    refine opt_of_eq (eq_strF h) ?_
    simp
  | sh i k =>
    refine opt_of_eq (show ixD h (dPl (.sh i k)) 0 = some (.str "shelf") from rfl) ?_
    refine opt_of_eq (eq_self_nb (x := .str "shelf") (by kernel_rfl) (by decide) h) ?_
    simp
    refine opt_of_eq (show slD false (dPl (.sh i k)) none (some 2) h = some (.tup [.str "shelf", .int i], h) from rfl) ?_
    cases plOf p (ap (eff p s.time c) y) with
    | car i' =>
      refine opt_of_eq (show slD false (dPl (.car i')) none (some 2) h = some (.tup [.str "carrier", .int i'], h) from rfl) ?_
      refine opt_of_eq (eq_diff (x := .tup [.str "shelf", .int i]) (by kernel_rfl) (by show 1 < 12; decide) (y := .tup [.str "carrier", .int i']) (by kernel_rfl) (by show 1 < 12; decide) (fun z => by cases z) h) ?_
      simp
    | sh i' k' =>
      refine opt_of_eq (show slD false (dPl (.sh i' k')) none (some 2) h = some (.tup [.str "shelf", .int i'], h) from rfl) ?_
      by_cases hi : i = i'
      · subst hi
        refine opt_of_eq (eq_self_nb (x := .tup [.str "shelf", .int i]) (by kernel_rfl) (by show 1 < 12; decide) h) ?_
        simp
      · refine opt_of_eq (eq_diff (x := .tup [.str "shelf", .int i]) (by kernel_rfl) (by show 1 < 12; decide) (y := .tup [.str "shelf", .int i']) (by kernel_rfl) (by show 1 < 12; decide) (fun z => hi (by have := z; simp at this; omega)) h) ?_
        simp [hi]
def c_law_meets : List Nat := [67]
end
end Sp

set_option maxRecDepth 100000
set_option maxHeartbeats 4000000
/-! L11: law k11. -/
namespace Sp
open PySem L2 Sw Bd Pm
theorem wSs_ret1 {c : Cfg} {e : E} {env : Sw.Env} {h : Store} {Z : Out → Sw.Env → Store → Prop} : wSs c [.ret e] env h Z = wE c e env h fun d h1 => Z (.ret d) env h1 := by simp
theorem pow10_16 : binI .pow 10 16 = some (10 ^ 16) := pow_of (j := 16) (by decide) (by decide)
theorem cont_pos {p : Plan} (o : p.Ok) {s : St} (q : s.Ok p) {x : Nat} (hx : x < total p) (u : Nat) : ap (adv p s u).cont (pos p s.time x u) = ap s.cont x := by
  have pe := eff_isP o s.time u
  rw [adv_cont o q, effI_nat]
  unfold pos
  rw [comp_ap (by rw [(inv_isP pe).len]; exact pe.ap_lt hx), inv_ap pe hx]
theorem mem_srt {xs : List Nat} {z : Nat} : D.int (z : Int) ∈ (srt xs).map D.int ↔ z ∈ xs := by
  unfold srt
  constructor
  · intro h
    obtain ⟨a, ha, e⟩ := List.mem_map.mp h
    rw [List.mem_mergeSort] at ha
    obtain ⟨b, hb, rfl⟩ := List.mem_map.mp ha
    have : (b : Int) = z := D.int.inj e
    have : b = z := by omega
    exact this ▸ hb
  · intro h
    refine List.mem_map.mpr ⟨_, ?_, rfl⟩
    rw [List.mem_mergeSort]
    exact List.mem_map.mpr ⟨z, h, rfl⟩
theorem mem_nevL {p : Plan} {s : St} (q : s.Ok p) {x y : Nat} (hy : y < total p) : ap s.cont y ∈ nevL p s x (total p) ↔ nev p s.time x y = true := by
  unfold nevL
  constructor
  · intro h
    obtain ⟨a, ha, e⟩ := List.mem_map.mp h
    obtain ⟨h1, h2⟩ := List.mem_filter.mp ha
    rw [← ap_inj q (List.mem_range.mp h1) hy e]
    exact h2
  · intro h
    exact List.mem_map.mpr ⟨y, List.mem_filter.mpr ⟨List.mem_range.mpr hy, h⟩, rfl⟩
theorem ent_ne (a b : Option Nat) (h : Store) : cmpD .ne (dEnt a) (dEnt b) h = some (!decide (a = b)) := by
  rw [cmpD_ne', ← cmpD_eq', ent_eq]
  rfl
section
variable {P : Nat → Option FDef} {n b : Nat} {h : Store}
theorem two_opt {s : Store} {v : Nat} (g : Nat) (hg : (g : Int) < 2) (a c : Int) (hv : ∀ h, ixD h (.lst [.int a, .int c]) (g : Int) = some (.int a) ∨ ixD h (.lst [.int a, .int c]) (g : Int) = some (.int c) → True) : True := True.intro
def c_law11 : List Nat := [70, 31, 34, 32, 35, 39, 64, 63, 24, 2, 0, 1, 23, 21, 25, 57, 43, 4, 10, 9, 8, 7, 11, 12, 6, 56, 50, 16, 19, 18, 13, 14, 61, 58, 60, 59, 65, 3, 62, 66, 69, 29, 20, 17, 15, 28, 26, 22]
theorem law11 (H : Has P c_law11) {ns : List Int} (hl : ns.length ≤ 63) : ∃ h', callI P (n + 20) 70 [.lck (ns.map D.int)] 0 [] = some (.bl true, h') := by
  suffices h : opt (callI P (n + 20) 70 [.lck (ns.map D.int)] 0 []) fun r => r.1 = .bl true by
    obtain ⟨⟨d, h'⟩, e, q⟩ := h
    simp only at q
    subst q
    exact ⟨h', e⟩
  refine call_of (H.f 70 rfl rfl) rfl rfl ?_
  simp [F_law_v5, B_law_v5, getV, -wSs_cons]
  rw [wSs_cons]; simp [getV, -wSs_cons, wSs_ret1]
  obtain ⟨s0, rs0, e0⟩ := mix_ok (P := P) (n := n + 18) (b := 0) (H.sub rfl) hl 11
  refine opt_of_eq e0 ?_
  rw [wSs_cons]; simp [getV, -wSs_cons, wSs_ret1]
  refine ⟨by omega, ?_⟩
  rw [show (rangeL 0 2).map D.int = [0, 1].map dI from rfl]
  refine fr_ret dI (fun j e1 h1 => (∃ a2 a3 a4 a5 a6 a7 a8 a9 a10 a11 a12 a13 a14 a15 a16, e1 = [some (.lck (ns.map D.int)), some (.ref 1), a2, a3, a4, a5, a6, a7, a8, a9, a10, a11, a12, a13, a14, a15, a16]) ∧ ∃ s J, RS s ∧ h1 = s ++ J) ⟨⟨_, _, _, _, _, _, _, _, _, _, _, _, _, _, _, rfl⟩, s0, [], rs0, by simp⟩ (fun _ _ _ _ => live_none _) (fun j x0 e1 h1 hx0 hI => ?_) (fun e1 h1 hI => ?_)
  rotate_left
  · obtain ⟨⟨a2, a3, a4, a5, a6, a7, a8, a9, a10, a11, a12, a13, a14, a15, a16, rfl⟩, s, J, rs, rfl⟩ := hI
    simp
  · obtain ⟨⟨a2, a3, a4, a5, a6, a7, a8, a9, a10, a11, a12, a13, a14, a15, a16, rfl⟩, s, J, rs, rfl⟩ := hI
    simp [getV, -wSs_cons]
    rw [wSs_cons]; simp [getV, -wSs_cons, wSs_ret1]
    refine ⟨le_size (by omega), ?_⟩
    refine next_opt (H.sub rfl) rs (by omega) (by omega) (fun g s1 rs1 hg => ?_)
    simp only [onI_int]
    obtain ⟨lim, hl1, hl2, hlim⟩ : ∃ m : Nat, 1 ≤ m ∧ m ≤ 12 ∧ ∀ hh, ixD hh (D.lst [D.int 3, D.int 6]) (g : Int) = some (.int m) := by
      have : g = 0 ∨ g = 1 := by omega
      rcases this with rfl | rfl
      · exact ⟨3, by omega, by omega, fun _ => rfl⟩
      · exact ⟨6, by omega, by omega, fun _ => rfl⟩
    refine opt_of_eq (hlim _) ?_
    refine lplan_opt (nc := 4) (H.sub rfl) rs1 hl1 hl2 (by omega) (by omega) (fun p s2 rs2 o _ _ => ?_)
    rw [wSs_cons]; simp [getV, -wSs_cons, wSs_ret1]
    refine lstate_opt (H.sub rfl) rs2 o (fun st s3 rs3 q t1 t2 => ?_)
    rw [wSs_cons]; simp [getV, -wSs_cons, wSs_ret1]
    have hr1 := o.r1
    have hT := total_le o
    refine opt_of_eq (spots_ok (H.sub rfl) o q) ?_
    simp only []
    obtain ⟨L, hL1, hL2, hL3⟩ := sorted_spots (h := s3 ++ J) q
    refine opt_of_eq hL1 ?_
    rw [wSs_cons]; simp [getV, -wSs_cons, wSs_ret1]
    have lenL : ∀ hh, biF .len false [.lst (L.map D.int)] hh = some (.int (total p : Nat), hh) := fun hh => by
      show some (D.int ((L.map D.int).length : Nat), hh) = _
      rw [List.length_map, hL2]
    have pick : ∀ {r : Nat}, (r : Int) < (total p : Nat) → ∃ z, z < total p ∧ ∀ hh, ixD hh (D.lst (L.map D.int)) (r : Int) = some (dI (ap st.cont z)) := fun {r} hr => by
      have hrL : r < L.length := by omega
      obtain ⟨z, hz, hxz⟩ := hL3 _ (List.getElem_mem hrL)
      exact ⟨z, hz, fun hh => atI_nat (by rw [List.getElem?_map, List.getElem?_eq_getElem hrL, hxz]; rfl)⟩
    rw [hL2]
    refine next_opt (H.sub rfl) rs3 (by unfold total; omega) (by omega) (fun r s4 rs4 hr => ?_)
    simp only [onI_int]
    obtain ⟨x, hx, ex⟩ := pick hr
    refine opt_of_eq (ex _) ?_
    refine next_opt (H.sub rfl) rs4 (by unfold total; omega) (by omega) (fun r2 s5 rs5 hr2 => ?_)
    simp only [onI_int]
    obtain ⟨y, hy, ey⟩ := pick hr2
    refine opt_of_eq (ey _) ?_
    refine ⟨le_size (by omega), ?_⟩
    rw [wSs_cons]; simp [getV, -wSs_cons, wSs_ret1]
    obtain ⟨so, eso, hso⟩ := first_meeting_ok (n := n + 11) (b := 0) (h := s5 ++ J) (H.sub rfl) o q (by omega) (by omega) hx hy
    refine opt_of_eq eso ?_
    rw [wSs_cons]; simp [getV, -wSs_cons, wSs_ret1]
    obtain ⟨so2, eso2, hso2⟩ := first_meeting_ok (n := n + 11) (b := 0) (h := s5 ++ J) (H.sub rfl) o q (by omega) (by omega) hy hx
    have hsoe := first_uniq (first_comm hso2) hso
    subst hsoe
    refine opt_of_eq eso2 ?_
    refine opt_of_eq (ne_same (ent_nb _) (by have := ent_dep so2; omega) _) ?_
    simp [-wSs_cons]
    rw [wSs_cons]; simp [getV, -wSs_cons, wSs_ret1]
    have two : ∀ {g : Nat}, (g : Int) < 2 → ∃ m : Nat, 1 ≤ m ∧ m ≤ 10 ^ 16 ∧ ∀ hh, ixD hh (D.lst [D.int 60, D.int (10 ^ 16)]) (g : Int) = some (.int m) := fun {g} hg => by
      have : g = 0 ∨ g = 1 := by omega
      rcases this with rfl | rfl
      · exact ⟨60, by omega, by omega, fun _ => rfl⟩
      · exact ⟨10 ^ 16, by omega, by omega, fun _ => rfl⟩
    refine opt_of_eq pow10_16 ?_
    refine ⟨le_size (by omega), ?_⟩
    refine next_opt (H.sub rfl) rs5 (by omega) (by omega) (fun g1 s6 rs6 hg1 => ?_)
    simp only [onI_int]
    obtain ⟨m1, m11, m12, em1⟩ := two hg1
    refine opt_of_eq (em1 _) ?_
    refine next_opt (H.sub rfl) rs6 (by omega) (by omega) (fun u s7 rs7 hu => ?_)
    simp only []
    refine opt_of_eq pow10_16 ?_
    refine ⟨le_size (by omega), ?_⟩
    refine next_opt (H.sub rfl) rs7 (by omega) (by omega) (fun g2 s8 rs8 hg2 => ?_)
    simp only [onI_int]
    obtain ⟨m2, m21, m22, em2⟩ := two hg2
    refine opt_of_eq (em2 _) ?_
    refine next_opt (H.sub rfl) rs8 (by omega) (by omega) (fun v s9 rs9 hv => ?_)
    simp [setsD, -wSs_cons]
    rw [wSs_cons]; simp [getV, -wSs_cons, wSs_ret1]
    have qm := adv_ok o q (c := (u : Int)) (by omega) (by omega)
    have tm : (adv p st u).time = st.time + u := rfl
    have hxu := pos_lt o (t := st.time) hx u
    have hyu := pos_lt o (t := st.time) hy u
    refine opt_of_eq (advance_ok (c := (u : Int)) (H.sub rfl) o q (by omega) (by omega) (by omega) (by omega) (by omega)) ?_
    refine opt_of_eq (ticks_together_ok (n := n + 11) (T := u) (H.sub rfl) o q (by omega) (by omega) hx hy (by omega)) ?_
    simp [setsD, -wSs_cons]
    rw [wSs_cons]; simp [getV, -wSs_cons, wSs_ret1]
    refine opt_of_eq (ticks_together_ok (n := n + 11) (T := u + v) (H.sub rfl) o q (by omega) (by omega) hx hy (by omega)) ?_
    rw [wSs_cons]; simp [getV, -wSs_cons, wSs_ret1]
    have ec := ticks_together_ok (n := n + 11) (b := 0) (h := s9 ++ J) (T := v) (H.sub rfl) o qm (by rw [tm]; omega) (by rw [tm]; omega) hyu hxu (by omega)
    rw [cont_pos o q hx, cont_pos o q hy, tm] at ec
    refine opt_of_eq ec ?_
    have hsp := cnt_split o (t := st.time) hx hy u v
    rw [cnt_comm p (st.time + u)] at hsp
    simp [-wSs_cons]
    refine ⟨by omega, ?_⟩
    rw [wSs_cons]; simp [getV, -wSs_cons, wSs_ret1]
    have sok : -(2 * 10 ^ 18) ≤ st.time := by omega
    refine opt_of_eq (show cmpD .ne (dI (ap st.cont x)) (dI (ap st.cont y)) (s9 ++ J) = some (!decide (x = y)) from ?_) ?_
    · by_cases hxy : x = y
      · subst hxy
        rw [ne_same (dI_nb _) (by show 0 < 12; omega)]
        simp
      · rw [ne_diff (dI_nb _) (by show 0 < 12; omega) (dI_nb _) (by show 0 < 12; omega) (fun z => hxy (ap_inj q hx hy (dI_inj _ _ z)))]
        simp [hxy]
    have dS : (D.lst ((srt (nevL p st x (total p))).map D.int)).dep < 12 := by
      have := deps_map (f := D.int) (fun _ => Nat.le_refl 0) (srt (nevL p st x (total p)))
      simp only [D.dep]
      omega
    have nS : D.nbs ((srt (nevL p st x (total p))).map D.int) = true := nbs_map (fun _ => rfl) _
    have key : ap st.cont y ∈ nevL p st x (total p) ↔ y ≠ x ∧ so2 = none := by
      rw [mem_nevL q hy, nev_iff]
      refine and_congr_right fun _ => ?_
      constructor
      · intro hh
        cases so2 with
        | none => rfl
        | some k => have := hso.1; rw [hh k] at this; cases this
      · intro hh
        subst hh
        exact hso
    have lm : ∀ (c : Nat) (hh : Store), c ≤ 10 ^ 18 → callI P (n + 19) 69 [dPlan p, dSt st, dI (ap st.cont x), dI (ap st.cont y), .int c] 0 hh = some (.bl (mb p st.time x y c), hh) := fun c hh hc => lmeet_ok (n := n + 10) (H.sub rfl) o q (by omega) (by omega) hx hy hc
    have tt : ∀ (T : Nat) (hh : Store), T ≤ 10 ^ 18 → callI P (n + 19) 65 [dPlan p, dSt st, dI (ap st.cont x), dI (ap st.cont y), .int T] 0 hh = some (.int (cnt p st.time x y T), hh) := fun T hh hT => ticks_together_ok (n := n + 11) (H.sub rfl) o q (by omega) (by omega) hx hy hT
    by_cases hxy : x = y
    case' pos => rw [if_neg (by simp [hxy])]
    case' neg =>
      rw [if_pos (by simp [hxy])]
      refine opt_of_eq (never_met_ok (n := n + 11) (H.sub rfl) o q (by omega) (by omega) hx) ?_
      refine opt_inL (x := dI (ap st.cont y)) (dI_nb _) (by show 0 < 12; omega) (pyOf_nb (d := .lst ((srt (nevL p st x (total p))).map D.int)) nS dS) (fun _ h => nomatch h) nS (fun hin => ?_) (fun hin => ?_)
      case' refine_1 =>
        have hn := (key.mp (mem_srt.mp hin)).2
        refine opt_of_eq (ne_bl _ _ _) ?_
        refine ⟨by rw [isNon_ent, hn]; rfl, ?_⟩
      case' refine_2 =>
        have hn : so2 ≠ none := fun z => hin (mem_srt.mpr (key.mpr ⟨fun e => hxy e.symm, z⟩))
        refine opt_of_eq (ne_bl _ _ _) ?_
        refine ⟨by rw [isNon_ent]; cases so2 with | none => exact absurd rfl hn | some k => rfl, ?_⟩
    all_goals
      clear key
      rw [wSs_cons]; simp [getV, -wSs_cons, wSs_ret1, isNon_ent]
      cases so2
    case' pos.none | neg.refine_1.none | neg.refine_2.none =>
      rw [if_pos rfl]
      rw [wSs_cons]; simp [getV, -wSs_cons, wSs_ret1]
      refine ⟨cnt_zero fun i _ _ => hso i, ?_⟩
    case' pos.some k | neg.refine_1.some k | neg.refine_2.some k =>
      rw [if_neg (by simp)]
      have kb := first_bound o hx hy hso
      rw [wSs_cons]; simp [getV, -wSs_cons, wSs_ret1, dEnt]
      refine opt_of_eq (lm k _ (by omega)) ?_
      simp [-wSs_cons]
      refine ⟨hso.1, ?_⟩
      rw [wSs_cons]; simp [getV, -wSs_cons, wSs_ret1]
      refine opt_of_eq (show biF .max2 false [D.int 0, D.int ((k : Int) - 25)] (s9 ++ J) = some (.int ((k - 25 : Nat) : Int), s9 ++ J) from ?_) ?_
      · show some (D.int (if (k : Int) - 25 > 0 then (k : Int) - 25 else 0), s9 ++ J) = _
        congr 3
        split <;> omega
      simp only [onI_int]
      refine ⟨by constructor <;> constructor <;> omega, le_size (by simp [rangeL]; omega), ?_⟩
      rw [show (rangeL ((k - 25 : Nat) : Int) (k : Int)).map D.int = (List.range (k - (k - 25))).map (fun i : Nat => D.int ((k - 25 + i : Nat) : Int)) from by
        simp only [rangeL, List.map_map]
        rw [show ((k : Int) - ((k - 25 : Nat) : Int)).toNat = k - (k - 25) by omega]
        apply List.map_congr_left
        intro i _
        simp]
      refine lc_rule (fun i : Nat => D.int ((k - 25 + i : Nat) : Int)) (fun _ => none) (live_none _) (fun i hi => ?_) ?_
      · rw [List.mem_range] at hi
        simp [wipeD, getV]
        refine opt_of_eq (show callI P (n + 19) 69 [dPlan p, dSt st, dI (ap st.cont x), dI (ap st.cont y), .int ((k - 25 : Nat) + (i : Nat) : Int)] 0 _ = _ from lm (k - 25 + i) _ (by omega)) ?_
        rw [hso.2 _ (by omega)]
        simp
      rw [show (List.range (k - (k - 25))).filterMap (fun _ => (none : Option D)) = [] from by simp]
      refine opt_of_eq (ne_same (x := .lst []) rfl (by decide) _) ?_
      simp [-wSs_cons]
      rw [wSs_cons]; simp [getV, -wSs_cons, wSs_ret1]
      by_cases hk0 : 0 < k
      case' pos =>
        rw [if_pos hk0]
        refine opt_of_eq (tt k _ (by omega)) ?_
        rw [first_one hso hk0]
        refine opt_of_eq (cmpD_neI _ _ _) ⟨rfl, ?_⟩
      case' neg => rw [if_neg hk0]
    all_goals
      rw [wSs_cons]; simp [getV, -wSs_cons, wSs_ret1]
      refine opt_of_eq pow10_17 ?_
      refine next_opt (H.sub rfl) rs9 (by omega) (by omega) (fun w s10 rs10 hw => ?_)
      rw [wSs_cons]; simp [getV, -wSs_cons, wSs_ret1]
      refine opt_of_eq (tt (w + 1) _ (by omega)) ?_
      refine opt_of_eq (tt w _ (by omega)) ?_
      refine opt_of_eq (show binop .sub false (D.int (cnt p st.time x y (w + 1) : Nat)) (D.int (cnt p st.time x y w : Nat)) (s10 ++ J) = some (.int (if mb p st.time x y (w + 1) = true then 1 else 0), s10 ++ J) from ?_) ?_
      · show some (D.int _, _) = _
        rw [cnt_succ]
        congr 3
        split <;> simp <;> omega
      rw [wSs_cons]; simp [getV, -wSs_cons, wSs_ret1]
      refine opt_of_eq (lm (w + 1) _ (by omega)) ?_
      refine opt_of_eq (show biF .int false [D.bl (mb p st.time x y (w + 1))] (s10 ++ J) = some (.int (if mb p st.time x y (w + 1) = true then 1 else 0), s10 ++ J) from rfl) ?_
      refine opt_of_eq (cmpD_neI _ _ _) ?_
      simp
      exact ⟨s10, rs10, _, rfl⟩
end
end Sp

set_option maxRecDepth 100000
set_option maxHeartbeats 2000000
/-! Sq0: what law k10 wants: shelves with both, meetings over a whole period. -/
namespace Sp
open PySem L2 Sw Bd Pm
theorem shOf_iff {p : Plan} (o : p.Ok) {s : St} (q : s.Ok p) {x i : Nat} (hx : x < total p) {z : List Nat} (hz : s.shelves[i]? = some z) : ap s.cont x ∈ z ↔ shOf p x = some i := by
  have f := q.fit
  have hi : i < p.sizes.length := by rw [← f.m]; exact (List.getElem?_eq_some_iff.mp hz).1
  have hzl : p.sizes.getD i 0 = z.length := by
    rw [List.getD_eq_getElem?_getD, ← f.z, List.getElem?_map, hz]
    rfl
  have hfl := firstOn_le hi
  constructor
  · intro h
    obtain ⟨k, hk, e⟩ := List.getElem_of_mem h
    have e2 := cont_sh f hz hk
    have e3 : z.getD k 0 = z[k] := by rw [List.getD_eq_getElem?_getD, List.getElem?_eq_getElem hk]; rfl
    have : firstOn p i + k = x := ap_inj q (by omega) hx (by rw [e2, e3, e])
    rw [← this]
    exact shOf_sh hi (by omega)
  · intro h
    unfold shOf at h
    cases hp : plOf p x with
    | car c => rw [hp] at h; cases h
    | sh s' k =>
      rw [hp] at h
      have hs : s' = i := Option.some.inj h
      subst hs
      have hn := pls_at (plOf_some hx)
      rw [hp] at hn
      have hn : firstOn p s' + k = x := hn
      have hk : k < z.length := by
        refine Nat.lt_of_not_le fun hge => ?_
        have hin : Pl.sh s' k ∈ pls p := hp ▸ List.mem_of_getElem? (plOf_some hx)
        have key : ∀ (xs : List Nat) (b : Nat), Pl.sh s' k ∈ ((xs.zipIdx b).map shl).flatten → ∃ j, b + j = s' ∧ ∃ w, xs[j]? = some w ∧ k < w := by
          intro xs
          induction xs with
          | nil => intro b h; simp at h
          | cons w ws ih =>
            intro b h
            rw [List.zipIdx_cons, List.map_cons, List.flatten_cons, List.mem_append] at h
            rcases h with h | h
            · obtain ⟨k', hk', e⟩ := List.mem_map.mp h
              have e' : Pl.sh b k' = Pl.sh s' k := e
              injection e' with e1 e2
              have hk2 := List.mem_range.mp hk'
              have hk3 : k' < w := hk2
              exact ⟨0, by omega, w, rfl, by omega⟩
            · obtain ⟨j, e1, w', e2, e3⟩ := ih (b + 1) h
              exact ⟨j + 1, by omega, w', by simpa using e2, e3⟩
        unfold pls plsTo at hin
        rw [List.mem_append] at hin
        rcases hin with hin | hin
        · obtain ⟨c, _, e⟩ := List.mem_map.mp hin
          cases e
        · rw [List.take_of_length_le (by simp)] at hin
          obtain ⟨j, e1, w, e2, e3⟩ := key _ 0 hin
          rw [show j = s' by omega] at e2
          rw [List.getD_eq_getElem?_getD, e2] at hzl
          have : w = z.length := hzl
          omega
      rw [← hn, cont_sh f hz hk, List.getD_eq_getElem?_getD, List.getElem?_eq_getElem hk]
      exact List.getElem_mem hk
def samS (p : Plan) (x y : Nat) : Bool := (shOf p x).isSome && decide (shOf p x = shOf p y)
theorem samS_mb {p : Plan} {t : Int} {x y k : Nat} : samS p (pos p t x k) (pos p t y k) = mb p t x y k := rfl
section
variable {P : Nat → Option FDef} {n b : Nat} {h : Store} {p : Plan}
def c_lmeets : List Nat := [67]
theorem lmeets_ok (H : Has P c_lmeets) (o : p.Ok) {s : St} (q : s.Ok p) {x y : Nat} (hx : x < total p) (hy : y < total p) :
    callI P (n + 1) 67 [dSt s, dI (ap s.cont x), dI (ap s.cont y)] b h = some (.bl (samS p x y), h) := by
  have hm := q.fit.m
  have o2 := o.s2
  refine opt_eq (call_of (H.f 67 rfl rfl) rfl rfl ?_)
  simp [F__law_meets, B__law_meets, getV, ixD_st2]
  refine ⟨le_size (by omega), ?_⟩
  refine lc_rule dShelf (fun z => if (decide (ap s.cont x ∈ z) && decide (ap s.cont y ∈ z)) = true then some (dShelf z) else none) (live_none _) (fun z hz => ?_) ?_
  · have nz : D.nbs (z.map dI) = true := nb_dI z
    have dz : D.deps (z.map dI) < 11 := by have := deps_dI z; omega
    have memd : ∀ w : Nat, dI w ∈ z.map dI ↔ w ∈ z := fun w => by
      constructor
      · intro hh
        obtain ⟨a, ha, e⟩ := List.mem_map.mp hh
        exact dI_inj _ _ e ▸ ha
      · exact fun hh => List.mem_map.mpr ⟨w, hh, rfl⟩
    simp [wipeD, getV, dShelf]
    refine opt_inT (dI_nb _) (by show 0 < 12; omega) nz dz (fun hin => ?_) (fun hin => ?_)
    · rw [memd] at hin
      simp [hin]
      refine opt_inT (dI_nb _) (by show 0 < 12; omega) nz dz (fun hin2 => ?_) (fun hin2 => ?_)
      · rw [memd] at hin2
        simp [hin2]
      · rw [memd] at hin2
        simp [hin2]
    · rw [memd] at hin
      simp [hin]
  · rw [filterMap_if]
    simp
    obtain ⟨FL, hFL⟩ : ∃ FL, FL = s.shelves.filter fun z => decide (ap s.cont x ∈ z) && decide (ap s.cont y ∈ z) := ⟨_, rfl⟩
    rw [← hFL]
    have key : FL ≠ [] ↔ samS p x y = true := by
      unfold samS
      constructor
      · intro hne
        obtain ⟨z, hz⟩ := List.exists_mem_of_ne_nil _ hne
        rw [hFL, List.mem_filter] at hz
        obtain ⟨i, hi, e⟩ := List.getElem_of_mem hz.1
        have hz2 := hz.2
        simp only [Bool.and_eq_true, decide_eq_true_eq] at hz2
        have hzi : s.shelves[i]? = some z := by rw [List.getElem?_eq_getElem hi, e]
        rw [(shOf_iff o q hx hzi).mp hz2.1, (shOf_iff o q hy hzi).mp hz2.2]
        simp
      · intro hh hz
        simp only [Bool.and_eq_true, decide_eq_true_eq] at hh
        obtain ⟨i, hi⟩ := Option.isSome_iff_exists.mp hh.1
        have hil : i < s.shelves.length := by
          unfold shOf at hi
          cases hp : plOf p x with
          | car c => rw [hp] at hi; cases hi
          | sh s' k =>
            rw [hp] at hi
            have hs : s' = i := Option.some.inj hi
            subst hs
            rw [hm]
            have hin : Pl.sh s' k ∈ pls p := hp ▸ List.mem_of_getElem? (plOf_some hx)
            unfold pls plsTo at hin
            rw [List.mem_append] at hin
            rcases hin with hin | hin
            · obtain ⟨c, _, e⟩ := List.mem_map.mp hin
              cases e
            · obtain ⟨l, hl1, hl2⟩ := List.mem_flatten.mp hin
              obtain ⟨v, hv, rfl⟩ := List.mem_map.mp hl1
              obtain ⟨k', _, e⟩ := List.mem_map.mp hl2
              have e' : Pl.sh v.2 k' = Pl.sh s' k := e
              injection e' with e1 e2
              have hv2 := List.mem_of_mem_take hv
              obtain ⟨w, j⟩ := v
              have := List.mem_zipIdx hv2
              simp at this e1
              omega
        have hzi := List.getElem?_eq_getElem hil
        have : s.shelves[i] ∈ FL := by
          rw [hFL, List.mem_filter]
          refine ⟨List.getElem_mem hil, ?_⟩
          simp only [Bool.and_eq_true, decide_eq_true_eq]
          exact ⟨(shOf_iff o q hx hzi).mpr hi, (shOf_iff o q hy hzi).mpr (hh.2 ▸ hi)⟩
        rw [hz] at this
        cases this
    by_cases hz : FL = []
    · rw [hz]
      refine opt_of_eq (ne_same (x := .lst []) rfl (by decide) _) ?_
      have : samS p x y = false := by
        cases hs : samS p x y with
        | false => rfl
        | true => exact absurd hz (key.mpr hs)
      simp [this]
    · have nR : (D.lst (FL.map dShelf)).nb = true := nbs_map (f := dShelf) (fun z => (nb_dI z : D.nbs (z.map dI) = true)) _
      have dR : (D.lst (FL.map dShelf)).dep < 12 := by
        have := deps_map (f := dShelf) (k := 1) (fun z => by have := deps_dI z; show D.dep (.tup _) ≤ 1; simp only [D.dep]; omega) FL
        simp only [D.dep]
        omega
      refine opt_of_eq (ne_diff nR dR (y := .lst []) rfl (by decide) (fun z => hz (by have := D.lst.inj z; simpa using this)) _) ?_
      simp [key.mp hz]
/-! ### a whole period -/
theorem ws_whole (o : p.Ok) {t : Int} {x K : Nat} (hx : x < total p) (hK : eff p t K = ids (total p)) (hper : Periodic p K) (k : Nat) : ws p t x (K + k) = ws p t x k := by
  rw [ws_add o hx]
  unfold ws pos
  rw [hK, eff_per hper]
  congr 2
  unfold ids ap
  rw [List.getD_eq_getElem?_getD, List.getElem?_range hx]
  rfl
theorem mb_whole (o : p.Ok) {t : Int} {x y K : Nat} (hx : x < total p) (hy : y < total p) (hK : eff p t K = ids (total p)) (hper : Periodic p K) (k : Nat) : mb p t x y (K + k) = mb p t x y k := by
  unfold mb
  rw [ws_whole o hx hK hper, ws_whole o hy hK hper]
theorem mb_wholes (o : p.Ok) {t : Int} {x y K : Nat} (hx : x < total p) (hy : y < total p) (hK : eff p t K = ids (total p)) (hper : Periodic p K) (k : Nat) : ∀ j, mb p t x y (j * K + k) = mb p t x y k
  | 0 => by rw [Nat.zero_mul, Nat.zero_add]
  | j + 1 => by rw [show (j + 1) * K + k = K + (j * K + k) by rw [Nat.add_mul]; omega, mb_whole o hx hy hK hper, mb_wholes o hx hy hK hper k j]
theorem mb_rest (o : p.Ok) {t : Int} {x y K : Nat} (hx : x < total p) (hy : y < total p) (hK : eff p t K = ids (total p)) (hper : Periodic p K) (i : Nat) : mb p t x y i = mb p t x y (i % K) := by
  have := mb_wholes o hx hy hK hper (i % K) (i / K)
  rw [show i / K * K + i % K = i from Nat.div_add_mod' i K] at this
  exact this
theorem cnt_wholes (o : p.Ok) {t : Int} {x y K : Nat} (hx : x < total p) (hy : y < total p) (hK : eff p t K = ids (total p)) (hper : Periodic p K) (c : Nat) : ∀ j, cnt p t x y (j * K + c) = j * cnt p t x y K + cnt p t x y c
  | 0 => by simp
  | j + 1 => by
    rw [show (j + 1) * K + c = K + (j * K + c) by rw [Nat.add_mul]; omega, cnt_add]
    have : ((List.range (j * K + c)).filter fun k => mb p t x y (K + (k + 1))).length = cnt p t x y (j * K + c) := by
      unfold cnt
      congr 1
      apply List.filter_congr
      intro k _
      exact mb_whole o hx hy hK hper (k + 1)
    rw [this, cnt_wholes o hx hy hK hper c j, Nat.add_mul]
    omega
/-- all meetings from 0 to K -/
def ticksM (p : Plan) (t : Int) (x y K : Nat) : List Nat := (List.range (K + 1)).filter fun k => mb p t x y k
theorem cnt_ticks (p : Plan) (t : Int) (x y : Nat) {K c : Nat} (hc : c ≤ K) : ((ticksM p t x y K).filter fun k => decide (1 ≤ k) && decide (k ≤ c)).length = cnt p t x y c := by
  unfold ticksM cnt
  rw [List.filter_filter]
  have e : List.range (K + 1) = 0 :: ((List.range K).map (· + 1)) := by rw [List.range_succ_eq_map]
  rw [e, List.filter_cons_of_neg (by simp), List.filter_map, List.length_map]
  have e2 : List.range K = List.range c ++ (List.range (K - c)).map (c + ·) := by
    rw [← List.range_add]
    congr 1
    omega
  rw [e2, List.filter_append, List.length_append]
  have e3 : ((List.range (K - c)).map (c + ·)).filter ((fun k => (decide (1 ≤ k) && decide (k ≤ c)) && mb p t x y k) ∘ (· + 1)) = [] := by
    rw [List.filter_eq_nil_iff]
    intro k hk
    obtain ⟨i, _, rfl⟩ := List.mem_map.mp hk
    simp
    intro h
    omega
  rw [e3, List.length_nil, Nat.add_zero]
  congr 1
  apply List.filter_congr
  intro k hk
  have := List.mem_range.mp hk
  simp
  intro _
  omega
theorem first_ticks (o : p.Ok) {t : Int} {x y K : Nat} (hx : x < total p) (hy : y < total p) (hK : eff p t K = ids (total p)) (hper : Periodic p K) (h0 : 0 < K) : FirstM p t x y (ticksM p t x y K).head? := by
  cases hh : (ticksM p t x y K).head? with
  | none =>
    rw [List.head?_eq_none_iff] at hh
    intro i
    cases hm : mb p t x y i with
    | false => rfl
    | true =>
      have hlt := Nat.mod_lt i h0
      have : i % K ∈ ticksM p t x y K := by
        unfold ticksM
        rw [List.mem_filter, List.mem_range]
        exact ⟨by omega, by rw [← mb_rest o hx hy hK hper]; exact hm⟩
      rw [hh] at this
      cases this
  | some k =>
    unfold ticksM at hh
    rw [List.head?_filter, List.find?_eq_some_iff_getElem] at hh
    obtain ⟨h2, i, hi, e, h3⟩ := hh
    rw [List.getElem_range] at e
    subst e
    refine ⟨h2, fun j hj => ?_⟩
    have := h3 j hj
    rw [List.getElem_range] at this
    simpa using this
/-- never met: by the list in order -/
theorem srt_filter (l : List Nat) (g : Int → Bool) : (srt l).filter g = srt (l.filter fun x => g x) := by
  unfold srt
  have tr : ∀ a b c : Int, decide (a ≤ b) = true → decide (b ≤ c) = true → decide (a ≤ c) = true := fun a b c h1 h2 => by simp at *; omega
  have to : ∀ a b : Int, (decide (a ≤ b) || decide (b ≤ a)) = true := fun a b => by simp; omega
  refine List.Perm.eq_of_pairwise (le := fun a b => decide (a ≤ b) = true) (fun a b _ _ h1 h2 => by simp at h1 h2; omega) ?_ ?_ ?_
  · exact (List.pairwise_mergeSort tr to _).filter _
  · exact List.pairwise_mergeSort tr to _
  · refine ((List.mergeSort_perm _ _).filter g).trans ?_
    rw [List.filter_map]
    exact (List.mergeSort_perm _ _).symm
theorem sorted_spots2 {s : St} : biF .sorted false [dSpots p s] h = some (.lst ((srt ((List.range (total p)).map (ap s.cont))).map D.int), h) := by
  have e1 : biF .sorted false [dSpots p s] h = match getK h (dSpots p s) with
      | some kvs => (asInts (kvs.map fun p => kD p.1)).map fun ns => mkL false ((ns.mergeSort (fun a b => decide (a ≤ b))).map .int) h
      | none => none := rfl
  have e2 : (kvS p s (total p)).map (fun p => kD p.1) = (List.range (total p)).map fun j => D.int ((ap s.cont j : Nat) : Int) := by
    unfold kvS
    rw [List.map_map]
    rfl
  rw [getK_spots] at e1
  simp only [e2, asInts_map, Option.map_some, mkL_f] at e1
  rw [e1]
  unfold srt
  rw [List.map_map]
  rfl
end
end Sp

set_option maxRecDepth 100000
set_option maxHeartbeats 2000000
/-! Sq1: the law's equality of a list and a list of the store. -/
namespace Sp
open PySem L2 Sw Bd Pm
section
variable {P : Nat → Option FDef} {n b : Nat} {h : Store}
theorem alike_lref (H : Has P c_alike) {k m : Nat} {ds : List D} (e : h[m]? = some (.lst ds)) (h1 : dats ds = true) (h2 : D.deps ds ≤ k) (h3 : ds.length ≤ 100000) : callI P (n + k + 1 + 1) 33 [.lst ds, .ref m] b h = some (.bl true, h) := by
  have hle := le_size h3
  refine opt_eq (call_of (H.f 33 rfl rfl) rfl rfl ?_)
  have hl1 : ∀ f, biF .len f [.lst ds] h = some (.int ds.length, h) := fun f => rfl
  have hl2 : ∀ f, biF .len f [.ref m] h = some (.int ds.length, h) := fun f => by
    simp [biF, getS_ref e]
  have ht : tyD h (.ref m) = some "list" := by simp [tyD, e]
  have hix : ∀ (hh : Store) (i : Nat), (hi : i < ds.length) → ixD hh (.lst ds) (i : Int) = some ds[i] := fun hh i hi => atI_nat (List.getElem?_eq_getElem hi)
  have hix2 : ∀ (i : Nat), (hi : i < ds.length) → ixD h (.ref m) (i : Int) = some ds[i] := fun i hi => by
    rw [ixD_ref e]
    exact atI_nat (List.getElem?_eq_getElem hi)
  have step : ∀ (c : Cfg), c.call = callI P (n + k + 1) → c.lk = [] → opt (lcL none
      (lcB c (.name 2) (.some (.nt (.call "_law_alike" 33 (.cons (.ix (.var 0) (.var 2)) (.cons (.ix (.var 1) (.var 2)) .nil))))) (.var 2) (wipeD [some (.lst ds), some (.ref m), none] [2])) ((rangeL 0 (ds.length : Int)).map D.int) h) fun p => p = ([], h) := by
    intro c hc hl
    rw [rangeL_nat]
    refine lc_rule dI (fun _ => none) (live_none h) (fun i hi => ?_) ?_
    · rw [List.mem_range] at hi
      simp [wipeD, getV, dI, hl]
      refine opt_of_eq (hix h i hi) ?_
      refine opt_of_eq (hix2 i hi) ?_
      rw [hc]
      refine opt_of_eq (alike_ok H k ds[i] (dats_iff.mp h1 _ (List.getElem_mem hi)) (deps_le.mp h2 _ (List.getElem_mem hi))) ?_
      simp
    · simp
  have fin : ∀ hh, cmpD .eq (.lst []) (.lst []) hh = some true := fun hh => eq_self_nb (x := .lst []) rfl (by simp [D.dep, D.deps]) hh
  have rl : (rangeL 0 (ds.length : Int)).length = ds.length := by simp [rangeL]
  simp [F__law_alike, B__law_alike, getV, biF_isinst, ht, tyD_lst, subTy, hl1, hl2, rl]
  refine opt_of_eq (ne_bl _ _ _) ?_
  simp
  refine ⟨by omega, hle, ?_⟩
  refine opt.imp (step _ rfl rfl) fun q hq => ?_
  subst hq
  exact opt_of_eq (fin _) ⟨rfl, by simp⟩
end
end Sp

set_option maxRecDepth 100000
set_option maxHeartbeats 4000000
/-! L10: law k10. -/
namespace Sp
open PySem L2 Sw Bd Pm
theorem pow10_14 : binI .pow 10 14 = some (10 ^ 14) := pow_of (j := 14) (by decide) (by decide)
open Classical in
/-- of the parcels in order: is it never met -/
noncomputable def nvz (p : Plan) (st : St) (x : Nat) (z : Int) : Bool := decide (∃ y, y < total p ∧ z = (ap st.cont y : Nat) ∧ nev p st.time x y = true)
theorem nvz_at {p : Plan} {st : St} (q : st.Ok p) {x y : Nat} (hy : y < total p) : nvz p st x ((ap st.cont y : Nat) : Int) = nev p st.time x y := by
  unfold nvz
  cases hn : nev p st.time x y with
  | true => exact decide_eq_true ⟨y, hy, rfl, hn⟩
  | false =>
    refine decide_eq_false ?_
    rintro ⟨y', hy', e, h⟩
    have : y = y' := ap_inj q hy hy' (by omega)
    subst this
    rw [hn] at h
    cases h
section
variable {P : Nat → Option FDef} {n b : Nat} {h : Store}
def c_law10 : List Nat := [68, 31, 34, 32, 35, 37, 36, 38, 39, 33, 52, 49, 64, 63, 24, 2, 0, 1, 23, 21, 25, 57, 43, 4, 10, 9, 8, 7, 11, 12, 6, 56, 50, 16, 19, 18, 13, 14, 61, 58, 60, 59, 65, 3, 62, 66, 67]
theorem law10 (H : Has P c_law10) {ns : List Int} (hl : ns.length ≤ 63) : ∃ h', callI P (n + 20) 68 [.lck (ns.map D.int)] 0 [] = some (.bl true, h') := by
  suffices h : opt (callI P (n + 20) 68 [.lck (ns.map D.int)] 0 []) fun r => r.1 = .bl true by
    obtain ⟨⟨d, h'⟩, e, q⟩ := h
    simp only at q
    subst q
    exact ⟨h', e⟩
  refine call_of (H.f 68 rfl rfl) rfl rfl ?_
  simp [F_law_v4, B_law_v4, getV, -wSs_cons]
  rw [wSs_cons]; simp [getV, -wSs_cons, wSs_ret1]
  obtain ⟨s0, rs0, e0⟩ := mix_ok (P := P) (n := n + 18) (b := 0) (H.sub rfl) hl 10
  refine opt_of_eq e0 ?_
  rw [wSs_cons]; simp [getV, -wSs_cons, wSs_ret1]
  refine ⟨by omega, ?_⟩
  rw [show (rangeL 0 3).map D.int = [0, 1, 2].map dI from rfl]
  refine fr_ret dI (fun j e1 h1 => (∃ a2 a3 a4 a5 a6 a7 a8 a9 a10 a11 a12 a13 a14 a15 a16 a17 a18 a19 a20, e1 = [some (.lck (ns.map D.int)), some (.ref 1), a2, a3, a4, a5, a6, a7, a8, a9, a10, a11, a12, a13, a14, a15, a16, a17, a18, a19, a20]) ∧ ∃ s J, RS s ∧ h1 = s ++ J) ⟨⟨_, _, _, _, _, _, _, _, _, _, _, _, _, _, _, _, _, _, _, rfl⟩, s0, [], rs0, by simp⟩ (fun _ _ _ _ => live_none _) (fun j x0 e1 h1 hx0 hI => ?_) (fun e1 h1 hI => ?_)
  rotate_left
  · obtain ⟨⟨a2, a3, a4, a5, a6, a7, a8, a9, a10, a11, a12, a13, a14, a15, a16, a17, a18, a19, a20, rfl⟩, s, J, rs, rfl⟩ := hI
    simp
  · obtain ⟨⟨a2, a3, a4, a5, a6, a7, a8, a9, a10, a11, a12, a13, a14, a15, a16, a17, a18, a19, a20, rfl⟩, s, J, rs, rfl⟩ := hI
    simp [getV, -wSs_cons]
    rw [wSs_cons]; simp [getV, -wSs_cons, wSs_ret1]
    refine lplan_opt (ns := 3) (nc := 3) (H.sub rfl) rs (by omega) (by omega) (by omega) (by omega) (fun p s2 rs2 o _ _ => ?_)
    rw [wSs_cons]; simp [getV, -wSs_cons, wSs_ret1]
    refine lstate_opt (H.sub rfl) rs2 o (fun st s3 rs3 q t1 t2 => ?_)
    rw [wSs_cons]; simp [getV, -wSs_cons, wSs_ret1]
    have hr1 := o.r1
    have hT := total_le o
    have f := q.fit
    have hm := f.m
    have o2 := o.s2
    refine opt_of_eq (period_ok (n := n + 13) (H.sub rfl) o q (by omega) (by omega)) ?_
    obtain ⟨K, hKd⟩ : ∃ K, K = patL p * ordE (total p) (eff p st.time (patL p)) := ⟨_, rfl⟩
    rw [← hKd]
    have pe := eff_isP o st.time (patL p)
    have hK0 : 0 < K := by rw [hKd]; exact Nat.mul_pos (patL_pos o) (ordE_pos pe)
    have hKe : eff p st.time K = ids (total p) := by
      have := effI_pat o (patL_per o) st.time ((ordE (total p) (eff p st.time (patL p)) : Nat) : Int)
      rw [show ((patL p : Nat) : Int) * ((ordE (total p) (eff p st.time (patL p)) : Nat) : Int) = ((K : Nat) : Int) by rw [hKd, Int.natCast_mul], effI_nat] at this
      rw [this]
      exact (pwI_ids pe).mpr (by rw [Int.natAbs_natCast]; exact Nat.dvd_refl _)
    have hKp : Periodic p K := by
      intro t
      have : ∀ j : Nat, visits p (t + ((patL p * j : Nat) : Int)) = visits p t := fun j => by
        induction j with
        | zero => simp
        | succ j ih => rw [show t + ((patL p * (j + 1) : Nat) : Int) = t + ((patL p * j : Nat) : Int) + (patL p : Nat) by rw [Nat.mul_add, Nat.mul_one, Int.natCast_add]; omega, patL_per o, ih]
      rw [hKd]
      exact this _
    rw [wSs_cons]; simp [getV, -wSs_cons]
    by_cases hK4 : K ≤ 400
    rotate_left
    · rw [if_neg (by omega)]
      exact ⟨s3, rs3, J, rfl⟩
    rw [if_pos (by omega)]
    rw [wSs_cons]; simp [getV, -wSs_cons, wSs_ret1]
    refine opt_of_eq (begun_ok (H.sub rfl) (by omega)) ?_
    simp only []
    refine ⟨le_size (by omega), ?_⟩
    simp [-wSs_cons]
    refine ⟨le_size (by omega), ?_⟩
    obtain ⟨B, hB⟩ : ∃ B, B = s3.length + J.length := ⟨_, rfl⟩
    have pos : ∀ s : Store, RS s → s.length + J.length = B := fun s r => by rw [hB, r.len, rs3.len]
    rw [wObs_len, ← hB, show s3.length + (J.length + (st.shelves.length + 2)) = B + (st.shelves.length + 2) by omega]
    have okA : ∀ k : Int, -1000 ≤ k → k ≤ 1000 → (adv p st k).Ok p := fun k h1 h2 => adv_ok o q (by omega) (by omega)
    have tA : ∀ k : Int, (adv p st k).time = st.time + k := fun k => rfl
    have mA : ∀ k : Int, -1000 ≤ k → k ≤ 1000 → (adv p st k).shelves.length = st.shelves.length := fun k h1 h2 => by rw [(okA k h1 h2).fit.m, hm]
    obtain ⟨SL, hSL⟩ : ∃ SL : Nat → Ob, SL = fun m => .lst ((List.range m).map fun i : Nat => dSt (adv p st i)) := ⟨_, rfl⟩
    have ix7 : ∀ (hh : Store) (m k : Nat), k < m → hh[B + (st.shelves.length + 2)]? = some (SL m) → ixD hh (.ref (B + (st.shelves.length + 2))) (k : Int) = some (dSt (adv p st k)) := by
      intro hh m k hk hg
      rw [hSL] at hg
      rw [ixD_ref hg]
      exact atI_nat (by rw [List.getElem?_map, List.getElem?_range hk]; rfl)
    have gS : ∀ (s : Store), RS s → ∀ (W : St) (x : Ob) (R : Store), W.shelves.length = st.shelves.length → (s ++ (J ++ (wObs W B ++ x :: R)))[B + (st.shelves.length + 2)]? = some x := by
      intro s rs W x R hW
      rw [← List.append_assoc, ← List.append_assoc, List.getElem?_append_right (by rw [List.length_append, List.length_append, wObs_len, hW]; have := pos s rs; omega)]
      rw [List.length_append, List.length_append, wObs_len, hW, pos s rs, Nat.sub_self]
      rfl
    have sS : ∀ (s : Store), RS s → ∀ (W : St) (x y : Ob) (R : Store), W.shelves.length = st.shelves.length → (s ++ (J ++ (wObs W B ++ x :: R))).set (B + (st.shelves.length + 2)) y = s ++ (J ++ (wObs W B ++ y :: R)) := by
      intro s rs W x y R hW
      rw [← List.append_assoc, ← List.append_assoc, List.set_append_right _ _ (by rw [List.length_append, List.length_append, wObs_len, hW]; have := pos s rs; omega)]
      rw [List.length_append, List.length_append, wObs_len, hW, pos s rs, Nat.sub_self]
      simp
    have adv0 : adv p st 0 = st := adv_zero q
    rw [wSs_cons]; simp [getV, -wSs_cons]
    refine ⟨by constructor <;> omega, ?_⟩
    rw [rangeL_nat]
    refine fr_ret dI (fun j e1 h1 => (∃ a8, e1 = [some (.lck (ns.map D.int)), some (.ref 1), some (dI x0), some (dPlan p), some (dSt st), some (.int K), some (.ref (B + 1 + st.shelves.length)), some (.ref (B + (st.shelves.length + 2))), a8, a9, a10, a11, a12, a13, a14, a15, a16, a17, a18, a19, a20]) ∧ h1 = s3 ++ (J ++ (wObs (adv p st j) B ++ [SL (j + 1)]))) ⟨⟨_, rfl⟩, by rw [hSL]; simp [adv0]⟩ (fun _ _ _ _ => live_none _) (fun j y e1 h1 hy hI => ?_) (fun e1 h1 hI => ?_)
    · obtain ⟨⟨a8, rfl⟩, rfl⟩ := hI
      obtain ⟨hj, rfl⟩ := range_at hy
      have qj := okA y (by omega) (by omega)
      have mj := mA y (by omega) (by omega)
      have mj1 := mA ((y : Int) + 1) (by omega) (by omega)
      have nx : nextSt p (adv p st y) = adv p st ((y + 1 : Nat) : Int) := by
        rw [nextSt_adv o qj, adv_adv o q]
        rfl
      simp [getV, -wSs_cons]
      rw [wSs_cons]; simp [getV, -wSs_cons, wSs_ret1]
      rw [← mj]
      refine opt_of_eq (lstep2 (H.sub rfl) o qj.fit (pos s3 rs3)) ?_
      rw [mj, nx]
      rw [wSs_cons]; simp [getV, -wSs_cons, wSs_ret1]
      refine ⟨(mtTy_ref (by rw [gS s3 rs3 _ _ _ mj1, hSL])).1, ?_⟩
      have sn := seen2 (P := P) (n := n + 18) (b := 0) (H.sub rfl) (s := adv p st ((y : Int) + 1)) (by rw [mj1]; omega) (S := s3) (J := J) (R := [SL (y + 1)]) (pos s3 rs3)
      rw [mj1] at sn
      refine opt_of_eq sn ?_
      simp only []
      refine opt_of_eq (append_ref (ds := (List.range (y + 1)).map fun i : Nat => dSt (adv p st i)) (by rw [gS s3 rs3 _ _ _ mj1, hSL]) (by simp; omega) (.inl (by simp [D.bels, dSt_bel]))) ?_
      rw [sS s3 rs3 _ _ _ _ mj1]
      have e1 : (List.range (y + 1)).map (fun i : Nat => dSt (adv p st i)) ++ [dSt (adv p st ((y : Int) + 1))] = (List.range (y + 1 + 1)).map (fun i : Nat => dSt (adv p st i)) := by
        rw [List.range_succ (n := y + 1), List.map_append]
        rfl
      rw [e1]
      simp [hSL]
    · obtain ⟨⟨a8, rfl⟩, rfl⟩ := hI
      rw [List.length_range]
      simp only [seqK_nx]
      have mK := mA (K : Int) (by omega) (by omega)
      rw [wSs_cons]; simp [getV, -wSs_cons, wSs_ret1]
      refine opt_of_eq (spots_ok (H.sub rfl) o q) ?_
      simp only []
      refine opt_of_eq sorted_spots2 ?_
      obtain ⟨L, hL⟩ : ∃ L, L = srt ((List.range (total p)).map (ap st.cont)) := ⟨_, rfl⟩
      rw [← hL]
      have hL2 : L.length = total p := by rw [hL]; unfold srt; rw [List.length_mergeSort]; simp
      have hL3 : ∀ z ∈ L, ∃ j, j < total p ∧ z = (ap st.cont j : Nat) := fun z hz => by
        rw [hL] at hz
        unfold srt at hz
        rw [List.mem_mergeSort] at hz
        obtain ⟨w, hw, rfl⟩ := List.mem_map.mp hz
        obtain ⟨j, hj, rfl⟩ := List.mem_map.mp hw
        exact ⟨j, List.mem_range.mp hj, rfl⟩
      have pick : ∀ {r : Nat}, (r : Int) < (total p : Nat) → ∃ z, z < total p ∧ ∀ hh, ixD hh (D.lst (L.map D.int)) (r : Int) = some (dI (ap st.cont z)) := fun {r} hr => by
        have hrL : r < L.length := by omega
        obtain ⟨z, hz, hxz⟩ := hL3 _ (List.getElem_mem hrL)
        exact ⟨z, hz, fun hh => atI_nat (by rw [List.getElem?_map, List.getElem?_eq_getElem hrL, hxz]; rfl)⟩
      rw [wSs_cons]; simp [getV, -wSs_cons, wSs_ret1]
      rw [hL2]
      refine next_opt (H.sub rfl) rs3 (by unfold total; omega) (by omega) (fun r s4 rs4 hr => ?_)
      simp only [onI_int]
      obtain ⟨x, hx, ex⟩ := pick hr
      refine opt_of_eq (ex _) ?_
      refine next_opt (H.sub rfl) rs4 (by unfold total; omega) (by omega) (fun r2 s5 rs5 hr2 => ?_)
      simp only [onI_int]
      obtain ⟨y, hy, ey⟩ := pick hr2
      refine opt_of_eq (ey _) ?_
      refine ⟨le_size (by omega), ?_⟩
      rw [wSs_cons]; simp [getV, -wSs_cons, wSs_ret1]
      have ck : ∀ (s : Store) (R : Store) (k z : Nat), RS s → k < K + 1 → z < total p → opt (ixD (s ++ (J ++ (wObs (adv p st K) B ++ SL (K + 1) :: R))) (.ref (B + (st.shelves.length + 2))) (k : Int)) (fun d => callI P (n + 19) 67 [d, dI (ap st.cont x), dI (ap st.cont z)] 0 (s ++ (J ++ (wObs (adv p st K) B ++ SL (K + 1) :: R))) = some (.bl (mb p st.time x z k), s ++ (J ++ (wObs (adv p st K) B ++ SL (K + 1) :: R)))) := fun s R k z rs hk hz => by
        refine opt_of_eq (ix7 _ (K + 1) k hk (gS s rs _ _ _ mK)) ?_
        have e := lmeets_ok (P := P) (n := n + 18) (b := 0) (h := s ++ (J ++ (wObs (adv p st K) B ++ SL (K + 1) :: R))) (H.sub rfl) o (okA k (by omega) (by omega)) (pos_lt o (t := st.time) hx k) (pos_lt o (t := st.time) hz k)
        rw [cont_pos o q hx, cont_pos o q hz] at e
        exact e
      refine ⟨by constructor <;> omega, le_size (by simp [rangeL]; omega), ?_⟩
      rw [show (rangeL 0 ((K : Int) + 1)).map D.int = (List.range (K + 1)).map dI from rangeL_nat (K + 1)]
      refine lc_rule dI (fun k => if mb p st.time x y k = true then some (dI k) else none) (live_none _) (fun k hk => ?_) ?_
      · rw [List.mem_range] at hk
        simp [wipeD, getV, dI]
        obtain ⟨d, e1, e2⟩ := ck s5 [] k y rs5 hk hy
        refine opt_of_eq e1 ?_
        refine opt_of_eq e2 ?_
        simp
      rw [filterMap_if]
      rw [show ((List.range (K + 1)).filter fun k => mb p st.time x y k) = ticksM p st.time x y K from rfl]
      obtain ⟨TM, hTM⟩ : ∃ TM, TM = ticksM p st.time x y K := ⟨_, rfl⟩
      rw [← hTM]
      have lTM : TM.length ≤ K + 1 := by
        rw [hTM]
        unfold ticksM
        have := List.length_filter_le (fun k => mb p st.time x y k) (List.range (K + 1))
        rw [List.length_range] at this
        exact this
      have nTM : (D.lst (TM.map dI)).nb = true := nb_dI _
      have dTM : (D.lst (TM.map dI)).dep < 12 := by
        have := deps_dI TM
        simp only [D.dep]
        omega
      rw [wSs_cons]; simp [getV, -wSs_cons, wSs_ret1]
      have hfm := first_ticks o hx hy hKe hKp hK0
      rw [← hTM] at hfm
      have hdue : ∀ (Q : D → Prop) (hh : Store), Q (dEnt TM.head?) → opt (cmpD .ne (.lst (TM.map dI)) (.lst []) hh) fun k => if k = true then opt (ixD hh (.lst (TM.map dI)) 0) (fun d => Q d) else Q .non := fun Q hh hQ => by
        cases hc : TM with
        | nil =>
          refine opt_of_eq (ne_same (x := .lst []) rfl (by decide) _) ?_
          rw [hc] at hQ
          exact hQ
        | cons k r =>
          rw [hc] at nTM dTM hQ
          refine opt_of_eq (ne_diff nTM dTM (y := .lst []) rfl (by decide) (fun z => by cases z) _) ?_
          exact opt_of_eq (show ixD hh (D.lst ((k :: r).map dI)) 0 = some (.int k) from atI_nat (k := 0) rfl) hQ
      refine hdue _ _ ?_
      rw [wSs_cons]; simp [getV, -wSs_cons, wSs_ret1]
      obtain ⟨so, eso, hso⟩ := first_meeting_ok (n := n + 11) (b := 0) (h := s5 ++ (J ++ (wObs (adv p st K) B ++ [SL (K + 1)]))) (H.sub rfl) o q (by omega) (by omega) hx hy
      have hsoe := first_uniq hso hfm
      refine opt_of_eq eso ?_
      rw [hsoe]
      refine opt_of_eq (alike5 (n := n + 13) (H.sub rfl) (d := dEnt TM.head?) (by cases TM.head? <;> rfl) (by have := ent_dep TM.head?; omega)) ?_
      simp [-wSs_cons]
      rw [wSs_cons]; simp [getV, -wSs_cons, wSs_ret1]
      refine next_opt (H.sub rfl) rs5 (by omega) (by omega) (fun c s6 rs6 hc => ?_)
      rw [wSs_cons]; simp [getV, -wSs_cons, wSs_ret1]
      refine ⟨le_size (by omega), ?_⟩
      refine lc_rule dI (fun k => if (decide (1 ≤ k) && decide (k ≤ c)) = true then some (dI k) else none) (live_none _) (fun k hk => ?_) ?_
      · simp [wipeD, getV, dI]
        by_cases h1 : 1 ≤ k
        · by_cases h2 : k ≤ c
          · simp [h1, h2]
            try omega
          · have e1 : (1 : Int) ≤ k := by omega
            have e2 : ¬ (k : Int) ≤ c := by omega
            simp [h1, h2, e1, e2]
            try omega
        · have e1 : ¬ (1 : Int) ≤ k := by omega
          simp [h1, e1]
          try omega
      rw [filterMap_if]
      have ecn := cnt_ticks p st.time x y (K := K) (c := c) (by omega)
      rw [← hTM] at ecn
      simp only [List.length_map, ecn]
      have tt : ∀ (T : Nat) (hh : Store), T ≤ 10 ^ 18 → callI P (n + 19) 65 [dPlan p, dSt st, dI (ap st.cont x), dI (ap st.cont y), .int T] 0 hh = some (.int (cnt p st.time x y T), hh) := fun T hh hT => ticks_together_ok (n := n + 11) (H.sub rfl) o q (by omega) (by omega) hx hy hT
      rw [wSs_cons]; simp [getV, -wSs_cons, wSs_ret1]
      refine opt_of_eq (tt c _ (by omega)) ?_
      refine opt_of_eq (alike5 (n := n + 13) (H.sub rfl) (d := .int (cnt p st.time x y c : Nat)) rfl (by show 0 ≤ 5; omega)) ?_
      simp [-wSs_cons]
      rw [wSs_cons]; simp [getV, -wSs_cons, wSs_ret1]
      refine opt_of_eq pow10_14 ?_
      refine next_opt (H.sub rfl) rs6 (by omega) (by omega) (fun m s7 rs7 hmany => ?_)
      simp only []
      refine ⟨le_size (by omega), ?_⟩
      refine lc_rule dI (fun k => if decide (0 < k) = true then some (dI k) else none) (live_none _) (fun k hk => ?_) ?_
      · simp [wipeD, getV, dI]
        try (by_cases h1 : 0 < k <;> simp [h1] <;> try omega)
      rw [filterMap_if]
      have ecK := cnt_ticks p st.time x y (K := K) (c := K) (Nat.le_refl _)
      rw [← hTM] at ecK
      have ecK2 : (TM.filter fun k => decide (0 < k)).length = cnt p st.time x y K := by
        rw [← ecK]
        congr 1
        apply List.filter_congr
        intro k hk
        rw [hTM] at hk
        unfold ticksM at hk
        have := List.mem_range.mp (List.mem_filter.mp hk).1
        by_cases h1 : 0 < k
        · rw [decide_eq_true h1, decide_eq_true (show 1 ≤ k by omega), decide_eq_true (show k ≤ K by omega)]
          rfl
        · rw [decide_eq_false h1, decide_eq_false (show ¬ 1 ≤ k by omega)]
          rfl
      simp only [List.length_map, ecK2]
      simp [setsD, -wSs_cons]
      have cK : cnt p st.time x y K ≤ K := by
        unfold cnt
        have := List.length_filter_le (fun k => mb p st.time x y (k + 1)) (List.range K)
        rw [List.length_range] at this
        exact this
      have ml : ∀ (i j : Nat) (hh : Store), j ≤ 10 ^ 9 → binop .mul false (.int (i : Int)) (.int (j : Int)) hh = some (.int ((i * j : Nat) : Int), hh) := fun i j hh h1 => by
        have hsm : small (j : Int) := by constructor <;> omega
        have e1 : binI .mul (i : Int) (j : Int) = some ((i * j : Nat) : Int) := by
          unfold binI
          exact (if_pos (Or.inr hsm)).trans (by simp)
        simp only [binop, e1, Option.map_some]
      have adN : ∀ (i j : Nat) (hh : Store), binop .add false (.int (i : Int)) (.int (j : Int)) hh = some (.int ((i + j : Nat) : Int), hh) := fun i j hh => by
        show some (D.int ((i : Int) + j), hh) = _
        rw [Int.natCast_add]
      rw [wSs_cons]; simp [getV, -wSs_cons, wSs_ret1, -binop_int]
      refine opt_of_eq (ml m K _ (by omega)) ?_
      refine opt_of_eq (adN (m * K) c _) ?_
      have hmK : m * K ≤ 10 ^ 14 * 400 := Nat.mul_le_mul (by omega) hK4
      refine opt_of_eq (tt (m * K + c) _ (by omega)) ?_
      refine opt_of_eq (ml m (cnt p st.time x y K) _ (by omega)) ?_
      refine opt_of_eq (adN _ _ _) ?_
      rw [cnt_wholes o hx hy hKe hKp c m]
      refine opt_of_eq (ne_same (dI_nb _) (by show 0 < 12; omega) _) ?_
      simp [-wSs_cons]
      rw [wSs_cons]; simp [getV, -wSs_cons, wSs_ret1]
      rw [wSs_cons]; simp [getV, -wSs_cons, wSs_ret1]
      have mK1 : (adv p st K).shelves.length = st.shelves.length := mK
      rw [show List.length s7 + (List.length J + (List.length (wObs (adv p st K) B) + 1)) = B + (st.shelves.length + 3) by rw [wObs_len, mK1]; have := pos s7 rs7; omega]
      have gN : ∀ (x : Ob), (s7 ++ (J ++ (wObs (adv p st K) B ++ [SL (K + 1), x])))[B + (st.shelves.length + 3)]? = some x := fun x => by
        rw [← List.append_assoc, ← List.append_assoc, List.getElem?_append_right (by rw [List.length_append, List.length_append, wObs_len, mK1]; have := pos s7 rs7; omega)]
        rw [List.length_append, List.length_append, wObs_len, mK1, pos s7 rs7, show B + (st.shelves.length + 3) - (B + (st.shelves.length + 2)) = 1 by omega]
        rfl
      have sN : ∀ (x y : Ob), (s7 ++ (J ++ (wObs (adv p st K) B ++ [SL (K + 1), x]))).set (B + (st.shelves.length + 3)) y = s7 ++ (J ++ (wObs (adv p st K) B ++ [SL (K + 1), y])) := fun x y => by
        rw [← List.append_assoc, ← List.append_assoc, List.set_append_right _ _ (by rw [List.length_append, List.length_append, wObs_len, mK1]; have := pos s7 rs7; omega)]
        rw [List.length_append, List.length_append, wObs_len, mK1, pos s7 rs7, show B + (st.shelves.length + 3) - (B + (st.shelves.length + 2)) = 1 by omega]
        simp
      refine fr_ret D.int (fun j e1 h1 => (∃ a8 a19 a20, e1 = [some (.lck (ns.map D.int)), some (.ref 1), some (dI x0), some (dPlan p), some (dSt st), some (.int K), some (.ref (B + 1 + st.shelves.length)), some (.ref (B + (st.shelves.length + 2))), a8, some (.lst (L.map D.int)), some (dI (ap st.cont x)), some (dI (ap st.cont y)), some (.lst (TM.map dI)), some (dEnt TM.head?), some (.int c), some (.int (cnt p st.time x y c)), some (.int m), some (.int (cnt p st.time x y K)), some (.ref (B + (st.shelves.length + 3))), a19, a20]) ∧ h1 = s7 ++ (J ++ (wObs (adv p st K) B ++ [SL (K + 1), .lst (((L.take j).filter (nvz p st x)).map D.int)]))) ⟨⟨_, _, _, rfl⟩, by simp⟩ (fun _ _ _ _ => live_none _) (fun j z e1 h1 hz hI => ?_) (fun e1 h1 hI => ?_)
      · obtain ⟨⟨a8, a19, a20, rfl⟩, rfl⟩ := hI
        have hjL := (List.getElem?_eq_some_iff.mp hz).1
        obtain ⟨v, hv, rfl⟩ := hL3 z (List.mem_of_getElem? hz)
        have etk : L.take (j + 1) = L.take j ++ [((ap st.cont v : Nat) : Int)] := by rw [List.take_add_one, hz]; rfl
        rw [etk, List.filter_append, List.map_append]
        have hfl : ((L.take j).filter (nvz p st x)).length ≤ 114 := by
          have h1 := List.length_filter_le (nvz p st x) (L.take j)
          rw [List.length_take] at h1
          omega
        simp [getV, -wSs_cons]
        rw [wSs_cons]; simp [getV, -wSs_cons, wSs_ret1]
        refine ⟨by constructor <;> omega, le_size (by simp [rangeL]; omega), ?_⟩
        rw [show (rangeL 0 (K : Int)).map D.int = (List.range K).map dI from rangeL_nat K]
        refine lc_rule dI (fun k => if mb p st.time x v k = true then some (dI k) else none) (live_none _) (fun k hk => ?_) ?_
        · rw [List.mem_range] at hk
          simp [wipeD, getV, dI]
          obtain ⟨d, e1, e2⟩ := ck s7 [.lst (((L.take j).filter (nvz p st x)).map D.int)] k v rs7 (by omega) hv
          refine opt_of_eq e1 ?_
          refine opt_of_eq e2 ?_
          simp
        rw [filterMap_if]
        obtain ⟨MH, hMH⟩ : ∃ MH, MH = (List.range K).filter fun k => mb p st.time x v k := ⟨_, rfl⟩
        rw [← hMH]
        have hMe : MH = [] ↔ ∀ i, mb p st.time x v i = false := by
          rw [hMH, List.filter_eq_nil_iff]
          constructor
          · intro h i
            rw [mb_rest o hx hv hKe hKp]
            have := h (i % K) (List.mem_range.mpr (Nat.mod_lt _ hK0))
            simpa using this
          · intro h k _
            rw [h k]
            simp
        rw [wSs_cons]; simp [getV, -wSs_cons, wSs_ret1]
        refine opt_of_eq (show cmpD .ne (dI (ap st.cont v)) (dI (ap st.cont x)) _ = some (!decide (v = x)) from ?_) ?_
        · by_cases hxy : v = x
          · subst hxy
            rw [ne_same (dI_nb _) (by show 0 < 12; omega)]
            simp
          · rw [ne_diff (dI_nb _) (by show 0 < 12; omega) (dI_nb _) (by show 0 < 12; omega) (fun z => hxy (ap_inj q hv hx (dI_inj _ _ z)))]
            simp [hxy]
        have hnv : nvz p st x ((ap st.cont v : Nat) : Int) = nev p st.time x v := nvz_at q hv
        by_cases hvx : v = x
        · have hn : nev p st.time x v = false := by
            cases hv2 : nev p st.time x v with
            | false => rfl
            | true => exact absurd hvx (nev_iff.mp hv2).1
          simp [hvx, hnv, hn]
          rw [show nvz p st x ((ap st.cont x : Nat) : Int) = false from by have h9 := hnv; rw [hn, hvx] at h9; exact h9]
          try simp
        · simp [hvx, -wSs_cons]
          have nMH : (D.lst (MH.map dI)).nb = true := nb_dI _
          have dMH : (D.lst (MH.map dI)).dep < 12 := by
            have := deps_dI MH
            simp only [D.dep]
            omega
          by_cases hz0 : MH = []
          · have hn : nev p st.time x v = true := nev_iff.mpr ⟨hvx, hMe.mp hz0⟩
            rw [hz0]
            refine opt_of_eq (eq_self_nb (x := .lst []) rfl (by decide) _) ?_
            simp [hnv, hn, -wSs_cons]
            rw [wSs_cons]; simp [getV]
            refine ⟨(mtTy_ref (gN _)).1, ?_⟩
            refine opt_of_eq (append_ref (gN _) (by simp; omega) (.inl rfl)) ?_
            rw [sN]
          · have hn : nev p st.time x v = false := by
              cases hv2 : nev p st.time x v with
              | false => rfl
              | true => exact absurd (hMe.mpr (nev_iff.mp hv2).2) hz0
            refine opt_of_eq (eq_diff nMH dMH (y := .lst []) rfl (by decide) (fun z => hz0 (by have := D.lst.inj z; simpa using this)) _) ?_
            simp [hnv, hn]
      · obtain ⟨⟨a8, a19, a20, rfl⟩, rfl⟩ := hI
        rw [List.take_length]
        simp only [seqK_nx]
        have hnl : L.filter (nvz p st x) = srt (nevL p st x (total p)) := by
          rw [hL, srt_filter]
          congr 1
          unfold nevL
          rw [List.filter_map]
          congr 1
          apply List.filter_congr
          intro j hj
          exact nvz_at q (List.mem_range.mp hj)
        rw [hnl]
        rw [wSs_cons]; simp [getV, -wSs_cons, wSs_ret1]
        refine opt_of_eq (never_met_ok (n := n + 11) (H.sub rfl) o q (by omega) (by omega) hx) ?_
        have hlen : (srt (nevL p st x (total p))).length ≤ 100000 := by
          have := nevL_len p st x (total p)
          unfold srt
          rw [List.length_mergeSort, List.length_map]
          omega
        refine opt_of_eq (alike_lref (n := n + 16) (k := 1) (H.sub rfl) (gN _) (dats_map (fun _ _ => rfl)) (Nat.le_trans (deps_map (f := D.int) (fun _ => Nat.le_refl 0) _) (by omega)) (by rw [List.length_map]; exact hlen)) ?_
        simp
        exact ⟨s7, rs7, _, rfl⟩
end
end Sp

set_option maxRecDepth 100000
set_option maxHeartbeats 0
namespace K10
open PySem Sw Bd
def prog : PySem.Program := PySem.Challenge.pw_swapshelves_k10_whole_meetings_by_simula
def top (i : Nat) : Stmt := prog.main.body.getD i (.Pass ⟨0, 0, 0, 0⟩)
def cbd (i j : Nat) : Stmt := match top i with
  | .ClassDef _ _ _ b _ _ _ _ _ _ _ => b.getD j (.Pass ⟨0, 0, 0, 0⟩)
  | _ => .Pass ⟨0, 0, 0, 0⟩
def T_is_route : DefT := ⟨0, ⟨("is_route", none), "is_route", "is_route", L2.defArgs (top 14), L2.defBody (top 14), L2.defScope (top 14), [], []⟩, N_is_route, ["sizes", "route"], F_is_route⟩
def T_first_invalid : DefT := ⟨1, ⟨("first_invalid", none), "first_invalid", "first_invalid", L2.defArgs (top 15), L2.defBody (top 15), L2.defScope (top 15), [], []⟩, N_first_invalid, ["items", "most", "flags"], F_first_invalid⟩
def T_validate_plan : DefT := ⟨2, ⟨("validate_plan", none), "validate_plan", "validate_plan", L2.defArgs (top 16), L2.defBody (top 16), L2.defScope (top 16), [], []⟩, N_validate_plan, ["plan"], F_validate_plan⟩
def T_validate_count : DefT := ⟨3, ⟨("validate_count", none), "validate_count", "validate_count", L2.defArgs (top 17), L2.defBody (top 17), L2.defScope (top 17), [], []⟩, N_validate_count, ["count", "smallest", "largest"], F_validate_count⟩
def T_all_places : DefT := ⟨4, ⟨("all_places", none), "all_places", "all_places", L2.defArgs (top 18), L2.defBody (top 18), L2.defScope (top 18), [], []⟩, N_all_places, ["plan"], F_all_places⟩
def T_first_on : DefT := ⟨6, ⟨("first_on", none), "first_on", "first_on", L2.defArgs (top 19), L2.defBody (top 19), L2.defScope (top 19), [], []⟩, N_first_on, ["plan", "shelf"], F_first_on⟩
def T_greatest_common_divisor : DefT := ⟨7, ⟨("greatest_common_divisor", none), "greatest_common_divisor", "greatest_common_divisor", L2.defArgs (top 20), L2.defBody (top 20), L2.defScope (top 20), [], []⟩, N_greatest_common_divisor, ["one", "other"], F_greatest_common_divisor⟩
def T_least_common_multiple : DefT := ⟨8, ⟨("least_common_multiple", none), "least_common_multiple", "least_common_multiple", L2.defArgs (top 21), L2.defBody (top 21), L2.defScope (top 21), [], []⟩, N_least_common_multiple, ["one", "other"], F_least_common_multiple⟩
def T_route_period : DefT := ⟨9, ⟨("route_period", none), "route_period", "route_period", L2.defArgs (top 22), L2.defBody (top 22), L2.defScope (top 22), [], []⟩, N_route_period, ["route"], F_route_period⟩
def T_pattern_of : DefT := ⟨10, ⟨("pattern_of", none), "pattern_of", "pattern_of", L2.defArgs (top 23), L2.defBody (top 23), L2.defScope (top 23), [], []⟩, N_pattern_of, ["plan"], F_pattern_of⟩
def T_visits_of : DefT := ⟨11, ⟨("visits_of", none), "visits_of", "visits_of", L2.defArgs (top 24), L2.defBody (top 24), L2.defScope (top 24), [], []⟩, N_visits_of, ["plan", "number"], F_visits_of⟩
def T_exchange : DefT := ⟨12, ⟨("exchange", none), "exchange", "exchange", L2.defArgs (top 26), L2.defBody (top 26), L2.defScope (top 26), [], []⟩, N_exchange, ["plan", "contents", "carrier", "shelf"], F_exchange⟩
def T_run_tick : DefT := ⟨13, ⟨("run_tick", none), "run_tick", "run_tick", L2.defArgs (top 27), L2.defBody (top 27), L2.defScope (top 27), [], []⟩, N_run_tick, ["plan", "contents", "number"], F_run_tick⟩
def T_inverse_of : DefT := ⟨14, ⟨("inverse_of", none), "inverse_of", "inverse_of", L2.defArgs (top 28), L2.defBody (top 28), L2.defScope (top 28), [], []⟩, N_inverse_of, ["effect"], F_inverse_of⟩
def T_cycles_of : DefT := ⟨16, ⟨("cycles_of", none), "cycles_of", "cycles_of", L2.defArgs (top 29), L2.defBody (top 29), L2.defScope (top 29), [], []⟩, N_cycles_of, ["effect"], F_cycles_of⟩
def T_ticks_effect : DefT := ⟨18, ⟨("ticks_effect", none), "ticks_effect", "ticks_effect", L2.defArgs (top 30), L2.defBody (top 30), L2.defScope (top 30), [], []⟩, N_ticks_effect, ["plan", "time", "count"], F_ticks_effect⟩
def T_pattern_effect : DefT := ⟨19, ⟨("pattern_effect", none), "pattern_effect", "pattern_effect", L2.defArgs (top 31), L2.defBody (top 31), L2.defScope (top 31), [], []⟩, N_pattern_effect, ["plan", "time"], F_pattern_effect⟩
def T_order_of : DefT := ⟨49, ⟨("order_of", none), "order_of", "order_of", L2.defArgs (top 32), L2.defBody (top 32), L2.defScope (top 32), [], []⟩, N_order_of, ["effect"], F_order_of⟩
def T_contents_of : DefT := ⟨21, ⟨("contents_of", none), "contents_of", "contents_of", L2.defArgs (top 36), L2.defBody (top 36), L2.defScope (top 36), [], []⟩, N_contents_of, ["state"], F_contents_of⟩
def T_fits : DefT := ⟨23, ⟨("fits", none), "fits", "fits", L2.defArgs (top 37), L2.defBody (top 37), L2.defScope (top 37), [], []⟩, N_fits, ["plan", "state"], F_fits⟩
def T_validate_state : DefT := ⟨24, ⟨("validate_state", none), "validate_state", "validate_state", L2.defArgs (top 38), L2.defBody (top 38), L2.defScope (top 38), [], []⟩, N_validate_state, ["plan", "state"], F_validate_state⟩
def T_spot_of : DefT := ⟨25, ⟨("spot_of", none), "spot_of", "spot_of", L2.defArgs (top 39), L2.defBody (top 39), L2.defScope (top 39), [], []⟩, N_spot_of, ["state", "parcel"], F_spot_of⟩
def T_cycle_from : DefT := ⟨50, ⟨("cycle_from", none), "cycle_from", "cycle_from", L2.defArgs (top 41), L2.defBody (top 41), L2.defScope (top 41), [], []⟩, N_cycle_from, ["effect", "spot"], F_cycle_from⟩
def T_period : DefT := ⟨52, ⟨("period", none), "period", "period", L2.defArgs (top 42), L2.defBody (top 42), L2.defScope (top 42), [], []⟩, N_period, ["plan", "state"], F_period⟩
def T_pattern_steps : DefT := ⟨43, ⟨("pattern_steps", none), "pattern_steps", "pattern_steps", L2.defArgs (top 44), L2.defBody (top 44), L2.defScope (top 44), [], []⟩, N_pattern_steps, ["plan", "time"], F_pattern_steps⟩
def T_places_on : DefT := ⟨56, ⟨("places_on", none), "places_on", "places_on", L2.defArgs (top 45), L2.defBody (top 45), L2.defScope (top 45), [], []⟩, N_places_on, ["plan", "shelf"], F_places_on⟩
def T_Pair___init__ : DefT := ⟨57, ⟨("Pair", some "__init__"), "__init__", "Pair.__init__", L2.defArgs (cbd 47 0), L2.defBody (cbd 47 0), L2.defScope (cbd 47 0), [], []⟩, N_Pair___init__, ["self", "plan", "state", "first", "second"], F_Pair___init__⟩
def T_Pair_meets_now : DefT := ⟨58, ⟨("Pair", some "meets_now"), "meets_now", "Pair.meets_now", L2.defArgs (cbd 47 1), L2.defBody (cbd 47 1), L2.defScope (cbd 47 1), [], []⟩, N_Pair_meets_now, ["self"], F_Pair_meets_now⟩
def T_Pair_meetings_in : DefT := ⟨59, ⟨("Pair", some "meetings_in"), "meetings_in", "Pair.meetings_in", L2.defArgs (cbd 47 2), L2.defBody (cbd 47 2), L2.defScope (cbd 47 2), [], []⟩, N_Pair_meetings_in, ["self", "number"], F_Pair_meetings_in⟩
def T_Pair_can_meet : DefT := ⟨60, ⟨("Pair", some "can_meet"), "can_meet", "Pair.can_meet", L2.defArgs (cbd 47 3), L2.defBody (cbd 47 3), L2.defScope (cbd 47 3), [], []⟩, N_Pair_can_meet, ["self"], F_Pair_can_meet⟩
def T_Pair_first : DefT := ⟨61, ⟨("Pair", some "first"), "first", "Pair.first", L2.defArgs (cbd 47 4), L2.defBody (cbd 47 4), L2.defScope (cbd 47 4), [], []⟩, N_Pair_first, ["self"], F_Pair_first⟩
def T_Pair_count : DefT := ⟨62, ⟨("Pair", some "count"), "count", "Pair.count", L2.defArgs (cbd 47 5), L2.defBody (cbd 47 5), L2.defScope (cbd 47 5), [], []⟩, N_Pair_count, ["self", "ticks"], F_Pair_count⟩
def T_pair_of : DefT := ⟨63, ⟨("pair_of", none), "pair_of", "pair_of", L2.defArgs (top 48), L2.defBody (top 48), L2.defScope (top 48), [], []⟩, N_pair_of, ["plan", "state", "one", "other"], F_pair_of⟩
def T_first_meeting : DefT := ⟨64, ⟨("first_meeting", none), "first_meeting", "first_meeting", L2.defArgs (top 49), L2.defBody (top 49), L2.defScope (top 49), [], []⟩, N_first_meeting, ["plan", "state", "one", "other"], F_first_meeting⟩
def T_ticks_together : DefT := ⟨65, ⟨("ticks_together", none), "ticks_together", "ticks_together", L2.defArgs (top 50), L2.defBody (top 50), L2.defScope (top 50), [], []⟩, N_ticks_together, ["plan", "state", "one", "other", "count"], F_ticks_together⟩
def T_never_met : DefT := ⟨66, ⟨("never_met", none), "never_met", "never_met", L2.defArgs (top 51), L2.defBody (top 51), L2.defScope (top 51), [], []⟩, N_never_met, ["plan", "state", "parcel"], F_never_met⟩
def T__law_mix : DefT := ⟨31, ⟨("_law_mix", none), "_law_mix", "_law_mix", L2.defArgs (top 53), L2.defBody (top 53), L2.defScope (top 53), [], []⟩, N__law_mix, ["_law_script", "_law_seed"], F__law_mix⟩
def T__law_next : DefT := ⟨32, ⟨("_law_next", none), "_law_next", "_law_next", L2.defArgs (top 54), L2.defBody (top 54), L2.defScope (top 54), [], []⟩, N__law_next, ["_law_h", "_law_limit"], F__law_next⟩
def T__law_alike : DefT := ⟨33, ⟨("_law_alike", none), "_law_alike", "_law_alike", L2.defArgs (top 55), L2.defBody (top 55), L2.defScope (top 55), [], []⟩, N__law_alike, ["_law_found", "_law_due"], F__law_alike⟩
def T__law_plan : DefT := ⟨34, ⟨("_law_plan", none), "_law_plan", "_law_plan", L2.defArgs (top 56), L2.defBody (top 56), L2.defScope (top 56), [], []⟩, N__law_plan, ["_law_h", "_law_shelves", "_law_carriers"], F__law_plan⟩
def T__law_state : DefT := ⟨35, ⟨("_law_state", none), "_law_state", "_law_state", L2.defArgs (top 57), L2.defBody (top 57), L2.defScope (top 57), [], []⟩, N__law_state, ["_law_h", "_law_plan_here"], F__law_state⟩
def T__law_step : DefT := ⟨36, ⟨("_law_step", none), "_law_step", "_law_step", L2.defArgs (top 58), L2.defBody (top 58), L2.defScope (top 58), [], []⟩, N__law_step, ["_law_plan_here", "_law_w"], F__law_step⟩
def T__law_begun : DefT := ⟨37, ⟨("_law_begun", none), "_law_begun", "_law_begun", L2.defArgs (top 59), L2.defBody (top 59), L2.defScope (top 59), [], []⟩, N__law_begun, ["_law_state_here"], F__law_begun⟩
def T__law_seen : DefT := ⟨38, ⟨("_law_seen", none), "_law_seen", "_law_seen", L2.defArgs (top 60), L2.defBody (top 60), L2.defScope (top 60), [], []⟩, N__law_seen, ["_law_w"], F__law_seen⟩
def T__law_spots : DefT := ⟨39, ⟨("_law_spots", none), "_law_spots", "_law_spots", L2.defArgs (top 61), L2.defBody (top 61), L2.defScope (top 61), [], []⟩, N__law_spots, ["_law_state_here"], F__law_spots⟩
def T__law_meets : DefT := ⟨67, ⟨("_law_meets", none), "_law_meets", "_law_meets", L2.defArgs (top 62), L2.defBody (top 62), L2.defScope (top 62), [], []⟩, N__law_meets, ["_law_state_here", "_law_one", "_law_other"], F__law_meets⟩
def T_law : DefT := ⟨68, ⟨("law", none), "law", "law", L2.defArgs (top 63), L2.defBody (top 63), L2.defScope (top 63), [], []⟩, N_law_v4, ["_law_script"], F_law_v4⟩
def T : List DefT := [T_is_route, T_first_invalid, T_validate_plan, T_validate_count, T_all_places, T_first_on, T_greatest_common_divisor, T_least_common_multiple, T_route_period, T_pattern_of, T_visits_of, T_exchange, T_run_tick, T_inverse_of, T_cycles_of, T_ticks_effect, T_pattern_effect, T_order_of, T_contents_of, T_fits, T_validate_state, T_spot_of, T_cycle_from, T_period, T_pattern_steps, T_places_on, T_Pair___init__, T_Pair_meets_now, T_Pair_meetings_in, T_Pair_can_meet, T_Pair_first, T_Pair_count, T_pair_of, T_first_meeting, T_ticks_together, T_never_met, T__law_mix, T__law_next, T__law_alike, T__law_plan, T__law_state, T__law_step, T__law_begun, T__law_seen, T__law_spots, T__law_meets, T_law]
def G : Gs := ⟨[(("is_route" : Str), D.fn 0), (("first_invalid" : Str), D.fn 1), (("validate_plan" : Str), D.fn 2), (("validate_count" : Str), D.fn 3), (("all_places" : Str), D.fn 4), (("first_on" : Str), D.fn 6), (("greatest_common_divisor" : Str), D.fn 7), (("least_common_multiple" : Str), D.fn 8), (("route_period" : Str), D.fn 9), (("pattern_of" : Str), D.fn 10), (("visits_of" : Str), D.fn 11), (("exchange" : Str), D.fn 12), (("run_tick" : Str), D.fn 13), (("inverse_of" : Str), D.fn 14), (("cycles_of" : Str), D.fn 16), (("ticks_effect" : Str), D.fn 18), (("pattern_effect" : Str), D.fn 19), (("order_of" : Str), D.fn 49), (("contents_of" : Str), D.fn 21), (("fits" : Str), D.fn 23), (("validate_state" : Str), D.fn 24), (("spot_of" : Str), D.fn 25), (("cycle_from" : Str), D.fn 50), (("period" : Str), D.fn 52), (("pattern_steps" : Str), D.fn 43), (("places_on" : Str), D.fn 56), (("pair_of" : Str), D.fn 63), (("first_meeting" : Str), D.fn 64), (("ticks_together" : Str), D.fn 65), (("never_met" : Str), D.fn 66), (("_law_mix" : Str), D.fn 31), (("_law_next" : Str), D.fn 32), (("_law_alike" : Str), D.fn 33), (("_law_plan" : Str), D.fn 34), (("_law_state" : Str), D.fn 35), (("_law_step" : Str), D.fn 36), (("_law_begun" : Str), D.fn 37), (("_law_seen" : Str), D.fn 38), (("_law_spots" : Str), D.fn 39), (("_law_meets" : Str), D.fn 67), (("law" : Str), D.fn 68), (("MAX_SHELVES" : Str), D.int 12), (("MAX_SIZE" : Str), D.int 9), (("MAX_CARRIERS" : Str), D.int 6), (("MAX_ENTRIES" : Str), D.int 6), (("MAX_TICKS" : Str), D.int 1000000000000000000), (("CARRIER" : Str), D.str "carrier"), (("SHELF" : Str), D.str "shelf"), (("MAX_PARCEL" : Str), D.int 999), (("MAX_TIME" : Str), D.int 1000000000000000000000000000000)], [⟨0, "Pair", ["length", "now", "one", "other", "rounds"], [("meets_now", 58), ("meetings_in", 59), ("can_meet", 60), ("first", 61), ("count", 62)], some 57⟩]⟩
def nps : List (Nat × Nat) := [(0, 2), (1, 3), (2, 1), (3, 3), (4, 1), (6, 2), (7, 2), (8, 2), (9, 1), (10, 1), (11, 2), (12, 4), (13, 3), (14, 1), (16, 1), (18, 3), (19, 2), (49, 1), (21, 1), (23, 2), (24, 2), (25, 2), (50, 2), (52, 2), (43, 2), (56, 2), (57, 5), (58, 1), (59, 2), (60, 1), (61, 1), (62, 2), (63, 4), (64, 4), (65, 5), (66, 3), (31, 2), (32, 2), (33, 2), (34, 3), (35, 2), (36, 2), (37, 1), (38, 1), (39, 1), (67, 3), (68, 1)]
end K10
namespace K10
open PySem Sw Bd L2
theorem chk_is_route : chkSs N_is_route G (npOf nps) T_is_route.d.scope B_is_route T_is_route.d.body = true := by kernel_rfl
theorem ok_is_route : T_is_route.Ok G nps := ⟨by kernel_rfl, chk_is_route, fun _ _ _ _ _ _ us hl => match us, hl with | [_, _], _ => rfl⟩
theorem chk_first_invalid : chkSs N_first_invalid G (npOf nps) T_first_invalid.d.scope B_first_invalid T_first_invalid.d.body = true := by kernel_rfl
theorem ok_first_invalid : T_first_invalid.Ok G nps := ⟨by kernel_rfl, chk_first_invalid, fun _ _ _ _ _ _ us hl => match us, hl with | [_, _, _], _ => rfl⟩
theorem chk_validate_plan : chkSs N_validate_plan G (npOf nps) T_validate_plan.d.scope B_validate_plan T_validate_plan.d.body = true := by kernel_rfl
theorem ok_validate_plan : T_validate_plan.Ok G nps := ⟨by kernel_rfl, chk_validate_plan, fun _ _ _ _ _ _ us hl => match us, hl with | [_], _ => rfl⟩
theorem chk_validate_count : chkSs N_validate_count G (npOf nps) T_validate_count.d.scope B_validate_count T_validate_count.d.body = true := by kernel_rfl
theorem ok_validate_count : T_validate_count.Ok G nps := ⟨by kernel_rfl, chk_validate_count, fun _ _ _ _ _ _ us hl => match us, hl with | [_, _, _], _ => rfl⟩
theorem chk_all_places : chkSs N_all_places G (npOf nps) T_all_places.d.scope B_all_places T_all_places.d.body = true := by kernel_rfl
theorem ok_all_places : T_all_places.Ok G nps := ⟨by kernel_rfl, chk_all_places, fun _ _ _ _ _ _ us hl => match us, hl with | [_], _ => rfl⟩
theorem chk_first_on : chkSs N_first_on G (npOf nps) T_first_on.d.scope B_first_on T_first_on.d.body = true := by kernel_rfl
theorem ok_first_on : T_first_on.Ok G nps := ⟨by kernel_rfl, chk_first_on, fun _ _ _ _ _ _ us hl => match us, hl with | [_, _], _ => rfl⟩
theorem chk_greatest_common_divisor : chkSs N_greatest_common_divisor G (npOf nps) T_greatest_common_divisor.d.scope B_greatest_common_divisor T_greatest_common_divisor.d.body = true := by kernel_rfl
theorem ok_greatest_common_divisor : T_greatest_common_divisor.Ok G nps := ⟨by kernel_rfl, chk_greatest_common_divisor, fun _ _ _ _ _ _ us hl => match us, hl with | [_, _], _ => rfl⟩
theorem chk_least_common_multiple : chkSs N_least_common_multiple G (npOf nps) T_least_common_multiple.d.scope B_least_common_multiple T_least_common_multiple.d.body = true := by kernel_rfl
theorem ok_least_common_multiple : T_least_common_multiple.Ok G nps := ⟨by kernel_rfl, chk_least_common_multiple, fun _ _ _ _ _ _ us hl => match us, hl with | [_, _], _ => rfl⟩
theorem chk_route_period : chkSs N_route_period G (npOf nps) T_route_period.d.scope B_route_period T_route_period.d.body = true := by kernel_rfl
theorem ok_route_period : T_route_period.Ok G nps := ⟨by kernel_rfl, chk_route_period, fun _ _ _ _ _ _ us hl => match us, hl with | [_], _ => rfl⟩
theorem chk_pattern_of : chkSs N_pattern_of G (npOf nps) T_pattern_of.d.scope B_pattern_of T_pattern_of.d.body = true := by kernel_rfl
theorem ok_pattern_of : T_pattern_of.Ok G nps := ⟨by kernel_rfl, chk_pattern_of, fun _ _ _ _ _ _ us hl => match us, hl with | [_], _ => rfl⟩
theorem chk_visits_of : chkSs N_visits_of G (npOf nps) T_visits_of.d.scope B_visits_of T_visits_of.d.body = true := by kernel_rfl
theorem ok_visits_of : T_visits_of.Ok G nps := ⟨by kernel_rfl, chk_visits_of, fun _ _ _ _ _ _ us hl => match us, hl with | [_, _], _ => rfl⟩
theorem chk_exchange : chkSs N_exchange G (npOf nps) T_exchange.d.scope B_exchange T_exchange.d.body = true := by kernel_rfl
theorem ok_exchange : T_exchange.Ok G nps := ⟨by kernel_rfl, chk_exchange, fun _ _ _ _ _ _ us hl => match us, hl with | [_, _, _, _], _ => rfl⟩
theorem chk_run_tick : chkSs N_run_tick G (npOf nps) T_run_tick.d.scope B_run_tick T_run_tick.d.body = true := by kernel_rfl
theorem ok_run_tick : T_run_tick.Ok G nps := ⟨by kernel_rfl, chk_run_tick, fun _ _ _ _ _ _ us hl => match us, hl with | [_, _, _], _ => rfl⟩
theorem chk_inverse_of : chkSs N_inverse_of G (npOf nps) T_inverse_of.d.scope B_inverse_of T_inverse_of.d.body = true := by kernel_rfl
theorem ok_inverse_of : T_inverse_of.Ok G nps := ⟨by kernel_rfl, chk_inverse_of, fun _ _ _ _ _ _ us hl => match us, hl with | [_], _ => rfl⟩
theorem chk_cycles_of : chkSs N_cycles_of G (npOf nps) T_cycles_of.d.scope B_cycles_of T_cycles_of.d.body = true := by kernel_rfl
theorem ok_cycles_of : T_cycles_of.Ok G nps := ⟨by kernel_rfl, chk_cycles_of, fun _ _ _ _ _ _ us hl => match us, hl with | [_], _ => rfl⟩
theorem chk_ticks_effect : chkSs N_ticks_effect G (npOf nps) T_ticks_effect.d.scope B_ticks_effect T_ticks_effect.d.body = true := by kernel_rfl
theorem ok_ticks_effect : T_ticks_effect.Ok G nps := ⟨by kernel_rfl, chk_ticks_effect, fun _ _ _ _ _ _ us hl => match us, hl with | [_, _, _], _ => rfl⟩
theorem chk_pattern_effect : chkSs N_pattern_effect G (npOf nps) T_pattern_effect.d.scope B_pattern_effect T_pattern_effect.d.body = true := by kernel_rfl
theorem ok_pattern_effect : T_pattern_effect.Ok G nps := ⟨by kernel_rfl, chk_pattern_effect, fun _ _ _ _ _ _ us hl => match us, hl with | [_, _], _ => rfl⟩
theorem chk_order_of : chkSs N_order_of G (npOf nps) T_order_of.d.scope B_order_of T_order_of.d.body = true := by kernel_rfl
theorem ok_order_of : T_order_of.Ok G nps := ⟨by kernel_rfl, chk_order_of, fun _ _ _ _ _ _ us hl => match us, hl with | [_], _ => rfl⟩
theorem chk_contents_of : chkSs N_contents_of G (npOf nps) T_contents_of.d.scope B_contents_of T_contents_of.d.body = true := by kernel_rfl
theorem ok_contents_of : T_contents_of.Ok G nps := ⟨by kernel_rfl, chk_contents_of, fun _ _ _ _ _ _ us hl => match us, hl with | [_], _ => rfl⟩
theorem chk_fits : chkSs N_fits G (npOf nps) T_fits.d.scope B_fits T_fits.d.body = true := by kernel_rfl
theorem ok_fits : T_fits.Ok G nps := ⟨by kernel_rfl, chk_fits, fun _ _ _ _ _ _ us hl => match us, hl with | [_, _], _ => rfl⟩
theorem chk_validate_state : chkSs N_validate_state G (npOf nps) T_validate_state.d.scope B_validate_state T_validate_state.d.body = true := by kernel_rfl
theorem ok_validate_state : T_validate_state.Ok G nps := ⟨by kernel_rfl, chk_validate_state, fun _ _ _ _ _ _ us hl => match us, hl with | [_, _], _ => rfl⟩
theorem chk_spot_of : chkSs N_spot_of G (npOf nps) T_spot_of.d.scope B_spot_of T_spot_of.d.body = true := by kernel_rfl
theorem ok_spot_of : T_spot_of.Ok G nps := ⟨by kernel_rfl, chk_spot_of, fun _ _ _ _ _ _ us hl => match us, hl with | [_, _], _ => rfl⟩
theorem chk_cycle_from : chkSs N_cycle_from G (npOf nps) T_cycle_from.d.scope B_cycle_from T_cycle_from.d.body = true := by kernel_rfl
theorem ok_cycle_from : T_cycle_from.Ok G nps := ⟨by kernel_rfl, chk_cycle_from, fun _ _ _ _ _ _ us hl => match us, hl with | [_, _], _ => rfl⟩
theorem chk_period : chkSs N_period G (npOf nps) T_period.d.scope B_period T_period.d.body = true := by kernel_rfl
theorem ok_period : T_period.Ok G nps := ⟨by kernel_rfl, chk_period, fun _ _ _ _ _ _ us hl => match us, hl with | [_, _], _ => rfl⟩
theorem chk_pattern_steps : chkSs N_pattern_steps G (npOf nps) T_pattern_steps.d.scope B_pattern_steps T_pattern_steps.d.body = true := by kernel_rfl
theorem ok_pattern_steps : T_pattern_steps.Ok G nps := ⟨by kernel_rfl, chk_pattern_steps, fun _ _ _ _ _ _ us hl => match us, hl with | [_, _], _ => rfl⟩
theorem chk_places_on : chkSs N_places_on G (npOf nps) T_places_on.d.scope B_places_on T_places_on.d.body = true := by kernel_rfl
theorem ok_places_on : T_places_on.Ok G nps := ⟨by kernel_rfl, chk_places_on, fun _ _ _ _ _ _ us hl => match us, hl with | [_, _], _ => rfl⟩
theorem chk_Pair___init__ : chkSs N_Pair___init__ G (npOf nps) T_Pair___init__.d.scope B_Pair___init__ T_Pair___init__.d.body = true := by kernel_rfl
theorem ok_Pair___init__ : T_Pair___init__.Ok G nps := ⟨by kernel_rfl, chk_Pair___init__, fun _ _ _ _ _ _ us hl => match us, hl with | [_, _, _, _, _], _ => rfl⟩
theorem chk_Pair_meets_now : chkSs N_Pair_meets_now G (npOf nps) T_Pair_meets_now.d.scope B_Pair_meets_now T_Pair_meets_now.d.body = true := by kernel_rfl
theorem ok_Pair_meets_now : T_Pair_meets_now.Ok G nps := ⟨by kernel_rfl, chk_Pair_meets_now, fun _ _ _ _ _ _ us hl => match us, hl with | [_], _ => rfl⟩
theorem chk_Pair_meetings_in : chkSs N_Pair_meetings_in G (npOf nps) T_Pair_meetings_in.d.scope B_Pair_meetings_in T_Pair_meetings_in.d.body = true := by kernel_rfl
theorem ok_Pair_meetings_in : T_Pair_meetings_in.Ok G nps := ⟨by kernel_rfl, chk_Pair_meetings_in, fun _ _ _ _ _ _ us hl => match us, hl with | [_, _], _ => rfl⟩
theorem chk_Pair_can_meet : chkSs N_Pair_can_meet G (npOf nps) T_Pair_can_meet.d.scope B_Pair_can_meet T_Pair_can_meet.d.body = true := by kernel_rfl
theorem ok_Pair_can_meet : T_Pair_can_meet.Ok G nps := ⟨by kernel_rfl, chk_Pair_can_meet, fun _ _ _ _ _ _ us hl => match us, hl with | [_], _ => rfl⟩
theorem chk_Pair_first : chkSs N_Pair_first G (npOf nps) T_Pair_first.d.scope B_Pair_first T_Pair_first.d.body = true := by kernel_rfl
theorem ok_Pair_first : T_Pair_first.Ok G nps := ⟨by kernel_rfl, chk_Pair_first, fun _ _ _ _ _ _ us hl => match us, hl with | [_], _ => rfl⟩
theorem chk_Pair_count : chkSs N_Pair_count G (npOf nps) T_Pair_count.d.scope B_Pair_count T_Pair_count.d.body = true := by kernel_rfl
theorem ok_Pair_count : T_Pair_count.Ok G nps := ⟨by kernel_rfl, chk_Pair_count, fun _ _ _ _ _ _ us hl => match us, hl with | [_, _], _ => rfl⟩
theorem chk_pair_of : chkSs N_pair_of G (npOf nps) T_pair_of.d.scope B_pair_of T_pair_of.d.body = true := by kernel_rfl
theorem ok_pair_of : T_pair_of.Ok G nps := ⟨by kernel_rfl, chk_pair_of, fun _ _ _ _ _ _ us hl => match us, hl with | [_, _, _, _], _ => rfl⟩
theorem chk_first_meeting : chkSs N_first_meeting G (npOf nps) T_first_meeting.d.scope B_first_meeting T_first_meeting.d.body = true := by kernel_rfl
theorem ok_first_meeting : T_first_meeting.Ok G nps := ⟨by kernel_rfl, chk_first_meeting, fun _ _ _ _ _ _ us hl => match us, hl with | [_, _, _, _], _ => rfl⟩
theorem chk_ticks_together : chkSs N_ticks_together G (npOf nps) T_ticks_together.d.scope B_ticks_together T_ticks_together.d.body = true := by kernel_rfl
theorem ok_ticks_together : T_ticks_together.Ok G nps := ⟨by kernel_rfl, chk_ticks_together, fun _ _ _ _ _ _ us hl => match us, hl with | [_, _, _, _, _], _ => rfl⟩
theorem chk_never_met : chkSs N_never_met G (npOf nps) T_never_met.d.scope B_never_met T_never_met.d.body = true := by kernel_rfl
theorem ok_never_met : T_never_met.Ok G nps := ⟨by kernel_rfl, chk_never_met, fun _ _ _ _ _ _ us hl => match us, hl with | [_, _, _], _ => rfl⟩
theorem chk__law_mix : chkSs N__law_mix G (npOf nps) T__law_mix.d.scope B__law_mix T__law_mix.d.body = true := by kernel_rfl
theorem ok__law_mix : T__law_mix.Ok G nps := ⟨by kernel_rfl, chk__law_mix, fun _ _ _ _ _ _ us hl => match us, hl with | [_, _], _ => rfl⟩
theorem chk__law_next : chkSs N__law_next G (npOf nps) T__law_next.d.scope B__law_next T__law_next.d.body = true := by kernel_rfl
theorem ok__law_next : T__law_next.Ok G nps := ⟨by kernel_rfl, chk__law_next, fun _ _ _ _ _ _ us hl => match us, hl with | [_, _], _ => rfl⟩
theorem chk__law_alike : chkSs N__law_alike G (npOf nps) T__law_alike.d.scope B__law_alike T__law_alike.d.body = true := by kernel_rfl
theorem ok__law_alike : T__law_alike.Ok G nps := ⟨by kernel_rfl, chk__law_alike, fun _ _ _ _ _ _ us hl => match us, hl with | [_, _], _ => rfl⟩
theorem chk__law_plan : chkSs N__law_plan G (npOf nps) T__law_plan.d.scope B__law_plan T__law_plan.d.body = true := by kernel_rfl
theorem ok__law_plan : T__law_plan.Ok G nps := ⟨by kernel_rfl, chk__law_plan, fun _ _ _ _ _ _ us hl => match us, hl with | [_, _, _], _ => rfl⟩
theorem chk__law_state : chkSs N__law_state G (npOf nps) T__law_state.d.scope B__law_state T__law_state.d.body = true := by kernel_rfl
theorem ok__law_state : T__law_state.Ok G nps := ⟨by kernel_rfl, chk__law_state, fun _ _ _ _ _ _ us hl => match us, hl with | [_, _], _ => rfl⟩
theorem chk__law_step : chkSs N__law_step G (npOf nps) T__law_step.d.scope B__law_step T__law_step.d.body = true := by kernel_rfl
theorem ok__law_step : T__law_step.Ok G nps := ⟨by kernel_rfl, chk__law_step, fun _ _ _ _ _ _ us hl => match us, hl with | [_, _], _ => rfl⟩
theorem chk__law_begun : chkSs N__law_begun G (npOf nps) T__law_begun.d.scope B__law_begun T__law_begun.d.body = true := by kernel_rfl
theorem ok__law_begun : T__law_begun.Ok G nps := ⟨by kernel_rfl, chk__law_begun, fun _ _ _ _ _ _ us hl => match us, hl with | [_], _ => rfl⟩
theorem chk__law_seen : chkSs N__law_seen G (npOf nps) T__law_seen.d.scope B__law_seen T__law_seen.d.body = true := by kernel_rfl
theorem ok__law_seen : T__law_seen.Ok G nps := ⟨by kernel_rfl, chk__law_seen, fun _ _ _ _ _ _ us hl => match us, hl with | [_], _ => rfl⟩
theorem chk__law_spots : chkSs N__law_spots G (npOf nps) T__law_spots.d.scope B__law_spots T__law_spots.d.body = true := by kernel_rfl
theorem ok__law_spots : T__law_spots.Ok G nps := ⟨by kernel_rfl, chk__law_spots, fun _ _ _ _ _ _ us hl => match us, hl with | [_], _ => rfl⟩
theorem chk__law_meets : chkSs N__law_meets G (npOf nps) T__law_meets.d.scope B__law_meets T__law_meets.d.body = true := by kernel_rfl
theorem ok__law_meets : T__law_meets.Ok G nps := ⟨by kernel_rfl, chk__law_meets, fun _ _ _ _ _ _ us hl => match us, hl with | [_, _, _], _ => rfl⟩
theorem chk_law : chkSs N_law_v4 G (npOf nps) T_law.d.scope B_law_v4 T_law.d.body = true := by kernel_rfl
theorem ok_law : T_law.Ok G nps := ⟨by kernel_rfl, chk_law, fun _ _ _ _ _ _ us hl => match us, hl with | [_], _ => rfl⟩
theorem oks : ∀ t ∈ T, DefT.Ok G nps t := by
  unfold T
  refine List.forall_mem_cons.mpr ⟨ok_is_route, ?_⟩
  refine List.forall_mem_cons.mpr ⟨ok_first_invalid, ?_⟩
  refine List.forall_mem_cons.mpr ⟨ok_validate_plan, ?_⟩
  refine List.forall_mem_cons.mpr ⟨ok_validate_count, ?_⟩
  refine List.forall_mem_cons.mpr ⟨ok_all_places, ?_⟩
  refine List.forall_mem_cons.mpr ⟨ok_first_on, ?_⟩
  refine List.forall_mem_cons.mpr ⟨ok_greatest_common_divisor, ?_⟩
  refine List.forall_mem_cons.mpr ⟨ok_least_common_multiple, ?_⟩
  refine List.forall_mem_cons.mpr ⟨ok_route_period, ?_⟩
  refine List.forall_mem_cons.mpr ⟨ok_pattern_of, ?_⟩
  refine List.forall_mem_cons.mpr ⟨ok_visits_of, ?_⟩
  refine List.forall_mem_cons.mpr ⟨ok_exchange, ?_⟩
  refine List.forall_mem_cons.mpr ⟨ok_run_tick, ?_⟩
  refine List.forall_mem_cons.mpr ⟨ok_inverse_of, ?_⟩
  refine List.forall_mem_cons.mpr ⟨ok_cycles_of, ?_⟩
  refine List.forall_mem_cons.mpr ⟨ok_ticks_effect, ?_⟩
  refine List.forall_mem_cons.mpr ⟨ok_pattern_effect, ?_⟩
  refine List.forall_mem_cons.mpr ⟨ok_order_of, ?_⟩
  refine List.forall_mem_cons.mpr ⟨ok_contents_of, ?_⟩
  refine List.forall_mem_cons.mpr ⟨ok_fits, ?_⟩
  refine List.forall_mem_cons.mpr ⟨ok_validate_state, ?_⟩
  refine List.forall_mem_cons.mpr ⟨ok_spot_of, ?_⟩
  refine List.forall_mem_cons.mpr ⟨ok_cycle_from, ?_⟩
  refine List.forall_mem_cons.mpr ⟨ok_period, ?_⟩
  refine List.forall_mem_cons.mpr ⟨ok_pattern_steps, ?_⟩
  refine List.forall_mem_cons.mpr ⟨ok_places_on, ?_⟩
  refine List.forall_mem_cons.mpr ⟨ok_Pair___init__, ?_⟩
  refine List.forall_mem_cons.mpr ⟨ok_Pair_meets_now, ?_⟩
  refine List.forall_mem_cons.mpr ⟨ok_Pair_meetings_in, ?_⟩
  refine List.forall_mem_cons.mpr ⟨ok_Pair_can_meet, ?_⟩
  refine List.forall_mem_cons.mpr ⟨ok_Pair_first, ?_⟩
  refine List.forall_mem_cons.mpr ⟨ok_Pair_count, ?_⟩
  refine List.forall_mem_cons.mpr ⟨ok_pair_of, ?_⟩
  refine List.forall_mem_cons.mpr ⟨ok_first_meeting, ?_⟩
  refine List.forall_mem_cons.mpr ⟨ok_ticks_together, ?_⟩
  refine List.forall_mem_cons.mpr ⟨ok_never_met, ?_⟩
  refine List.forall_mem_cons.mpr ⟨ok__law_mix, ?_⟩
  refine List.forall_mem_cons.mpr ⟨ok__law_next, ?_⟩
  refine List.forall_mem_cons.mpr ⟨ok__law_alike, ?_⟩
  refine List.forall_mem_cons.mpr ⟨ok__law_plan, ?_⟩
  refine List.forall_mem_cons.mpr ⟨ok__law_state, ?_⟩
  refine List.forall_mem_cons.mpr ⟨ok__law_step, ?_⟩
  refine List.forall_mem_cons.mpr ⟨ok__law_begun, ?_⟩
  refine List.forall_mem_cons.mpr ⟨ok__law_seen, ?_⟩
  refine List.forall_mem_cons.mpr ⟨ok__law_spots, ?_⟩
  refine List.forall_mem_cons.mpr ⟨ok__law_meets, ?_⟩
  refine List.forall_mem_cons.mpr ⟨ok_law, ?_⟩
  exact fun _ h => absurd h (by simp)
theorem gb : G.okB T = true := by kernel_rfl
end K10

set_option maxRecDepth 100000
set_option maxHeartbeats 0
namespace K10
open PySem Sw L2
abbrev R : PySem.W.OpenRow := PySem.W.OpenLaw.row PySem.Challenge.rw_swapshelves_k10_whole_meetings_by_simula
def fn : List He.DefD := T.map (·.d)
def fa : List He.Fa := faOf G
abbrev hk : PySem.W.Hook := He.hookD 4 fa fn
def ob (s : PySem.W.SharedT) : He.AlD := He.obsDG 4 fa fn (HandSHeadRun.getT s)
theorem ob_eq (s : PySem.W.SharedT) : ob s = hk.obs s.abs := He.obsDG_eq (HandSHeadRun.getT_eq s)
def loose : List PySem.Str := (["ShelfError", "InvalidPlan", "InvalidState", "InvalidCount", "UnknownParcel", "MAX_SHELVES", "MAX_SIZE", "MAX_CARRIERS", "MAX_ENTRIES", "MAX_TICKS", "CARRIER", "SHELF", "is_route", "first_invalid", "validate_plan", "validate_count", "all_places", "first_on", "greatest_common_divisor", "least_common_multiple", "route_period", "pattern_of", "visits_of", "exchange", "run_tick", "inverse_of", "cycles_of", "ticks_effect", "pattern_effect", "order_of"] : List PySem.Str) ++ (["MAX_PARCEL", "MAX_TIME", "contents_of", "fits", "validate_state", "spot_of", "cycle_from", "period", "pattern_steps", "places_on", "Pair", "pair_of", "first_meeting", "ticks_together", "never_met", "_law_mix", "_law_next", "_law_alike", "_law_plan", "_law_state", "_law_step", "_law_begun", "_law_seen", "_law_spots", "_law_meets"] : List PySem.Str)
theorem run (w : World) : HandSHeadRun.RunEq R (PySem.W.view R.prog [63]) hk ob 20000 loose w := by
  intro os
  kernel_rfl
end K10
open PySem PySem.W PySem.Calls PyProof.Rows
theorem K10.proved (n : Nat) (hr : L2.Room (2 * n) callerA) (ev : ∀ ns : List Int, ns.length ≤ 63 → ∃ h', Sw.callI (Sw.PPof K10.T) n 68 [.lck (ns.map Sw.D.int)] 0 [] = some (.bl true, h')) : PySem.Challenge.rw_swapshelves_k10_whole_meetings_by_simula.Holds := by
  w_on; o_law
  refine HandSHeadRun.head_any (r := OpenLaw.row PySem.Challenge.rw_swapshelves_k10_whole_meetings_by_simula) (q := view (OpenLaw.row PySem.Challenge.rw_swapshelves_k10_whole_meetings_by_simula).prog [63]) (H := K10.hk) (ob := K10.ob) (M := 20000) (loose := K10.loose) (d := HandSHeadRun.topDef (OpenLaw.row PySem.Challenge.rw_swapshelves_k10_whole_meetings_by_simula).prog 63) (kwd := []) K10.ob_eq
    (by kernel_rfl) (fun s => by kernel_rfl) K10.run (by kernel_rfl) (by kernel_rfl) (by kernel_rfl) (by rfl) (by first | assumption | decide +kernel) (by decide +kernel) ⟨rfl, rfl, rfl, rfl, rfl, by decide +kernel⟩ ?hw ?hc
  case hw => w_witness2
  case hc =>
    refine L2.walk_ofE (l := PySem.Challenge.rw_swapshelves_k10_whole_meetings_by_simula) (n := 63) (k := 2 * n) (x := "_law_script") (CX := L2.CX0) rfl (by decide) (by kernel_rfl) hr ?F (fun _ _ _ _ z => z)
    intro w mg fa h Y G hmg0
    obtain ⟨K, KX, c⟩ := Y
    have hmg : mg ("law" : PySem.Str) = some (.ref fa) := by
      have e : (HandSHeadRun.topDef (OpenLaw.row PySem.Challenge.rw_swapshelves_k10_whole_meetings_by_simula).prog 63).name = ("law" : PySem.Str) := by kernel_rfl
      rw [← e]
      exact hmg0
    obtain ⟨fd, hb, hF⟩ := Sw.facts_of (P := (PySem.Challenge.rw_swapshelves_k10_whole_meetings_by_simula).prog) (w := w) KX G c K10.oks K10.gb (li := 68) (t := K10.T_law) (x0 := "_law_script") (lx := "law") rfl rfl rfl hmg (Sw.mem_of_look rfl) n
    exact ⟨K, fd, _, KX, hb, fun H a ns hl _ hS => Sw.law_sp (m := 63) rfl ev H a ns hl hS _, fun base _ _ => hF base⟩

set_option maxRecDepth 100000
set_option maxHeartbeats 2000000
theorem K10.has : Sp.Has (Sw.PPof K10.T) Sp.c_law10 := by
  intro i hi
  simp only [Sp.c_law10, List.mem_cons, List.not_mem_nil, or_false] at hi
  rcases hi with rfl | rfl | rfl | rfl | rfl | rfl | rfl | rfl | rfl | rfl | rfl | rfl | rfl | rfl | rfl | rfl | rfl | rfl | rfl | rfl | rfl | rfl | rfl | rfl | rfl | rfl | rfl | rfl | rfl | rfl | rfl | rfl | rfl | rfl | rfl | rfl | rfl | rfl | rfl | rfl | rfl | rfl | rfl | rfl | rfl | rfl | rfl <;> rfl
theorem K10.room : L2.Room 60 PySem.callerA := by
  constructor <;> decide +kernel
theorem PySem.Challenge.cw_swapshelves_k10_whole_meetings_by_simula_holds : PySem.Challenge.rw_swapshelves_k10_whole_meetings_by_simula.Holds := by
  exact K10.proved 30 K10.room fun ns hl => Sp.law10 (n := 10) K10.has hl

