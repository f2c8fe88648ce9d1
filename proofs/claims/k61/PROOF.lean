import PyProof.Rows.All
import Wide.All
import OpenK.AllK
import Wide.FinOn
import HandS.ForMost
import HandS.Defaults
import HandS.ExcInit
import PySem.Str
import HandS.Exc
import HandS.TupAny
import KE.LtData
import HandS.Wide
import HandS.Style
import HandS.TupMul
import PyProof.StrBlock2
import KE.KEqDict
import HandS.Deep
import HandS.Flow
import HandS.Property
import HandS.More
import HandS.ExcField
import HandS.ExcIs
import HandS.MakeKwOnly
import HandS.IsInst
import HandS.Star
import PyProof.CollectStr
import HandS.Iter
import HandS.Zip
import HandS.Comp
import HandS.DictComp
import HandS.Text
import HandS.Conv
import HandS.RaiseMore
import KE.IntTextLaws
import KE.KIntText
import HandS.Small
import HandS.TryMany
import KE.KDictList
import HandS.Sort
import PyProof.ReprRoads
import PyProof.StrLawsRepr
import PyProof.FitsInt
import HandS.Strs
import HandS.Set
import HandS.SetFor
import KE.KDictOf
import HandS.WrittenGet
import KE.KExcIs
import HandS.HeadHook2
import HandS.HeadHook3
import HandS.Ends
import HandS.EndBits
import HandS.Head2
import HandS.HeadEnd
import HandS.HeadHook4
import PySem.Challenge.RW_butthese_k61_errors_by_hand
set_option autoImplicit false
/-! PMCore: a small pure machine for the texts at hand: values, store, syntax, its runs. No model of Python in it. -/
namespace PM

abbrev Txt := List Nat
abbrev Key := Sum Int Txt

/-- values; loc n: the changeable object at n of the store -/
inductive D where
  | non | bl (b : Bool) | int (i : Int) | str (x : Txt)
  | tup (xs : List D) | lst (xs : List D)
  | dct (kvs : List (Key × D))
  | ins (c : String) (fs : List (String × D))
  | exn (c : String) (v : D)
  /-- an own error that is a value -/
  | err (c : String) (v : D)
  | loc (n : Nat)
  deriving Inhabited

/-- what stands in the store -/
inductive Cell where
  | lst (xs : List D)
  /-- lk: it is walked now, and not to be changed -/
  | dct (lk : Bool) (kvs : List (Key × D))
  | ins (c : String) (fs : List (String × D))
  deriving Inhabited
abbrev St := List Cell
abbrev Env := List (Option D)

/-- how an expression ends -/
inductive R (α : Type) where
  | ok (a : α) (S : St) | ex (c : String) (v : D) (S : St) | bad
namespace R
def bind {α β : Type} (r : R α) (f : α → St → R β) : R β := match r with
  | .ok a S => f a S
  | .ex c v S => .ex c v S
  | .bad => .bad
def of {α : Type} (o : Option α) (S : St) : R α := match o with
  | some a => .ok a S
  | none => .bad
/-- a value and the store behind it -/
def o {α : Type} (o : Option (α × St)) : R α := match o with
  | some (a, S) => .ok a S
  | none => .bad
end R
/-- how a statement ends -/
inductive Fl where
  | nx (ρ : Env) (S : St) | rt (d : D) (S : St) | bk (ρ : Env) (S : St) | ct (ρ : Env) (S : St) | ex (c : String) (v : D) (ρ : Env) (S : St) | bad

/-! ### equality, texts of data, order: on data without places -/
mutual
def D.beq : D → D → Bool
  | .non, .non => true
  | .bl a, .bl b => a == b
  | .int a, .int b => a == b
  | .str a, .str b => a == b
  | .tup a, .tup b => D.beqL a b
  | .lst a, .lst b => D.beqL a b
  | .dct a, .dct b => D.beqK a b
  | .ins c a, .ins e b => c == e && D.beqF a b
  | .exn c a, .exn e b => c == e && D.beq a b
  | .err c a, .err e b => c == e && D.beq a b
  | .loc a, .loc b => a == b
  | _, _ => false
def D.beqL : List D → List D → Bool
  | [], [] => true
  | a :: r, b :: t => D.beq a b && D.beqL r t
  | _, _ => false
def D.beqK : List (Key × D) → List (Key × D) → Bool
  | [], [] => true
  | (k, a) :: r, (l, b) :: t => decide (k = l) && D.beq a b && D.beqK r t
  | _, _ => false
def D.beqF : List (String × D) → List (String × D) → Bool
  | [], [] => true
  | (k, a) :: r, (l, b) :: t => k == l && D.beq a b && D.beqF r t
  | _, _ => false
end
def Cell.beq : Cell → Cell → Bool
  | .lst a, .lst b => D.beqL a b
  | .dct l a, .dct m b => l == m && D.beqK a b
  | .ins c a, .ins e b => c == e && D.beqF a b
  | _, _ => false

mutual
/-- Python's ==, of data -/
def D.eqv : D → D → Bool
  | .non, .non => true
  | .bl a, .bl b => a == b
  | .int a, .int b => a == b
  | .bl a, .int b => (if a then 1 else 0) == b
  | .int a, .bl b => a == (if b then 1 else 0)
  | .str a, .str b => a == b
  | .tup a, .tup b => D.eqvL a b
  | .lst a, .lst b => D.eqvL a b
  | _, _ => false
def D.eqvL : List D → List D → Bool
  | [], [] => true
  | a :: r, b :: t => D.eqv a b && D.eqvL r t
  | _, _ => false
end

def mapO {α β : Type} (f : α → Option β) : List α → Option (List β)
  | [] => some []
  | x :: r => match f x, mapO f r with
    | some y, some t => some (y :: t)
    | _, _ => none
/-- the values alone -/
def mapV {κ : Type} (f : D → Option D) : List (κ × D) → Option (List (κ × D))
  | [] => some []
  | (q, x) :: r => match f x, mapV f r with
    | some y, some t => some ((q, y) :: t)
    | _, _ => none
/-- d with what stands at its places put in, none if it is deeper than k or holds no plain data -/
def D.dr (S : St) : Nat → D → Option D
  | 0, d => match d with
    | .non => some .non
    | .bl b => some (.bl b)
    | .int i => some (.int i)
    | .str x => some (.str x)
    | _ => none
  | k + 1, d => match d with
    | .non => some .non
    | .bl b => some (.bl b)
    | .int i => some (.int i)
    | .str x => some (.str x)
    | .tup xs => (mapO (D.dr S k) xs).map .tup
    | .lst xs => (mapO (D.dr S k) xs).map .lst
    | .dct kvs => (mapV (D.dr S k) kvs).map .dct
    | .loc n => (match S[n]? with
      | some (.lst xs) => (mapO (D.dr S k) xs).map .lst
      | some (.dct _ kvs) => (mapV (D.dr S k) kvs).map .dct
      | _ => none)
    | _ => none
end PM

namespace PM
/-! ### what texts of numbers are -/
def digit (n : Nat) : Nat := 48 + n
def natTxt (n : Nat) : Txt := (Nat.toDigits 10 n).map Char.toNat
def intTxt (i : Int) : Txt := if i < 0 then 45 :: natTxt i.natAbs else natTxt i.natAbs

/-! ### order -/
def ltT : Txt → Txt → Bool
  | [], [] => false
  | [], _ :: _ => true
  | _ :: _, [] => false
  | a :: r, b :: t => if a < b then true else if a = b then ltT r t else false
mutual
/-- Python's <, of intsD, texts, lists and tuples of these; none where it is not defined -/
def D.lt : D → D → Option Bool
  | .int a, .int b => some (decide (a < b))
  | .str a, .str b => some (ltT a b)
  | .lst a, .lst b => D.ltL a b
  | _, _ => none
def D.ltL : List D → List D → Option Bool
  | [], [] => some false
  | [], _ :: _ => some true
  | _ :: _, [] => some false
  | a :: r, b :: t => if D.eqv a b then D.ltL r t else D.lt a b
end

/-! ### the store -/
/-- the items of a list or tuple -/
def items (S : St) : D → Option (List D)
  | .tup xs => some xs
  | .lst xs => some xs
  | .loc n => match S[n]? with
    | some (.lst xs) => some xs
    | _ => none
  | _ => none
/-- the items of a list -/
def lstItems (S : St) : D → Option (List D)
  | .lst xs => some xs
  | .loc n => match S[n]? with
    | some (.lst xs) => some xs
    | _ => none
  | _ => none
def pairs (S : St) : D → Option (List (Key × D))
  | .dct kvs => some kvs
  | .loc n => match S[n]? with
    | some (.dct _ kvs) => some kvs
    | _ => none
  | _ => none
/-- an object's class and fields -/
def obj (S : St) : D → Option (String × List (String × D))
  | .ins c fs => some (c, fs)
  | .loc n => match S[n]? with
    | some (.ins c fs) => some (c, fs)
    | _ => none
  | _ => none
def isTup : D → Bool
  | .tup _ => true
  | _ => false
/-- a new list: a place (m), or just a value -/
def mkL (m : Bool) (xs : List D) (S : St) : Option (D × St) := if m then some (.loc S.length, S ++ [.lst xs]) else some (.lst xs, S)
def mkK (m : Bool) (kvs : List (Key × D)) (S : St) : Option (D × St) := if m then some (.loc S.length, S ++ [.dct false kvs]) else some (.dct kvs, S)
def keyOf : D → Option Key
  | .int i => some (.inl i)
  | .str x => some (.inr x)
  | _ => none
def ofKey : Key → D
  | .inl i => .int i
  | .inr x => .str x
def getK (kvs : List (Key × D)) (k : Key) : Option D := (kvs.find? fun p => decide (p.1 = k)).map (·.2)
/-- d[k] = v: in its place, else behind the others -/
def putK (kvs : List (Key × D)) (k : Key) (v : D) : List (Key × D) :=
  if kvs.any (fun kv => decide (kv.1 = k)) then kvs.map (fun kv => if kv.1 = k then (kv.1, v) else kv) else kvs ++ [(k, v)]
def dropK (kvs : List (Key × D)) (k : Key) : List (Key × D) := kvs.filter fun kv => decide (kv.1 ≠ k)
def getF (fs : List (String × D)) (f : String) : Option D := fs.lookup f
def putF : List (String × D) → String → D → List (String × D)
  | [], k, v => [(k, v)]
  | (q, w) :: r, k, v => if q = k then (q, v) :: r else (q, w) :: putF r k v
/-- an index, from the back where it is below 0 -/
def ixN (n : Nat) (i : Int) : Option Nat := if 0 ≤ i then (if i.toNat < n then some i.toNat else none) else (if 0 ≤ i + n then some (i + n).toNat else none)
/-- a slice's bound -/
def clip (n : Nat) (d : Nat) : Option Int → Nat
  | none => d
  | some i => if 0 ≤ i then min i.toNat n else (i + n).toNat
def cut {α : Type} (xs : List α) (lo hi : Option Int) : List α := (xs.drop (clip xs.length 0 lo)).take (clip xs.length xs.length hi - clip xs.length 0 lo)

def truthy (S : St) : D → Option Bool
  | .non => some false
  | .bl b => some b
  | .int i => some (decide (i ≠ 0))
  | .str x => some (!x.isEmpty)
  | .tup xs => some (!xs.isEmpty)
  | .lst xs => some (!xs.isEmpty)
  | .loc n => match S[n]? with
    | some (.lst xs) => some (!xs.isEmpty)
    | _ => none
  | _ => none

/-! ### syntax -/
inductive O2 where
  | add | sub | mul | fdiv | mod | pow | eq | ne | lt | le | gt | ge | isin | nin | is_ | isnt
  deriving DecidableEq
inductive Ty where
  | str | int | bool | list | tuple | dict | own (c : String)
  deriving DecidableEq
/-- how a thing is walked -/
inductive IK where
  | seq | enum | zip | rng | keys | itms | vals
  deriving DecidableEq
/-- a target: a name's slot, or several -/
inductive Tg where
  | nm (i : Nat) | tp (is : List Nat)
  deriving DecidableEq
inductive E where
  | var (i : Nat)
  | cst (d : D)
  | glb (x : String)
  | op (o : O2) (m : Bool) (a b : E)
  | own (ne : Bool) (a b : E)
  | chn (o p : O2) (a b c : E)
  | neg (a : E)
  | not (a : E)
  | bop (and : Bool) (es : List E)
  | ite (t a b : E)
  | isi (a : E) (ts : List Ty)
  /-- isinstance(own error, x): yes = the own errors that are of it -/
  | isx (a : E) (x : String) (yes : List String)
  | call (f : String) (es : List E) (ks : List String)
  | star (f : String) (o : E) (es : List E)
  | make (z : Bool) (c : String) (es : List E) (ks : List String)
  | meth (m : String) (o : E) (es : List E) (ks : List String)
  | mkx (c : String) (a : E)
  | fld (o : E) (f : String)
  | xval (i : Nat) (f : String)
  | ix (a i : E)
  | sl (m : Bool) (a : E) (lo hi : Option E)
  | rev (m : Bool) (a : E)
  | tup (ss : List Bool) (es : List E)
  | lst (m : Bool) (ss : List Bool) (es : List E)
  | dsp (m : Bool) (kvs : List E)
  | dup (m : Bool) (a k v : E)
  /-- a text among the keys of a dict of the module's own, or not in it -/
  | kin (neg : Bool) (a : E) (x : String)
  /-- what such a dict has for a text -/
  | kget (x : String) (a : E)
  | comp (m : Bool) (own : List Nat) (t : Tg) (ik : IK) (ie ifs : List E) (elt : E)
  | comp2 (m : Bool) (own : List Nat) (t : Tg) (ik : IK) (ie ifs : List E) (own1 : List Nat) (t1 : Tg) (ik1 : IK) (ie1 ifs1 : List E) (elt : E)
  | dcomp (m : Bool) (own : List Nat) (t : Tg) (ik : IK) (ie : List E) (k v : E)
  | bi (f : String) (m : Bool) (es : List E)
  | bm (f : String) (m : Bool) (o : E) (es : List E)
inductive S where
  | set (t : Tg) (e : E)
  | fset (o : E) (f : String) (e : E)
  | iset (o i e : E)
  | aug (i : Nat) (o : O2) (e : E)
  | augf (o : E) (f : String) (p : O2) (e : E)
  | augi (o i : E) (p : O2) (e : E)
  | ex (e : E)
  | ret (e : E)
  | ite (t : E) (a b : List S)
  | loop (t : Tg) (ik : IK) (ie : List E) (b : List S)
  | whl (t : E) (b : List S)
  | brk | cnt | skip
  | rse (c : String) (e : E)
  | tri (b : List S) (i : Nat) (cs : List (List String)) (hs : List (List S))

/-! ### operations by values -/
mutual
/-- plain: no dicts, no objects, no places; signs below 128 -/
def D.pl : D → Bool
  | .non | .bl _ | .int _ => true
  | .str x => x.all fun c => decide (c < 128)
  | .tup xs => D.plL xs
  | .lst xs => D.plL xs
  | _ => false
def D.plL : List D → Bool
  | [] => true
  | x :: r => D.pl x && D.plL r
end
/-- d as plain data -/
def D.dp (S : St) (d : D) : Option D := match d.dr S 150 with
  | some x => if x.pl then some x else none
  | none => none
def bothDr (S : St) (a b : D) (f : D → D → Option D) : Option (D × St) := match a, b with
  | .str x, .str y => (f (.str x) (.str y)).map fun d => (d, S)
  | a, b => match a.dp S, b.dp S with
    | some x, some y => (f x y).map fun d => (d, S)
    | _, _ => none
/-- dicts: d's values at these keys -/
def dHits (S : St) (kb : List (Key × D)) : List (Key × D) → Option Bool
  | [] => some true
  | (k, v) :: r => match getK kb k with
    | none => some false
    | some y => match v.dp S, y.dp S, dHits S kb r with
      | some p, some q, some t => some (D.eqv p q && t)
      | _, _, _ => none
/-- == where one side is no plain data: with nothing in the other one, or of dicts of plain data -/
def eq2 (S : St) (a b : D) : Option Bool := match a, b with
  | .tup xs, .tup [] => some xs.isEmpty
  | a, b => match lstItems S a, lstItems S b with
    | some xs, some [] => some xs.isEmpty
    | _, _ => match pairs S a, pairs S b with
      | some ka, some kb => if ka.length = kb.length then dHits S kb ka else some false
      | _, _ => none
def sizeMax : Nat := 1000000
def powOk (i : Int) (j : Int) : Bool := decide (0 ≤ j) && (decide (j ≤ 5) && decide (i.natAbs.log2 < 4000000) || decide (j ≤ 64) && decide (i.natAbs.log2 < 64))
def op2 (o : O2) (m : Bool) (a b : D) (S : St) : Option (D × St) := match o with
  | .add => match a, b with
    | .int i, .int j => some (.int (i + j), S)
    | .str x, .str y => if x.length + y.length ≤ sizeMax then some (.str (x ++ y), S) else none
    | .tup xs, .tup ys => if xs.length + ys.length ≤ sizeMax then some (.tup (xs ++ ys), S) else none
    | _, _ => match lstItems S a, lstItems S b with
      | some xs, some ys => if xs.length + ys.length ≤ sizeMax then mkL m (xs ++ ys) S else none
      | _, _ => none
  | .sub => match a, b with
    | .int i, .int j => some (.int (i - j), S)
    | _, _ => none
  | .mul => match a, b with
    | .int i, .int j => if i.natAbs.log2 < 4000000 ∧ j.natAbs.log2 < 4000000 then some (.int (i * j), S) else none
    | .str x, .int j => if x.length ≤ 1000 ∧ -1000 ≤ j ∧ j ≤ 1000 then some (.str (List.replicate j.toNat x).flatten, S) else none
    | .tup xs, .int j => if xs.length ≤ 1000 ∧ -1000 ≤ j ∧ j ≤ 1000 then some (.tup (List.replicate j.toNat xs).flatten, S) else none
    | _, .int j => match lstItems S a with
      | some xs => if xs.length ≤ 1000 ∧ -1000 ≤ j ∧ j ≤ 1000 then mkL m (List.replicate j.toNat xs).flatten S else none
      | _ => none
    | _, _ => none
  | .fdiv => match a, b with
    | .int i, .int j => if 0 < j ∧ j < 1073741824 then some (.int (i / j), S) else none
    | _, _ => none
  | .mod => match a, b with
    | .int i, .int j => if 0 < j then some (.int (i % j), S) else none
    | _, _ => none
  | .pow => match a, b with
    | .int i, .int j => if powOk i j then some (.int (i ^ j.toNat), S) else none
    | _, _ => none
  | .eq => (match bothDr S a b fun x y => some (.bl (D.eqv x y)) with
    | some r => some r
    | none => (eq2 S a b).map fun t => (.bl t, S))
  | .ne => (match bothDr S a b fun x y => some (.bl (!D.eqv x y)) with
    | some r => some r
    | none => (eq2 S a b).map fun t => (.bl (!t), S))
  | .lt => bothDr S a b fun x y => (D.lt x y).map .bl
  | .gt => match a, b with
    | .int i, .int j => some (.bl (decide (j < i)), S)
    | .str x, .str y => some (.bl (ltT y x), S)
    | _, _ => none
  | .le => match a, b with
    | .int i, .int j => some (.bl (decide (i ≤ j)), S)
    | .str x, .str y => some (.bl (!ltT y x), S)
    | _, _ => none
  | .ge => match a, b with
    | .int i, .int j => some (.bl (decide (j ≤ i)), S)
    | .str x, .str y => some (.bl (!ltT x y), S)
    | _, _ => none
  | .isin => isIn S a b false
  | .nin => isIn S a b true
  | .is_ => match a, b with
    | .bl x, .bl y => some (.bl (x == y), S)
    | x, .non => some (.bl (match x with | .non => true | _ => false), S)
    | _, _ => none
  | .isnt => match a, b with
    | .bl x, .bl y => some (.bl (!(x == y)), S)
    | x, .non => some (.bl (match x with | .non => false | _ => true), S)
    | _, _ => none
where
  isIn (S : St) (a b : D) (neg : Bool) : Option (D × St) := match a, b with
    | .str [c], .str y => some (.bl (neg != y.contains c), S)
    | _, _ => match pairs S b, keyOf a with
      | some kvs, some k => some (.bl (neg != (getK kvs k).isSome), S)
      | _, _ => match items S b with
        | some ys => match a.dp S, D.dp S (.lst ys) with
          | some x, some (.lst zs) => some (.bl (neg != zs.any fun z => D.eqv z x), S)
          | _, _ => none
        | none => none

/-- is d of the type -/
def isTy (S : St) (d : D) (t : Ty) : Option Bool := match d, t with
  | .loc n, t => match S[n]?, t with
    | some (.lst _), t => some (t == .list)
    | some (.dct _ _), t => some (t == .dict)
    | some (.ins c _), .own e => some (c == e)
    | some (.ins _ _), _ => some false
    | none, _ => none
  | .non, _ => some false
  | .bl _, t => some (t == .bool || t == .int)
  | .int _, t => some (t == .int)
  | .str _, t => some (t == .str)
  | .tup _, t => some (t == .tuple)
  | .lst _, t => some (t == .list)
  | .dct _, t => some (t == .dict)
  | .ins c _, .own e => some (c == e)
  | .ins _ _, _ => some false
  | .err _ _, _ => none
  | .exn _ _, _ => none
def isTys (S : St) (d : D) : List Ty → Option Bool
  | [] => some false
  | t :: r => match isTy S d t, isTys S d r with
    | some a, some b => some (a || b)
    | _, _ => none

def intsD : List D → Option (List Int)
  | [] => some []
  | .int i :: r => (intsD r).map (i :: ·)
  | _ :: _ => none
def bools : List D → Option (List Bool)
  | [] => some []
  | .bl b :: r => (bools r).map (b :: ·)
  | _ :: _ => none
def strsD : List D → Option (List Txt)
  | [] => some []
  | .str x :: r => (strsD r).map (x :: ·)
  | _ :: _ => none
def maxI : Int → List Int → Int
  | a, [] => a
  | a, b :: r => maxI (if a < b then b else a) r
def minI : Int → List Int → Int
  | a, [] => a
  | a, b :: r => minI (if b < a then b else a) r
def rngL (a b : Int) : List D := (List.range (b - a).toNat).map fun k => .int (a + (k : Nat))
def isDigit (c : Nat) : Bool := decide (48 ≤ c ∧ c ≤ 57)
def digitsVal (x : Txt) : Int := x.foldl (fun (a : Int) (c : Nat) => a * 10 + ((c : Int) - 48)) 0
def joinT (sep : Txt) : List Txt → Txt
  | [] => []
  | [x] => x
  | x :: r => x ++ sep ++ joinT sep r
def distinct : List Txt → List Txt
  | [] => []
  | x :: r => if r.contains x then distinct r else x :: distinct r
def insT (x : Txt) : List Txt → List Txt
  | [] => [x]
  | y :: r => if ltT x y then x :: y :: r else if x = y then y :: r else y :: insT x r
/-- the texts, each once, ascending -/
def sortT : List Txt → List Txt
  | [] => []
  | x :: r => insT x (sortT r)

/-! ### a thing's items, as they are walked -/
def zipD : List D → List D → List D
  | x :: r, y :: t => .tup [x, y] :: zipD r t
  | _, _ => []
def enumD : Nat → List D → List D
  | _, [] => []
  | k, x :: r => .tup [.int (k : Nat), x] :: enumD (k + 1) r
def rngOk (n : Int) : Bool := decide (-4611686018427387904 ≤ n) && decide (n < 4611686018427387904)
def walk (S : St) (k : IK) (ds : List D) : Option (List D) := match k, ds with
  | .seq, [d] => (match d with
    | .str x => some (x.map fun c => .str [c])
    | d => items S d)
  | .enum, [d] => (lstItems S d).map (enumD 0)
  | .zip, [a, b] => (match lstItems S a, lstItems S b with
    | some xs, some ys => some (zipD xs ys)
    | _, _ => (match a, b with
      | .tup xs, .tup ys => some (zipD xs ys)
      | _, _ => none))
  | .rng, [.int n] => if rngOk n then some (rngL 0 n) else none
  | .rng, [.int a, .int b] => if rngOk a && rngOk b then some (rngL a b) else none
  | .keys, [d] => (pairs S d).map fun kvs => kvs.map fun p => ofKey p.1
  | .vals, [d] => (pairs S d).map fun kvs => kvs.map fun p => p.2
  | .itms, [d] => (pairs S d).map fun kvs => kvs.map fun p => .tup [ofKey p.1, p.2]
  | _, _ => none
/-- a dict is walked -/
def IK.isD : IK → Bool
  | .keys | .vals | .itms => true
  | _ => false
/-- the dict that is walked is locked -/
def lkS (k : IK) (ds : List D) (S : St) : St := if k.isD then (match ds with
  | [.loc n] => (match S[n]? with
    | some (.dct false kvs) => S.set n (.dct true kvs)
    | _ => S)
  | _ => S) else S
/-- and free again: S1 ahead of the lock, S' behind the walk -/
def ulS (k : IK) (ds : List D) (S1 S' : St) : St := if k.isD then (match ds with
  | [.loc n] => (match S1[n]? with
    | some (.dct false kvs) => S'.set n (.dct false kvs)
    | _ => S')
  | _ => S') else S'
/-- *d's items -/
def starD (S : St) : D → Option (List D)
  | .str x => some (x.map fun c => .str [c])
  | d => items S d
/-- an item into its target's slots -/
def bindT (S : St) (t : Tg) (d : D) (ρ : Env) : Option Env := match t with
  | .nm i => some (ρ.set i (some d))
  | .tp is => match d with
    | .tup xs => if xs.length = is.length then some ((is.zip xs).foldl (fun r p => r.set p.1 (some p.2)) ρ) else none
    | _ => none
def wipe (ρ : Env) : List Nat → Env
  | [] => ρ
  | i :: r => (wipe ρ r).set i none
end PM

namespace PM
/-! ### what leaves a def: places from n on become values -/
mutual
def D.lo (n : Nat) : D → Bool
  | .loc i => decide (i < n)
  | .tup xs => D.loL n xs
  | .lst xs => D.loL n xs
  | .dct kvs => D.loK n kvs
  | .ins _ fs => D.loF n fs
  | .exn _ v => D.lo n v
  | .err _ v => D.lo n v
  | _ => true
def D.loL (n : Nat) : List D → Bool
  | [] => true
  | x :: r => D.lo n x && D.loL n r
def D.loK (n : Nat) : List (Key × D) → Bool
  | [] => true
  | (_, x) :: r => D.lo n x && D.loK n r
def D.loF (n : Nat) : List (String × D) → Bool
  | [] => true
  | (_, x) :: r => D.lo n x && D.loF n r
end
def Cell.lo (n : Nat) : Cell → Bool
  | .lst xs => D.loL n xs
  | .dct _ kvs => D.loK n kvs
  | .ins _ fs => D.loF n fs
/-- the places from n on, to a depth -/
def D.frz (S : St) (n : Nat) : Nat → D → Option D
  | 0, d => if d.lo n then some d else none
  | k + 1, d => match d with
    | .tup xs => (mapO (D.frz S n k) xs).map .tup
    | .lst xs => (mapO (D.frz S n k) xs).map .lst
    | .dct kvs => (mapV (D.frz S n k) kvs).map .dct
    | .ins c fs => (mapV (D.frz S n k) fs).map (.ins c)
    | .exn c v => (D.frz S n k v).map (.exn c)
    | .err c v => (D.frz S n k v).map (.err c)
    | .loc i => if i < n then some (.loc i) else (match S[i]? with
      | some (.lst xs) => (mapO (D.frz S n k) xs).map .lst
      | some (.dct _ kvs) => (mapV (D.frz S n k) kvs).map .dct
      | some (.ins c fs) => (mapV (D.frz S n k) fs).map (.ins c)
      | none => none)
    | d => some d
/-- what stood ahead is as it was, or speaks of no place from n on -/
def cutOk (n : Nat) : St → St → Bool
  | [], _ => true
  | a :: r, b :: t => (a.beq b || b.lo n) && cutOk n r t
  | _ :: _, [] => false
/-- back to the store's first n cells: S ahead, S' behind, d handed out -/
def cutAt (S S' : St) (d : D) : R D := if cutOk S.length S S' then (match D.frz S' S.length 40 d with
  | some e => .ok e (S'.take S.length)
  | none => .bad) else .bad

/-! ### runs -/
structure Ctx where
  call : String → List D → List (String × D) → St → R D
  glb : String → Option D
  /-- the attribute of an own error -/
  xat : String → Option String
  /-- whether a class has a property -/
  prop : String → String → Bool
  /-- repr's text -/
  rep : D → Txt
  /-- whether a class's objects may have a field -/
  isF : String → String → Bool
  /-- whether there is such a def -/
  has : String → Bool

mutual
/-- more than the signs of a repr -/
def D.wt : D → Nat
  | .int i => if i.natAbs.log2 < 1900 then i.natAbs.log2 + 3 else 1000000000
  | .str x => if x.all (fun c => decide (c < 128)) then 10 * x.length + 2 else 1000000000
  | .tup xs => 3 + D.wtL xs
  | .lst xs => 3 + D.wtL xs
  | .dct kvs => 3 + D.wtK kvs
  | _ => 5
def D.wtL : List D → Nat
  | [] => 0
  | x :: r => D.wt x + 2 + D.wtL r
def D.wtK : List (Key × D) → Nat
  | [] => 0
  | (k, x) :: r => (match k with | .inl i => (if i.natAbs.log2 < 1900 then i.natAbs.log2 + 3 else 1000000000) | .inr y => (if y.all (fun c => decide (c < 128)) then 10 * y.length + 2 else 1000000000)) + D.wt x + 4 + D.wtK r
end

/-- d's thing is as it was -/
def sameAt (S1 S : St) : D → Bool
  | .loc n => match S1[n]?, S[n]? with
    | some a, some b => a.beq b
    | _, _ => false
  | _ => true
def R.noex {α : Type} (r : R α) : R α := match r with
  | .ok a S => .ok a S
  | _ => .bad
def loopR (ok : St → Bool) (step : D → St → R (List D)) : List D → St → R (List D)
  | [], S => if ok S then .ok [] S else .bad
  | x :: r, S => if ok S then (step x S).noex.bind fun ys S1 => (loopR ok step r S1).bind fun zs S2 => .ok (ys ++ zs) S2 else .bad
def loopK (ok : St → Bool) (step : D → St → R (Key × D)) : List D → List (Key × D) → St → R (List (Key × D))
  | [], acc, S => if ok S then .ok acc S else .bad
  | x :: r, acc, S => if ok S then (step x S).noex.bind fun p S1 => loopK ok step r (putK acc p.1 p.2) S1 else .bad
def loopF (ok : St → Bool) (step : D → Env → St → Fl) : List D → Env → St → Fl
  | [], ρ, S => if ok S then .nx ρ S else .bad
  | x :: r, ρ, S => if ok S then (match step x ρ S with
    | .nx ρ1 S1 => loopF ok step r ρ1 S1
    | .ct ρ1 S1 => loopF ok step r ρ1 S1
    | .bk ρ1 S1 => .nx ρ1 S1
    | f => f) else .bad
def whileF (test : Env → St → R Bool) (body : Env → St → Fl) : Nat → Env → St → Fl
  | 0, _, _ => .bad
  | k + 1, ρ, S => match test ρ S with
    | .ok true S1 => (match body ρ S1 with
      | .nx ρ1 S2 => whileF test body k ρ1 S2
      | .ct ρ1 S2 => whileF test body k ρ1 S2
      | .bk ρ1 S2 => .nx ρ1 S2
      | f => f)
    | .ok false S1 => .nx ρ S1
    | .ex c v S1 => .ex c v ρ S1
    | .bad => .bad
def whileMax : Nat := 1000000000

def bi (C : Ctx) (f : String) (m : Bool) (ds : List D) (S : St) : Option (D × St) := match f, ds with
  | "repr", [d] => (match d.dr S 150 with
    | some x => if x.wt ≤ sizeMax then some (.str (C.rep x), S) else none
    | none => none)
  | "len", [.str x] => some (.int x.length, S)
  | "len", [d] => (match items S d with
    | some xs => some (.int xs.length, S)
    | none => match pairs S d with
      | some kvs => some (.int kvs.length, S)
      | none => none)
  | "int", [.int i] => some (.int i, S)
  | "int", [.bl b] => some (.int (if b then 1 else 0), S)
  | "int", [.str x] => if x ≠ [] ∧ x.length ≤ 600 ∧ x.all isDigit then some (.int (digitsVal x), S) else none
  | "all", [d] => (match (lstItems S d).bind bools with
    | some bs => some (.bl (bs.all id), S)
    | none => none)
  | "any", [d] => (match (lstItems S d).bind bools with
    | some bs => some (.bl (bs.any id), S)
    | none => none)
  | "sum", [d] => (match (lstItems S d).bind intsD with
    | some is => some (.int is.sum, S)
    | none => none)
  | "max", [d] => (match (lstItems S d).bind intsD with
    | some (i :: is) => some (.int (maxI i is), S)
    | _ => none)
  | "min", [d] => (match (lstItems S d).bind intsD with
    | some (i :: is) => some (.int (minI i is), S)
    | _ => none)
  | "max", [.int i, .int j] => some (.int (if i < j then j else i), S)
  | "min", [.int i, .int j] => some (.int (if j < i then j else i), S)
  | "max=", [d, e] => (match (lstItems S d).bind intsD with
    | some (i :: is) => some (.int (maxI i is), S)
    | some [] => some (e, S)
    | none => none)
  | "min=", [d, e] => (match (lstItems S d).bind intsD with
    | some (i :: is) => some (.int (minI i is), S)
    | some [] => some (e, S)
    | none => none)
  | "list", [d] => (match items S d with
    | some xs => mkL m xs S
    | none => match pairs S d with
      | some kvs => mkL m (kvs.map fun p => ofKey p.1) S
      | none => none)
  | "listvals", [d] => (match pairs S d with
    | some kvs => mkL m (kvs.map (·.2)) S
    | none => none)
  | "listzip", [a, b] => (match items S a, items S b with
    | some xs, some ys => mkL m (zipD xs ys) S
    | _, _ => none)
  | "listrange", [.int a, .int b] => mkL m (rngL a b) S
  | "tuple", [d] => (match items S d with
    | some xs => some (.tup xs, S)
    | none => none)
  | "dict", [d] => (match pairs S d with
    | some kvs => mkK m kvs S
    | none => none)
  | "lenset", [d] => (match (lstItems S d).bind strsD with
    | some xs => if xs.length < 4000 then some (.int (distinct xs).length, S) else none
    | none => none)
  | "sortedset", [d] => (match (lstItems S d).bind strsD with
    | some xs => if xs.length < 4000 ∧ (sortT xs).length < 64 then mkL m ((sortT xs).map .str) S else none
    | none => none)
  | "str", [.int i] => if 0 ≤ i ∧ i.natAbs.log2 < 1900 then some (.str (intTxt i), S) else none
  | "str", [.str x] => some (.str x, S)
  | _, _ => none

/-- the type that has the method -/
def bmT (f : String) : Ty := match f with
  | "get" | "dpop" => .dict
  | "join" | "isdigit" => .str
  | _ => .list
def bm (f : String) (m : Bool) (o : D) (ds : List D) (S : St) : Option (D × St) := match f, o, ds with
  | "append", .loc n, [d] => (match S[n]? with
    | some (.lst xs) => if xs.length < sizeMax then some (.non, S.set n (.lst (xs ++ [d]))) else none
    | _ => none)
  | "extend", .loc n, [d] => (match S[n]?, lstItems S d with
    | some (.lst xs), some ys => if xs.length + ys.length ≤ sizeMax then some (.non, S.set n (.lst (xs ++ ys))) else none
    | _, _ => none)
  | "insert", .loc n, [.int i, d] => (match S[n]? with
    | some (.lst xs) => if 0 ≤ i ∧ i ≤ xs.length ∧ xs.length < sizeMax then some (.non, S.set n (.lst (xs.take i.toNat ++ d :: xs.drop i.toNat))) else none
    | _ => none)
  | "reverse", .loc n, [] => (match S[n]? with
    | some (.lst xs) => some (.non, S.set n (.lst xs.reverse))
    | _ => none)
  | "pop", .loc n, [] => (match S[n]? with
    | some (.lst xs) => (match xs.getLast? with
      | some x => some (x, S.set n (.lst xs.dropLast))
      | none => none)
    | _ => none)
  | "pop", .loc n, [.int i] => (match S[n]? with
    | some (.lst xs) => (match ixN xs.length i with
      | some k => (match xs[k]? with
        | some x => some (x, S.set n (.lst (xs.eraseIdx k)))
        | none => none)
      | none => none)
    | _ => none)
  | "dpop", .loc n, [k] => (match S[n]?, keyOf k with
    | some (.dct false kvs), some q => (getK kvs q).map fun v => (v, S.set n (.dct false (dropK kvs q)))
    | _, _ => none)
  | "get", d, [k] => (match pairs S d, keyOf k with
    | some kvs, some q => some ((getK kvs q).getD .non, S)
    | _, _ => none)
  | "get", d, [k, e] => (match pairs S d, keyOf k with
    | some kvs, some q => some ((getK kvs q).getD e, S)
    | _, _ => none)
  | "index", d, [.str x] => (match (lstItems S d).bind strsD with
    | some ts => (match ts.findIdx? fun t => t == x with
      | some k => some (.int (k : Nat), S)
      | none => none)
    | _ => none)
  | "join", .str sep, [d] => (match (lstItems S d).bind strsD with
    | some xs => if (xs.map (·.length)).sum + xs.length * sep.length ≤ sizeMax then some (.str (joinT sep xs), S) else none
    | none => none)
  | "isdigit", .str x, [] => if x.all (fun c => decide (c < 128)) then some (.bl (!x.isEmpty && x.all isDigit), S) else none
  | _, _, _ => none

/-- o[i] -/
def getIx (S : St) (o i : D) : Option (D × St) := match o, i with
  | .str x, .int k => (match (ixN x.length k).bind (x[·]?) with
    | some c => some (.str [c], S)
    | none => none)
  | o, .int k => (match items S o with
    | some xs => (match (ixN xs.length k).bind (xs[·]?) with
      | some x => some (x, S)
      | none => none)
    | none => (match pairs S o with
      | some kvs => (getK kvs (.inl k)).map fun d => (d, S)
      | none => none))
  | o, .str x => (match pairs S o with
    | some kvs => (getK kvs (.inr x)).map fun d => (d, S)
    | none => none)
  | _, _ => none
/-- o[lo:hi] -/
def getSl (S : St) (m : Bool) (o : D) (lo hi : Option Int) : Option (D × St) := match o with
  | .str x => some (.str (cut x lo hi), S)
  | .tup xs => some (.tup (cut xs lo hi), S)
  | o => (match lstItems S o with
    | some xs => mkL m (cut xs lo hi) S
    | none => none)
/-- o[::-1] -/
def getRev (S : St) (m : Bool) (o : D) : Option (D × St) := match o with
  | .str _ => none
  | .tup xs => some (.tup xs.reverse, S)
  | o => (match lstItems S o with
    | some xs => mkL m xs.reverse S
    | none => none)
/-- o[i] = v -/
def setIx (S : St) (o i v : D) : Option St := match o, i with
  | .loc n, i => (match S[n]?, i with
    | some (.lst xs), .int k => (ixN xs.length k).map fun j => S.set n (.lst (xs.set j v))
    | some (.dct false kvs), i => if kvs.length < sizeMax then (keyOf i).map fun q => S.set n (.dct false (putK kvs q v)) else none
    | _, _ => none)
  | _, _ => none
/-- o.f = v -/
def setFd (C : Ctx) (S : St) (o : D) (f : String) (v : D) : Option St := match o with
  | .loc n => (match S[n]? with
    | some (.ins c fs) => if C.isF c f ∧ fs.length < 100 then some (S.set n (.ins c (putF fs f v))) else none
    | _ => none)
  | _ => none
/-- o.f -/
def getFd (C : Ctx) (o : D) (f : String) (S : St) : R D := match o with
  | .exn c v => if C.xat c = some f then .ok v S else .bad
  | .err c v => if C.xat c = some f then .ok v S else .bad
  | o => (match obj S o with
    | some (c, fs) => if C.prop c f then (match C.call (c ++ "." ++ f) [o] [] S with | .ok d S' => .ok d S' | _ => .bad) else if C.isF c f then R.of (getF fs f) S else .bad
    | none => .bad)
def optInt : D → Option (Option Int)
  | .int i => some (some i)
  | _ => none
/-- the last of the values by their names -/
def splitKw (ds : List D) (ks : List String) : List D × List (String × D) := (ds.take (ds.length - ks.length), ks.zip (ds.drop (ds.length - ks.length)))
def mkPairs : List D → Option (List (Key × D))
  | [] => some []
  | k :: v :: r => match keyOf k, mkPairs r with
    | some q, some l => some ((q, v) :: l)
    | _, _ => none
  | _ => none
def mkDict (kvs : List (Key × D)) : List (Key × D) := kvs.foldl (fun a p => putK a p.1 p.2) []

/-- an error -/
def D.isX : D → Bool
  | .exn _ _ => true
  | _ => false
/-- an own error that is a value -/
def D.isE : D → Bool
  | .err _ _ => true
  | _ => false
/-- no name holds an error -/
def noX (ρ : Env) : Bool := ρ.all fun o => match o with
  | some d => !d.isX
  | none => true
/-- a constant of the module that is no dict -/
def noDct : Option D → Option D
  | some (.dct _) => none
  | o => o
/-- by truth -/
def R.tru (r : R D) : R Bool := r.bind fun x S1 => R.of (truthy S1 x) S1
mutual
def evE (C : Ctx) : E → Env → St → R D
  | .var i, ρ, S => match ρ[i]? with
    | some (some d) => if d.isX then .bad else .ok d S
    | _ => .bad
  | .xval i f, ρ, S => match ρ[i]? with
    | some (some (.exn c v)) => if C.xat c = some f then .ok v S else .bad
    | _ => .bad
  | .cst d, _, S => .ok d S
  | .glb x, _, S => R.of (noDct (C.glb x)) S
  | .op o m a b, ρ, S => (evE C a ρ S).bind fun x S1 => (evE C b ρ S1).bind fun y S2 => R.o (op2 o m x y S2)
  | .own ne a b, ρ, S => (evE C a ρ S).bind fun x S1 => (evE C b ρ S1).bind fun y S2 => match obj S2 x with
    | some (c, _) => if C.has (c ++ ".__eq__") = true ∧ y.isE = false then (C.call (c ++ ".__eq__") [x, y] [] S2).bind fun r S3 => match r with
      | .bl t => .ok (.bl (ne != t)) S3
      | _ => .bad
      else .bad
    | none => .bad
  | .chn o p a b c, ρ, S => (evE C a ρ S).bind fun x S1 => (evE C b ρ S1).bind fun y S2 => (R.o (op2 o false x y S2)).bind fun t S3 => match t with
    | .bl true => (evE C c ρ S3).bind fun z S4 => R.o (op2 p false y z S4)
    | .bl false => .ok (.bl false) S3
    | _ => .bad
  | .neg a, ρ, S => (evE C a ρ S).bind fun x S1 => match x with
    | .int i => .ok (.int (-i)) S1
    | _ => .bad
  | .not a, ρ, S => (evE C a ρ S).tru.bind fun t S1 => .ok (.bl (!t)) S1
  | .bop and es, ρ, S => evB C and es ρ S
  | .ite t a b, ρ, S => (evE C t ρ S).tru.bind fun k S1 => if k then evE C a ρ S1 else evE C b ρ S1
  | .isi a ts, ρ, S => (evE C a ρ S).bind fun x S1 => match isTys S1 x ts with
    | some t => .ok (.bl t) S1
    | none => .bad
  | .isx a _ yes, ρ, S => (evE C a ρ S).bind fun x S1 => match x with
    | .err c _ => .ok (.bl (yes.contains c)) S1
    | _ => .bad
  | .call f es ks, ρ, S => (evL C es ρ S).bind fun ds S1 => C.call f (splitKw ds ks).1 (splitKw ds ks).2 S1
  | .star f o es, ρ, S => (evE C o ρ S).bind fun x S0 => match obj S0 x with
    | some (c, fs) => if (getF fs f).isNone ∧ C.has (c ++ "." ++ f) = true then (evL C es ρ S0).bind fun ds S1 => match ds with
      | y :: more => (match items S1 y with
        | some ys => C.call (c ++ "." ++ f) (x :: ys ++ more) [] S1
        | none => .bad)
      | [] => .bad
      else .bad
    | none => .bad
  | .make z c es ks, ρ, S => (evL C es ρ S).bind fun ds S1 =>
      (C.call (c ++ ".__init__") (.loc S1.length :: (splitKw ds ks).1) (splitKw ds ks).2 (S1 ++ [.ins c []])).bind fun r S2 => match r with
        | .non => if z then cutAt S1 S2 (.loc S1.length) else .ok (.loc S1.length) S2
        | _ => .bad
  | .meth m o es ks, ρ, S => (evE C o ρ S).bind fun x S0 => match obj S0 x with
    | some (c, fs) => if (getF fs m).isNone ∧ C.has (c ++ "." ++ m) = true then (evL C es ρ S0).bind fun ds S1 => C.call (c ++ "." ++ m) (x :: (splitKw ds ks).1) (splitKw ds ks).2 S1 else .bad
    | none => .bad
  | .mkx c a, ρ, S => (evE C a ρ S).bind fun x S1 => if (C.xat c).isSome then .ok (.err c x) S1 else .bad
  | .fld o f, ρ, S => (evE C o ρ S).bind fun x S1 => getFd C x f S1
  | .ix a i, ρ, S => (evE C a ρ S).bind fun x S1 => (evE C i ρ S1).bind fun y S2 => R.o (getIx S2 x y)
  | .sl m a lo hi, ρ, S => (evE C a ρ S).bind fun x S1 => (evO C lo ρ S1).bind fun l S2 => (evO C hi ρ S2).bind fun h S3 => R.o (getSl S3 m x l h)
  | .rev m a, ρ, S => (evE C a ρ S).bind fun x S1 => R.o (getRev S1 m x)
  | .tup ss es, ρ, S => (evSL C ss es ρ S).bind fun ds S1 => if ds.length ≤ sizeMax then .ok (.tup ds) S1 else .bad
  | .lst m ss es, ρ, S => (evSL C ss es ρ S).bind fun ds S1 => if ds.length ≤ sizeMax then R.o (mkL m ds S1) else .bad
  | .dsp m kvs, ρ, S => (evL C kvs ρ S).bind fun ds S1 => match mkPairs ds with
    | some l => R.o (mkK m (mkDict l) S1)
    | none => .bad
  | .dup m a k v, ρ, S => (evE C a ρ S).bind fun x S1 => match pairs S1 x with
    | some kvs => if kvs.length < sizeMax then (evE C k ρ S1).bind fun y S2 => (evE C v ρ S2).bind fun z S3 => match keyOf y with
      | some q => R.o (mkK m (putK kvs q z) S3)
      | none => .bad
      else .bad
    | none => .bad
  | .kin neg a x, ρ, S => match C.glb x with
    | some (.dct kvs) => (evE C a ρ S).bind fun d S1 => match d with
      | .str t => .ok (.bl (neg != (getK kvs (.inr t)).isSome)) S1
      | _ => .bad
    | _ => .bad
  | .kget x a, ρ, S => match C.glb x with
    | some (.dct kvs) => (evE C a ρ S).bind fun d S1 => match d with
      | .str t => R.of (getK kvs (.inr t)) S1
      | _ => .bad
    | _ => .bad
  | .comp m own t ik ie ifs elt, ρ, S => (evL C ie ρ S).bind fun ds S1 => match walk S1 ik ds with
    | some xs => (loopR (fun S' => ds.all (sameAt (lkS ik ds S1) S')) (fun x S2 => match bindT S2 t x (wipe ρ own) with
        | some ρ1 => (evTs C ifs ρ1 S2).bind fun k S3 => if k then (evE C elt ρ1 S3).bind fun y S4 => .ok [y] S4 else .ok [] S3
        | none => .bad) xs (lkS ik ds S1)).bind fun ys S5 => if ys.length ≤ sizeMax then R.o (mkL m ys (ulS ik ds S1 S5)) else .bad
    | none => .bad
  | .comp2 m own t ik ie ifs own1 t1 ik1 ie1 ifs1 elt, ρ, S => (evL C ie ρ S).bind fun ds S1 => match walk S1 ik ds with
    | some xs => (loopR (fun S' => ds.all (sameAt S1 S')) (fun x S2 => match bindT S2 t x (wipe ρ own) with
        | some ρ1 => (evTs C ifs ρ1 S2).bind fun k S3 => if k then (evL C ie1 ρ1 S3).bind fun es S4 => (match walk S4 ik1 es with
            | some zs => loopR (fun S' => es.all (sameAt S4 S')) (fun z S5 => match bindT S5 t1 z (wipe ρ1 own1) with
              | some ρ2 => (evTs C ifs1 ρ2 S5).bind fun k S6 => if k then (evE C elt ρ2 S6).bind fun y S7 => .ok [y] S7 else .ok [] S6
              | none => .bad) zs S4
            | none => .bad) else .ok [] S3
        | none => .bad) xs S1).bind fun ys S5 => if ys.length ≤ sizeMax then R.o (mkL m ys S5) else .bad
    | none => .bad
  | .dcomp m own t ik ie k v, ρ, S => (evL C ie ρ S).bind fun ds S1 => match walk S1 ik ds with
    | some xs => (loopK (fun S' => ds.all (sameAt (lkS ik ds S1) S')) (fun x S2 => match bindT S2 t x (wipe ρ own) with
        | some ρ1 => (evE C k ρ1 S2).bind fun y S3 => (evE C v ρ1 S3).bind fun z S4 => match keyOf y with
          | some q => .ok (q, z) S4
          | none => .bad
        | none => .bad) xs [] (lkS ik ds S1)).bind fun kvs S5 => if kvs.length ≤ sizeMax then R.o (mkK m kvs (ulS ik ds S1 S5)) else .bad
    | none => .bad
  | .bi f m es, ρ, S => (evL C es ρ S).bind fun ds S1 => R.o (bi C f m ds S1)
  | .bm f m o es, ρ, S => (evE C o ρ S).bind fun x S0 => if isTy S0 x (bmT f) = some true then (evL C es ρ S0).bind fun ds S1 => R.o (bm f m x ds S1) else .bad
/-- and, or, as a value -/
def evB (C : Ctx) (and : Bool) : List E → Env → St → R D
  | [], _, _ => .bad
  | [e], ρ, S => evE C e ρ S
  | e :: r, ρ, S => (evE C e ρ S).bind fun x S1 => match truthy S1 x with
    | some t => if t == and then evB C and r ρ S1 else .ok x S1
    | none => .bad
def evTs (C : Ctx) : List E → Env → St → R Bool
  | [], _, S => .ok true S
  | e :: r, ρ, S => (evE C e ρ S).tru.bind fun t S1 => if t then evTs C r ρ S1 else .ok false S1
def evL (C : Ctx) : List E → Env → St → R (List D)
  | [], _, S => .ok [] S
  | e :: r, ρ, S => (evE C e ρ S).bind fun x S1 => (evL C r ρ S1).bind fun xs S2 => .ok (x :: xs) S2
def evSL (C : Ctx) : List Bool → List E → Env → St → R (List D)
  | false :: ss, e :: r, ρ, S => (evE C e ρ S).bind fun x S1 => (evSL C ss r ρ S1).bind fun xs S2 => .ok (x :: xs) S2
  | true :: ss, e :: r, ρ, S => (evE C e ρ S).bind fun x S1 => match starD S1 x with
    | some ys => (evSL C ss r ρ S1).bind fun xs S2 => .ok (ys ++ xs) S2
    | none => .bad
  | [], e :: r, ρ, S => (evE C e ρ S).bind fun x S1 => (evSL C [] r ρ S1).bind fun xs S2 => .ok (x :: xs) S2
  | _, [], _, S => .ok [] S
def evO (C : Ctx) : Option E → Env → St → R (Option Int)
  | none, _, S => .ok none S
  | some e, ρ, S => (evE C e ρ S).bind fun x S1 => R.of (optInt x) S1
end
end PM

namespace PM
/-- what follows an expression in a statement -/
def R.fl {α : Type} (r : R α) (ρ : Env) (f : α → St → Fl) : Fl := match r with
  | .ok a S => f a S
  | .ex c v S => .ex c v ρ S
  | .bad => .bad
def Fl.ofO {α : Type} (o : Option α) (f : α → Fl) : Fl := match o with
  | some a => f a
  | none => .bad
/-- the name of an except clause goes -/
def Fl.off (i : Nat) : Fl → Fl
  | .nx ρ S => if noX (ρ.set i none) then .nx (ρ.set i none) S else .bad
  | .bk ρ S => if noX (ρ.set i none) then .bk (ρ.set i none) S else .bad
  | .ct ρ S => if noX (ρ.set i none) then .ct (ρ.set i none) S else .bad
  | .rt d S => .rt d S
  | .ex _ _ _ _ => .bad
  | .bad => .bad
/-- behind a loop: a dict that was walked is free again; no exception leaves such a loop -/
def Fl.ul (k : IK) (ds : List D) (S1 : St) (f : Fl) : Fl := if k.isD then (match f with
  | .nx ρ S => .nx ρ (ulS k ds S1 S)
  | .bk ρ S => .bk ρ (ulS k ds S1 S)
  | .ct ρ S => .ct ρ (ulS k ds S1 S)
  | .rt d S => .rt d (ulS k ds S1 S)
  | .ex _ _ _ _ => .bad
  | .bad => .bad) else f
mutual
def evS (C : Ctx) : PM.S → Env → St → Fl
  | .set t e, ρ, S => (evE C e ρ S).fl ρ fun x S1 => Fl.ofO (bindT S1 t x ρ) fun ρ1 => .nx ρ1 S1
  | .fset o f e, ρ, S => (evE C e ρ S).fl ρ fun x S1 => (evE C o ρ S1).fl ρ fun y S2 => Fl.ofO (setFd C S2 y f x) fun S3 => .nx ρ S3
  | .iset o i e, ρ, S => (evE C e ρ S).fl ρ fun x S1 => (evE C o ρ S1).fl ρ fun y S2 => (evE C i ρ S2).fl ρ fun z S3 => Fl.ofO (setIx S3 y z x) fun S4 => .nx ρ S4
  | .aug i p e, ρ, S => (evE C (.var i) ρ S).fl ρ fun x S1 => (evE C e ρ S1).fl ρ fun y S2 => (R.o (op2 p false x y S2)).fl ρ fun z S3 => .nx (ρ.set i (some z)) S3
  | .augf o f p e, ρ, S => (evE C o ρ S).fl ρ fun x S1 => (getFd C x f S1).fl ρ fun y S2 => (evE C e ρ S2).fl ρ fun z S3 => (R.o (op2 p false y z S3)).fl ρ fun u S4 => Fl.ofO (setFd C S4 x f u) fun S5 => .nx ρ S5
  | .augi o i p e, ρ, S => (evE C o ρ S).fl ρ fun x S1 => (evE C i ρ S1).fl ρ fun k S2 => (R.o (getIx S2 x k)).fl ρ fun y S3 => (evE C e ρ S3).fl ρ fun z S4 => (R.o (op2 p false y z S4)).fl ρ fun u S5 => Fl.ofO (setIx S5 x k u) fun S6 => .nx ρ S6
  | .ex e, ρ, S => (evE C e ρ S).fl ρ fun _ S1 => .nx ρ S1
  | .ret e, ρ, S => (evE C e ρ S).fl ρ fun x S1 => .rt x S1
  | .ite t a b, ρ, S => (evE C t ρ S).tru.fl ρ fun k S1 => if k then evSs C a ρ S1 else evSs C b ρ S1
  | .loop t ik ie b, ρ, S => (evL C ie ρ S).fl ρ fun ds S1 => Fl.ofO (walk S1 ik ds) fun xs =>
      Fl.ul ik ds S1 (loopF (fun S' => ds.all (sameAt (lkS ik ds S1) S')) (fun x ρ2 S2 => Fl.ofO (bindT S2 t x ρ2) fun ρ3 => evSs C b ρ3 S2) xs ρ (lkS ik ds S1))
  | .whl t b, ρ, S => whileF (fun ρ1 S1 => (evE C t ρ1 S1).tru) (fun ρ1 S1 => evSs C b ρ1 S1) whileMax ρ S
  | .brk, ρ, S => .bk ρ S
  | .cnt, ρ, S => .ct ρ S
  | .skip, ρ, S => .nx ρ S
  | .rse c e, ρ, S => (evE C e ρ S).fl ρ fun x S1 => .ex c x ρ S1
  | .tri b i cs hs, ρ, S => match evSs C b ρ S with
    | .ex c v ρ1 S1 => evH C i cs hs c v ρ1 S1
    | f => f
def evSs (C : Ctx) : List PM.S → Env → St → Fl
  | [], ρ, S => .nx ρ S
  | s :: r, ρ, S => match evS C s ρ S with
    | .nx ρ1 S1 => evSs C r ρ1 S1
    | f => f
def evH (C : Ctx) (i : Nat) : List (List String) → List (List PM.S) → String → D → Env → St → Fl
  | k :: cs, h :: hs, c, v, ρ, S => if k.contains c then (if noX ρ then Fl.off i (evSs C h (ρ.set i (some (.exn c v))) S) else .bad) else evH C i cs hs c v ρ S
  | [], [], c, v, ρ, S => .ex c v ρ S
  | _, _, _, _, _, _ => .bad
end

/-- a def: its parameters, how many may be given by place, defaults, its names' number, whether new places stand behind it -/
structure Fn where
  ps : List String
  npos : Nat
  dfl : List (String × D)
  slots : Nat
  keep : Bool
  body : List PM.S
def bindR (dfl kws : List (String × D)) : List String → Option (List D)
  | [] => some []
  | p :: r => match (match kws.lookup p with | some d => some d | none => dfl.lookup p), bindR dfl kws r with
    | some d, some t => some (d :: t)
    | _, _ => none
def bindA (fn : Fn) (pos : List D) (kws : List (String × D)) : Option (List D) := if pos.length ≤ fn.npos then (bindR fn.dfl kws (fn.ps.drop pos.length)).map (pos ++ ·) else none
structure Prog where
  fn : String → Option Fn
  glb : String → Option D
  xat : String → Option String
  prop : String → String → Bool
  rep : D → Txt
  isF : String → String → Bool
def Prog.ctxOf (P : Prog) (call : String → List D → List (String × D) → St → R D) : Ctx := ⟨call, P.glb, P.xat, P.prop, P.rep, P.isF, fun f => (P.fn f).isSome⟩
def leave (fn : Fn) (S S' : St) (d : D) : R D := if fn.keep then .ok d S' else cutAt S S' d
def ran (fn : Fn) (S : St) (f : Fl) : R D := match f with
  | .rt d S' => leave fn S S' d
  | .nx _ S' => leave fn S S' .non
  | .ex c v _ S' => (leave fn S S' v).bind fun u S'' => .ex c u S''
  | _ => .bad
def start (fn : Fn) (ds : List D) : Env := ds.map some ++ List.replicate (fn.slots - ds.length) none
def callF (P : Prog) : Nat → String → List D → List (String × D) → St → R D
  | 0, _, _, _, _ => .bad
  | d + 1, f, pos, kws, S => match P.fn f with
    | none => .bad
    | some fn => match bindA fn pos kws with
      | none => .bad
      | some ds => ran fn S (evSs (P.ctxOf (callF P d)) fn.body (start fn ds) S)
def Prog.ctx (P : Prog) (d : Nat) : Ctx := P.ctxOf (callF P d)
end PM
set_option Elab.async false
set_option linter.all false
set_option autoImplicit false
/-! PMRel: how the pure machine's values and store lie in the hand layer's heap. -/
namespace PM
open PySem L2

def tS (x : Txt) : Str := ⟨x.toArray⟩
def kQ : Key → L2.Key
  | .inl i => .inl i
  | .inr x => .inr (tS x)
theorem tS_inj {x y : Txt} (h : tS x = tS y) : x = y := by
  have : x.toArray = y.toArray := congrArg Str.cps h
  simpa using this
theorem kQ_inj {a b : Key} (h : kQ a = kQ b) : a = b := by
  cases a <;> cases b <;> simp [kQ] at h
  · rw [h]
  · rw [tS_inj h]
theorem kV_kQ (k : Key) : kV (kQ k) = (match k with | .inl i => V.int i | .inr x => V.str (tS x)) := by cases k <;> rfl

/-- a key's text is no longer than a line -/
def kSm : Key → Prop
  | .inl _ => True
  | .inr x => x.length ≤ sizeLine
/-- the fixed part: own classes by name -/
structure Wd where
  K : PySem.W.Frag
  cl : String → Option Addr
  /-- the errors' classes: the class's address, its attribute -/
  xc : String → Option (Addr × Str)

/-- a tuple of the module's own -/
def KTup (K : PySem.W.Frag) (a : Addr) (vs : List V) : Prop :=
  ∃ (o : Obj) (its : Array Value) (n : Nat), K.lookup a = some o ∧ o.cls = .type "tuple" ∧ o.data = .seq its n ∧ its.size ≤ sizeLine ∧ Vals vs its.toList

/-- a dict that may be changed, or one that is walked -/
def DkAt (H : Hp) (a : Addr) (lk : Bool) (ws : List (L2.Key × V)) : Prop := match lk with
  | false => H a = some (.dK ws)
  | true => ∃ o, H a = some (.frz o (.dK ws))
theorem DkAt.rd {H : Hp} {a : Addr} {lk : Bool} {ws : List (L2.Key × V)} (h : DkAt H a lk ws) : Rd H a (.dK ws) := by
  cases lk with
  | false => exact .inl h
  | true => exact .inr h
theorem DkAt.stay {H H' : Hp} {a : Addr} {lk : Bool} {ws : List (L2.Key × V)} (h : DkAt H a lk ws) (hs : ∀ o, H a = some o → H' a = some o) : DkAt H' a lk ws := by
  cases lk with
  | false => exact hs _ h
  | true => obtain ⟨o, q⟩ := h; exact ⟨o, hs _ q⟩
theorem DkAt.some_ {H : Hp} {a : Addr} {lk : Bool} {ws : List (L2.Key × V)} (h : DkAt H a lk ws) : ∃ o, H a = some o := by
  cases lk with
  | false => exact ⟨_, h⟩
  | true => obtain ⟨o, q⟩ := h; exact ⟨_, q⟩
theorem rdStay {H H' : Hp} {a : Addr} {u : HO} (h : Rd H a u) (hs : ∀ o, H a = some o → H' a = some o) : Rd H' a u := h.imp (fun z => hs _ z) fun ⟨o, z⟩ => ⟨o, hs _ z⟩

section
variable (W : Wd) (F : Addr → Prop) (μ : List Addr) (H : Hp)
mutual
/-- d lies at v: F the addresses whose things stay, μ the places' addresses -/
inductive Rep : D → V → Prop
  | non : Rep .non .non
  | bl (b : Bool) : Rep (.bl b) (.bl b)
  | int (i : Int) : Rep (.int i) (.int i)
  | str (x : Txt) : x.length ≤ sizeLine → Rep (.str x) (.str (tS x))
  | tup {xs : List D} {a : Addr} {vs : List V} : (F a ∧ H a = some (.tup vs)) ∨ KTup W.K a vs → RepL xs vs → Rep (.tup xs) (.ref a)
  | lst {xs : List D} {a : Addr} {vs : List V} : F a → Rd H a (.lst vs) → RepL xs vs → Rep (.lst xs) (.ref a)
  | dct {kvs : List (Key × D)} {a : Addr} {ws : List (L2.Key × V)} : F a → Rd H a (.dK ws) → RepK kvs ws → Rep (.dct kvs) (.ref a)
  | ins {c : String} {fs : List (String × D)} {a C dx : Addr} {ws : List (Str × V)} : W.cl c = some C → F a → H a = some (.ins C dx ws) → RepF fs ws → Rep (.ins c fs) (.ref a)
  | err {c : String} {x : D} {a Ca dx : Addr} {f : Str} {y : V} : W.xc c = some (Ca, f) → F a → F dx → H a = some (exo a Ca (some dx)) → H dx = some (exd dx [(f, y)]) → Rep x y → Rep (.err c x) (.ref a)
  | loc {n : Nat} {a : Addr} : μ[n]? = some a → Rep (.loc n) (.ref a)
inductive RepL : List D → List V → Prop
  | nil : RepL [] []
  | cons {x : D} {v : V} {xs : List D} {vs : List V} : Rep x v → RepL xs vs → RepL (x :: xs) (v :: vs)
inductive RepK : List (Key × D) → List (L2.Key × V) → Prop
  | nil : RepK [] []
  | cons {k : Key} {x : D} {v : V} {xs : List (Key × D)} {vs : List (L2.Key × V)} : kSm k → Rep x v → RepK xs vs → RepK ((k, x) :: xs) ((kQ k, v) :: vs)
inductive RepF : List (String × D) → List (Str × V) → Prop
  | nil : RepF [] []
  | cons {f : String} {x : D} {v : V} {xs : List (String × D)} {vs : List (Str × V)} : Rep x v → RepF xs vs → RepF ((f, x) :: xs) ((Str.ofString f, v) :: vs)
end
/-- a cell -/
inductive CellR : Addr → Cell → Prop
  | lst {a : Addr} {xs : List D} {vs : List V} : H a = some (.lst vs) → RepL W F μ H xs vs → CellR a (.lst xs)
  | dct {a : Addr} {lk : Bool} {kvs : List (Key × D)} {ws : List (L2.Key × V)} : DkAt H a lk ws → RepK W F μ H kvs ws → CellR a (.dct lk kvs)
  | ins {a C dx : Addr} {c : String} {fs : List (String × D)} {ws : List (Str × V)} : W.cl c = some C → H a = some (.ins C dx ws) → RepF W F μ H fs ws → CellR a (.ins c fs)
theorem nfz {H : Hp} {a : Addr} {x : HO} (h : H a = some x) (hx : ∀ o u, x ≠ .frz o u) : ∀ o u, H a ≠ some (.frz o u) := fun o u z => by
  rw [h] at z; cases z; exact hx _ _ rfl
/-- the store lies in H -/
structure Rl (S : St) : Prop where
  len : μ.length = S.length
  nd : μ.Nodup
  fz : ∀ a, F a → H a ≠ none
  off : ∀ a ∈ μ, ¬ F a
  cell : ∀ (i : Nat) (a : Addr) (c : Cell), μ[i]? = some a → S[i]? = some c → CellR W F μ H a c
end
/-- from (F, μ, H) on: what stays -/
structure Ext (F : Addr → Prop) (μ : List Addr) (H : Hp) (F' : Addr → Prop) (μ' : List Addr) (H' : Hp) : Prop where
  sub : ∀ a, F a → F' a
  new : ∀ a, F' a → F a ∨ H a = none
  pre : μ <+: μ'
  newM : ∀ a ∈ μ', a ∈ μ ∨ H a = none
  stay : ∀ a o, H a = some o → a ∉ μ → H' a = some o
  there : ∀ a, H a ≠ none → H' a ≠ none
  frzs : ∀ a o u, H a = some (.frz o u) → H' a = some (.frz o u)

section
variable {W : Wd} {F F' F'' : Addr → Prop} {μ μ' μ'' : List Addr} {H H' H'' : Hp}
theorem Ext.refl : Ext F μ H F μ H := ⟨fun _ h => h, fun _ h => .inl h, List.prefix_refl _, fun _ h => .inl h, fun _ _ h _ => h, fun _ h => h, fun _ _ _ h => h⟩
theorem Ext.trans (a : Ext F μ H F' μ' H') (b : Ext F' μ' H' F'' μ'' H'') : Ext F μ H F'' μ'' H'' where
  sub := fun c h => b.sub c (a.sub c h)
  new := fun c h => by
    rcases b.new c h with h | h
    · exact a.new c h
    · refine .inr ?_
      cases q : H c with
      | none => rfl
      | some o => exact absurd h (a.there c (by rw [q]; simp))
  pre := a.pre.trans b.pre
  newM := fun c h => by
    rcases b.newM c h with h | h
    · exact a.newM c h
    · refine .inr ?_
      cases q : H c with
      | none => rfl
      | some o => exact absurd h (a.there c (by rw [q]; simp))
  stay := fun c o h n => b.stay c o (a.stay c o h n) fun hm => by
    rcases a.newM c hm with z | z
    · exact n z
    · rw [h] at z; cases z
  there := fun c h => b.there c (a.there c h)
  frzs := fun c o u h => b.frzs c o u (a.frzs c o u h)
theorem pre_get {α : Type} {l l' : List α} (h : l <+: l') {i : Nat} {a : α} (e : l[i]? = some a) : l'[i]? = some a := by
  obtain ⟨t, rfl⟩ := h
  have hi : i < l.length := (List.getElem?_eq_some_iff.mp e).1
  rw [List.getElem?_append_left hi]; exact e
mutual
theorem Rep.ext (hF : ∀ a, F a → H a ≠ none) (hO : ∀ a ∈ μ, ¬ F a) (e : Ext F μ H F' μ' H') : ∀ {d : D} {v : V}, Rep W F μ H d v → Rep W F' μ' H' d v
  | _, _, .non => .non
  | _, _, .bl b => .bl b
  | _, _, .int i => .int i
  | _, _, .str x h => .str x h
  | _, _, .tup h r => .tup (h.imp (fun ⟨f, q⟩ => ⟨e.sub _ f, e.stay _ _ q fun m => hO _ m f⟩) id) (RepL.ext hF hO e r)
  | _, _, .lst f q r => .lst (e.sub _ f) (q.imp (fun z => e.stay _ _ z fun m => hO _ m f) fun ⟨o, z⟩ => ⟨o, e.stay _ _ z fun m => hO _ m f⟩) (RepL.ext hF hO e r)
  | _, _, .dct f q r => .dct (e.sub _ f) (rdStay q fun _ z => e.stay _ _ z fun m => hO _ m f) (RepK.ext hF hO e r)
  | _, _, .ins c f q r => .ins c (e.sub _ f) (e.stay _ _ q fun m => hO _ m f) (RepF.ext hF hO e r)
  | _, _, .err c f g q z r => .err c (e.sub _ f) (e.sub _ g) (e.stay _ _ q fun m => hO _ m f) (e.stay _ _ z fun m => hO _ m g) (Rep.ext hF hO e r)
  | _, _, .loc h => .loc (pre_get e.pre h)
theorem RepL.ext (hF : ∀ a, F a → H a ≠ none) (hO : ∀ a ∈ μ, ¬ F a) (e : Ext F μ H F' μ' H') : ∀ {d : List D} {v : List V}, RepL W F μ H d v → RepL W F' μ' H' d v
  | _, _, .nil => .nil
  | _, _, .cons a b => .cons (Rep.ext hF hO e a) (RepL.ext hF hO e b)
theorem RepK.ext (hF : ∀ a, F a → H a ≠ none) (hO : ∀ a ∈ μ, ¬ F a) (e : Ext F μ H F' μ' H') : ∀ {d : List (Key × D)} {v : List (L2.Key × V)}, RepK W F μ H d v → RepK W F' μ' H' d v
  | _, _, .nil => .nil
  | _, _, .cons c a b => .cons c (Rep.ext hF hO e a) (RepK.ext hF hO e b)
theorem RepF.ext (hF : ∀ a, F a → H a ≠ none) (hO : ∀ a ∈ μ, ¬ F a) (e : Ext F μ H F' μ' H') : ∀ {d : List (String × D)} {v : List (Str × V)}, RepF W F μ H d v → RepF W F' μ' H' d v
  | _, _, .nil => .nil
  | _, _, .cons a b => .cons (Rep.ext hF hO e a) (RepF.ext hF hO e b)
end
theorem Rl.ext {S : St} (R : Rl W F μ H S) (e : Ext F μ H F' μ' H') {d : D} {v : V} (h : Rep W F μ H d v) : Rep W F' μ' H' d v := h.ext R.fz R.off e
theorem Rl.extL {S : St} (R : Rl W F μ H S) (e : Ext F μ H F' μ' H') {d : List D} {v : List V} (h : RepL W F μ H d v) : RepL W F' μ' H' d v := h.ext R.fz R.off e
theorem RepL.length : ∀ {d : List D} {v : List V}, RepL W F μ H d v → d.length = v.length
  | _, _, .nil => rfl
  | _, _, .cons _ b => congrArg Nat.succ (RepL.length b)
theorem RepL.get : ∀ {d : List D} {v : List V} {i : Nat} {x : D}, RepL W F μ H d v → d[i]? = some x → ∃ y, v[i]? = some y ∧ Rep W F μ H x y
  | _, _, i, _, .nil, e => by simp at e
  | _, _, 0, _, .cons a _, e => by simp at e; subst e; exact ⟨_, rfl, a⟩
  | _, _, i + 1, _, .cons _ b, e => by
    obtain ⟨y, h1, h2⟩ := RepL.get (i := i) b (by simpa using e)
    exact ⟨y, by simpa using h1, h2⟩
theorem RepL.append : ∀ {d e : List D} {v u : List V}, RepL W F μ H d v → RepL W F μ H e u → RepL W F μ H (d ++ e) (v ++ u)
  | _, _, _, _, .nil, r => r
  | _, _, _, _, .cons a b, r => .cons a (RepL.append b r)
theorem RepL.take : ∀ {d : List D} {v : List V} (n : Nat), RepL W F μ H d v → RepL W F μ H (d.take n) (v.take n)
  | _, _, 0, _ => .nil
  | _, _, _ + 1, .nil => .nil
  | _, _, n + 1, .cons a b => .cons a (RepL.take n b)
theorem RepL.drop : ∀ {d : List D} {v : List V} (n : Nat), RepL W F μ H d v → RepL W F μ H (d.drop n) (v.drop n)
  | _, _, 0, r => r
  | _, _, _ + 1, .nil => .nil
  | _, _, n + 1, .cons _ b => RepL.drop n b
theorem RepL.set : ∀ {d : List D} {v : List V} (i : Nat) {x : D} {y : V}, RepL W F μ H d v → Rep W F μ H x y → RepL W F μ H (d.set i x) (v.set i y)
  | _, _, _, _, _, .nil, _ => .nil
  | _, _, 0, _, _, .cons _ b, r => .cons r b
  | _, _, i + 1, _, _, .cons a b, r => .cons a (RepL.set i b r)
theorem RepL.reverse : ∀ {d : List D} {v : List V}, RepL W F μ H d v → RepL W F μ H d.reverse v.reverse
  | _, _, .nil => .nil
  | _, _, .cons a b => by rw [List.reverse_cons, List.reverse_cons]; exact (RepL.reverse b).append (.cons a .nil)

theorem CellR.has {a : Addr} {c : Cell} (h : CellR W F μ H a c) : ∃ o, H a = some o := by
  cases h with
  | lst q _ => exact ⟨_, q⟩
  | dct q _ => exact q.some_
  | ins _ q _ => exact ⟨_, q⟩
theorem CellR.ext (hF : ∀ a, F a → H a ≠ none) (hO : ∀ a ∈ μ, ¬ F a) (e : Ext F μ H F' μ' H') {a : Addr} {c : Cell} (hs : ∀ o, H a = some o → H' a = some o) (h : CellR W F μ H a c) : CellR W F' μ' H' a c := by
  cases h with
  | lst q r => exact .lst (hs _ q) (r.ext hF hO e)
  | dct q r => exact .dct (q.stay hs) (r.ext hF hO e)
  | ins c q r => exact .ins c (hs _ q) (r.ext hF hO e)
theorem Rl.mem {S : St} (R : Rl W F μ H S) {a : Addr} (ha : a ∈ μ) : ∃ (i : Nat) (c : Cell), μ[i]? = some a ∧ S[i]? = some c ∧ CellR W F μ H a c := by
  obtain ⟨i, hi, e⟩ := List.getElem_of_mem ha
  have h1 : μ[i]? = some a := by rw [List.getElem?_eq_getElem hi, e]
  have h2 : i < S.length := by rw [← R.len]; exact hi
  exact ⟨i, S[i], h1, List.getElem?_eq_getElem h2, R.cell i a _ h1 (List.getElem?_eq_getElem h2)⟩
theorem Rl.place {S : St} (R : Rl W F μ H S) {i : Nat} {c : Cell} (h : S[i]? = some c) : ∃ a, μ[i]? = some a ∧ CellR W F μ H a c := by
  have h2 : i < μ.length := by rw [R.len]; exact (List.getElem?_eq_some_iff.mp h).1
  exact ⟨μ[i], List.getElem?_eq_getElem h2, R.cell i _ c (List.getElem?_eq_getElem h2) h⟩
/-- a place's own address -/
theorem Rl.at_ {S : St} (R : Rl W F μ H S) {i : Nat} {a : Addr} {c : Cell} (h1 : μ[i]? = some a) (h : S[i]? = some c) : CellR W F μ H a c := R.cell i a c h1 h

/-- a new thing that stays -/
theorem Ext.laid {S : St} (R : Rl W F μ H S) {p : Addr} {o : HO} (hp : H p = none) : Ext F μ H (fun a => F a ∨ a = p) μ (upd H p o) where
  sub := fun a h => .inl h
  new := fun a h => h.imp id fun e => by rw [e]; exact hp
  pre := List.prefix_refl _
  newM := fun a h => .inl h
  stay := fun a u h n => by rw [upd_ne (ne_of_none h hp)]; exact h
  there := fun a h => by
    cases q : H a with
    | none => exact absurd q h
    | some u => rw [upd_ne (ne_of_none q hp), q]; simp
  frzs := fun a o u h => by rw [upd_ne (ne_of_none h hp)]; exact h
theorem Rl.laid {S : St} (R : Rl W F μ H S) {p : Addr} {o : HO} (hp : H p = none) : Rl W (fun a => F a ∨ a = p) μ (upd H p o) S := by
  have E := Ext.laid (o := o) R hp
  have hm : ∀ a ∈ μ, a ≠ p := fun a ha e => by
    obtain ⟨_, _, _, _, c⟩ := R.mem ha
    obtain ⟨o, q⟩ := c.has
    rw [e, hp] at q; cases q
  refine ⟨R.len, R.nd, fun a h => ?_, fun a ha h => ?_, fun i a c h1 h2 => ?_⟩
  · rcases h with h | h
    · exact E.there a (R.fz a h)
    · rw [h, upd_same]; simp
  · rcases h with h | h
    · exact R.off a ha h
    · exact hm a ha h
  · have q : a ≠ p := hm a (List.mem_of_getElem? h1)
    exact (R.cell i a c h1 h2).ext R.fz R.off E fun o h => by rw [upd_ne q]; exact h

/-- a new place -/
theorem Ext.alloc {S : St} (R : Rl W F μ H S) {p : Addr} {o : HO} (hp : H p = none) : Ext F μ H F (μ ++ [p]) (upd H p o) where
  sub := fun a h => h
  new := fun a h => .inl h
  pre := List.prefix_append _ _
  newM := fun a h => by
    rcases List.mem_append.mp h with h | h
    · exact .inl h
    · refine .inr ?_
      rw [List.mem_singleton.mp h]; exact hp
  stay := fun a u h n => by rw [upd_ne (ne_of_none h hp)]; exact h
  there := fun a h => by
    cases q : H a with
    | none => exact absurd q h
    | some u => rw [upd_ne (ne_of_none q hp), q]; simp
  frzs := fun a o u h => by rw [upd_ne (ne_of_none h hp)]; exact h
theorem Rl.alloc {S : St} (R : Rl W F μ H S) {p : Addr} {o : HO} {c : Cell} (hp : H p = none) (hc : CellR W F (μ ++ [p]) (upd H p o) p c) : Rl W F (μ ++ [p]) (upd H p o) (S ++ [c]) := by
  have E := Ext.alloc (o := o) R hp
  have hm : ∀ a ∈ μ, a ≠ p := fun a ha e => by
    obtain ⟨_, _, _, _, c⟩ := R.mem ha
    obtain ⟨o, q⟩ := c.has
    rw [e, hp] at q; cases q
  refine ⟨by simp [R.len], ?_, fun a h => E.there a (R.fz a h), fun a ha h => ?_, fun i a c' h1 h2 => ?_⟩
  · refine List.nodup_append.mpr ⟨R.nd, by simp, fun a ha b hb => ?_⟩
    rw [List.mem_singleton.mp hb]
    exact hm a ha
  · rcases List.mem_append.mp ha with ha | ha
    · exact R.off a ha h
    · rw [List.mem_singleton.mp ha] at h
      exact R.fz p h hp
  · by_cases hi : i < μ.length
    · rw [List.getElem?_append_left hi] at h1
      rw [List.getElem?_append_left (by rw [← R.len]; exact hi)] at h2
      have q : a ≠ p := hm a (List.mem_of_getElem? h1)
      exact (R.cell i a c' h1 h2).ext R.fz R.off E fun o h => by rw [upd_ne q]; exact h
    · have hi' : i = μ.length := by
        have := (List.getElem?_eq_some_iff.mp h1).1
        simp at this; omega
      subst hi'
      rw [List.getElem?_append_right (Nat.le_refl _)] at h1
      rw [List.getElem?_append_right (by rw [R.len]; exact Nat.le_refl _)] at h2
      simp at h1
      rw [R.len] at h2
      simp at h2
      subst h1; subst h2
      exact hc

/-- a place is written -/
theorem Ext.write {S : St} (R : Rl W F μ H S) {a : Addr} {o : HO} (ha : a ∈ μ) (hz : ∀ o u, H a ≠ some (.frz o u)) : Ext F μ H F μ (upd H a o) where
  sub := fun a h => h
  new := fun a h => .inl h
  pre := List.prefix_refl _
  newM := fun a h => .inl h
  stay := fun b u h n => by rw [upd_ne fun e => n (by rw [e]; exact ha)]; exact h
  there := fun b h => by
    by_cases e : b = a
    · rw [e, upd_same]; simp
    · rw [upd_ne e]; exact h
  frzs := fun b o u h => by rw [upd_ne fun e => hz o u (by rw [← e]; exact h)]; exact h
theorem Rl.write {S : St} (R : Rl W F μ H S) {n : Nat} {a : Addr} {o : HO} {c : Cell} (ha : μ[n]? = some a) (hz : ∀ o u, H a ≠ some (.frz o u)) (hc : CellR W F μ (upd H a o) a c) : Rl W F μ (upd H a o) (S.set n c) := by
  have E := Ext.write (o := o) R (List.mem_of_getElem? ha) hz
  refine ⟨by simp [R.len], R.nd, fun b h => E.there b (R.fz b h), R.off, fun i b c' h1 h2 => ?_⟩
  by_cases hi : i = n
  · subst hi
    rw [ha] at h1; cases h1
    have hlt : i < S.length := by rw [← R.len]; exact (List.getElem?_eq_some_iff.mp ha).1
    rw [List.getElem?_set_self hlt] at h2
    cases h2
    exact hc
  · rw [List.getElem?_set_ne (Ne.symm hi)] at h2
    have q : b ≠ a := fun e => hi (by
      have e1 := (List.getElem?_eq_some_iff.mp h1)
      have e2 := (List.getElem?_eq_some_iff.mp ha)
      obtain ⟨l1, q1⟩ := e1
      obtain ⟨l2, q2⟩ := e2
      exact (List.getElem_inj R.nd).mp (q1.trans (e.trans q2.symm)))
    exact (R.cell i b c' h1 h2).ext R.fz R.off E fun o h => by rw [upd_ne q]; exact h
end
end PM
set_option Elab.async false
set_option linter.all false
set_option autoImplicit false
/-! PMCut: what leaves a def: the store cut back, what is handed out a value. -/
namespace PM
open PySem L2
mutual
theorem D.beq_eq : ∀ (a b : D), D.beq a b = true → a = b
  | .non, b, h => by cases b <;> simp [D.beq] at h ⊢
  | .bl _, b, h => by cases b <;> simp [D.beq] at h ⊢; exact h
  | .int _, b, h => by cases b <;> simp [D.beq] at h ⊢; exact h
  | .str _, b, h => by cases b <;> simp [D.beq] at h ⊢; exact h
  | .tup a, b, h => by cases b <;> simp [D.beq] at h ⊢; exact D.beqL_eq _ _ h
  | .lst a, b, h => by cases b <;> simp [D.beq] at h ⊢; exact D.beqL_eq _ _ h
  | .dct a, b, h => by cases b <;> simp [D.beq] at h ⊢; exact D.beqK_eq _ _ h
  | .ins c a, b, h => by cases b <;> simp [D.beq] at h ⊢; exact ⟨h.1, D.beqF_eq _ _ h.2⟩
  | .exn c a, b, h => by cases b <;> simp [D.beq] at h ⊢; exact ⟨h.1, D.beq_eq _ _ h.2⟩
  | .err c a, b, h => by cases b <;> simp [D.beq] at h ⊢; exact ⟨h.1, D.beq_eq _ _ h.2⟩
  | .loc _, b, h => by cases b <;> simp [D.beq] at h ⊢; exact h
theorem D.beqL_eq : ∀ (a b : List D), D.beqL a b = true → a = b
  | [], b, h => by cases b <;> simp [D.beqL] at h ⊢
  | x :: r, b, h => by
    cases b with
    | nil => simp [D.beqL] at h
    | cons y t =>
      simp [D.beqL] at h
      rw [D.beq_eq _ _ h.1, D.beqL_eq _ _ h.2]
theorem D.beqK_eq : ∀ (a b : List (Key × D)), D.beqK a b = true → a = b
  | [], b, h => by cases b <;> simp [D.beqK] at h ⊢
  | (k, x) :: r, b, h => by
    cases b with
    | nil => simp [D.beqK] at h
    | cons y t =>
      obtain ⟨l, y⟩ := y
      simp [D.beqK] at h
      rw [h.1.1, D.beq_eq _ _ h.1.2, D.beqK_eq _ _ h.2]
theorem D.beqF_eq : ∀ (a b : List (String × D)), D.beqF a b = true → a = b
  | [], b, h => by cases b <;> simp [D.beqF] at h ⊢
  | (k, x) :: r, b, h => by
    cases b with
    | nil => simp [D.beqF] at h
    | cons y t =>
      obtain ⟨l, y⟩ := y
      simp [D.beqF] at h
      rw [h.1.1, D.beq_eq _ _ h.1.2, D.beqF_eq _ _ h.2]
end
mutual
theorem D.beq_refl : ∀ (a : D), D.beq a a = true
  | .non => by simp [D.beq]
  | .bl _ => by simp [D.beq]
  | .int _ => by simp [D.beq]
  | .str _ => by simp [D.beq]
  | .tup a => by simp [D.beq]; exact D.beqL_refl a
  | .lst a => by simp [D.beq]; exact D.beqL_refl a
  | .dct a => by simp [D.beq]; exact D.beqK_refl a
  | .ins c a => by simp [D.beq]; exact D.beqF_refl a
  | .exn c a => by simp [D.beq]; exact D.beq_refl a
  | .err c a => by simp [D.beq]; exact D.beq_refl a
  | .loc _ => by simp [D.beq]
theorem D.beqL_refl : ∀ (a : List D), D.beqL a a = true
  | [] => by simp [D.beqL]
  | x :: r => by simp [D.beqL]; exact ⟨D.beq_refl x, D.beqL_refl r⟩
theorem D.beqK_refl : ∀ (a : List (Key × D)), D.beqK a a = true
  | [] => by simp [D.beqK]
  | (k, x) :: r => by simp [D.beqK]; exact ⟨D.beq_refl x, D.beqK_refl r⟩
theorem D.beqF_refl : ∀ (a : List (String × D)), D.beqF a a = true
  | [] => by simp [D.beqF]
  | (k, x) :: r => by simp [D.beqF]; exact ⟨D.beq_refl x, D.beqF_refl r⟩
end
theorem Cell.beq_eq {a b : Cell} (h : Cell.beq a b = true) : a = b := by
  cases a <;> cases b <;> simp [Cell.beq] at h ⊢
  · exact D.beqL_eq _ _ h
  · exact ⟨h.1, D.beqK_eq _ _ h.2⟩
  · exact ⟨h.1, D.beqF_eq _ _ h.2⟩
theorem Cell.beq_refl (a : Cell) : Cell.beq a a = true := by
  cases a <;> simp [Cell.beq]
  · exact D.beqL_refl _
  · exact D.beqK_refl _
  · exact D.beqF_refl _

section
variable {W : Wd} {F F' : Addr → Prop} {μ μ' : List Addr} {H H' : Hp}
mutual
theorem Rep.lo : ∀ {d : D} {v : V}, Rep W F μ H d v → d.lo μ.length = true
  | _, _, .non => rfl
  | _, _, .bl b => rfl
  | _, _, .int i => rfl
  | _, _, .str x _ => rfl
  | _, _, .tup h r => by simp [D.lo]; exact RepL.lo r
  | _, _, .lst f q r => by simp [D.lo]; exact RepL.lo r
  | _, _, .dct f q r => by simp [D.lo]; exact RepK.lo r
  | _, _, .ins c f q r => by simp [D.lo]; exact RepF.lo r
  | _, _, .err c f g q z r => by simp [D.lo]; exact Rep.lo r
  | _, _, .loc h => by simp [D.lo]; exact (List.getElem?_eq_some_iff.mp h).1
theorem RepL.lo : ∀ {d : List D} {v : List V}, RepL W F μ H d v → D.loL μ.length d = true
  | _, _, .nil => rfl
  | _, _, .cons a b => by simp [D.loL]; exact ⟨Rep.lo a, RepL.lo b⟩
theorem RepK.lo : ∀ {d : List (Key × D)} {v : List (L2.Key × V)}, RepK W F μ H d v → D.loK μ.length d = true
  | _, _, .nil => rfl
  | _, _, .cons _ a b => by simp [D.loK]; exact ⟨Rep.lo a, RepK.lo b⟩
theorem RepF.lo : ∀ {d : List (String × D)} {v : List (Str × V)}, RepF W F μ H d v → D.loF μ.length d = true
  | _, _, .nil => rfl
  | _, _, .cons a b => by simp [D.loF]; exact ⟨Rep.lo a, RepF.lo b⟩
end
theorem CellR.lo {a : Addr} {c : Cell} (h : CellR W F μ H a c) : c.lo μ.length = true := by
  cases h with
  | lst q r => exact r.lo
  | dct q r => exact r.lo
  | ins c q r => exact r.lo
section
variable (hs : ∀ a, F a → F' a) {n : Nat} (hm : ∀ (i : Nat) (a : Addr), i < n → μ[i]? = some a → μ'[i]? = some a)
include hs hm
mutual
theorem Rep.low : ∀ {d : D} {v : V}, Rep W F μ H d v → d.lo n = true → Rep W F' μ' H d v
  | _, _, .non, _ => .non
  | _, _, .bl b, _ => .bl b
  | _, _, .int i, _ => .int i
  | _, _, .str x h, _ => .str x h
  | _, _, .tup h r, l => .tup (h.imp (fun ⟨f, q⟩ => ⟨hs _ f, q⟩) id) (RepL.low r (by simpa [D.lo] using l))
  | _, _, .lst f q r, l => .lst (hs _ f) q (RepL.low r (by simpa [D.lo] using l))
  | _, _, .dct f q r, l => .dct (hs _ f) q (RepK.low r (by simpa [D.lo] using l))
  | _, _, .ins c f q r, l => .ins c (hs _ f) q (RepF.low r (by simpa [D.lo] using l))
  | _, _, .err c f g q z r, l => .err c (hs _ f) (hs _ g) q z (Rep.low r (by simpa [D.lo] using l))
  | _, _, .loc h, l => .loc (hm _ _ (by simpa [D.lo] using l) h)
theorem RepL.low : ∀ {d : List D} {v : List V}, RepL W F μ H d v → D.loL n d = true → RepL W F' μ' H d v
  | _, _, .nil, _ => .nil
  | _, _, .cons a b, l => by
    simp [D.loL] at l
    exact .cons (Rep.low a l.1) (RepL.low b l.2)
theorem RepK.low : ∀ {d : List (Key × D)} {v : List (L2.Key × V)}, RepK W F μ H d v → D.loK n d = true → RepK W F' μ' H d v
  | _, _, .nil, _ => .nil
  | _, _, .cons c a b, l => by
    simp [D.loK] at l
    exact .cons c (Rep.low a l.1) (RepK.low b l.2)
theorem RepF.low : ∀ {d : List (String × D)} {v : List (Str × V)}, RepF W F μ H d v → D.loF n d = true → RepF W F' μ' H d v
  | _, _, .nil, _ => .nil
  | _, _, .cons a b, l => by
    simp [D.loF] at l
    exact .cons (Rep.low a l.1) (RepF.low b l.2)
end
theorem CellR.low {a : Addr} {c : Cell} (h : CellR W F μ H a c) (l : c.lo n = true) : CellR W F' μ' H a c := by
  cases h with
  | lst q r => exact .lst q (r.low hs hm l)
  | dct q r => exact .dct q (r.low hs hm l)
  | ins c q r => exact .ins c q (r.low hs hm l)
end
theorem mapO_rep {f : D → Option D} (hf : ∀ (x y : D) (v : V), f x = some y → Rep W F μ H x v → Rep W F' μ' H' y v) :
    ∀ {xs ys : List D} {vs : List V}, mapO f xs = some ys → RepL W F μ H xs vs → RepL W F' μ' H' ys vs
  | [], ys, vs, e, r => by
    simp [mapO] at e
    subst e
    cases r
    exact .nil
  | x :: t, ys, vs, e, r => by
    cases r with
    | cons a b =>
      unfold mapO at e
      split at e
      · rename_i y u h1 h2
        cases e
        exact .cons (hf _ _ _ h1 a) (mapO_rep hf h2 b)
      · cases e
theorem mapV_repK {f : D → Option D} (hf : ∀ (x y : D) (v : V), f x = some y → Rep W F μ H x v → Rep W F' μ' H' y v) :
    ∀ {xs ys : List (Key × D)} {vs : List (L2.Key × V)}, mapV f xs = some ys → RepK W F μ H xs vs → RepK W F' μ' H' ys vs
  | [], ys, vs, e, r => by
    simp [mapV] at e
    subst e
    cases r
    exact .nil
  | (k, x) :: t, ys, vs, e, r => by
    cases r with
    | cons c a b =>
      unfold mapV at e
      split at e
      · rename_i y u h1 h2
        cases e
        exact .cons c (hf _ _ _ h1 a) (mapV_repK hf h2 b)
      · cases e
theorem mapV_repF {f : D → Option D} (hf : ∀ (x y : D) (v : V), f x = some y → Rep W F μ H x v → Rep W F' μ' H' y v) :
    ∀ {xs ys : List (String × D)} {vs : List (Str × V)}, mapV f xs = some ys → RepF W F μ H xs vs → RepF W F' μ' H' ys vs
  | [], ys, vs, e, r => by
    simp [mapV] at e
    subst e
    cases r
    exact .nil
  | (k, x) :: t, ys, vs, e, r => by
    cases r with
    | cons a b =>
      unfold mapV at e
      split at e
      · rename_i y u h1 h2
        cases e
        exact .cons (hf _ _ _ h1 a) (mapV_repF hf h2 b)
      · cases e
/-- what is handed out, as a value -/
theorem frz_rep {S' : St} (R : Rl W F' μ' H S') {n : Nat} (hF : ∀ a, F' a → F a) (hN : ∀ (i : Nat) (a : Addr), n ≤ i → μ'[i]? = some a → F a)
    (hm : ∀ (i : Nat) (a : Addr), i < n → μ'[i]? = some a → μ[i]? = some a) : ∀ (k : Nat) (d e : D) (v : V), D.frz S' n k d = some e → Rep W F' μ' H d v → Rep W F μ H e v
  | 0, d, e, v, h, r => by
    unfold D.frz at h
    split at h
    · cases h
      exact r.low hF hm (by assumption)
    · cases h
  | k + 1, d, e, v, h, r => by
    have ih : ∀ (x y : D) (w : V), D.frz S' n k x = some y → Rep W F' μ' H x w → Rep W F μ H y w := fun x y w => frz_rep R hF hN hm k x y w
    unfold D.frz at h
    cases r with
    | non => cases h; exact .non
    | bl b => cases h; exact .bl b
    | int i => cases h; exact .int i
    | str x hx => cases h; exact .str x hx
    | tup z r =>
      obtain ⟨ys, h1, rfl⟩ := Option.map_eq_some_iff.mp h
      exact .tup (z.imp (fun ⟨f, q⟩ => ⟨hF _ f, q⟩) id) (mapO_rep ih h1 r)
    | lst f q r =>
      obtain ⟨ys, h1, rfl⟩ := Option.map_eq_some_iff.mp h
      exact .lst (hF _ f) q (mapO_rep ih h1 r)
    | dct f q r =>
      obtain ⟨ys, h1, rfl⟩ := Option.map_eq_some_iff.mp h
      exact .dct (hF _ f) q (mapV_repK ih h1 r)
    | ins c f q r =>
      obtain ⟨ys, h1, rfl⟩ := Option.map_eq_some_iff.mp h
      exact .ins c (hF _ f) q (mapV_repF ih h1 r)
    | err c f g q z r =>
      obtain ⟨y, h1, rfl⟩ := Option.map_eq_some_iff.mp h
      exact .err c (hF _ f) (hF _ g) q z (ih _ _ _ h1 r)
    | loc z =>
      rename_i i a
      by_cases hi : i < n
      · simp only [if_pos hi] at h
        cases h
        exact .loc (hm _ _ hi z)
      · simp only [if_neg hi] at h
        have Fa := hN i a (by omega) z
        have hlt : i < S'.length := by rw [← R.len]; exact (List.getElem?_eq_some_iff.mp z).1
        have c := R.cell i a _ z (List.getElem?_eq_getElem hlt)
        rw [List.getElem?_eq_getElem hlt] at h
        generalize S'[i] = cc at h c
        cases c with
        | lst q r =>
          obtain ⟨ys, h1, rfl⟩ := Option.map_eq_some_iff.mp h
          exact .lst Fa (.inl q) (mapO_rep ih h1 r)
        | dct q r =>
          obtain ⟨ys, h1, rfl⟩ := Option.map_eq_some_iff.mp h
          exact .dct Fa q.rd (mapV_repK ih h1 r)
        | ins c q r =>
          obtain ⟨ys, h1, rfl⟩ := Option.map_eq_some_iff.mp h
          exact .ins c Fa q (mapV_repF ih h1 r)
theorem cutOk_get {n : Nat} : ∀ {S S' : St}, cutOk n S S' = true → S.length ≤ S'.length ∧ ∀ (i : Nat) (c c' : Cell), S[i]? = some c → S'[i]? = some c' → c = c' ∨ c'.lo n = true
  | [], S', h => ⟨Nat.zero_le _, fun i c c' e => by simp at e⟩
  | a :: r, [], h => by simp [cutOk] at h
  | a :: r, b :: t, h => by
    simp [cutOk] at h
    obtain ⟨h1, h2⟩ := cutOk_get (S := r) (S' := t) h.2
    refine ⟨by simp; exact h1, fun i c c' e e' => ?_⟩
    cases i with
    | zero =>
      simp at e e'
      subst e; subst e'
      rcases h.1 with z | z
      · exact .inl (Cell.beq_eq z)
      · exact .inr z
    | succ i => exact h2 i c c' (by simpa using e) (by simpa using e')
/-- THE CUT -/
theorem cut_ok {S S' S'' : St} {d e : D} {v : V} (R : Rl W F μ H S) (E : Ext F μ H F' μ' H') (R' : Rl W F' μ' H' S') (r : Rep W F' μ' H' d v) (h : cutAt S S' d = .ok e S'') :
    ∃ F2 : Addr → Prop, Ext F μ H F2 μ H' ∧ Rl W F2 μ H' S'' ∧ Rep W F2 μ H' e v := by
  unfold cutAt at h
  split at h
  · rename_i hc
    split at h
    · rename_i e' hf
      cases h
      obtain ⟨hl, hg⟩ := cutOk_get hc
      have hpre : ∀ (i : Nat) (a : Addr), i < S.length → μ'[i]? = some a → μ[i]? = some a := fun i a hi z => by
        have hi' : i < μ.length := by rw [R.len]; exact hi
        have q := pre_get E.pre (List.getElem?_eq_getElem hi')
        rw [z] at q
        cases q
        exact List.getElem?_eq_getElem hi'
      have hnew : ∀ (i : Nat) (a : Addr), S.length ≤ i → μ'[i]? = some a → a ∉ μ := fun i a hi z hm => by
        obtain ⟨j, hj, e⟩ := List.getElem_of_mem hm
        have q := pre_get E.pre (show μ[j]? = some a by rw [List.getElem?_eq_getElem hj, e])
        obtain ⟨l1, q1⟩ := List.getElem?_eq_some_iff.mp z
        obtain ⟨l2, q2⟩ := List.getElem?_eq_some_iff.mp q
        have := (List.getElem_inj R'.nd).mp (q1.trans q2.symm)
        rw [R.len] at hj
        omega
      refine ⟨fun a => F' a ∨ (a ∈ μ' ∧ a ∉ μ), ⟨fun a h => .inl (E.sub a h), fun a h => ?_, List.prefix_refl _, fun a h => .inl h, E.stay, E.there, E.frzs⟩, ⟨?_, R.nd, fun a h => ?_, fun a ha h => ?_, fun i a c h1 h2 => ?_⟩, ?_⟩
      · rcases h with h | ⟨h, n⟩
        · exact E.new a h
        · rcases E.newM a h with z | z
          · exact absurd z n
          · exact .inr z
      · rw [List.length_take, Nat.min_eq_left hl, R.len]
      · rcases h with h | ⟨h, _⟩
        · exact R'.fz a h
        · obtain ⟨_, _, _, _, c⟩ := R'.mem h
          obtain ⟨o, q⟩ := c.has
          rw [q]; simp
      · have ha' : a ∈ μ' := E.pre.subset ha
        rcases h with h | ⟨_, n⟩
        · exact R'.off a ha' h
        · exact n ha
      · have hi : i < S.length := by rw [← R.len]; exact (List.getElem?_eq_some_iff.mp h1).1
        rw [List.getElem?_take_of_lt hi] at h2
        have h1' := pre_get E.pre h1
        have c' := R'.cell i a c h1' h2
        refine c'.low (n := S.length) (fun a h => .inl h) hpre ?_
        rcases hg i _ c (List.getElem?_eq_getElem hi) h2 with z | z
        · have q := (R.cell i a _ h1 (List.getElem?_eq_getElem hi)).lo
          rw [z, R.len] at q
          exact q
        · exact z
      · refine frz_rep R' (fun a h => .inl h) (fun i a hi z => .inr ⟨List.mem_of_getElem? z, hnew i a hi z⟩) hpre 40 d e v hf r
    · cases h
  · cases h
end
end PM
set_option Elab.async false
set_option linter.all false
set_option autoImplicit false
/-! PMRead: runs of the pure machine as readings of the hand layer. -/
namespace PM
open PySem L2

/-- the errors' classes: the class's address, its attribute -/
structure Wx extends Wd where
  /-- the error that an except suite holds -/
  cur : Option (Addr × Value × Option Addr)

/-- an error at (cls, d): of class c, with v -/
def XOk (W : Wx) (F : Addr → Prop) (μ : List Addr) (H : Hp) (c : String) (v : D) (cls : Value) (d : Option Addr) : Prop :=
  ∃ (C : Addr) (f : Str) (dd : Addr) (vv : V), W.xc c = some (C, f) ∧ cls = .ref C ∧ d = some dd ∧ dd ∉ μ ∧ H dd = some (.xd [(f, vv)]) ∧ Rep W.toWd F μ H v vv

/-- what a name holds: a value, or the error that was caught -/
def RepN (W : Wx) (F : Addr → Prop) (μ : List Addr) (H : Hp) (d : D) (v : V) : Prop :=
  Rep W.toWd F μ H d v ∨ ∃ (c : String) (x : D) (a : Addr) (cls : Value) (dd : Option Addr), d = .exn c x ∧ v = .ref a ∧ W.cur = some (a, cls, dd) ∧ XOk W F μ H c x cls dd
/-- the names' values -/
structure Ro (W : Wx) (F : Addr → Prop) (μ : List Addr) (H : Hp) (ρ : Env) (σ : L2.St) : Prop where
  len : ρ.length = σ.length
  at_ : ∀ (i : Nat) (d : D), ρ[i]? = some (some d) → ∃ v, σ[i]? = some (some v) ∧ RepN W F μ H d v
theorem XOk.ext {W : Wx} {F F' : Addr → Prop} {μ μ' : List Addr} {H H' : Hp} {S : St} {c : String} {v : D} {cls : Value} {d : Option Addr} (h : XOk W F μ H c v cls d) (R : Rl W.toWd F μ H S) (e : Ext F μ H F' μ' H') : XOk W F' μ' H' c v cls d := by
  obtain ⟨C, f, dd, vv, h1, h2, h3, h4, h5, h6⟩ := h
  refine ⟨C, f, dd, vv, h1, h2, h3, fun m => ?_, e.stay dd _ h5 h4, R.ext e h6⟩
  rcases e.newM dd m with h | h
  · exact h4 h
  · rw [h5] at h; cases h
theorem Rep.notX {W : Wd} {F : Addr → Prop} {μ : List Addr} {H : Hp} {d : D} {v : V} (h : Rep W F μ H d v) : d.isX = false := by
  cases h <;> rfl
theorem RepN.rep {W : Wx} {F : Addr → Prop} {μ : List Addr} {H : Hp} {d : D} {v : V} (h : RepN W F μ H d v) (hx : d.isX = false) : Rep W.toWd F μ H d v := by
  rcases h with h | ⟨c, x, _, _, _, rfl, _⟩
  · exact h
  · cases hx
theorem Ro.ext {W : Wx} {F F' : Addr → Prop} {μ μ' : List Addr} {H H' : Hp} {S : St} {ρ : Env} {σ : L2.St} (o : Ro W F μ H ρ σ) (R : Rl W.toWd F μ H S) (e : Ext F μ H F' μ' H') : Ro W F' μ' H' ρ σ :=
  ⟨o.len, fun i d h => let ⟨v, a, b⟩ := o.at_ i d h; ⟨v, a, b.elim (fun b => .inl (R.ext e b)) fun ⟨c, x, a, cls, dd, h1, h2, h3, h4⟩ => .inr ⟨c, x, a, cls, dd, h1, h2, h3, h4.ext R e⟩⟩⟩

abbrev Rel (α β : Type) := (Addr → Prop) → List Addr → Hp → α → β → Prop
/-- a relation that stays -/
def Stays (W : Wx) {α β : Type} (rel : Rel α β) : Prop := ∀ {F F' : Addr → Prop} {μ μ' : List Addr} {H H' : Hp} {S : St} {a : α} {b : β}, Rl W.toWd F μ H S → Ext F μ H F' μ' H' → rel F μ H a b → rel F' μ' H' a b

section
variable (W : Wx) (X : WX) (F : Addr → Prop) (μ : List Addr) (H : Hp) (σ : L2.St)
/-- r's end, from (F, μ, H) on -/
def EndR {α β : Type} (rel : Rel α β) (r : R α) (Q : β → Hp → Prop) : Prop := match r with
  | .ok a S' => ∀ (F' : Addr → Prop) (μ' : List Addr) (H' : Hp) (b : β), Ext F μ H F' μ' H' → Rl W.toWd F' μ' H' S' → rel F' μ' H' a b → Q b H'
  | .ex c v S' => ∀ (F' : Addr → Prop) (μ' : List Addr) (H' : Hp) (cls : Value) (d : Option Addr), Ext F μ H F' μ' H' → Rl W.toWd F' μ' H' S' → XOk W F' μ' H' c v cls d → X cls d σ H'
  | .bad => False
end
section
variable {W : Wx} {X : WX} {F F' : Addr → Prop} {μ μ' : List Addr} {H H' : Hp} {σ : L2.St} {α β γ δ : Type} {rel : Rel α β} {rel2 : Rel γ δ}
theorem EndR.shift (E : Ext F μ H F' μ' H') {r : R α} {Q : β → Hp → Prop} (h : EndR W X F μ H σ rel r Q) : EndR W X F' μ' H' σ rel r Q := by
  cases r with
  | ok a S => exact fun F2 μ2 H2 b e => h F2 μ2 H2 b (E.trans e)
  | ex c v S => exact fun F2 μ2 H2 cls d e => h F2 μ2 H2 cls d (E.trans e)
  | bad => exact h
theorem EndR.mono {r : R α} {Q Q' : β → Hp → Prop} (h : EndR W X F μ H σ rel r Q) (q : ∀ b H', Q b H' → Q' b H') : EndR W X F μ H σ rel r Q' := by
  cases r with
  | ok a S => exact fun F2 μ2 H2 b e R' r' => q _ _ (h F2 μ2 H2 b e R' r')
  | ex c v S => exact h
  | bad => exact h
theorem EndR.bind {r : R α} {f : α → St → R γ} {Q : δ → Hp → Prop} (h : EndR W X F μ H σ rel2 (r.bind f) Q) :
    EndR W X F μ H σ rel r fun b H1 => ∃ (F1 : Addr → Prop) (μ1 : List Addr) (a : α) (S1 : St), Ext F μ H F1 μ1 H1 ∧ Rl W.toWd F1 μ1 H1 S1 ∧ rel F1 μ1 H1 a b ∧ EndR W X F1 μ1 H1 σ rel2 (f a S1) Q := by
  cases r with
  | ok a S => exact fun F1 μ1 H1 b e R1 r1 => ⟨F1, μ1, a, S, e, R1, r1, EndR.shift e h⟩
  | ex c v S => exact h
  | bad => exact h
/-- here and now -/
theorem EndR.here {a : α} {S : St} {Q : β → Hp → Prop} (h : EndR W X F μ H σ rel (.ok a S) Q) (R : Rl W.toWd F μ H S) {b : β} (r : rel F μ H a b) : Q b H := h F μ H b Ext.refl R r
theorem EndR.of {o : Option α} {S : St} {Q : β → Hp → Prop} (h : EndR W X F μ H σ rel (R.of o S) Q) : ∃ a, o = some a ∧ EndR W X F μ H σ rel (.ok a S) Q := by
  cases o with
  | some a => exact ⟨a, rfl, h⟩
  | none => exact h.elim
end

def relD (W : Wx) : Rel D V := fun F μ H d v => Rep W.toWd F μ H d v
def relL (W : Wx) : Rel (List D) (List V) := fun F μ H d v => RepL W.toWd F μ H d v
def relE {α : Type} : Rel α α := fun _ _ _ a b => a = b
theorem stays_D {W : Wx} : Stays W (relD W) := fun R e h => R.ext e h
theorem stays_L {W : Wx} : Stays W (relL W) := fun R e h => R.extL e h
theorem stays_E {W : Wx} {α : Type} : Stays W (relE (α := α)) := fun _ _ h => h

/-- the reading of a run -/
def tR (W : Wx) (X : WX) {α β : Type} (rel : Rel α β) (run : Env → St → R α) : L2.St → Hp → (β → Hp → Prop) → Prop := fun σ H Q =>
  ∃ (ρ : Env) (S : St) (F : Addr → Prop) (μ : List Addr), Ro W F μ H ρ σ ∧ Rl W.toWd F μ H S ∧ EndR W X F μ H σ rel (run ρ S) Q
abbrev tE (W : Wx) (X : WX) (C : Ctx) (e : E) : TE := tR W X (relD W) (evE C e)
abbrev tT (W : Wx) (X : WX) (C : Ctx) (e : E) : TT := tR W X relE fun ρ S => (evE C e ρ S).tru
abbrev tL (W : Wx) (X : WX) (C : Ctx) (es : List E) : TA := tR W X (relL W) (evL C es)

section
variable {W : Wx} {X : WX} {α β γ δ : Type} {rel : Rel α β} {rel2 : Rel γ δ} {σ : L2.St} {H : Hp}
theorem tR_mono {run : Env → St → R α} {Q Q' : β → Hp → Prop} (h : tR W X rel run σ H Q) (q : ∀ b H', Q b H' → Q' b H') : tR W X rel run σ H Q' := by
  obtain ⟨ρ, S, F, μ, o, R, h⟩ := h
  exact ⟨ρ, S, F, μ, o, R, h.mono q⟩
/-- one run, then what follows -/
theorem tR_bind {run : Env → St → R α} {k : Env → α → St → R γ} {Q : δ → Hp → Prop} (h : tR W X rel2 (fun ρ S => (run ρ S).bind (k ρ)) σ H Q) :
    tR W X rel run σ H fun b H1 => ∃ (ρ : Env) (S : St) (F : Addr → Prop) (μ : List Addr) (a : α), Ro W F μ H1 ρ σ ∧ Rl W.toWd F μ H1 S ∧ rel F μ H1 a b ∧ EndR W X F μ H1 σ rel2 (k ρ a S) Q := by
  obtain ⟨ρ, S, F, μ, o, R, h⟩ := h
  refine ⟨ρ, S, F, μ, o, R, (EndR.bind (rel := rel) h).mono fun b H1 ⟨F1, μ1, a, S1, e, R1, r1, q⟩ => ⟨ρ, S1, F1, μ1, a, o.ext R e, R1, r1, q⟩⟩
/-- two runs, then what follows -/
theorem tR_bin {α1 β1 α2 β2 : Type} {rel1 : Rel α1 β1} {relB : Rel α2 β2} (st : Stays W rel1) {run1 : Env → St → R α1} {run2 : Env → St → R α2} {k : Env → α1 → α2 → St → R γ} {Q : δ → Hp → Prop}
    (h : tR W X rel2 (fun ρ S => (run1 ρ S).bind fun x S1 => (run2 ρ S1).bind fun y S2 => k ρ x y S2) σ H Q) :
    tR W X rel1 run1 σ H fun v H1 => tR W X relB run2 σ H1 fun u H2 => ∃ (ρ : Env) (S : St) (F : Addr → Prop) (μ : List Addr) (x : α1) (y : α2), Ro W F μ H2 ρ σ ∧ Rl W.toWd F μ H2 S ∧ rel1 F μ H2 x v ∧ relB F μ H2 y u ∧ EndR W X F μ H2 σ rel2 (k ρ x y S) Q := by
  refine tR_mono (tR_bind (rel := rel1) h) fun v H1 ⟨ρ, S, F, μ, x, o, R, r, h1⟩ => ?_
  refine ⟨ρ, S, F, μ, o, R, (EndR.bind (rel := relB) h1).mono fun u H2 ⟨F2, μ2, y, S2, e, R2, r2, q⟩ => ⟨ρ, S2, F2, μ2, x, y, o.ext R e, R2, st R e r, r2, q⟩⟩
end
end PM
set_option Elab.async false
set_option linter.all false
set_option autoImplicit false
/-! PMData: plain data of the pure machine as the library's data. -/
namespace PM
open PySem L2
mutual
def pyD : D → PyData
  | .bl b => .bool b
  | .int i => .int i
  | .str x => .str (tS x)
  | .tup xs => .tuple (pyL xs)
  | .lst xs => .list (pyL xs)
  | _ => .none
def pyL : List D → List PyData
  | [] => []
  | x :: r => pyD x :: pyL r
end
theorem pl_cons {x : D} {r : List D} (h : D.plL (x :: r) = true) : x.pl = true ∧ D.plL r = true := by
  unfold D.plL at h
  exact Bool.and_eq_true_iff.mp h
mutual
theorem canLay_pl : ∀ (x : D), x.pl = true → (pyD x).canLay0 = true
  | .non, _ => rfl
  | .bl _, _ => rfl
  | .int _, _ => rfl
  | .str x, h => by
    unfold D.pl at h
    show (tS x).cps.all (fun c => decide (c < 0x110000)) = true
    unfold tS
    rw [List.all_eq_true] at h
    rw [Array.all_eq_true_iff_forall_mem]
    intro c hc
    have := of_decide_eq_true (h c (by simpa using hc))
    exact decide_eq_true (by omega)
  | .tup xs, h => by
    unfold D.pl at h
    unfold pyD PyData.canLay0
    exact canLay_plL xs h
  | .lst xs, h => by
    unfold D.pl at h
    unfold pyD PyData.canLay0
    exact canLay_plL xs h
  | .dct _, h => by simp [D.pl] at h
  | .ins _ _, h => by simp [D.pl] at h
  | .exn _ _, h => by simp [D.pl] at h
  | .loc _, h => by simp [D.pl] at h
theorem canLay_plL : ∀ (xs : List D), D.plL xs = true → PyData.canLayAll0 (pyL xs) = true
  | [], _ => rfl
  | x :: r, h => by
    obtain ⟨a, b⟩ := pl_cons h
    unfold pyL PyData.canLayAll0
    rw [canLay_pl x a, canLay_plL r b]; rfl
end
theorem tS_beq (x y : Txt) : (tS x == tS y) = (x == y) := by
  by_cases h : x = y
  · subst h; simp
  · have : ¬ tS x = tS y := fun e => h (tS_inj e)
    rw [beq_eq_false_iff_ne.mpr this, beq_eq_false_iff_ne.mpr h]
mutual
theorem eqv_pl : ∀ (x y : D), x.pl = true → y.pl = true → PyData.eqv (pyD x) (pyD y) = D.eqv x y
  | .non, y, _, h => by cases y <;> first | rfl | simp [D.pl] at h
  | .bl _, y, _, h => by cases y <;> first | rfl | simp [D.pl] at h
  | .int _, y, _, h => by cases y <;> first | rfl | simp [D.pl] at h
  | .str a, y, _, h => by
    cases y <;> first
      | rfl
      | (simp [D.pl] at h; done)
      | (unfold pyD PyData.eqv D.eqv; exact tS_beq _ _)
  | .tup xs, y, h0, h => by
    unfold D.pl at h0
    cases y <;> first
      | rfl
      | (simp [D.pl] at h; done)
      | (unfold pyD PyData.eqv D.eqv; unfold D.pl at h; exact eqv_plL xs _ h0 h)
  | .lst xs, y, h0, h => by
    unfold D.pl at h0
    cases y <;> first
      | rfl
      | (simp [D.pl] at h; done)
      | (unfold pyD PyData.eqv D.eqv; unfold D.pl at h; exact eqv_plL xs _ h0 h)
  | .dct _, _, h, _ => by simp [D.pl] at h
  | .ins _ _, _, h, _ => by simp [D.pl] at h
  | .exn _ _, _, h, _ => by simp [D.pl] at h
  | .loc _, _, h, _ => by simp [D.pl] at h
theorem eqv_plL : ∀ (xs ys : List D), D.plL xs = true → D.plL ys = true → PyData.eqvAll (pyL xs) (pyL ys) = D.eqvL xs ys
  | [], [], _, _ => rfl
  | [], y :: t, _, _ => rfl
  | x :: r, [], _, _ => rfl
  | x :: r, y :: t, h0, h => by
    obtain ⟨a, b⟩ := pl_cons h0
    obtain ⟨c, d⟩ := pl_cons h
    unfold pyL PyData.eqvAll D.eqvL
    rw [eqv_pl x y a c, eqv_plL r t b d]
end
section
variable {W : Wd} {F : Addr → Prop} {μ : List Addr} {H : Hp} {S : St}
theorem KTup.sq {K : PySem.W.Frag} {a : Addr} {vs : List V} (h : KTup K a vs) : SqT K H a vs := .inr h
theorem Rep.tupS {xs : List D} {v : V} (r : Rep W F μ H (.tup xs) v) : ∃ a vs, v = .ref a ∧ SqT W.K H a vs ∧ RepL W F μ H xs vs := by
  cases r with
  | tup h r => exact ⟨_, _, rfl, h.elim (fun ⟨_, q⟩ => .inl (.inl q)) fun q => .inr q, r⟩
theorem Rep.lstS {xs : List D} {v : V} (r : Rep W F μ H (.lst xs) v) : ∃ a vs, v = .ref a ∧ Rd H a (.lst vs) ∧ RepL W F μ H xs vs := by
  cases r with
  | lst f q r => exact ⟨_, _, rfl, q, r⟩
theorem Rl.locS (R : Rl W F μ H S) {n : Nat} {v : V} {c : Cell} (r : Rep W F μ H (.loc n) v) (h : S[n]? = some c) : ∃ a, v = .ref a ∧ μ[n]? = some a ∧ CellR W F μ H a c := by
  cases r with
  | loc z => exact ⟨_, rfl, z, R.cell n _ c z h⟩
theorem Rl.locL (R : Rl W F μ H S) {n : Nat} {v : V} {xs : List D} (r : Rep W F μ H (.loc n) v) (h : S[n]? = some (.lst xs)) : ∃ a vs, v = .ref a ∧ μ[n]? = some a ∧ H a = some (.lst vs) ∧ RepL W F μ H xs vs := by
  obtain ⟨a, rfl, z, c⟩ := R.locS r h
  cases c with
  | lst q r => exact ⟨_, _, rfl, z, q, r⟩
theorem Rl.lstItems (R : Rl W F μ H S) {d : D} {v : V} {xs : List D} (h : lstItems S d = some xs) (r : Rep W F μ H d v) : ∃ a vs, v = .ref a ∧ Rd H a (.lst vs) ∧ RepL W F μ H xs vs := by
  unfold PM.lstItems at h
  split at h
  · cases h; exact r.lstS
  · split at h
    · rename_i n xs' e
      cases h
      obtain ⟨a, vs, rfl, _, q, r'⟩ := R.locL r e
      exact ⟨a, vs, rfl, .inl q, r'⟩
    · cases h
  · cases h
theorem Rl.items (R : Rl W F μ H S) {d : D} {v : V} {xs : List D} (h : items S d = some xs) (r : Rep W F μ H d v) : ∃ a vs, v = .ref a ∧ (SqL W.K H a vs ∨ SqT W.K H a vs) ∧ RepL W F μ H xs vs := by
  unfold PM.items at h
  split at h
  · cases h
    obtain ⟨a, vs, e, q, r'⟩ := r.tupS
    exact ⟨a, vs, e, .inr q, r'⟩
  · cases h
    obtain ⟨a, vs, e, q, r'⟩ := r.lstS
    exact ⟨a, vs, e, .inl (.inl q), r'⟩
  · split at h
    · rename_i n xs' e
      cases h
      obtain ⟨a, vs, rfl, _, q, r'⟩ := R.locL r e
      exact ⟨a, vs, rfl, .inl (SqL.of q), r'⟩
    · cases h
  · cases h
theorem dgetK {H : Hp} {a : Addr} {ws : List (L2.Key × V)} {k : L2.Key} (e : L2.Rd H a (.dK ws)) : DGet H a (kV k) (valV ws k) := .inl ⟨ws, k, e, rfl, rfl⟩
theorem Rl.pairs (R : Rl W F μ H S) {d : D} {v : V} {kvs : List (Key × D)} (h : pairs S d = some kvs) (r : Rep W F μ H d v) : ∃ a ws, v = .ref a ∧ L2.Rd H a (.dK ws) ∧ RepK W F μ H kvs ws := by
  unfold PM.pairs at h
  split at h
  · cases h
    cases r with
    | dct f q r => exact ⟨_, _, rfl, q, r⟩
  · split at h
    · rename_i n xs' e
      cases h
      obtain ⟨a, rfl, z, c⟩ := R.locS r e
      cases c with
      | dct q r => exact ⟨_, _, rfl, q.rd, r⟩
    · cases h
  · cases h
theorem mapO_dp {f : D → Option D} {k : Nat} (hf : ∀ (d x : D) (v : V), f d = some x → x.pl = true → Rep W F μ H d v → Dp W.K H v (pyD x) ∧ (pyD x).depth ≤ k) :
    ∀ {xs ys : List D} {vs : List V}, mapO f xs = some ys → D.plL ys = true → RepL W F μ H xs vs → DpAll W.K H vs (pyL ys) ∧ PyData.depthAll (pyL ys) ≤ k
  | [], ys, vs, e, _, r => by
    simp [mapO] at e
    subst e
    cases r
    exact ⟨.nil, Nat.zero_le _⟩
  | x :: t, ys, vs, e, p, r => by
    cases r with
    | cons a b =>
      unfold mapO at e
      split at e
      · rename_i y u h1 h2
        cases e
        obtain ⟨p1, p2⟩ := pl_cons p
        obtain ⟨q1, q2⟩ := hf _ _ _ h1 p1 a
        obtain ⟨q3, q4⟩ := mapO_dp hf h2 p2 b
        exact ⟨.cons q1 q3, by unfold pyL PyData.depthAll; omega⟩
      · cases e
theorem dp_of (R : Rl W F μ H S) : ∀ (k : Nat) (d x : D) (v : V), D.dr S k d = some x → x.pl = true → Rep W F μ H d v → Dp W.K H v (pyD x) ∧ (pyD x).depth ≤ k
  | 0, d, x, v, h, p, r => by
    unfold D.dr at h
    cases r with
    | non => cases h; exact ⟨.non, Nat.zero_le _⟩
    | bl b => cases h; exact ⟨.bl b, Nat.zero_le _⟩
    | int i => cases h; exact ⟨.int i, Nat.zero_le _⟩
    | str x _ => cases h; exact ⟨.str _, Nat.zero_le _⟩
    | _ => cases h
  | k + 1, d, x, v, h, p, r => by
    have ih : ∀ (d x : D) (v : V), D.dr S k d = some x → x.pl = true → Rep W F μ H d v → Dp W.K H v (pyD x) ∧ (pyD x).depth ≤ k := dp_of R k
    unfold D.dr at h
    cases r with
    | non => cases h; exact ⟨.non, Nat.zero_le _⟩
    | bl b => cases h; exact ⟨.bl b, Nat.zero_le _⟩
    | int i => cases h; exact ⟨.int i, Nat.zero_le _⟩
    | str x _ => cases h; exact ⟨.str _, Nat.zero_le _⟩
    | tup z r =>
      obtain ⟨ys, h1, rfl⟩ := Option.map_eq_some_iff.mp h
      unfold D.pl at p
      obtain ⟨q1, q2⟩ := mapO_dp ih h1 p r
      refine ⟨.tup (z.elim (fun ⟨_, q⟩ => .inl (.inl q)) fun q => .inr q) q1, ?_⟩
      unfold pyD PyData.depth
      omega
    | lst f z r =>
      obtain ⟨ys, h1, rfl⟩ := Option.map_eq_some_iff.mp h
      unfold D.pl at p
      obtain ⟨q1, q2⟩ := mapO_dp ih h1 p r
      refine ⟨.lst (.inl z) q1, ?_⟩
      unfold pyD PyData.depth
      omega
    | dct f q r =>
      obtain ⟨ys, h1, rfl⟩ := Option.map_eq_some_iff.mp h
      simp [D.pl] at p
    | ins c f q r => cases h
    | err c f g q z r => cases h
    | loc z =>
      rename_i i a
      have hlt : i < S.length := by rw [← R.len]; exact (List.getElem?_eq_some_iff.mp z).1
      have c := R.cell i a _ z (List.getElem?_eq_getElem hlt)
      simp only [List.getElem?_eq_getElem hlt] at h
      generalize S[i] = cc at h c
      cases c with
      | lst q r =>
        obtain ⟨ys, h1, rfl⟩ := Option.map_eq_some_iff.mp h
        unfold D.pl at p
        obtain ⟨q1, q2⟩ := mapO_dp ih h1 p r
        refine ⟨.lst (.inl (.inl q)) q1, ?_⟩
        unfold pyD PyData.depth
        omega
      | dct q r =>
        obtain ⟨ys, h1, rfl⟩ := Option.map_eq_some_iff.mp h
        simp [D.pl] at p
      | ins c q r => cases h
theorem dp_ok (R : Rl W F μ H S) {d x : D} {v : V} (h : d.dp S = some x) (r : Rep W F μ H d v) : Dp W.K H v (pyD x) ∧ (pyD x).depth ≤ 150 ∧ x.pl = true := by
  unfold D.dp at h
  split at h
  · split at h
    · rename_i y e p
      cases h
      obtain ⟨a, b⟩ := dp_of R 150 d _ v e p r
      exact ⟨a, b, p⟩
    · cases h
  · cases h
end
end PM
set_option Elab.async false
set_option linter.all false
set_option autoImplicit false
/-! PMOps: the pure machine's operations by the library's rules. -/
namespace PM
open PySem L2

/-- a value's end -/
def EndV (W : Wd) (F : Addr → Prop) (μ : List Addr) (H : Hp) (r : Option (D × St)) (Q : VK) : Prop :=
  ∃ d S', r = some (d, S') ∧ ∀ (F' : Addr → Prop) (μ' : List Addr) (H' : Hp) (v : V), Ext F μ H F' μ' H' → Rl W F' μ' H' S' → Rep W F' μ' H' d v → Q v H'
theorem EndV.of {W : Wx} {X : WX} {F : Addr → Prop} {μ : List Addr} {H : Hp} {σ : L2.St} {r : Option (D × St)} {Q : VK} (h : EndR W X F μ H σ (relD W) (R.o r) Q) : EndV W.toWd F μ H r Q := by
  cases r with
  | none => exact h.elim
  | some p => exact ⟨p.1, p.2, rfl, h⟩
section
variable {W : Wd} {F : Addr → Prop} {μ : List Addr} {H : Hp} {S : St} {Q : VK}
theorem new_tup (R : Rl W F μ H S) {xs : List D} {vs : List V} (r : RepL W F μ H xs vs) {p : Addr} (hp : H p = none)
    (h : ∀ (F' : Addr → Prop) (μ' : List Addr) (H' : Hp) (v : V), Ext F μ H F' μ' H' → Rl W F' μ' H' S → Rep W F' μ' H' (.tup xs) v → Q v H') : Q (.ref p) (upd H p (.tup vs)) :=
  h _ _ _ _ (Ext.laid R hp) (R.laid hp) (.tup (.inl ⟨.inr rfl, upd_same⟩) (R.extL (Ext.laid R hp) r))
theorem new_lst (R : Rl W F μ H S) {m : Bool} {xs : List D} {vs : List V} (r : RepL W F μ H xs vs) {p : Addr} (hp : H p = none) (h : EndV W F μ H (mkL m xs S) Q) : Q (.ref p) (upd H p (.lst vs)) := by
  obtain ⟨d, S', e, h⟩ := h
  cases m with
  | false =>
    cases e
    exact h _ _ _ _ (Ext.laid R hp) (R.laid hp) (.lst (.inr rfl) (.inl upd_same) (R.extL (Ext.laid R hp) r))
  | true =>
    cases e
    refine h _ _ _ _ (Ext.alloc R hp) (R.alloc hp (.lst upd_same (R.extL (Ext.alloc R hp) r))) (.loc ?_)
    rw [← R.len]
    simp
theorem new_dct (R : Rl W F μ H S) {m : Bool} {kvs : List (Key × D)} {ws : List (L2.Key × V)} (r : RepK W F μ H kvs ws) {p : Addr} (hp : H p = none) (h : EndV W F μ H (mkK m kvs S) Q) : Q (.ref p) (upd H p (.dK ws)) := by
  obtain ⟨d, S', e, h⟩ := h
  cases m with
  | false =>
    cases e
    exact h _ _ _ _ (Ext.laid R hp) (R.laid hp) (.dct (.inr rfl) (.inl upd_same) (r.ext R.fz R.off (Ext.laid R hp)))
  | true =>
    cases e
    refine h _ _ _ _ (Ext.alloc R hp) (R.alloc hp (.dct (lk := false) upd_same (r.ext R.fz R.off (Ext.alloc R hp)))) (.loc ?_)
    rw [← R.len]
    simp
theorem new_val (R : Rl W F μ H S) {d : D} {v : V} (r : Rep W F μ H d v) (h : ∀ (F' : Addr → Prop) (μ' : List Addr) (H' : Hp) (v : V), Ext F μ H F' μ' H' → Rl W F' μ' H' S → Rep W F' μ' H' d v → Q v H') : Q v H := h _ _ _ _ Ext.refl R r
end

/-- an operation's reading, by the pure machine's -/
def rO (W : Wd) (o : O2) (m : Bool) : R2 := fun x y H Q => ∃ (S : St) (F : Addr → Prop) (μ : List Addr) (a b : D), Rl W F μ H S ∧ Rep W F μ H a x ∧ Rep W F μ H b y ∧ EndV W F μ H (op2 o m a b S) Q

theorem le_line {n : Nat} (h : n ≤ sizeMax) : n ≤ sizeLine := Nat.le_trans h (by decide)
theorem tS_append (x y : Txt) : tS x ++ tS y = tS (x ++ y) := by
  show Str.mk ((tS x).cps ++ (tS y).cps) = _
  unfold tS
  simp
theorem tS_len (x : Txt) : (tS x).length = x.length := by
  show (tS x).cps.size = _
  unfold tS
  simp
section
variable {W : Wd} {X : Cx}
theorem bits_le {i : Int} {n : Nat} (h : i.natAbs.log2 < n) : (Builtin.Int.intBits i : Nat) ≤ n := by
  have b : ∀ x : Int, Builtin.Int.intBits x ≤ x.natAbs.log2 + 1 := fun x => by
    unfold Builtin.Int.intBits
    split <;> omega
  have := b i
  omega
theorem mulOk_big {i j : Int} (h1 : i.natAbs.log2 < 4000000) (h2 : j.natAbs.log2 < 4000000) : IntMulOk i j := by
  have b1 := bits_le h1
  have b2 := bits_le h2
  have e : bitsLine = 134217728 := by decide
  unfold IntMulOk
  intro z
  rw [Bool.and_eq_true] at z
  obtain ⟨_, z⟩ := z
  unfold Builtin.Int.intTooBig at z
  have := of_decide_eq_true z
  omega
/-- lists, one behind the other -/
theorem op_catR : OpR X (binaryOp .Add) (fun x y H Q => ∃ l b xs zs, x = .ref l ∧ y = .ref b ∧ Rd H l (.lst xs) ∧ Rd H b (.lst zs) ∧ xs.length + zs.length ≤ sizeLine ∧ ∀ p, H p = none → Q (.ref p) (upd H p (.lst (xs ++ zs)))) := by
  intro pins s σ H x y v u Q I rx ry h
  obtain ⟨l, b, xs, zs, rfl, rfl, hl, hb, hz, q⟩ := h
  cases rx
  cases ry
  obtain ⟨_, i1, n1, r1, e1⟩ := hl.ok I.hok
  obtain ⟨_, i2, n2, r2, e2⟩ := hb.ok I.hok
  have l1 := r1.length
  have l2 := r2.length
  refine PySem.P.add_list e1 e2 ?_ (by rw [List.size_toArray, List.size_toArray]; omega)
  have ea : i1.toArray ++ i2.toArray = (i1 ++ i2).toArray := by simp
  rw [ea]
  exact ⟨.ref _, _, I.laid (t' := s.toks) (o := .lst (xs ++ zs)) (fun b o e => Heap.get?_push_of_some _ e) (Nat.le_refl _) ⟨by rw [List.length_append]; exact hz, _, 0, r1.append r2, Heap.get?_push_size _ rfl⟩, rfl, q _ (I.hok.fresh (Nat.le_refl _))⟩
theorem ok_add (hK : X.K = W.K) {m : Bool} : OpR X (binaryOp .Add) (rO W .add m) := by
  intro pins s σ H x y v u Q I rx ry h
  obtain ⟨S, F, μ, a, b, R, ra, rb, h⟩ := h
  obtain ⟨d, S', e, h⟩ := id h
  unfold op2 at e
  simp only at e
  split at e
  · cases e
    cases ra
    cases rb
    exact op_add pins s σ H _ _ v u Q I rx ry ⟨_, _, rfl, rfl, new_val R (.int _) h⟩
  · split at e
    · rename_i hz
      cases e
      cases ra
      cases rb
      refine op_add_str pins s σ H _ _ v u Q I rx ry ⟨_, _, rfl, rfl, ?_, ?_⟩
      · rw [tS_len, tS_len]; exact le_line hz
      · rw [tS_append]; exact new_val R (.str _ (by rw [List.length_append]; exact le_line hz)) h
    · cases e
  · split at e
    · rename_i xs ys hz
      cases e
      obtain ⟨a1, v1, rfl, q1, r1⟩ := ra.tupS
      obtain ⟨a2, v2, rfl, q2, r2⟩ := rb.tupS
      rw [← hK] at q1 q2
      have l1 := r1.length
      have l2 := r2.length
      refine op_catA pins s σ H _ _ v u Q I rx ry ⟨_, _, _, _, rfl, rfl, q1, q2, by rw [← l1, ← l2]; exact le_line hz, fun e => ?_, fun _ e => ?_, fun _ _ p hp => new_tup R (r1.append r2) hp h⟩
      · subst e
        cases r1
        exact new_val R rb h
      · subst e
        cases r2
        rw [List.append_nil] at h
        exact new_val R ra h
    · cases e
  · split at e
    · rename_i xs ys h1 h2
      split at e
      · rename_i hz
        obtain ⟨a1, v1, rfl, q1, r1⟩ := R.lstItems h1 ra
        obtain ⟨a2, v2, rfl, q2, r2⟩ := R.lstItems h2 rb
        have l1 := r1.length
        have l2 := r2.length
        exact op_catR pins s σ H _ _ v u Q I rx ry ⟨_, _, _, _, rfl, rfl, q1, q2, by rw [← l1, ← l2]; exact le_line hz, fun p hp => new_lst R (r1.append r2) hp ⟨d, S', e, h⟩⟩
      · cases e
    · cases e
theorem ok_sub {m : Bool} : OpR X (binaryOp .Sub) (rO W .sub m) := by
  intro pins s σ H x y v u Q I rx ry h
  obtain ⟨S, F, μ, a, b, R, ra, rb, d, S', e, h⟩ := h
  unfold op2 at e
  simp only at e
  split at e
  · cases e
    cases ra
    cases rb
    exact op_sub pins s σ H _ _ v u Q I rx ry ⟨_, _, rfl, rfl, new_val R (.int _) h⟩
  · cases e
theorem ok_fdiv {m : Bool} : OpR X (binaryOp .FloorDiv) (rO W .fdiv m) := by
  intro pins s σ H x y v u Q I rx ry h
  obtain ⟨S, F, μ, a, b, R, ra, rb, d, S', e, h⟩ := h
  unfold op2 at e
  simp only at e
  split at e
  · split at e
    · rename_i hz
      cases e
      cases ra
      cases rb
      exact op_fdiv pins s σ H _ _ v u Q I rx ry ⟨_, _, rfl, rfl, hz, new_val R (.int _) h⟩
    · cases e
  · cases e
theorem ok_mod {m : Bool} : OpR X (binaryOp .Mod) (rO W .mod m) := by
  intro pins s σ H x y v u Q I rx ry h
  obtain ⟨S, F, μ, a, b, R, ra, rb, d, S', e, h⟩ := h
  unfold op2 at e
  simp only at e
  split at e
  · split at e
    · rename_i hz
      cases e
      cases ra
      cases rb
      exact op_mod pins s σ H _ _ v u Q I rx ry ⟨_, _, rfl, rfl, hz, new_val R (.int _) h⟩
    · cases e
  · cases e
theorem ok_pow {m : Bool} : OpR X (binaryOp .Pow) (rO W .pow m) := by
  intro pins s σ H x y v u Q I rx ry h
  obtain ⟨S, F, μ, a, b, R, ra, rb, d, S', e, h⟩ := h
  unfold op2 at e
  simp only at e
  split at e
  · split at e
    · rename_i i j hz
      cases e
      cases ra
      cases rb
      obtain ⟨t, rfl⟩ := rx
      obtain ⟨t', rfl⟩ := ry
      unfold powOk at hz
      rw [Bool.and_eq_true, decide_eq_true_eq] at hz
      obtain ⟨h0, h5⟩ := hz
      refine PyProof.Rows.pow_int h0 ?_ ⟨.int _, H, I.tok _, ⟨_, rfl⟩, new_val R (.int _) h⟩
      rw [Bool.or_eq_true, Bool.and_eq_true, Bool.and_eq_true] at h5
      simp only [decide_eq_true_eq] at h5
      rcases h5 with ⟨h5, hb⟩ | ⟨h5, hb⟩
      · have b1 := bits_le hb
        have : (Builtin.Int.intBits i : Int) * j ≤ 4000000 * 5 := Int.mul_le_mul (by omega) h5 h0 (by decide)
        omega
      · have b1 := bits_le hb
        have : (Builtin.Int.intBits i : Int) * j ≤ 64 * 64 := Int.mul_le_mul (by omega) h5 h0 (by decide)
        omega
    · cases e
  · cases e
end
end PM
set_option Elab.async false
set_option linter.all false
set_option autoImplicit false
set_option maxHeartbeats 4000000
/-! PMMul: products of texts, tuples, lists. -/
namespace PM
open PySem L2
theorem tup_mul_self (l : Addr) (items : Array Value) (n : Nat) (dd : Option Addr) (sl : Array (Option Value)) (x : Int) (u : Tok) (c0 : (decide (x < -(2 ^ 63)) || decide (x ≥ 2 ^ 63)) = false) (c1 : (items.isEmpty || x == 1) = true) :
    Meets (Builtin.«tuple.__mul__» ⟨[.ref l, .int x u], []⟩) (fun _ R s => s.heap.get? l = some { cls := .type "tuple", dict := dd, data := .seq items n, slots := sl } ∧ R (.ok (.ret (Value.ref l))) s) :=
  .of_wp fun prog w A R s h => by
    obtain ⟨hp, g, d, tk, os⟩ := s
    obtain ⟨hl, h⟩ := h
    have f1 := AutoSeq1.idx_int
    wp_walk using wpAny_loadPart' hl
    repeat (first
      | (refine wpAny_ite_false (decide_eq_false (by rw [c0]; exact Bool.false_ne_true)) ?_; wp_walk using wpAny_loadPart' hl)
      | (refine wpAny_ite_true (decide_eq_true c1) ?_; wp_walk using wpAny_loadPart' hl))
    exact ⟨_, rfl, h⟩
theorem tup_mul_none (l : Addr) (items : Array Value) (n : Nat) (dd : Option Addr) (sl : Array (Option Value)) (x : Int) (u : Tok) (c0 : (decide (x < -(2 ^ 63)) || decide (x ≥ 2 ^ 63)) = false) (c1 : (items.isEmpty || x == 1) = false) (c2 : (decide (x ≤ 0) || items.isEmpty) = true) :
    Meets (Builtin.«tuple.__mul__» ⟨[.ref l, .int x u], []⟩) (fun _ R s => s.heap.get? l = some { cls := .type "tuple", dict := dd, data := .seq items n, slots := sl } ∧
      R (.ok (.ret (Value.ref s.heap.objs.size))) { s with heap := s.heap.push { cls := Value.type "tuple", data := Data.seq #[] } }) :=
  .of_wp fun prog w A R s h => by
    obtain ⟨hp, g, d, tk, os⟩ := s
    obtain ⟨hl, h⟩ := h
    have f1 := AutoSeq1.idx_int
    wp_walk using wpAny_loadPart' hl
    repeat (first
      | (refine wpAny_ite_false (decide_eq_false (by rw [c0]; exact Bool.false_ne_true)) ?_; wp_walk using wpAny_loadPart' hl)
      | (refine wpAny_ite_false (decide_eq_false (by rw [c1]; exact Bool.false_ne_true)) ?_; wp_walk using wpAny_loadPart' hl)
      | (refine wpAny_ite_true (decide_eq_true c2) ?_; wp_walk using wpAny_loadPart' hl))
    exact ⟨_, rfl, h⟩
section
variable {W : Wd} {X : Cx}
theorem RepL.rep {F : Addr → Prop} {μ : List Addr} {H : Hp} {xs : List D} {vs : List V} (r : RepL W F μ H xs vs) : ∀ n : Nat, RepL W F μ H (List.replicate n xs).flatten (List.replicate n vs).flatten
  | 0 => .nil
  | n + 1 => by
    rw [List.replicate_succ, List.replicate_succ, List.flatten_cons, List.flatten_cons]
    exact r.append (RepL.rep r n)
/-- a tuple times an int -/
theorem op_tupMul : OpR X (binaryOp .Mult) (fun x y H Q => ∃ l k xs, x = .ref l ∧ y = .int k ∧ SqT X.K H l xs ∧ -1000 ≤ k ∧ k ≤ 1000 ∧ xs.length ≤ 1000 ∧ ((List.replicate k.toNat xs).flatten = xs → Q (.ref l) H) ∧ ∀ p, H p = none → Q (.ref p) (upd H p (.tup (List.replicate k.toNat xs).flatten))) := by
  intro pins s σ H x y v u Q I rx ry h
  obtain ⟨l, k, xs, rfl, rfl, hT, h0, h1, hz, q1, q2⟩ := h
  by_cases hx : xs = []
  · subst hx
    cases rx
    obtain ⟨t, rfl⟩ := ry
    obtain ⟨its, r, ⟨⟨cls, dd, data, sl⟩, ho, hc, n, hd⟩, hs⟩ := I.tuple hT
    cases r
    simp only at hc hd
    subst hc hd
    have c0 : (decide (k < -(2 ^ 63)) || decide (k ≥ 2 ^ 63)) = false := by
      rw [decide_eq_false (by omega), decide_eq_false (by omega)] <;> rfl
    have e : (List.replicate k.toNat ([] : List V)).flatten = [] := by
      induction k.toNat with
      | zero => rfl
      | succ n ih => rw [List.replicate_succ, List.flatten_cons, ih]; rfl
    refine wpAny_binaryOp_repeat_ref (T := "tuple") (U := "int") (by decide) ⟨_, ho, rfl⟩ (fun s' => typeIs_int s' k t) noFill_tuple_mul F.fills_int_mul F.slot_int_rmul repeat_tuple F.slot_int_index.lookup
      (call_meets F.slot_int_rmul (typeIs_int s k t) F.entry_int_rmul (F.args_int_rmul_2 _ _) (int_rmul_tuple k t l #[] n dd sl)
        ⟨ho, rfl, ⟨_, ho, rfl⟩, call_meets F.slot_tuple_mul ⟨_, ho, rfl⟩ F.entry_tuple_mul (F.args_tuple_mul_2 _ _) (tup_mul_self l #[] n dd sl k t c0 rfl) ⟨ho, ?_⟩⟩)
    exact ⟨.ref l, H, I, rfl, q1 e⟩
  · by_cases h2 : 2 ≤ k
    · exact op_repT pins s σ H _ _ v u Q I rx ry ⟨l, k, xs, rfl, rfl, hT, hx, h2, h1, hz, q2⟩
    · cases rx
      obtain ⟨t, rfl⟩ := ry
      obtain ⟨its, r, ⟨⟨cls, dd, data, sl⟩, ho, hc, n, hd⟩, hs⟩ := I.tuple hT
      simp only at hc hd
      subst hc hd
      have hle : its.length = xs.length := r.length.symm
      have hi : its.toArray.isEmpty = false := by
        cases its with
        | nil => exact absurd (List.eq_nil_of_length_eq_zero hle.symm) hx
        | cons a b => rfl
      have c0 : (decide (k < -(2 ^ 63)) || decide (k ≥ 2 ^ 63)) = false := by
        rw [decide_eq_false (by omega), decide_eq_false (by omega)] <;> rfl
      by_cases h3 : k = 1
      · subst h3
        have c1 : (its.toArray.isEmpty || (1 : Int) == 1) = true := by rw [hi]; rfl
        refine wpAny_binaryOp_repeat_ref (T := "tuple") (U := "int") (by decide) ⟨_, ho, rfl⟩ (fun s' => typeIs_int s' 1 t) noFill_tuple_mul F.fills_int_mul F.slot_int_rmul repeat_tuple F.slot_int_index.lookup
          (call_meets F.slot_int_rmul (typeIs_int s 1 t) F.entry_int_rmul (F.args_int_rmul_2 _ _) (int_rmul_tuple 1 t l its.toArray n dd sl)
            ⟨ho, rfl, ⟨_, ho, rfl⟩, call_meets F.slot_tuple_mul ⟨_, ho, rfl⟩ F.entry_tuple_mul (F.args_tuple_mul_2 _ _) (tup_mul_self l its.toArray n dd sl 1 t c0 c1) ⟨ho, ?_⟩⟩)
        exact ⟨.ref l, H, I, rfl, q1 (by simp)⟩
      · have c1 : (its.toArray.isEmpty || k == 1) = false := by
          rw [hi, Bool.false_or]
          exact beq_eq_false_iff_ne.mpr h3
        have c2 : (decide (k ≤ 0) || its.toArray.isEmpty) = true := by
          rw [decide_eq_true (by omega)]; rfl
        have e : (List.replicate k.toNat xs).flatten = [] := by
          have : k.toNat = 0 := by omega
          rw [this]; rfl
        rw [e] at q2
        refine wpAny_binaryOp_repeat_ref (T := "tuple") (U := "int") (by decide) ⟨_, ho, rfl⟩ (fun s' => typeIs_int s' k t) noFill_tuple_mul F.fills_int_mul F.slot_int_rmul repeat_tuple F.slot_int_index.lookup
          (call_meets F.slot_int_rmul (typeIs_int s k t) F.entry_int_rmul (F.args_int_rmul_2 _ _) (int_rmul_tuple k t l its.toArray n dd sl)
            ⟨ho, rfl, ⟨_, ho, rfl⟩, call_meets F.slot_tuple_mul ⟨_, ho, rfl⟩ F.entry_tuple_mul (F.args_tuple_mul_2 _ _) (tup_mul_none l its.toArray n dd sl k t c0 c1 c2) ⟨ho, ?_⟩⟩)
        exact ⟨.ref _, _, I.laid (t' := s.toks) (o := .tup []) (fun b o e => Heap.get?_push_of_some _ e) (Nat.le_refl _) ⟨Nat.zero_le _, [], .nil, ⟨_, Heap.get?_push_size _ rfl, rfl, _, rfl⟩⟩, rfl, q2 _ (I.hok.fresh (Nat.le_refl _))⟩
/-- a list times an int -/
theorem op_lstMul : OpR X (binaryOp .Mult) (fun x y H Q => ∃ l k xs, x = .ref l ∧ y = .int k ∧ Rd H l (.lst xs) ∧ -1000 ≤ k ∧ k ≤ 1000 ∧ xs.length ≤ 1000 ∧ ∀ p, H p = none → Q (.ref p) (upd H p (.lst (List.replicate k.toNat xs).flatten))) := by
  intro pins s σ H x y v u Q I rx ry h
  obtain ⟨l, k, xs, rfl, rfl, hH, h0, h1, hz, q⟩ := h
  cases rx
  obtain ⟨t, rfl⟩ := ry
  obtain ⟨_, its, n, r, e⟩ := hH.ok I.hok
  have hl := r.length
  have hprod : its.toArray.size * k.toNat ≤ 1000 * 1000 := by
    rw [List.size_toArray, ← hl]
    exact Nat.mul_le_mul hz (by omega)
  have hlen : its.toArray.size * k.toNat ≤ sizeLine := Nat.le_trans hprod (by decide)
  have hcap : ¬ its.toArray.size * k.toNat > (2 ^ 63 - 1) / 8 := by
    have : 1000 * 1000 ≤ (2 ^ 63 - 1) / 8 := by decide
    omega
  have hfit : ¬ (!Builtin.List.listFitsIndex k) = true := by
    rw [fitsIndex_both (by omega) (by omega)]
    exact Bool.false_ne_true
  have hlong : ¬ Builtin.List.listTooLong (its.toArray.size * k.toNat) = true := by
    rw [notLongL hlen]
    exact Bool.false_ne_true
  have hnew : List.foldl (fun x1 x2 => x1 ++ x2) #[] (List.replicate (if its.toArray.isEmpty = true then 0 else k.toNat) its.toArray) = (List.replicate k.toNat its).flatten.toArray := by
    rw [size_rep]
    cases its with
    | nil => simp
    | cons a r' => rw [if_neg (by simp)]
  refine wpAny_binaryOp_repeat_ref (T := "list") (U := "int") (by decide) ⟨_, e, rfl⟩ (fun s' => typeIs_int s' k t) noFill_list_mul F.fills_int_mul F.slot_int_rmul repeat_list F.slot_int_index.lookup
    (call_meets F.slot_int_rmul (typeIs_int s k t) F.entry_int_rmul (F.args_int_rmul_2 _ _) (int___rmul___int_list k t l its.toArray n)
      ⟨e, rfl, ⟨_, e, rfl⟩, call_meets F.slot_list_mul ⟨_, e, rfl⟩ F.entry_list_mul (F.args_list_mul_2 _ _) (AutoListH.list___mul___list_int_3 l its.toArray n k t hfit hcap hlong) ⟨e, ?_⟩⟩)
  rw [hnew]
  exact ⟨.ref _, _, I.laid (t' := s.toks) (o := .lst (List.replicate k.toNat xs).flatten) (fun b o e => Heap.get?_push_of_some _ e) (Nat.le_refl _)
    ⟨by rw [PyProof.Rows.lm_len_rep_flat, Nat.mul_comm, hl, ← List.size_toArray]; exact hlen, _, 0, r.rep k.toNat, Heap.get?_push_size _ rfl⟩, rfl, q _ (I.hok.fresh (Nat.le_refl _))⟩
/-- a text times an int -/
theorem op_strMul : OpR X (binaryOp .Mult) (fun x y H Q => ∃ z k, x = .str (tS z) ∧ y = .int k ∧ -1000 ≤ k ∧ k ≤ 1000 ∧ z.length ≤ 1000 ∧ Q (.str (tS (List.replicate k.toNat z).flatten)) H) := by
  intro pins s σ H x y v u Q I rx ry h
  obtain ⟨z, k, rfl, rfl, h0, h1, hz, q⟩ := h
  obtain ⟨t, rfl⟩ := rx
  obtain ⟨t', rfl⟩ := ry
  have he : Txt.mul (tS z) k = tS (List.replicate k.toNat z).flatten := by
    unfold Txt.mul
    by_cases h : k < 1
    · have : k.toNat = 0 := by omega
      rw [if_pos h, this]; rfl
    · rw [if_neg h]
      have hf : ∀ (n : Nat) (a : List Nat), List.foldl (· ++ ·) a.toArray (List.replicate n z.toArray) = (a ++ (List.replicate n z).flatten).toArray := by
        intro n
        induction n with
        | zero => intro a; simp
        | succ n ih =>
          intro a
          rw [List.replicate_succ, List.foldl_cons, List.replicate_succ, List.flatten_cons, ← List.append_assoc, ← ih (a ++ z)]
          simp
      split
      · rename_i hc
        rw [Bool.or_eq_true] at hc
        rcases hc with hc | hc
        · have : k = 1 := by simpa using hc
          subst this
          simp
        · rw [tS_len] at hc
          have : z = [] := by
            cases z with
            | nil => rfl
            | cons a b => simp at hc
          subst this
          have : ∀ n : Nat, (List.replicate n ([] : List Nat)).flatten = [] := fun n => by
            induction n with
            | zero => rfl
            | succ n ih => rw [List.replicate_succ, List.flatten_cons, ih]; rfl
          rw [this]
      · have := hf k.toNat []
        rw [List.nil_append] at this
        unfold tS
        rw [← this]
  refine SB.mul ⟨?_, fun h _ => ?_, fun h _ => ?_⟩ fun t'' tk => ⟨.str _, H, I.tok _, ⟨_, rfl⟩, by rw [he]; exact q⟩
  · rw [decide_eq_false (by omega), decide_eq_false (by omega)] <;> rfl
  · rw [tS_len]
    have h2 : (2 ^ 63 - 1) / (1000 : Int) ≤ (2 ^ 63 - 1) / k := by
      refine Int.le_ediv_of_mul_le (by omega) ?_
      have : (2 ^ 63 - 1) / (1000 : Int) * k ≤ (2 ^ 63 - 1) / (1000 : Int) * 1000 := Int.mul_le_mul_of_nonneg_left h1 (by decide)
      have h3 : (2 ^ 63 - 1) / (1000 : Int) * 1000 ≤ 2 ^ 63 - 1 := by decide
      omega
    have h4 : (1000 : Int) ≤ (2 ^ 63 - 1) / (1000 : Int) := by decide
    omega
  · rw [tS_len]
    have : z.length * k.toNat ≤ 1000 * 1000 := Nat.mul_le_mul hz (by omega)
    have h5 : 1000 * 1000 ≤ sizeLine := by decide
    show decide (z.length * k.toNat > sizeLine) = false
    exact decide_eq_false (by omega)
theorem ok_mul (hK : X.K = W.K) {m : Bool} : OpR X (binaryOp .Mult) (rO W .mul m) := by
  intro pins s σ H x y v u Q I rx ry h
  obtain ⟨S, F, μ, a, b, R, ra, rb, d, S', e, h⟩ := h
  unfold op2 at e
  simp only at e
  split at e
  · split at e
    · rename_i i j hz
      cases e
      cases ra
      cases rb
      obtain ⟨t, rfl⟩ := rx
      obtain ⟨t', rfl⟩ := ry
      exact PyProof.Rows.mul_int ⟨.int _, H, I.tok _, ⟨_, rfl⟩, new_val R (.int _) h⟩ (mulOk_big hz.1 hz.2)
    · cases e
  · split at e
    · rename_i z j hz
      cases e
      cases ra
      cases rb
      exact op_strMul pins s σ H _ _ v u Q I rx ry ⟨_, _, rfl, rfl, hz.2.1, hz.2.2, hz.1, new_val R (.str _ (by
        rw [PyProof.Rows.lm_len_rep_flat]
        exact Nat.le_trans (Nat.mul_le_mul (show j.toNat ≤ 1000 by omega) hz.1) (by decide))) h⟩
    · cases e
  · split at e
    · rename_i xs j hz
      cases e
      cases rb
      obtain ⟨a1, v1, rfl, q1, r1⟩ := ra.tupS
      rw [← hK] at q1
      have l1 := r1.length
      refine op_tupMul pins s σ H _ _ v u Q I rx ry ⟨_, _, _, rfl, rfl, q1, hz.2.1, hz.2.2, by rw [← l1]; exact hz.1, fun e => ?_, fun p hp => new_tup R (r1.rep _) hp h⟩
      have r2 := r1.rep j.toNat
      rw [e] at r2
      have : (List.replicate j.toNat xs).flatten = xs := by
        have hl := r2.length
        by_cases hj : j.toNat = 1
        · rw [hj]; simp
        · have e2 : (List.replicate j.toNat v1).flatten.length = v1.length := by rw [e]
          rw [PyProof.Rows.lm_len_rep_flat] at e2
          have : xs.length = 0 := by
            rw [l1]
            cases hv : v1.length with
            | zero => rfl
            | succ n =>
              rw [hv] at e2
              have : j.toNat = 1 := by
                cases hjj : j.toNat with
                | zero => rw [hjj] at e2; simp at e2
                | succ m =>
                  rw [hjj] at e2
                  cases m with
                  | zero => rfl
                  | succ m =>
                    have : (m + 1 + 1) * (n + 1) = (n + 1) + (m + 1) * (n + 1) := by rw [Nat.succ_mul]; omega
                    have h6 : 0 < (m + 1) * (n + 1) := Nat.mul_pos (by omega) (by omega)
                    omega
              exact absurd this hj
          have : xs = [] := List.eq_nil_of_length_eq_zero this
          subst this
          have : ∀ n : Nat, (List.replicate n ([] : List D)).flatten = [] := fun n => by
            induction n with
            | zero => rfl
            | succ n ih => rw [List.replicate_succ, List.flatten_cons, ih]; rfl
          rw [this]
      rw [this] at h
      exact new_val R ra h
    · cases e
  · split at e
    · rename_i xs h1
      split at e
      · rename_i hz
        cases rb
        obtain ⟨a1, v1, rfl, q1, r1⟩ := R.lstItems h1 ra
        have l1 := r1.length
        exact op_lstMul pins s σ H _ _ v u Q I rx ry ⟨_, _, _, rfl, rfl, q1, hz.2.1, hz.2.2, by rw [← l1]; exact hz.1, fun p hp => new_lst R (r1.rep _) hp ⟨d, S', e, h⟩⟩
      · cases e
    · cases e
  · cases e
end
end PM
set_option Elab.async false
set_option linter.all false
set_option autoImplicit false
/-! PMLt: u < v of lists, where only the first place that differs is looked at. -/
namespace PySem.SeqAt
open AutoSeq1 (wpAny_loadPart')
open MeetsSeq MeetsSeq2 MeetsSeq3 SeqRoads2
/-- == at each place -/
abbrev PmEq (A : Around) (s : Shared) (u v : Array Value) (e : Nat → Bool) : Prop := ∀ j (p : j < u.size) (q : j < v.size), EqAt A s u[j] v[j] (e j)
/-- < at the first place that differs -/
abbrev PmFst (A : Around) (s : Shared) (u v : Array Value) (e r : Nat → Bool) : Prop := ∀ j (p : j < u.size) (q : j < v.size), e j = false → (∀ i, i < j → e i = true) → RcLt A s u[j] v[j] (r j)
abbrev pmRest (u v : Array Value) (i : Nat) : List Nat := (List.range (min u.size v.size)).drop i
theorem pm_loop (x y : Addr) (u v : Array Value) (m m2 : Nat) (dd dd2 : Option Addr) (sl sl2 : Array (Option Value)) (e r : Nat → Bool) :
    ∀ (k i : Nat), min u.size v.size - i = k → (∀ c, c < i → e c = true) → Meets (Builtin.«list.__eq__.loop» ⟨[.ref x, .ref y, rawInt i, rawInt 0], []⟩)
      (fun A R s => s.heap.get? x = some { cls := .type "list", dict := dd, data := .seq u m, slots := sl } ∧ s.heap.get? y = some { cls := .type "list", dict := dd2, data := .seq v m2, slots := sl2 } ∧
        PmEq A.in1 s u v e ∧ PmFst A.in1 s u v e r ∧ R (.ok (.ret (.bool (firstLt e r (decide (u.size < v.size)) (pmRest u v i))))) s)
  | 0, i, hk, _ => by
    rintro prog w A R ⟨hp, g, d, tk, os⟩ ⟨hx, hy, he, hr, h⟩
    have hnil : pmRest u v i = [] := by unfold pmRest; simp; omega
    rw [hnil] at h
    wp_walk using wpAny_loadPart' hx, wpAny_loadPart' hy
    rcases Nat.lt_or_ge i u.size with hlt | hge
    · have a1 : u[((i : Nat) : Int).toNat]? = some u[i] := by simp [hlt]
      have a2 : v[((i : Nat) : Int).toNat]? = none := by simp; omega
      rw [a1, a2]
      wp_walk using wpAny_loadPart' hx, wpAny_loadPart' hy
      exact h
    · have a1 : u[((i : Nat) : Int).toNat]? = none := by simp; omega
      rw [a1]
      wp_walk using wpAny_loadPart' hx, wpAny_loadPart' hy
      exact h
  | k + 1, i, hk, hb => by
    rintro prog w A R ⟨hp, g, d, tk, os⟩ ⟨hx, hy, he, hr, h⟩
    wp_walk using wpAny_loadPart' hx, wpAny_loadPart' hy
    have l0 : i < min u.size v.size := by omega
    have l1 : i < u.size := by omega
    have l2 : i < v.size := by omega
    have a1 : u[((i : Nat) : Int).toNat]? = some u[i] := by simp [l1]
    have a2 : v[((i : Nat) : Int).toNat]? = some v[i] := by simp [l2]
    have hcons : pmRest u v i = i :: pmRest u v (i + 1) := by unfold pmRest; simp [List.drop_eq_getElem_cons, l0]
    have hnext : ((i : Int) + 1) = ((i + 1 : Nat) : Int) := by push_cast; rfl
    rw [hcons] at h
    rw [a1, a2]
    refine wpAny_bind (he i l1 l2 prog w _ _ ?_)
    rcases q : e i with _ | _
    · rw [firstLt_no q] at h
      wp_walk using wpAny_loadPart' hx, wpAny_loadPart' hy
      rw [a1, a2]
      refine wpAny_bind (hr i l1 l2 q hb prog w _ _ ?_)
      wp_walk
      exact h
    · rw [firstLt_yes q] at h
      wp_walk
      rw [hnext]
      refine ⟨plainId_quiet plain_eq_loop _, codeAny_builtin entry_eq_loop ?_⟩
      rw [Around.under_plainId plain_eq_loop _]
      refine pm_loop x y u v m m2 dd dd2 sl sl2 e r k (i + 1) (by omega) (fun c hc => ?_) prog w A R _ ⟨hx, hy, he, hr, h⟩
      rcases Nat.lt_succ_iff_lt_or_eq.mp hc with z | z
      · exact hb c z
      · rw [z]; exact q
theorem pm_ltAt (x y : Addr) (u v : Array Value) (m m2 : Nat) (dd dd2 : Option Addr) (sl sl2 : Array (Option Value)) (e r : Nat → Bool) :
    Meets (Builtin.«list.__lt__» ⟨[.ref x, .ref y], []⟩)
      (fun A R s => s.heap.get? x = some { cls := .type "list", dict := dd, data := .seq u m, slots := sl } ∧ s.heap.get? y = some { cls := .type "list", dict := dd2, data := .seq v m2, slots := sl2 } ∧
        PmEq A.in1 s u v e ∧ PmFst A.in1 s u v e r ∧ R (.ok (.ret (.bool (firstLt e r (decide (u.size < v.size)) (List.range (min u.size v.size)))))) s) := by
  rintro prog w A R ⟨hp, g, d, tk, os⟩ ⟨hx, hy, he, hr, h⟩
  have f3 := AutoSeq1.sub_list_list
  wp_walk using wpAny_loadPart' hx, wpAny_loadPart' hy
  refine ⟨plainId_quiet plain_eq_loop _, codeAny_builtin entry_eq_loop ?_⟩
  rw [Around.under_plainId plain_eq_loop _]
  exact pm_loop x y u v m m2 dd dd2 sl sl2 e r _ 0 rfl (fun c hc => by omega) prog w A R _ ⟨hx, hy, he, hr, by simpa [pmRest] using h⟩
section
variable {A : Around} {s : Shared}
theorem RcLt.lists1 {x y : Addr} {u v : Array Value} {e r : Nat → Bool} (hx : s.heap.IsList x u) (hy : s.heap.IsList y v) (hu : A.units < cLine) (he : PmEq A.in1 s u v e) (hr : PmFst A.in1 s u v e r) :
    RcLt A s (.ref x) (.ref y) (firstLt e r (decide (u.size < v.size)) (List.range (min u.size v.size))) := by
  intro prog w E Q h
  obtain ⟨⟨c1, d1, t1, l1⟩, o1, rfl, n1, rfl⟩ := id hx
  obtain ⟨⟨c2, d2, t2, l2⟩, o2, rfl, n2, rfl⟩ := id hy
  refine richCompare_meets_room (op := .Lt) ⟨_, o1, rfl⟩ ⟨_, o2, rfl⟩ F.slot_list_lt F.entry_list_lt (F.args_list_lt_2 _ _) (pm_ltAt x y u v n1 n2 d1 d2 l1 l2 e r) ⟨o1, o2, he, hr, ?_⟩ hu
  exact ⟨(fun z => nomatch z), h⟩
end
end PySem.SeqAt
set_option Elab.async false
set_option linter.all false
set_option autoImplicit false
set_option maxHeartbeats 4000000
/-! PMCmp: comparisons. -/
namespace PM
open PySem L2
theorem ltT_eq : ∀ (x y : Txt), decide (x < y) = ltT x y
  | [], [] => by unfold ltT; simp
  | [], _ :: _ => by unfold ltT; simp
  | _ :: _, [] => by unfold ltT; simp
  | a :: r, b :: t => by
    unfold ltT
    have ih := ltT_eq r t
    by_cases h : a < b
    · rw [if_pos h]
      exact decide_eq_true (List.Lex.rel h)
    · rw [if_neg h]
      by_cases h2 : a = b
      · subst h2
        rw [if_pos rfl, ← ih]
        rw [decide_eq_decide]
        constructor
        · intro q
          cases q with
          | rel z => exact absurd z h
          | cons z => exact z
        · intro q
          exact List.Lex.cons q
      · rw [if_neg h2]
        refine decide_eq_false fun q => ?_
        cases q with
        | rel z => exact h z
        | cons z => exact h2 rfl
theorem tS_toList (x : Txt) : (tS x).cps.toList = x := by unfold tS; simp
theorem pyL_len : ∀ (xs : List D), (pyL xs).length = xs.length
  | [] => rfl
  | _ :: r => by unfold pyL; rw [List.length_cons, List.length_cons, pyL_len r]
open PySem.W PySem.SeqAt in
mutual
/-- a < b of data -/
theorem rc_lt : ∀ (x y : D) (k : Bool) (A : Around) (s : Shared) (a b : Value) (as bs : List Addr), x.pl = true → y.pl = true → D.lt x y = some k → Reads s.heap a (pyD x) as → Reads s.heap b (pyD y) bs → A.units + min (pyD x).depth (pyD y).depth < cLine → RcLt A s a b k
  | .int i, y, k, A, s, a, b, as, bs, _, _, h, ra, rb, hu => by
    cases y <;> first
      | (simp [D.lt] at h; done)
      | (unfold D.lt at h; cases h; rw [← dataLt_int]; exact rcLt_alike _ _ A s a b as bs ra rb rfl (fun q => nomatch q) hu)
  | .str i, y, k, A, s, a, b, as, bs, _, _, h, ra, rb, hu => by
    cases y with
    | str j =>
      unfold D.lt at h
      cases h
      have e : dataLt (.str (tS i)) (.str (tS j)) = ltT i j := by rw [dataLt_str, tS_toList, tS_toList, ltT_eq]
      rw [← e]
      exact rcLt_alike _ _ A s a b as bs ra rb rfl (fun q => nomatch q) hu
    | _ => simp [D.lt] at h
  | .lst xs, y, k, A, s, a, b, as, bs, h0, h1, h, ra, rb, hu => by
    cases y with
    | lst ys =>
      unfold D.lt at h
      unfold D.pl at h0 h1
      unfold pyD at ra rb hu
      cases ra with
      | @list l o vs n _ as₁ g1 g2 g3 g4 =>
        cases rb with
        | @list l' o' vs' n' _ bs₁ k1 k2 k3 k4 =>
          have n1 : vs.size = (pyL xs).length := by simpa using ReadsAll.length _ _ _ g4
          have n2 : vs'.size = (pyL ys).length := by simpa using ReadsAll.length _ _ _ k4
          obtain ⟨r, q1, q2⟩ := rc_ltL xs ys k A.in1 s vs.toList vs'.toList _ _ h0 h1 h g4 k4 (room_in hu)
          have e1 : PmEq A.in1 s vs vs' (pairEq (pyL xs) (pyL ys)) := fun j j1 j2 => by
            have := eqAt_readsAll (pyL xs) (pyL ys) A.in1 s vs.toList vs'.toList _ _ g4 k4 (canLay_plL _ h0) (canLay_plL _ h1) (room_in hu) j (by simpa using j1) (by simpa using j2)
            simpa using this
          have e2 : PmFst A.in1 s vs vs' (pairEq (pyL xs) (pyL ys)) r := fun j j1 j2 z1 z2 => by
            have := q1 j (by simpa using j1) (by simpa using j2) z1 z2
            simpa using this
          have := RcLt.lists1 ⟨_, g1, g2, _, g3⟩ ⟨_, k1, k2, _, k3⟩ (room_here hu) e1 e2
          rw [n1, n2, q2] at this
          exact this
    | _ => simp [D.lt] at h
  | .tup _, y, _, _, _, _, _, _, _, _, _, h, _, _, _ => by cases y <;> simp [D.lt] at h
  | .non, y, _, _, _, _, _, _, _, _, _, h, _, _, _ => by cases y <;> simp [D.lt] at h
  | .bl _, y, _, _, _, _, _, _, _, _, _, h, _, _, _ => by cases y <;> simp [D.lt] at h
  | .dct _, y, _, _, _, _, _, _, _, _, _, h, _, _, _ => by cases y <;> simp [D.lt] at h
  | .ins _ _, y, _, _, _, _, _, _, _, _, _, h, _, _, _ => by cases y <;> simp [D.lt] at h
  | .exn _ _, y, _, _, _, _, _, _, _, _, _, h, _, _, _ => by cases y <;> simp [D.lt] at h
  | .err _ _, y, _, _, _, _, _, _, _, _, _, h, _, _, _ => by cases y <;> simp [D.lt] at h
  | .loc _, y, _, _, _, _, _, _, _, _, _, h, _, _, _ => by cases y <;> simp [D.lt] at h
theorem rc_ltL : ∀ (xs ys : List D) (k : Bool) (A : Around) (s : Shared) (vs ws : List Value) (as bs : List Addr), D.plL xs = true → D.plL ys = true → D.ltL xs ys = some k → ReadsAll s.heap vs (pyL xs) as → ReadsAll s.heap ws (pyL ys) bs → A.units + min (PyData.depthAll (pyL xs)) (PyData.depthAll (pyL ys)) < cLine →
    ∃ r : Nat → Bool, (∀ j (p : j < vs.length) (q : j < ws.length), pairEq (pyL xs) (pyL ys) j = false → (∀ i, i < j → pairEq (pyL xs) (pyL ys) i = true) → RcLt A s vs[j] ws[j] (r j)) ∧
      firstLt (pairEq (pyL xs) (pyL ys)) r (decide ((pyL xs).length < (pyL ys).length)) (List.range (min (pyL xs).length (pyL ys).length)) = k
  | [], ys, k, A, s, vs, ws, as, bs, _, _, h, ra, rb, _ => by
    refine ⟨fun _ => false, fun j p q => ?_, ?_⟩
    · cases ra; exact absurd p (Nat.not_lt_zero _)
    · cases ys with
      | nil => unfold D.ltL at h; cases h; simp [pyL, firstLt]
      | cons y t => unfold D.ltL at h; cases h; simp [pyL, firstLt]
  | x :: xs, [], k, A, s, vs, ws, as, bs, _, _, h, ra, rb, _ => by
    refine ⟨fun _ => false, fun j p q => ?_, ?_⟩
    · cases rb; exact absurd q (Nat.not_lt_zero _)
    · unfold D.ltL at h; cases h; simp [pyL, firstLt]
  | x :: xs, y :: ys, k, A, s, vs, ws, as, bs, h0, h1, h, ra, rb, hu => by
    obtain ⟨a0, b0⟩ := pl_cons h0
    obtain ⟨a1, b1⟩ := pl_cons h1
    unfold pyL at ra rb hu ⊢
    cases ra with
    | @cons v vs _ _ as1 as2 r1 r2 =>
      cases rb with
      | @cons w ws _ _ bs1 bs2 s1 s2 =>
        have em : min (pyD x :: pyL xs).length (pyD y :: pyL ys).length = min (pyL xs).length (pyL ys).length + 1 := by
          rw [List.length_cons, List.length_cons]; omega
        have ed : decide ((pyD x :: pyL xs).length < (pyD y :: pyL ys).length) = decide ((pyL xs).length < (pyL ys).length) := by
          rw [List.length_cons, List.length_cons]; exact decide_eq_decide.mpr (by omega)
        rw [em, ed, List.range_succ_eq_map]
        unfold D.ltL at h
        split at h
        · rename_i e
          rw [← eqv_pl x y a0 a1] at e
          obtain ⟨r, q1, q2⟩ := rc_ltL xs ys k A s vs ws as2 bs2 b0 b1 h r2 s2 (room_tail hu)
          refine ⟨fun j => r (j - 1), fun j p q z1 z2 => ?_, ?_⟩
          · cases j with
            | zero => exact absurd (show PyData.eqv (pyD x) (pyD y) = false from z1) (by rw [e]; simp)
            | succ j => exact q1 j (Nat.lt_of_succ_lt_succ p) (Nat.lt_of_succ_lt_succ q) z1 fun i hi => z2 (i + 1) (Nat.succ_lt_succ hi)
          · rw [firstLt_yes (show pairEq (pyD x :: pyL xs) (pyD y :: pyL ys) 0 = true from e), firstLt_map]
            exact q2
        · rename_i e
          rw [← eqv_pl x y a0 a1] at e
          have e' : PyData.eqv (pyD x) (pyD y) = false := by simpa using e
          refine ⟨fun _ => k, fun j p q z1 z2 => ?_, ?_⟩
          · cases j with
            | zero => exact rc_lt x y k A s v w as1 bs1 a0 a1 h r1 s1 (room_head hu)
            | succ j => exact absurd (show PyData.eqv (pyD x) (pyD y) = true from z2 0 (Nat.succ_pos _)) (by rw [e']; simp)
          · rw [firstLt_no (show pairEq (pyD x :: pyL xs) (pyD y :: pyL ys) 0 = false from e')]
end
section
variable {W : Wd} {X : Cx}
theorem strs_eq (x y : Txt) : D.eqv (.str x) (.str y) = decide (V.str (tS x) = V.str (tS y)) := by
  unfold D.eqv
  by_cases h : x = y
  · subst h; simp
  · have : ¬ V.str (tS x) = V.str (tS y) := fun e => h (tS_inj (V.str.inj e))
    rw [decide_eq_false this]
    exact beq_eq_false_iff_ne.mpr h
theorem room2 {A : Around} {a b : PyData} (hu : A.units + 160 < cLine) (ha : a.depth ≤ 150) : A.units + min a.depth b.depth < cLine := by
  have : min a.depth b.depth ≤ a.depth := Nat.min_le_left _ _
  omega
/-- both sides as plain data -/
theorem bothDr_dp {S : St} {a b : D} {f : D → D → Option D} {r : D × St} (h : bothDr S a b f = some r) :
    (∃ x y, a = .str x ∧ b = .str y ∧ (f (.str x) (.str y)).map (fun d => (d, S)) = some r) ∨ ∃ x y, a.dp S = some x ∧ b.dp S = some y ∧ (f x y).map (fun d => (d, S)) = some r := by
  unfold bothDr at h
  split at h
  · exact .inl ⟨_, _, rfl, rfl, h⟩
  · split at h
    · rename_i x y e1 e2
      exact .inr ⟨x, y, e1, e2, h⟩
    · cases h
theorem RepK.get {F : Addr → Prop} {μ : List Addr} {H : Hp} (k : Key) : ∀ {kvs : List (Key × D)} {ws : List (L2.Key × V)}, RepK W F μ H kvs ws →
    (getK kvs k = none ∧ valV ws (kQ k) = none) ∨ ∃ d v, getK kvs k = some d ∧ valV ws (kQ k) = some v ∧ Rep W F μ H d v
  | _, _, .nil => .inl ⟨rfl, rfl⟩
  | _, _, .cons (k := q) (x := x) (v := v) _ a b => by
    unfold getK valV
    by_cases e : q = k
    · subst e
      rw [List.find?_cons_of_pos (by simp), List.find?_cons_of_pos (by simp)]
      exact .inr ⟨x, v, rfl, rfl, a⟩
    · have e' : ¬ kQ q = kQ k := fun z => e (kQ_inj z)
      rw [List.find?_cons_of_neg (by simpa using e), List.find?_cons_of_neg (by simpa using e')]
      exact RepK.get k b
theorem RepK.length {F : Addr → Prop} {μ : List Addr} {H : Hp} : ∀ {kvs : List (Key × D)} {ws : List (L2.Key × V)}, RepK W F μ H kvs ws → ws.length = kvs.length
  | _, _, .nil => rfl
  | _, _, .cons _ _ b => by rw [List.length_cons, List.length_cons, RepK.length b]
theorem eq2_ok (hK : X.K = W.K) (hu : X.A.units + 160 < cLine) {F : Addr → Prop} {μ : List Addr} {pins : List (Addr × Obj)} {σ : L2.St} {H : Hp} {s : Shared} {S : St} {a b : D} {v u : V} {x y : Value} {t : Bool} {E : Value → Shared → Prop} (I : Inv X pins σ H s) (R : Rl W F μ H S) (ra : Rep W F μ H a v) (rb : Rep W F μ H b u) (rx : RelV v x) (ry : RelV u y) (e : eq2 S a b = some t) :
    (∀ Q : Value → Shared → Prop, Q (.bool t) s → wpAny (model X.prog X.w) X.A (compareOp .Eq x y) Q E s) ∧ ∀ Q : Value → Shared → Prop, Q (.bool (!t)) s → wpAny (model X.prog X.w) X.A (compareOp .NotEq x y) Q E s := by
  have hu1 : X.A.units < cLine := by omega
  unfold eq2 at e
  split at e
  · rename_i xs
    cases e
    obtain ⟨p, vs, rfl, sq, r⟩ := ra.tupS
    obtain ⟨q, ws, rfl, sq2, r2⟩ := rb.tupS
    cases r2
    cases rx
    cases ry
    rw [← hK] at sq sq2
    obtain ⟨i1, w1, t1, _⟩ := I.tuple sq
    obtain ⟨i2, w2, t2, _⟩ := I.tuple sq2
    cases w2
    have hl : i1.length = xs.length := by rw [← w1.length, ← r.length]
    have hb : ((List.range (min i1.toArray.size ([] : List Value).toArray.size)).all (fun _ => true) && i1.toArray.size == ([] : List Value).toArray.size) = xs.isEmpty := by
      cases xs with
      | nil => cases i1 <;> simp at hl ⊢
      | cons _ _ => cases i1 <;> simp at hl ⊢
    have c1 := SeqAt.RcAt.tuples (e := fun _ => true) t1 t2 hu1 (fun j _ h2 => absurd h2 (Nat.not_lt_zero _))
    have c2 := SeqAt.RcNeAt.tuples (e := fun _ => true) t1 t2 hu1 (fun j _ h2 => absurd h2 (Nat.not_lt_zero _))
    rw [hb] at c1 c2
    exact ⟨fun Q h => c1 X.prog X.w E Q h, fun Q h => c2 X.prog X.w E Q h⟩
  · split at e
    · rename_i xs e1 e2
      cases e
      obtain ⟨p, vs, rfl, sq, r⟩ := R.lstItems e1 ra
      obtain ⟨q, ws, rfl, sq2, r2⟩ := R.lstItems e2 rb
      cases r2
      cases rx
      cases ry
      obtain ⟨i1, w1, ⟨o1, n1, g1, g2, _, g3⟩, _⟩ := I.list (.inl sq)
      obtain ⟨i2, w2, ⟨o2, n2, k1, k2, _, k3⟩, _⟩ := I.list (.inl sq2)
      cases w2
      have hl : i1.length = xs.length := by rw [← w1.length, ← r.length]
      cases xs with
      | nil =>
        cases i1 with
        | cons _ _ => simp at hl
        | nil =>
          have c1 := SeqAt.RcAt.lists (e := fun _ => true) ⟨o1, g1, g2, n1, g3⟩ ⟨o2, k1, k2, n2, k3⟩ rfl hu1 (fun j _ h2 => absurd h2 (Nat.not_lt_zero _))
          have c2 := SeqAt.RcNeAt.lists (e := fun _ => true) ⟨o1, g1, g2, n1, g3⟩ ⟨o2, k1, k2, n2, k3⟩ rfl hu1 (fun j _ h2 => absurd h2 (Nat.not_lt_zero _))
          exact ⟨fun Q h => c1 X.prog X.w E Q h, fun Q h => c2 X.prog X.w E Q h⟩
      | cons _ _ =>
        have c1 := SeqAt.RcAt.lists_lengths ⟨o1, g1, g2, n1, g3⟩ ⟨o2, k1, k2, n2, k3⟩ (by simp [hl]) hu1
        have c2 := SeqAt.RcNeAt.lists_lengths ⟨o1, g1, g2, n1, g3⟩ ⟨o2, k1, k2, n2, k3⟩ (by simp [hl]) hu1
        exact ⟨fun Q h => c1 X.prog X.w E Q h, fun Q h => c2 X.prog X.w E Q h⟩
    · split at e
      · rename_i ka kb e1 e2
        obtain ⟨p, ws, rfl, q1, r1⟩ := R.pairs e1 ra
        obtain ⟨q, us, rfl, q2, r2⟩ := R.pairs e2 rb
        cases rx
        cases ry
        obtain ⟨_, s1, va, kv1, d1⟩ := dk_rd I.hok q1
        obtain ⟨_, s2, vb, kv2, d2⟩ := dk_rd I.hok q2
        have l1 : ka.length = va.length := by rw [← Paired.length kv1, r1.length]
        have l2 : kb.length = vb.length := by rw [← Paired.length kv2, r2.length]
        have hits : ∀ {ka : List (Key × D)} {ws : List (L2.Key × V)} {va : List (L2.Key × Value)} {t : Bool}, RepK W F μ H ka ws → KV ws va → dHits S kb ka = some t → PySem.W.KeqHits X.A.in1 s vb va t := by
          intro ka
          induction ka with
          | nil =>
            intro ws va t r kv e
            cases r
            cases kv
            cases e
            exact .nil
          | cons z ka ih =>
            obtain ⟨k, d⟩ := z
            intro ws va t r kv e
            cases r with
            | @cons _ _ v _ vs _ ra' rr =>
              cases kv with
              | @cons _ z _ _ hz kv =>
                obtain ⟨zk, zv⟩ := z
                obtain ⟨rfl, hz⟩ := hz
                unfold dHits at e
                have rel := KV.val kv2 (kQ k)
                rcases RepK.get k r2 with ⟨z1, z2⟩ | ⟨dd, w, z1, z2, rw'⟩
                · rw [z1] at e
                  cases e
                  rw [z2] at rel
                  exact .miss (RelO.none_of (by simpa using rel))
                · rw [z1] at e
                  rw [z2] at rel
                  obtain ⟨w', hw, rw2⟩ := RelO.some_of rel
                  simp only at e
                  split at e
                  · rename_i pp qq tt h1 h2 h3
                    cases e
                    obtain ⟨p1, k1, l1⟩ := dp_ok R h1 ra'
                    obtain ⟨p2, k2, l2⟩ := dp_ok R h2 rw'
                    rw [← hK] at p1 p2
                    obtain ⟨as, g1⟩ := Dp.reads I _ _ _ p1 hz
                    obtain ⟨bs, g2⟩ := Dp.reads I _ _ _ p2 rw2
                    have := SeqAt.eqAt_reads _ _ X.A.in1 s _ _ as bs g1 g2 (canLay_pl _ l1) (canLay_pl _ l2) (by
                      have := Nat.min_le_left (pyD pp).depth (pyD qq).depth
                      show X.A.units + 1 + _ < cLine
                      omega)
                    rw [eqv_pl _ _ l1 l2] at this
                    exact .hit hw this (ih rr kv h3)
                  · cases e
        split at e
        · rename_i hl
          have hh : ∃ tt, PySem.W.KeqHits X.A.in1 s vb va tt ∧ t = tt := ⟨t, hits r1 kv1 e, rfl⟩
          have hlen : (va.length == vb.length) = true := by simp; omega
          exact ⟨fun Q h => PySem.W.keq_eq s1 s2 d1 d2 hu1 (fun _ => hits r1 kv1 e) (by rw [hlen, Bool.true_and]; exact h), fun Q h => PySem.W.keq_ne s1 s2 d1 d2 hu1 (fun _ => hits r1 kv1 e) (by rw [hlen, Bool.true_and]; exact h)⟩
        · rename_i hl
          cases e
          have hlen : (va.length == vb.length) = false := by simp; omega
          have hne : ∀ r, va.length = vb.length → PySem.W.KeqHits X.A.in1 s vb va r := fun r z => by simp [z] at hlen
          exact ⟨fun Q h => PySem.W.keq_eq (r := true) s1 s2 d1 d2 hu1 (hne _) (by rw [hlen]; exact h), fun Q h => PySem.W.keq_ne (r := true) s1 s2 d1 d2 hu1 (hne _) (by rw [hlen]; exact h)⟩
      · cases e
theorem ok_eq (hK : X.K = W.K) (hu : X.A.units + 160 < cLine) {m : Bool} : OpR X (compareOp .Eq) (rO W .eq m) := by
  intro pins s σ H x y v u Q I rx ry h
  obtain ⟨S, F, μ, a, b, R, ra, rb, d, S', e, h⟩ := h
  unfold op2 at e
  simp only at e
  split at e
  case h_2 =>
    obtain ⟨t, e1, e2⟩ := Option.map_eq_some_iff.mp e
    cases e2
    exact (eq2_ok hK hu I R ra rb rx ry e1).1 _ ⟨.bl _, H, I, rfl, new_val R (.bl _) h⟩
  rename_i rr e0
  cases e
  have e := e0
  rcases bothDr_dp e with ⟨x, y, rfl, rfl, e⟩ | ⟨x, y, e1, e2, e⟩
  · cases e
    cases ra
    cases rb
    refine op_eq pins s σ H _ _ v u Q I rx ry ⟨rfl, ?_⟩
    rw [← strs_eq]
    exact new_val R (.bl _) h
  · cases e
    obtain ⟨p1, k1, l1⟩ := dp_ok R e1 ra
    obtain ⟨p2, k2, l2⟩ := dp_ok R e2 rb
    rw [← hK] at p1 p2
    obtain ⟨as, r1⟩ := Dp.reads I _ _ v p1 rx
    obtain ⟨bs, r2⟩ := Dp.reads I _ _ u p2 ry
    refine SeqAt.compareEq_reads r1 r2 (canLay_pl _ l1) (canLay_pl _ l2) (room2 hu k1) ⟨.bl _, H, I, rfl, ?_⟩
    rw [eqv_pl _ _ l1 l2]
    exact new_val R (.bl _) h
theorem ok_ne (hK : X.K = W.K) (hu : X.A.units + 160 < cLine) {m : Bool} : OpR X (compareOp .NotEq) (rO W .ne m) := by
  intro pins s σ H x y v u Q I rx ry h
  obtain ⟨S, F, μ, a, b, R, ra, rb, d, S', e, h⟩ := h
  unfold op2 at e
  simp only at e
  split at e
  case h_2 =>
    obtain ⟨t, e1, e2⟩ := Option.map_eq_some_iff.mp e
    cases e2
    exact (eq2_ok hK hu I R ra rb rx ry e1).2 _ ⟨.bl _, H, I, rfl, new_val R (.bl _) h⟩
  rename_i rr e0
  cases e
  have e := e0
  rcases bothDr_dp e with ⟨x, y, rfl, rfl, e⟩ | ⟨x, y, e1, e2, e⟩
  · cases e
    cases ra
    cases rb
    refine op_ne pins s σ H _ _ v u Q I rx ry ⟨rfl, ?_⟩
    rw [← strs_eq]
    exact new_val R (.bl _) h
  · cases e
    obtain ⟨p1, k1, l1⟩ := dp_ok R e1 ra
    obtain ⟨p2, k2, l2⟩ := dp_ok R e2 rb
    rw [← hK] at p1 p2
    obtain ⟨as, r1⟩ := Dp.reads I _ _ v p1 rx
    obtain ⟨bs, r2⟩ := Dp.reads I _ _ u p2 ry
    refine SeqAt.compareNe_reads r1 r2 (canLay_pl _ l1) (canLay_pl _ l2) (room2 hu k1) ⟨.bl _, H, I, rfl, ?_⟩
    rw [eqv_pl _ _ l1 l2]
    exact new_val R (.bl _) h
theorem ok_lt (hK : X.K = W.K) (hu : X.A.units + 160 < cLine) {m : Bool} : OpR X (compareOp .Lt) (rO W .lt m) := by
  intro pins s σ H x y v u Q I rx ry h
  obtain ⟨S, F, μ, a, b, R, ra, rb, d, S', e, h⟩ := h
  unfold op2 at e
  simp only at e
  rcases bothDr_dp e with ⟨x, y, rfl, rfl, e3⟩ | ⟨x, y, e1, e2, e3⟩
  · obtain ⟨_, e4, e'⟩ := Option.map_eq_some_iff.mp e3
    obtain ⟨k, e5, rfl⟩ := Option.map_eq_some_iff.mp e4
    cases e'
    · cases ra
      cases rb
      unfold D.lt at e5
      cases e5
      refine op_lt_str pins s σ H _ _ v u Q I rx ry ⟨_, _, rfl, rfl, ?_⟩
      rw [tS_toList, tS_toList, ltT_eq]
      exact new_val R (.bl _) h
  · obtain ⟨_, e4, e'⟩ := Option.map_eq_some_iff.mp e3
    obtain ⟨k, e5, rfl⟩ := Option.map_eq_some_iff.mp e4
    cases e'
    obtain ⟨p1, k1, l1⟩ := dp_ok R e1 ra
    obtain ⟨p2, k2, l2⟩ := dp_ok R e2 rb
    rw [← hK] at p1 p2
    obtain ⟨as, r1⟩ := Dp.reads I _ _ v p1 rx
    obtain ⟨bs, r2⟩ := Dp.reads I _ _ u p2 ry
    exact rc_lt x y k X.A s v u as bs l1 l2 e5 r1 r2 (room2 hu k1) X.prog X.w X.xe _ ⟨.bl _, H, I, rfl, new_val R (.bl _) h⟩
theorem ok_gt {m : Bool} : OpR X (compareOp .Gt) (rO W .gt m) := by
  intro pins s σ H x y v u Q I rx ry h
  obtain ⟨S, F, μ, a, b, R, ra, rb, d, S', e, h⟩ := h
  unfold op2 at e
  simp only at e
  split at e
  · cases e
    cases ra
    cases rb
    exact op_gt pins s σ H _ _ v u Q I rx ry ⟨_, _, rfl, rfl, new_val R (.bl _) h⟩
  · cases e
    cases ra
    cases rb
    refine op_gt_str pins s σ H _ _ v u Q I rx ry ⟨_, _, rfl, rfl, ?_⟩
    rw [tS_toList, tS_toList, ltT_eq]
    exact new_val R (.bl _) h
  · cases e
theorem ok_le {m : Bool} : OpR X (compareOp .LtE) (rO W .le m) := by
  intro pins s σ H x y v u Q I rx ry h
  obtain ⟨S, F, μ, a, b, R, ra, rb, d, S', e, h⟩ := h
  unfold op2 at e
  simp only at e
  split at e
  · cases e
    cases ra
    cases rb
    exact op_le pins s σ H _ _ v u Q I rx ry ⟨_, _, rfl, rfl, new_val R (.bl _) h⟩
  · cases e
    cases ra
    cases rb
    refine op_le_str pins s σ H _ _ v u Q I rx ry ⟨_, _, rfl, rfl, ?_⟩
    rw [tS_toList, tS_toList, ltT_eq]
    exact new_val R (.bl _) h
  · cases e
theorem ok_ge {m : Bool} : OpR X (compareOp .GtE) (rO W .ge m) := by
  intro pins s σ H x y v u Q I rx ry h
  obtain ⟨S, F, μ, a, b, R, ra, rb, d, S', e, h⟩ := h
  unfold op2 at e
  simp only at e
  split at e
  · cases e
    cases ra
    cases rb
    exact op_ge pins s σ H _ _ v u Q I rx ry ⟨_, _, rfl, rfl, new_val R (.bl _) h⟩
  · cases e
    cases ra
    cases rb
    refine op_ge_str pins s σ H _ _ v u Q I rx ry ⟨_, _, rfl, rfl, ?_⟩
    rw [tS_toList, tS_toList, ltT_eq]
    exact new_val R (.bl _) h
  · cases e
theorem keyOf_rep {F : Addr → Prop} {μ : List Addr} {H : Hp} {a : D} {k : Key} {v : V} (h : keyOf a = some k) (r : Rep W F μ H a v) : v = kV (kQ k) := by
  cases r <;> simp [keyOf] at h
  all_goals (subst h; rfl)
theorem any_pl (x : D) (hx : x.pl = true) : ∀ (zs : List D), D.plL zs = true → ((pyL zs).any fun z => PyData.eqv z (pyD x)) = zs.any fun z => D.eqv z x
  | [], _ => rfl
  | z :: r, h => by
    obtain ⟨a, b⟩ := pl_cons h
    unfold pyL
    rw [List.any_cons, List.any_cons, any_pl x hx r b, eqv_pl z x a hx]
/-- the items that a thing holds, as plain data -/
theorem dp_items {F : Addr → Prop} {μ : List Addr} {H : Hp} {S : St} (R : Rl W F μ H S) {ys zs : List D} {vs : List V} (h : D.dp S (.lst ys) = some (.lst zs)) (r : RepL W F μ H ys vs) :
    DpAll W.K H vs (pyL zs) ∧ PyData.depthAll (pyL zs) ≤ 149 ∧ D.plL zs = true := by
  unfold D.dp at h
  split at h
  · rename_i x e
    split at h
    · rename_i p
      cases h
      unfold D.dr at e
      obtain ⟨ts, e1, e2⟩ := Option.map_eq_some_iff.mp e
      cases e2
      unfold D.pl at p
      obtain ⟨a, b⟩ := mapO_dp (dp_of R 149) e1 p r
      exact ⟨a, b, p⟩
    · cases h
  · cases h
theorem room3 {A : Around} {xs : List PyData} {d : PyData} (hu : A.units + 160 < cLine) (ha : d.depth ≤ 150) : A.units + 1 + min (PyData.depthAll xs) d.depth < cLine := by
  have : min (PyData.depthAll xs) d.depth ≤ d.depth := Nat.min_le_right _ _
  omega
theorem ok_isin (hK : X.K = W.K) (hu : X.A.units + 160 < cLine) {m : Bool} : OpR X (compareOp .In) (rO W .isin m) := by
  intro pins s σ H x y v u Q I rx ry h
  obtain ⟨S, F, μ, a, b, R, ra, rb, d, S', e, h⟩ := h
  unfold op2 op2.isIn at e
  simp only at e
  split at e
  · cases e
    cases ra
    cases rb
    refine op_in_sign pins s σ H _ _ v u Q I rx ry ⟨_, _, rfl, rfl, ?_⟩
    rw [tS_toList]
    refine new_val R ?_ h
    rw [Bool.false_bne, List.contains_eq_mem]
    exact .bl _
  · split at e
    · rename_i kvs k e1 e2
      cases e
      obtain ⟨p, ws, rfl, q, r⟩ := R.pairs e1 rb
      obtain rfl := keyOf_rep e2 ra
      cases ry
      refine d_in (by omega) I (dgetK (k := kQ k) q) rx fun s' I' => ⟨.bl _, H, I', rfl, ?_⟩
      refine new_val R ?_ h
      rw [Bool.false_bne]
      rcases RepK.get k r with ⟨z1, z2⟩ | ⟨_, _, z1, z2, _⟩ <;> rw [z1, z2] <;> exact .bl _
    · split at e
      · rename_i ys e1
        split at e
        · rename_i xx zs e2 e3
          cases e
          obtain ⟨p1, k1, l1⟩ := dp_ok R e2 ra
          obtain ⟨p, vs, rfl, sq, r⟩ := R.items e1 rb
          obtain ⟨p2, k2, l2⟩ := dp_items R e3 r
          rw [← hK] at p1 p2 sq
          obtain ⟨as, r1⟩ := Dp.reads I _ _ v p1 rx
          have fin : Q (.bl ((pyL zs).any fun z => PyData.eqv z (pyD xx))) H := by
            rw [any_pl xx l1 zs l2]
            refine new_val R ?_ h
            rw [Bool.false_bne]
            exact .bl _
          rcases sq with sq | sq
          · obtain ⟨bs, r2⟩ := Dp.reads I (.list (pyL zs)) _ u (.lst sq p2) ry
            exact SeqAt.in_list_reads r2 r1 (canLay_plL _ l2) (canLay_pl _ l1) (room3 hu k1) ⟨.bl _, H, I, rfl, fin⟩
          · obtain ⟨bs, r2⟩ := Dp.reads I (.tuple (pyL zs)) _ u (.tup sq p2) ry
            exact SeqAt.in_tuple_reads r2 r1 (canLay_plL _ l2) (canLay_pl _ l1) (room3 hu k1) ⟨.bl _, H, I, rfl, fin⟩
        · cases e
      · cases e
theorem ok_nin (hK : X.K = W.K) (hu : X.A.units + 160 < cLine) {m : Bool} : OpR X (compareOp .NotIn) (rO W .nin m) := by
  intro pins s σ H x y v u Q I rx ry h
  obtain ⟨S, F, μ, a, b, R, ra, rb, d, S', e, h⟩ := h
  unfold op2 op2.isIn at e
  simp only at e
  split at e
  · cases e
    cases ra
    cases rb
    refine op_notIn_sign pins s σ H _ _ v u Q I rx ry ⟨_, _, rfl, rfl, ?_⟩
    rw [tS_toList]
    refine new_val R ?_ h
    rw [Bool.true_bne, List.contains_eq_mem]
    exact .bl _
  · split at e
    · rename_i kvs k e1 e2
      cases e
      obtain ⟨p, ws, rfl, q, r⟩ := R.pairs e1 rb
      obtain rfl := keyOf_rep e2 ra
      cases ry
      refine d_notIn (by omega) I (dgetK (k := kQ k) q) rx fun s' I' => ⟨.bl _, H, I', rfl, ?_⟩
      refine new_val R ?_ h
      rw [Bool.true_bne]
      rcases RepK.get k r with ⟨z1, z2⟩ | ⟨_, _, z1, z2, _⟩ <;> rw [z1, z2] <;> exact .bl _
    · split at e
      · rename_i ys e1
        split at e
        · rename_i xx zs e2 e3
          cases e
          obtain ⟨p1, k1, l1⟩ := dp_ok R e2 ra
          obtain ⟨p, vs, rfl, sq, r⟩ := R.items e1 rb
          obtain ⟨p2, k2, l2⟩ := dp_items R e3 r
          rw [← hK] at p1 p2 sq
          obtain ⟨as, r1⟩ := Dp.reads I _ _ v p1 rx
          have fin : Q (.bl (!(pyL zs).any fun z => PyData.eqv z (pyD xx))) H := by
            rw [any_pl xx l1 zs l2]
            refine new_val R ?_ h
            rw [Bool.true_bne]
            exact .bl _
          rcases sq with sq | sq
          · obtain ⟨bs, r2⟩ := Dp.reads I (.list (pyL zs)) _ u (.lst sq p2) ry
            exact SeqAt.notIn_list_reads r2 r1 (canLay_plL _ l2) (canLay_pl _ l1) (room3 hu k1) ⟨.bl _, H, I, rfl, fin⟩
          · obtain ⟨bs, r2⟩ := Dp.reads I (.tuple (pyL zs)) _ u (.tup sq p2) ry
            exact SeqAt.notIn_tuple_reads r2 r1 (canLay_plL _ l2) (canLay_pl _ l1) (room3 hu k1) ⟨.bl _, H, I, rfl, fin⟩
        · cases e
      · cases e
theorem ok_is {m : Bool} : OpR X (compareOp .Is) (rO W .is_ m) := by
  intro pins s σ H x y v u Q I rx ry h
  obtain ⟨S, F, μ, a, b, R, ra, rb, d, S', e, h⟩ := h
  unfold op2 at e
  simp only at e
  split at e
  · cases e
    cases ra
    cases rb
    refine op_isBl pins s σ H _ _ v u Q I rx ry ⟨_, _, rfl, rfl, ?_⟩
    have : ∀ p q : Bool, decide (p = q) = (p == q) := fun p q => by cases p <;> cases q <;> rfl
    rw [this]
    exact new_val R (.bl _) h
  · cases e
    cases rb
    refine op_isN pins s σ H _ _ v u Q I rx ry ⟨rfl, ?_⟩
    refine new_val R ?_ h
    cases ra <;> exact .bl _
  · cases e
theorem ok_isnt {m : Bool} : OpR X (compareOp .IsNot) (rO W .isnt m) := by
  intro pins s σ H x y v u Q I rx ry h
  obtain ⟨S, F, μ, a, b, R, ra, rb, d, S', e, h⟩ := h
  unfold op2 at e
  simp only at e
  split at e
  · cases e
    cases ra
    cases rb
    refine op_notBl pins s σ H _ _ v u Q I rx ry ⟨_, _, rfl, rfl, ?_⟩
    have : ∀ p q : Bool, decide (p = q) = (p == q) := fun p q => by cases p <;> cases q <;> rfl
    rw [this]
    exact new_val R (.bl _) h
  · cases e
    cases rb
    refine op_notN pins s σ H _ _ v u Q I rx ry ⟨rfl, ?_⟩
    refine new_val R ?_ h
    cases ra <;> exact .bl _
  · cases e
end
end PM
set_option Elab.async false
set_option linter.all false
set_option autoImplicit false
set_option maxHeartbeats 4000000
/-! PMCall: statements' readings; a def by its body; a call. -/
namespace PM
open PySem PySem.Spec PyProof.Rows L2

/-- room for k calls; no repr is under way -/
structure PRoom (k : Nat) (A : Around) : Prop where
  hd : A.handled = none
  gs : A.guards = some []
  dp : A.depth + 2 * k + 15 < recursionLimit
  un : A.units + 8 * k + 300 < cLine
/-- the same within a body: a call through a class or a property has room, too -/
structure BRoom (k : Nat) (A : Around) : Prop where
  hd : A.handled = none
  gs : A.guards = some []
  dp : A.depth + 2 * k + 16 < recursionLimit
  un : A.units + 8 * k + 305 < cLine
theorem PRoom.deeper {k : Nat} {A : Around} (r : PRoom (k + 1) A) (env : PySem.Env) : BRoom k (A.deeper env) :=
  ⟨r.hd, r.gs, by have := r.dp; show A.depth + 1 + 2 * k + 16 < _; omega, by have := r.un; show A.units + 3 + 8 * k + 305 < _; omega⟩
theorem BRoom.call {k : Nat} {A : Around} (r : BRoom k A) : PRoom k A := ⟨r.hd, r.gs, by have := r.dp; omega, by have := r.un; omega⟩
theorem BRoom.in1 {k : Nat} {A : Around} (r : BRoom k A) : PRoom k A.in1 := ⟨r.hd, r.gs, by have := r.dp; show A.depth + 2 * k + 15 < _; omega, by have := r.un; show A.units + 1 + 8 * k + 300 < _; omega⟩
theorem make_guards {A : Around} {C : Addr} {us : List Value} {kw : List (Str × Value)} : (A.under (.builtin "type.__call__" ⟨.ref C :: us, kw⟩)).guards = A.guards := by
  obtain ⟨a1, a2, a3, a4, a5⟩ := A
  cases a4 <;> first | rfl | simp [Around.under, Code.guards, Code.isGuard, pushGuards, guardIds]
theorem BRoom.make {k : Nat} {A : Around} (r : BRoom k A) (C : Addr) (us : List Value) (kw : List (Str × Value)) : PRoom k (A.under (.builtin "type.__call__" ⟨.ref C :: us, kw⟩)) :=
  ⟨r.hd, by rw [make_guards]; exact r.gs, by have := r.dp; rw [make_depth]; omega, by have := r.un; rw [make_units]; omega⟩
theorem BRoom.hu {k : Nat} {A : Around} (r : BRoom k A) : A.units + 160 < cLine := by have := r.un; omega
theorem PRoom.depth {k : Nat} {A : Around} (r : PRoom k A) : A.depth < recursionLimit := by have := r.dp; omega
theorem PRoom.hu {k : Nat} {A : Around} (r : PRoom k A) : A.units + 160 < cLine := by have := r.un; omega
theorem PRoom.mono {j k : Nat} {A : Around} (r : PRoom k A) (h : j ≤ k) : PRoom j A := ⟨r.hd, r.gs, by have := r.dp; omega, by have := r.un; omega⟩

section
variable (W : Wx) (X : WX) (F : Addr → Prop) (μ : List Addr) (H : Hp)
/-- a statement's end -/
def EndS (fl : Fl) (D : Ends) : Prop := match fl with
  | .nx ρ S => ∀ (F' : Addr → Prop) (μ' : List Addr) (H' : Hp) (σ' : L2.St), Ext F μ H F' μ' H' → Rl W.toWd F' μ' H' S → Ro W F' μ' H' ρ σ' → D.nx σ' H'
  | .bk ρ S => ∀ (F' : Addr → Prop) (μ' : List Addr) (H' : Hp) (σ' : L2.St), Ext F μ H F' μ' H' → Rl W.toWd F' μ' H' S → Ro W F' μ' H' ρ σ' → D.bk σ' H'
  | .ct ρ S => ∀ (F' : Addr → Prop) (μ' : List Addr) (H' : Hp) (σ' : L2.St), Ext F μ H F' μ' H' → Rl W.toWd F' μ' H' S → Ro W F' μ' H' ρ σ' → D.ct σ' H'
  | .rt d S => ∀ (F' : Addr → Prop) (μ' : List Addr) (H' : Hp) (v : V), Ext F μ H F' μ' H' → Rl W.toWd F' μ' H' S → Rep W.toWd F' μ' H' d v → D.rt v H'
  | .ex c v ρ S => ∀ (F' : Addr → Prop) (μ' : List Addr) (H' : Hp) (σ' : L2.St) (cls : Value) (d : Option Addr), Ext F μ H F' μ' H' → Rl W.toWd F' μ' H' S → Ro W F' μ' H' ρ σ' → XOk W F' μ' H' c v cls d → X cls d σ' H'
  | .bad => False
end
/-- a statement's reading -/
def tS' (W : Wx) (X : WX) (run : Env → St → Fl) : TS := fun D σ H =>
  ∃ (ρ : Env) (S : St) (F : Addr → Prop) (μ : List Addr), Ro W F μ H ρ σ ∧ Rl W.toWd F μ H S ∧ EndS W X F μ H (run ρ S) D
section
variable {W : Wx} {X : WX} {F F' : Addr → Prop} {μ μ' : List Addr} {H H' : Hp}
theorem EndS.shift (E : Ext F μ H F' μ' H') {fl : Fl} {D : Ends} (h : EndS W X F μ H fl D) : EndS W X F' μ' H' fl D := by
  cases fl with
  | nx ρ S => exact fun F2 μ2 H2 σ e => h F2 μ2 H2 σ (E.trans e)
  | bk ρ S => exact fun F2 μ2 H2 σ e => h F2 μ2 H2 σ (E.trans e)
  | ct ρ S => exact fun F2 μ2 H2 σ e => h F2 μ2 H2 σ (E.trans e)
  | rt d S => exact fun F2 μ2 H2 v e => h F2 μ2 H2 v (E.trans e)
  | ex c v ρ S => exact fun F2 μ2 H2 σ cls d e => h F2 μ2 H2 σ cls d (E.trans e)
  | bad => exact h
/-- an expression, then the rest of the statement -/
theorem EndS.fl {α β : Type} {rel : Rel α β} {σ : L2.St} {ρ : Env} {S : St} {r : R α} {f : α → St → Fl} {D : Ends} (o : Ro W F μ H ρ σ) (R : Rl W.toWd F μ H S) (h : EndS W X F μ H (r.fl ρ f) D) :
    EndR W X F μ H σ rel r fun b H1 => ∃ (F1 : Addr → Prop) (μ1 : List Addr) (a : α) (S1 : St), Ext F μ H F1 μ1 H1 ∧ Rl W.toWd F1 μ1 H1 S1 ∧ Ro W F1 μ1 H1 ρ σ ∧ rel F1 μ1 H1 a b ∧ EndS W X F1 μ1 H1 (f a S1) D := by
  cases r with
  | ok a S1 => exact fun F1 μ1 H1 b e R1 r1 => ⟨F1, μ1, a, S1, e, R1, o.ext R e, r1, EndS.shift e h⟩
  | ex c v S1 => exact fun F1 μ1 H1 cls d e R1 x => h F1 μ1 H1 σ cls d e R1 (o.ext R e) x
  | bad => exact h
theorem tS_fl {α β : Type} {rel : Rel α β} {run : Env → St → R α} {f : Env → α → St → Fl} {D : Ends} {σ : L2.St} (h : tS' W X (fun ρ S => (run ρ S).fl ρ (f ρ)) D σ H) :
    tR W X rel run σ H fun b H1 => ∃ (ρ : Env) (S1 : St) (F1 : Addr → Prop) (μ1 : List Addr) (a : α), Ro W F1 μ1 H1 ρ σ ∧ Rl W.toWd F1 μ1 H1 S1 ∧ rel F1 μ1 H1 a b ∧ EndS W X F1 μ1 H1 (f ρ a S1) D := by
  obtain ⟨ρ, S, F, μ, o, R, h⟩ := h
  exact ⟨ρ, S, F, μ, o, R, (EndS.fl (rel := rel) o R h).mono fun b H1 ⟨F1, μ1, a, S1, e, R1, o1, r1, q⟩ => ⟨ρ, S1, F1, μ1, a, o1, R1, r1, q⟩⟩
theorem EndS.ofO {α : Type} {o : Option α} {f : α → Fl} {D : Ends} (h : EndS W X F μ H (Fl.ofO o f) D) : ∃ a, o = some a ∧ EndS W X F μ H (f a) D := by
  cases o with
  | some a => exact ⟨a, rfl, h⟩
  | none => exact h.elim
end

/-! ### calls -/
/-- the function at f does what run says, by k levels; n values by place, the names ks -/
def FnG (W : Wx) (P : Program) (w : World) (K : PySem.W.Frag) (mg : Str → Option Value) (base : Heap) (k : Nat) (f : Addr) (run : List D → List (String × D) → St → R D) (n : Nat) (ks : List String) : Prop :=
  ∀ (A : Around) (outer : List PySem.Env) (s : Shared) (H : Hp) (us ws : List Value) (vs zs : List V) (pos kvals : List D) (F : Addr → Prop) (μ : List Addr) (S : St) (Q : VK) (E : XK),
    PRoom k A → Env0 P w K mg base A outer s H → Vals vs us → Vals zs ws → Rl W.toWd F μ H S → RepL W.toWd F μ H pos vs → RepL W.toWd F μ H kvals zs → pos.length = n → kvals.length = ks.length →
    EndR W (fun cls d _ H' => E cls d H') F μ H [] (relD W) (run pos (ks.zip kvals) S) Q →
    codeAny (model P w) A (.call (.ref f) ⟨us, (ks.map Str.ofString).zip ws⟩) (CR (L2.CX P w) outer P w H s Q E) s

/-- how values are bound: KBn, and the pure machine's binding goes with it -/
structure Bd (K : PySem.W.Frag) (W : Wx) (fd : FuncData) (ps : List Str) (fn : Fn) (n : Nat) (ks : List String) where
  g : List Value → List Value → List Value
  gV : List V → List V → List V
  kb : KBn K fd ps n (ks.map Str.ofString) g gV
  rel : ∀ {F : Addr → Prop} {μ : List Addr} {H : Hp} {pos kvals ds : List D} {vs zs : List V}, pos.length = n → kvals.length = ks.length → bindA fn pos (ks.zip kvals) = some ds → RepL W.toWd F μ H pos vs → RepL W.toWd F μ H kvals zs → RepL W.toWd F μ H ds (gV vs zs) ∧ (gV vs zs).length = ps.length

section
variable {W : Wx} {P : Program} {w : World} {K : PySem.W.Frag} {mg : Str → Option Value} {base : Heap}
theorem ro_start {F : Addr → Prop} {μ : List Addr} {H : Hp} {fn : Fn} {ds : List D} {vs : List V} {N : List Str} (r : RepL W.toWd F μ H ds vs) (h : N.length = fn.slots) : Ro W F μ H (PM.start fn ds) (L2.start N vs) := by
  have hl := r.length
  refine ⟨?_, fun i d e => ?_⟩
  · unfold PM.start L2.start
    simp [hl, h]
  · unfold PM.start at e
    by_cases hi : i < ds.length
    · rw [List.getElem?_append_left (by simpa using hi), List.getElem?_map] at e
      cases q : ds[i]? with
      | none => rw [q] at e; cases e
      | some x =>
        rw [q] at e
        cases e
        obtain ⟨v, q1, q2⟩ := r.get q
        refine ⟨v, ?_, .inl q2⟩
        unfold L2.start
        rw [List.getElem?_append_left (by rw [List.length_map, ← hl]; exact hi), List.getElem?_map, q1]
        rfl
    · rw [List.getElem?_append_right (by simpa using hi), List.getElem?_replicate] at e
      split at e <;> cases e
/-- a def, by its body -/
theorem fnG_of {k : Nat} {f : Addr} {fd : FuncData} {x qual key : String} {nm : Str} {ql : Str} {params : Arguments} {body : List Stmt} {scope : Scope} {dvs : List V} {kws : List (Str × V)} {N ps : List Str} {Pg : Prog} {fn : Fn} {n : Nat} {ks : List String}
    (L : FunD K nm ql params body scope dvs kws f fd) (S : FnScope N ps scope) (hfn : Pg.fn key = some fn) (hN : N.length = fn.slots) (B : Bd K W fd ps fn n ks)
    (hb : ∀ (cdv : Value) (A : Around) (outer : List PySem.Env) (s : Shared) (H : Hp) (E : XK), BRoom k (A.deeper (envOfC ql scope s.heap.objs.size f cdv)) →
      PSs (cxOf (L2.CX P w) P w K mg base N ql scope f cdv A outer s H E) body (tS' W (fun cls d _ H' => E cls d H') fun ρ S => evSs (Pg.ctx k) fn.body ρ S)) :
    FnG W P w K mg base (k + 1) f (callF Pg (k + 1) key) n ks := by
  intro A outer s H us ws vs zs pos kvals F μ St Q E hr e0 rv rz R rp rk hn hk h
  obtain ⟨oc, od, dV, kV, doc, pm, an, cdv, ct, osl, rfl, lk, hcd, _, _⟩ := L.ex
  unfold callF at h
  rw [hfn] at h
  simp only at h
  cases hba : bindA fn pos (ks.zip kvals) with
  | none => rw [hba] at h; exact h.elim
  | some ds =>
    rw [hba] at h
    simp only at h
    change EndR W _ F μ H [] (relD W) (ran fn St (evSs (Pg.ctx k) fn.body (PM.start fn ds) St)) Q at h
    obtain ⟨r2, hl⟩ := B.rel hn hk hba rp rk
    have KX : K.In s.heap := e0.mod.kin.keeps fun b o e => (e0.bs b o e).1
    have lim : s.heap.NoLimit := e0.mod.nolimit.keeps fun b o e => (e0.bs b o e).1
    have r : Vals (B.gV vs zs) (B.g us ws) := B.kb.rel rv rz
    have hbd : BindsTo s _ ⟨us, (ks.map Str.ofString).zip ws⟩ (ps.zip (B.g us ws)) := B.kb.to s us ws KX (by rw [← rv.length, ← rp.length]; exact hn) (by rw [← rz.length, ← rk.length, List.length_map]; exact hk)
    have hkind : ∀ y ∈ ps.zip (B.g us ws), scope.names.lookup y.1 = some .local ∨ (scope.names.lookup y.1 = some .cell ∧ ((cellsFrom (s.heap.objs.size + 1) scope.names []).lookup y.1).isSome = true) := fun ⟨m, v⟩ hy => by
      rcases S.par m (List.of_mem_zip hy).1 with q | q
      · exact .inl q
      · exact .inr ⟨q, PySem.W.cellsFrom_some _ _ _ (.inl q)⟩
    refine codeAny_call_function hr.depth (KX _ _ lk) rfl S.co S.gen rfl (PySem.W.codeRec_of KX hcd) (hbd _ _ _ _ ?_)
    refine wpAny_newFunctionEnv_cells S.kind hkind fun env he s1 x => ?_
    subst he
    refine ⟨lim.keeps x.toInCall.keep, codeAny_func ?_⟩
    have I : Inv (cxOf (L2.CX P w) P w K mg base N ql scope f cdv A outer s H E) [] (L2.start N (B.gV vs zs)) H s1 := inv_start S hr.hd e0 hl r x
    have ht := hb cdv A outer s H E (hr.deeper _)
    have o : Ro W F μ H (PM.start fn ds) (L2.start N (B.gV vs zs)) := ro_start r2 hN
    have fin : EndS W (fun cls d _ H' => E cls d H') F μ H (evSs (Pg.ctx k) fn.body (PM.start fn ds) St) { nx := fun _ H' => Q .non H', rt := Q } := by
      cases hfl : evSs (Pg.ctx k) fn.body (PM.start fn ds) St with
      | bad => rw [hfl] at h; exact h.elim
      | bk _ _ => rw [hfl] at h; exact h.elim
      | ct _ _ => rw [hfl] at h; exact h.elim
      | rt d S' =>
        rw [hfl] at h
        unfold ran leave at h
        simp only at h
        intro F' μ' H' v e R' r'
        split at h
        · exact h F' μ' H' v e R' r'
        · cases hc : cutAt St S' d with
          | bad => rw [hc] at h; exact h.elim
          | ex _ _ _ => unfold cutAt at hc; split at hc <;> (try split at hc) <;> cases hc
          | ok u S'' =>
            rw [hc] at h
            obtain ⟨F2, e2, R2, r2⟩ := cut_ok R e R' r' hc
            exact h F2 μ H' v e2 R2 r2
      | nx ρ' S' =>
        rw [hfl] at h
        unfold ran leave at h
        simp only at h
        intro F' μ' H' σ' e R' o'
        have r' : Rep W.toWd F' μ' H' .non .non := .non
        split at h
        · exact h F' μ' H' _ e R' r'
        · cases hc : cutAt St S' .non with
          | bad => rw [hc] at h; exact h.elim
          | ex _ _ _ => unfold cutAt at hc; split at hc <;> (try split at hc) <;> cases hc
          | ok u S'' =>
            rw [hc] at h
            obtain ⟨F2, e2, R2, r2⟩ := cut_ok R e R' r' hc
            exact h F2 μ H' _ e2 R2 r2
      | ex c v ρ' S' =>
        rw [hfl] at h
        unfold ran leave at h
        simp only at h
        intro F' μ' H' σ' cls d e R' o' ⟨C, fl, dd, vv, x1, x2, x3, x4, x5, x6⟩
        split at h
        · exact h F' μ' H' cls d e R' ⟨C, fl, dd, vv, x1, x2, x3, x4, x5, x6⟩
        · cases hc : cutAt St S' v with
          | bad => rw [hc] at h; exact h.elim
          | ex _ _ _ => unfold cutAt at hc; split at hc <;> (try split at hc) <;> cases hc
          | ok u S'' =>
            rw [hc] at h
            obtain ⟨F2, e2, R2, r2⟩ := cut_ok R e R' x6 hc
            exact h F2 μ H' cls d e2 R2 ⟨C, fl, dd, vv, x1, x2, x3, fun m => x4 (e.pre.subset m), x5, r2⟩
    refine wpAny_mono (ht.run [] s1 (L2.start N (B.gV vs zs)) H _ I ⟨_, _, F, μ, o, R, fin⟩) (fun fl s' hs => ?_) fun e s' hs => hs
    have fin2 : ∀ {σ' : L2.St} {H' : Hp} {v : V} {u : Value}, Inv (cxOf (L2.CX P w) P w K mg base N ql scope f cdv A outer s H E) [] σ' H' s' → RelV v u → Q v H' → CE outer P w H s Q u s' :=
      fun {σ' H' v u} J rv q => ⟨v, H', J.os, J.bare, J.base, J.hok, rv, q⟩
    cases fl with
    | ret u =>
      obtain ⟨v, σ', H', J, rv, q⟩ := hs
      exact fin2 J rv q
    | next =>
      obtain ⟨σ', H', J, q⟩ := hs
      exact fin2 (v := V.non) (u := Value.none) J rfl q
    | brk =>
      obtain ⟨_, _, _, q⟩ := hs
      exact False.elim q
    | cont =>
      obtain ⟨_, _, _, q⟩ := hs
      exact False.elim q
end
/-- a call by the value of its function, in a body -/
theorem run_G {W : Wx} {X : Cx} {wx : WX} (tk : Takes X wx) {k : Nat} {f : Addr} {run : List D → List (String × D) → St → R D} {n : Nat} {ks : List String} (G : FnG W X.prog X.w X.K X.mg X.base k f run n ks) (hr : PRoom k X.A)
    {pins : List (Addr × Obj)} {σ : L2.St} {H : Hp} {s : Shared} {Q : VK} {us ws : List Value} {vs zs : List V} {pos kvals : List D} {F : Addr → Prop} {μ : List Addr} {S : St}
    (I : Inv X pins σ H s) (rv : Vals vs us) (rz : Vals zs ws) (R : Rl W.toWd F μ H S) (rp : RepL W.toWd F μ H pos vs) (rk : RepL W.toWd F μ H kvals zs) (hn : pos.length = n) (hk : kvals.length = ks.length)
    (h : EndR W wx F μ H σ (relD W) (run pos (ks.zip kvals) S) Q) : wpAny (model X.prog X.w) X.A (call (.ref f) us ((ks.map Str.ofString).zip ws)) (EP X pins σ Q) X.xe s := by
  have h' : EndR W (fun cls d _ H' => (fun cls d H' => wx cls d σ H') cls d H') F μ H [] (relD W) (run pos (ks.zip kvals) S) Q := by
    cases hr : run pos (ks.zip kvals) S with
    | ok a S' => rw [hr] at h; exact h
    | ex c v S' => rw [hr] at h; exact h
    | bad => rw [hr] at h; exact h
  refine wpAny_call (codeAny_mono (G X.A X.stack s H us ws vs zs pos kvals F μ S Q (fun cls d H' => wx cls d σ H') hr I.env0 rv rz R rp rk hn hk h') fun r s' hq => ?_)
  cases r with
  | error e => exact tk e s' (XE.of_call I (fun cls d H' h => h) hq)
  | ok fl =>
    cases fl with
    | ret u => exact I.after hq
    | next => exact False.elim hq
    | brk => exact False.elim hq
    | cont => exact False.elim hq
end PM
set_option Elab.async false
set_option linter.all false
set_option autoImplicit false
set_option maxHeartbeats 4000000
/-! PMExpr: expressions of the text by the pure machine's: names, constants, operations, tests, displays, calls. -/
namespace PM
open PySem PySem.Spec PyProof.Rows L2
theorem PE_imp {X : Cx} {e : Expr} {t t' : TE} (h : PE X e t) (i : ∀ σ H Q, t' σ H Q → t σ H Q) : PE X e t' := ⟨fun pins s σ H Q I q => h.run pins s σ H Q I (i σ H Q q)⟩
theorem PT_imp {X : Cx} {e : Expr} {t t' : TT} (h : PT X e t) (i : ∀ σ H Q, t' σ H Q → t σ H Q) : PT X e t' := ⟨fun pins s σ H Q I q => h.run pins s σ H Q I (i σ H Q q)⟩
theorem PW_imp {X : Cx} {e : Expr} {t t' : TT} (h : PW X e t) (i : ∀ σ H Q, t' σ H Q → t σ H Q) : PW X e t' := ⟨fun wh pins s σ H Q I q => h.run wh pins s σ H Q I (i σ H Q q)⟩
theorem PA_imp {X : Cx} {e : List Expr} {t t' : TA} (h : PA X e t) (i : ∀ σ H Q, t' σ H Q → t σ H Q) : PA X e t' := ⟨fun pos pins s σ H Q I q => h.run pos pins s σ H Q I (i σ H Q q)⟩

section
variable {W : Wx} {wx : WX} {C : Ctx} {X : Cx}
theorem e_var {i : Nat} {x : Str} {pos : Pos} (hN : X.N[i]? = some x) (hv : Vis X.env.scope x) (hd : (x == ("__debug__" : Str)) = false) (hc : (x == ("__classdict__" : Str)) = false) : PE X (.Name x pos) (tE W wx C (.var i)) := by
  refine PE_imp (pe_var hN hv hd hc) fun σ H Q h => ?_
  obtain ⟨ρ, S, F, μ, o, R, h⟩ := h
  unfold evE at h
  split at h
  · rename_i d e
    split at h
    · exact h.elim
    rename_i hx
    obtain ⟨v, e1, r⟩ := o.at_ i d e
    exact ⟨v, e1, h.here R (r.rep (by simpa using hx))⟩
  · exact h.elim
theorem e_cst {d : D} {c : Expr} {v : V} (h : PE X c (tC v)) (r : ∀ F μ H, Rep W.toWd F μ H d v) : PE X c (tE W wx C (.cst d)) := by
  refine PE_imp h fun σ H Q h => ?_
  obtain ⟨ρ, S, F, μ, o, R, h⟩ := h
  unfold evE at h
  exact h.here R (r _ _ _)
theorem e_glb {x : String} {y : Str} {c : Expr} {d : D} {v : V} (h : PE X c (tC v)) (hg : noDct (C.glb x) = some d) (r : ∀ F μ H, Rep W.toWd F μ H d v) : PE X c (tE W wx C (.glb x)) := by
  refine PE_imp h fun σ H Q h => ?_
  obtain ⟨ρ, S, F, μ, o, R, h⟩ := h
  unfold evE at h
  rw [hg] at h
  exact EndR.here (rel := relD W) (a := d) h R (r _ _ _)
/-- a two-place operation -/
theorem e_op {o : O2} {m : Bool} {a b : E} {σ : L2.St} {H : Hp} {Q : VK} (h : tE W wx C (.op o m a b) σ H Q) : tOp (rO W.toWd o m) (tE W wx C a) (tE W wx C b) σ H Q := by
  have h' : tR W wx (relD W) (fun ρ S => (evE C a ρ S).bind fun x S1 => (evE C b ρ S1).bind fun y S2 => R.o (op2 o m x y S2)) σ H Q := by
    obtain ⟨ρ, S, F, μ, o, R, h⟩ := h
    unfold evE at h
    exact ⟨ρ, S, F, μ, o, R, h⟩
  exact tR_mono (tR_bin (rel1 := relD W) (relB := relD W) stays_D h') fun v H1 h1 => tR_mono h1 fun u H2 ⟨ρ, S, F, μ, x, y, o, R, r1, r2, q⟩ => ⟨S, F, μ, x, y, R, r1, r2, EndV.of q⟩
theorem e_chn {o p : O2} {a b c : E} {σ : L2.St} {H : Hp} {Q : VK} (h : tE W wx C (.chn o p a b c) σ H Q) : tChain (rO W.toWd o false) (rO W.toWd p false) (tE W wx C a) (tE W wx C b) (tE W wx C c) σ H Q := by
  have h' : tR W wx (relD W) (fun ρ S => (evE C a ρ S).bind fun x S1 => (evE C b ρ S1).bind fun y S2 => (R.o (op2 o false x y S2)).bind fun t S3 => match t with
    | .bl true => (evE C c ρ S3).bind fun z S4 => R.o (op2 p false y z S4)
    | .bl false => .ok (.bl false) S3
    | _ => .bad) σ H Q := by
    obtain ⟨ρ, S, F, μ, o, R, h⟩ := h
    unfold evE at h
    exact ⟨ρ, S, F, μ, o, R, h⟩
  refine tR_mono (tR_bin (rel1 := relD W) (relB := relD W) stays_D h') fun v H1 h1 => tR_mono h1 fun u H2 ⟨ρ, S, F, μ, x, y, o, Rs, r1, r2, q⟩ => ?_
  refine ⟨S, F, μ, x, y, Rs, r1, r2, ?_⟩
  have q1 := EndR.bind (rel := relD W) q
  refine EndV.of (X := wx) (σ := σ) (q1.mono fun w H3 ⟨F3, μ3, t, S3, e3, R3, r3, q3⟩ => ?_)
  cases r3 with
  | bl k =>
    refine ⟨k, rfl, ?_⟩
    cases k with
    | true =>
      rw [if_pos rfl]
      exact ⟨ρ, S3, F3, μ3, o.ext Rs e3, R3, (EndR.bind (rel := relD W) q3).mono fun w' H4 ⟨F4, μ4, z, S4, e4, R4, rz, q4⟩ => ⟨S4, F4, μ4, y, z, R4, R3.ext e4 (Rs.ext e3 r2), rz, EndV.of q4⟩⟩
    | false =>
      rw [if_neg Bool.false_ne_true]
      exact EndR.here (rel := relD W) (a := D.bl false) q3 R3 (Rep.bl false)
  | _ => exact q3.elim
/-! ### truth -/
theorem truthy_rep {F : Addr → Prop} {μ : List Addr} {H : Hp} {S : St} {d : D} {v : V} {k : Bool} (Rs : Rl W.toWd F μ H S) (hK : X.K = W.K) (h : truthy S d = some k) (r : Rep W.toWd F μ H d v) : TruV X.K v H k := by
  unfold truthy at h
  cases r with
  | non => cases h; rfl
  | bl b => cases h; rfl
  | int i =>
    cases h
    show decide (i ≠ 0) = (i != 0)
    rw [Bool.eq_iff_iff]
    simp
  | str x hx =>
    cases h
    refine ⟨by rw [tS_len]; exact hx, ?_⟩
    rw [tS_len]
    cases x with
    | nil => rfl
    | cons c r =>
      show true = ((((r.length + 1 : Nat) : Int)) != 0)
      rw [Eq.comm, bne_iff_ne]
      omega
  | tup z r =>
    cases h
    refine .inr (.inl ⟨_, by rw [hK]; exact z.elim (fun ⟨_, q⟩ => .inl (.inl q)) fun q => .inr q, ?_⟩)
    cases r <;> rfl
  | lst f q r =>
    cases h
    refine .inl ⟨_, .inl q, ?_⟩
    cases r <;> rfl
  | dct f q r => cases h
  | ins c f q r => cases h
  | err c f g q z r => cases h
  | loc z =>
    rename_i i a
    have hlt : i < S.length := by rw [← Rs.len]; exact (List.getElem?_eq_some_iff.mp z).1
    have c := Rs.cell i a _ z (List.getElem?_eq_getElem hlt)
    simp only [List.getElem?_eq_getElem hlt] at h
    generalize S[i] = cc at h c
    cases c with
    | lst q r =>
      cases h
      refine .inl ⟨_, SqL.of q, ?_⟩
      cases r <;> rfl
    | dct q r => cases h
    | ins c q r => cases h
/-- by truth, behind a run -/
theorem tru_bind {F : Addr → Prop} {μ : List Addr} {H : Hp} {σ : L2.St} {r : R D} {α β : Type} {rel : Rel α β} {f : Bool → St → R α} {Q : β → Hp → Prop} (hK : X.K = W.K) (h : EndR W wx F μ H σ rel (r.tru.bind f) Q) :
    EndR W wx F μ H σ (relD W) r fun v H1 => ∃ k, TruV X.K v H1 k ∧ ∃ (F1 : Addr → Prop) (μ1 : List Addr) (S1 : St), Ext F μ H F1 μ1 H1 ∧ Rl W.toWd F1 μ1 H1 S1 ∧ (∃ d, Rep W.toWd F1 μ1 H1 d v ∧ truthy S1 d = some k ∧ r = .ok d S1) ∧ EndR W wx F1 μ1 H1 σ rel (f k S1) Q := by
  cases r with
  | ex c v S => exact h
  | bad => exact h
  | ok d S =>
    have h2 : EndR W wx F μ H σ rel ((R.of (truthy S d) S).bind f) Q := h
    cases e : truthy S d with
    | none => rw [e] at h2; exact h2.elim
    | some k =>
      rw [e] at h2
      exact fun F1 μ1 H1 v e1 R1 r1 => ⟨k, truthy_rep R1 hK e r1, F1, μ1, S, e1, R1, ⟨d, r1, e, rfl⟩, EndR.shift e1 h2⟩
theorem e_not {a : E} {σ : L2.St} {H : Hp} {Q : VK} (hK : X.K = W.K) (h : tE W wx C (.not a) σ H Q) : tNotT X.K (tE W wx C a) σ H Q := by
  obtain ⟨ρ, S, F, μ, o, Rs, h⟩ := h
  unfold evE at h
  exact ⟨ρ, S, F, μ, o, Rs, (tru_bind hK h).mono fun v H1 ⟨k, t, F1, μ1, S1, e1, R1, _, q⟩ => ⟨k, t, EndR.here (rel := relD W) (a := D.bl (!k)) q R1 (Rep.bl _)⟩⟩
theorem e_neg {a : E} {σ : L2.St} {H : Hp} {Q : VK} (h : tE W wx C (.neg a) σ H Q) : tUn (rU fun i => .int (-i)) (tE W wx C a) σ H Q := by
  obtain ⟨ρ, S, F, μ, o, Rs, h⟩ := h
  unfold evE at h
  refine ⟨ρ, S, F, μ, o, Rs, (EndR.bind (rel := relD W) h).mono fun v H1 ⟨F1, μ1, d, S1, e1, R1, r1, q⟩ => ?_⟩
  cases r1 with
  | int i => exact ⟨i, rfl, EndR.here (rel := relD W) (a := D.int (-i)) q R1 (Rep.int _)⟩
  | _ => exact q.elim
/-- by truth, as a test -/
theorem t_val {a : E} {σ : L2.St} {H : Hp} {Q : Bool → Hp → Prop} (hK : X.K = W.K) (h : tT W wx C a σ H Q) : tE W wx C a σ H fun x H' => ∃ k, TruV X.K x H' k ∧ Q k H' := by
  obtain ⟨ρ, S, F, μ, o, Rs, h⟩ := h
  simp only at h
  refine ⟨ρ, S, F, μ, o, Rs, ?_⟩
  have h' : EndR W wx F μ H σ relE ((evE C a ρ S).tru.bind fun k S1 => .ok k S1) Q := by
    cases e : (evE C a ρ S).tru with
    | ok k S1 => rw [e] at h; exact h
    | ex c v S1 => rw [e] at h; exact h
    | bad => rw [e] at h; exact h
  exact (tru_bind hK h').mono fun v H1 ⟨k, t, F1, μ1, S1, e1, R1, _, q⟩ => ⟨k, t, EndR.here (rel := relE) (a := k) q R1 rfl⟩
theorem t_not {a : E} {σ : L2.St} {H : Hp} {Q : Bool → Hp → Prop} (h : tT W wx C (.not a) σ H Q) : L2.tNot (tT W wx C a) σ H Q := by
  obtain ⟨ρ, S, F, μ, o, Rs, h⟩ := h
  unfold evE at h
  refine ⟨ρ, S, F, μ, o, Rs, ?_⟩
  simp only at h ⊢
  cases e : (evE C a ρ S).tru with
  | ok k S1 =>
    rw [e] at h
    intro F1 μ1 H1 b e1 R1 r1
    cases r1
    exact h F1 μ1 H1 _ e1 R1 rfl
  | ex c v S1 => rw [e] at h; exact h
  | bad => rw [e] at h; exact h
theorem e_ite {t a b : E} {σ : L2.St} {H : Hp} {Q : VK} (h : tE W wx C (.ite t a b) σ H Q) : tIf (tT W wx C t) (tE W wx C a) (tE W wx C b) σ H Q := by
  obtain ⟨ρ, S, F, μ, o, Rs, h⟩ := h
  unfold evE at h
  refine ⟨ρ, S, F, μ, o, Rs, (EndR.bind (rel := relE) h).mono fun k H1 ⟨F1, μ1, k', S1, e1, R1, r1, q⟩ => ?_⟩
  cases r1
  cases k with
  | true => exact ⟨ρ, S1, F1, μ1, o.ext Rs e1, R1, q⟩
  | false => exact ⟨ρ, S1, F1, μ1, o.ext Rs e1, R1, q⟩
end
end PM
set_option Elab.async false
set_option linter.all false
set_option autoImplicit false
set_option maxHeartbeats 4000000
/-! PMExpr2: argument lists, displays, calls of functions, methods, classes, attributes. -/
namespace PM
open PySem PySem.Spec PyProof.Rows L2
def isSt : Expr → Bool
  | .Starred .. => true
  | _ => false
theorem starEach_ns {e : Expr} {es : List Expr} {env : PySem.Env} (h : isSt e = false) : starEach (e :: es) env = (false, eval e env) :: starEach es env := by
  cases e <;> first | rfl | cases h
theorem any_ns {pos : Pos} {env : PySem.Env} : ∀ {es : List Expr}, es.all (fun e => !isSt e) = true → (backTo pos (starEach es env)).any (·.1) = false
  | [], _ => rfl
  | e :: es, h => by
    rw [List.all_cons, Bool.and_eq_true] at h
    have h1 : isSt e = false := by simpa using h.1
    rw [starEach_ns h1]
    show (false || (backTo pos (starEach es env)).any (·.1)) = false
    rw [any_ns h.2]; rfl
theorem kw_names {pos : Pos} {env : PySem.Env} : ∀ (kws : List Keyword), (backToKw pos (keywordEach kws env)).filterMap (·.1) = kws.filterMap (·.arg)
  | [] => rfl
  | ⟨n, e, p⟩ :: r => by
    show (((n, _) :: backToKw pos (keywordEach r env)).filterMap (fun x : Option Str × Sem Value => x.1)) = _
    rw [List.filterMap_cons, List.filterMap_cons, kw_names r]
theorem kw_all {pos : Pos} {env : PySem.Env} : ∀ (kws : List Keyword), kws.all (fun k => k.arg.isSome) = true → (backToKw pos (keywordEach kws env)).all (·.1.isSome) = true ∧ (backToKw pos (keywordEach kws env)).any (·.1.isNone) = false
  | [], _ => ⟨rfl, rfl⟩
  | ⟨n, e, p⟩ :: r, h => by
    rw [List.all_cons, Bool.and_eq_true] at h
    obtain ⟨a, b⟩ := kw_all (pos := pos) (env := env) r h.2
    have h1 : n.isSome = true := h.1
    show (n.isSome && (backToKw pos (keywordEach r env)).all (fun x => x.1.isSome)) = true ∧ (n.isNone || (backToKw pos (keywordEach r env)).any (fun x => x.1.isNone)) = false
    rw [a, b, h1]
    cases n with
    | none => cases h1
    | some _ => exact ⟨rfl, rfl⟩
section
variable {W : Wx} {wx : WX} {C : Ctx} {X : Cx}
/-- the arguments, then the call -/
theorem call_any {f : Value} {first : List Value} {es : List Expr} {kws : List Keyword} {t tk : TA} {pos : Pos} {pins : List (Addr × Obj)} {s : Shared} {σ : L2.St} {H : Hp} {Q : VK} (hk : PySem.W.keepIn X.K f = true) (ns : es.all (fun e => !isSt e) = true) (ka : kws.all (fun k => k.arg.isSome) = true)
    (ha : PA X es t) (hw : PK X kws tk) (t0 : es = [] → ∀ σ H Q, t σ H Q → Q [] H) (w0 : kws = [] → ∀ σ H Q, tk σ H Q → Q [] H) (I : Inv X pins σ H s)
    (h : t σ H fun vs H1 => tk σ H1 fun zs H2 => ∀ (s2 : Shared) (us ws : List Value), Inv X pins σ H2 s2 → Vals vs us → Vals zs ws → wpAny (model X.prog X.w) X.A (call f (first ++ us) ((kws.filterMap (·.arg)).zip ws)) (EP X pins σ Q) X.xe s2) :
    wpAny (model X.prog X.w) X.A (callWith pos f first (backTo pos (starEach es X.env)) (backToKw pos (keywordEach kws X.env))) (EP X pins σ Q) X.xe s := by
  obtain ⟨k1, k2⟩ := kw_all (pos := pos) (env := X.env) kws ka
  cases kws with
  | nil =>
    have fin : ∀ (us : List Value) (s1 : Shared), AP X pins σ (fun vs H1 => tk σ H1 fun zs H2 => ∀ (s2 : Shared) (us ws : List Value), Inv X pins σ H2 s2 → Vals vs us → Vals zs ws → wpAny (model X.prog X.w) X.A (call f (first ++ us) (([] : List Str).zip ws)) (EP X pins σ Q) X.xe s2) us s1 →
        X.K.In s1.heap ∧ wpAny (model X.prog X.w) X.A (call f (first ++ us)) (EP X pins σ Q) X.xe s1 := fun us s1 ⟨vs, H1, I1, r, q⟩ => by
      exact ⟨I1.kIn, w0 rfl _ _ _ q s1 us [] I1 r .nil⟩
    cases es with
    | nil =>
      refine PySem.W.callWith_K0 I.kIn hk ?_
      exact (fin [] s ⟨[], H, I, .nil, t0 rfl _ _ _ h⟩).2
    | cons e es =>
      rw [List.all_cons, Bool.and_eq_true] at ns
      exact PySem.W.callWith_K (h₀ := X.base) I.ok.mod.kin hk (thn (ha.run pos pins s σ H _ I h) fin) (starEach_ns (by simpa using ns.1)) (any_ns ns.2)
  | cons k0 kws =>
    have e := kw_names (pos := pos) (env := X.env) (k0 :: kws)
    cases es with
    | nil =>
      refine PySem.W.callWith_KW0 (h₀ := X.base) I.ok.mod.kin hk k1 ?_ (by rw [k2]; rfl)
      rw [e]
      exact thn (hw.run pos pins s σ H _ I (t0 rfl _ _ _ h)) fun ws s2 ⟨zs, H2, I2, rz, q2⟩ => ⟨I2.kIn, q2 s2 [] ws I2 .nil rz⟩
    | cons a es =>
      have ns' := ns
      rw [List.all_cons, Bool.and_eq_true] at ns
      refine PySem.W.callWith_KW (h₀ := X.base) I.ok.mod.kin hk k1 (thn (ha.run pos pins s σ H _ I h) fun us s1 ⟨vs, H1, I1, r, q⟩ => ?_) (by rw [k2, any_ns ns']; rfl) (starEach_ns (by simpa using ns.1))
      rw [e]
      exact thn (hw.run pos pins s1 σ H1 _ I1 q) fun ws s2 ⟨zs, H2, I2, rz, q2⟩ => ⟨I2.kIn, q2 s2 us ws I2 r rz⟩
/-! ### lists of expressions -/
theorem l_nil {σ : L2.St} {H : Hp} {Q : List V → Hp → Prop} (h : tL W wx C [] σ H Q) : Q [] H := by
  obtain ⟨ρ, S, F, μ, o, Rs, h⟩ := h
  unfold evL at h
  exact EndR.here (rel := relL W) (a := []) h Rs .nil
theorem l_cons {e : E} {es : List E} {σ : L2.St} {H : Hp} {Q : List V → Hp → Prop} (h : tL W wx C (e :: es) σ H Q) : tCons (tE W wx C e) (tL W wx C es) σ H Q := by
  have h' : tR W wx (relL W) (fun ρ S => (evE C e ρ S).bind fun x S1 => (evL C es ρ S1).bind fun xs S2 => .ok (x :: xs) S2) σ H Q := by
    obtain ⟨ρ, S, F, μ, o, R, h⟩ := h
    unfold evL at h
    exact ⟨ρ, S, F, μ, o, R, h⟩
  exact tR_mono (tR_bin (rel1 := relD W) (relB := relL W) stays_D h') fun v H1 h1 => tR_mono h1 fun u H2 ⟨ρ, S, F, μ, x, y, o, R, r1, r2, q⟩ => EndR.here (rel := relL W) (a := x :: y) q R (.cons r1 r2)
theorem evL_cons (C : Ctx) (e : E) (r : List E) (ρ : Env) (S : St) : evL C (e :: r) ρ S = (evE C e ρ S).bind fun x S1 => (evL C r ρ S1).bind fun xs S2 => .ok (x :: xs) S2 := by rw [evL]
theorem evL_append (C : Ctx) : ∀ (a b : List E) (ρ : Env) (S : St), evL C (a ++ b) ρ S = (evL C a ρ S).bind fun xs S1 => (evL C b ρ S1).bind fun ys S2 => .ok (xs ++ ys) S2
  | [], b, ρ, S => by
    rw [List.nil_append]
    show _ = (R.ok [] S).bind _
    show _ = (evL C b ρ S).bind fun ys S2 => .ok ([] ++ ys) S2
    cases evL C b ρ S <;> rfl
  | e :: r, b, ρ, S => by
    rw [List.cons_append, evL_cons, evL_cons]
    cases evE C e ρ S with
    | ok x S1 =>
      show ((evL C (r ++ b) ρ S1).bind fun xs S2 => .ok (x :: xs) S2 : R (List D)) = (((evL C r ρ S1).bind fun xs S2 => .ok (x :: xs) S2).bind fun xs S1 => (evL C b ρ S1).bind fun ys S2 => .ok (xs ++ ys) S2 : R (List D))
      rw [evL_append C r b ρ S1]
      cases evL C r ρ S1 with
      | ok xs S2 =>
        show (((evL C b ρ S2).bind fun ys S3 => .ok (xs ++ ys) S3).bind fun xs S3 => .ok (x :: xs) S3 : R (List D)) = (evL C b ρ S2).bind fun ys S3 => .ok ((x :: xs) ++ ys) S3
        cases evL C b ρ S2 <;> rfl
      | ex _ _ _ => rfl
      | bad => rfl
    | ex _ _ _ => rfl
    | bad => rfl
theorem evL_len (C : Ctx) : ∀ (a : List E) (ρ : Env) (S S' : St) (ds : List D), evL C a ρ S = .ok ds S' → ds.length = a.length
  | [], ρ, S, S', ds, h => by
    unfold evL at h
    cases h
    rfl
  | e :: r, ρ, S, S', ds, h => by
    unfold evL at h
    cases h1 : evE C e ρ S with
    | ok x S1 =>
      rw [h1] at h
      have h' : ((evL C r ρ S1).bind fun xs S2 => R.ok (x :: xs) S2) = .ok ds S' := h
      cases h2 : evL C r ρ S1 with
      | ok xs S2 =>
        rw [h2] at h'
        cases h'
        rw [List.length_cons, List.length_cons, evL_len C r ρ S1 _ xs h2]
      | ex _ _ _ => rw [h2] at h'; cases h'
      | bad => rw [h2] at h'; cases h'
    | ex _ _ _ => rw [h1] at h; cases h
    | bad => rw [h1] at h; cases h
theorem splitKw_append (xs ys : List D) (ks : List String) (h : ys.length = ks.length) : splitKw (xs ++ ys) ks = (xs, ks.zip ys) := by
  unfold splitKw
  rw [List.length_append, h, Nat.add_sub_cancel, List.take_left, List.drop_left]
/-- the values by place, then those by names -/
theorem l_split {es ks : List E} {σ : L2.St} {H : Hp} {F : Addr → Prop} {μ : List Addr} {ρ : Env} {S : St} {γ δ : Type} {rel : Rel γ δ} {k : List D → St → R γ} {Q : δ → Hp → Prop} (o : Ro W F μ H ρ σ) (Rs : Rl W.toWd F μ H S)
    (h : EndR W wx F μ H σ rel ((evL C (es ++ ks) ρ S).bind k) Q) :
    tL W wx C es σ H fun vs H1 => tL W wx C ks σ H1 fun zs H2 => ∃ (F' : Addr → Prop) (μ' : List Addr) (S' : St) (xs ys : List D), Ext F μ H F' μ' H2 ∧ Rl W.toWd F' μ' H2 S' ∧ RepL W.toWd F' μ' H2 xs vs ∧ RepL W.toWd F' μ' H2 ys zs ∧ xs.length = es.length ∧ ys.length = ks.length ∧ EndR W wx F' μ' H2 σ rel (k (xs ++ ys) S') Q := by
  rw [evL_append] at h
  refine ⟨ρ, S, F, μ, o, Rs, ?_⟩
  cases e1 : evL C es ρ S with
  | bad => rw [e1] at h; exact h
  | ex c v S1 => rw [e1] at h; exact h
  | ok xs S1 =>
    rw [e1] at h
    intro F1 μ1 H1 vs x1 R1 r1
    refine ⟨ρ, S1, F1, μ1, o.ext Rs x1, R1, ?_⟩
    cases e2 : evL C ks ρ S1 with
    | bad =>
      have h' : EndR W wx F μ H σ rel ((((evL C ks ρ S1).bind fun ys S2 => R.ok (xs ++ ys) S2)).bind k) Q := h
      rw [e2] at h'; exact h'
    | ex c v S2 =>
      have h' : EndR W wx F μ H σ rel ((((evL C ks ρ S1).bind fun ys S2 => R.ok (xs ++ ys) S2)).bind k) Q := h
      rw [e2] at h'
      exact EndR.shift (rel := rel) (r := .ex c v S2) (Q := Q) x1 h'
    | ok ys S2 =>
      have h' : EndR W wx F μ H σ rel ((((evL C ks ρ S1).bind fun ys S2 => R.ok (xs ++ ys) S2)).bind k) Q := h
      rw [e2] at h'
      have h2 : EndR W wx F μ H σ rel (k (xs ++ ys) S2) Q := h'
      intro F2 μ2 H2 zs x2 R2 r2
      exact ⟨F2, μ2, S2, xs, ys, x1.trans x2, R2, R1.extL x2 r1, r2, evL_len C es ρ S S1 xs e1, evL_len C ks ρ S1 S2 ys e2, EndR.shift (x1.trans x2) h2⟩
end
end PM
set_option Elab.async false
set_option linter.all false
set_option autoImplicit false
set_option maxHeartbeats 4000000
/-! PMExpr3: what stands behind the top; calls of functions, methods, classes; attributes; displays. -/
namespace PM
open PySem PySem.Spec PyProof.Rows L2
/-- which calls are in the text: key, values by place, names -/
structure Shp where
  fn : String → Nat → List String → Bool
  me : String → Nat → List String → Bool
  mkc : String → Nat → List String → Bool
def builtinsUsed : List String := ["len", "int", "all", "any", "sum", "max", "min", "list", "tuple", "dict", "set", "sorted", "str", "repr", "range", "zip", "enumerate", "isinstance", "bool"]
/-- what isinstance asks of an own class -/
structure InsTy (K : PySem.W.Frag) (C : Addr) : Prop where
  ha : PySem.W.findIn K (.ref C) "__class__" = some (some (.builtin "object.__class__"))
  hn : PySem.W.specialIn K (.builtin "object.__class__") "__get__" = some (some (.builtin "getset_descriptor.__get__"))
  htk : PySem.W.takesIn K (.builtin "object.__class__") = some true
  hm : PySem.W.mroIn K C (.type "object") = some true
/-- what an own error's __init__ does: its one attribute -/
def initSp (Ca : Addr) (f : Str) : Sp := fun vs H Q _ => ∃ (a : Addr) (y : V), vs = [.ref a, y] ∧ H a = some (exo a Ca none) ∧ ∀ dx, H dx = none → dx ≠ a → Q .non (upd (upd H dx (exd dx [(f, y)])) a (exo a Ca (some dx)))
/-- what stands behind the top, for bodies that call k levels deep -/
structure Sta (W : Wx) (C : Ctx) (sh : Shp) (k : Nat) (P : Program) (w : World) (K : PySem.W.Frag) (mg : Str → Option Value) (base : Heap) : Prop where
  fn : ∀ f n ks, sh.fn f n ks = true → ∃ a, mg (Str.ofString f) = some (.ref a) ∧ PySem.W.keepIn K (.ref a) = true ∧ FnG W P w K mg base k a (C.call f) n ks
  me : ∀ c m n ks Ca, W.cl c = some Ca → sh.me m n ks = true → C.has (c ++ "." ++ m) = true → ∃ a, Meth K Ca (Str.ofString m) a ∧ FnG W P w K mg base k a (C.call (c ++ "." ++ m)) (n + 1) ks
  cls : ∀ c Ca, W.cl c = some Ca → Cls K Ca
  mkc : ∀ c n ks, sh.mkc c n ks = true → ∃ Ca a, W.cl c = some Ca ∧ mg (Str.ofString c) = some (.ref Ca) ∧ Mk K Ca a ∧ FnG W P w K mg base k a (C.call (c ++ ".__init__")) (n + 1) ks
  pr : ∀ c f Ca, W.cl c = some Ca → C.prop c f = true → ∃ p g, PropOf K Ca (Str.ofString f) p g ∧ FnG W P w K mg base k g (C.call (c ++ "." ++ f)) 1 []
  ty : ∀ c Ca, W.cl c = some Ca → InsTy K Ca
  is1 : ∀ T ∈ ["NoneType", "bool", "int", "str", "list", "tuple", "dict"], ∀ c Ca, W.cl c = some Ca → PySem.W.kitOne K (.ref Ca) (.type T) = some false ∧ PySem.W.kitOne K (.type T) (.ref Ca) = some false
  is2 : ∀ c c' Ca Ca', W.cl c = some Ca → W.cl c' = some Ca' → PySem.W.kitOne K (.ref Ca) (.ref Ca') = some (c == c')
  eq : ∀ c Ca, W.cl c = some Ca → C.has (c ++ ".__eq__") = true → ∃ a, PySem.W.findIn K (.ref Ca) "__eq__" = some (some (.ref a)) ∧ PySem.W.isFn K (.ref a) = true ∧ FnG W P w K mg base k a (C.call (c ++ ".__eq__")) 2 [] ∧
    (∀ T ∈ ["NoneType", "bool", "int", "str", "list", "tuple", "dict"], PySem.W.notFirst K Ca (.type T) = true) ∧ ∀ c' Ca', W.cl c' = some Ca' → PySem.W.notFirst K Ca (.ref Ca') = true
  no : ∀ c f Ca, W.cl c = some Ca → C.isF c f = true → NoAttr K Ca (Str.ofString f)
  sm : ∃ o, base.get? sysModules = some o ∧ o.cls = .type "dict"
  xr : ∀ c Ca f, W.xc c = some (Ca, f) → ∃ (fI : Addr) (fd : FuncData) (ps : List Str), mg (Str.ofString c) = some (.ref Ca) ∧ OexC K Ca ∧ PySem.W.findIn K (.ref Ca) "__init__" = some (some (.ref fI)) ∧ PySem.W.typeIn K (.ref fI) = some (.type "function") ∧
    FnOk P w K mg base (L2.CX P w) 1 fI fd ps (initSp Ca f) ∧ Binds K fd ps [] ∧ ∃ gf gV, KBn K fd ps 1 [f] gf gV ∧ ∀ x y, gV [x] [y] = [x, y]
  xe : ∀ c Ca f, W.xc c = some (Ca, f) → ExcC K Ca ∧ XfC K Ca ∧ PySem.W.findIn K (.ref Ca) f = some none ∧ ∀ g, C.xat c = some g → f = Str.ofString g
  bl : ∀ x ∈ builtinsUsed, mg (Str.ofString x) = none
  gl : ∀ x d, noDct (C.glb x) = some d → ∃ v u, mg (Str.ofString x) = some u ∧ RelV v u ∧ ∀ F μ H, Rep W.toWd F μ H d v
  gd : ∀ x kvs, C.glb x = some (.dct kvs) → ∃ p es n, mg (Str.ofString x) = some (.ref p) ∧ KDict K w p es n ∧ ∀ t : Txt, match getK kvs (.inr t) with
    | some d => ∃ y u, d = .str y ∧ y.length ≤ sizeLine ∧ PySem.W.nsIn K p (tS t) = some (some u) ∧ RelV (.str (tS y)) u
    | none => PySem.W.nsIn K p (tS t) = some none
/-- static facts of a body's context, an except suite's too -/
structure Gb (W : Wx) (C : Ctx) (sh : Shp) (k : Nat) (X : Cx) : Prop where
  nd : X.N.Nodup
  hK : X.K = W.K
  hu : X.A.units + 160 < cLine
  gs : X.A.guards = some []
  st : Sta W C sh k X.prog X.w X.K X.mg X.base
/-- .. outside of a suite -/
structure Gd (W : Wx) (C : Ctx) (sh : Shp) (k : Nat) (X : Cx) : Prop extends Gb W C sh k X where
  calm : X.calm = true
  room : BRoom k X.A
instance {W : Wx} {C : Ctx} {sh : Shp} {k : Nat} {X : Cx} : Coe (Gd W C sh k X) (Gb W C sh k X) := ⟨Gd.toGb⟩

def notSuper : Expr → Bool
  | .Call (.Name _ _) [] [] _ => false
  | _ => true
theorem base_ns {o : Expr} {m : Str} {env : PySem.Env} {wh : Sem Value} (h : notSuper o = true) : attributeBase o m env wh = wh := by
  cases o with
  | Call f es ks p =>
    cases f with
    | Name x q =>
      cases es with
      | nil =>
        cases ks with
        | nil => cases h
        | cons _ _ => rfl
      | cons _ _ => rfl
    | _ => rfl
  | _ => rfl
theorem all_ns {pos : Pos} {env : PySem.Env} : ∀ {es : List Expr}, es.all (fun e => !isSt e) = true → (backTo pos (starEach es env)).all (fun x => !x.1) = true
  | [], _ => rfl
  | e :: es, h => by
    rw [List.all_cons, Bool.and_eq_true] at h
    rw [starEach_ns (by simpa using h.1)]
    show (!false && (backTo pos (starEach es env)).all (fun x => !x.1)) = true
    rw [all_ns h.2]; rfl
theorem kw_len {pos : Pos} {env : PySem.Env} : ∀ (kws : List Keyword), (backToKw pos (keywordEach kws env)).isEmpty = kws.isEmpty
  | [] => rfl
  | ⟨_, _, _⟩ :: _ => rfl
theorem method_eval {o : Expr} {m : Str} {apos pos : Pos} {es : List Expr} {kws : List Keyword} {env : PySem.Env} (h1 : notSuper o = true) (ns : es.all (fun e => !isSt e) = true) (ka : kws.all (fun k => k.arg.isSome) = true) (hn : es.length + kws.length < 20)
    (hl : (apos.endLine == pos.line) = true) :
    eval (.Call (.Attribute o m apos) es kws pos) env = (do
      let ov ← eval o env
      standAt apos.atName
      let (f, first) ← holding [ov] (getMethod ov m (do return (← importBound o env).getD true))
      callWith pos f first (backTo pos (starEach es env)) (backToKw pos (keywordEach kws env))) := by
  have hf : methodCallForm (es.length + kws.length) (backTo pos (starEach es env)) (backToKw pos (keywordEach kws env)) = true := by
    unfold methodCallForm
    rw [all_ns ns, (kw_all kws ka).1]
    show decide (_ < 30) = true
    refine decide_eq_true ?_
    split <;> omega
  have e : eval (.Call (.Attribute o m apos) es kws pos) env = (do
      let ov ← attributeBase o m env (eval o env)
      standAt apos.atName
      methodCall o m apos pos env ov (es.length + kws.length) (backTo pos (starEach es env)) (backToKw pos (keywordEach kws env))) := by rw [eval]
  rw [e, base_ns h1]
  unfold methodCall
  rw [hf]
  have hp : methodCallPos true o env apos pos = pure pos := by
    unfold methodCallPos
    rw [hl]
    rfl
  rw [hp]
  rfl
section
variable {W : Wx} {wx : WX} {C : Ctx} {sh : Shp} {k : Nat} {X : Cx}
theorem e_call (G : Gd W C sh k X) (tk : Takes X wx) {f : String} {x : Str} {p pos : Pos} {es : List Expr} {kws : List Keyword} {esI ksI : List E} {ks : List String} (hx : x = Str.ofString f) (hg : Gl X x) (hd : (x == ("__debug__" : Str)) = false) (hs : sh.fn f esI.length ks = true)
    (ns : es.all (fun e => !isSt e) = true) (ka : kws.all (fun k => k.arg.isSome) = true) (kn : kws.filterMap (·.arg) = ks.map Str.ofString) (l1 : es = [] → esI = []) (l2 : kws = [] → ksI = []) (l3 : ksI.length = ks.length)
    (ha : PA X es (tL W wx C esI)) (hw : PK X kws (tL W wx C ksI)) : PE X (.Call (.Name x p) es kws pos) (tE W wx C (.call f (esI ++ ksI) ks)) := by
  obtain ⟨a, e1, e2, e3⟩ := G.st.fn f _ ks hs
  refine ⟨fun pins s σ H Q I h => ?_⟩
  obtain ⟨ρ, S, F, μ, o, Rs, h⟩ := h
  unfold evE at h
  refine wpAny_Call_Name_kw (ld_glob I hg (by rw [hx]; exact e1) ?_ hd)
  refine call_any e2 ns ka ha hw (fun e σ H Q q => l_nil (by rw [l1 e] at q; exact q)) (fun e σ H Q q => l_nil (by rw [l2 e] at q; exact q)) I ?_
  refine tR_mono (l_split o Rs h) fun vs H1 h1 => tR_mono h1 fun zs H2 ⟨F', μ', S', xs, ys, x1, R', r1, r2, n1, n2, q⟩ => fun s2 us ws I2 rv rz => ?_
  rw [splitKw_append xs ys ks (n2.trans l3)] at q
  rw [kn]
  exact run_G tk e3 G.room.call I2 rv rz R' r1 r2 n1 (n2.trans l3) q
theorem obj_rep {F : Addr → Prop} {μ : List Addr} {H : Hp} {S : St} (Rs : Rl W.toWd F μ H S) {d : D} {v : V} {c : String} {fs : List (String × D)} (h : obj S d = some (c, fs)) (r : Rep W.toWd F μ H d v) :
    ∃ (a Ca dx : Addr) (ws : List (Str × V)), v = .ref a ∧ W.cl c = some Ca ∧ H a = some (.ins Ca dx ws) ∧ RepF W.toWd F μ H fs ws := by
  unfold obj at h
  split at h
  · cases h
    cases r with
    | ins c f q r => exact ⟨_, _, _, _, rfl, c, q, r⟩
  · split at h
    · rename_i e
      cases h
      obtain ⟨a, rfl, z, c⟩ := Rs.locS r e
      cases c with
      | ins c q r => exact ⟨_, _, _, _, rfl, c, q, r⟩
    · cases h
  · cases h
theorem ofS_inj {a b : String} (h : Str.ofString a = Str.ofString b) : a = b := by
  rw [Str.ofString_eq_toList, Str.ofString_eq_toList] at h
  have h1 : (a.toList.map Char.toNat).toArray = (b.toList.map Char.toNat).toArray := congrArg Str.cps h
  have h2 : a.toList.map Char.toNat = b.toList.map Char.toNat := by simpa using h1
  have h3 : a.toList = b.toList := (List.map_inj_right (fun x y e => Char.toNat_inj.mp e)).mp h2
  exact String.toList_inj.mp h3
theorem RepF.get {F : Addr → Prop} {μ : List Addr} {H : Hp} (f : String) : ∀ {fs : List (String × D)} {ws : List (Str × V)}, RepF W.toWd F μ H fs ws →
    (getF fs f = none ∧ ws.lookup (Str.ofString f) = none) ∨ ∃ d v, getF fs f = some d ∧ ws.lookup (Str.ofString f) = some v ∧ Rep W.toWd F μ H d v
  | _, _, .nil => .inl ⟨rfl, rfl⟩
  | _, _, .cons (f := g) (x := x) (v := v) a b => by
    unfold getF
    by_cases e : f = g
    · subst e
      exact .inr ⟨x, v, by rw [List.lookup_cons, beq_self_eq_true], by rw [List.lookup_cons, beq_self_eq_true], a⟩
    · have e1 : (f == g) = false := beq_eq_false_iff_ne.mpr e
      have e2 : (Str.ofString f == Str.ofString g) = false := beq_eq_false_iff_ne.mpr fun z => e (ofS_inj z)
      rw [List.lookup_cons, List.lookup_cons, e1, e2]
      exact RepF.get f b
theorem e_meth (G : Gd W C sh k X) (tk : Takes X wx) {m : String} {y : Str} {oe : Expr} {o : E} {apos pos : Pos} {es : List Expr} {kws : List Keyword} {esI ksI : List E} {ks : List String} (hy : y = Str.ofString m) (hs : sh.me m esI.length ks = true)
    (h1 : notSuper oe = true) (ns : es.all (fun e => !isSt e) = true) (ka : kws.all (fun k => k.arg.isSome) = true) (hn : es.length + kws.length < 20) (hl : (apos.endLine == pos.line) = true) (kn : kws.filterMap (·.arg) = ks.map Str.ofString)
    (l1 : es = [] → esI = []) (l2 : kws = [] → ksI = []) (l3 : ksI.length = ks.length) (ho : PE X oe (tE W wx C o)) (ha : PA X es (tL W wx C esI)) (hw : PK X kws (tL W wx C ksI)) : PE X (.Call (.Attribute oe y apos) es kws pos) (tE W wx C (.meth m o (esI ++ ksI) ks)) := by
  refine ⟨fun pins s σ H Q I h => ?_⟩
  obtain ⟨ρ, S, F, μ, ro, Rs, h⟩ := h
  unfold evE at h
  refine PySem.W.methodCall_KW (thn (ho.run pins s σ H _ I ⟨ρ, S, F, μ, ro, Rs, EndR.bind (rel := relD W) h⟩) fun u s1 ⟨v, H1, I1, rx, F1, μ1, x, S1, x1, R1, r1, q⟩ => ?_) (method_eval h1 ns ka hn hl)
  cases eo : obj S1 x with
  | none => rw [eo] at q; exact q.elim
  | some cf =>
    obtain ⟨c, fs⟩ := cf
    rw [eo] at q
    simp only at q
    obtain ⟨a, Ca, dx, wsf, rfl, ec, ea, rf⟩ := obj_rep R1 eo r1
    split at q
    case isFalse => exact q.elim
    case isTrue hnone =>
    obtain ⟨hnone, hhas⟩ := hnone
    have q0 : EndR W wx F1 μ1 H1 σ (relD W) ((evL C (esI ++ ksI) ρ S1).bind fun ds S1 => C.call (c ++ "." ++ m) (x :: (splitKw ds ks).1) (splitKw ds ks).2 S1) Q := q
    obtain ⟨g, hM, hG⟩ := G.st.me c m _ ks Ca ec hs hhas
    · obtain rfl : u = Value.ref a := rx
      have hl0 : wsf.lookup y = none := by
        rcases RepF.get m rf with ⟨_, z⟩ | ⟨d, v, z, _⟩
        · rw [hy]; exact z
        · rw [z] at hnone; cases hnone
      refine getmeth_ok I1 ea (G.st.cls c Ca ec) (by rw [hy]; exact hM) hl0 ?_
      refine call_any (first := [.ref a]) hM.kp ns ka ha hw (fun e σ H Q q => l_nil (by rw [l1 e] at q; exact q)) (fun e σ H Q q => l_nil (by rw [l2 e] at q; exact q)) I1 ?_
      have o1 : Ro W F1 μ1 H1 ρ σ := ro.ext Rs x1
      -- x, to the end
      have q1 : EndR W wx F1 μ1 H1 σ (relD W) ((evL C (esI ++ ksI) ρ S1).bind fun ds S2 => C.call (c ++ "." ++ m) (x :: (splitKw ds ks).1) (splitKw ds ks).2 S2) Q := q0
      refine tR_mono (l_split o1 R1 q1) fun vs H2 h2 => tR_mono h2 fun zs H3 ⟨F', μ', S', xs, ys, x2, R', r2, r3, n1, n2, q⟩ => fun s2 us ws I2 rv rz => ?_
      rw [splitKw_append xs ys ks (n2.trans l3)] at q
      rw [kn]
      exact run_G tk hG G.room.call I2 (us := .ref a :: us) (vs := .ref a :: vs) (.cons rfl rv) rz R' (.cons (R1.ext x2 r1) r2) r3 (congrArg Nat.succ n1) (n2.trans l3) q
end
end PM
set_option Elab.async false
set_option linter.all false
set_option autoImplicit false
set_option maxHeartbeats 4000000
/-! PMExpr4: new objects, attributes. -/
namespace PM
open PySem PySem.Spec PyProof.Rows L2
section
variable {W : Wd} {F : Addr → Prop} {μ : List Addr} {H : Hp}
/-- a new thing that nothing speaks of -/
theorem Ext.side {S : St} (R : Rl W F μ H S) {p : Addr} {o : HO} (hp : H p = none) : Ext F μ H F μ (upd H p o) where
  sub := fun a h => h
  new := fun a h => .inl h
  pre := List.prefix_refl _
  newM := fun a h => .inl h
  stay := fun a u h n => by rw [upd_ne (ne_of_none h hp)]; exact h
  there := fun a h => by
    cases q : H a with
    | none => exact absurd q h
    | some u => rw [upd_ne (ne_of_none q hp), q]; simp
  frzs := fun a o u h => by rw [upd_ne (ne_of_none h hp)]; exact h
theorem Rl.side {S : St} (R : Rl W F μ H S) {p : Addr} {o : HO} (hp : H p = none) : Rl W F μ (upd H p o) S := by
  have E := Ext.side (o := o) R hp
  refine ⟨R.len, R.nd, fun a h => E.there a (R.fz a h), R.off, fun i a c h1 h2 => ?_⟩
  have q : a ≠ p := fun e => by
    obtain ⟨o, q⟩ := (R.cell i a c h1 h2).has
    rw [e, hp] at q; cases q
  exact (R.cell i a c h1 h2).ext R.fz R.off E fun o h => by rw [upd_ne q]; exact h
end
section
variable {W : Wx} {wx : WX} {C : Ctx} {sh : Shp} {k : Nat} {X : Cx}
/-- C(..): a place, then its __init__ -/
def mkRun (C : Ctx) (z : Bool) (c : String) (pos : List D) (kws : List (String × D)) (S1 : St) : R D :=
  (C.call (c ++ ".__init__") (.loc S1.length :: pos) kws (S1 ++ [.ins c []])).bind fun r S2 => match r with
    | .non => if z then cutAt S1 S2 (.loc S1.length) else .ok (.loc S1.length) S2
    | _ => .bad
theorem run_mkG (tk : Takes X wx) {z : Bool} {c : String} {f Ca : Addr} {n : Nat} {ks : List String} (M : Mk X.K Ca f) (ec : W.cl c = some Ca) (G : FnG W X.prog X.w X.K X.mg X.base k f (C.call (c ++ ".__init__")) (n + 1) ks) (hr : BRoom k X.A)
    {pins : List (Addr × Obj)} {σ : L2.St} {H : Hp} {s : Shared} {Q : VK} {us ws : List Value} {vs zs : List V} {pos kvals : List D} {F : Addr → Prop} {μ : List Addr} {S : St}
    (I : Inv X pins σ H s) (rv : Vals vs us) (rz : Vals zs ws) (R : Rl W.toWd F μ H S) (rp : RepL W.toWd F μ H pos vs) (rk : RepL W.toWd F μ H kvals zs) (hn : pos.length = n) (hk : kvals.length = ks.length)
    (h : EndR W wx F μ H σ (relD W) (mkRun C z c pos (ks.zip kvals) S) Q) : wpAny (model X.prog X.w) X.A (call (.ref Ca) us ((ks.map Str.ofString).zip ws)) (EP X pins σ Q) X.xe s := by
  have hd : H s.heap.objs.size = none := I.hok.fresh (Nat.le_refl _)
  have hx : H (s.heap.objs.size + 1) = none := I.hok.fresh (Nat.le_succ _)
  have ne : s.heap.objs.size ≠ s.heap.objs.size + 1 := Nat.ne_of_lt (Nat.lt_succ_self _)
  have I2 := Inv.made (C := Ca) I
  generalize hdx : s.heap.objs.size = dx at *
  have hx1 : upd H dx (.own (dx + 1)) (dx + 1) = none := by rw [upd_ne (Ne.symm ne)]; exact hx
  have R1 : Rl W.toWd F μ (upd H dx (.own (dx + 1))) S := R.side hd
  have E1 : Ext F μ H F μ (upd H dx (.own (dx + 1))) := Ext.side R hd
  have E2 := Ext.alloc (o := HO.ins Ca dx []) R1 hx1
  have R2 : Rl W.toWd F (μ ++ [dx + 1]) (upd (upd H dx (.own (dx + 1))) (dx + 1) (.ins Ca dx [])) (S ++ [.ins c []]) := R1.alloc hx1 (.ins ec (by rw [upd_same]) .nil)
  have E := E1.trans E2
  have rself : Rep W.toWd F (μ ++ [dx + 1]) (upd (upd H dx (.own (dx + 1))) (dx + 1) (.ins Ca dx [])) (.loc S.length) (.ref (dx + 1)) := .loc (by rw [← R.len, List.getElem?_append_right (Nat.le_refl _), Nat.sub_self]; rfl)
  have h2 : EndR W wx F (μ ++ [dx + 1]) (upd (upd H dx (.own (dx + 1))) (dx + 1) (.ins Ca dx [])) σ (relD W) (C.call (c ++ ".__init__") (.loc S.length :: pos) (ks.zip kvals) (S ++ [.ins c []])) fun v H' => v = .non ∧ Q (.ref (dx + 1)) H' := by
    unfold mkRun at h
    cases hc : C.call (c ++ ".__init__") (.loc S.length :: pos) (ks.zip kvals) (S ++ [.ins c []]) with
    | bad => rw [hc] at h; exact h.elim
    | ex cc vv S2 =>
      rw [hc] at h
      exact fun F1 μ1 H1 cls d e R' x => h F1 μ1 H1 cls d (E.trans e) R' x
    | ok r S2 =>
      rw [hc] at h
      intro F1 μ1 H1 v e1 R1' r1
      cases r with
      | non =>
        cases r1
        refine ⟨rfl, ?_⟩
        have h3 : EndR W wx F μ H σ (relD W) (if z = true then cutAt S S2 (.loc S.length) else .ok (.loc S.length) S2) Q := h
        have rs := R2.ext e1 rself
        split at h3
        · cases hq : cutAt S S2 (.loc S.length) with
          | bad => rw [hq] at h3; exact h3.elim
          | ex _ _ _ => unfold cutAt at hq; split at hq <;> (try split at hq) <;> cases hq
          | ok d S3 =>
            rw [hq] at h3
            obtain ⟨F2, e2, R3, r3⟩ := cut_ok R (E.trans e1) R1' rs hq
            exact h3 F2 μ H1 _ e2 R3 r3
        · exact h3 F1 μ1 H1 _ (E.trans e1) R1' rs
      | _ => exact h.elim
  have h3 : EndR W (fun cls d _ H' => (fun cls d H' => wx cls d σ H') cls d H') F (μ ++ [dx + 1]) (upd (upd H dx (.own (dx + 1))) (dx + 1) (.ins Ca dx [])) [] (relD W) (C.call (c ++ ".__init__") (.loc S.length :: pos) (ks.zip kvals) (S ++ [.ins c []])) fun v H' => v = .non ∧ Q (.ref (dx + 1)) H' := by
    cases hc : C.call (c ++ ".__init__") (.loc S.length :: pos) (ks.zip kvals) (S ++ [.ins c []]) with
    | bad => rw [hc] at h2; exact h2
    | ex cc vv S2 => rw [hc] at h2; exact h2
    | ok r S2 => rw [hc] at h2; exact h2
  refine wpAny_call (make_map (f := f) I.kIn M.makes M.init (beq_iff_eq.mp M.fn) ?_)
  rw [hdx]
  refine codeAny_mono (G _ X.stack _ _ (.ref (dx + 1) :: us) ws (.ref (dx + 1) :: vs) zs (.loc S.length :: pos) kvals F (μ ++ [dx + 1]) (S ++ [.ins c []]) _ (fun cls d H' => wx cls d σ H') (hr.make Ca us _) (I2.env0.make Ca us _) (.cons rfl rv) rz R2 (.cons rself (R.extL E rp)) (R.extL E rk) (congrArg Nat.succ hn) hk h3) fun r s' hq => ?_
  cases r with
  | error e => exact tk e s' (XE.of_call I2 (fun cls d H' h => h) hq)
  | ok fl =>
    cases fl with
    | ret u =>
      obtain ⟨v, H', I3, rv, ev, q3⟩ := I2.after hq
      subst ev
      exact ⟨rv, ⟨V.ref (dx + 1), H', I3, rfl, q3⟩⟩
    | next => exact False.elim hq
    | brk => exact False.elim hq
    | cont => exact False.elim hq
theorem e_make (G : Gd W C sh k X) (tk : Takes X wx) {z : Bool} {c : String} {x : Str} {p pos : Pos} {es : List Expr} {kws : List Keyword} {esI ksI : List E} {ks : List String} (hx : x = Str.ofString c) (hg : Gl X x) (hd : (x == ("__debug__" : Str)) = false) (hs : sh.mkc c esI.length ks = true)
    (ns : es.all (fun e => !isSt e) = true) (ka : kws.all (fun k => k.arg.isSome) = true) (kn : kws.filterMap (·.arg) = ks.map Str.ofString) (l1 : es = [] → esI = []) (l2 : kws = [] → ksI = []) (l3 : ksI.length = ks.length)
    (ha : PA X es (tL W wx C esI)) (hw : PK X kws (tL W wx C ksI)) : PE X (.Call (.Name x p) es kws pos) (tE W wx C (.make z c (esI ++ ksI) ks)) := by
  obtain ⟨Ca, a, ec, e1, M, e3⟩ := G.st.mkc c _ ks hs
  refine ⟨fun pins s σ H Q I h => ?_⟩
  obtain ⟨ρ, S, F, μ, o, Rs, h⟩ := h
  unfold evE at h
  refine wpAny_Call_Name_kw (ld_glob I hg (by rw [hx]; exact e1) ?_ hd)
  refine call_any M.kp ns ka ha hw (fun e σ H Q q => l_nil (by rw [l1 e] at q; exact q)) (fun e σ H Q q => l_nil (by rw [l2 e] at q; exact q)) I ?_
  have h' : EndR W wx F μ H σ (relD W) ((evL C (esI ++ ksI) ρ S).bind fun ds S1 => mkRun C z c (splitKw ds ks).1 (splitKw ds ks).2 S1) Q := h
  refine tR_mono (l_split o Rs h') fun vs H1 h1 => tR_mono h1 fun zs H2 ⟨F', μ', S', xs, ys, x1, R', r1, r2, n1, n2, q⟩ => fun s2 us ws I2 rv rz => ?_
  rw [splitKw_append xs ys ks (n2.trans l3)] at q
  rw [kn]
  exact run_mkG tk M ec e3 G.room I2 rv rz R' r1 r2 n1 (n2.trans l3) q
/-- o.f -/
theorem e_fld (G : Gd W C sh k X) {f : String} {y : Str} {oe : Expr} {o : E} {pos : Pos} (hy : y = Str.ofString f) (h1 : notSuper oe = true) (ho : PE X oe (tE W wx C o)) : PE X (.Attribute oe y pos) (tE W wx C (.fld o f)) := by
  refine ⟨fun pins s σ H Q I h => ?_⟩
  obtain ⟨ρ, S, F, μ, ro, Rs, h⟩ := h
  unfold evE at h
  refine attr_of (base_ns h1) (thn (ho.run pins s σ H _ I ⟨ρ, S, F, μ, ro, Rs, EndR.bind (rel := relD W) h⟩) fun u s1 ⟨v, H1, I1, rx, F1, μ1, x, S1, x1, R1, r1, q⟩ => ?_)
  by_cases hx : ∃ c y, x = .err c y
  · obtain ⟨c, y, rfl⟩ := hx
    cases r1 with
    | err hc f0 g0 q1 z1 ry =>
      unfold getFd at q
      simp only at q
      split at q
      case isFalse => exact q.elim
      case isTrue hxat =>
      obtain ⟨_, T, hno, hf⟩ := G.st.xe _ _ _ hc
      have hf' := hf _ hxat
      subst hf'
      obtain rfl : u = Value.ref _ := rx
      obtain ⟨t1, hoe⟩ := exo_at I1.hok q1
      obtain ⟨mA, hns, hr⟩ := exd_at I1.hok z1
      obtain ⟨od, ho, hl⟩ := lookIn_ns hns
      obtain ⟨u, hu, ru⟩ := RelO.some_of (v := _) (o := mA (Str.ofString f)) (by have := hr (Str.ofString f); rw [lookup_put, if_pos rfl] at this; exact this)
      have J : PySem.W.InstAt s1.heap _ _ _ (some od) := ⟨hoe, rfl, rfl, ho⟩
      rw [hy]
      exact HandSPX.exc_get I1.kIn J T.ga T.gg T.exC (PySem.W.findObj_own T.hdC hno rfl (by rw [hl, hu])) (handed_of ru) ⟨_, H1, I1.tok _, ru, EndR.here (rel := relD W) q R1 ry⟩
  have q1 : ∃ cf, obj S1 x = some cf ∧ EndR W wx F1 μ1 H1 σ (relD W) (if C.prop cf.1 f then (match C.call (cf.1 ++ "." ++ f) [x] [] S1 with | .ok d S' => .ok d S' | _ => .bad) else if C.isF cf.1 f then R.of (getF cf.2 f) S1 else .bad) Q := by
    cases eo : obj S1 x with
    | none =>
      unfold getFd at q
      cases r1 <;> first | exact absurd ⟨_, _, rfl⟩ hx | (simp only [eo] at q; exact q.elim)
    | some cf =>
      refine ⟨cf, rfl, ?_⟩
      unfold getFd at q
      cases r1 <;> first | exact absurd ⟨_, _, rfl⟩ hx | (simp only [eo] at q; exact q)
  obtain ⟨⟨c, fs⟩, eo, q⟩ := q1
  obtain ⟨a, Ca, dx, wsf, rfl, ec, ea, rf⟩ := obj_rep R1 eo r1
  obtain rfl : u = Value.ref a := rx
  simp only at q
  split at q
  case isTrue hp =>
    obtain ⟨p, g, hP, hG⟩ := G.st.pr c f Ca ec hp
    have q3 : EndR W (fun _ _ _ _ => False) F1 μ1 H1 [] (relD W) (C.call (c ++ "." ++ f) [x] [] S1) Q := by
      cases hc : C.call (c ++ "." ++ f) [x] [] S1 with
      | ok d S' => rw [hc] at q; exact q
      | ex _ _ _ => rw [hc] at q; exact q.elim
      | bad => rw [hc] at q; exact q.elim
    obtain ⟨mA, O, _, _, _, _⟩ := ins_get I1.hok ea
    obtain ⟨od, J, _⟩ := O.look
    obtain ⟨rest, hrec⟩ := hP.rec_
    have I2 := I1.tok (s1.toks + 1)
    have c' := G.st.cls c Ca ec
    have hcl : (PySem.W.clsIn X.K Ca).isSome = true := by
      obtain ⟨cd, hc, _⟩ := PySem.W.any_some c'.hd
      rw [hc]
      rfl
    rw [hy]
    refine PySem.W.get_bind I1.kIn J (PySem.W.plainGet_of (c'.get Str.empty)).1 (PySem.W.findObj_data hcl hP.at_ hP.get hP.tak) (PySem.W.plainGet_of (c'.get Str.empty)).2 (wpAny_call (PySem.W.prop_get (s := { s1 with toks := s1.toks + 1 }) I1.kIn hrec ?_))
    refine codeAny_mono (hG X.A.in1 X.stack { s1 with toks := s1.toks + 1 } H1 [.ref a] [] [.ref a] [] [x] [] F1 μ1 S1 Q (fun _ _ _ => False) G.room.in1 I2.env0.in1 (.cons rfl .nil) .nil R1 (.cons r1 .nil) .nil rfl rfl q3) fun r s' hq => ?_
    cases r with
    | error er =>
      obtain ⟨_, _, _, _, _, _, _, _, _, _, _, _, z⟩ := hq
      exact z.elim
    | ok fl =>
      cases fl with
      | ret u =>
        obtain ⟨v, H', I3, rv, q3⟩ := I2.after hq
        show wpAny _ _ (handedOut u) _ _ _
        rw [PySem.W.handedOut_of (handed_of rv)]
        exact wpAny_pure ⟨v, H', I3, rv, q3⟩
      | next => exact False.elim hq
      | brk => exact False.elim hq
      | cont => exact False.elim hq
  case isFalse hp =>
    split at q
    case isFalse => exact q.elim
    case isTrue hf =>
      obtain ⟨d, ed, q⟩ := EndR.of q
      rcases RepF.get f rf with ⟨z, _⟩ | ⟨d', v, z, l, r⟩
      · rw [z] at ed; cases ed
      · rw [z] at ed; cases ed
        refine getattr_ok I1 ea (G.st.cls c Ca ec) (by rw [hy]; exact G.st.no c f Ca ec hf) (by rw [hy]; exact l) fun u s' I' ru => ⟨v, H1, I', ru, EndR.here (rel := relD W) q R1 r⟩
end
end PM
set_option Elab.async false
set_option linter.all false
set_option autoImplicit false
set_option maxHeartbeats 4000000
/-! PMExpr5: types; isinstance; own ==; and, or. -/
namespace PM
open PySem PySem.Spec PyProof.Rows L2
def tyNm : Ty → String
  | .str => "str" | .int => "int" | .bool => "bool" | .list => "list" | .tuple => "tuple" | .dict => "dict" | .own _ => ""
def tyc (W : Wd) : Ty → Option Value
  | .own c => (W.cl c).map .ref
  | t => some (.type (tyNm t))
theorem kitB_all : ∀ a ∈ ["NoneType", "bool", "int", "str", "list", "tuple", "dict"], ∀ b ∈ ["bool", "int", "str", "list", "tuple", "dict"], kitB a b = some (decide (a = b) || (decide (a = "bool") && decide (b = "int"))) := by decide +kernel
/-- the type of a value, by name: a builtin's or a class's -/
def tyOf (S : St) : D → Option (String ⊕ String)
  | .loc n => match S[n]? with
    | some (.lst _) => some (.inl "list")
    | some (.dct _ _) => some (.inl "dict")
    | some (.ins c _) => some (.inr c)
    | none => none
  | .non => some (.inl "NoneType")
  | .bl _ => some (.inl "bool")
  | .int _ => some (.inl "int")
  | .str _ => some (.inl "str")
  | .tup _ => some (.inl "tuple")
  | .lst _ => some (.inl "list")
  | .dct _ => some (.inl "dict")
  | .ins c _ => some (.inr c)
  | .exn _ _ => none
  | .err _ _ => none
def tyV (W : Wd) : String ⊕ String → Option Value
  | .inl n => some (.type n)
  | .inr c => (W.cl c).map .ref
section
variable {W : Wx} {wx : WX} {C : Ctx} {sh : Shp} {k : Nat} {X : Cx}
theorem ty_rep (G : Gb W C sh k X) {F : Addr → Prop} {μ : List Addr} {H : Hp} {S : St} (Rs : Rl W.toWd F μ H S) {d : D} {v : V} (hn : tyOf S d ≠ none) (r : Rep W.toWd F μ H d v) : ∃ n t, tyOf S d = some n ∧ tyV W.toWd n = some t ∧ TyX X.K H v t := by
  have insT : ∀ {a C dx : Addr} {c : String} {ws : List (Str × V)}, W.cl c = some C → H a = some (.ins C dx ws) → TyX X.K H (.ref a) (.ref C) := fun {a C dx c ws} ec e =>
    let z := G.st.ty c C ec
    .base (.ins e (G.st.cls c C ec) z.ha z.hn z.htk z.hm)
  cases r with
  | non => exact ⟨_, _, rfl, rfl, .base .non⟩
  | bl b => exact ⟨_, _, rfl, rfl, .base (.bl b)⟩
  | int i => exact ⟨_, _, rfl, rfl, .base (.int i)⟩
  | str x hx => exact ⟨_, _, rfl, rfl, .base (.str _)⟩
  | tup z r =>
    refine ⟨_, _, rfl, rfl, ?_⟩
    rcases z with ⟨_, q⟩ | ⟨o, its, n, q, q2, _⟩
    · exact .base (.tup q)
    · exact .kTuple (by rw [G.hK]; exact q) q2
  | lst f q r =>
    refine ⟨_, _, rfl, rfl, ?_⟩
    rcases q with q | ⟨o, q⟩
    · exact .base (.lst q)
    · exact .base (.frz q)
  | dct f q r => exact ⟨_, _, rfl, rfl, q.elim (fun z => .base (.dK z)) fun ⟨_, z⟩ => .fDict z⟩
  | ins c f q r => exact ⟨_, _, rfl, by show (W.cl _).map _ = _; rw [c]; rfl, insT c q⟩
  | err c f g q z r => exact absurd rfl hn
  | loc z =>
    rename_i i a
    have hlt : i < S.length := by rw [← Rs.len]; exact (List.getElem?_eq_some_iff.mp z).1
    have c := Rs.cell i a _ z (List.getElem?_eq_getElem hlt)
    unfold tyOf
    simp only [List.getElem?_eq_getElem hlt]
    generalize S[i] = cc at c
    cases c with
    | lst q r => exact ⟨_, _, rfl, rfl, .base (.lst q)⟩
    | dct q r => exact ⟨_, _, rfl, rfl, q.rd.elim (fun z => .base (.dK z)) fun ⟨_, z⟩ => .fDict z⟩
    | ins c q r => exact ⟨_, _, rfl, by show (W.cl _).map _ = _; rw [c]; rfl, insT c q⟩
theorem tyOf_mem {S : St} {d : D} {n : String} (h : tyOf S d = some (.inl n)) : n ∈ ["NoneType", "bool", "int", "str", "list", "tuple", "dict"] := by
  unfold tyOf at h
  split at h <;> (try split at h) <;> cases h <;> decide
/-- isTy, by the type's name -/
def isN : String ⊕ String → Ty → Bool
  | .inl n, .own _ => false
  | .inl n, t => decide (n = tyNm t) || (decide (n = "bool") && decide (tyNm t = "int"))
  | .inr c, .own e => c == e
  | .inr _, _ => false
theorem isTy_N {S : St} {d : D} {T : Ty} {b : Bool} {n : String ⊕ String} (h : isTy S d T = some b) (e : tyOf S d = some n) : b = isN n T := by
  unfold isTy at h
  unfold tyOf at e
  cases d with
  | loc i =>
    simp only at h e
    cases q : S[i]? with
    | none => rw [q] at e; cases e
    | some c =>
      rw [q] at h e
      cases c <;> cases T <;> simp at h e <;> subst e <;> subst h <;> first | rfl | decide
  | exn _ _ => cases e
  | err _ _ => cases e
  | _ => cases T <;> simp at h e <;> subst e <;> subst h <;> first | rfl | decide
theorem isN_kit (G : Gb W C sh k X) {S : St} {d : D} {n : String ⊕ String} {T : Ty} {t u : Value} (e : tyOf S d = some n) (e1 : tyV W.toWd n = some t) (e2 : tyc W.toWd T = some u) : PySem.W.kitOne X.K t u = some (isN n T) := by
  cases n with
  | inl n =>
    cases e1
    have hm := tyOf_mem e
    cases T with
    | own c =>
      obtain ⟨Ca, hc, rfl⟩ := Option.map_eq_some_iff.mp e2
      exact (G.st.is1 n hm c Ca hc).2
    | _ =>
      cases e2
      refine kit_ty ?_
      exact kitB_all n hm _ (by decide)
  | inr c =>
    obtain ⟨Ca, hc, rfl⟩ := Option.map_eq_some_iff.mp e1
    cases T with
    | own c' =>
      obtain ⟨Ca', hc', rfl⟩ := Option.map_eq_some_iff.mp e2
      exact G.st.is2 c c' Ca Ca' hc hc'
    | _ =>
      cases e2
      exact (G.st.is1 _ (by decide) c Ca hc).1
end
end PM
set_option Elab.async false
set_option linter.all false
set_option autoImplicit false
set_option maxHeartbeats 4000000
/-! PMExpr6: isinstance, own ==, and/or, displays. -/
namespace PM
open PySem PySem.Spec PyProof.Rows L2
section
variable {W : Wx} {wx : WX} {C : Ctx} {sh : Shp} {k : Nat} {X : Cx}
/-! ### isinstance -/
theorem isTy_ty {S : St} {d : D} {T : Ty} (h : tyOf S d = none) : isTy S d T = none := by
  unfold tyOf at h
  unfold isTy
  cases d with
  | loc i =>
    simp only at h ⊢
    cases e : S[i]? with
    | none => rfl
    | some c => rw [e] at h; cases c <;> cases h
  | err _ _ => rfl
  | exn _ _ => rfl
  | _ => cases h
theorem isi_ty {F : Addr → Prop} {μ : List Addr} {H : Hp} {σ : L2.St} {S : St} {d : D} {T : Ty} {Ts : List Ty} {Q : V → Hp → Prop} (q : EndR W wx F μ H σ (relD W) (match isTys S d (T :: Ts) with
    | some t => R.ok (D.bl t) S
    | none => R.bad) Q) : tyOf S d ≠ none := fun z => by
  have e : isTys S d (T :: Ts) = none := by
    unfold isTys
    rw [isTy_ty z]
  rw [e] at q
  exact q.elim
theorem e_isi1 (G : Gb W C sh k X) {T : Ty} {u : Value} {ct : V} {a te : Expr} {aI : E} {p pos : Pos} (hg : Gl X "isinstance") (hc : ClsV ct u) (hu : tyc W.toWd T = some u) (ns : isSt a = false) (ha : PE X a (tE W wx C aI)) (ht : PE X te (tC ct)) (nst : isSt te = false) :
    PE X (.Call (.Name "isinstance" p) [a, te] [] pos) (tE W wx C (.isi aI [T])) := by
  have st : starEach [te] X.env = (false, eval te X.env) :: starEach [] X.env := starEach_ns nst
  refine PE_imp (pe_callB (call_isi (X := X)) hg (G.st.bl _ (by decide)) (by decide +kernel) (pa_cons ha (pa_cons ht pa_nil st) (starEach_ns ns)) (he := starEach_ns ns) (hpl := by rw [st]; rfl)) fun σ H Q h => ?_
  obtain ⟨ρ, S, F, μ, o, Rs, h⟩ := h
  unfold evE at h
  refine ⟨ρ, S, F, μ, o, Rs, (EndR.bind (rel := relD W) h).mono fun v H1 ⟨F1, μ1, x, S1, x1, R1, r1, q⟩ => ?_⟩
  obtain ⟨n, t, e1, e2, ty⟩ := ty_rep G R1 (isi_ty (T := T) (Ts := []) q) r1
  cases eb : isTys S1 x [T] with
  | none => rw [eb] at q; exact q.elim
  | some b =>
    rw [eb] at q
    have eb' : isTy S1 x T = some b := by
      unfold isTys isTys at eb
      cases e3 : isTy S1 x T with
      | none => rw [e3] at eb; cases eb
      | some b' => rw [e3] at eb; simpa using eb
    refine ⟨v, ct, t, u, b, rfl, hc, ty, ?_, EndR.here (rel := relD W) (a := D.bl b) q R1 (.bl b)⟩
    rw [isTy_N eb' e1]
    exact isN_kit G e1 e2 hu
theorem kitAny_isTys (G : Gb W C sh k X) {S : St} {x : D} {n : String ⊕ String} {t : Value} : ∀ {Ts : List Ty} {us : List Value} {b : Bool}, Ts.map (tyc W.toWd) = us.map some → isTys S x Ts = some b → tyOf S x = some n → tyV W.toWd n = some t → PySem.W.kitAny X.K t us = some b
  | [], [], b, _, eb, _, _ => by cases eb; rfl
  | [], _ :: _, b, hu, _, _, _ => by cases hu
  | _ :: _, [], b, hu, _, _, _ => by cases hu
  | T :: Ts, u :: us, b, hu, eb, e1, e2 => by
    injection hu with h1 h2
    unfold isTys at eb
    cases e3 : isTy S x T with
    | none => rw [e3] at eb; cases eb
    | some b1 =>
      cases e4 : isTys S x Ts with
      | none => rw [e3, e4] at eb; cases eb
      | some b2 =>
        rw [e3, e4] at eb
        have eb' : (b1 || b2) = b := by simpa using eb
        have k1 := isN_kit G e1 e2 h1
        rw [← isTy_N e3 e1] at k1
        refine kitAny_cons k1 (fun z => ?_) (fun z => ?_)
        · rw [← eb', z]; exact kitAny_isTys G h2 e4 e1 e2
        · rw [← eb', z]; rfl
/-- (T1, T2, ..) -/
theorem e_isiT (G : Gb W C sh k X) {a : Expr} {tes : List Expr} {Ts : List Ty} {us : List Value} {cs : List V} {aI : E} {p pos tpos : Pos} {tx} (hg : Gl X "isinstance") (hc : Paired ClsV cs us) (hu : Ts.map (tyc W.toWd) = us.map some) (hne : Ts ≠ []) (hl : cs.length ≤ sizeLine) (ns : isSt a = false) (ha : PE X a (tE W wx C aI))
    {tt : TA} (ht : PA X tes tt) (htt : ∀ σ H Q, Q cs H → tt σ H Q) :
    PE X (.Call (.Name "isinstance" p) [a, .Tuple tes tx tpos] [] pos) (tE W wx C (.isi aI Ts)) := by
  refine PE_imp (pe_callB (call_isiT (X := X)) hg (G.st.bl _ (by decide)) (by decide +kernel) (pa_cons ha (pa_cons (pe_tup ht) pa_nil rfl) (starEach_ns ns)) (he := starEach_ns ns)) fun σ H Q h => ?_
  obtain ⟨ρ, S, F, μ, o, Rs, h⟩ := h
  unfold evE at h
  refine ⟨ρ, S, F, μ, o, Rs, (EndR.bind (rel := relD W) h).mono fun v H1 ⟨F1, μ1, x, S1, x1, R1, r1, q⟩ => htt _ _ _ ⟨hl, fun p hp => ?_⟩⟩
  have E1 := Ext.side (o := HO.tup cs) R1 hp
  have R2 : Rl W.toWd F1 μ1 (upd H1 p (.tup cs)) S1 := R1.side hp
  have r2 := R1.ext E1 r1
  have hn : tyOf S1 x ≠ none := by
    cases Ts with
    | nil => exact absurd rfl hne
    | cons T Ts => exact isi_ty q
  obtain ⟨n, t, e1, e2, ty⟩ := ty_rep G R2 hn r2
  cases eb : isTys S1 x Ts with
  | none => rw [eb] at q; exact q.elim
  | some b =>
    rw [eb] at q
    refine ⟨v, p, cs, t, us, b, rfl, by rw [upd_same], hc, ty, ?_, EndR.here (rel := relD W) (a := D.bl b) (EndR.shift E1 q) R2 (.bl b)⟩
    exact kitAny_isTys G hu eb e1 e2
/-- all but errors have a type -/
theorem ty_some {F : Addr → Prop} {μ : List Addr} {H : Hp} {S : St} (Rs : Rl W.toWd F μ H S) {d : D} {v : V} (hE : d.isE = false) (r : Rep W.toWd F μ H d v) : tyOf S d ≠ none := by
  cases r with
  | err c f g q z r => cases hE
  | loc z =>
    rename_i i a
    have hlt : i < S.length := by rw [← Rs.len]; exact (List.getElem?_eq_some_iff.mp z).1
    unfold tyOf
    simp only [List.getElem?_eq_getElem hlt]
    cases S[i] <;> simp
  | _ => intro e; cases e
/-! ### own == -/
/-- the run of ==, by an own __eq__ -/
def ownEnd (C : Ctx) (x y : D) (S : St) : R D := match obj S x with
  | some (c, _) => if C.has (c ++ ".__eq__") = true ∧ y.isE = false then (C.call (c ++ ".__eq__") [x, y] [] S).bind fun r S3 => match r with
    | .bl t => .ok (.bl (false != t)) S3
    | _ => .bad
    else .bad
  | none => .bad
theorem evE_own (C : Ctx) (a b : E) (ρ : Env) (S : St) : evE C (.own false a b) ρ S = (evE C a ρ S).bind fun x S1 => (evE C b ρ S1).bind fun y S2 => ownEnd C x y S2 := by
  rw [evE]; rfl
theorem own_cmp (G : Gd W C sh k X) (tk : Takes X wx) {pins : List (Addr × Obj)} {s2 : Shared} {σ : L2.St} {H2 : Hp} {Q : VK} {v u : V} {vv uu : Value} {S : St} {F : Addr → Prop} {μ : List Addr} {x y : D} (I2 : Inv X pins σ H2 s2) (rv : RelV v vv) (ru : RelV u uu)
    (Rs : Rl W.toWd F μ H2 S) (r1 : Rep W.toWd F μ H2 x v) (r2 : Rep W.toWd F μ H2 y u) (q : EndR W wx F μ H2 σ (relD W) (ownEnd C x y S) Q) :
    wpAny (model X.prog X.w) X.A (compareOp .Eq vv uu) (fun w s' => ∃ b H', w = .bool b ∧ Inv X pins σ H' s' ∧ Q (.bl b) H') X.xe s2 := by
  unfold ownEnd at q
  cases eo : obj S x with
  | none => rw [eo] at q; exact q.elim
  | some cf =>
    obtain ⟨c, fs⟩ := cf
    rw [eo] at q
    simp only at q
    split at q
    case isFalse => exact q.elim
    case isTrue hh =>
    obtain ⟨hh, hE⟩ := hh
    obtain ⟨a, Ca, dx, wsf, rfl, ec, ea, rf⟩ := obj_rep Rs eo r1
    obtain rfl : vv = Value.ref a := rv
    obtain ⟨f, hf1, hf2, hG, hn1, hn2⟩ := G.st.eq c Ca ec hh
    obtain ⟨n, t, e1, e2, ty⟩ := ty_rep G.toGb Rs (ty_some Rs hE r2) r2
    obtain ⟨Z, KZ, kz, _⟩ := kit_of I2 ru ty
    have hn : PySem.W.notFirst X.K Ca t = true := by
      cases n with
      | inl n => cases e2; exact hn1 n (tyOf_mem e1)
      | inr c' =>
        obtain ⟨Ca', z1, rfl⟩ := Option.map_eq_some_iff.mp e2
        exact hn2 c' Ca' z1
    obtain ⟨mA, O, _, _, _, _⟩ := ins_get I2.hok ea
    obtain ⟨od, J, _⟩ := O.look
    obtain ⟨m, hFr⟩ := I2.fr
    show wpAny (model X.prog X.w) X.A (richCompare .Eq (.ref a) uu) _ X.xe s2
    refine PySem.W.cmp_K (op := .Eq) (tb := t) (by have := G.room.hu; omega) hFr I2.ok.mod.kin J (KZ.ty _ _ I2.kIn kz) hn hf1 hf2 ?_
    refine wpAny_mono (run_G (Q := fun v H' => ∃ t, v = .bl t ∧ Q (.bl t) H') tk hG G.room.call I2 (us := [.ref a, uu]) (vs := [.ref a, u]) (ws := []) (zs := []) (.cons rfl (.cons ru .nil)) .nil Rs (.cons r1 (.cons r2 .nil)) .nil rfl rfl ?_) (fun w s3 hw => ?_) fun _ _ x => x
    · refine (EndR.bind (rel := relD W) q).mono fun w H3 ⟨F3, μ3, d, S3, x3, R3, r3, q3⟩ => ?_
      cases r3 with
      | bl b => exact ⟨b, rfl, by have := EndR.here (rel := relD W) (a := D.bl (false != b)) q3 R3 (.bl _); simpa using this⟩
      | _ => exact q3.elim
    · obtain ⟨v, H', I', rv, b, rfl, hq⟩ := hw
      cases (show w = Value.bool b from rv)
      exact ⟨b, H', rfl, I', hq⟩
theorem endR_bl {F : Addr → Prop} {μ : List Addr} {H : Hp} {σ : L2.St} {r : R D} {K : PySem.W.Frag} {Q : Bool → Hp → Prop} (h : EndR W wx F μ H σ (relD W) r fun x H' => ∃ k, TruV K x H' k ∧ Q k H') (hbl : ∀ d S', r = .ok d S' → ∃ b, d = .bl b) :
    EndR W wx F μ H σ (relD W) r fun x H' => ∃ k, x = .bl k ∧ Q k H' := by
  cases r with
  | bad => exact h
  | ex _ _ _ => exact h
  | ok d S' =>
    obtain ⟨b, rfl⟩ := hbl d S' rfl
    intro F1 μ1 H1 v e1 R1 r1
    obtain ⟨k, t, q⟩ := h F1 μ1 H1 v e1 R1 r1
    cases r1
    cases (show k = b from t)
    exact ⟨b, rfl, q⟩
theorem e_own (G : Gd W C sh k X) (tk : Takes X wx) {a b : Expr} {aI bI : E} {pos : Pos} (hm : behindInMarks .Eq b = false) (ha : PE X a (tE W wx C aI)) (hb : PE X b (tE W wx C bI)) : PE X (.Compare a [.Eq] [b] pos) (tE W wx C (.own false aI bI)) := by
  refine ⟨fun pins s σ H Q I h => ?_⟩
  have h' : tR W wx (relD W) (fun ρ S => (evE C aI ρ S).bind fun x S1 => (evE C bI ρ S1).bind fun y S2 => ownEnd C x y S2) σ H Q := by
    obtain ⟨ρ, S, F, μ, o, R, h⟩ := h
    rw [evE_own] at h
    exact ⟨ρ, S, F, μ, o, R, h⟩
  refine wpAny_Compare1 (binT (R := fun v u H2 => ∃ (ρ : Env) (S : St) (F : Addr → Prop) (μ : List Addr) (x y : D), Ro W F μ H2 ρ σ ∧ Rl W.toWd F μ H2 S ∧ Rep W.toWd F μ H2 x v ∧ Rep W.toWd F μ H2 y u ∧ EndR W wx F μ H2 σ (relD W) (ownEnd C x y S) Q) ha hb I (tR_bin (rel1 := relD W) (relB := relD W) stays_D h') fun vv uu s2 v u H2 I2 rv ru ⟨ρ, S, F, μ, x, y, o, Rs, r1, r2, q⟩ => ?_) hm
  exact wpAny_mono (own_cmp G tk I2 rv ru Rs r1 r2 q) (fun w s' ⟨b, H', e, I', z⟩ => ⟨.bl b, H', I', e, z⟩) fun _ _ x => x
theorem t_own (G : Gd W C sh k X) (tk : Takes X wx) {a b : Expr} {aI bI : E} {pos : Pos} (hm : behindInMarks .Eq b = false) (ha : PE X a (tE W wx C aI)) (hb : PE X b (tE W wx C bI)) : PT X (.Compare a [.Eq] [b] pos) (tT W wx C (.own false aI bI)) := by
  refine ⟨fun pins s σ H Q I h => ?_⟩
  have h' : tR W wx (relD W) (fun ρ S => (evE C aI ρ S).bind fun x S1 => (evE C bI ρ S1).bind fun y S2 => ownEnd C x y S2) σ H fun x H' => ∃ k, x = .bl k ∧ Q k H' := by
    obtain ⟨ρ, S, F, μ, o, R, h⟩ := t_val G.hK h
    rw [evE_own] at h
    refine ⟨ρ, S, F, μ, o, R, ?_⟩
    have hbl : ∀ d S', ((evE C aI ρ S).bind fun x S1 => (evE C bI ρ S1).bind fun y S2 => ownEnd C x y S2) = .ok d S' → ∃ b, d = .bl b := by
      intro d S' e
      cases e1 : evE C aI ρ S with
      | bad => rw [e1] at e; cases e
      | ex _ _ _ => rw [e1] at e; cases e
      | ok x S1 =>
        rw [e1] at e
        have e' : ((evE C bI ρ S1).bind fun y S2 => ownEnd C x y S2) = .ok d S' := e
        cases e2 : evE C bI ρ S1 with
        | bad => rw [e2] at e'; cases e'
        | ex _ _ _ => rw [e2] at e'; cases e'
        | ok y S2 =>
          rw [e2] at e'
          have e3 : ownEnd C x y S2 = .ok d S' := e'
          unfold ownEnd at e3
          split at e3
          · split at e3
            · rename_i c _ _ _
              cases e4 : C.call (c ++ ".__eq__") [x, y] [] S2 with
              | bad => rw [e4] at e3; cases e3
              | ex _ _ _ => rw [e4] at e3; cases e3
              | ok r S3 =>
                rw [e4] at e3
                cases r <;> first | (cases e3; exact ⟨_, rfl⟩) | cases e3
            · cases e3
          · cases e3
    exact endR_bl h hbl
  refine wpAny_isTrue_Compare1 (thn (ha.run pins s σ H _ I (tR_bin (rel1 := relD W) (relB := relD W) stays_D h')) fun vv s1 ⟨v, H1, I1, rv, h1⟩ => thn (hb.run pins s1 σ H1 _ I1 h1) fun uu s2 ⟨u, H2, I2, ru, ρ, S, F, μ, x, y, o, Rs, r1, r2, q⟩ => ?_) hm
  refine thn (own_cmp G tk I2 rv ru Rs r1 r2 q) fun w s3 ⟨b, H', e, I', k, z, hq⟩ => ?_
  subst e
  cases z
  exact wpAny_truthy_bool ⟨H', I', hq⟩
end
end PM
set_option Elab.async false
set_option linter.all false
set_option autoImplicit false
set_option maxHeartbeats 4000000
/-! PMExpr7: and/or; tests; displays. -/
namespace PM
open PySem PySem.Spec PyProof.Rows L2
section
variable {W : Wx} {wx : WX} {C : Ctx} {sh : Shp} {k : Nat} {X : Cx}
/-! ### and, or -/
theorem evB_one (C : Ctx) (and : Bool) (e : E) (ρ : Env) (S : St) : evB C and [e] ρ S = evE C e ρ S := by rw [evB]
theorem evB_cons (C : Ctx) (and : Bool) (e f : E) (r : List E) (ρ : Env) (S : St) : evB C and (e :: f :: r) ρ S = (evE C e ρ S).bind fun x S1 => match truthy S1 x with
    | some t => if t == and then evB C and (f :: r) ρ S1 else .ok x S1
    | none => .bad := by
  rw [evB] <;> first | rfl | (intro h; cases h)
def tB' (W : Wx) (wx : WX) (C : Ctx) (and : Bool) (es : List E) : TE := tR W wx (relD W) (evB C and es)
/-- the first operand, by truth -/
theorem b_step (G : Gb W C sh k X) {and : Bool} {e f : E} {r : List E} {σ : L2.St} {H : Hp} {Q : VK} (h : tB' W wx C and (e :: f :: r) σ H Q) :
    tE W wx C e σ H fun x H1 => ∃ k, TruV X.K x H1 k ∧ if k = and then tB' W wx C and (f :: r) σ H1 Q else Q x H1 := by
  obtain ⟨ρ, S, F, μ, o, Rs, h⟩ := h
  rw [evB_cons] at h
  refine ⟨ρ, S, F, μ, o, Rs, (EndR.bind (rel := relD W) h).mono fun v H1 ⟨F1, μ1, x, S1, x1, R1, r1, q⟩ => ?_⟩
  cases et : truthy S1 x with
  | none => rw [et] at q; exact q.elim
  | some t =>
    rw [et] at q
    simp only at q
    refine ⟨t, truthy_rep R1 G.hK et r1, ?_⟩
    by_cases ha : t = and
    · rw [if_pos ha]
      rw [if_pos (beq_iff_eq.mpr ha)] at q
      exact ⟨ρ, S1, F1, μ1, o.ext Rs x1, R1, q⟩
    · rw [if_neg ha]
      rw [if_neg (by simpa using ha)] at q
      exact EndR.here (rel := relD W) q R1 r1
theorem e_bopL (G : Gb W C sh k X) {pos : Pos} : ∀ {es : List Expr} {is : List E} (and : Bool), Paired (fun e i => PE X e (tE W wx C i)) es is → es ≠ [] → PE X (.BoolOp (if and then .And else .Or) es pos) (tB' W wx C and is)
  | _, _, _, .nil, h => absurd rfl h
  | [e], _, and, .cons (b := i) he .nil, _ => PE_imp (pe_one he) fun σ H Q h => by
    obtain ⟨ρ, S, F, μ, o, Rs, h⟩ := h
    rw [evB_one] at h
    exact ⟨ρ, S, F, μ, o, Rs, h⟩
  | e :: e' :: es, _, true, .cons he (.cons he' r), _ => PE_imp (pe_andT he (e_bopL G true (.cons he' r) (by simp))) fun σ H Q h => tR_mono (b_step G h) fun x H1 ⟨k, t, q⟩ => ⟨k, t, by
    cases k with
    | true => rw [if_pos rfl] at q ⊢; exact q
    | false => rw [if_neg Bool.false_ne_true] at q ⊢; exact q⟩
  | e :: e' :: es, _, false, .cons he (.cons he' r), _ => PE_imp (pe_orT he (e_bopL G false (.cons he' r) (by simp))) fun σ H Q h => tR_mono (b_step G h) fun x H1 ⟨k, t, q⟩ => ⟨k, t, by
    cases k with
    | true => rw [if_neg (by decide)] at q; rw [if_pos rfl]; exact q
    | false => rw [if_pos rfl] at q; rw [if_neg Bool.false_ne_true]; exact q⟩
theorem e_bop (G : Gb W C sh k X) {pos : Pos} {es : List Expr} {is : List E} (and : Bool) (h : Paired (fun e i => PE X e (tE W wx C i)) es is) (hn : es ≠ []) : PE X (.BoolOp (if and then .And else .Or) es pos) (tE W wx C (.bop and is)) :=
  PE_imp (e_bopL G and h hn) fun σ H Q h => by
    obtain ⟨ρ, S, F, μ, o, Rs, h⟩ := h
    unfold evE at h
    exact ⟨ρ, S, F, μ, o, Rs, h⟩
/-! ### tests -/
def tTB (W : Wx) (wx : WX) (C : Ctx) (and : Bool) (es : List E) : TT := tR W wx relE fun ρ S => (evB C and es ρ S).tru
theorem tb_step (G : Gb W C sh k X) {and : Bool} {e f : E} {r : List E} {σ : L2.St} {H : Hp} {Q : Bool → Hp → Prop} (h : tTB W wx C and (e :: f :: r) σ H Q) :
    tT W wx C e σ H fun c H1 => if c = and then tTB W wx C and (f :: r) σ H1 Q else Q c H1 := by
  obtain ⟨ρ, S, F, μ, o, Rs, h⟩ := h
  simp only at h
  rw [evB_cons] at h
  refine ⟨ρ, S, F, μ, o, Rs, ?_⟩
  simp only
  cases er : evE C e ρ S with
  | bad => rw [er] at h; exact h
  | ex _ _ _ => rw [er] at h; exact h
  | ok x S1 =>
    rw [er] at h
    have h1 : EndR W wx F μ H σ relE (R.tru (match truthy S1 x with
      | some t => if t == and then evB C and (f :: r) ρ S1 else .ok x S1
      | none => .bad)) Q := h
    show EndR W wx F μ H σ relE (R.of (truthy S1 x) S1) _
    cases et : truthy S1 x with
    | none => rw [et] at h1; exact h1.elim
    | some t =>
      rw [et] at h1
      simp only at h1
      intro F1 μ1 H1 c x1 R1 r1
      cases r1
      by_cases ha : t = and
      · rw [if_pos ha]
        rw [if_pos (beq_iff_eq.mpr ha)] at h1
        exact ⟨ρ, S1, F1, μ1, o.ext Rs x1, R1, EndR.shift x1 h1⟩
      · rw [if_neg ha]
        rw [if_neg (by simpa using ha)] at h1
        have h2 : EndR W wx F μ H σ relE (R.of (truthy S1 x) S1) Q := h1
        rw [et] at h2
        exact h2 F1 μ1 H1 t x1 R1 rfl
theorem t_bopL (G : Gb W C sh k X) {pos : Pos} : ∀ {es : List Expr} {is : List E} (and : Bool), Paired (fun e i => PT X e (tT W wx C i)) es is → es ≠ [] → PW X (.BoolOp (if and then .And else .Or) es pos) (tTB W wx C and is)
  | _, _, _, .nil, h => absurd rfl h
  | [e], _, true, .cons he .nil, _ => PW_imp (pw_and1 he) fun σ H Q h => by
    obtain ⟨ρ, S, F, μ, o, Rs, h⟩ := h
    simp only [evB_one] at h
    exact ⟨ρ, S, F, μ, o, Rs, h⟩
  | [e], _, false, .cons he .nil, _ => PW_imp (pw_or1 he) fun σ H Q h => by
    obtain ⟨ρ, S, F, μ, o, Rs, h⟩ := h
    simp only [evB_one] at h
    exact ⟨ρ, S, F, μ, o, Rs, h⟩
  | e :: e' :: es, _, true, .cons he (.cons he' r), _ => PW_imp (pw_and he (t_bopL G true (.cons he' r) (by simp))) fun σ H Q h => tR_mono (tb_step G h) fun c H1 q => by
    cases c with
    | true => rw [if_pos rfl] at q ⊢; exact q
    | false => rw [if_neg Bool.false_ne_true] at q ⊢; exact q
  | e :: e' :: es, _, false, .cons he (.cons he' r), _ => PW_imp (pw_or he (t_bopL G false (.cons he' r) (by simp))) fun σ H Q h => tR_mono (tb_step G h) fun c H1 q => by
    cases c with
    | true => rw [if_neg (by decide)] at q; rw [if_pos rfl]; exact q
    | false => rw [if_pos rfl] at q; rw [if_neg Bool.false_ne_true]; exact q
theorem t_bop (G : Gb W C sh k X) {pos : Pos} {es : List Expr} {is : List E} (and : Bool) (h : Paired (fun e i => PT X e (tT W wx C i)) es is) (hn : es ≠ []) : PT X (.BoolOp (if and then .And else .Or) es pos) (tT W wx C (.bop and is)) :=
  PT_imp (t_bopL G and h hn).pt fun σ H Q h => by
    obtain ⟨ρ, S, F, μ, o, Rs, h⟩ := h
    simp only at h
    unfold evE at h
    exact ⟨ρ, S, F, μ, o, Rs, h⟩
/-- any other expression, by its value's truth -/
theorem t_truth (G : Gb W C sh k X) {e : Expr} {i : E} (h : PE X e (tE W wx C i)) (he : ∀ whole, isTrue e X.env whole = (do let v ← whole; standAt e.pos; holding [v] (PySem.truthy v))) : PT X e (tT W wx C i) :=
  PT_imp (L2.pt_truth h he) fun σ H Q h => t_val G.hK h
/-- comparisons give bools -/
def O2.isC : O2 → Bool
  | .eq | .ne | .lt | .le | .gt | .ge | .isin | .nin | .is_ | .isnt => true
  | _ => false
theorem bothDr_bl {S S' : St} {a b d : D} {f : D → D → Option D} (hf : ∀ x y d, f x y = some d → ∃ k, d = .bl k) (h : bothDr S a b f = some (d, S')) : ∃ k, d = .bl k := by
  unfold bothDr at h
  split at h
  · obtain ⟨d', e, q⟩ := Option.map_eq_some_iff.mp h
    cases q
    exact hf _ _ _ e
  · split at h
    · obtain ⟨d', e, q⟩ := Option.map_eq_some_iff.mp h
      cases q
      exact hf _ _ _ e
    · cases h
theorem op2_bl {o : O2} {m : Bool} {a b d : D} {S S' : St} (ho : o.isC = true) (h : op2 o m a b S = some (d, S')) : ∃ k, d = .bl k := by
  have isn : ∀ n, op2.isIn S a b n = some (d, S') → ∃ k, d = .bl k := fun n h => by
    unfold op2.isIn at h
    split at h
    · cases h; exact ⟨_, rfl⟩
    · split at h
      · cases h; exact ⟨_, rfl⟩
      · split at h
        · split at h
          · cases h; exact ⟨_, rfl⟩
          · cases h
        · cases h
  cases o <;> try (simp [O2.isC] at ho; done)
  case eq =>
    unfold op2 at h
    simp only at h
    split at h
    · rename_i e
      cases h
      exact bothDr_bl (fun x y d h => by cases h; exact ⟨_, rfl⟩) e
    · obtain ⟨t, _, e2⟩ := Option.map_eq_some_iff.mp h
      cases e2
      exact ⟨_, rfl⟩
  case ne =>
    unfold op2 at h
    simp only at h
    split at h
    · rename_i e
      cases h
      exact bothDr_bl (fun x y d h => by cases h; exact ⟨_, rfl⟩) e
    · obtain ⟨t, _, e2⟩ := Option.map_eq_some_iff.mp h
      cases e2
      exact ⟨_, rfl⟩
  case lt =>
   change bothDr S a b (fun x y => (D.lt x y).map .bl) = _ at h
   exact bothDr_bl (fun x y d h => by
    obtain ⟨k, _, e⟩ := Option.map_eq_some_iff.mp h
    exact ⟨k, e.symm⟩) h
  case isin => exact isn _ h
  case nin => exact isn _ h
  all_goals
    simp only [op2] at h
    split at h <;> first | (cases h; exact ⟨_, rfl⟩) | cases h
theorem t_op (G : Gb W C sh k X) {o : O2} {op : CmpOp} {a b : Expr} {aI bI : E} {m : Bool} {pos : Pos} (ho : OpR X (compareOp op) (rO W.toWd o m)) (hc : o.isC = true) (hm : behindInMarks op b = false) (ha : PE X a (tE W wx C aI)) (hb : PE X b (tE W wx C bI)) :
    PT X (.Compare a [op] [b] pos) (tT W wx C (.op o m aI bI)) :=
  PT_imp (pt_cmpR ho ha hb hm) fun σ H Q h => by
    refine e_op ?_
    obtain ⟨ρ, S, F, μ, o', Rs, h⟩ := t_val G.hK h
    refine ⟨ρ, S, F, μ, o', Rs, endR_bl h fun d S' e => ?_⟩
    unfold evE at e
    cases e1 : evE C aI ρ S with
    | bad => rw [e1] at e; cases e
    | ex _ _ _ => rw [e1] at e; cases e
    | ok x S1 =>
      rw [e1] at e
      have e' : ((evE C bI ρ S1).bind fun y S2 => R.o (op2 o m x y S2)) = .ok d S' := e
      cases e2 : evE C bI ρ S1 with
      | bad => rw [e2] at e'; cases e'
      | ex _ _ _ => rw [e2] at e'; cases e'
      | ok y S2 =>
        rw [e2] at e'
        have e3 : PM.R.o (op2 o m x y S2) = .ok d S' := e'
        cases e4 : op2 o m x y S2 with
        | none => rw [e4] at e3; cases e3
        | some p =>
          rw [e4] at e3
          cases e3
          exact op2_bl hc e4
theorem t_chn (G : Gb W C sh k X) {o p : O2} {op op' : CmpOp} {a b c : Expr} {aI bI cI : E} {pos : Pos} (ho : OpR X (compareOp op) (rO W.toWd o false)) (ho' : OpR X (compareOp op') (rO W.toWd p false)) (hp : p.isC = true)
    (hm : lastMarks [op, op'] [b, c] = false) (ha : PE X a (tE W wx C aI)) (hb : PE X b (tE W wx C bI)) (hc : PE X c (tE W wx C cI)) : PT X (.Compare a [op, op'] [b, c] pos) (tT W wx C (.chn o p aI bI cI)) :=
  PT_imp (pt_chain ho ho' ha hb hc hm) fun σ H Q h => by
    refine e_chn ?_
    obtain ⟨ρ, S, F, μ, o', Rs, h⟩ := t_val G.hK h
    refine ⟨ρ, S, F, μ, o', Rs, endR_bl h fun d S' e => ?_⟩
    unfold evE at e
    cases e1 : evE C aI ρ S with
    | bad => rw [e1] at e; cases e
    | ex _ _ _ => rw [e1] at e; cases e
    | ok x S1 =>
      rw [e1] at e
      replace e : ((evE C bI ρ S1).bind fun y S2 => (R.o (op2 o false x y S2)).bind fun t S3 => match t with
        | .bl true => (evE C cI ρ S3).bind fun z S4 => R.o (op2 p false y z S4)
        | .bl false => .ok (.bl false) S3
        | _ => .bad) = .ok d S' := e
      cases e2 : evE C bI ρ S1 with
      | bad => rw [e2] at e; cases e
      | ex _ _ _ => rw [e2] at e; cases e
      | ok y S2 =>
        rw [e2] at e
        replace e : ((R.o (op2 o false x y S2)).bind fun t S3 => match t with
          | .bl true => (evE C cI ρ S3).bind fun z S4 => R.o (op2 p false y z S4)
          | .bl false => .ok (.bl false) S3
          | _ => .bad) = .ok d S' := e
        cases e4 : op2 o false x y S2 with
        | none => rw [e4] at e; cases e
        | some q =>
          rw [e4] at e
          obtain ⟨t, S3⟩ := q
          replace e : (match (generalizing := false) t with
            | .bl true => (evE C cI ρ S3).bind fun z S4 => R.o (op2 p false y z S4)
            | .bl false => .ok (.bl false) S3
            | _ => .bad : PM.R D) = .ok d S' := e
          split at e
          · cases e5 : evE C cI ρ S3 with
            | bad => rw [e5] at e; cases e
            | ex _ _ _ => rw [e5] at e; cases e
            | ok z S4 =>
              rw [e5] at e
              replace e : PM.R.o (op2 p false y z S4) = .ok d S' := e
              cases e6 : op2 p false y z S4 with
              | none => rw [e6] at e; cases e
              | some w =>
                rw [e6] at e
                cases e
                exact op2_bl hp e6
          · cases e; exact ⟨_, rfl⟩
          · cases e
end
end PM
set_option Elab.async false
set_option linter.all false
set_option autoImplicit false
set_option maxHeartbeats 4000000
/-! PMExpr8: displays. -/
namespace PM
open PySem PySem.Spec PyProof.Rows L2
section
variable {W : Wx} {wx : WX} {C : Ctx} {sh : Shp} {k : Nat} {X : Cx}
abbrev tSL (W : Wx) (wx : WX) (C : Ctx) (ss : List Bool) (es : List E) : TA := tR W wx (relL W) (evSL C ss es)
inductive PSL (W : Wx) (wx : WX) (C : Ctx) (X : Cx) : List Expr → List Bool → List E → Prop
  | nil {ss : List Bool} : PSL W wx C X [] ss []
  | pl {e : Expr} {i : E} {es : List Expr} {ss : List Bool} {is : List E} : isSt e = false → PE X e (tE W wx C i) → PSL W wx C X es ss is → PSL W wx C X (e :: es) (false :: ss) (i :: is)
  | st {e : Expr} {p : Pos} {i : E} {es : List Expr} {ss : List Bool} {is : List E} : X.A.handled = none → PE X e (tE W wx C i) → PSL W wx C X es ss is → PSL W wx C X (.Starred e p :: es) (true :: ss) (i :: is)
theorem evSL_nil (C : Ctx) (ss : List Bool) (ρ : Env) (S : St) : evSL C ss [] ρ S = .ok [] S := by
  cases ss with
  | nil => rw [evSL]
  | cons b r => cases b <;> rw [evSL]
theorem sl_pl {i : E} {ss : List Bool} {is : List E} {σ : L2.St} {H : Hp} {Q : List V → Hp → Prop} (h : tSL W wx C (false :: ss) (i :: is) σ H Q) : tCons (tE W wx C i) (tSL W wx C ss is) σ H Q := by
  have h' : tR W wx (relL W) (fun ρ S => (evE C i ρ S).bind fun x S1 => (evSL C ss is ρ S1).bind fun xs S2 => .ok (x :: xs) S2) σ H Q := by
    obtain ⟨ρ, S, F, μ, o, R, h⟩ := h
    unfold evSL at h
    exact ⟨ρ, S, F, μ, o, R, h⟩
  exact tR_mono (tR_bin (rel1 := relD W) (relB := relL W) stays_D h') fun v H1 h1 => tR_mono h1 fun u H2 ⟨ρ, S, F, μ, x, y, o, R, r1, r2, q⟩ => EndR.here (rel := relL W) (a := x :: y) q R (.cons r1 r2)
theorem chars_rep {F : Addr → Prop} {μ : List Addr} {H : Hp} (x : Txt) : RepL W.toWd F μ H (x.map fun c => .str [c]) (x.map fun c => .str (tS [c])) := by
  induction x with
  | nil => exact .nil
  | cons c r ih => exact .cons (.str _ (by show 1 ≤ sizeLine; decide)) ih
theorem vals_of_get : ∀ {xs : List V} {us : List Value}, xs.length = us.length → (∀ (i : Nat) v u, xs[i]? = some v → us[i]? = some u → RelV v u) → Vals xs us
  | [], [], _, _ => .nil
  | [], _ :: _, h, _ => by simp at h
  | _ :: _, [], h, _ => by simp at h
  | x :: xs, u :: us, h, k => .cons (k 0 x u rfl rfl) (vals_of_get (by simpa using h) fun i v w e1 e2 => k (i + 1) v w (by simpa using e1) (by simpa using e2))
/-- *text -/
theorem star_str (hh : X.A.handled = none) {pins : List (Addr × Obj)} {σ : L2.St} {H : Hp} {s : Shared} {x : Txt} {t : Tok} {E' : Value → Shared → Prop} {Q : List Value → Shared → Prop} (I : Inv X pins σ H s) (hx : x.length ≤ sizeLine)
    (hQ : ∀ us s', Inv X pins σ H s' → Vals (x.map fun c => V.str (tS [c])) us → Q us s') : PySem.W.StarOf (model X.prog X.w) X.A E' (.str (tS x) t) Q s := by
  have hl := tS_len x
  have z : wpAny (model X.prog X.w) X.A (collect (.str (tS x) t)) Q E' s := by
    refine PySem.wpAny_collect_str hh (tS x) t (fun s' acc hk hg hd ho hi => ?_) (by show (tS x).length ≤ _; omega)
    have I' : Inv X pins σ H s' := by
      obtain ⟨h, g, d, tt, os⟩ := s'
      obtain rfl : g = s.gens := hg
      obtain rfl : d = s.drawn := hd
      obtain rfl : os = s.os := ho
      exact I.kept (t' := tt) hk
    refine hQ _ s' I' ?_
    obtain ⟨h1, h2⟩ := hi
    refine vals_of_get (by rw [List.length_map, Array.length_toList]; exact (h1.trans hl).symm) fun i v u e1 e2 => ?_
    rw [List.getElem?_map] at e1
    rw [Array.getElem?_toList] at e2
    obtain ⟨c, tk, e3, e4⟩ := h2 i u e2
    obtain ⟨c', e5, e6⟩ := Option.map_eq_some_iff.mp e1
    subst e4 e6
    have e7 : (tS x).cps[i]? = x[i]? := by unfold tS; simp
    rw [e7, e5] at e3
    cases e3
    exact ⟨tk, rfl⟩
  unfold PySem.W.StarOf notIterableAtAll
  exact wpAny_bind (wpAny_specialOf (T := "str") (v := .str (tS x) t) rfl PySem.F.slot_str_iter.lookup (wpAny_pure ⟨rfl, z⟩))
theorem starD_or {S : St} {x : D} {ys : List D} (h : starD S x = some ys) : (∃ t, x = .str t ∧ ys = t.map fun c => .str [c]) ∨ items S x = some ys := by
  cases x <;> first | (left; cases h; exact ⟨_, rfl, rfl⟩) | (right; exact h)
/-- *e in a display -/
theorem pa_starD (G : Gb W C sh k X) (hh : X.A.handled = none) {e : Expr} {p : Pos} {i : E} {es : List Expr} {ss : List Bool} {is : List E} (he : PE X e (tE W wx C i)) (hr : PA X es (tSL W wx C ss is)) : PA X (.Starred e p :: es) (tSL W wx C (true :: ss) (i :: is)) := by
  refine ⟨fun pos pins s σ H Q I h => ?_⟩
  have h' : tR W wx (relL W) (fun ρ S => (evE C i ρ S).bind fun x S1 => match starD S1 x with
    | some ys => (evSL C ss is ρ S1).bind fun xs S2 => .ok (ys ++ xs) S2
    | none => .bad) σ H Q := by
    obtain ⟨ρ, S, F, μ, o, R, h⟩ := h
    unfold evSL at h
    exact ⟨ρ, S, F, μ, o, R, h⟩
  refine PySem.W.items_star (thn (he.run pins s σ H _ I (tR_bind (rel := relD W) h')) fun v s1 ⟨y, H1, I1, ry, ρ, S, F, μ, x, o, Rs, r1, q⟩ => ?_) (by rfl)
  cases ed : starD S x with
  | none => rw [ed] at q; exact q.elim
  | some ys =>
    rw [ed] at q
    have fin : ∀ (vs : List V) (us : List Value) (s2 : Shared), RepL W.toWd F μ H1 ys vs → Inv X pins σ H1 s2 → Vals vs us → wpAny (model X.prog X.w) X.A (spliced (backTo pos (starEach es X.env))) (fun ws s3 => AP X pins σ Q (us ++ ws) s3) X.xe s2 := fun vs us s2 rr I2 rv => by
      refine thn (hr.run pos pins s2 σ H1 _ I2 ⟨ρ, S, F, μ, o, Rs, EndR.bind (rel := relL W) q⟩) fun ws s3 ⟨zs, H3, I3, r3, F3, μ3, xs, S3, x3, R3, rx, q3⟩ => ?_
      exact ⟨vs ++ zs, H3, I3, rv.append r3, EndR.here (rel := relL W) (a := ys ++ xs) q3 R3 ((Rs.extL x3 rr).append rx)⟩
    rcases starD_or ed with ⟨t, rfl, rfl⟩ | ed'
    · cases r1 with
      | str _ hx =>
        obtain ⟨tk, rfl⟩ := (show ∃ tk, v = Value.str (tS t) tk from ry)
        exact star_str hh I1 hx fun us s2 I2 rv => fin _ us s2 (chars_rep t) I2 rv
    · obtain ⟨a, vs, rfl, sq, rr⟩ := Rs.items ed' r1
      obtain rfl : v = Value.ref a := ry
      have sq' : SqL X.K H1 a vs ∨ SqT X.K H1 a vs := by rw [G.hK]; exact sq
      exact StX.star_any I1 sq'.symm fun us s2 I2 rv => fin _ us s2 rr I2 rv
theorem a_sl (G : Gb W C sh k X) {es : List Expr} {ss : List Bool} {is : List E} (h : PSL W wx C X es ss is) : PA X es (tSL W wx C ss is) := by
  induction h with
  | nil =>
    refine PA_imp pa_nil fun σ H Q h => ?_
    obtain ⟨ρ, S, F, μ, o, Rs, h⟩ := h
    rw [evSL_nil] at h
    exact EndR.here (rel := relL W) (a := []) h Rs .nil
  | pl hs he _ ih => exact PA_imp (pa_cons he ih (starEach_ns hs)) fun σ H Q h => sl_pl h
  | st hh he _ ih => exact pa_starD G hh he ih
theorem e_tup (G : Gb W C sh k X) {es : List Expr} {ss : List Bool} {is : List E} {tx} {pos : Pos} (h : PSL W wx C X es ss is) : PE X (.Tuple es tx pos) (tE W wx C (.tup ss is)) :=
  PE_imp (pe_tup (a_sl G h)) fun σ H Q h => by
    obtain ⟨ρ, S, F, μ, o, Rs, h⟩ := h
    unfold evE at h
    refine ⟨ρ, S, F, μ, o, Rs, (EndR.bind (rel := relL W) h).mono fun vs H1 ⟨F1, μ1, ds, S1, x1, R1, r1, q⟩ => ?_⟩
    split at q
    · rename_i hl
      have hl' := le_line hl
      exact ⟨by rw [← r1.length]; exact hl', fun p hp => new_tup R1 r1 hp fun F' μ' H' v e R' r' => q F' μ' H' v e R' r'⟩
    · exact q.elim
theorem e_lst (G : Gb W C sh k X) {es : List Expr} {ss : List Bool} {is : List E} {m : Bool} {pos : Pos} (h : PSL W wx C X es ss is) : PE X (.List es pos) (tE W wx C (.lst m ss is)) :=
  PE_imp (pe_lst (a_sl G h)) fun σ H Q h => by
    obtain ⟨ρ, S, F, μ, o, Rs, h⟩ := h
    unfold evE at h
    refine ⟨ρ, S, F, μ, o, Rs, (EndR.bind (rel := relL W) h).mono fun vs H1 ⟨F1, μ1, ds, S1, x1, R1, r1, q⟩ => ?_⟩
    split at q
    · rename_i hl
      have hl' := le_line hl
      exact ⟨by rw [← r1.length]; exact hl', fun p hp => new_lst R1 r1 hp (EndV.of q)⟩
    · exact q.elim
end
end PM
set_option Elab.async false
set_option linter.all false
set_option autoImplicit false
set_option maxHeartbeats 4000000
/-! PMExpr9: dict displays. -/
namespace PM
open PySem PySem.Spec PyProof.Rows L2
section
variable {W : Wd} {F F' : Addr → Prop} {μ μ' : List Addr} {H H' : Hp}
theorem neF {F : Addr → Prop} {a p : Addr} (hF : ¬ F p) (f : F a) : a ≠ p := by rintro rfl; exact hF f
theorem neM {μ : List Addr} {a p : Addr} (hμ : p ∉ μ) (f : a ∈ μ) : a ≠ p := by rintro rfl; exact hμ f
mutual
theorem Rep.mv (sub : ∀ a, F a → F' a) (pre : μ <+: μ') (hs : ∀ a o, F a → H a = some o → H' a = some o) : ∀ {d : D} {v : V}, Rep W F μ H d v → Rep W F' μ' H' d v
  | _, _, .non => .non
  | _, _, .bl b => .bl b
  | _, _, .int i => .int i
  | _, _, .str x h => .str x h
  | _, _, .tup h r => .tup (h.imp (fun ⟨f, q⟩ => ⟨sub _ f, hs _ _ f q⟩) id) (RepL.mv sub pre hs r)
  | _, _, .lst f q r => .lst (sub _ f) (q.imp (fun z => hs _ _ f z) fun ⟨o, z⟩ => ⟨o, hs _ _ f z⟩) (RepL.mv sub pre hs r)
  | _, _, .dct f q r => .dct (sub _ f) (rdStay q fun o z => hs _ _ f z) (RepK.mv sub pre hs r)
  | _, _, .ins c f q r => .ins c (sub _ f) (hs _ _ f q) (RepF.mv sub pre hs r)
  | _, _, .err c f g q z r => .err c (sub _ f) (sub _ g) (hs _ _ f q) (hs _ _ g z) (Rep.mv sub pre hs r)
  | _, _, .loc h => .loc (pre_get pre h)
theorem RepL.mv (sub : ∀ a, F a → F' a) (pre : μ <+: μ') (hs : ∀ a o, F a → H a = some o → H' a = some o) : ∀ {d : List D} {v : List V}, RepL W F μ H d v → RepL W F' μ' H' d v
  | _, _, .nil => .nil
  | _, _, .cons a b => .cons (Rep.mv sub pre hs a) (RepL.mv sub pre hs b)
theorem RepK.mv (sub : ∀ a, F a → F' a) (pre : μ <+: μ') (hs : ∀ a o, F a → H a = some o → H' a = some o) : ∀ {d : List (Key × D)} {v : List (L2.Key × V)}, RepK W F μ H d v → RepK W F' μ' H' d v
  | _, _, .nil => .nil
  | _, _, .cons c a b => .cons c (Rep.mv sub pre hs a) (RepK.mv sub pre hs b)
theorem RepF.mv (sub : ∀ a, F a → F' a) (pre : μ <+: μ') (hs : ∀ a o, F a → H a = some o → H' a = some o) : ∀ {d : List (String × D)} {v : List (Str × V)}, RepF W F μ H d v → RepF W F' μ' H' d v
  | _, _, .nil => .nil
  | _, _, .cons a b => .cons (Rep.mv sub pre hs a) (RepF.mv sub pre hs b)
end
theorem CellR.mv (sub : ∀ a, F a → F' a) (pre : μ <+: μ') (hs : ∀ a o, F a → H a = some o → H' a = some o) {a : Addr} {c : Cell} (ha : ∀ o, H a = some o → H' a = some o) (h : CellR W F μ H a c) : CellR W F' μ' H' a c := by
  cases h with
  | lst q r => exact .lst (ha _ q) (r.mv sub pre hs)
  | dct q r => exact .dct (q.stay ha) (r.mv sub pre hs)
  | ins c q r => exact .ins c (ha _ q) (r.mv sub pre hs)
/-- a thing at a side address, written and taken in -/
theorem Rl.takeF {S : St} (R : Rl W F μ H S) {p : Addr} {o : HO} (hF : ¬ F p) (hμ : p ∉ μ) : Rl W (fun a => F a ∨ a = p) μ (upd H p o) S := by
  have hs : ∀ a u, F a → H a = some u → upd H p o a = some u := fun a u f q => by rw [upd_ne (neF hF f)]; exact q
  refine ⟨R.len, R.nd, fun a h => ?_, fun a ha h => ?_, fun i a c h1 h2 => ?_⟩
  · rcases h with h | h
    · rw [upd_ne (neF hF h)]; exact R.fz a h
    · rw [h, upd_same]; simp
  · rcases h with h | h
    · exact R.off a ha h
    · exact hμ (h ▸ ha)
  · exact (R.cell i a c h1 h2).mv (fun a h => .inl h) (List.prefix_refl _) hs fun u q => by rw [upd_ne (neM hμ (List.mem_of_getElem? h1))]; exact q
theorem Rl.takeM {S : St} (R : Rl W F μ H S) {p : Addr} {o : HO} {c : Cell} (hF : ¬ F p) (hμ : p ∉ μ) (hc : CellR W F (μ ++ [p]) (upd H p o) p c) : Rl W F (μ ++ [p]) (upd H p o) (S ++ [c]) := by
  have hs : ∀ a u, F a → H a = some u → upd H p o a = some u := fun a u f q => by rw [upd_ne (neF hF f)]; exact q
  refine ⟨by simp [R.len], ?_, fun a h => ?_, fun a ha h => ?_, fun i a c' h1 h2 => ?_⟩
  · refine List.nodup_append.mpr ⟨R.nd, by simp, fun a ha b hb => ?_⟩
    rw [List.mem_singleton.mp hb]
    exact neM hμ ha
  · rw [upd_ne (neF hF h)]; exact R.fz a h
  · rcases List.mem_append.mp ha with ha | ha
    · exact R.off a ha h
    · rw [List.mem_singleton.mp ha] at h
      exact hF h
  · by_cases hi : i < μ.length
    · rw [List.getElem?_append_left hi] at h1
      rw [List.getElem?_append_left (by rw [← R.len]; exact hi)] at h2
      exact (R.cell i a c' h1 h2).mv (fun a h => h) (List.prefix_append _ _) hs fun u q => by rw [upd_ne (neM hμ (List.mem_of_getElem? h1))]; exact q
    · have hi' : i = μ.length := by
        have := (List.getElem?_eq_some_iff.mp h1).1
        simp at this; omega
      subst hi'
      rw [List.getElem?_append_right (Nat.le_refl _)] at h1
      rw [List.getElem?_append_right (by rw [R.len]; exact Nat.le_refl _)] at h2
      simp at h1
      rw [R.len] at h2
      simp at h2
      subst h1; subst h2
      exact hc
/-- what stays, from ahead of a side thing to behind its taking in -/
theorem Ext.take {F1 : Addr → Prop} {μ1 : List Addr} {H2 : Hp} {p : Addr} {o o' : HO} (hp : H p = none) (hμ : p ∉ μ) (E : Ext F μ (upd H p o) F1 μ1 H2) (F2 : Addr → Prop) (μ2 : List Addr) (hF2 : ∀ a, F2 a ↔ F1 a ∨ (F2 a ∧ a = p)) (hF3 : ∀ a, F1 a → F2 a) (hμ2 : μ1 <+: μ2) (hμ3 : ∀ a ∈ μ2, a ∈ μ1 ∨ a = p) :
    Ext F μ H F2 μ2 (upd H2 p o') where
  sub := fun a h => hF3 a (E.sub a h)
  new := fun a h => by
    rcases (hF2 a).mp h with h | ⟨_, rfl⟩
    · rcases E.new a h with h | h
      · exact .inl h
      · refine .inr ?_
        by_cases e : a = p
        · rw [e]; exact hp
        · rw [upd_ne e] at h; exact h
    · exact .inr hp
  pre := E.pre.trans hμ2
  newM := fun a h => by
    rcases hμ3 a h with h | rfl
    · rcases E.newM a h with h | h
      · exact .inl h
      · refine .inr ?_
        by_cases e : a = p
        · rw [e]; exact hp
        · rw [upd_ne e] at h; exact h
    · exact .inr hp
  stay := fun a u h n => by
    have e : a ≠ p := ne_of_none h hp
    rw [upd_ne e]
    exact E.stay a u (by rw [upd_ne e]; exact h) n
  there := fun a h => by
    by_cases e : a = p
    · rw [e, upd_same]; simp
    · rw [upd_ne e]
      exact E.there a (by rw [upd_ne e]; exact h)
  frzs := fun a u x h => by
    have e : a ≠ p := ne_of_none h hp
    rw [upd_ne e]
    exact E.frzs a u x (by rw [upd_ne e]; exact h)
theorem Ext.sideF {F1 : Addr → Prop} {μ1 : List Addr} {H2 : Hp} {p : Addr} {o : HO} (R : ∀ a, F a → H a ≠ none) (hμ : ∀ a ∈ μ, H a ≠ none) (hp : H p = none) (E : Ext F μ (upd H p o) F1 μ1 H2) : ¬ F1 p ∧ p ∉ μ1 ∧ H2 p = some o := by
  refine ⟨fun h => ?_, fun h => ?_, E.stay p o upd_same fun m => hμ p m hp⟩
  · rcases E.new p h with h | h
    · exact R p h hp
    · rw [upd_same] at h; cases h
  · rcases E.newM p h with h | h
    · exact hμ p h hp
    · rw [upd_same] at h; cases h
theorem Rl.some_ {S : St} (R : Rl W F μ H S) : ∀ a ∈ μ, H a ≠ none := fun a ha e => by
  obtain ⟨_, _, _, _, c⟩ := R.mem ha
  obtain ⟨o, q⟩ := c.has
  rw [e] at q; cases q
theorem RepK.any : ∀ {kvs : List (Key × D)} {ws : List (L2.Key × V)} (k : Key), RepK W F μ H kvs ws → (ws.any fun kv => decide (kv.1 = kQ k)) = kvs.any fun kv => decide (kv.1 = k)
  | _, _, k, .nil => rfl
  | _, _, k, .cons (k := q) hq a b => by
    rw [List.any_cons, List.any_cons, RepK.any k b]
    congr 1
    rw [Bool.eq_iff_iff, decide_eq_true_iff, decide_eq_true_iff]
    exact ⟨fun e => kQ_inj e, fun (e : q = k) => congrArg kQ e⟩
theorem RepK.app : ∀ {kvs : List (Key × D)} {ws : List (L2.Key × V)} {kvs' : List (Key × D)} {ws' : List (L2.Key × V)}, RepK W F μ H kvs ws → RepK W F μ H kvs' ws' → RepK W F μ H (kvs ++ kvs') (ws ++ ws')
  | _, _, _, _, .nil, r => r
  | _, _, _, _, .cons h a b, r => .cons h a (RepK.app b r)
theorem RepK.repl : ∀ {kvs : List (Key × D)} {ws : List (L2.Key × V)} {k : Key} {x : D} {v : V}, RepK W F μ H kvs ws → Rep W F μ H x v → RepK W F μ H (kvs.map fun kv => if kv.1 = k then (kv.1, x) else kv) (ws.map fun kv => if kv.1 = kQ k then (kv.1, v) else kv)
  | _, _, k, x, v, .nil, r => .nil
  | _, _, k, x, v, .cons (k := q) (x := y) (v := u) hq a b, r => by
    rw [List.map_cons, List.map_cons]
    by_cases e : q = k
    · rw [if_pos e, if_pos (congrArg kQ e)]
      exact .cons hq r (RepK.repl b r)
    · rw [if_neg e, if_neg fun z => e (kQ_inj z)]
      exact .cons hq a (RepK.repl b r)
theorem RepK.put {kvs : List (Key × D)} {ws : List (L2.Key × V)} {k : Key} {x : D} {v : V} (h : RepK W F μ H kvs ws) (hk : kSm k) (r : Rep W F μ H x v) : RepK W F μ H (PM.putK kvs k x) (L2.putK ws (kQ k) v) := by
  unfold PM.putK L2.putK
  rw [h.any k]
  split
  · exact h.repl r
  · exact h.app (.cons hk r .nil)
theorem keyRep {d : D} {q : Key} {v : V} (h : keyOf d = some q) (r : Rep W F μ H d v) : v = kV (kQ q) ∧ kSm q := by
  cases r <;> cases h
  · exact ⟨rfl, True.intro⟩
  · rename_i hx; exact ⟨rfl, hx⟩
def flatV : List (V × V) → List V
  | [] => []
  | (a, b) :: r => a :: b :: flatV r
theorem mkPairs_rep : ∀ {ds : List D} {l : List (Key × D)} {ps : List (V × V)}, mkPairs ds = some l → RepL W F μ H ds (flatV ps) → ∃ kvs : List (L2.Key × V), ps = kvs.map (fun kv => (kV kv.1, kv.2)) ∧ kvs.length = l.length ∧ ∀ {acc : List (Key × D)} {ws : List (L2.Key × V)}, RepK W F μ H acc ws → RepK W F μ H (l.foldl (fun a p => PM.putK a p.1 p.2) acc) (mergeK ws kvs)
  | [], l, ps, h, r => by
    cases h
    cases ps with
    | nil => exact ⟨[], rfl, rfl, fun r => r⟩
    | cons p ps => obtain ⟨a, b⟩ := p; cases r
  | [_], l, ps, h, r => by cases h
  | k :: v :: ds, l, ps, h, r => by
    cases ps with
    | nil => cases r
    | cons p ps =>
      obtain ⟨a, b⟩ := p
      cases r with
      | cons ra r =>
        cases r with
        | cons rb r =>
          unfold mkPairs at h
          cases e1 : keyOf k with
          | none => rw [e1] at h; cases h
          | some q =>
            cases e2 : mkPairs ds with
            | none => rw [e1, e2] at h; cases h
            | some l' =>
              rw [e1, e2] at h
              cases h
              obtain ⟨kvs, ep, el, ih⟩ := mkPairs_rep e2 r
              obtain ⟨ea, hk⟩ := keyRep e1 ra
              exact ⟨(kQ q, b) :: kvs, by rw [ep, ea]; rfl, by simp [el], fun racc => ih (RepK.put racc hk rb)⟩
end
section
variable {W : Wx} {wx : WX} {C : Ctx} {sh : Shp} {k : Nat} {X : Cx}
theorem tPairs_mono : ∀ {trs : List (TE × TE)} {σ : L2.St} {H : Hp} {Q Q' : List (V × V) → Hp → Prop}, (∀ p ∈ trs, (∀ σ H R R', p.1 σ H R → (∀ b H', R b H' → R' b H') → p.1 σ H R') ∧ ∀ σ H R R', p.2 σ H R → (∀ b H', R b H' → R' b H') → p.2 σ H R') → tPairs trs σ H Q → (∀ b H', Q b H' → Q' b H') → tPairs trs σ H Q'
  | [], σ, H, Q, Q', _, h, q => q _ _ h
  | p :: r, σ, H, Q, Q', hm, h, q => (hm p (List.mem_cons_self ..)).1 _ _ _ _ h fun x H1 h1 => (hm p (List.mem_cons_self ..)).2 _ _ _ _ h1 fun y H2 h2 => tPairs_mono (trs := r) (fun p hp => hm p (List.mem_cons_of_mem _ hp)) h2 fun ps H3 h3 => q _ _ h3
def flatE : List (E × E) → List E
  | [] => []
  | (a, b) :: r => a :: b :: flatE r
theorem pairs_of : ∀ {kis : List (E × E)} {σ : L2.St} {H : Hp} {Q : List V → Hp → Prop}, tL W wx C (flatE kis) σ H Q → tPairs (kis.map fun p => (tE W wx C p.1, tE W wx C p.2)) σ H fun ps H2 => Q (flatV ps) H2
  | [], σ, H, Q, h => l_nil h
  | (a, b) :: r, σ, H, Q, h => tR_mono (l_cons h) fun x H1 h1 => tR_mono (l_cons h1) fun y H2 h2 => pairs_of (kis := r) h2
theorem e_dsp (G : Gb W C sh k X) {keys : List (Option Expr)} {values : List Expr} {kis : List (E × E)} {m : Bool} {pos : Pos} (h : PPs X pos keys values (kis.map fun p => (tE W wx C p.1, tE W wx C p.2))) (hall : keys.all (·.isSome) = true) (hl : keys.length = values.length) (h0 : keys ≠ [])
    (h15 : keys.length ≤ 15) (hk : kis.length ≤ 15) : PE X (.Dict keys values pos) (tE W wx C (.dsp m (flatE kis))) :=
  PE_imp (pe_disp h hall hl h0 h15) fun σ H Q h => by
    obtain ⟨ρ, S, F, μ, o, Rs, h⟩ := h
    unfold evE at h
    intro p hp
    have E0 := Ext.side (o := HO.dK []) Rs hp
    have R0 : Rl W.toWd F μ (upd H p (.dK [])) S := Rs.side hp
    refine pairs_of (Q := fun vs H2 => ∀ ps, vs = flatV ps → (H2 p = some (.dK []) ∧ ∃ kvs : List (L2.Key × V), ps = kvs.map (fun kv => (kV kv.1, kv.2)) ∧ kvs.length ≤ 15 ∧ Q (.ref p) (upd H2 p (.dK (mergeK [] kvs))))) ?_ |> fun z => tPairs_mono (fun p hp => by obtain ⟨a, _, rfl⟩ := List.mem_map.mp hp; exact ⟨fun _ _ _ _ h q => tR_mono h q, fun _ _ _ _ h q => tR_mono h q⟩) z fun ps H2 q => q ps rfl
    refine ⟨ρ, S, F, μ, o.ext Rs E0, R0, ?_⟩
    cases er : evL C (flatE kis) ρ S with
    | bad => rw [er] at h; exact h
    | ex c v S1 => rw [er] at h; exact fun F1 μ1 H1 cls d e => h F1 μ1 H1 cls d (E0.trans e)
    | ok ds S1 =>
      rw [er] at h
      intro F1 μ1 H2 vs E1 R1 r1 ps ev
      subst ev
      obtain ⟨n1, n2, n3⟩ := Ext.sideF Rs.fz Rs.some_ hp E1
      refine ⟨n3, ?_⟩
      have h2 : EndR W wx F μ H σ (relD W) (match mkPairs ds with
        | some l => R.o (mkK m (mkDict l) S1)
        | none => .bad) Q := h
      cases em : mkPairs ds with
      | none => rw [em] at h2; exact h2.elim
      | some l =>
        rw [em] at h2
        obtain ⟨kvs, ep, el, rk⟩ := mkPairs_rep em r1
        have rk0 : RepK W.toWd F1 μ1 H2 (mkDict l) (mergeK [] kvs) := rk .nil
        have hlen : kvs.length ≤ 15 := by
          have z1 := evL_len C _ ρ S S1 ds er
          have z2 : ∀ kis : List (E × E), (flatE kis).length = 2 * kis.length := fun kis => by
            induction kis with
            | nil => rfl
            | cons p r ih => obtain ⟨a, b⟩ := p; show (flatE r).length + 1 + 1 = _; rw [ih, List.length_cons]; omega
          have z3 := r1.length
          have z4 : ∀ ps : List (V × V), (flatV ps).length = 2 * ps.length := fun ps => by
            induction ps with
            | nil => rfl
            | cons p r ih => obtain ⟨a, b⟩ := p; show (flatV r).length + 1 + 1 = _; rw [ih, List.length_cons]; omega
          rw [z1, z2, z4] at z3
          have z5 := congrArg List.length ep
          rw [List.length_map] at z5
          omega
        refine ⟨kvs, ep, hlen, ?_⟩
        have pn : p ∉ μ := fun hm => Rs.some_ p hm hp
        cases m with
        | false =>
          exact h2 (fun a => F1 a ∨ a = p) μ1 _ _ (Ext.take hp pn E1 _ _ (fun a => ⟨fun z => z.imp id fun e => ⟨.inr e, e⟩, fun z => z.elim .inl fun e => .inr e.2⟩) (fun a h => .inl h) (List.prefix_refl _) fun a h => .inl h)
            (R1.takeF n1 n2) (.dct (.inr rfl) (.inl upd_same) (rk0.mv (fun a h => .inl h) (List.prefix_refl _) fun a u f q => by rw [upd_ne (neF n1 f)]; exact q))
        | true =>
          have rk1 : RepK W.toWd F1 (μ1 ++ [p]) (upd H2 p (.dK (mergeK [] kvs))) (mkDict l) (mergeK [] kvs) := rk0.mv (fun a h => h) (List.prefix_append _ _) fun a u f q => by rw [upd_ne (neF n1 f)]; exact q
          exact h2 F1 (μ1 ++ [p]) _ _ (Ext.take hp pn E1 _ _ (fun a => ⟨fun z => .inl z, fun z => z.elim id fun e => e.1⟩) (fun a h => h) (List.prefix_append _ _) fun a h => (List.mem_append.mp h).imp id List.mem_singleton.mp)
            (R1.takeM n1 n2 (.dct (lk := false) upd_same rk1)) (.loc (by rw [← R1.len, List.getElem?_append_right (Nat.le_refl _), Nat.sub_self]; rfl))
theorem e_dsp0 {m : Bool} {pos : Pos} : PE X (.Dict [] [] pos) (tE W wx C (.dsp m [])) :=
  PE_imp pe_dnewK fun σ H Q h => by
    obtain ⟨ρ, S, F, μ, o, Rs, h⟩ := h
    unfold evE evL at h
    exact fun p hp => new_dct Rs .nil hp (EndV.of h)
end
end PM
set_option Elab.async false
set_option linter.all false
set_option autoImplicit false
set_option maxHeartbeats 4000000
/-! PMRevT: t[::-1], of a tuple. -/
namespace HT
open PySem PySem.SeqAt
open PySem.Spec PyProof.Rows
section
variable {prog : Program} {w : World} {A : Around} {E : Value → Shared → Prop} {s : Shared}
theorem sliceApplied_rev {sl : Addr} {n : Nat} {tk : Tok} {Q : Int × Int × Nat → Shared → Prop} (hs : s.heap.IsSliceOf sl .none .none (.int (-1) tk))
    (h : Q ((n : Int) - 1, -1, n) s) : wpAny (model prog w) A (Builtin.Slice.sliceApplied (.ref sl) (pure (n : Int))) Q E s := by
  obtain ⟨os, hos, hcs, hds⟩ := id hs
  unfold Builtin.Slice.sliceApplied Builtin.Slice.sliceFields
  refine wpAny_bind (wpAny_bind (wpAny_field hos hds (x := .none) rfl (wpAny_bind (wpAny_field hos hds (x := .none) rfl (wpAny_bind (wpAny_field hos hds (x := .int (-1) tk) rfl (wpAny_pure ?_)))))))
  refine wpAny_bind (slicePart_int ?_)
  show wpAny _ _ (if (((-1 : Int)) == 0) = true then _ else _) _ _ s
  rw [if_neg (by decide)]
  refine wpAny_bind (slicePart_none (wpAny_bind (slicePart_none (wpAny_bind (wpAny_pure ?_)))))
  have e1 : Builtin.Slice.sliceAdjust none none (-1) (n : Int) = ((n : Int) - 1, -1) := by
    unfold Builtin.Slice.sliceAdjust
    rfl
  have e2 : Builtin.Slice.slicePlaces ((n : Int) - 1) (-1) (-1) = n := by
    unfold Builtin.Slice.slicePlaces
    have h1 : ¬ ((-1 : Int) > 0) := by omega
    simp only [h1, if_false]
    have e3 : (-(-1 : Int)) = 1 := by decide
    rw [e3, Int.ediv_one]
    split <;> omega
  show wpAny _ _ (match Builtin.Slice.sliceAdjust none none (-1) (n : Int) with | (lo, hi) => pure (lo, (-1 : Int), Builtin.Slice.slicePlaces lo hi (-1))) _ _ s
  rw [e1]
  show wpAny _ _ (pure ((n : Int) - 1, (-1 : Int), Builtin.Slice.slicePlaces ((n : Int) - 1) (-1) (-1))) _ _ s
  rw [e2]
  exact wpAny_pure h
theorem fm_congr {α β : Type} {f g : α → Option β} : ∀ {l : List α}, (∀ m ∈ l, f m = g m) → l.filterMap f = l.filterMap g
  | [], _ => rfl
  | a :: r, h => by
    rw [List.filterMap_cons, List.filterMap_cons, h a (List.mem_cons_self ..), fm_congr fun m hm => h m (List.mem_cons_of_mem _ hm)]
theorem pick_rev (xs : Array Value) : ((List.range xs.size).filterMap fun (m : Nat) => xs[((xs.size : Int) - 1 + (m : Int) * (-1)).toNat]?).toArray = xs.toList.reverse.toArray := by
  congr 1
  have h : ∀ m ∈ List.range xs.size, xs[((xs.size : Int) - 1 + (m : Int) * (-1)).toNat]? = xs.toList.reverse[m]? := fun m hm => by
    have hm' := List.mem_range.mp hm
    have e : ((xs.size : Int) - 1 + (m : Int) * (-1)).toNat = xs.size - 1 - m := by omega
    rw [e, List.getElem?_reverse (by simpa using hm'), Array.length_toList, Array.getElem?_toList]
  rw [fm_congr h]
  have := PySem.W.krv_pick xs
  have h2 : ∀ l : List Value, (List.range l.length).filterMap (fun m => l[m]?) = l := fun l => by
    induction l with
    | nil => rfl
    | cons a r ih =>
      rw [List.length_cons, List.range_succ_eq_map, List.filterMap_cons]
      simp only [List.getElem?_cons_zero]
      rw [List.filterMap_map]
      congr 1
  have := h2 xs.toList.reverse
  rw [List.length_reverse, Array.length_toList] at this
  exact this
theorem getItem_tuple_rev {t sl : Addr} {items : Array Value} {tk : Tok} {Q : Value → Shared → Prop} (ht : IsTup s.heap t items) (hs : s.heap.IsSliceOf sl .none .none (.int (-1) tk))
    (h : Q (.ref s.heap.objs.size) { s with heap := s.heap.push { cls := .type "tuple", data := .seq items.toList.reverse.toArray } })
    (hsz : items.size ≤ sizeLine) : wpAny (model prog w) A (getItem (.ref t) (.ref sl)) Q E s := by
  have htake : sizeOk (.seq items.toList.reverse.toArray) := by
    show items.toList.reverse.toArray.size ≤ sizeLine
    rw [List.size_toArray, List.length_reverse, Array.length_toList]
    exact hsz
  obtain ⟨os, hos, hcs, hds⟩ := id hs
  have hTs : s.TypeIs (.ref sl) "slice" := ⟨os, hos, hcs⟩
  unfold getItem
  try with_reducible refine wpAny_holding ?_
  first | refine wpAny_bind (wpAny_pure ?_) | skip
  refine wpAny_bind (wpAny_sequenceKey ht.typeIs (by decide) ?_)
  refine wpAny_bind (wpAny_callSpecial?_slot (name := Str.ofString "__getitem__") ht.typeIs PyProof.Rows.slot_tuple_getitem
    (wpAny_call_entry PyProof.Rows.slot_tuple_getitem ht.typeIs entry_tuple_getitem ?_ (args_tuple_getitem _ _)))
  show wpAny _ _ (Builtin.Tuple.tupleItemsOf (.ref t) >>= _) _ _ s
  refine wpAny_bind (tupleItemsOf_ ht ?_)
  refine wpAny_bind (wpAny_typeOf hTs ?_)
  rw [if_pos (by decide)]
  refine wpAny_bind (sliceApplied_rev hs ?_)
  have hno : ¬ ((((items.size : Int) - 1) == 0 && (-1 : Int) == 1 && items.size == items.size) = true) := by
    rw [Bool.and_eq_true, Bool.and_eq_true]
    intro q
    exact absurd q.1.2 (by decide)
  show wpAny _ _ (if (((items.size : Int) - 1) == 0 && (-1 : Int) == 1 && items.size == items.size) = true then _ else _) _ _ s
  rw [if_neg hno, pick_rev]
  first
    | exact wpAny_bind (m := Builtin.Tuple.tupleExact _) (wpAny_newObj_type (wpAny_pure ⟨_, rfl, wpAny_pure h⟩) htake)
    | exact wpAny_bind (m := Builtin.Tuple.tupleExact _) (wpAny_newObj_type (wpAny_bind (wpAny_pure (wpAny_pure ⟨_, rfl, wpAny_pure h⟩))) htake)
    | exact wpAny_bind (wpAny_bind (m := Builtin.Tuple.tupleExact _) (wpAny_newObj_type (wpAny_pure (wpAny_pure ⟨_, rfl, wpAny_pure h⟩)) htake))
    | exact wpAny_bind (wpAny_bind (m := Builtin.Tuple.tupleExact _) (wpAny_newObj_type (wpAny_pure ⟨_, rfl, wpAny_pure h⟩) htake))
end
end HT
namespace L2
open PySem PySem.Spec PyProof.Rows
def tRevA (K : PySem.W.Frag) (te : TE) : TE := fun σ H Q => te σ H fun x H1 => ∃ a xs, x = .ref a ∧ ((SqL K H1 a xs ∧ ∀ p, H1 p = none → Q (.ref p) (upd H1 p (.lst xs.reverse))) ∨ (SqT K H1 a xs ∧ ∀ p, H1 p = none → Q (.ref p) (upd H1 p (.tup xs.reverse))))
theorem pe_revA {X : Cx} {e : Expr} {te : TE} {k : Nat} {p1 p2 p3 pos : Pos} (he : PE X e te) : PE X (.Subscript e (.Slice none none (some (.UnaryOp .USub (.Constant (.int 1) k p1) p2)) p3) pos) (tRevA X.K te) := by
  refine ⟨fun pins s σ H Q I h => ?_⟩
  refine Subscript_ (thn (he.run pins s σ H _ I h) fun v s1 ⟨x, H1, I1, r1, q1⟩ => ?_)
  obtain ⟨a, xs, ex, q⟩ := q1
  subst ex
  cases r1
  have hst : PO X (some (.UnaryOp .USub (.Constant (.int 1) k p1) p2)) (tPart (tUn (rU fun i => .int (-i)) (tC (.int 1)))) := po_some (pe_un un_neg pe_int)
  refine wpAny_Slice (thn (po_none.run pins s1 σ H1 (fun o H2 => o = none ∧ H2 = H1) I1 ⟨rfl, rfl⟩) fun vl s2 ⟨l, H2, I2, pl, el, e2⟩ => ?_)
  subst el e2
  refine thn (po_none.run pins s2 σ H2 (fun o H3 => o = none ∧ H3 = H2) I2 ⟨rfl, rfl⟩) fun vu s3 ⟨u, H3, I3, pu, eu, e3⟩ => ?_
  subst eu e3
  refine thn (hst.run pins s3 σ H3 (fun o H4 => o = some (-1) ∧ H4 = H3) I3 ⟨1, rfl, -1, rfl, rfl, rfl⟩) fun vs s4 ⟨o, H4, I4, ps, eo, e4⟩ => ?_
  subst eo e4
  have I5 : Inv X pins σ H4 { s4 with heap := s4.heap.push { cls := .type "slice", data := .fields #[vl, vu, vs] } } := I4.kept (t' := s4.toks) fun b ob q => Heap.get?_push_of_some _ q
  show wpAny (model X.prog X.w) X.A (subscriptTail e (.Slice none none (some (.UnaryOp .USub (.Constant (.int 1) k p1) p2)) p3) (.ref a) (.ref s4.heap.objs.size)) (EP X pins σ Q) X.xe { s4 with heap := s4.heap.push { cls := .type "slice", data := .fields #[vl, vu, vs] } }
  rcases q with ⟨hx, q⟩ | ⟨hx, q⟩
  · obtain ⟨its, r, ht, hz⟩ := I5.list hx
    have hlen := r.length
    refine tail_any (ops := [.ref a, .ref s4.heap.objs.size]) ht.isList.typeIs (PySem.slot_list_getitem.lookup) ?_ (by with_unfolding_all rfl)
    refine wpAny_getItem_list_slice ht.isList (Heap.IsSliceOf.new _ vl vu vs) pl pu ps (by decide) ?_ (by rw [List.size_toArray]; omega)
    rw [PySem.W.krv_pick]
    refine ⟨.ref _, _, I5.laid (t' := s4.toks) (o := .lst xs.reverse) (fun b ob q => Heap.get?_push_of_some _ q) (Nat.le_refl _) ?_, rfl, q _ (I5.hok.fresh (Nat.le_refl _))⟩
    exact ⟨by rw [List.length_reverse]; exact hz, _, 0, r.reverse, Heap.get?_push_size _ rfl⟩
  · obtain ⟨its, r, ht, hz⟩ := I5.tuple hx
    have hlen := r.length
    refine tail_any (ops := [.ref a, .ref s4.heap.objs.size]) ht.typeIs (PyProof.Rows.slot_tuple_getitem.lookup) ?_ (by with_unfolding_all rfl)
    cases pl
    cases pu
    cases ps with
    | int i tk =>
      refine HT.getItem_tuple_rev ht (Heap.IsSliceOf.new _ .none .none (.int (-1) tk)) ?_ (by rw [List.size_toArray]; omega)
      refine ⟨.ref _, _, I5.laid (t' := s4.toks) (o := .tup xs.reverse) (fun b ob q => Heap.get?_push_of_some _ q) (Nat.le_refl _) ?_, rfl, q _ (I5.hok.fresh (Nat.le_refl _))⟩
      exact ⟨by rw [List.length_reverse]; exact hz, _, r.reverse, IsTup.new _ _⟩
end L2
set_option Elab.async false
set_option linter.all false
set_option autoImplicit false
set_option maxHeartbeats 4000000
/-! PMExpr10: subscripts, slices. -/
namespace PM
open PySem PySem.Spec PyProof.Rows L2
theorem ixN_eq (n : Nat) (i : Int) : PM.ixN n i = L2.ixN n i := by
  unfold PM.ixN L2.ixN
  by_cases h0 : 0 ≤ i
  · rw [if_pos h0, if_pos h0]
    by_cases h1 : i.toNat < n
    · rw [if_pos h1, if_pos (by omega)]
    · rw [if_neg h1, if_neg (by omega)]
  · rw [if_neg h0, if_neg h0]
    by_cases h1 : 0 ≤ i + n
    · rw [if_pos h1, if_pos (by omega)]
    · rw [if_neg h1, if_neg (by omega)]
section
variable {W : Wx} {wx : WX} {C : Ctx} {sh : Shp} {k : Nat} {X : Cx}
def rG (W : Wd) : R2 := fun x y H Q => ∃ (S : St) (F : Addr → Prop) (μ : List Addr) (a b : D), Rl W F μ H S ∧ Rep W F μ H a x ∧ Rep W F μ H b y ∧ EndV W F μ H (getIx S a b) Q
theorem RepL.ix {F : Addr → Prop} {μ : List Addr} {H : Hp} {xs : List D} {vs : List V} {i : Int} {d : D} (r : RepL W.toWd F μ H xs vs) (h : (PM.ixN xs.length i).bind (xs[·]?) = some d) : ∃ v, atI vs i = some v ∧ Rep W.toWd F μ H d v := by
  rw [ixN_eq] at h
  obtain ⟨j, e1, e2⟩ := Option.bind_eq_some_iff.mp h
  obtain ⟨v, e3, r1⟩ := r.get e2
  exact ⟨v, by unfold atI; rw [← r.length, e1]; exact e3, r1⟩
theorem ix_ok (G : Gb W C sh k X) : IxR X (rG W.toWd) := by
  intro value slice pins s σ H x y v u Q I rx ry h hs
  obtain ⟨S, F, μ, a, b, Rs, r1, r2, d, S', e, q⟩ := h
  have seqI : ∀ {xs : List D} {i : Int} {vs : List V} {p : Addr}, x = .ref p → (SqL W.K H p vs ∨ SqT W.K H p vs) → RepL W.toWd F μ H xs vs → b = .int i → (match (PM.ixN xs.length i).bind (xs[·]?) with | some x => some (x, S) | none => none) = some (d, S') →
      wpAny (model X.prog X.w) X.A (subscriptTail value slice v u) (EP X pins σ Q) X.xe s := fun {xs i vs p} ex sq rr eb ee => by
    clear e
    subst ex eb
    cases r2
    cases e2 : (PM.ixN xs.length i).bind (xs[·]?) with
    | none => rw [e2] at ee; cases ee
    | some d' =>
      rw [e2] at ee
      cases ee
      obtain ⟨w, ew, rw'⟩ := rr.ix e2
      have q' := q F μ H w Ext.refl Rs rw'
      rcases sq with sq | sq
      · exact ix_list value slice pins s σ H _ _ v u Q I rx ry ⟨p, vs, i, w, rfl, rfl, by rw [G.hK]; exact sq, ew, q'⟩ hs
      · exact ix_tup value slice pins s σ H _ _ v u Q I rx ry ⟨p, vs, i, w, rfl, rfl, by rw [G.hK]; exact sq, ew, q'⟩ hs
  have dctI : ∀ {kvs : List (Key × D)} {ky : Key}, pairs S a = some kvs → y = kV (kQ ky) → ((getK kvs ky).map fun d => (d, S)) = some (d, S') →
      wpAny (model X.prog X.w) X.A (subscriptTail value slice v u) (EP X pins σ Q) X.xe s := fun {kvs ky} ep ey e => by
    obtain ⟨p, ws, rfl, eH, rk⟩ := Rs.pairs ep r1
    obtain ⟨d', ed, z⟩ := Option.map_eq_some_iff.mp e
    cases z
    rcases rk.get ky with ⟨z, _⟩ | ⟨d2, w, z, ew, rw'⟩
    · rw [z] at ed; cases ed
    · rw [z] at ed
      cases ed
      obtain rfl : v = Value.ref p := rx
      subst ey
      have g : DGet H p (kV (kQ ky)) (some w) := by rw [← ew]; exact dgetK eH
      refine tail_any (dict_typeIs I g) (PySem.F.slot_dict_getitem.lookup) (d_getItem (by have := G.hu; omega) I g ry fun w' s' I' rw2 => ⟨w, H, I', rw2, q F μ H w Ext.refl Rs rw'⟩) hs
  unfold getIx at e
  split at e
  · -- a text
    rename_i t i
    cases r1 with
    | str _ ht =>
      cases r2
      cases e2 : (PM.ixN t.length i).bind (t[·]?) with
      | none => rw [e2] at e; cases e
      | some c =>
        rw [e2] at e
        cases e
        refine ix_str value slice pins s σ H _ _ v u Q I rx ry ⟨tS t, i, c, rfl, rfl, by rw [tS_len]; exact ht, ?_, q F μ H _ Ext.refl Rs (.str _ (by show 1 ≤ sizeLine; decide))⟩ hs
        rw [ixN_eq] at e2
        have e3 : (tS t).cps.toList = t := by unfold tS; simp
        rw [e3]
        exact e2
  · split at e
    · rename_i xs ei
      obtain ⟨p, vs, ex, sq, rr⟩ := Rs.items ei r1
      exact seqI ex sq rr rfl e
    · split at e
      · rename_i kvs ep
        cases r2
        exact dctI ep rfl e
      · cases e
  · split at e
    · rename_i kvs ep
      cases r2
      exact dctI ep rfl e
    · cases e
  · cases e
theorem e_ix (G : Gb W C sh k X) {a b : Expr} {aI bI : E} {pos : Pos} (hs : PlainIx b) (ha : PE X a (tE W wx C aI)) (hb : PE X b (tE W wx C bI)) : PE X (.Subscript a b pos) (tE W wx C (.ix aI bI)) :=
  PE_imp (pe_ix (ix_ok G) ha hb hs) fun σ H Q h => by
    have h' : tR W wx (relD W) (fun ρ S => (evE C aI ρ S).bind fun x S1 => (evE C bI ρ S1).bind fun y S2 => R.o (getIx S2 x y)) σ H Q := by
      obtain ⟨ρ, S, F, μ, o, R, h⟩ := h
      unfold evE at h
      exact ⟨ρ, S, F, μ, o, R, h⟩
    exact tR_mono (tR_bin (rel1 := relD W) (relB := relD W) stays_D h') fun v H1 h1 => tR_mono h1 fun u H2 ⟨ρ, S, F, μ, x, y, o, R, r1, r2, q⟩ => ⟨S, F, μ, x, y, R, r1, r2, EndV.of q⟩
/-! ### slices -/
theorem clip_eq (n d : Nat) (o : Option Int) : clip n d o = HT.sIx n d o := by
  cases o with
  | none => rfl
  | some i =>
    show (if 0 ≤ i then min i.toNat n else (i + n).toNat) = (if i < 0 then (i + (n : Int)).toNat else min i.toNat n)
    by_cases h : 0 ≤ i
    · rw [if_pos h, if_neg (by omega)]
    · rw [if_neg h, if_pos (by omega)]
theorem RepL.cut {F : Addr → Prop} {μ : List Addr} {H : Hp} {xs : List D} {vs : List V} (lo hi : Option Int) (r : RepL W.toWd F μ H xs vs) : RepL W.toWd F μ H (PM.cut xs lo hi) (cutV vs lo hi) := by
  unfold PM.cut cutV
  rw [clip_eq, clip_eq, r.length]
  exact (r.drop _).take _
def rSlG (W : Wd) (m : Bool) : V → Option Int → Option Int → Hp → VK → Prop := fun x lo hi H Q => ∃ (S : St) (F : Addr → Prop) (μ : List Addr) (a : D), Rl W F μ H S ∧ Rep W F μ H a x ∧ EndV W F μ H (getSl S m a lo hi) Q
theorem cut_all {α : Type} (xs : List α) (lo hi : Option Int) (h1 : clip xs.length 0 lo = 0) (h2 : clip xs.length xs.length hi = xs.length) : cut xs lo hi = xs := by
  unfold cut
  rw [h1, h2, List.drop_zero, Nat.sub_zero, List.take_length]
theorem sl_ok (G : Gb W C sh k X) {m : Bool} : SlR X (rSlG W.toWd m) := by
  intro pins s σ H x v vl vu lo hi sl Q I rx hs pl pu h
  obtain ⟨S, F, μ, a, Rs, r1, d, S', e, q⟩ := h
  unfold getSl at e
  split at e
  · rename_i t
    cases r1 with
    | str _ ht =>
      cases e
      refine sl_str pins s σ H _ v vl vu lo hi sl Q I rx hs pl pu ⟨tS t, rfl, by rw [tS_len]; exact ht, ?_⟩
      have e1 : cutS (tS t) lo hi = tS (PM.cut t lo hi) := by
        unfold cutS PM.cut
        rw [tS_len, clip_eq, clip_eq]
        have e3 : (tS t).cps.toList = t := by unfold tS; simp
        rw [e3]; rfl
      rw [e1]
      refine q F μ H _ Ext.refl Rs (.str _ ?_)
      have : (PM.cut t lo hi).length ≤ t.length := by
        unfold PM.cut
        rw [List.length_take, List.length_drop]; omega
      omega
  · rename_i xs
    obtain ⟨p, vs, rfl, sq, rr⟩ := r1.tupS
    cases e
    refine sl_tupA pins s σ H _ v vl vu lo hi sl Q I rx hs pl pu ⟨p, vs, rfl, by rw [G.hK]; exact sq, fun ⟨h1, h2⟩ => ?_, fun _ p' hp => new_tup Rs (rr.cut lo hi) hp q⟩
    have : PM.cut xs lo hi = xs := cut_all xs lo hi (by rw [clip_eq, rr.length]; exact h1) (by rw [clip_eq, rr.length]; exact h2)
    rw [this] at q
    exact q F μ H _ Ext.refl Rs r1
  · split at e
    · rename_i xs el
      obtain ⟨p, vs, rfl, sq, rr⟩ := Rs.lstItems el r1
      exact sl_list pins s σ H _ v vl vu lo hi sl Q I rx hs pl pu ⟨p, vs, rfl, .inl sq, fun p' hp => new_lst Rs (rr.cut lo hi) hp ⟨d, S', e, q⟩⟩
    · cases e
abbrev tOO (W : Wx) (wx : WX) (C : Ctx) (e : Option E) : TO := tR W wx relE (evO C e)
inductive POO (W : Wx) (wx : WX) (C : Ctx) (X : Cx) : Option Expr → Option E → Prop
  | none : POO W wx C X none none
  | some {e : Expr} {i : E} : PE X e (tE W wx C i) → POO W wx C X (some e) (some i)
theorem po_ok {e : Option Expr} {i : Option E} (h : POO W wx C X e i) : PO X e (tOO W wx C i) := by
  cases h with
  | none => exact ⟨fun pins s σ H Q I h => po_none.run pins s σ H Q I (by
      obtain ⟨ρ, S, F, μ, o, Rs, h⟩ := h
      unfold evO at h
      exact EndR.here (rel := relE) (a := Option.none) h Rs rfl)⟩
  | some h => exact ⟨fun pins s σ H Q I q => (po_some h).run pins s σ H Q I (by
      obtain ⟨ρ, S, F, μ, o, Rs, q⟩ := q
      unfold evO at q
      refine ⟨ρ, S, F, μ, o, Rs, (EndR.bind (rel := relD W) q).mono fun v H1 ⟨F1, μ1, d, S1, x1, R1, r1, q1⟩ => ?_⟩
      obtain ⟨a, ea, q2⟩ := EndR.of q1
      cases r1 <;> cases ea
      exact ⟨_, rfl, EndR.here (rel := relE) q2 R1 rfl⟩)⟩
theorem e_sl (G : Gb W C sh k X) {m : Bool} {a : Expr} {lo hi : Option Expr} {aI : E} {loI hiI : Option E} {p2 pos : Pos} (ha : PE X a (tE W wx C aI)) (hl : POO W wx C X lo loI) (hh : POO W wx C X hi hiI) :
    PE X (.Subscript a (.Slice lo hi none p2) pos) (tE W wx C (.sl m aI loI hiI)) :=
  PE_imp (pe_slice (sl_ok G (m := m)) ha (po_ok hl) (po_ok hh)) fun σ H Q h => by
    obtain ⟨ρ, S, F, μ, o, Rs, h⟩ := h
    unfold evE at h
    refine ⟨ρ, S, F, μ, o, Rs, (EndR.bind (rel := relD W) h).mono fun v H1 ⟨F1, μ1, x, S1, x1, R1, r1, q1⟩ => ?_⟩
    have o1 := o.ext Rs x1
    refine ⟨ρ, S1, F1, μ1, o1, R1, (EndR.bind (rel := relE) q1).mono fun l H2 ⟨F2, μ2, l', S2, x2, R2, rl, q2⟩ => ?_⟩
    cases rl
    have o2 := o1.ext R1 x2
    refine ⟨ρ, S2, F2, μ2, o2, R2, (EndR.bind (rel := relE) q2).mono fun u H3 ⟨F3, μ3, u', S3, x3, R3, ru, q3⟩ => ?_⟩
    cases ru
    exact ⟨S3, F3, μ3, x, R3, R2.ext x3 (R1.ext x2 r1), EndV.of q3⟩
/-! ### xs[::-1], of lists -/
theorem e_rev (G : Gb W C sh k X) {m : Bool} {a : Expr} {aI : E} {kk : Nat} {p1 p2 p3 pos : Pos} (ha : PE X a (tE W wx C aI)) :
    PE X (.Subscript a (.Slice none none (some (.UnaryOp .USub (.Constant (.int 1) kk p1) p2)) p3) pos) (tE W wx C (.rev m aI)) :=
  PE_imp (pe_revA ha) fun σ H Q h => by
    obtain ⟨ρ, S, F, μ, o, Rs, h⟩ := h
    unfold evE at h
    refine ⟨ρ, S, F, μ, o, Rs, (EndR.bind (rel := relD W) h).mono fun v H1 ⟨F1, μ1, x, S1, x1, R1, r1, q⟩ => ?_⟩
    obtain ⟨d, S', e, q⟩ := EndV.of q
    unfold getRev at e
    split at e
    · cases e
    · obtain ⟨p, vs, rfl, sq, rr⟩ := r1.tupS
      cases e
      exact ⟨p, vs, rfl, .inr ⟨by rw [G.hK]; exact sq, fun p' hp => new_tup R1 rr.reverse hp q⟩⟩
    · split at e
      · rename_i xs el
        obtain ⟨p, vs, rfl, sq, rr⟩ := R1.lstItems el r1
        exact ⟨p, vs, rfl, .inl ⟨.inl sq, fun p' hp => new_lst R1 rr.reverse hp ⟨d, S', e, q⟩⟩⟩
      · cases e
end
end PM
set_option Elab.async false
set_option linter.all false
set_option autoImplicit false
set_option maxHeartbeats 4000000
/-! PMIter: what is walked. -/
namespace PM
open PySem PySem.Spec PyProof.Rows L2
/-- J hands out xs, as long as what ds speak of stays -/
structure ItOk (W : Wx) (J : It) (S1 : St) (ds xs : List D) (F0 : Addr → Prop) (μ0 : List Addr) (H0 : Hp) : Prop where
  go : ∀ {i : Nat} {x : D} {F : Addr → Prop} {μ : List Addr} {H : Hp} {S : St}, Ext F0 μ0 H0 F μ H → Rl W.toWd F μ H S → ds.all (sameAt S1 S) = true → xs[i]? = some x →
    J.go i H ∧ ∀ v H', J.yld i H v H' → ∃ F' : Addr → Prop, Ext F μ H F' μ H' ∧ Rl W.toWd F' μ H' S ∧ Rep W.toWd F' μ H' x v
  stop : ∀ {F : Addr → Prop} {μ : List Addr} {H : Hp} {S : St}, Ext F0 μ0 H0 F μ H → Rl W.toWd F μ H S → ds.all (sameAt S1 S) = true → J.stop xs.length H
section
variable {W : Wx} {F0 F : Addr → Prop} {μ0 μ : List Addr} {H0 H : Hp} {S1 S : St}
theorem Cell.beq_eq' : ∀ {a b : Cell}, a.beq b = true → a = b
  | .lst a, .lst b, h => by rw [D.beqL_eq a b h]
  | .dct l a, .dct m b, h => by
    unfold Cell.beq at h
    rw [Bool.and_eq_true] at h
    rw [beq_iff_eq.mp h.1, D.beqK_eq a b h.2]
  | .ins c a, .ins e b, h => by
    unfold Cell.beq at h
    rw [Bool.and_eq_true] at h
    rw [beq_iff_eq.mp h.1, D.beqF_eq a b h.2]
  | .lst _, .dct _ _, h => by cases h
  | .lst _, .ins _ _, h => by cases h
  | .dct _ _, .lst _, h => by cases h
  | .dct _ _, .ins _ _, h => by cases h
  | .ins _ _, .lst _, h => by cases h
  | .ins _ _, .dct _ _, h => by cases h
theorem same_lst {d : D} {xs : List D} (h : sameAt S1 S d = true) (e : lstItems S1 d = some xs) : lstItems S d = some xs := by
  cases d with
  | loc n =>
    unfold sameAt at h
    unfold lstItems at e ⊢
    simp only at h e ⊢
    cases e1 : S1[n]? with
    | none => rw [e1] at e; cases e
    | some c =>
      rw [e1] at h e
      cases e2 : S[n]? with
      | none => rw [e2] at h; cases h
      | some c' =>
        rw [e2] at h
        rw [← Cell.beq_eq' h]
        exact e
  | _ => exact e
theorem lst_live {d : D} {xs : List D} {v : V} (R0 : Rl W.toWd F0 μ0 H0 S1) (r : Rep W.toWd F0 μ0 H0 d v) (e : lstItems S1 d = some xs) (E : Ext F0 μ0 H0 F μ H) (R : Rl W.toWd F μ H S) (h : sameAt S1 S d = true) : ∃ a vs, v = .ref a ∧ Rd H a (.lst vs) ∧ RepL W.toWd F μ H xs vs :=
  R.lstItems (same_lst h e) (R0.ext E r)
theorem RepL.some {xs : List D} {vs : List V} {i : Nat} {x : D} {w : V} (r : RepL W.toWd F μ H xs vs) (h : xs[i]? = some x) (e : vs[i]? = some w) : Rep W.toWd F μ H x w := by
  obtain ⟨v, e1, r1⟩ := r.get h
  rw [e] at e1
  cases e1
  exact r1
theorem it_list {K : PySem.W.Frag} {d : D} {xs : List D} {a : Addr} (R0 : Rl W.toWd F0 μ0 H0 S1) (r : Rep W.toWd F0 μ0 H0 d (.ref a)) (e : lstItems S1 d = some xs) : ItOk W (Itl K a) S1 [d] xs F0 μ0 H0 where
  go := fun {i x F μ H S} E R h hx => by
    rw [List.all_cons, Bool.and_eq_true] at h
    obtain ⟨_, vs, e1, q, rr⟩ := lst_live R0 r e E R h.1
    cases e1
    obtain ⟨v, e2, r2⟩ := rr.get hx
    refine ⟨⟨vs, v, .inl q, e2⟩, fun w H' ⟨eH, hy⟩ => ?_⟩
    subst eH
    exact ⟨F, Ext.refl, R, rr.some hx (hy vs (.inl q))⟩
  stop := fun {F μ H S} E R h => by
    rw [List.all_cons, Bool.and_eq_true] at h
    obtain ⟨_, vs, e1, q, rr⟩ := lst_live R0 r e E R h.1
    cases e1
    exact ⟨vs, .inl q, Nat.le_of_eq rr.length.symm⟩
theorem it_tup {xs : List D} {a : Addr} (R0 : Rl W.toWd F0 μ0 H0 S1) (r : Rep W.toWd F0 μ0 H0 (.tup xs) (.ref a)) : ItOk W (Itt W.K a) S1 [.tup xs] xs F0 μ0 H0 where
  go := fun {i x F μ H S} E R h hx => by
    obtain ⟨_, vs, e1, q, rr⟩ := (R0.ext E r).tupS
    cases e1
    obtain ⟨v, e2, r2⟩ := rr.get hx
    refine ⟨⟨vs, v, q, e2⟩, fun w H' ⟨eH, hy⟩ => ?_⟩
    subst eH
    exact ⟨F, Ext.refl, R, rr.some hx (hy vs q)⟩
  stop := fun {F μ H S} E R h => by
    obtain ⟨_, vs, e1, q, rr⟩ := (R0.ext E r).tupS
    cases e1
    exact ⟨vs, q, Nat.le_of_eq rr.length.symm⟩
theorem it_str {t : Txt} : ItOk W (Its (tS t)) S1 [.str t] (t.map fun c => .str [c]) F0 μ0 H0 where
  go := fun {i x F μ H S} E R h hx => by
    rw [List.getElem?_map] at hx
    obtain ⟨c, e1, e2⟩ := Option.map_eq_some_iff.mp hx
    have e3 : (tS t).cps[i]? = t[i]? := by unfold tS; simp
    have hl := tS_len t
    refine ⟨?_, fun w H' ⟨eH, c', e4, e5⟩ => ?_⟩
    · show i < (tS t).length
      rw [hl]
      exact (List.getElem?_eq_some_iff.mp e1).1
    · subst eH e5 e2
      rw [e3, e1] at e4
      cases e4
      exact ⟨F, Ext.refl, R, .str _ (by show 1 ≤ sizeLine; decide)⟩
  stop := fun {F μ H S} E R h => by
    show (tS t).length ≤ _
    rw [tS_len, List.length_map]
    exact Nat.le_refl _
theorem rngL_get (a b : Int) (i : Nat) : (rngL a b)[i]? = if i < (b - a).toNat then some (.int (a + (i : Nat))) else none := by
  unfold rngL
  rw [List.getElem?_map]
  by_cases h : i < (b - a).toNat
  · rw [if_pos h, List.getElem?_eq_getElem (by simpa using h), List.getElem_range]; rfl
  · rw [if_neg h, List.getElem?_eq_none (by simpa using h)]; rfl
theorem it_rng {a b : Int} {ds : List D} : ItOk W (Itr a (b - a).toNat) S1 ds (rngL a b) F0 μ0 H0 where
  go := fun {i x F μ H S} E R h hx => by
    rw [rngL_get] at hx
    split at hx
    · rename_i hi
      cases hx
      refine ⟨hi, fun w H' ⟨eH, e⟩ => ?_⟩
      subst eH e
      exact ⟨F, Ext.refl, R, .int _⟩
    · cases hx
  stop := fun {F μ H S} E R h => by
    show (b - a).toNat ≤ (rngL a b).length
    unfold rngL
    rw [List.length_map, List.length_range]
    exact Nat.le_refl _
theorem enumD_get : ∀ (xs : List D) (k i : Nat), (enumD k xs)[i]? = (xs[i]?).map fun x => .tup [.int ((k + i : Nat) : Int), x]
  | [], k, i => by unfold enumD; simp
  | x :: r, k, 0 => by unfold enumD; simp
  | x :: r, k, i + 1 => by
    unfold enumD
    rw [List.getElem?_cons_succ, List.getElem?_cons_succ, enumD_get r (k + 1) i]
    congr 2
    funext y
    congr 3
    omega
theorem enumD_len : ∀ (xs : List D) (k : Nat), (enumD k xs).length = xs.length
  | [], k => rfl
  | x :: r, k => by unfold enumD; rw [List.length_cons, List.length_cons, enumD_len r]
theorem it_enum {K : PySem.W.Frag} {d : D} {xs : List D} {a : Addr} (R0 : Rl W.toWd F0 μ0 H0 S1) (r : Rep W.toWd F0 μ0 H0 d (.ref a)) (e : lstItems S1 d = some xs) : ItOk W (Ite K a) S1 [d] (enumD 0 xs) F0 μ0 H0 where
  go := fun {i x F μ H S} E R h hx => by
    rw [List.all_cons, Bool.and_eq_true] at h
    obtain ⟨_, vs, e1, q, rr⟩ := lst_live R0 r e E R h.1
    cases e1
    rw [enumD_get] at hx
    obtain ⟨y, ey, e3⟩ := Option.map_eq_some_iff.mp hx
    subst e3
    obtain ⟨v, e2, r2⟩ := rr.get ey
    refine ⟨⟨vs, v, .inl q, e2⟩, fun w H' ⟨T, z, ew, hT, eH, hy⟩ => ?_⟩
    subst eH ew
    have := hy vs (.inl q)
    rw [e2] at this
    cases this
    refine ⟨fun c => F c ∨ c = T, Ext.laid R hT, R.laid hT, .tup (.inl ⟨.inr rfl, upd_same⟩) (.cons ?_ (.cons (R.ext (Ext.laid R hT) r2) .nil))⟩
    rw [Nat.zero_add]
    exact .int _
  stop := fun {F μ H S} E R h => by
    rw [List.all_cons, Bool.and_eq_true] at h
    obtain ⟨_, vs, e1, q, rr⟩ := lst_live R0 r e E R h.1
    cases e1
    exact ⟨vs, .inl q, by rw [enumD_len]; exact Nat.le_of_eq rr.length.symm⟩
theorem zipD_get : ∀ (xs ys : List D) (i : Nat) (z : D), (zipD xs ys)[i]? = some z → ∃ x y, xs[i]? = some x ∧ ys[i]? = some y ∧ z = .tup [x, y]
  | [], ys, i, z, h => by unfold zipD at h; simp at h
  | _ :: _, [], i, z, h => by unfold zipD at h; simp at h
  | x :: r, y :: t, 0, z, h => by unfold zipD at h; simp at h; exact ⟨x, y, rfl, rfl, h.symm⟩
  | x :: r, y :: t, i + 1, z, h => by
    unfold zipD at h
    rw [List.getElem?_cons_succ] at h
    obtain ⟨x', y', a, b, c⟩ := zipD_get r t i z h
    exact ⟨x', y', by simpa using a, by simpa using b, c⟩
theorem zipD_len : ∀ (xs ys : List D), xs.length ≤ (zipD xs ys).length ∨ ys.length ≤ (zipD xs ys).length
  | [], ys => .inl (Nat.zero_le _)
  | _ :: _, [] => .inr (Nat.zero_le _)
  | x :: r, y :: t => by
    unfold zipD
    rw [List.length_cons, List.length_cons, List.length_cons]
    exact (zipD_len r t).imp Nat.succ_le_succ Nat.succ_le_succ
theorem it_zip {K : PySem.W.Frag} {d e : D} {xs ys : List D} {a b : Addr} (R0 : Rl W.toWd F0 μ0 H0 S1) (r1 : Rep W.toWd F0 μ0 H0 d (.ref a)) (r2 : Rep W.toWd F0 μ0 H0 e (.ref b)) (e1 : lstItems S1 d = some xs) (e2 : lstItems S1 e = some ys) : ItOk W (Itz K a b) S1 [d, e] (zipD xs ys) F0 μ0 H0 where
  go := fun {i x F μ H S} E R h hx => by
    rw [List.all_cons, List.all_cons, Bool.and_eq_true, Bool.and_eq_true] at h
    obtain ⟨_, vs, z1, q1, rr1⟩ := lst_live R0 r1 e1 E R h.1
    obtain ⟨_, ws, z2, q2, rr2⟩ := lst_live R0 r2 e2 E R h.2.1
    cases z1
    cases z2
    obtain ⟨x1, y1, ex, ey, ez⟩ := zipD_get _ _ _ _ hx
    subst ez
    obtain ⟨v1, g1, s1⟩ := rr1.get ex
    obtain ⟨v2, g2, s2⟩ := rr2.get ey
    refine ⟨⟨vs, ws, v1, v2, .inl q1, .inl q2, g1, g2⟩, fun w H' ⟨T, z, z', ew, hT, eH, hy, hy'⟩ => ?_⟩
    subst eH ew
    have t1 := hy vs (.inl q1)
    have t2 := hy' ws (.inl q2)
    rw [g1] at t1
    rw [g2] at t2
    cases t1
    cases t2
    exact ⟨fun c => F c ∨ c = T, Ext.laid R hT, R.laid hT, .tup (.inl ⟨.inr rfl, upd_same⟩) (.cons (R.ext (Ext.laid R hT) s1) (.cons (R.ext (Ext.laid R hT) s2) .nil))⟩
  stop := fun {F μ H S} E R h => by
    rw [List.all_cons, List.all_cons, Bool.and_eq_true, Bool.and_eq_true] at h
    obtain ⟨_, vs, z1, q1, rr1⟩ := lst_live R0 r1 e1 E R h.1
    obtain ⟨_, ws, z2, q2, rr2⟩ := lst_live R0 r2 e2 E R h.2.1
    cases z1
    cases z2
    refine ⟨vs, ws, .inl q1, .inl q2, ?_⟩
    rw [← rr1.length, ← rr2.length]
    exact zipD_len xs ys
theorem it_zipT {xs ys : List D} {a b : Addr} (R0 : Rl W.toWd F0 μ0 H0 S1) (r1 : Rep W.toWd F0 μ0 H0 (.tup xs) (.ref a)) (r2 : Rep W.toWd F0 μ0 H0 (.tup ys) (.ref b)) : ItOk W (RZ.ItzT W.K a b) S1 [.tup xs, .tup ys] (zipD xs ys) F0 μ0 H0 where
  go := fun {i x F μ H S} E R h hx => by
    obtain ⟨_, vs, z1, q1, rr1⟩ := (R0.ext E r1).tupS
    obtain ⟨_, ws, z2, q2, rr2⟩ := (R0.ext E r2).tupS
    cases z1
    cases z2
    obtain ⟨x1, y1, ex, ey, ez⟩ := zipD_get _ _ _ _ hx
    subst ez
    obtain ⟨v1, g1, s1⟩ := rr1.get ex
    obtain ⟨v2, g2, s2⟩ := rr2.get ey
    refine ⟨⟨vs, ws, v1, v2, q1, q2, g1, g2⟩, fun w H' ⟨T, z, z', ew, hT, eH, hy, hy'⟩ => ?_⟩
    subst eH ew
    have t1 := hy vs q1
    have t2 := hy' ws q2
    rw [g1] at t1
    rw [g2] at t2
    cases t1
    cases t2
    exact ⟨fun c => F c ∨ c = T, Ext.laid R hT, R.laid hT, .tup (.inl ⟨.inr rfl, upd_same⟩) (.cons (R.ext (Ext.laid R hT) s1) (.cons (R.ext (Ext.laid R hT) s2) .nil))⟩
  stop := fun {F μ H S} E R h => by
    obtain ⟨_, vs, z1, q1, rr1⟩ := (R0.ext E r1).tupS
    obtain ⟨_, ws, z2, q2, rr2⟩ := (R0.ext E r2).tupS
    cases z1
    cases z2
    refine ⟨vs, ws, q1, q2, ?_⟩
    rw [← rr1.length, ← rr2.length]
    exact zipD_len xs ys
end
/-- wherever ds lie at vs -/
def ItAll (W : Wx) (J : It) (S1 : St) (ds xs : List D) (vs : List V) : Prop := ∀ (F0 : Addr → Prop) (μ0 : List Addr) (H0 : Hp), Rl W.toWd F0 μ0 H0 S1 → RepL W.toWd F0 μ0 H0 ds vs → ItOk W J S1 ds xs F0 μ0 H0
theorem RepL.one {W : Wd} {F : Addr → Prop} {μ : List Addr} {H : Hp} {d : D} {v : V} (r : RepL W F μ H [d] [v]) : Rep W F μ H d v := by
  cases r with
  | cons a b => exact a
theorem RepL.two {W : Wd} {F : Addr → Prop} {μ : List Addr} {H : Hp} {d e : D} {v u : V} (r : RepL W F μ H [d, e] [v, u]) : Rep W F μ H d v ∧ Rep W F μ H e u := by
  cases r with
  | cons a b => exact ⟨a, b.one⟩
/-- an iterable's reading -/
def tI (W : Wx) (wx : WX) (C : Ctx) (ik : IK) (ie : List E) : TI := fun σ H R => tL W wx C ie σ H fun vs H1 => ∃ (F : Addr → Prop) (μ : List Addr) (S1 : St) (ds xs : List D),
  Rl W.toWd F μ H1 S1 ∧ RepL W.toWd F μ H1 ds vs ∧ walk S1 ik ds = some xs ∧ ∀ J, ItAll W J S1 ds xs vs → R J H1
section
variable {W : Wx} {wx : WX} {C : Ctx} {sh : Shp} {k : Nat} {X : Cx}
theorem i_seq (G : Gb W C sh k X) {tg e : Expr} {i : E} (he : PE X e (tE W wx C i)) : PI X tg e (tI W wx C .seq [i]) := by
  refine ⟨fun pins s σ H R I h => ?_⟩
  have h' : tE W wx C i σ H fun v H1 => ∃ (F : Addr → Prop) (μ : List Addr) (S1 : St) (d : D) (xs : List D), Rl W.toWd F μ H1 S1 ∧ Rep W.toWd F μ H1 d v ∧ walk S1 .seq [d] = some xs ∧ ∀ J, ItAll W J S1 [d] xs [v] → R J H1 :=
    tR_mono (l_cons h) fun v H1 h1 => by
      obtain ⟨F, μ, S1, ds, xs, Rs, rr, ew, q⟩ := l_nil h1
      cases rr with
      | cons r1 r2 =>
        cases r2
        exact ⟨F, μ, S1, _, xs, Rs, r1, ew, q⟩
  refine thn (he.run pins s σ H _ I h') fun v s1 ⟨x, H1, I1, rx, F, μ, S1, d, xs, Rs, r1, ew, q⟩ => ?_
  unfold walk at ew
  simp only at ew
  have one : ∀ {a : Addr}, x = .ref a → (∃ ys, lstItems S1 d = some ys ∧ xs = ys) → wpAny (model X.prog X.w) X.A (pyIter v) (PIE X pins σ tg R) X.xe s1 := fun {a} ex ⟨ys, el, exs⟩ => by
    subst ex exs
    obtain rfl : v = Value.ref a := rx
    obtain ⟨_, vs, e1, sq, rr⟩ := Rs.lstItems el r1
    cases e1
    have sq' : SqL X.K H1 a vs := .inl sq
    obtain ⟨its, rv, p, hz⟩ := I1.list sq'
    refine wpAny_pyIter_list p.isList ?_
    exact pi_one (tk := s1.toks) I1 _ (turn_list a _) ⟨_, Heap.get?_push_size _ rfl, rfl, rfl⟩ (q _ fun _ _ _ R0 rr => it_list R0 rr.one el)
  split at ew
  · rename_i t
    cases ew
    cases r1 with
    | str _ ht =>
      obtain ⟨tk, rfl⟩ := (show ∃ tk, v = Value.str (tS t) tk from rx)
      have q' := q _ fun _ _ _ _ _ => it_str
      cases ha : (tS t).cps.all (· < 128)
      · exact wpAny_pyIter_wide ha (pi_one (tk := s1.toks) I1 _ (turn_str _ (tS t) tk "str_iterator" (.inr rfl)) ⟨_, Heap.get?_push_size _ rfl, rfl, rfl⟩ q')
      · exact wpAny_pyIter_ascii ha (pi_one (tk := s1.toks) I1 _ (turn_str _ (tS t) tk "str_ascii_iterator" (.inl rfl)) ⟨_, Heap.get?_push_size _ rfl, rfl, rfl⟩ q')
  · cases d with
    | tup ys =>
      cases ew
      obtain ⟨a, vs, rfl, sq, rr⟩ := r1.tupS
      obtain rfl : v = Value.ref a := rx
      have sq' : SqT X.K H1 a vs := by rw [G.hK]; exact sq
      obtain ⟨its, rv, p, hz⟩ := I1.tuple sq'
      refine wpAny_pyIter_tuple (show s1.heap.IsTuple a its.toArray from p) ?_
      have q' := q _ fun _ _ _ R0 rr => it_tup R0 rr.one
      rw [← G.hK] at q'
      exact pi_one (tk := s1.toks) I1 _ (turn_tuple a _) ⟨_, Heap.get?_push_size _ rfl, rfl, rfl⟩ q'
    | lst ys =>
      obtain ⟨a, vs, e1, sq, rr⟩ := Rs.lstItems (d := .lst ys) rfl r1
      exact one e1 ⟨ys, rfl, by cases ew; rfl⟩
    | loc n =>
      have ew' : lstItems S1 (.loc n) = some xs := ew
      obtain ⟨a, vs, e1, sq, rr⟩ := Rs.lstItems ew' r1
      exact one e1 ⟨xs, ew', rfl⟩
    | _ => cases ew
theorem i_rng1 (G : Gb W C sh k X) {tg a : Expr} {aI : E} {p pos : Pos} (hg : Gl X "range") (ns : isSt a = false) (ha : PE X a (tE W wx C aI)) : PI X tg (.Call (.Name "range" p) [a] [] pos) (tI W wx C .rng [aI]) := by
  have hp := pi_range1 (tg := tg) (p := p) (pos := pos) hg (G.st.bl _ (by decide)) (pa_cons ha pa_nil (starEach_ns ns)) (starEach_ns ns)
  refine ⟨fun pins s σ H R I h => hp.run pins s σ H R I (tR_mono (l_cons h) fun v H1 h1 => ?_)⟩
  obtain ⟨F, μ, S1, ds, xs, Rs, rr, ew, q⟩ := l_nil h1
  cases rr with
  | cons r1 r2 =>
    cases r2
    unfold walk at ew
    cases r1 <;> simp only at ew <;> first | (cases ew; done) | skip
    rename_i n
    split at ew
    · rename_i hn
      cases ew
      unfold rngOk at hn
      rw [Bool.and_eq_true, decide_eq_true_iff, decide_eq_true_iff] at hn
      refine ⟨n, rfl, by omega, by omega, ?_⟩
      have := q _ fun _ _ _ _ _ => it_rng (a := 0) (b := n)
      simpa using this
    · cases ew
theorem i_rng2 (G : Gb W C sh k X) {tg a b : Expr} {aI bI : E} {p pos : Pos} (hg : Gl X "range") (ns : isSt a = false) (ns2 : isSt b = false) (ha : PE X a (tE W wx C aI)) (hb : PE X b (tE W wx C bI)) : PI X tg (.Call (.Name "range" p) [a, b] [] pos) (tI W wx C .rng [aI, bI]) := by
  have s2 : starEach [b] X.env = [(false, eval b X.env)] := starEach_ns ns2
  have s1 : starEach [a, b] X.env = [(false, eval a X.env), (false, eval b X.env)] := by rw [starEach_ns ns, s2]
  have hp := pi_range2 (tg := tg) (p := p) (pos := pos) hg (G.st.bl _ (by decide)) (pa_cons ha (pa_cons hb pa_nil s2) (starEach_ns ns)) s1 s2
  refine ⟨fun pins s σ H R I h => hp.run pins s σ H R I (tR_mono (l_cons h) fun v H1 h1 => tR_mono (l_cons h1) fun u H2 h2 => ?_)⟩
  obtain ⟨F, μ, S1, ds, xs, Rs, rr, ew, q⟩ := l_nil h2
  cases rr with
  | cons r1 r2 =>
    cases r2 with
    | cons r2 r3 =>
      cases r3
      cases r1 <;> first | (simp [walk] at ew; done) | skip
      cases r2 <;> first | (simp [walk] at ew; done) | skip
      rename_i n m
      unfold walk at ew
      simp only at ew
      split at ew
      · rename_i hn
        cases ew
        rw [Bool.and_eq_true] at hn
        unfold rngOk at hn
        rw [Bool.and_eq_true, decide_eq_true_iff, decide_eq_true_iff, Bool.and_eq_true, decide_eq_true_iff, decide_eq_true_iff] at hn
        exact ⟨n, m, rfl, ⟨by omega, by omega, by omega, by omega⟩, q _ fun _ _ _ _ _ => it_rng⟩
      · cases ew
theorem i_enum (G : Gb W C sh k X) {elts : List Expr} {kk : Nat} {tpos : Pos} {a : Expr} {aI : E} {p pos : Pos} (hg : Gl X "enumerate") (ns : isSt a = false) (ha : PE X a (tE W wx C aI)) : PI X (.Tuple elts kk tpos) (.Call (.Name "enumerate" p) [a] [] pos) (tI W wx C .enum [aI]) := by
  have hp := pi_enum (elts := elts) (kk := kk) (tpos := tpos) (p := p) (pos := pos) hg (G.st.bl _ (by decide)) (pa_cons ha pa_nil (starEach_ns ns)) (starEach_ns ns)
  refine ⟨fun pins s σ H R I h => hp.run pins s σ H R I (tR_mono (l_cons h) fun v H1 h1 => ?_)⟩
  obtain ⟨F, μ, S1, ds, xs, Rs, rr, ew, q⟩ := l_nil h1
  cases rr with
  | cons r1 r2 =>
    cases r2
    unfold walk at ew
    simp only at ew
    obtain ⟨ys, el, exs⟩ := Option.map_eq_some_iff.mp ew
    subst exs
    obtain ⟨a', vs, rfl, sq, rr⟩ := Rs.lstItems el r1
    exact ⟨a', vs, rfl, .inl sq, q _ fun _ _ _ R0 rr => it_enum R0 rr.one el⟩
theorem i_zip (G : Gb W C sh k X) {elts : List Expr} {kk : Nat} {tpos : Pos} {a b : Expr} {aI bI : E} {p pos : Pos} (hg : Gl X "zip") (ns : isSt a = false) (ns2 : isSt b = false) (ha : PE X a (tE W wx C aI)) (hb : PE X b (tE W wx C bI)) : PI X (.Tuple elts kk tpos) (.Call (.Name "zip" p) [a, b] [] pos) (tI W wx C .zip [aI, bI]) := by
  have s2 : starEach [b] X.env = (false, eval b X.env) :: starEach [] X.env := starEach_ns ns2
  have hp := RZ.pi_zipA (elts := elts) (kk := kk) (tpos := tpos) (p := p) (pos := pos) hg (G.st.bl _ (by decide)) (pa_cons ha (pa_cons hb pa_nil s2) (starEach_ns ns)) (starEach_ns ns) (by rw [s2]; rfl)
  refine ⟨fun pins s σ H R I h => hp.run pins s σ H R I (tR_mono (l_cons h) fun v H1 h1 => tR_mono (l_cons h1) fun u H2 h2 => ?_)⟩
  obtain ⟨F, μ, S1, ds, xs, Rs, rr, ew, q⟩ := l_nil h2
  cases rr with
  | cons r1 r2 =>
    cases r2 with
    | cons r2 r3 =>
      cases r3
      unfold walk at ew
      simp only at ew
      split at ew
      · rename_i ys zs el1 el2
        cases ew
        obtain ⟨a1, vs, rfl, sq, rr⟩ := Rs.lstItems el1 r1
        obtain ⟨a2, ws, rfl, sq2, rr2⟩ := Rs.lstItems el2 r2
        exact ⟨a1, a2, vs, ws, rfl, .inl ⟨.inl sq, .inl sq2, q _ fun _ _ _ R0 rr => it_zip R0 rr.two.1 rr.two.2 el1 el2⟩⟩
      · split at ew
        · cases ew
          obtain ⟨a1, vs, rfl, sq, rr⟩ := r1.tupS
          obtain ⟨a2, ws, rfl, sq2, rr2⟩ := r2.tupS
          have q' := q _ fun _ _ _ R0 rr => it_zipT R0 rr.two.1 rr.two.2
          rw [← G.hK] at q'
          exact ⟨a1, a2, vs, ws, rfl, .inr ⟨by rw [G.hK]; exact sq, by rw [G.hK]; exact sq2, q'⟩⟩
        · cases ew
end
end PM
set_option Elab.async false
set_option linter.all false
set_option autoImplicit false
set_option maxHeartbeats 4000000
/-! PMComp: targets, comprehensions. -/
namespace PM
open PySem PySem.Spec PyProof.Rows L2
/-! ### targets -/
def Tg.slots : Tg → List Nat
  | .nm i => [i]
  | .tp is => is
/-- what a target does -/
def gT (W : Wx) (t : Tg) : TG := fun v σ H Q => ∃ (ρ ρ' : Env) (S : St) (F : Addr → Prop) (μ : List Addr) (d : D), Ro W F μ H ρ σ ∧ Rl W.toWd F μ H S ∧ Rep W.toWd F μ H d v ∧ bindT S t d ρ = some ρ' ∧
  ∀ σ', Ro W F μ H ρ' σ' → (∀ i, i ∉ t.slots → σ'[i]? = σ[i]?) → σ'.length = σ.length → Q σ' H
section
variable {W : Wx} {F F' : Addr → Prop} {μ μ' : List Addr} {H H' : Hp}
theorem Ro.set {ρ : Env} {σ : L2.St} {d : D} {v : V} {i : Nat} (o : Ro W F μ H ρ σ) (r : Rep W.toWd F μ H d v) : Ro W F μ H (ρ.set i (some d)) (σ.set i (some v)) := by
  refine ⟨by rw [List.length_set, List.length_set]; exact o.len, fun j e h => ?_⟩
  by_cases hj : i = j
  · subst hj
    by_cases hl : i < ρ.length
    · rw [List.getElem?_set_self hl] at h
      cases h
      exact ⟨v, List.getElem?_set_self (by rw [← o.len]; exact hl), .inl r⟩
    · rw [List.getElem?_eq_none (by simpa using hl)] at h
      cases h
  · rw [List.getElem?_set_ne hj] at h
    obtain ⟨u, e1, r1⟩ := o.at_ j e h
    exact ⟨u, by rw [List.getElem?_set_ne hj]; exact e1, r1⟩
theorem Ro.unset {ρ : Env} {σ : L2.St} {i : Nat} (o : Ro W F μ H ρ σ) : Ro W F μ H (ρ.set i none) (σ.set i none) := by
  refine ⟨by rw [List.length_set, List.length_set]; exact o.len, fun j e h => ?_⟩
  by_cases hj : i = j
  · subst hj
    by_cases hl : i < ρ.length
    · rw [List.getElem?_set_self hl] at h
      cases h
    · rw [List.getElem?_eq_none (by simpa using hl)] at h
      cases h
  · rw [List.getElem?_set_ne hj] at h
    obtain ⟨u, e1, r1⟩ := o.at_ j e h
    exact ⟨u, by rw [List.getElem?_set_ne hj]; exact e1, r1⟩
theorem Ro.wipe {ρ : Env} {σ : L2.St} (o : Ro W F μ H ρ σ) : ∀ vs : List Nat, Ro W F μ H (PM.wipe ρ vs) (L2.wipe σ vs)
  | [] => o
  | i :: r => (Ro.wipe o r).unset
end
section
variable {W : Wx} {X : Cx}
theorem g_nm {i : Nat} {x : Str} {pos : Pos} (hN : X.N.Nodup) (hi : X.N[i]? = some x) (hx : Loc X.env.scope x) (hf : X.fn x = true ∨ X.env.scope.names.lookup x = some .local) : PG X (.Name x pos) (gT W (.nm i)) :=
  ⟨fun pins s σ H v u Q I r ⟨ρ, ρ', S, F, μ, d, o, Rs, rd, eb, q⟩ => (pg_name hN hi hx hf).run pins s σ H v u Q I r (by
    cases eb
    refine q _ (o.set rd) (fun j hj => ?_) (by rw [List.length_set])
    rw [List.getElem?_set_ne fun e => hj (by rw [← e]; exact List.mem_singleton.mpr rfl)])⟩
/-- names, one after another -/
def gNames : List Nat → TGs
  | [] => gNil
  | i :: r => gCons (gName i) (gNames r)
inductive Nms (X : Cx) : List Expr → List Nat → Prop
  | nil : Nms X [] []
  | cons {x : Str} {pos : Pos} {i : Nat} {es : List Expr} {is : List Nat} : X.N[i]? = some x → Loc X.env.scope x → (X.fn x = true ∨ X.env.scope.names.lookup x = some .local) → Nms X es is → Nms X (.Name x pos :: es) (i :: is)
theorem pgs_names (hN : X.N.Nodup) {es : List Expr} {is : List Nat} (h : Nms X es is) : PGs X es (gNames is) := by
  induction h with
  | nil => exact pgs_nil
  | cons h1 h2 h3 _ ih => exact pgs_cons (pg_name hN h1 h2 h3) ih
theorem Nms.len {es : List Expr} {is : List Nat} (h : Nms X es is) : (assignEach es X.env).length = is.length ∧ (assignEach es X.env).findIdx? (·.1) = none := by
  induction h with
  | nil => exact ⟨rfl, rfl⟩
  | cons _ _ _ _ ih =>
    refine ⟨congrArg Nat.succ ih.1, ?_⟩
    show List.findIdx? _ ((false, _) :: assignEach _ _) = none
    rw [List.findIdx?_cons]
    rw [ih.2]
    rfl
theorem gNames_ok {F : Addr → Prop} {μ : List Addr} {H : Hp} : ∀ {is : List Nat} {xs : List D} {vs : List V} {ρ : Env} {σ : L2.St} {Q : L2.St → Hp → Prop}, RepL W.toWd F μ H xs vs → xs.length = is.length → Ro W F μ H ρ σ →
    (∀ σ', Ro W F μ H ((is.zip xs).foldl (fun r p => r.set p.1 (some p.2)) ρ) σ' → (∀ i, i ∉ is → σ'[i]? = σ[i]?) → σ'.length = σ.length → Q σ' H) → gNames is vs σ H Q
  | [], xs, vs, ρ, σ, Q, r, hl, o, q => by
    cases xs with
    | nil =>
      cases r
      exact ⟨rfl, q σ o (fun _ _ => rfl) rfl⟩
    | cons _ _ => cases hl
  | i :: is, xs, vs, ρ, σ, Q, r, hl, o, q => by
    cases xs with
    | nil => cases hl
    | cons x xs =>
      cases r with
      | @cons _ v _ vs r1 r2 =>
        refine ⟨v, vs, rfl, ?_⟩
        show gNames is vs (σ.set i (some v)) H Q
        refine gNames_ok r2 (by simpa using hl) (o.set (i := i) r1) fun σ' o' h1 h2 => q σ' o' (fun j hj => ?_) (by rw [h2, List.length_set])
        rw [List.mem_cons, not_or] at hj
        rw [h1 j hj.2, List.getElem?_set_ne fun e => hj.1 e.symm]
theorem g_tp {es : List Expr} {is : List Nat} {kk : Nat} {pos : Pos} (hc : X.calm = true) (hK : X.K = W.K) (hN : X.N.Nodup) (h : Nms X es is) : PG X (.Tuple es kk pos) (gT W (.tp is)) :=
  ⟨fun pins s σ H v u Q I r ⟨ρ, ρ', S, F, μ, d, o, Rs, rd, eb, q⟩ => (pg_tup hc (pgs_names hN h) h.len.1 h.len.2).run pins s σ H v u Q I r (by
    unfold bindT at eb
    simp only at eb
    split at eb
    · rename_i xs
      split at eb
      · rename_i hl
        cases eb
        obtain ⟨a, vs, rfl, sq, rr⟩ := rd.tupS
        exact ⟨a, vs, rfl, by rw [hK]; exact sq, by rw [← rr.length]; exact hl, gNames_ok rr hl o fun σ' o' h1 h2 => q σ' o' h1 h2⟩
      · cases eb
    · cases eb)⟩
end
end PM
set_option Elab.async false
set_option linter.all false
set_option autoImplicit false
set_option maxHeartbeats 4000000
/-! PMComp2: list comprehensions. -/
namespace PM
open PySem PySem.Spec PyProof.Rows L2
section
variable {W : Wx}
/-- a list at D (no place) takes the items in -/
structure AccI (W : Wx) (D : Addr) (Fb : Addr → Prop) (μb : List Addr) (Hb : Hp) (F : Addr → Prop) (μ : List Addr) (H : Hp) (S : St) (acc : List PM.D) : Prop where
  ext : Ext Fb μb Hb F μ H
  rl : Rl W.toWd F μ H S
  nF : ¬ F D
  nM : D ∉ μ
  at_ : ∃ vs, H D = some (.lst vs) ∧ RepL W.toWd F μ H acc vs
variable {D : Addr} {Fb F F' : Addr → Prop} {μb μ μ' : List Addr} {Hb H H' : Hp} {S S' : St} {acc : List PM.D}
theorem Rl.sideW {W : Wd} (R : Rl W F μ H S) {p : Addr} {o : HO} (hF : ¬ F p) (hμ : p ∉ μ) : Rl W F μ (upd H p o) S := by
  have hs : ∀ a u, F a → H a = some u → upd H p o a = some u := fun a u f q => by rw [upd_ne (neF hF f)]; exact q
  refine ⟨R.len, R.nd, fun a h => ?_, R.off, fun i a c h1 h2 => ?_⟩
  · rw [upd_ne (neF hF h)]; exact R.fz a h
  · exact (R.cell i a c h1 h2).mv (fun a h => h) (List.prefix_refl _) hs fun u q => by rw [upd_ne (neM hμ (List.mem_of_getElem? h1))]; exact q
theorem Ext.sideW {p : Addr} {o : HO} (E : Ext Fb μb Hb F μ H) (hp : Hb p = none) : Ext Fb μb Hb F μ (upd H p o) where
  sub := E.sub
  new := E.new
  pre := E.pre
  newM := E.newM
  stay := fun a u h n => by rw [upd_ne (ne_of_none h hp)]; exact E.stay a u h n
  there := fun a h => by
    by_cases e : a = p
    · rw [e, upd_same]; simp
    · rw [upd_ne e]; exact E.there a h
  frzs := fun a o u h => by rw [upd_ne (ne_of_none h hp)]; exact E.frzs a o u h
theorem AccI.push {y : PM.D} {v : V} {vs : List V} (h : AccI W D Fb μb Hb F μ H S acc) (hD : Hb D = none) (e : H D = some (.lst vs)) (r : Rep W.toWd F μ H y v) : AccI W D Fb μb Hb F μ (upd H D (.lst (vs ++ [v]))) S (acc ++ [y]) := by
  obtain ⟨vs', e', rr⟩ := h.at_
  rw [e] at e'
  cases e'
  have hs : ∀ a u, F a → H a = some u → upd H D (.lst (vs ++ [v])) a = some u := fun a u f q => by rw [upd_ne (neF h.nF f)]; exact q
  exact ⟨h.ext.sideW hD, h.rl.sideW h.nF h.nM, h.nF, h.nM, vs ++ [v], upd_same, (rr.append (.cons r .nil)).mv (fun a h => h) (List.prefix_refl _) hs⟩
theorem AccI.step (h : AccI W D Fb μb Hb F μ H S acc) (E : Ext F μ H F' μ' H') (R : Rl W.toWd F' μ' H' S') : AccI W D Fb μb Hb F' μ' H' S' acc := by
  obtain ⟨vs, e, rr⟩ := h.at_
  refine ⟨h.ext.trans E, R, fun hf => ?_, fun hm => ?_, vs, E.stay D _ e h.nM, h.rl.extL E rr⟩
  · rcases E.new D hf with z | z
    · exact h.nF z
    · rw [e] at z; cases z
  · rcases E.newM D hm with z | z
    · exact h.nM z
    · rw [e] at z; cases z
theorem loopR_cons {ok : St → Bool} {step : PM.D → St → R (List PM.D)} {x : PM.D} {r : List PM.D} {S S5 : St} {ys : List PM.D} (h : loopR ok step (x :: r) S = .ok ys S5) : ok S = true ∧ ∃ y1 S1 y2, step x S = .ok y1 S1 ∧ loopR ok step r S1 = .ok y2 S5 ∧ ys = y1 ++ y2 := by
  unfold loopR at h
  split at h
  · rename_i ho
    refine ⟨ho, ?_⟩
    cases e : step x S with
    | bad => rw [e] at h; cases h
    | ex _ _ _ => rw [e] at h; cases h
    | ok y1 S1 =>
      rw [e] at h
      replace h : ((loopR ok step r S1).bind fun zs S2 => R.ok (y1 ++ zs) S2) = .ok ys S5 := h
      cases e2 : loopR ok step r S1 with
      | bad => rw [e2] at h; cases h
      | ex _ _ _ => rw [e2] at h; cases h
      | ok y2 S2 =>
        rw [e2] at h
        cases h
        exact ⟨y1, S1, y2, rfl, e2, rfl⟩
  · cases h
theorem loopR_nil {ok : St → Bool} {step : PM.D → St → R (List PM.D)} {S S5 : St} {ys : List PM.D} (h : loopR ok step [] S = .ok ys S5) : ok S = true ∧ ys = [] ∧ S = S5 := by
  unfold loopR at h
  split at h
  · rename_i ho
    cases h
    exact ⟨ho, rfl, rfl⟩
  · cases h
/-- the turns of a comprehension's clause -/
theorem lc_loop {J : It} {S1 S5 : St} {ds xs total : List PM.D} {step : PM.D → St → R (List PM.D)} (hJ : ItOk W J S1 ds xs Fb μb Hb) {turn : V → Hp → (Hp → Prop) → Prop} {Qd : Hp → Prop}
    (hs : ∀ {x : PM.D} {v : V} {F : Addr → Prop} {μ : List Addr} {H : Hp} {S S' : St} {acc ys zs : List PM.D} {Nx : Hp → Prop}, AccI W D Fb μb Hb F μ H S acc → Rep W.toWd F μ H x v → step x S = .ok ys S' → acc ++ ys ++ zs = total →
      (∀ F' μ' H', AccI W D Fb μb Hb F' μ' H' S' (acc ++ ys) → Nx H') → turn v H Nx)
    {acc0 ys0 : List PM.D} {S0 : St} (h0 : AccI W D Fb μb Hb F μ H S0 acc0) (e0 : loopR (fun S' => ds.all (sameAt S1 S')) step xs S0 = .ok ys0 S5) (et : acc0 ++ ys0 = total)
    (fin : ∀ F μ H, AccI W D Fb μb Hb F μ H S5 total → Qd H) :
    ∃ Wn : Nat → Nat → Hp → Prop, (∃ m, Wn 0 m H) ∧ ∀ i m H, Wn i m H → (J.stop i H ∧ Qd H) ∨ (J.go i H ∧ ∃ Nx : Hp → Prop, (∀ H', Nx H' → ∃ m', m' < m ∧ Wn (i + 1) m' H') ∧ ∀ x H', J.yld i H x H' → turn x H' Nx) := by
  refine ⟨fun i m H => m = xs.length - i ∧ i ≤ xs.length ∧ ∃ (F : Addr → Prop) (μ : List Addr) (S : St) (acc ys : List PM.D), AccI W D Fb μb Hb F μ H S acc ∧ loopR (fun S' => ds.all (sameAt S1 S')) step (xs.drop i) S = .ok ys S5 ∧ acc ++ ys = total, ⟨xs.length, rfl, Nat.zero_le _, F, μ, S0, acc0, ys0, h0, by rw [List.drop_zero]; exact e0, et⟩, ?_⟩
  rintro i m H ⟨rfl, hi, F, μ, S, acc, ys, hA, el, et⟩
  by_cases hlt : i < xs.length
  · right
    have hx : xs[i]? = some xs[i] := List.getElem?_eq_getElem hlt
    rw [List.drop_eq_getElem_cons hlt] at el
    obtain ⟨ho, y1, S', y2, e1, e2, rfl⟩ := loopR_cons el
    obtain ⟨go, yl⟩ := hJ.go hA.ext hA.rl ho hx
    refine ⟨go, fun H' => ∃ (F' : Addr → Prop) (μ' : List Addr), AccI W D Fb μb Hb F' μ' H' S' (acc ++ y1), fun H' ⟨F', μ', hA'⟩ => ⟨xs.length - (i + 1), by omega, rfl, hlt, F', μ', S', acc ++ y1, y2, hA', e2, by rw [List.append_assoc]; exact et⟩, fun v H' hy => ?_⟩
    obtain ⟨F2, E2, R2, r2⟩ := yl v H' hy
    exact hs (hA.step E2 R2) r2 e1 (by rw [List.append_assoc]; exact et) fun F' μ' H' hA' => ⟨F', μ', hA'⟩
  · left
    have hi' : i = xs.length := by omega
    subst hi'
    rw [List.drop_length] at el
    obtain ⟨ho, rfl, rfl⟩ := loopR_nil el
    rw [List.append_nil] at et
    subst et
    exact ⟨hJ.stop hA.ext hA.rl ho, fin F μ H hA⟩
theorem upd_self {o : HO} (h : H D = some o) : upd H D o = H := by
  funext a
  by_cases e : a = D
  · rw [e, upd_same, h]
  · rw [upd_ne e]
/-- the list is taken in at the end -/
theorem AccI.fin {wx : WX} {σ : L2.St} {m : Bool} {Q : VK} (h : AccI W D Fb μb Hb F μ H S acc) (hb : ∀ a ∈ μb, Hb a ≠ none) (hD : Hb D = none) (q : EndR W wx Fb μb Hb σ (relD W) (R.o (mkL m acc S)) Q) : Q (.ref D) H := by
  obtain ⟨vs, e, rr⟩ := h.at_
  have pn : D ∉ μb := fun hm => hb D hm hD
  have eu : upd H D (.lst vs) = H := upd_self e
  have E : ∀ (F2 : Addr → Prop) (μ2 : List Addr), (∀ a, F2 a → F a ∨ a = D) → (∀ a, F a → F2 a) → μ <+: μ2 → (∀ a ∈ μ2, a ∈ μ ∨ a = D) → Ext Fb μb Hb F2 μ2 H := fun F2 μ2 h1 h2 h3 h4 =>
    ⟨fun a z => h2 a (h.ext.sub a z), fun a z => (h1 a z).elim (h.ext.new a) fun e => .inr (by rw [e]; exact hD), h.ext.pre.trans h3, fun a z => (h4 a z).elim (h.ext.newM a) fun e => .inr (by rw [e]; exact hD), h.ext.stay, h.ext.there, h.ext.frzs⟩
  cases m with
  | false =>
    have R2 := h.rl.takeF (o := HO.lst vs) h.nF h.nM
    rw [eu] at R2
    refine q (fun a => F a ∨ a = D) μ H _ (E _ _ (fun a z => z) (fun a z => .inl z) (List.prefix_refl _) fun a z => .inl z) R2 (.lst (.inr rfl) (.inl e) (rr.mv (fun a z => .inl z) (List.prefix_refl _) fun a u f z => z))
  | true =>
    have rr2 : RepL W.toWd F (μ ++ [D]) H acc vs := rr.mv (fun a z => z) (List.prefix_append _ _) fun a u f z => z
    have R2 := h.rl.takeM (o := HO.lst vs) (c := Cell.lst acc) h.nF h.nM (by rw [eu]; exact .lst e rr2)
    rw [eu] at R2
    exact q F (μ ++ [D]) H _ (E _ _ (fun a z => .inl z) (fun a z => z) (List.prefix_append _ _) fun a z => (List.mem_append.mp z).imp id List.mem_singleton.mp) R2 (.loc (by rw [← h.rl.len, List.getElem?_append_right (Nat.le_refl _), Nat.sub_self]; rfl))
end
/-! ### tests of a clause -/
abbrev tTs (W : Wx) (wx : WX) (C : Ctx) (es : List E) : TT := tR W wx relE (evTs C es)
section
variable {W : Wx} {wx : WX} {C : Ctx} {sh : Shp} {k : Nat} {X : Cx}
theorem ts_nil : PTs X [] (tTs W wx C []) := ⟨fun pins s σ H Q I h => pts_nil.run pins s σ H Q I (by
  obtain ⟨ρ, S, F, μ, o, Rs, h⟩ := h
  unfold evTs at h
  exact EndR.here (rel := relE) h Rs rfl)⟩
theorem evTs_one {C : Ctx} {i : E} {ρ : Env} {S : St} : evTs C [i] ρ S = (evE C i ρ S).tru := by
  rw [evTs]
  cases e : (evE C i ρ S).tru with
  | bad => rfl
  | ex _ _ _ => rfl
  | ok t S1 =>
    show (if t = true then evTs C [] ρ S1 else .ok false S1) = _
    cases t with
    | true => rw [if_pos rfl, evTs]
    | false => rw [if_neg Bool.false_ne_true]
theorem ts_one {e : Expr} {i : E} (he : PT X e (tT W wx C i)) : PTs X [e] (tTs W wx C [i]) := ⟨fun pins s σ H Q I h => (pts_one he).run pins s σ H Q I (by
  obtain ⟨ρ, S, F, μ, o, Rs, h⟩ := h
  rw [evTs_one] at h
  exact ⟨ρ, S, F, μ, o, Rs, h⟩)⟩
theorem wipe_eq {σ σ' : L2.St} {vs : List Nat} (hl : σ'.length = σ.length) (h : ∀ i, i ∉ vs → σ'[i]? = σ[i]?) : L2.wipe σ' vs = L2.wipe σ vs := by
  have key : ∀ (vs : List Nat) (σ : L2.St) (i : Nat), (L2.wipe σ vs)[i]? = if i ∈ vs ∧ i < σ.length then some none else σ[i]? := by
    intro vs
    induction vs with
    | nil => intro σ i; simp [L2.wipe]
    | cons v r ih =>
      intro σ i
      unfold L2.wipe
      by_cases e : v = i
      · subst e
        by_cases hv : v < σ.length
        · rw [List.getElem?_set_self (by rw [L2.wipe_length]; exact hv), if_pos ⟨List.mem_cons_self .., hv⟩]
        · rw [List.getElem?_eq_none (by rw [List.length_set, L2.wipe_length]; omega), if_neg (fun z => hv z.2), List.getElem?_eq_none (by omega)]
      · rw [List.getElem?_set_ne e, ih]
        by_cases hm : i ∈ r ∧ i < σ.length
        · rw [if_pos hm, if_pos ⟨List.mem_cons_of_mem _ hm.1, hm.2⟩]
        · rw [if_neg hm, if_neg fun z => hm ⟨(List.mem_cons.mp z.1).resolve_left fun q => e q.symm, z.2⟩]
  apply List.ext_getElem?
  intro i
  rw [key, key, hl]
  by_cases hm : i ∈ vs
  · by_cases hi : i < σ.length
    · rw [if_pos ⟨hm, hi⟩, if_pos ⟨hm, hi⟩]
    · rw [if_neg fun z => hi z.2, if_neg fun z => hi z.2, List.getElem?_eq_none (by omega), List.getElem?_eq_none (by omega)]
  · rw [if_neg fun z => hm z.1, if_neg fun z => hm z.1]
    exact h i hm
theorem wipe_wipe {σ : L2.St} {vs : List Nat} : L2.wipe (L2.wipe σ vs) vs = L2.wipe σ vs := wipe_eq (L2.wipe_length _ _) fun i hi => by
  have key : ∀ vs : List Nat, i ∉ vs → (L2.wipe σ vs)[i]? = σ[i]? := fun vs hi => by
    induction vs with
    | nil => rfl
    | cons v r ih =>
      unfold L2.wipe
      rw [List.mem_cons, not_or] at hi
      rw [List.getElem?_set_ne fun e => hi.1 e.symm]
      exact ih hi.2
  exact key vs hi
theorem noexR {ok : St → Bool} {step : D → St → R (List D)} {c : String} {v : D} {S5 : St} : ∀ (xs : List D) (S : St), loopR ok step xs S ≠ .ex c v S5
  | [], S, h => by unfold loopR at h; split at h <;> cases h
  | x :: r, S, h => by
    unfold loopR at h
    split at h
    · cases e : step x S with
      | bad => rw [e] at h; cases h
      | ex _ _ _ => rw [e] at h; cases h
      | ok y1 S1 =>
        rw [e] at h
        replace h : ((loopR ok step r S1).bind fun zs S2 => R.ok (y1 ++ zs) S2) = .ex c v S5 := h
        cases e2 : loopR ok step r S1 with
        | bad => rw [e2] at h; cases h
        | ex _ _ _ => exact noexR r S1 (by rw [e2] at h; cases h; exact e2)
        | ok y2 S2 => rw [e2] at h; cases h
    · cases h
/-- one turn's own part: target, tests, then the element -/
def stepC (C : Ctx) (own : List Nat) (t : Tg) (ifs : List E) (ρ : Env) (k : Env → St → R (List D)) (x : D) (S2 : St) : R (List D) := match bindT S2 t x (PM.wipe ρ own) with
  | some ρ1 => (evTs C ifs ρ1 S2).bind fun b S3 => if b then k ρ1 S3 else .ok [] S3
  | none => .bad
/-- the turns of [elt for t in .. if ..], where xs are what J hands out -/
theorem comp_core {C : Ctx} {ownI : List Nat} {t : Tg} {ifsI : List E} {eltI : E} (hsl : ∀ i ∈ t.slots, i ∈ ownI) {σ : L2.St} {ρ : Env} {F1 : Addr → Prop} {μ1 : List Addr} {H1 : Hp} {S1 S5 : St} {ds xs ys : List PM.D} {J : It} {Dd : Addr} {Qd : Hp → Prop}
    (o1 : Ro W F1 μ1 H1 ρ σ) (R1 : Rl W.toWd F1 μ1 H1 S1) (hJ : ItOk W J S1 ds xs F1 μ1 H1) (hD : H1 Dd = none)
    (el : loopR (fun S' => ds.all (sameAt S1 S')) (stepC C ownI t ifsI ρ fun ρ1 S3 => (evE C eltI ρ1 S3).bind fun y S4 => .ok [y] S4) xs S1 = .ok ys S5) (hlen : ys.length ≤ sizeMax)
    (fin : ∀ F μ H, AccI W Dd F1 μ1 H1 F μ H S5 ys → Qd H) :
    ∃ Wn : Nat → Nat → Hp → Prop, (∃ m, Wn 0 m (upd H1 Dd (.lst []))) ∧ ∀ i m H, Wn i m H → (J.stop i H ∧ Qd H) ∨ (J.go i H ∧ ∃ Nx : Hp → Prop, (∀ H', Nx H' → ∃ m', m' < m ∧ Wn (i + 1) m' H') ∧
      ∀ x H', J.yld i H x H' → gT W t x (L2.wipe σ ownI) H' fun σ2 H2 => L2.wipe σ2 ownI = L2.wipe σ ownI ∧ tTs W (fun _ _ _ _ => False) C ifsI σ2 H2 fun b H3 =>
        if b = true then tE W (fun _ _ _ _ => False) C eltI σ2 H3 fun y H4 => ∃ acc, H4 Dd = some (.lst acc) ∧ acc.length < sizeLine ∧ Nx (upd H4 Dd (.lst (acc ++ [y]))) else Nx H3) := by
  refine lc_loop (D := Dd) (total := ys) hJ (turn := fun x H' Nx => gT W t x (L2.wipe σ ownI) H' fun σ2 H2 => L2.wipe σ2 ownI = L2.wipe σ ownI ∧ tTs W (fun _ _ _ _ => False) C ifsI σ2 H2 fun b H3 =>
    if b = true then tE W (fun _ _ _ _ => False) C eltI σ2 H3 fun y H4 => ∃ acc, H4 Dd = some (.lst acc) ∧ acc.length < sizeLine ∧ Nx (upd H4 Dd (.lst (acc ++ [y]))) else Nx H3) (fun {x v F μ H S S' acc ys' zs Nx} hA rx es et hN => ?_)
    (acc0 := []) ⟨Ext.side R1 hD, R1.side hD, fun z => R1.fz Dd z hD, fun z => R1.some_ Dd z hD, [], upd_same, .nil⟩ el rfl fin
  unfold stepC at es
  cases eb : bindT S t x (PM.wipe ρ ownI) with
  | none => rw [eb] at es; cases es
  | some ρ1 =>
    rw [eb] at es
    simp only at es
    have o2 := (o1.ext R1 hA.ext).wipe ownI
    refine ⟨PM.wipe ρ ownI, ρ1, S, F, μ, x, o2, hA.rl, rx, eb, fun σ2 o3 hsame hl => ⟨?_, ?_⟩⟩
    · exact (wipe_eq (σ := L2.wipe σ ownI) hl fun i hi => hsame i fun z => hi (hsl i z)).trans wipe_wipe
    · refine ⟨ρ1, S, F, μ, o3, hA.rl, ?_⟩
      cases ek : evTs C ifsI ρ1 S with
      | bad => rw [ek] at es; cases es
      | ex _ _ _ => rw [ek] at es; cases es
      | ok b S3 =>
        rw [ek] at es
        replace es : (if b = true then (evE C eltI ρ1 S3).bind fun y S4 => R.ok [y] S4 else .ok [] S3) = .ok ys' S' := es
        intro F3 μ3 H3 b' E3 R3 rb
        cases rb
        have hA3 := hA.step E3 R3
        cases b with
        | false =>
          rw [if_neg Bool.false_ne_true] at es
          cases es
          rw [if_neg Bool.false_ne_true]
          exact hN F3 μ3 H3 (by rw [List.append_nil]; exact hA3)
        | true =>
          rw [if_pos rfl] at es
          rw [if_pos rfl]
          cases ee : evE C eltI ρ1 S3 with
          | bad => rw [ee] at es; cases es
          | ex _ _ _ => rw [ee] at es; cases es
          | ok y S4 =>
            rw [ee] at es
            cases es
            refine ⟨ρ1, S3, F3, μ3, o3.ext hA.rl E3, R3, ?_⟩
            rw [ee]
            intro F4 μ4 H4 w E4 R4 rw4
            have hA4 := hA3.step E4 R4
            obtain ⟨vs4, e4, rr4⟩ := hA4.at_
            refine ⟨vs4, e4, ?_, hN F4 μ4 _ (hA4.push hD e4 rw4)⟩
            have z1 := rr4.length
            have z2 := congrArg List.length et
            rw [List.length_append, List.length_append] at z2
            have z3 : ([y] : List D).length = 1 := rfl
            have z4 : sizeMax < sizeLine := by decide
            omega
theorem lkS_of {ik : IK} {ds : List D} {S : St} (h : ik.isD = false) : lkS ik ds S = S := by unfold lkS; rw [h]; rfl
theorem ulS_of {ik : IK} {ds : List D} {S S' : St} (h : ik.isD = false) : ulS ik ds S S' = S' := by unfold ulS; rw [h]; rfl
theorem FlUl_of {ik : IK} {ds : List D} {S : St} {f : Fl} (h : ik.isD = false) : Fl.ul ik ds S f = f := by unfold Fl.ul; rw [h]; rfl
theorem comp_lc {m : Bool} {ownI : List Nat} {t : Tg} {ik : IK} {ie ifsI : List E} {eltI : E} (hk : ik.isD = false) (hsl : ∀ i ∈ t.slots, i ∈ ownI) {σ : L2.St} {H : Hp} {Q : VK} (h : tE W wx C (.comp m ownI t ik ie ifsI eltI) σ H Q) :
    tLc (tI W wx C ik ie) (gT W t) (tTs W (fun _ _ _ _ => False) C ifsI) (tE W (fun _ _ _ _ => False) C eltI) ownI σ H Q := by
  obtain ⟨ρ, S, F, μ, o, Rs, h⟩ := h
  unfold evE at h
  simp only [lkS_of hk, ulS_of hk] at h
  refine ⟨ρ, S, F, μ, o, Rs, (EndR.bind (rel := relL W) h).mono fun vs H1 ⟨F1, μ1, ds, S1, x1, R1, r1, q⟩ => ?_⟩
  cases ew : walk S1 ik ds with
  | none => rw [ew] at q; exact q.elim
  | some xs =>
    rw [ew] at q
    replace q : EndR W wx F1 μ1 H1 σ (relD W) ((loopR (fun S' => ds.all (sameAt S1 S')) (stepC C ownI t ifsI ρ fun ρ1 S3 => (evE C eltI ρ1 S3).bind fun y S4 => .ok [y] S4) xs S1).bind fun ys S5 => if ys.length ≤ sizeMax then R.o (mkL m ys S5) else .bad) Q := q
    refine ⟨F1, μ1, S1, ds, xs, R1, r1, ew, fun J hJ Dd hD => ?_⟩
    cases el : loopR (fun S' => ds.all (sameAt S1 S')) (stepC C ownI t ifsI ρ fun ρ1 S3 => (evE C eltI ρ1 S3).bind fun y S4 => .ok [y] S4) xs S1 with
    | bad => rw [el] at q; exact q.elim
    | ex c v S5 =>
      exfalso
      exact noexR _ _ el
    | ok ys S5 =>
      rw [el] at q
      replace q : EndR W wx F1 μ1 H1 σ (relD W) (if ys.length ≤ sizeMax then R.o (mkL m ys S5) else .bad) Q := q
      split at q
      case isFalse => exact q.elim
      case isTrue hlen =>
      have o1 := o.ext Rs x1
      exact comp_core hsl o1 R1 (hJ F1 μ1 H1 R1 r1) hD el hlen fun F μ H hA => hA.fin R1.some_ hD q
/-- [elt for t in ie if ..] -/
theorem e_comp (G : Gd W C sh k X) {m : Bool} {elt tg iter : Expr} {ifs : List Expr} {scope : Scope} {own : List (Str × Nat)} {ownI : List Nat} {t : Tg} {ik : IK} {ie ifsI : List E} {eltI : E} {pos : Pos} (hk : ik.isD = false) (hown : own.map (·.2) = ownI) (hsl : ∀ i ∈ t.slots, i ∈ ownI)
    (hi : PI X tg iter (tI W wx C ik ie)) (ok : BlkOk X.N X.env.scope scope own)
    (hg : ∀ (s : Shared) (H : Hp) (c : Addr) (cl : List (Str × Addr)) (fp : List Addr), PG (X.blk s H scope (compEnvC scope cl c X.env) fp) tg (gT W t))
    (ht : ∀ (s : Shared) (H : Hp) (c : Addr) (cl : List (Str × Addr)) (fp : List Addr), PTs (X.blk s H scope (compEnvC scope cl c X.env) fp) ifs (tTs W (fun _ _ _ _ => False) C ifsI))
    (he : ∀ (s : Shared) (H : Hp) (c : Addr) (cl : List (Str × Addr)) (fp : List Addr), PE (X.blk s H scope (compEnvC scope cl c X.env) fp) elt (tE W (fun _ _ _ _ => False) C eltI))
    (hf : ∀ x, foldedSetIterable iter X.env x = pure x) : PE X (.ListComp elt [⟨tg, iter, ifs, 0⟩] scope pos) (tE W wx C (.comp m ownI t ik ie ifsI eltI)) :=
  PE_imp (pe_lc G.calm G.nd hi ok hg ht he hf) fun σ H Q h => by
    rw [hown]
    exact comp_lc hk hsl h
end
end PM
set_option Elab.async false
set_option linter.all false
set_option autoImplicit false
set_option maxHeartbeats 4000000
/-! PMComp3: comprehensions with two clauses. -/
namespace PM
open PySem PySem.Spec PyProof.Rows L2
def erase (D : Addr) (H : Hp) : Hp := fun a => if a = D then none else H a
theorem erase_ne {D a : Addr} {H : Hp} (h : a ≠ D) : erase D H a = H a := by unfold erase; rw [if_neg h]
theorem erase_same {D : Addr} {H : Hp} : erase D H D = none := by unfold erase; rw [if_pos rfl]
section
variable {W : Wx} {D : Addr} {Fb F F' : Addr → Prop} {μb μ μ' : List Addr} {Hb H H' : Hp} {S S' : St} {acc : List PM.D}
theorem Ext.erase (E : Ext Fb μb Hb F μ H) (hD : Hb D = none) : Ext Fb μb Hb F μ (erase D H) where
  sub := E.sub
  new := E.new
  pre := E.pre
  newM := E.newM
  stay := fun a o h n => by rw [erase_ne (ne_of_none h hD)]; exact E.stay a o h n
  there := fun a h => by
    have e : a ≠ D := fun e => h (by rw [e]; exact hD)
    rw [erase_ne e]
    exact E.there a h
  frzs := fun a o u h => by rw [erase_ne (ne_of_none h hD)]; exact E.frzs a o u h
theorem Rl.erase {W : Wd} (R : Rl W F μ H S) (hF : ¬ F D) (hμ : D ∉ μ) : Rl W F μ (erase D H) S := by
  have hs : ∀ a u, F a → H a = some u → PM.erase D H a = some u := fun a u f q => by rw [erase_ne (neF hF f)]; exact q
  refine ⟨R.len, R.nd, fun a h => ?_, R.off, fun i a c h1 h2 => ?_⟩
  · rw [erase_ne (neF hF h)]; exact R.fz a h
  · exact (R.cell i a c h1 h2).mv (fun a h => h) (List.prefix_refl _) hs fun u q => by rw [erase_ne (neM hμ (List.mem_of_getElem? h1))]; exact q
theorem Ext.unerase (hD : ¬ F D) (hμ : D ∉ μ) : Ext F μ (PM.erase D H) F μ H where
  sub := fun a h => h
  new := fun a h => .inl h
  pre := List.prefix_refl _
  newM := fun a h => .inl h
  stay := fun a o h n => by
    by_cases e : a = D
    · rw [e, erase_same] at h; cases h
    · rw [erase_ne e] at h; exact h
  there := fun a h => by
    by_cases e : a = D
    · rw [e, erase_same] at h; exact absurd rfl h
    · rw [erase_ne e] at h; exact h
  frzs := fun a o u h => by
    by_cases e : a = D
    · rw [e, erase_same] at h; cases h
    · rw [erase_ne e] at h; exact h
end
section
variable {W : Wx} {wx : WX} {C : Ctx} {sh : Shp} {k : Nat} {X : Cx}
theorem comp2_lc {m : Bool} {ownI own1 : List Nat} {t t1 : Tg} {ik ik1 : IK} {ie ifsI ie1 ifs1 : List E} {eltI : E} (hsl : ∀ i ∈ t.slots, i ∈ ownI) (hsl1 : ∀ i ∈ t1.slots, i ∈ own1) {σ : L2.St} {H : Hp} {Q : VK} (h : tE W wx C (.comp2 m ownI t ik ie ifsI own1 t1 ik1 ie1 ifs1 eltI) σ H Q) :
    tLc2 (tI W wx C ik ie) (gT W t) (tTs W (fun _ _ _ _ => False) C ifsI) (tI W (fun _ _ _ _ => False) C ik1 ie1) (gT W t1) (tTs W (fun _ _ _ _ => False) C ifs1) (tE W (fun _ _ _ _ => False) C eltI) ownI own1 σ H Q := by
  obtain ⟨ρ, S, F, μ, o, Rs, h⟩ := h
  unfold evE at h
  refine ⟨ρ, S, F, μ, o, Rs, (EndR.bind (rel := relL W) h).mono fun vs H1 ⟨F1, μ1, ds, S1, x1, R1, r1, q⟩ => ?_⟩
  cases ew : walk S1 ik ds with
  | none => rw [ew] at q; exact q.elim
  | some xs =>
    rw [ew] at q
    replace q : EndR W wx F1 μ1 H1 σ (relD W) ((loopR (fun S' => ds.all (sameAt S1 S')) (stepC C ownI t ifsI ρ fun ρ1 S3 => (evL C ie1 ρ1 S3).bind fun es S4 => (match walk S4 ik1 es with
      | some zs => loopR (fun S' => es.all (sameAt S4 S')) (stepC C own1 t1 ifs1 ρ1 fun ρ2 S6 => (evE C eltI ρ2 S6).bind fun y S7 => .ok [y] S7) zs S4
      | none => .bad)) xs S1).bind fun ys S5 => if ys.length ≤ sizeMax then R.o (mkL m ys S5) else .bad) Q := q
    refine ⟨F1, μ1, S1, ds, xs, R1, r1, ew, fun J hJ Dd hD => ?_⟩
    generalize hstep : (stepC C ownI t ifsI ρ fun ρ1 S3 => (evL C ie1 ρ1 S3).bind fun es S4 => (match walk S4 ik1 es with
      | some zs => loopR (fun S' => es.all (sameAt S4 S')) (stepC C own1 t1 ifs1 ρ1 fun ρ2 S6 => (evE C eltI ρ2 S6).bind fun y S7 => .ok [y] S7) zs S4
      | none => .bad)) = step at q
    cases el : loopR (fun S' => ds.all (sameAt S1 S')) step xs S1 with
    | bad => rw [el] at q; exact q.elim
    | ex c v S5 => exact absurd el (noexR _ _)
    | ok ys S5 =>
      rw [el] at q
      replace q : EndR W wx F1 μ1 H1 σ (relD W) (if ys.length ≤ sizeMax then R.o (mkL m ys S5) else .bad) Q := q
      split at q
      case isFalse => exact q.elim
      case isTrue hlen =>
      have o1 := o.ext Rs x1
      refine lc_loop (D := Dd) (total := ys) (hJ F1 μ1 H1 R1 r1) (turn := fun x H' Nx => gT W t x (L2.wipe σ ownI) H' fun σ2 H2 => L2.wipe σ2 ownI = L2.wipe σ ownI ∧ tTs W (fun _ _ _ _ => False) C ifsI σ2 H2 fun b H3 =>
        if b = true then tI W (fun _ _ _ _ => False) C ik1 ie1 σ2 H3 fun J1 H4 => ∃ W1 : Nat → Nat → Hp → Prop, (∃ m, W1 0 m H4) ∧ ∀ j k H, W1 j k H →
          (J1.stop j H ∧ Nx H) ∨ (J1.go j H ∧ ∃ Nx1 : Hp → Prop, (∀ H', Nx1 H' → ∃ k', k' < k ∧ W1 (j + 1) k' H') ∧ ∀ x H', J1.yld j H x H' → gT W t1 x (L2.wipe σ2 own1) H' fun σ3 H5 => L2.wipe σ3 own1 = L2.wipe σ2 own1 ∧ tTs W (fun _ _ _ _ => False) C ifs1 σ3 H5 fun b H6 =>
            if b = true then tE W (fun _ _ _ _ => False) C eltI σ3 H6 fun y H7 => ∃ acc, H7 Dd = some (.lst acc) ∧ acc.length < sizeLine ∧ Nx1 (upd H7 Dd (.lst (acc ++ [y]))) else Nx1 H6)
        else Nx H3) (fun {x v F μ H S S' acc ys' zs Nx} hA rx es et hN => ?_)
        (acc0 := []) ⟨Ext.side R1 hD, R1.side hD, fun z => R1.fz Dd z hD, fun z => R1.some_ Dd z hD, [], upd_same, .nil⟩ el rfl fun F μ H hA => hA.fin R1.some_ hD q
      rw [← hstep] at es
      unfold stepC at es
      cases eb : bindT S t x (PM.wipe ρ ownI) with
      | none => rw [eb] at es; cases es
      | some ρ1 =>
        rw [eb] at es
        simp only at es
        have o2 := (o1.ext R1 hA.ext).wipe ownI
        refine ⟨PM.wipe ρ ownI, ρ1, S, F, μ, x, o2, hA.rl, rx, eb, fun σ2 o3 hsame hl => ⟨?_, ?_⟩⟩
        · exact (wipe_eq (σ := L2.wipe σ ownI) hl fun i hi => hsame i fun z => hi (hsl i z)).trans wipe_wipe
        · refine ⟨ρ1, S, F, μ, o3, hA.rl, ?_⟩
          cases ek : evTs C ifsI ρ1 S with
          | bad => rw [ek] at es; cases es
          | ex _ _ _ => rw [ek] at es; cases es
          | ok b S3 =>
            rw [ek] at es
            intro F3 μ3 H3 b' E3 R3 rb
            cases rb
            have hA3 := hA.step E3 R3
            cases b with
            | false =>
              replace es : R.ok [] S3 = .ok ys' S' := es
              cases es
              rw [if_neg Bool.false_ne_true]
              exact hN F3 μ3 H3 (by rw [List.append_nil]; exact hA3)
            | true =>
              rw [if_pos rfl]
              replace es : ((evL C ie1 ρ1 S3).bind fun es S4 => (match walk S4 ik1 es with
                | some zs => loopR (fun S' => es.all (sameAt S4 S')) (stepC C own1 t1 ifs1 ρ1 fun ρ2 S6 => (evE C eltI ρ2 S6).bind fun y S7 => .ok [y] S7) zs S4
                | none => .bad)) = .ok ys' S' := es
              cases e1 : evL C ie1 ρ1 S3 with
              | bad => rw [e1] at es; cases es
              | ex _ _ _ => rw [e1] at es; cases es
              | ok es1 S4 =>
                rw [e1] at es
                have o4 := o3.ext hA.rl E3
                refine ⟨ρ1, S3, F3, μ3, o4, R3, ?_⟩
                rw [e1]
                intro F4 μ4 H4 vs1 E4 R4 rv1
                have hA4 := hA3.step E4 R4
                replace es : (match walk S4 ik1 es1 with
                  | some zs => loopR (fun S' => es1.all (sameAt S4 S')) (stepC C own1 t1 ifs1 ρ1 fun ρ2 S6 => (evE C eltI ρ2 S6).bind fun y S7 => .ok [y] S7) zs S4
                  | none => .bad) = .ok ys' S' := es
                cases ew1 : walk S4 ik1 es1 with
                | none => rw [ew1] at es; cases es
                | some zs1 =>
                  rw [ew1] at es
                  replace es : loopR (fun S' => es1.all (sameAt S4 S')) (stepC C own1 t1 ifs1 ρ1 fun ρ2 S6 => (evE C eltI ρ2 S6).bind fun y S7 => .ok [y] S7) zs1 S4 = .ok ys' S' := es
                  refine ⟨F4, μ4, S4, es1, zs1, R4, rv1, ew1, fun J1 hJ1 => ?_⟩
                  have o5 := o4.ext R3 E4
                  have Re : Rl W.toWd F4 μ4 (erase Dd H4) S4 := R4.erase hA4.nF hA4.nM
                  have rve : RepL W.toWd F4 μ4 (erase Dd H4) es1 vs1 := rv1.mv (fun a h => h) (List.prefix_refl _) fun a u f q => by rw [erase_ne (neF hA4.nF f)]; exact q
                  have Eb : Ext F1 μ1 H1 F4 μ4 (erase Dd H4) := hA4.ext.erase hD
                  have hA0 : AccI W Dd F4 μ4 (erase Dd H4) F4 μ4 H4 S4 acc := ⟨Ext.unerase hA4.nF hA4.nM, R4, hA4.nF, hA4.nM, hA4.at_⟩
                  refine lc_loop (D := Dd) (total := acc ++ ys') (hJ1 F4 μ4 _ Re rve) (turn := fun x H' Nx1 => gT W t1 x (L2.wipe σ2 own1) H' fun σ3 H5 => L2.wipe σ3 own1 = L2.wipe σ2 own1 ∧ tTs W (fun _ _ _ _ => False) C ifs1 σ3 H5 fun b H6 =>
                    if b = true then tE W (fun _ _ _ _ => False) C eltI σ3 H6 fun y H7 => ∃ acc, H7 Dd = some (.lst acc) ∧ acc.length < sizeLine ∧ Nx1 (upd H7 Dd (.lst (acc ++ [y]))) else Nx1 H6) (fun {x v F μ H S S'' acc2 ys2 zs2 Nx1} hB rx1 es2 et2 hN1 => ?_)
                    hA0 es rfl fun F μ H hB => hN F μ H ⟨Eb.trans hB.ext, hB.rl, hB.nF, hB.nM, hB.at_⟩
                  unfold stepC at es2
                  cases eb1 : bindT S t1 x (PM.wipe ρ1 own1) with
                  | none => rw [eb1] at es2; cases es2
                  | some ρ2 =>
                    rw [eb1] at es2
                    simp only at es2
                    have oe : Ro W F4 μ4 (erase Dd H4) ρ1 σ2 := ⟨o5.len, fun i d h => let ⟨w, a, b⟩ := o5.at_ i d h; ⟨w, a, b.elim (fun b => .inl (b.mv (fun a h => h) (List.prefix_refl _) fun a u f q => by rw [erase_ne (neF hA4.nF f)]; exact q)) fun ⟨c, x, a', cls, dd, h1, h2, h3, C', f', dd', vv', g1, g2, g3, g4, g5, g6⟩ => .inr ⟨c, x, a', cls, dd, h1, h2, h3, C', f', dd', vv', g1, g2, g3, g4, by
                      obtain ⟨_, q0, _⟩ := hA4.at_
                      rw [erase_ne fun z => by rw [z, q0] at g5; cases g5]; exact g5, g6.mv (fun a h => h) (List.prefix_refl _) fun a u f q => by rw [erase_ne (neF hA4.nF f)]; exact q⟩⟩⟩
                    have o6 := (oe.ext Re hB.ext).wipe own1
                    refine ⟨PM.wipe ρ1 own1, ρ2, S, F, μ, x, o6, hB.rl, rx1, eb1, fun σ3 o7 hsame1 hl1 => ⟨?_, ?_⟩⟩
                    · exact (wipe_eq (σ := L2.wipe σ2 own1) hl1 fun i hi => hsame1 i fun z => hi (hsl1 i z)).trans wipe_wipe
                    · refine ⟨ρ2, S, F, μ, o7, hB.rl, ?_⟩
                      cases ek1 : evTs C ifs1 ρ2 S with
                      | bad => rw [ek1] at es2; cases es2
                      | ex _ _ _ => rw [ek1] at es2; cases es2
                      | ok b S6 =>
                        rw [ek1] at es2
                        replace es2 : (if b = true then (evE C eltI ρ2 S6).bind fun y S7 => R.ok [y] S7 else .ok [] S6) = .ok ys2 S'' := es2
                        intro F6 μ6 H6 b' E6 R6 rb
                        cases rb
                        have hB6 := hB.step E6 R6
                        cases b with
                        | false =>
                          rw [if_neg Bool.false_ne_true] at es2
                          cases es2
                          rw [if_neg Bool.false_ne_true]
                          exact hN1 F6 μ6 H6 (by rw [List.append_nil]; exact hB6)
                        | true =>
                          rw [if_pos rfl] at es2
                          rw [if_pos rfl]
                          cases ee : evE C eltI ρ2 S6 with
                          | bad => rw [ee] at es2; cases es2
                          | ex _ _ _ => rw [ee] at es2; cases es2
                          | ok y S7 =>
                            rw [ee] at es2
                            cases es2
                            refine ⟨ρ2, S6, F6, μ6, o7.ext hB.rl E6, R6, ?_⟩
                            rw [ee]
                            intro F7 μ7 H7 w E7 R7 rw7
                            have hB7 := hB6.step E7 R7
                            obtain ⟨vs7, e7, rr7⟩ := hB7.at_
                            refine ⟨vs7, e7, ?_, hN1 F7 μ7 _ (hB7.push erase_same e7 rw7)⟩
                            have z1 := rr7.length
                            have z2 := congrArg List.length et
                            have z5 := congrArg List.length et2
                            simp only [List.length_append] at z2 z5
                            have z3 : ([y] : List PM.D).length = 1 := rfl
                            have z4 : sizeMax < sizeLine := by decide
                            omega
theorem e_comp2 (G : Gd W C sh k X) {m : Bool} {elt tg iter tg1 iter1 : Expr} {ifs ifs1 : List Expr} {scope : Scope} {own : List (Str × Nat)} {ownI own1 : List Nat} {t t1 : Tg} {ik ik1 : IK} {ie ifsI ie1 ifsI1 : List E} {eltI : E} {pos : Pos} (hown : own.map (·.2) = ownI) (hsl : ∀ i ∈ t.slots, i ∈ ownI) (hsl1 : ∀ i ∈ t1.slots, i ∈ own1) (hv : ∀ i ∈ own1, i ∈ ownI)
    (hi : PI X tg iter (tI W wx C ik ie)) (ok : BlkOk X.N X.env.scope scope own)
    (hg : ∀ (s : Shared) (H : Hp) (c : Addr) (cl : List (Str × Addr)) (fp : List Addr), PG (X.blk s H scope (compEnvC scope cl c X.env) fp) tg (gT W t))
    (ht : ∀ (s : Shared) (H : Hp) (c : Addr) (cl : List (Str × Addr)) (fp : List Addr), PTs (X.blk s H scope (compEnvC scope cl c X.env) fp) ifs (tTs W (fun _ _ _ _ => False) C ifsI))
    (hi1 : ∀ (s : Shared) (H : Hp) (c : Addr) (cl : List (Str × Addr)) (fp : List Addr), PI (X.blk s H scope (compEnvC scope cl c X.env) fp) tg1 iter1 (tI W (fun _ _ _ _ => False) C ik1 ie1))
    (hg1 : ∀ (s : Shared) (H : Hp) (c : Addr) (cl : List (Str × Addr)) (fp : List Addr), PG (X.blk s H scope (compEnvC scope cl c X.env) fp) tg1 (gT W t1))
    (ht1 : ∀ (s : Shared) (H : Hp) (c : Addr) (cl : List (Str × Addr)) (fp : List Addr), PTs (X.blk s H scope (compEnvC scope cl c X.env) fp) ifs1 (tTs W (fun _ _ _ _ => False) C ifsI1))
    (he : ∀ (s : Shared) (H : Hp) (c : Addr) (cl : List (Str × Addr)) (fp : List Addr), PE (X.blk s H scope (compEnvC scope cl c X.env) fp) elt (tE W (fun _ _ _ _ => False) C eltI))
    (hf : ∀ x, foldedSetIterable iter X.env x = pure x) (hf1 : ∀ env x, foldedSetIterable iter1 env x = pure x) : PE X (.ListComp elt [⟨tg, iter, ifs, 0⟩, ⟨tg1, iter1, ifs1, 0⟩] scope pos) (tE W wx C (.comp2 m ownI t ik ie ifsI own1 t1 ik1 ie1 ifsI1 eltI)) :=
  PE_imp (pe_lc2 G.calm G.nd hi ok (vs1 := own1) (by rw [hown]; exact hv) hg ht hi1 hg1 ht1 he hf hf1) fun σ H Q h => by
    rw [hown]
    exact comp2_lc hsl hsl1 h
end
end PM
set_option Elab.async false
set_option linter.all false
set_option autoImplicit false
set_option maxHeartbeats 4000000
/-! PMComp4: dict comprehensions. -/
namespace PM
open PySem PySem.Spec PyProof.Rows L2
section
variable {W : Wx}
structure AccK (W : Wx) (D : Addr) (Fb : Addr → Prop) (μb : List Addr) (Hb : Hp) (F : Addr → Prop) (μ : List Addr) (H : Hp) (S : St) (acc : List (Key × PM.D)) : Prop where
  ext : Ext Fb μb Hb F μ H
  rl : Rl W.toWd F μ H S
  nF : ¬ F D
  nM : D ∉ μ
  at_ : ∃ vs, H D = some (.dK vs) ∧ RepK W.toWd F μ H acc vs
variable {D : Addr} {Fb F F' : Addr → Prop} {μb μ μ' : List Addr} {Hb H H' : Hp} {S S' : St} {acc : List (Key × PM.D)}
theorem RepK.len {W : Wd} : ∀ {kvs : List (Key × PM.D)} {ws : List (L2.Key × V)}, RepK W F μ H kvs ws → kvs.length = ws.length
  | _, _, .nil => rfl
  | _, _, .cons _ _ b => congrArg Nat.succ (RepK.len b)
theorem RepK.extR {W : Wd} {S : St} (R : Rl W F μ H S) (E : Ext F μ H F' μ' H') {kvs : List (Key × PM.D)} {ws : List (L2.Key × V)} (r : RepK W F μ H kvs ws) : RepK W F' μ' H' kvs ws := r.ext R.fz R.off E
theorem AccK.push {q : Key} {y : PM.D} {v : V} {vs : List (L2.Key × V)} (h : AccK W D Fb μb Hb F μ H S acc) (hD : Hb D = none) (e : H D = some (.dK vs)) (hq : kSm q) (r : Rep W.toWd F μ H y v) : AccK W D Fb μb Hb F μ (upd H D (.dK (L2.putK vs (kQ q) v))) S (PM.putK acc q y) := by
  obtain ⟨vs', e', rr⟩ := h.at_
  rw [e] at e'
  cases e'
  have hs : ∀ a u, F a → H a = some u → upd H D (.dK (L2.putK vs (kQ q) v)) a = some u := fun a u f q => by rw [upd_ne (neF h.nF f)]; exact q
  exact ⟨h.ext.sideW hD, h.rl.sideW h.nF h.nM, h.nF, h.nM, _, upd_same, (rr.put hq r).mv (fun a h => h) (List.prefix_refl _) hs⟩
theorem AccK.step (h : AccK W D Fb μb Hb F μ H S acc) (E : Ext F μ H F' μ' H') (R : Rl W.toWd F' μ' H' S') : AccK W D Fb μb Hb F' μ' H' S' acc := by
  obtain ⟨vs, e, rr⟩ := h.at_
  refine ⟨h.ext.trans E, R, fun hf => ?_, fun hm => ?_, vs, E.stay D _ e h.nM, rr.extR h.rl E⟩
  · rcases E.new D hf with z | z
    · exact h.nF z
    · rw [e] at z; cases z
  · rcases E.newM D hm with z | z
    · exact h.nM z
    · rw [e] at z; cases z
theorem loopK_cons {ok : St → Bool} {step : PM.D → St → R (Key × PM.D)} {x : PM.D} {r : List PM.D} {acc kvs : List (Key × PM.D)} {S S5 : St} (h : loopK ok step (x :: r) acc S = .ok kvs S5) : ok S = true ∧ ∃ p S1, step x S = .ok p S1 ∧ loopK ok step r (PM.putK acc p.1 p.2) S1 = .ok kvs S5 := by
  unfold loopK at h
  split at h
  · rename_i ho
    refine ⟨ho, ?_⟩
    cases e : step x S with
    | bad => rw [e] at h; cases h
    | ex _ _ _ => rw [e] at h; cases h
    | ok p S1 =>
      rw [e] at h
      exact ⟨p, S1, rfl, h⟩
  · cases h
theorem loopK_nil {ok : St → Bool} {step : PM.D → St → R (Key × PM.D)} {acc kvs : List (Key × PM.D)} {S S5 : St} (h : loopK ok step [] acc S = .ok kvs S5) : ok S = true ∧ kvs = acc ∧ S = S5 := by
  unfold loopK at h
  split at h
  · rename_i ho
    cases h
    exact ⟨ho, rfl, rfl⟩
  · cases h
theorem noexK {ok : St → Bool} {step : PM.D → St → R (Key × PM.D)} {c : String} {v : PM.D} {S5 : St} : ∀ (xs : List PM.D) (acc : List (Key × PM.D)) (S : St), loopK ok step xs acc S ≠ .ex c v S5
  | [], acc, S, h => by unfold loopK at h; split at h <;> cases h
  | x :: r, acc, S, h => by
    unfold loopK at h
    split at h
    · cases e : step x S with
      | bad => rw [e] at h; cases h
      | ex _ _ _ => rw [e] at h; cases h
      | ok p S1 =>
        rw [e] at h
        exact noexK r _ S1 h
    · cases h
theorem putK_len (kvs : List (Key × PM.D)) (k : Key) (v : PM.D) : kvs.length ≤ (PM.putK kvs k v).length := by
  unfold PM.putK
  split
  · rw [List.length_map]; exact Nat.le_refl _
  · rw [List.length_append]; exact Nat.le_add_right _ _
theorem loopK_len {ok : St → Bool} {step : PM.D → St → R (Key × PM.D)} {S5 : St} {kvs : List (Key × PM.D)} : ∀ (xs : List PM.D) (acc : List (Key × PM.D)) (S : St), loopK ok step xs acc S = .ok kvs S5 → acc.length ≤ kvs.length
  | [], acc, S, h => by rw [(loopK_nil h).2.1]; exact Nat.le_refl _
  | x :: r, acc, S, h => by
    obtain ⟨_, p, S1, _, h2⟩ := loopK_cons h
    exact Nat.le_trans (putK_len _ _ _) (loopK_len r _ S1 h2)
theorem dc_loop {J : It} {S1 S5 : St} {ds xs : List PM.D} {total : List (Key × PM.D)} {step : PM.D → St → R (Key × PM.D)} (hJ : ItOk W J S1 ds xs Fb μb Hb) {turn : V → Hp → (Hp → Prop) → Prop} {Qd : Hp → Prop}
    (hs : ∀ {x : PM.D} {v : V} {F : Addr → Prop} {μ : List Addr} {H : Hp} {S S' : St} {acc : List (Key × PM.D)} {p : Key × PM.D} {Nx : Hp → Prop}, AccK W D Fb μb Hb F μ H S acc → Rep W.toWd F μ H x v → step x S = .ok p S' → acc.length ≤ total.length →
      (∀ F' μ' H', AccK W D Fb μb Hb F' μ' H' S' (PM.putK acc p.1 p.2) → Nx H') → turn v H Nx)
    {acc0 : List (Key × PM.D)} {S0 : St} (h0 : AccK W D Fb μb Hb F μ H S0 acc0) (e0 : loopK (fun S' => ds.all (sameAt S1 S')) step xs acc0 S0 = .ok total S5)
    (fin : ∀ F μ H, AccK W D Fb μb Hb F μ H S5 total → Qd H) :
    ∃ Wn : Nat → Nat → Hp → Prop, (∃ m, Wn 0 m H) ∧ ∀ i m H, Wn i m H → (J.stop i H ∧ Qd H) ∨ (J.go i H ∧ ∃ Nx : Hp → Prop, (∀ H', Nx H' → ∃ m', m' < m ∧ Wn (i + 1) m' H') ∧ ∀ x H', J.yld i H x H' → turn x H' Nx) := by
  refine ⟨fun i m H => m = xs.length - i ∧ i ≤ xs.length ∧ ∃ (F : Addr → Prop) (μ : List Addr) (S : St) (acc : List (Key × PM.D)), AccK W D Fb μb Hb F μ H S acc ∧ loopK (fun S' => ds.all (sameAt S1 S')) step (xs.drop i) acc S = .ok total S5, ⟨xs.length, rfl, Nat.zero_le _, F, μ, S0, acc0, h0, by rw [List.drop_zero]; exact e0⟩, ?_⟩
  rintro i m H ⟨rfl, hi, F, μ, S, acc, hA, el⟩
  by_cases hlt : i < xs.length
  · right
    have hx : xs[i]? = some xs[i] := List.getElem?_eq_getElem hlt
    have hl := loopK_len _ _ _ el
    rw [List.drop_eq_getElem_cons hlt] at el
    obtain ⟨ho, p, S', e1, e2⟩ := loopK_cons el
    obtain ⟨go, yl⟩ := hJ.go hA.ext hA.rl ho hx
    refine ⟨go, fun H' => ∃ (F' : Addr → Prop) (μ' : List Addr), AccK W D Fb μb Hb F' μ' H' S' (PM.putK acc p.1 p.2), fun H' ⟨F', μ', hA'⟩ => ⟨xs.length - (i + 1), by omega, rfl, hlt, F', μ', S', _, hA', e2⟩, fun v H' hy => ?_⟩
    obtain ⟨F2, E2, R2, r2⟩ := yl v H' hy
    exact hs (hA.step E2 R2) r2 e1 hl fun F' μ' H' hA' => ⟨F', μ', hA'⟩
  · left
    have hi' : i = xs.length := by omega
    subst hi'
    rw [List.drop_length] at el
    obtain ⟨ho, e1, e2⟩ := loopK_nil el
    subst e1 e2
    exact ⟨hJ.stop hA.ext hA.rl ho, fin F μ H hA⟩
theorem AccK.fin {wx : WX} {σ : L2.St} {m : Bool} {Q : VK} (h : AccK W D Fb μb Hb F μ H S acc) (hb : ∀ a ∈ μb, Hb a ≠ none) (hD : Hb D = none) (q : EndR W wx Fb μb Hb σ (relD W) (R.o (mkK m acc S)) Q) : Q (.ref D) H := by
  obtain ⟨vs, e, rr⟩ := h.at_
  have pn : D ∉ μb := fun hm => hb D hm hD
  have eu : upd H D (.dK vs) = H := upd_self e
  have E : ∀ (F2 : Addr → Prop) (μ2 : List Addr), (∀ a, F2 a → F a ∨ a = D) → (∀ a, F a → F2 a) → μ <+: μ2 → (∀ a ∈ μ2, a ∈ μ ∨ a = D) → Ext Fb μb Hb F2 μ2 H := fun F2 μ2 h1 h2 h3 h4 =>
    ⟨fun a z => h2 a (h.ext.sub a z), fun a z => (h1 a z).elim (h.ext.new a) fun e => .inr (by rw [e]; exact hD), h.ext.pre.trans h3, fun a z => (h4 a z).elim (h.ext.newM a) fun e => .inr (by rw [e]; exact hD), h.ext.stay, h.ext.there, h.ext.frzs⟩
  cases m with
  | false =>
    have R2 := h.rl.takeF (o := HO.dK vs) h.nF h.nM
    rw [eu] at R2
    refine q (fun a => F a ∨ a = D) μ H _ (E _ _ (fun a z => z) (fun a z => .inl z) (List.prefix_refl _) fun a z => .inl z) R2 (.dct (.inr rfl) (.inl e) (rr.mv (fun a z => .inl z) (List.prefix_refl _) fun a u f z => z))
  | true =>
    have rr2 : RepK W.toWd F (μ ++ [D]) H acc vs := rr.mv (fun a z => z) (List.prefix_append _ _) fun a u f z => z
    have R2 := h.rl.takeM (o := HO.dK vs) (c := Cell.dct false acc) h.nF h.nM (by rw [eu]; exact .dct (lk := false) e rr2)
    rw [eu] at R2
    exact q F (μ ++ [D]) H _ (E _ _ (fun a z => .inl z) (fun a z => z) (List.prefix_append _ _) fun a z => (List.mem_append.mp z).imp id List.mem_singleton.mp) R2 (.loc (by rw [← h.rl.len, List.getElem?_append_right (Nat.le_refl _), Nat.sub_self]; rfl))
end
section
variable {W : Wx} {wx : WX} {C : Ctx} {sh : Shp} {k : Nat} {X : Cx}
def stepD (C : Ctx) (own : List Nat) (t : Tg) (kI vI : E) (ρ : Env) (x : D) (S2 : St) : R (Key × D) := match bindT S2 t x (PM.wipe ρ own) with
  | some ρ1 => (evE C kI ρ1 S2).bind fun y S3 => (evE C vI ρ1 S3).bind fun z S4 => match keyOf y with
    | some q => .ok (q, z) S4
    | none => .bad
  | none => .bad
theorem dcomp_core {C : Ctx} {ownI : List Nat} {t : Tg} {kI vI : E} (hsl : ∀ i ∈ t.slots, i ∈ ownI) {σ : L2.St} {ρ : Env} {F1 : Addr → Prop} {μ1 : List Addr} {H1 : Hp} {S1 S5 : St} {ds xs : List PM.D} {kvs : List (Key × PM.D)} {J : It} {Dd : Addr} {Qd : Hp → Prop}
    (o1 : Ro W F1 μ1 H1 ρ σ) (R1 : Rl W.toWd F1 μ1 H1 S1) (hJ : ItOk W J S1 ds xs F1 μ1 H1) (hD : H1 Dd = none)
    (el : loopK (fun S' => ds.all (sameAt S1 S')) (stepD C ownI t kI vI ρ) xs [] S1 = .ok kvs S5) (hlen : kvs.length ≤ sizeMax)
    (fin : ∀ F μ H, AccK W Dd F1 μ1 H1 F μ H S5 kvs → Qd H) :
    ∃ Wn : Nat → Nat → Hp → Prop, (∃ m, Wn 0 m (upd H1 Dd (.dK []))) ∧ ∀ i m H, Wn i m H → (J.stop i H ∧ Qd H) ∨ (J.go i H ∧ ∃ Nx : Hp → Prop, (∀ H', Nx H' → ∃ m', m' < m ∧ Wn (i + 1) m' H') ∧
      ∀ x H', J.yld i H x H' → gT W t x (L2.wipe σ ownI) H' fun σ2 H2 => L2.wipe σ2 ownI = L2.wipe σ ownI ∧ tTs W (fun _ _ _ _ => False) C [] σ2 H2 fun b H3 =>
        if b = true then tE W (fun _ _ _ _ => False) C kI σ2 H3 fun y H4 => tE W (fun _ _ _ _ => False) C vI σ2 H4 fun z H5 => ∃ kvs k, y = kV k ∧ H5 Dd = some (.dK kvs) ∧ kvs.length < sizeLine ∧ Nx (upd H5 Dd (.dK (L2.putK kvs k z))) else Nx H3) := by
  refine dc_loop (D := Dd) (total := kvs) hJ (turn := fun x H' Nx => gT W t x (L2.wipe σ ownI) H' fun σ2 H2 => L2.wipe σ2 ownI = L2.wipe σ ownI ∧ tTs W (fun _ _ _ _ => False) C [] σ2 H2 fun b H3 =>
    if b = true then tE W (fun _ _ _ _ => False) C kI σ2 H3 fun y H4 => tE W (fun _ _ _ _ => False) C vI σ2 H4 fun z H5 => ∃ kvs k, y = kV k ∧ H5 Dd = some (.dK kvs) ∧ kvs.length < sizeLine ∧ Nx (upd H5 Dd (.dK (L2.putK kvs k z))) else Nx H3) (fun {x v F μ H S S' acc p Nx} hA rx es hle hN => ?_)
    (acc0 := []) ⟨Ext.side R1 hD, R1.side hD, fun z => R1.fz Dd z hD, fun z => R1.some_ Dd z hD, [], upd_same, .nil⟩ el fin
  unfold stepD at es
  cases eb : bindT S t x (PM.wipe ρ ownI) with
  | none => rw [eb] at es; cases es
  | some ρ1 =>
    rw [eb] at es
    simp only at es
    have o2 := (o1.ext R1 hA.ext).wipe ownI
    refine ⟨PM.wipe ρ ownI, ρ1, S, F, μ, x, o2, hA.rl, rx, eb, fun σ2 o3 hsame hl => ⟨?_, ?_⟩⟩
    · exact (wipe_eq (σ := L2.wipe σ ownI) hl fun i hi => hsame i fun z => hi (hsl i z)).trans wipe_wipe
    · refine ⟨ρ1, S, F, μ, o3, hA.rl, ?_⟩
      rw [evTs]
      intro F3 μ3 H3 b' E3 R3 rb
      cases rb
      rw [if_pos rfl]
      have hA3 := hA.step E3 R3
      cases e1 : evE C kI ρ1 S with
      | bad => rw [e1] at es; cases es
      | ex _ _ _ => rw [e1] at es; cases es
      | ok y S3 =>
        rw [e1] at es
        have o4 := o3.ext hA.rl E3
        refine ⟨ρ1, S, F3, μ3, o4, R3, ?_⟩
        rw [e1]
        intro F4 μ4 H4 yv E4 R4 ry
        have hA4 := hA3.step E4 R4
        replace es : ((evE C vI ρ1 S3).bind fun z S4 => match keyOf y with
          | some q => R.ok (q, z) S4
          | none => .bad) = .ok p S' := es
        cases e2 : evE C vI ρ1 S3 with
        | bad => rw [e2] at es; cases es
        | ex _ _ _ => rw [e2] at es; cases es
        | ok z S4 =>
          rw [e2] at es
          refine ⟨ρ1, S3, F4, μ4, o4.ext R3 E4, R4, ?_⟩
          rw [e2]
          intro F5 μ5 H5 zv E5 R5 rz
          have hA5 := hA4.step E5 R5
          obtain ⟨vs5, e5, rr5⟩ := hA5.at_
          cases ekk : keyOf y with
          | none =>
            rw [ekk] at es
            cases es
          | some q =>
            rw [ekk] at es
            cases es
            obtain ⟨ey, hq⟩ := keyRep ekk ry
            refine ⟨vs5, kQ q, ey, e5, ?_, hN F5 μ5 _ (hA5.push hD e5 hq rz)⟩
            have z1 := rr5.len
            have z4 : sizeMax < sizeLine := by decide
            omega
theorem dcomp_dc {m : Bool} {ownI : List Nat} {t : Tg} {ik : IK} {ie : List E} {kI vI : E} (hik : ik.isD = false) (hsl : ∀ i ∈ t.slots, i ∈ ownI) {σ : L2.St} {H : Hp} {Q : VK} (h : tE W wx C (.dcomp m ownI t ik ie kI vI) σ H Q) :
    tDc (tI W wx C ik ie) (gT W t) (tTs W (fun _ _ _ _ => False) C []) (tE W (fun _ _ _ _ => False) C kI) (tE W (fun _ _ _ _ => False) C vI) ownI σ H Q := by
  obtain ⟨ρ, S, F, μ, o, Rs, h⟩ := h
  unfold evE at h
  simp only [lkS_of hik, ulS_of hik] at h
  refine ⟨ρ, S, F, μ, o, Rs, (EndR.bind (rel := relL W) h).mono fun vs H1 ⟨F1, μ1, ds, S1, x1, R1, r1, q⟩ => ?_⟩
  cases ew : walk S1 ik ds with
  | none => rw [ew] at q; exact q.elim
  | some xs =>
    rw [ew] at q
    replace q : EndR W wx F1 μ1 H1 σ (relD W) ((loopK (fun S' => ds.all (sameAt S1 S')) (stepD C ownI t kI vI ρ) xs [] S1).bind fun kvs S5 => if kvs.length ≤ sizeMax then R.o (mkK m kvs S5) else .bad) Q := q
    refine ⟨F1, μ1, S1, ds, xs, R1, r1, ew, fun J hJ Dd hD => ?_⟩
    cases el : loopK (fun S' => ds.all (sameAt S1 S')) (stepD C ownI t kI vI ρ) xs [] S1 with
    | bad => rw [el] at q; exact q.elim
    | ex c v S5 => exact absurd el (noexK _ _ _)
    | ok kvs S5 =>
      rw [el] at q
      replace q : EndR W wx F1 μ1 H1 σ (relD W) (if kvs.length ≤ sizeMax then R.o (mkK m kvs S5) else .bad) Q := q
      split at q
      case isFalse => exact q.elim
      case isTrue hlen =>
      have o1 := o.ext Rs x1
      exact dcomp_core hsl o1 R1 (hJ F1 μ1 H1 R1 r1) hD el hlen fun F μ H hA => hA.fin R1.some_ hD q
theorem e_dcomp (G : Gd W C sh k X) {m : Bool} {kx vx tg iter : Expr} {scope : Scope} {own : List (Str × Nat)} {ownI : List Nat} {t : Tg} {ik : IK} {ie : List E} {kI vI : E} {pos : Pos} (hik : ik.isD = false) (hown : own.map (·.2) = ownI) (hsl : ∀ i ∈ t.slots, i ∈ ownI)
    (hi : PI X tg iter (tI W wx C ik ie)) (ok : BlkOk X.N X.env.scope scope own)
    (hg : ∀ (s : Shared) (H : Hp) (c : Addr) (cl : List (Str × Addr)) (fp : List Addr), PG (X.blk s H scope (compEnvC scope cl c X.env) fp) tg (gT W t))
    (hk : ∀ (s : Shared) (H : Hp) (c : Addr) (cl : List (Str × Addr)) (fp : List Addr), PE (X.blk s H scope (compEnvC scope cl c X.env) fp) kx (tE W (fun _ _ _ _ => False) C kI))
    (he : ∀ (s : Shared) (H : Hp) (c : Addr) (cl : List (Str × Addr)) (fp : List Addr), PE (X.blk s H scope (compEnvC scope cl c X.env) fp) vx (tE W (fun _ _ _ _ => False) C vI))
    (hf : ∀ x, foldedSetIterable iter X.env x = pure x) : PE X (.DictComp kx vx [⟨tg, iter, [], 0⟩] scope pos) (tE W wx C (.dcomp m ownI t ik ie kI vI)) :=
  PE_imp (pe_dc G.calm G.nd hi ok hg (fun _ _ _ _ _ => ts_nil) hk he hf) fun σ H Q h => by
    rw [hown]
    exact dcomp_dc hik hsl h
end
end PM
set_option Elab.async false
set_option linter.all false
set_option autoImplicit false
set_option maxHeartbeats 4000000
/-! PMBi: builtins. -/
namespace PM
open PySem PySem.Spec PyProof.Rows L2
/-- a builtin's reading -/
def rBi (W : Wd) (C : Ctx) (f : String) (m : Bool) : List V → Hp → VK → Prop := fun xs H Q => ∃ (S : St) (F : Addr → Prop) (μ : List Addr) (ds : List D), Rl W F μ H S ∧ RepL W F μ H ds xs ∧ EndV W F μ H (bi C f m ds S) Q
section
variable {W : Wx} {wx : WX} {C : Ctx} {sh : Shp} {k : Nat} {X : Cx}
/-- plain argument lists -/
theorem a_plain {es : List Expr} {is : List E} (ns : es.all (fun e => !isSt e) = true) (h : Paired (fun e i => PE X e (tE W wx C i)) es is) : PA X es (tL W wx C is) := by
  induction h with
  | nil => exact PA_imp pa_nil fun σ H Q h => l_nil h
  | cons he _ ih =>
    rw [List.all_cons, Bool.and_eq_true] at ns
    exact PA_imp (pa_cons he (ih ns.2) (starEach_ns (by simpa using ns.1))) fun σ H Q h => l_cons h
theorem bi_read {f : String} {m : Bool} {is : List E} {σ : L2.St} {H : Hp} {Q : VK} (h : tE W wx C (.bi f m is) σ H Q) : tCB (rBi W.toWd C f m) (tL W wx C is) σ H Q := by
  obtain ⟨ρ, S, F, μ, o, Rs, h⟩ := h
  unfold evE at h
  exact ⟨ρ, S, F, μ, o, Rs, (EndR.bind (rel := relL W) h).mono fun vs H1 ⟨F1, μ1, ds, S1, x1, R1, r1, q⟩ => ⟨S1, F1, μ1, ds, R1, r1, EndV.of q⟩⟩
/-- f(e, ..), f a built-in function -/
theorem e_biB {f : String} {m : Bool} {x : Str} {id : String} {p pos : Pos} {e : Expr} {es : List Expr} {is : List E} (hc : CallR X (.builtin id) (rBi W.toWd C f m)) (hg : Gl X x) (hm : X.mg x = none) (hv : bootBuiltins x = some (.builtin id)) (hn : x ≠ "__name__") (hdb : (x == ("__debug__" : Str)) = false)
    (ns : (e :: es).all (fun e => !isSt e) = true) (ha : PA X (e :: es) (tL W wx C is)) : PE X (.Call (.Name x p) (e :: es) [] pos) (tE W wx C (.bi f m is)) := by
  have ns' := ns
  rw [List.all_cons, Bool.and_eq_true] at ns'
  exact PE_imp (pe_callB hc hg hm hv ha hn hdb (starEach_ns (by simpa using ns'.1)) (any_ns ns'.2)) fun σ H Q h => bi_read h
/-- T(e, ..), T a built-in type -/
theorem e_biT {f : String} {m : Bool} {x : Str} {T : String} {p pos : Pos} {e : Expr} {es : List Expr} {is : List E} (hc : CallR X (.type T) (rBi W.toWd C f m)) (hg : Gl X x) (hm : X.mg x = none) (hv : bootBuiltins x = some (.type T)) (hn : x ≠ "__name__") (hdb : (x == ("__debug__" : Str)) = false)
    (ns : (e :: es).all (fun e => !isSt e) = true) (ha : PA X (e :: es) (tL W wx C is)) : PE X (.Call (.Name x p) (e :: es) [] pos) (tE W wx C (.bi f m is)) := by
  have ns' := ns
  rw [List.all_cons, Bool.and_eq_true] at ns'
  exact PE_imp (pe_callTy hc hg hm hv ha hn hdb (starEach_ns (by simpa using ns'.1)) (any_ns ns'.2)) fun σ H Q h => bi_read h
/-! ### one argument -/
theorem one_arg {F : Addr → Prop} {μ : List Addr} {H : Hp} {d : D} {xs : List V} (r : RepL W.toWd F μ H [d] xs) : ∃ v, xs = [v] ∧ Rep W.toWd F μ H d v := by
  cases r with
  | cons a b => cases b; exact ⟨_, rfl, a⟩
theorem EndV.val {F : Addr → Prop} {μ : List Addr} {H : Hp} {S : St} {d : D} {v : V} {Q : VK} (q : ∀ (F' : Addr → Prop) (μ' : List Addr) (H' : Hp) (v : V), Ext F μ H F' μ' H' → Rl W.toWd F' μ' H' S → Rep W.toWd F' μ' H' d v → Q v H') (Rs : Rl W.toWd F μ H S) (r : Rep W.toWd F μ H d v) : Q v H := q F μ H v Ext.refl Rs r
theorem c_len (G : Gb W C sh k X) {m : Bool} : CallR X (.builtin "len") (rBi W.toWd C "len" m) := by
  intro pins s σ H xs us Q I r ⟨S, F, μ, ds, Rs, rr, d, S', e, q⟩
  cases ds with
  | nil => simp [bi] at e
  | cons d1 ds =>
    cases ds with
    | cons _ _ => simp [bi] at e
    | nil =>
      obtain ⟨v, rfl, r1⟩ := one_arg rr
      have seqL : ∀ {ys : List D}, items S d1 = some ys → d = .int ys.length → S' = S → wpAny (model X.prog X.w) X.A (call (.builtin "len") us) (EP X pins σ Q) X.xe s := fun {ys} ei ed es => by
        subst ed es
        obtain ⟨a, vs, rfl, sq, rv⟩ := Rs.items ei r1
        exact call_len pins s σ H _ us Q I r ⟨_, vs.length, rfl, by
          rw [G.hK]
          exact sq.imp (fun z => ⟨vs, z, rfl⟩) fun z => ⟨vs, z, rfl⟩, by rw [← rv.length]; exact EndV.val q Rs (.int _)⟩
      have dctL : ∀ {kvs : List (Key × D)}, pairs S d1 = some kvs → d = .int kvs.length → S' = S → wpAny (model X.prog X.w) X.A (call (.builtin "len") us) (EP X pins σ Q) X.xe s := fun {kvs} ei ed es => by
        subst ed es
        obtain ⟨a, ws, rfl, eH, rk⟩ := Rs.pairs ei r1
        rw [Vals.ref1 r]
        refine d_len I eH fun t s' I' => ⟨.int ws.length, H, I', ⟨t, rfl⟩, ?_⟩
        rw [← rk.len]
        exact EndV.val q Rs (.int _)
      cases d1 with
      | str x =>
        cases r1 with
        | str _ hx =>
          simp only [bi] at e
          cases e
          exact call_len pins s σ H _ us Q I r ⟨_, x.length, rfl, ⟨by rw [tS_len]; exact hx, by rw [tS_len]⟩, EndV.val q Rs (.int _)⟩
      | _ =>
        simp only [bi] at e
        split at e
        · rename_i ys ei
          cases e
          exact seqL ei rfl rfl
        · split at e
          · rename_i kvs ei
            cases e
            exact dctL ei rfl rfl
          · cases e
theorem c_int (G : Gb W C sh k X) {m : Bool} : CallR X (.type "int") (rBi W.toWd C "int" m) := by
  intro pins s σ H xs us Q I r ⟨S, F, μ, ds, Rs, rr, d, S', e, q⟩
  cases ds with
  | nil => simp [bi] at e
  | cons d1 ds =>
    cases ds with
    | cons _ _ => simp [bi] at e
    | nil =>
      obtain ⟨v, rfl, r1⟩ := one_arg rr
      cases r1 with
      | int i =>
        simp only [bi] at e
        cases e
        exact call_int1 pins s σ H _ us Q I r (.inl ⟨i, rfl, EndV.val q Rs (.int _)⟩)
      | bl b =>
        simp only [bi] at e
        cases e
        exact call_int1 pins s σ H _ us Q I r (.inr ⟨b, rfl, EndV.val q Rs (.int _)⟩)
      | str x hx =>
        simp only [bi] at e
        split at e
        · rename_i hc
          cases e
          refine call_int_str pins s σ H _ us Q I r ⟨tS x, digitsVal x, rfl, ?_, by rw [tS_len]; omega, EndV.val q Rs (.int _)⟩
          obtain ⟨h1, h2, h3⟩ := hc
          have e1 : (tS x).cps.toList = x := by unfold tS; simp
          have hd : PySem.NumText.AllDigits x := fun c hc => by
            have := List.all_eq_true.mp h3 c hc
            unfold isDigit at this
            exact of_decide_eq_true this
          have h4 := PySem.intText_digits (x := tS x) (by rw [e1]; exact hd) (by rw [e1]; exact h1) (by rw [tS_len]; omega)
          rw [h4, e1]
          congr 1
          have key : ∀ (l : List Nat) (a : Nat), PySem.NumText.AllDigits l → ((l.foldl (fun acc c => acc * 10 + (c - 48)) a : Nat) : Int) = l.foldl (fun (a : Int) (c : Nat) => a * 10 + ((c : Int) - 48)) (a : Int) := by
            intro l
            induction l with
            | nil => intro a _; rfl
            | cons c r ih =>
              intro a hl
              rw [List.foldl_cons, List.foldl_cons, ih _ hl.tail]
              congr 1
              have := hl.head
              omega
          exact key x 0 hd
        · cases e
      | _ => simp [bi] at e
theorem bools_rep {F : Addr → Prop} {μ : List Addr} {H : Hp} : ∀ {xs : List D} {vs : List V} {bs : List Bool}, bools xs = some bs → RepL W.toWd F μ H xs vs → vs = bs.map V.bl
  | [], vs, bs, e, r => by cases e; cases r; rfl
  | x :: xs, vs, bs, e, r => by
    cases r with
    | cons a b =>
      cases a <;> simp only [bools] at e <;> first | (cases e; done) | skip
      obtain ⟨bs', e1, e2⟩ := Option.map_eq_some_iff.mp e
      subst e2
      rw [bools_rep e1 b]
      rfl
theorem ints_rep {F : Addr → Prop} {μ : List Addr} {H : Hp} : ∀ {xs : List D} {vs : List V} {bs : List Int}, intsD xs = some bs → RepL W.toWd F μ H xs vs → vs = bs.map V.int
  | [], vs, bs, e, r => by cases e; cases r; rfl
  | x :: xs, vs, bs, e, r => by
    cases r with
    | cons a b =>
      cases a <;> simp only [intsD] at e <;> first | (cases e; done) | skip
      obtain ⟨bs', e1, e2⟩ := Option.map_eq_some_iff.mp e
      subst e2
      rw [ints_rep e1 b]
      rfl
theorem c_all (G : Gd W C sh k X) {m : Bool} : CallR X (.builtin "all") (rBi W.toWd C "all" m) := by
  intro pins s σ H xs us Q I r ⟨S, F, μ, ds, Rs, rr, d, S', e, q⟩
  cases ds with
  | nil => simp [bi] at e
  | cons d1 ds =>
    cases ds with
    | cons _ _ => simp [bi] at e
    | nil =>
      obtain ⟨v, rfl, r1⟩ := one_arg rr
      simp only [bi] at e
      split at e
      · rename_i bs eb
        cases e
        obtain ⟨ys, e1, e2⟩ := Option.bind_eq_some_iff.mp eb
        obtain ⟨a, vs, rfl, sq, rv⟩ := Rs.lstItems e1 r1
        exact cr_all G.calm pins s σ H _ us Q I r ⟨a, bs, rfl, by rw [← bools_rep e2 rv]; exact .inl sq, EndV.val q Rs (.bl _)⟩
      · cases e
theorem c_any (G : Gd W C sh k X) {m : Bool} : CallR X (.builtin "any") (rBi W.toWd C "any" m) := by
  intro pins s σ H xs us Q I r ⟨S, F, μ, ds, Rs, rr, d, S', e, q⟩
  cases ds with
  | nil => simp [bi] at e
  | cons d1 ds =>
    cases ds with
    | cons _ _ => simp [bi] at e
    | nil =>
      obtain ⟨v, rfl, r1⟩ := one_arg rr
      simp only [bi] at e
      split at e
      · rename_i bs eb
        cases e
        obtain ⟨ys, e1, e2⟩ := Option.bind_eq_some_iff.mp eb
        obtain ⟨a, vs, rfl, sq, rv⟩ := Rs.lstItems e1 r1
        exact cr_any G.calm pins s σ H _ us Q I r ⟨a, bs, rfl, by rw [← bools_rep e2 rv]; exact .inl sq, EndV.val q Rs (.bl _)⟩
      · cases e
theorem c_sum (G : Gd W C sh k X) {m : Bool} : CallR X (.builtin "sum") (rBi W.toWd C "sum" m) := by
  intro pins s σ H xs us Q I r ⟨S, F, μ, ds, Rs, rr, d, S', e, q⟩
  cases ds with
  | nil => simp [bi] at e
  | cons d1 ds =>
    cases ds with
    | cons _ _ => simp [bi] at e
    | nil =>
      obtain ⟨v, rfl, r1⟩ := one_arg rr
      simp only [bi] at e
      split at e
      · rename_i bs eb
        cases e
        obtain ⟨ys, e1, e2⟩ := Option.bind_eq_some_iff.mp eb
        obtain ⟨a, vs, rfl, sq, rv⟩ := Rs.lstItems e1 r1
        exact cr_sum G.calm pins s σ H _ us Q I r ⟨a, bs, rfl, by rw [← ints_rep e2 rv]; exact .inl sq, EndV.val q Rs (.int _)⟩
      · cases e
theorem maxI_spec : ∀ (is : List Int) (i m : Int), m ∈ i :: is → (∀ y ∈ i :: is, y ≤ m) → maxI i is = m
  | [], i, m, h, _ => by
    unfold maxI
    exact (List.mem_singleton.mp h).symm
  | j :: r, i, m, h, hm => by
    unfold maxI
    refine maxI_spec r _ m ?_ fun y hy => ?_
    · have h1 := hm i (List.mem_cons_self ..)
      have h2 := hm j (List.mem_cons_of_mem _ (List.mem_cons_self ..))
      rcases List.mem_cons.mp h with e | h'
      · by_cases hij : i < j
        · exfalso; omega
        · rw [if_neg hij]; exact List.mem_cons.mpr (.inl e)
      · rcases List.mem_cons.mp h' with e | h''
        · by_cases hij : i < j
          · rw [if_pos hij]; exact List.mem_cons.mpr (.inl e)
          · rw [if_neg hij]; exact List.mem_cons.mpr (.inl (by omega))
        · exact List.mem_cons_of_mem _ h''
    · rcases List.mem_cons.mp hy with e | h'
      · rw [e]
        split
        · exact hm j (List.mem_cons_of_mem _ (List.mem_cons_self ..))
        · exact hm i (List.mem_cons_self ..)
      · exact hm y (List.mem_cons_of_mem _ (List.mem_cons_of_mem _ h'))
theorem minI_spec : ∀ (is : List Int) (i m : Int), m ∈ i :: is → (∀ y ∈ i :: is, m ≤ y) → minI i is = m
  | [], i, m, h, _ => by
    unfold minI
    exact (List.mem_singleton.mp h).symm
  | j :: r, i, m, h, hm => by
    unfold minI
    refine minI_spec r _ m ?_ fun y hy => ?_
    · have h1 := hm i (List.mem_cons_self ..)
      have h2 := hm j (List.mem_cons_of_mem _ (List.mem_cons_self ..))
      rcases List.mem_cons.mp h with e | h'
      · by_cases hij : j < i
        · exfalso; omega
        · rw [if_neg hij]; exact List.mem_cons.mpr (.inl e)
      · rcases List.mem_cons.mp h' with e | h''
        · by_cases hij : j < i
          · rw [if_pos hij]; exact List.mem_cons.mpr (.inl e)
          · rw [if_neg hij]; exact List.mem_cons.mpr (.inl (by omega))
        · exact List.mem_cons_of_mem _ h''
    · rcases List.mem_cons.mp hy with e | h'
      · rw [e]
        split
        · exact hm j (List.mem_cons_of_mem _ (List.mem_cons_self ..))
        · exact hm i (List.mem_cons_self ..)
      · exact hm y (List.mem_cons_of_mem _ (List.mem_cons_of_mem _ h'))
theorem c_max (G : Gd W C sh k X) {m : Bool} : CallR X (.builtin "max") (rBi W.toWd C "max" m) := by
  intro pins s σ H xs us Q I r ⟨S, F, μ, ds, Rs, rr, d, S', e, q⟩
  have one : ∀ {d1 : D} {v : V} {is : List Int} {i : Int}, xs = [v] → Rep W.toWd F μ H d1 v → (lstItems S d1).bind intsD = some (i :: is) → d = .int (maxI i is) → S' = S → wpAny (model X.prog X.w) X.A (call (.builtin "max") us) (EP X pins σ Q) X.xe s := fun {d1 v is i} ex r1 eb ed es => by
    subst ex ed es
    obtain ⟨ys, e1, e2⟩ := Option.bind_eq_some_iff.mp eb
    obtain ⟨a, vs, rfl, sq, rv⟩ := Rs.lstItems e1 r1
    refine cr_max G.calm pins s σ H _ us Q I r ⟨a, i :: is, rfl, by rw [← ints_rep e2 rv]; exact .inl sq, by simp, fun mx h1 h2 => ?_⟩
    rw [← maxI_spec is i mx h1 h2]
    exact EndV.val q Rs (.int _)
  cases ds with
  | nil => simp [bi] at e
  | cons d1 ds =>
    cases ds with
    | nil =>
      obtain ⟨v, ev, r1⟩ := one_arg rr
      simp only [bi] at e
      split at e
      · rename_i i is eb
        cases e
        exact one ev r1 eb rfl rfl
      · cases e
    | cons d2 ds =>
      cases ds with
      | cons _ _ => simp [bi] at e
      | nil =>
        cases rr with
        | cons a b =>
          cases b with
          | cons b c =>
            cases c
            cases a <;> first | (simp [bi] at e; done) | skip
            cases b <;> first | (simp [bi] at e; done) | skip
            rename_i i j
            simp only [bi] at e
            cases e
            refine call_max2 G.calm pins s σ H _ us Q I r ⟨i, j, rfl, ?_⟩
            exact EndV.val q Rs (.int _)
theorem c_min (G : Gd W C sh k X) {m : Bool} : CallR X (.builtin "min") (rBi W.toWd C "min" m) := by
  intro pins s σ H xs us Q I r ⟨S, F, μ, ds, Rs, rr, d, S', e, q⟩
  have one : ∀ {d1 : D} {v : V} {is : List Int} {i : Int}, xs = [v] → Rep W.toWd F μ H d1 v → (lstItems S d1).bind intsD = some (i :: is) → d = .int (minI i is) → S' = S → wpAny (model X.prog X.w) X.A (call (.builtin "min") us) (EP X pins σ Q) X.xe s := fun {d1 v is i} ex r1 eb ed es => by
    subst ex ed es
    obtain ⟨ys, e1, e2⟩ := Option.bind_eq_some_iff.mp eb
    obtain ⟨a, vs, rfl, sq, rv⟩ := Rs.lstItems e1 r1
    refine cr_min G.calm pins s σ H _ us Q I r ⟨a, i :: is, rfl, by rw [← ints_rep e2 rv]; exact .inl sq, by simp, fun mx h1 h2 => ?_⟩
    rw [← minI_spec is i mx h1 h2]
    exact EndV.val q Rs (.int _)
  cases ds with
  | nil => simp [bi] at e
  | cons d1 ds =>
    cases ds with
    | nil =>
      obtain ⟨v, ev, r1⟩ := one_arg rr
      simp only [bi] at e
      split at e
      · rename_i i is eb
        cases e
        exact one ev r1 eb rfl rfl
      · cases e
    | cons d2 ds =>
      cases ds with
      | cons _ _ => simp [bi] at e
      | nil =>
        cases rr with
        | cons a b =>
          cases b with
          | cons b c =>
            cases c
            cases a <;> first | (simp [bi] at e; done) | skip
            cases b <;> first | (simp [bi] at e; done) | skip
            rename_i i j
            simp only [bi] at e
            cases e
            refine call_min2 G.calm pins s σ H _ us Q I r ⟨i, j, rfl, ?_⟩
            exact EndV.val q Rs (.int _)
theorem keys_rep {F : Addr → Prop} {μ : List Addr} {H : Hp} : ∀ {kvs : List (Key × D)} {ws : List (L2.Key × V)}, RepK W.toWd F μ H kvs ws → RepL W.toWd F μ H (kvs.map fun p => ofKey p.1) (ws.map fun kv => kV kv.1)
  | _, _, .nil => .nil
  | _, _, .cons (k := q) hq a b => by
    refine .cons ?_ (keys_rep b)
    cases q with
    | inl i => exact .int i
    | inr x => exact .str x hq
theorem c_list (G : Gd W C sh k X) {m : Bool} : CallR X (.type "list") (rBi W.toWd C "list" m) := by
  intro pins s σ H xs us Q I r ⟨S, F, μ, ds, Rs, rr, d, S', e, q⟩
  cases ds with
  | nil => simp [bi] at e
  | cons d1 ds =>
    cases ds with
    | cons _ _ => simp [bi] at e
    | nil =>
      obtain ⟨v, rfl, r1⟩ := one_arg rr
      simp only [bi] at e
      split at e
      · rename_i ys ei
        obtain ⟨a, vs, rfl, sq, rv⟩ := Rs.items ei r1
        exact call_list_of pins s σ H _ us Q I r ⟨a, vs, rfl, by rw [G.hK]; exact sq, fun l hl => new_lst Rs rv hl ⟨d, S', e, q⟩⟩
      · split at e
        · rename_i kvs ei
          obtain ⟨a, ws, rfl, eH, rk⟩ := Rs.pairs ei r1
          exact call_listD G.calm pins s σ H _ us Q I r ⟨a, ws, rfl, eH, fun l hl => new_lst Rs (keys_rep rk) hl ⟨d, S', e, q⟩⟩
        · cases e
theorem c_tuple (G : Gb W C sh k X) {m : Bool} : CallR X (.type "tuple") (rBi W.toWd C "tuple" m) := by
  intro pins s σ H xs us Q I r ⟨S, F, μ, ds, Rs, rr, d, S', e, q⟩
  cases ds with
  | nil => simp [bi] at e
  | cons d1 ds =>
    cases ds with
    | cons _ _ => simp [bi] at e
    | nil =>
      obtain ⟨v, rfl, r1⟩ := one_arg rr
      simp only [bi] at e
      split at e
      · rename_i ys ei
        cases e
        cases d1 with
        | tup zs =>
          cases ei
          obtain ⟨a, vs, rfl, sq, rv⟩ := r1.tupS
          exact call_tuple_of pins s σ H _ us Q I r ⟨a, vs, rfl, .inr ⟨by rw [G.hK]; exact sq, EndV.val q Rs r1⟩⟩
        | lst zs =>
          obtain ⟨a, vs, rfl, sq, rv⟩ := Rs.lstItems (d := .lst zs) rfl r1
          cases ei
          exact call_tuple_of pins s σ H _ us Q I r ⟨a, vs, rfl, .inl ⟨.inl sq, fun l hl => new_tup Rs rv hl q⟩⟩
        | loc n =>
          have ei' : lstItems S (.loc n) = some ys := ei
          obtain ⟨a, vs, rfl, sq, rv⟩ := Rs.lstItems ei' r1
          exact call_tuple_of pins s σ H _ us Q I r ⟨a, vs, rfl, .inl ⟨.inl sq, fun l hl => new_tup Rs rv hl q⟩⟩
        | _ => cases ei
      · cases e
theorem c_dict (G : Gb W C sh k X) {m : Bool} : CallR X (.type "dict") (rBi W.toWd C "dict" m) := by
  intro pins s σ H xs us Q I r ⟨S, F, μ, ds, Rs, rr, d, S', e, q⟩
  cases ds with
  | nil => simp [bi] at e
  | cons d1 ds =>
    cases ds with
    | cons _ _ => simp [bi] at e
    | nil =>
      obtain ⟨v, rfl, r1⟩ := one_arg rr
      simp only [bi] at e
      split at e
      · rename_i kvs ei
        obtain ⟨a, ws, rfl, eH, rk⟩ := Rs.pairs ei r1
        exact call_dictD pins s σ H _ us Q I r ⟨a, ws, rfl, eH, fun l hl => new_dct Rs rk hl ⟨d, S', e, q⟩⟩
      · cases e
theorem str_int {i : Int} (h : 0 ≤ i) : Str.ofString (toString i) = tS (intTxt i) := by
  obtain ⟨m, rfl⟩ : ∃ m : Nat, i = (m : Int) := ⟨i.toNat, by omega⟩
  have e1 := PySem.W.KIN.signs_num m
  have e2 : intTxt (m : Int) = (Nat.toDigits 10 m).map Char.toNat := by
    unfold intTxt natTxt
    rw [if_neg (by omega)]
    rfl
  rw [e2, ← e1]
  unfold tS
  cases h : Str.ofString (toString ((m : Nat) : Int)) with
  | mk c => simp
theorem c_str (G : Gb W C sh k X) {m : Bool} : CallR X (.type "str") (rBi W.toWd C "str" m) := by
  intro pins s σ H xs us Q I r ⟨S, F, μ, ds, Rs, rr, d, S', e, q⟩
  cases ds with
  | nil => simp [bi] at e
  | cons d1 ds =>
    cases ds with
    | cons _ _ => simp [bi] at e
    | nil =>
      obtain ⟨v, rfl, r1⟩ := one_arg rr
      cases r1 with
      | int i =>
        simp only [bi] at e
        split at e
        · rename_i hi
          cases e
          refine call_str_int pins s σ H _ us Q I r ⟨i, rfl, by omega, ?_⟩
          have e1 := str_int hi.1
          have hlen : (intTxt i).length ≤ sizeLine := by
            unfold intTxt natTxt
            rw [if_neg (by omega), List.length_map]
            have h1 : i.natAbs < 10 ^ 1900 := by
              by_cases hz : i.natAbs = 0
              · rw [hz]; exact Nat.pow_pos (by decide)
              · exact Nat.lt_of_lt_of_le ((Nat.log2_lt hz).mp hi.2) (Nat.pow_le_pow_left (by decide) _)
            have h2 : (Nat.toDigits 10 i.natAbs).length ≤ 1900 := (Nat.length_toDigits_le_iff (by decide) (by decide)).mpr h1
            have h3 : 1900 ≤ sizeLine := by decide
            omega
          show Q (.str (Str.ofString (toString i))) H
          rw [e1]
          exact EndV.val q Rs (.str _ hlen)
        · cases e
      | str x hx =>
        simp only [bi] at e
        cases e
        exact SkE.call_str_str pins s σ H _ us Q I r ⟨tS x, rfl, EndV.val q Rs (.str _ hx)⟩
      | _ => simp [bi] at e
end
end PM
set_option Elab.async false
set_option linter.all false
set_option autoImplicit false
set_option maxHeartbeats 4000000
/-! PMMeth: methods of builtin types. -/
namespace PM
open PySem PySem.Spec PyProof.Rows L2
def rBm (W : Wd) (f : String) (m : Bool) : V → List V → Hp → VK → Prop := fun x xs H Q => ∃ (S : St) (F : Addr → Prop) (μ : List Addr) (d : D) (ds : List D), Rl W F μ H S ∧ Rep W F μ H d x ∧ RepL W F μ H ds xs ∧ EndV W F μ H (bm f m d ds S) Q
section
variable {W : Wx} {wx : WX} {C : Ctx} {sh : Shp} {k : Nat} {X : Cx}
def TyX (X : Cx) (f : String) (x : V) (H : Hp) : Prop := (bmT f ≠ .dict → L2.tyV X.K (tyNm (bmT f)) x H) ∧ (bmT f = .dict → ∃ a, x = .ref a ∧ IsD H a)
theorem ty_V {F : Addr → Prop} {μ : List Addr} {H : Hp} {S : St} {d : D} {v : V} {f : String} (G : Gb W C sh k X) (Rs : Rl W.toWd F μ H S) (r : Rep W.toWd F μ H d v) (h : isTy S d (bmT f) = some true) : TyX X f v H := by
  have key : bmT f = .dict ∨ bmT f = .str ∨ bmT f = .list := by
    unfold bmT
    split <;> simp
  refine ⟨fun hn => ?_, fun e => ?_⟩
  rcases key with e | e | e
  · exact absurd e hn
  · rw [e] at h ⊢
    cases r with
    | str x hx => rfl
    | loc z =>
      rename_i i a
      have hlt : i < S.length := by rw [← Rs.len]; exact (List.getElem?_eq_some_iff.mp z).1
      have c := Rs.cell i a _ z (List.getElem?_eq_getElem hlt)
      unfold isTy at h
      simp only [List.getElem?_eq_getElem hlt] at h
      generalize S[i] = cc at h c
      cases c <;> simp at h
    | _ => simp [isTy] at h
  · rw [e] at h ⊢
    cases r with
    | lst f q r => exact .inl ⟨rfl, _, .inl q⟩
    | loc z =>
      rename_i i a
      have hlt : i < S.length := by rw [← Rs.len]; exact (List.getElem?_eq_some_iff.mp z).1
      have c := Rs.cell i a _ z (List.getElem?_eq_getElem hlt)
      unfold isTy at h
      simp only [List.getElem?_eq_getElem hlt] at h
      generalize S[i] = cc at h c
      cases c with
      | lst q r => exact .inl ⟨rfl, _, SqL.of q⟩
      | dct q r => simp at h
      | ins c q r => simp at h
    | _ => simp [isTy] at h
  · rw [e] at h
    cases r with
    | dct f q r => exact ⟨_, rfl, .inl ⟨_, q⟩⟩
    | loc z =>
      rename_i i a
      have hlt : i < S.length := by rw [← Rs.len]; exact (List.getElem?_eq_some_iff.mp z).1
      have c := Rs.cell i a _ z (List.getElem?_eq_getElem hlt)
      unfold isTy at h
      simp only [List.getElem?_eq_getElem hlt] at h
      generalize S[i] = cc at h c
      cases c with
      | dct q r => exact ⟨_, rfl, .inl ⟨_, q.rd⟩⟩
      | lst q r => simp at h
      | ins c q r => simp at h
    | _ => simp [isTy] at h
theorem bm_read (G : Gb W C sh k X) {f : String} {m : Bool} {o : E} {is : List E} {σ : L2.St} {H : Hp} {Q : VK} (h : tE W wx C (.bm f m o is) σ H Q) :
    tE W wx C o σ H fun x H1 => TyX X f x H1 ∧ tL W wx C is σ H1 fun xs H2 => rBm W.toWd f m x xs H2 Q := by
  obtain ⟨ρ, S, F, μ, ro, Rs, h⟩ := h
  unfold evE at h
  refine ⟨ρ, S, F, μ, ro, Rs, (EndR.bind (rel := relD W) h).mono fun v H1 ⟨F1, μ1, x, S1, x1, R1, r1, q⟩ => ?_⟩
  split at q
  case isFalse => exact q.elim
  case isTrue ht =>
  refine ⟨ty_V G R1 r1 ht, ρ, S1, F1, μ1, ro.ext Rs x1, R1, (EndR.bind (rel := relL W) q).mono fun vs H2 ⟨F2, μ2, ds, S2, x2, R2, r2, q2⟩ => ?_⟩
  exact ⟨S2, F2, μ2, x, ds, R2, R1.ext x2 r1, r2, EndV.of q2⟩
theorem e_bm0 (G : Gb W C sh k X) {f id : String} (hd : bmT f ≠ .dict) {m : Bool} {o : E} {oe : Expr} {name : Str} {apos cpos : Pos} (pa : PlainAttrs (tyNm (bmT f))) (slot : Slot (tyNm (bmT f)) name id) (hty : typeOf (.builtin id) = pure (.type "method_descriptor")) (hm : MtR X id (rBm W.toWd f m)) (h1 : notSuper oe = true) (hl : (apos.endLine == cpos.line) = true)
    (ho : PE X oe (tE W wx C o)) : PE X (.Call (.Attribute oe name apos) [] [] cpos) (tE W wx C (.bm f m o [])) :=
  PE_imp (pe_bm0 pa slot hty hm ho (base_ns h1) hl) fun σ H Q h => tR_mono (bm_read G h) fun x H1 ⟨ty, q⟩ => ⟨ty.1 hd, l_nil q⟩
theorem e_bm (G : Gb W C sh k X) {f id : String} (hd : bmT f ≠ .dict) {m : Bool} {o : E} {is : List E} {oe e : Expr} {es : List Expr} {name : Str} {apos cpos : Pos} (pa : PlainAttrs (tyNm (bmT f))) (slot : Slot (tyNm (bmT f)) name id) (hty : typeOf (.builtin id) = pure (.type "method_descriptor")) (hm : MtR X id (rBm W.toWd f m)) (h1 : notSuper oe = true) (hl : (apos.endLine == cpos.line) = true)
    (ns : (e :: es).all (fun e => !isSt e) = true) (hn : (e :: es).length < 20) (ho : PE X oe (tE W wx C o)) (ha : PA X (e :: es) (tL W wx C is)) : PE X (.Call (.Attribute oe name apos) (e :: es) [] cpos) (tE W wx C (.bm f m o is)) := by
  have ns' := ns
  rw [List.all_cons, Bool.and_eq_true] at ns'
  exact PE_imp (pe_bm pa slot hty hm ho ha (base_ns h1) (by
    rw [all_ns ns]
    show decide (_ < 30) = true
    refine decide_eq_true ?_
    show (e :: es).length + 0 + 0 < 30
    omega) hl (starEach_ns (by simpa using ns'.1)) (any_ns ns'.2)) fun σ H Q h => tR_mono (bm_read G h) fun x H1 ⟨ty, q⟩ => ⟨ty.1 hd, q⟩
/-! ### the methods -/
theorem locL {F : Addr → Prop} {μ : List Addr} {H : Hp} {S : St} {n : Nat} {xs : List D} {v : V} (Rs : Rl W.toWd F μ H S) (e : S[n]? = some (.lst xs)) (r : Rep W.toWd F μ H (.loc n) v) : ∃ a vs, v = .ref a ∧ μ[n]? = some a ∧ H a = some (.lst vs) ∧ RepL W.toWd F μ H xs vs := by
  cases r with
  | loc z =>
    have c := Rs.cell n _ _ z e
    cases c with
    | lst q r => exact ⟨_, _, rfl, z, q, r⟩
theorem wr_lst {F : Addr → Prop} {μ : List Addr} {H : Hp} {S : St} {n : Nat} {a : Addr} {ys : List D} {ws : List V} {d : D} {v : V} {Q : VK} (Rs : Rl W.toWd F μ H S) (ha : μ[n]? = some a) (hz : ∀ o u, H a ≠ some (.frz o u)) (rr : RepL W.toWd F μ H ys ws) (rd : Rep W.toWd F μ H d v)
    (q : ∀ (F' : Addr → Prop) (μ' : List Addr) (H' : Hp) (v : V), Ext F μ H F' μ' H' → Rl W.toWd F' μ' H' (S.set n (.lst ys)) → Rep W.toWd F' μ' H' d v → Q v H') : Q v (upd H a (.lst ws)) := by
  have E := Ext.write (o := HO.lst ws) Rs (List.mem_of_getElem? ha) hz
  exact q F μ _ v E (Rs.write ha hz (.lst upd_same (Rs.extL E rr))) (Rs.ext E rd)
theorem m_append {m : Bool} : MtR X "list.append" (rBm W.toWd "append" m) := by
  intro pins s σ H x xs v us Q I rx rs ⟨S, F, μ, d, ds, Rs, r1, r2, d', S', e, q⟩
  cases d <;> first | (simp [bm] at e; done) | skip
  rename_i n
  cases ds with
  | nil => simp [bm] at e
  | cons y ds =>
    cases ds with
    | cons _ _ => simp [bm] at e
    | nil =>
      simp only [bm] at e
      cases es : S[n]? with
      | none => rw [es] at e; cases e
      | some c =>
        rw [es] at e
        cases c with
        | lst ys =>
          simp only at e
          split at e
          · rename_i hl
            cases e
            obtain ⟨a, vs, rfl, ha, hH, rr⟩ := locL Rs es r1
            obtain ⟨w, rfl, rw1⟩ := one_arg r2
            have z4 : sizeMax < sizeLine := by decide
            exact mt_append pins s σ H _ _ v us Q I rx rs ⟨a, vs, w, rfl, rfl, hH, by rw [← rr.length]; omega, wr_lst Rs ha (nfz hH fun _ _ z => nomatch z) (rr.append (.cons rw1 .nil)) .non q⟩
          · cases e
        | dct _ => cases e
        | ins _ _ => cases e
theorem m_reverse {m : Bool} : MtR X "list.reverse" (rBm W.toWd "reverse" m) := by
  intro pins s σ H x xs v us Q I rx rs ⟨S, F, μ, d, ds, Rs, r1, r2, d', S', e, q⟩
  cases d <;> first | (simp [bm] at e; done) | skip
  rename_i n
  cases ds with
  | cons y ds => simp [bm] at e
  | nil =>
      simp only [bm] at e
      cases es : S[n]? with
      | none => rw [es] at e; cases e
      | some c =>
        rw [es] at e
        cases c with
        | lst ys =>
          simp only at e
          cases e
          obtain ⟨a, vs, rfl, ha, hH, rr⟩ := locL Rs es r1
          cases r2
          exact mt_reverse pins s σ H _ _ v us Q I rx rs ⟨a, vs, rfl, rfl, hH, wr_lst Rs ha (nfz hH fun _ _ z => nomatch z) rr.reverse .non q⟩
        | dct _ => cases e
        | ins _ _ => cases e
theorem RepL.dropLast {F : Addr → Prop} {μ : List Addr} {H : Hp} {xs : List D} {vs : List V} (r : RepL W.toWd F μ H xs vs) : RepL W.toWd F μ H xs.dropLast vs.dropLast := by
  rw [List.dropLast_eq_take, List.dropLast_eq_take, r.length]
  exact r.take _
theorem RepL.eraseIdx {F : Addr → Prop} {μ : List Addr} {H : Hp} {xs : List D} {vs : List V} (n : Nat) (r : RepL W.toWd F μ H xs vs) : RepL W.toWd F μ H (xs.eraseIdx n) (vs.eraseIdx n) := by
  rw [List.eraseIdx_eq_take_drop_succ, List.eraseIdx_eq_take_drop_succ]
  exact (r.take _).append (r.drop _)
theorem m_pop {m : Bool} : MtR X "list.pop" (rBm W.toWd "pop" m) := by
  intro pins s σ H x xs v us Q I rx rs ⟨S, F, μ, d, ds, Rs, r1, r2, d', S', e, q⟩
  cases d <;> first | (simp [bm] at e; done) | skip
  rename_i n
  cases ds with
  | nil =>
    simp only [bm] at e
    cases es : S[n]? with
    | none => rw [es] at e; cases e
    | some c =>
      rw [es] at e
      cases c with
      | lst ys =>
        simp only at e
        cases ey : ys.getLast? with
        | none => rw [ey] at e; cases e
        | some y =>
          rw [ey] at e
          cases e
          obtain ⟨a, vs, rfl, ha, hH, rr⟩ := locL Rs es r1
          cases r2
          rw [List.getLast?_eq_getElem?] at ey
          obtain ⟨w, e1, rw1⟩ := rr.get ey
          exact mt_pop pins s σ H _ _ v us Q I rx rs ⟨a, vs, w, rfl, rfl, hH, by rw [← rr.length]; exact e1, wr_lst Rs ha (nfz hH fun _ _ z => nomatch z) rr.dropLast rw1 q⟩
      | dct _ => cases e
      | ins _ _ => cases e
  | cons y ds =>
    cases ds with
    | cons _ _ => simp [bm] at e
    | nil =>
      obtain ⟨w, rfl, rw1⟩ := one_arg r2
      cases rw1 <;> first | (simp [bm] at e; done) | skip
      rename_i i
      simp only [bm] at e
      cases es : S[n]? with
      | none => rw [es] at e; cases e
      | some c =>
        rw [es] at e
        cases c with
        | lst ys =>
          simp only at e
          cases ek : PM.ixN ys.length i with
          | none => rw [ek] at e; cases e
          | some k =>
            rw [ek] at e
            simp only at e
            cases ey : ys[k]? with
            | none => rw [ey] at e; cases e
            | some y =>
              rw [ey] at e
              cases e
              obtain ⟨a, vs, rfl, ha, hH, rr⟩ := locL Rs es r1
              obtain ⟨w, e1, rw1⟩ := rr.get ey
              rw [ixN_eq] at ek
              obtain ⟨h1, h2, h3, h4⟩ := L2.ixN_seq ek
              have hl := line63
              have hz : vs.length ≤ sizeLine := (I.lstM hH).1
              have hll := rr.length
              exact mt_popAt pins s σ H _ _ v us Q I rx rs ⟨a, vs, i, k, w, rfl, rfl, hH, by omega, by omega, by rw [← hll]; exact h1, e1, wr_lst Rs ha (nfz hH fun _ _ z => nomatch z) (rr.eraseIdx k) rw1 q⟩
        | dct _ => cases e
        | ins _ _ => cases e
theorem two_arg {F : Addr → Prop} {μ : List Addr} {H : Hp} {d e : D} {xs : List V} (r : RepL W.toWd F μ H [d, e] xs) : ∃ v u, xs = [v, u] ∧ Rep W.toWd F μ H d v ∧ Rep W.toWd F μ H e u := by
  cases r with
  | cons a b =>
    obtain ⟨u, rfl, q⟩ := one_arg b
    exact ⟨_, _, rfl, a, q⟩
theorem m_insert {m : Bool} : MtR X "list.insert" (rBm W.toWd "insert" m) := by
  intro pins s σ H x xs v us Q I rx rs ⟨S, F, μ, d, ds, Rs, r1, r2, d', S', e, q⟩
  cases d <;> first | (simp [bm] at e; done) | skip
  rename_i n
  cases ds with
  | nil => simp [bm] at e
  | cons di ds =>
    cases ds with
    | nil => cases di <;> simp [bm] at e
    | cons dy ds =>
      cases ds with
      | cons _ _ => cases di <;> simp [bm] at e
      | nil =>
        obtain ⟨vi, vy, rfl, ra, rb⟩ := two_arg r2
        cases ra <;> first | (simp [bm] at e; done) | skip
        rename_i i
        simp only [bm] at e
        cases es : S[n]? with
        | none => rw [es] at e; cases e
        | some c =>
          rw [es] at e
          cases c with
          | lst ys =>
            simp only at e
            split at e
            · rename_i hl
              cases e
              obtain ⟨a, vs, rfl, ha, hH, rr⟩ := locL Rs es r1
              have z4 : sizeMax < sizeLine := by decide
              have hl6 := line63
              have hll := rr.length
              have hrr : RepL W.toWd F μ H (ys.take i.toNat ++ dy :: ys.drop i.toNat) (vs.take i.toNat ++ [vy] ++ vs.drop i.toNat) := by
                rw [List.append_assoc]
                exact (rr.take _).append (.cons rb (rr.drop _))
              exact mt_insert pins s σ H _ _ v us Q I rx rs ⟨a, vs, i, _, rfl, rfl, hH, by omega, hl.1, by omega, wr_lst Rs ha (nfz hH fun _ _ z => nomatch z) hrr .non q⟩
            · cases e
          | dct _ => cases e
          | ins _ _ => cases e
theorem m_extend {m : Bool} : MtR X "list.extend" (rBm W.toWd "extend" m) := by
  intro pins s σ H x xs v us Q I rx rs ⟨S, F, μ, d, ds, Rs, r1, r2, d', S', e, q⟩
  cases d <;> first | (simp [bm] at e; done) | skip
  rename_i n
  cases ds with
  | nil => simp [bm] at e
  | cons y ds =>
    cases ds with
    | cons _ _ => simp [bm] at e
    | nil =>
      simp only [bm] at e
      cases es : S[n]? with
      | none => rw [es] at e; cases e
      | some c =>
        rw [es] at e
        cases c with
        | lst ys =>
          cases ez : lstItems S y with
          | none => rw [ez] at e; cases e
          | some zs =>
            rw [ez] at e
            simp only at e
            split at e
            · rename_i hl
              cases e
              obtain ⟨a, vs, rfl, ha, hH, rr⟩ := locL Rs es r1
              obtain ⟨w, rfl, rw1⟩ := one_arg r2
              obtain ⟨b, ws, rfl, sq, rr2⟩ := Rs.lstItems ez rw1
              have z4 : sizeMax < sizeLine := by decide
              cases rx
              cases rs with
              | cons ru rt =>
                cases rt
                cases ru
                obtain ⟨z, its, n1, r, hl1, e1⟩ := I.lstM hH
                obtain ⟨hlen, its2, n2, rv2, ho⟩ := sq.ok I.hok
                have hl2 := rv2.length
                have hll := rr.length
                have hll2 := rr2.length
                have hsz : its.toArray.size + its2.toArray.size ≤ sizeLine := by rw [List.size_toArray, List.size_toArray]; omega
                have hlong : ¬ (!its.toArray.isEmpty && Builtin.List.listTooLong (its.toArray.size + its2.toArray.size)) = true := by
                  rw [notLongL hsz, Bool.and_false]
                  exact Bool.false_ne_true
                refine call_meets PySem.F.slot_list_extend ⟨_, e1, rfl⟩ PySem.F.entry_list_extend (PySem.F.args_list_extend_2 _ _)
                  (AutoSeq1.list_extend_list_list_0 a its.toArray n1 b its2.toArray n2 hlong (by rw [List.size_toArray]; omega) (by omega)) ⟨e1, ho, ?_⟩
                refine ⟨.non, _, I.lset (its' := its ++ its2) hH e1 (by simp) (r.append rv2) ?_, rfl, wr_lst Rs ha (nfz hH fun _ _ z => nomatch z) (rr.append rr2) .non q⟩
                rw [List.length_append]
                omega
            · cases e
        | dct _ => cases e
        | ins _ _ => cases e
theorem strs_rep {F : Addr → Prop} {μ : List Addr} {H : Hp} : ∀ {xs : List D} {vs : List V} {ts : List Txt}, strsD xs = some ts → RepL W.toWd F μ H xs vs → vs = ts.map (fun t => V.str (tS t)) ∧ ∀ t ∈ ts, t.length ≤ sizeLine
  | [], vs, ts, e, r => by cases e; cases r; exact ⟨rfl, fun t h => by simp at h⟩
  | x :: xs, vs, ts, e, r => by
    cases r with
    | cons a b =>
      cases a <;> simp only [strsD] at e <;> first | (cases e; done) | skip
      rename_i t ht
      obtain ⟨ts', e1, e2⟩ := Option.map_eq_some_iff.mp e
      subst e2
      obtain ⟨h1, h2⟩ := strs_rep e1 b
      rw [h1]
      exact ⟨rfl, fun z hz => (List.mem_cons.mp hz).elim (fun q => by rw [q]; exact ht) (h2 z)⟩
theorem m_index (G : Gb W C sh k X) {m : Bool} : MtR X "list.index" (rBm W.toWd "index" m) := by
  intro pins s σ H x xs v us Q I rx rs ⟨S, F, μ, d, ds, Rs, r1, r2, d', S', e, q⟩
  cases ds with
  | nil => cases d <;> simp [bm] at e
  | cons y ds =>
    cases ds with
    | cons _ _ => cases d <;> cases y <;> simp [bm] at e
    | nil =>
      obtain ⟨w, rfl, rw1⟩ := one_arg r2
      cases rw1 <;> first | (cases d <;> simp [bm] at e; done) | skip
      rename_i t ht
      have e' : (match (lstItems S d).bind strsD with
        | some ts => (match ts.findIdx? fun u => u == t with
          | some k => some (.int (k : Nat), S)
          | none => none)
        | _ => none) = some (d', S') := by
        cases d <;> first | exact e | (simp [bm] at e; exact e) | skip
      cases es : (lstItems S d).bind strsD with
      | none => rw [es] at e'; cases e'
      | some ts =>
        rw [es] at e'
        simp only at e'
        cases ek : ts.findIdx? fun u => u == t with
        | none => rw [ek] at e'; cases e'
        | some j =>
          rw [ek] at e'
          cases e'
          obtain ⟨ys, e1, e2⟩ := Option.bind_eq_some_iff.mp es
          obtain ⟨a, vs, rfl, sq, rr⟩ := Rs.lstItems e1 r1
          obtain ⟨hv, hl⟩ := strs_rep e2 rr
          obtain ⟨hj, h1, h2⟩ := List.findIdx?_eq_some_iff_getElem.mp ek
          refine mt_index pins s σ H _ _ v us Q I rx rs ⟨a, vs, .str (tS t), j, .str (tS ts[j]), rfl, rfl, .inl sq, rfl, ?_, ?_, ?_, fun mm z' hm hz => ?_, EndV.val q Rs (.int _)⟩
          · rw [hv, List.all_map, List.all_eq_true]
            intro z _
            rfl
          · rw [hv, List.getElem?_map, List.getElem?_eq_getElem hj]
            rfl
          · show (tS ts[j] == tS t) = true
            rw [tS_beq]; exact h1
          · rw [hv, List.getElem?_map] at hz
            obtain ⟨u, eu, rfl⟩ := Option.map_eq_some_iff.mp hz
            show (tS u == tS t) = false
            rw [tS_beq]
            obtain ⟨hu, rfl⟩ := List.getElem?_eq_some_iff.mp eu
            have := h2 mm hm
            simpa using this
theorem join_tS (sep : Txt) : ∀ xs : List Txt, Str.join (tS sep) (xs.map tS) = tS (joinT sep xs)
  | [] => rfl
  | [x] => rfl
  | x :: y :: r => by
    show tS x ++ tS sep ++ Str.join (tS sep) ((y :: r).map tS) = tS (x ++ sep ++ joinT sep (y :: r))
    rw [join_tS sep (y :: r), tS_append, tS_append]
theorem joinT_len (sep : Txt) : ∀ xs : List Txt, (joinT sep xs).length ≤ (xs.map (·.length)).sum + xs.length * sep.length
  | [] => Nat.zero_le _
  | [x] => by
    show x.length ≤ _
    simp
  | x :: y :: r => by
    have ih := joinT_len sep (y :: r)
    show (x ++ sep ++ joinT sep (y :: r)).length ≤ _
    simp only [List.length_append, List.map_cons, List.sum_cons, List.length_cons, Nat.add_mul, Nat.one_mul] at ih ⊢
    omega
theorem m_join {m : Bool} : MtR X "str.join" (rBm W.toWd "join" m) := by
  intro pins s σ H x xs v us Q I rx rs ⟨S, F, μ, d, ds, Rs, r1, r2, d', S', e, q⟩
  cases d <;> first | (simp [bm] at e; done) | skip
  rename_i sep
  cases ds with
  | nil => simp [bm] at e
  | cons y ds =>
    cases ds with
    | cons _ _ => simp [bm] at e
    | nil =>
      obtain ⟨w, rfl, rw1⟩ := one_arg r2
      simp only [bm] at e
      cases es : (lstItems S y).bind strsD with
      | none => rw [es] at e; cases e
      | some ts =>
        rw [es] at e
        simp only at e
        split at e
        · rename_i hl
          cases e
          obtain ⟨ys, e1, e2⟩ := Option.bind_eq_some_iff.mp es
          obtain ⟨a, vs, rfl, sq, rr⟩ := Rs.lstItems e1 rw1
          obtain ⟨hv, hlt⟩ := strs_rep e2 rr
          cases r1 with
          | str _ hs =>
            have hjl := joinT_len sep ts
            have z4 : sizeMax < sizeLine := by decide
            have z5 : sizeMax ≤ 16777216 := by decide
            refine mt_join pins s σ H _ _ v us Q I rx rs ⟨tS sep, a, ts.map tS, rfl, rfl, .inl (.inl ?_), ?_, ?_⟩
            · rw [List.map_map]
              have : vs = ts.map (V.str ∘ tS) := hv
              rw [← this]; exact sq
            · rw [List.map_map, List.length_map, tS_len]
              have : (Str.length ∘ tS) = fun t : Txt => t.length := by funext t; exact tS_len t
              rw [this]; omega
            · rw [TL.join_eq, join_tS]
              exact EndV.val q Rs (.str _ (by omega))
        · cases e
theorem m_isdigit {m : Bool} : MtR X "str.isdigit" (rBm W.toWd "isdigit" m) := by
  intro pins s σ H x xs v us Q I rx rs ⟨S, F, μ, d, ds, Rs, r1, r2, d', S', e, q⟩
  cases d <;> first | (simp [bm] at e; done) | skip
  rename_i t
  cases ds with
  | cons y ds => simp [bm] at e
  | nil =>
    simp only [bm] at e
    split at e
    · rename_i ha
      cases e
      cases r2
      cases r1 with
      | str _ hs =>
        refine mt_isdigit pins s σ H _ _ v us Q I rx rs ⟨tS t, rfl, rfl, True.intro, ?_⟩
        have e1 : Txt.isdigit (tS t) = (!t.isEmpty && t.all PM.isDigit) := by
          unfold PySem.Txt.isdigit
          rw [tS_len]
          have h1 : (decide (t.length > 0)) = !t.isEmpty := by cases t <;> simp
          rw [h1]
          congr 1
          unfold tS
          rw [← Array.all_toList]
          simp only [List.toList_toArray]
          have key : ∀ c : Nat, c < 128 → Unicode.isDigit c = PM.isDigit c := by decide +kernel
          have h2 : ∀ l : List Nat, l.all (fun c => decide (c < 128)) = true → l.all Unicode.isDigit = l.all PM.isDigit := fun l hl => by
            induction l with
            | nil => rfl
            | cons c r ih =>
              rw [List.all_cons, Bool.and_eq_true] at hl
              rw [List.all_cons, List.all_cons, key c (of_decide_eq_true hl.1), ih hl.2]
          exact h2 t ha
        rw [e1]
        exact EndV.val q Rs (.bl _)
    · cases e
theorem m_get (G : Gb W C sh k X) {m : Bool} {o e : Expr} {oI eI : E} {apos cpos : Pos} (h1 : notSuper o = true) (ns : isSt e = false) (hl : (apos.endLine == cpos.line) = true) (ho : PE X o (tE W wx C oI)) (he : PE X e (tE W wx C eI)) : PE X (.Call (.Attribute o "get" apos) [e] [] cpos) (tE W wx C (.bm "get" m oI [eI])) := by
  have ms : M1 X o "get" apos e cpos := ⟨base_ns h1, by rw [all_ns (by simp [ns])]; rfl, hl, by rw [starEach_ns ns]; rfl⟩
  refine PE_imp (pe_dget1 (by have := G.hu; omega) ho he ms) fun σ H Q h => tR_mono (bm_read G h) fun x H1 ⟨ty, q⟩ => ?_
  obtain ⟨a, rfl, hD⟩ := ty.2 rfl
  refine ⟨a, rfl, hD, tR_mono (l_cons q) fun y H2 q2 => ?_⟩
  obtain ⟨S, F, μ, d, ds, Rs, r1, r2, d', S', e', q3⟩ := l_nil q2
  cases ds with
  | nil => cases d <;> simp [bm] at e'
  | cons yd ds =>
    cases ds with
    | cons _ _ => cases r2 with
      | cons _ b => cases b
    | nil =>
      have ry := r2.one
      have e2 : (match pairs S d, keyOf yd with
        | some kvs, some q => some ((getK kvs q).getD .non, S)
        | _, _ => none) = some (d', S') := by
        cases d <;> first | exact e' | (simp only [bm] at e'; exact e')
      cases ep : pairs S d with
      | none => rw [ep] at e2; cases e2
      | some kvs =>
        cases ek : keyOf yd with
        | none => rw [ep, ek] at e2; cases e2
        | some qk =>
          rw [ep, ek] at e2
          cases e2
          obtain ⟨a', ws, ea, eH, rk⟩ := Rs.pairs ep r1
          cases ea
          obtain ⟨ey, _⟩ := keyRep ek ry
          subst ey
          refine ⟨valV ws (kQ qk), dgetK eH, ?_⟩
          rcases rk.get qk with ⟨z1, z2⟩ | ⟨dd, vv, z1, z2, rz⟩
          · rw [z2]; rw [z1] at q3; exact EndV.val q3 Rs .non
          · rw [z2]; rw [z1] at q3; exact EndV.val q3 Rs rz
theorem m_get2 (G : Gb W C sh k X) {m : Bool} {o e f : Expr} {oI eI fI : E} {apos cpos : Pos} (h1 : notSuper o = true) (ns : isSt e = false) (ns2 : isSt f = false) (hl : (apos.endLine == cpos.line) = true) (ho : PE X o (tE W wx C oI)) (he : PE X e (tE W wx C eI)) (hf : PE X f (tE W wx C fI)) : PE X (.Call (.Attribute o "get" apos) [e, f] [] cpos) (tE W wx C (.bm "get" m oI [eI, fI])) := by
  have ms : M2 X o "get" apos e f cpos := ⟨base_ns h1, by rw [all_ns (by simp [ns, ns2])]; rfl, hl, by rw [starEach_ns ns, starEach_ns ns2]; rfl⟩
  refine PE_imp (pe_dget2 (by have := G.hu; omega) ho he hf ms) fun σ H Q h => tR_mono (bm_read G h) fun x H1 ⟨ty, q⟩ => ?_
  obtain ⟨a, rfl, hD⟩ := ty.2 rfl
  refine ⟨a, rfl, hD, tR_mono (l_cons q) fun y H2 q2 => tR_mono (l_cons q2) fun z H3 q3 => ?_⟩
  obtain ⟨S, F, μ, d, ds, Rs, r1, r2, d', S', e', q4⟩ := l_nil q3
  cases ds with
  | nil => cases d <;> simp [bm] at e'
  | cons yd ds =>
    cases ds with
    | nil => cases r2 with
      | cons _ b => cases b
    | cons zd ds =>
      cases ds with
      | cons _ _ => cases r2 with
        | cons _ b => cases b with
          | cons _ b => cases b
      | nil =>
        obtain ⟨ry, rz0⟩ := r2.two
        have e2 : (match pairs S d, keyOf yd with
          | some kvs, some q => some ((getK kvs q).getD zd, S)
          | _, _ => none) = some (d', S') := by
          cases d <;> first | exact e' | (simp only [bm] at e'; exact e')
        cases ep : pairs S d with
        | none => rw [ep] at e2; cases e2
        | some kvs =>
          cases ek : keyOf yd with
          | none => rw [ep, ek] at e2; cases e2
          | some qk =>
            rw [ep, ek] at e2
            cases e2
            obtain ⟨a', ws, ea, eH, rk⟩ := Rs.pairs ep r1
            cases ea
            obtain ⟨ey, _⟩ := keyRep ek ry
            subst ey
            refine ⟨valV ws (kQ qk), dgetK eH, ?_⟩
            rcases rk.get qk with ⟨z1, z2⟩ | ⟨dd, vv, z1, z2, rz⟩
            · rw [z2]; rw [z1] at q4; exact EndV.val q4 Rs rz0
            · rw [z2]; rw [z1] at q4; exact EndV.val q4 Rs rz
theorem RepK.dropK_ {W : Wd} {F : Addr → Prop} {μ : List Addr} {H : Hp} {k : Key} : ∀ {kvs : List (Key × D)} {ws : List (L2.Key × V)}, RepK W F μ H kvs ws → RepK W F μ H (PM.dropK kvs k) (L2.dropK ws (kQ k))
  | _, _, .nil => .nil
  | (k', x) :: kvs, (_, v) :: ws, .cons h a b => by
    unfold PM.dropK L2.dropK
    rw [List.filter_cons, List.filter_cons]
    by_cases e : k' = k
    · have e1 : decide (k' ≠ k) = false := by simp [e]
      have e2 : decide (kQ k' ≠ kQ k) = false := by simp [e]
      simp only [e1, e2]
      exact RepK.dropK_ b
    · have e1 : decide (k' ≠ k) = true := by simp [e]
      have e2 : decide (kQ k' ≠ kQ k) = true := decide_eq_true fun z => e (kQ_inj z)
      simp only [e1, e2]
      exact .cons h a (RepK.dropK_ b)
/-- d.pop(k) of a dict -/
theorem m_dpop (G : Gb W C sh k X) {m : Bool} {o e : Expr} {oI eI : E} {apos cpos : Pos} (h1 : notSuper o = true) (ns : isSt e = false) (hl : (apos.endLine == cpos.line) = true) (ho : PE X o (tE W wx C oI)) (he : PE X e (tE W wx C eI)) :
    PE X (.Call (.Attribute o "pop" apos) [e] [] cpos) (tE W wx C (.bm "dpop" m oI [eI])) := by
  have ms : M1 X o "pop" apos e cpos := ⟨base_ns h1, by rw [all_ns (by simp [ns])]; rfl, hl, by rw [starEach_ns ns]; rfl⟩
  refine PE_imp (pe_dpop1 ho he ms) fun σ H Q h => tR_mono (bm_read G h) fun x H1 ⟨ty, q⟩ => ?_
  obtain ⟨a, rfl, hD⟩ := ty.2 rfl
  refine ⟨a, rfl, hD, tR_mono (l_cons q) fun y H2 q2 => ?_⟩
  obtain ⟨S, F, μ, d, ds, Rs, r1, r2, d', S', e', q3⟩ := l_nil q2
  cases ds with
  | nil => cases d <;> simp [bm] at e'
  | cons yd ds =>
    cases ds with
    | cons _ _ => cases r2 with
      | cons _ b => cases b
    | nil =>
      have ry := r2.one
      cases d <;> first | (simp [bm] at e'; done) | skip
      rename_i n
      simp only [bm] at e'
      split at e'
      · rename_i kvs qk eS ek
        obtain ⟨dv, eg, ez⟩ := Option.map_eq_some_iff.mp e'
        cases ez
        have z : μ[n]? = some a := by cases r1 with | loc z => exact z
        have c := Rs.cell n a _ z eS
        cases c with
        | @dct _ _ ws eH rk =>
          obtain ⟨ey, hq⟩ := keyRep ek ry
          subst ey
          have eH' : H2 a = some (.dK ws) := eH
          rcases rk.get qk with ⟨z1, z2⟩ | ⟨dd, vv, z1, z2, rz⟩
          · rw [z1] at eg; cases eg
          · rw [z1] at eg
            cases eg
            refine ⟨ws, kQ qk, vv, eH', rfl, z2, ?_⟩
            have hz := nfz eH' fun _ _ z => nomatch z
            have E := Ext.write (o := HO.dK (L2.dropK ws (kQ qk))) Rs (List.mem_of_getElem? z) hz
            have rk2 : RepK W.toWd F μ H2 (PM.dropK kvs qk) (L2.dropK ws (kQ qk)) := RepK.dropK_ rk
            exact q3 F μ _ vv E (Rs.write z hz (.dct (lk := false) upd_same (rk2.ext Rs.fz Rs.off E))) (Rs.ext E rz)
      · cases e'
end
end PM
set_option Elab.async false
set_option linter.all false
set_option autoImplicit false
set_option maxHeartbeats 4000000
/-! PMStmt: statements. -/
namespace PM
open PySem PySem.Spec PyProof.Rows L2
theorem PS_imp {X : Cx} {e : Stmt} {t t' : TS} (h : PS X e t) (i : ∀ D σ H, t' D σ H → t D σ H) : PS X e t' := ⟨fun pins s σ H D I q => h.run pins s σ H D I (i D σ H q)⟩
theorem PSs_imp {X : Cx} {e : List Stmt} {t t' : TS} (h : PSs X e t) (i : ∀ D σ H, t' D σ H → t D σ H) : PSs X e t' := ⟨fun pins s σ H D I q => h.run pins s σ H D I (i D σ H q)⟩
abbrev tSt (W : Wx) (wx : WX) (C : Ctx) (s : S) : TS := tS' W wx (evS C s)
abbrev tSts (W : Wx) (wx : WX) (C : Ctx) (s : List S) : TS := tS' W wx (evSs C s)
section
variable {W : Wx} {wx : WX} {C : Ctx} {sh : Shp} {k : Nat} {X : Cx}
theorem s_nil : PSs X [] (tSts W wx C []) := PSs_imp pss_nil fun D σ H h => by
  obtain ⟨ρ, S, F, μ, o, Rs, h⟩ := h
  unfold evSs at h
  exact h F μ H σ Ext.refl Rs o
theorem s_cons {st : Stmt} {sts : List Stmt} {i : S} {is : List S} (h1 : PS X st (tSt W wx C i)) (h2 : PSs X sts (tSts W wx C is)) : PSs X (st :: sts) (tSts W wx C (i :: is)) := PSs_imp (pss_cons h1 h2) fun D σ H h => by
  obtain ⟨ρ, S, F, μ, o, Rs, h⟩ := h
  unfold evSs at h
  refine ⟨ρ, S, F, μ, o, Rs, ?_⟩
  cases e : evS C i ρ S with
  | nx ρ1 S1 =>
    rw [e] at h
    exact fun F1 μ1 H1 σ1 E1 R1 o1 => ⟨ρ1, S1, F1, μ1, o1, R1, EndS.shift E1 h⟩
  | rt d S1 => rw [e] at h; exact h
  | bk ρ1 S1 => rw [e] at h; exact h
  | ct ρ1 S1 => rw [e] at h; exact h
  | ex c v ρ1 S1 => rw [e] at h; exact h
  | bad => rw [e] at h; exact h
theorem s_skip {pos : Pos} : PS X (.Pass pos) (tSt W wx C .skip) := PS_imp ps_pass fun D σ H h => by
  obtain ⟨ρ, S, F, μ, o, Rs, h⟩ := h
  unfold evS at h
  exact h F μ H σ Ext.refl Rs o
theorem s_brk {pos : Pos} : PS X (.Break pos) (tSt W wx C .brk) := PS_imp ps_break fun D σ H h => by
  obtain ⟨ρ, S, F, μ, o, Rs, h⟩ := h
  unfold evS at h
  exact h F μ H σ Ext.refl Rs o
theorem s_cnt {pos : Pos} : PS X (.Continue pos) (tSt W wx C .cnt) := PS_imp ps_continue fun D σ H h => by
  obtain ⟨ρ, S, F, μ, o, Rs, h⟩ := h
  unfold evS at h
  exact h F μ H σ Ext.refl Rs o
def isCmp : Expr → Bool
  | .ListComp .. | .SetComp .. | .DictComp .. => true
  | _ => false
theorem sw_false {e : Expr} {t : Option Expr} {l : Nat} {env : PySem.Env} (h : isCmp e = false) : swapsWith e t l env = pure false := by
  cases e <;> first | rfl | cases h
/-- an expression read, then the rest -/
theorem st_e {run : E} {i : S} {f : Env → D → St → Fl} (he : ∀ ρ S, evS C i ρ S = (evE C run ρ S).fl ρ (f ρ)) {D : Ends} {σ : L2.St} {H : Hp} (h : tSt W wx C i D σ H) :
    tE W wx C run σ H fun x H1 => ∃ (ρ : Env) (S1 : St) (F1 : Addr → Prop) (μ1 : List Addr) (a : PM.D), Ro W F1 μ1 H1 ρ σ ∧ Rl W.toWd F1 μ1 H1 S1 ∧ Rep W.toWd F1 μ1 H1 a x ∧ EndS W wx F1 μ1 H1 (f ρ a S1) D := by
  refine tS_fl (rel := relD W) (f := f) ?_
  obtain ⟨ρ, S, F, μ, o, Rs, h⟩ := h
  rw [he] at h
  exact ⟨ρ, S, F, μ, o, Rs, h⟩
theorem s_ex {e : Expr} {i : E} {pos : Pos} (he : PE X e (tE W wx C i)) (hc : isCmp e = false) : PS X (.Expr e pos) (tSt W wx C (.ex i)) := PS_imp (ps_expr he (sw_false hc)) fun D σ H h =>
  tR_mono (st_e (run := i) (f := fun ρ _ S1 => .nx ρ S1) (fun ρ S => by rw [evS]) h) fun x H1 ⟨ρ, S1, F1, μ1, a, o1, R1, r1, q⟩ => q F1 μ1 H1 σ Ext.refl R1 o1
theorem s_ret {e : Expr} {i : E} {pos : Pos} (he : PE X e (tE W wx C i)) : PS X (.Return (some e) pos) (tSt W wx C (.ret i)) := PS_imp (ps_ret he) fun D σ H h =>
  tR_mono (st_e (run := i) (f := fun _ x S1 => .rt x S1) (fun ρ S => by rw [evS]) h) fun x H1 ⟨ρ, S1, F1, μ1, a, o1, R1, r1, q⟩ => q F1 μ1 H1 x Ext.refl R1 r1
theorem s_retN {pos : Pos} : PS X (.Return none pos) (tSt W wx C (.ret (.cst .non))) := PS_imp ps_retN fun D σ H h => by
  obtain ⟨ρ, S, F, μ, o, Rs, h⟩ := h
  unfold evS evE at h
  exact h F μ H .non Ext.refl Rs .non
theorem s_ite {c : Expr} {a b : List Stmt} {ci : E} {ai bi : List S} {pos : Pos} (hc : PT X c (tT W wx C ci)) (ha : PSs X a (tSts W wx C ai)) (hb : PSs X b (tSts W wx C bi)) : PS X (.If c a b pos) (tSt W wx C (.ite ci ai bi)) := PS_imp (ps_if hc ha hb) fun D σ H h => by
  have h' : tS' W wx (fun ρ S => ((evE C ci ρ S).tru).fl ρ fun k S1 => if k then evSs C ai ρ S1 else evSs C bi ρ S1) D σ H := by
    obtain ⟨ρ, S, F, μ, o, Rs, h⟩ := h
    unfold evS at h
    exact ⟨ρ, S, F, μ, o, Rs, h⟩
  refine tR_mono (tS_fl (rel := relE) (f := fun ρ k S1 => if k then evSs C ai ρ S1 else evSs C bi ρ S1) h') fun k H1 ⟨ρ, S1, F1, μ1, a, o1, R1, r1, q⟩ => ?_
  cases r1
  cases k with
  | true => exact ⟨ρ, S1, F1, μ1, o1, R1, q⟩
  | false => exact ⟨ρ, S1, F1, μ1, o1, R1, q⟩
/-- target = e -/
theorem s_set {tg e : Expr} {t : Tg} {i : E} {pos : Pos} (he : PE X e (tE W wx C i)) (hg : PG X tg (gT W t)) (hs : swapsWith e (some tg) pos.line X.env = pure false) (hw : swappedStores [tg] e X.env = pure none) (h1 : (assignEach [tg] X.env).map (·.2) = [assign tg X.env]) :
    PS X (.Assign [tg] e pos) (tSt W wx C (.set t i)) := PS_imp (ps_asg he hg hs hw h1) fun D σ H h =>
  tR_mono (st_e (run := i) (f := fun ρ x S1 => Fl.ofO (bindT S1 t x ρ) fun ρ1 => .nx ρ1 S1) (fun ρ S => by rw [evS]) h) fun x H1 ⟨ρ, S1, F1, μ1, a, o1, R1, r1, q⟩ => by
    obtain ⟨ρ', eb, q⟩ := EndS.ofO q
    exact ⟨ρ, ρ', S1, F1, μ1, a, o1, R1, r1, eb, fun σ' o' _ _ => q F1 μ1 H1 σ' Ext.refl R1 o'⟩
/-- a, b = x, y -/
theorem s_par2 (G : Gd W C sh k X) {a b : Nat} {x y : Str} {e1 e2 : Expr} {i1 i2 : E} {px py pt : Pos} {kt k2 pt2} {pos : Pos} (hi : X.N[a]? = some x) (hj : X.N[b]? = some y) (hij : a ≠ b) (hx : X.env.scope.names.lookup x = some .local) (hy : X.env.scope.names.lookup y = some .local)
    (n1 : isSt e1 = false) (n2 : isSt e2 = false) (h1 : PE X e1 (tE W wx C i1)) (h2 : PE X e2 (tE W wx C i2)) (hw : swappedStores [.Tuple [.Name x px, .Name y py] kt pt] (.Tuple [e1, e2] k2 pt2) X.env = pure (some [x, y])) :
    PS X (.Assign [.Tuple [.Name x px, .Name y py] kt pt] (.Tuple [e1, e2] k2 pt2) pos) (tSt W wx C (.set (.tp [a, b]) (.tup [false, false] [i1, i2]))) :=
  PS_imp (ps_par G.calm G.nd hi hj hij hx hy (a_sl G.toGb (.pl n1 h1 (.pl n2 h2 .nil))) hw rfl) fun D σ H h => by
    have h' : tS' W wx (fun ρ S => (evSL C [false, false] [i1, i2] ρ S).fl ρ fun ds S1 => if ds.length ≤ sizeMax then Fl.ofO (bindT S1 (.tp [a, b]) (.tup ds) ρ) (fun ρ1 => .nx ρ1 S1) else .bad) D σ H := by
      obtain ⟨ρ, S, F, μ, o, Rs, h⟩ := h
      refine ⟨ρ, S, F, μ, o, Rs, ?_⟩
      simp only
      unfold evS evE at h
      cases e : evSL C [false, false] [i1, i2] ρ S with
      | bad => rw [e] at h; exact h
      | ex _ _ _ => rw [e] at h; exact h
      | ok ds S1 =>
        rw [e] at h
        show EndS W wx F μ H (if ds.length ≤ sizeMax then Fl.ofO (bindT S1 (.tp [a, b]) (.tup ds) ρ) (fun ρ1 => .nx ρ1 S1) else .bad) D
        replace h : EndS W wx F μ H ((if ds.length ≤ sizeMax then R.ok (.tup ds) S1 else .bad : PM.R PM.D).fl ρ fun x S1 => Fl.ofO (bindT S1 (.tp [a, b]) x ρ) fun ρ1 => .nx ρ1 S1) D := h
        by_cases hd : ds.length ≤ sizeMax
        · rw [if_pos hd] at h ⊢; exact h
        · rw [if_neg hd] at h ⊢; exact h
    refine tR_mono (tS_fl (rel := relL W) (f := fun ρ ds S1 => if ds.length ≤ sizeMax then Fl.ofO (bindT S1 (.tp [a, b]) (.tup ds) ρ) (fun ρ1 => .nx ρ1 S1) else .bad) h') fun vs H1 ⟨ρ, S1, F1, μ1, ds, o1, R1, r1, q⟩ => ?_
    split at q
    · obtain ⟨ρ', eb, q⟩ := EndS.ofO q
      unfold bindT at eb
      simp only at eb
      split at eb
      · rename_i hl
        cases r1 with
        | nil => cases hl
        | cons ra r1 =>
          cases r1 with
          | nil => cases hl
          | cons rb r1 =>
            cases r1 with
            | cons _ _ => cases hl
            | nil =>
              cases eb
              exact ⟨_, _, rfl, q F1 μ1 H1 _ Ext.refl R1 ((o1.set ra).set rb)⟩
      · cases eb
    · exact q.elim
/-- o.f = e -/
theorem putF_rep {F : Addr → Prop} {μ : List Addr} {H : Hp} {f : String} {d : PM.D} {v : V} (r : Rep W.toWd F μ H d v) : ∀ {fs : List (String × PM.D)} {ws : List (Str × V)}, RepF W.toWd F μ H fs ws → RepF W.toWd F μ H (PM.putF fs f d) (L2.putF (Str.ofString f) v ws)
  | _, _, .nil => .cons r .nil
  | _, _, .cons (f := g) a b => by
    unfold PM.putF L2.putF
    by_cases e : g = f
    · rw [if_pos e, if_pos (by rw [e])]
      exact .cons r b
    · rw [if_neg e, if_neg fun z => e (ofS_inj z)]
      exact .cons a (putF_rep r b)
theorem RepF.len {F : Addr → Prop} {μ : List Addr} {H : Hp} : ∀ {fs : List (String × PM.D)} {ws : List (Str × V)}, RepF W.toWd F μ H fs ws → fs.length = ws.length
  | _, _, .nil => rfl
  | _, _, .cons _ b => congrArg Nat.succ (RepF.len b)
theorem cell_ins {F : Addr → Prop} {μ : List Addr} {H : Hp} {a : Addr} {c : String} {fs : List (String × PM.D)} (h : CellR W.toWd F μ H a (.ins c fs)) : ∃ Ca dx ws, W.cl c = some Ca ∧ H a = some (.ins Ca dx ws) ∧ RepF W.toWd F μ H fs ws := by
  cases h with
  | ins a b c => exact ⟨_, _, _, a, b, c⟩
theorem cell_dct {F : Addr → Prop} {μ : List Addr} {H : Hp} {a : Addr} {kvs : List (Key × PM.D)} (h : CellR W.toWd F μ H a (.dct false kvs)) : ∃ ws, H a = some (.dK ws) ∧ RepK W.toWd F μ H kvs ws := by
  cases h with
  | dct a b => exact ⟨_, a, b⟩
theorem setIx_inv {S S4 : St} {y z x : PM.D} (h : setIx S y z x = some S4) : (∃ n xs k j, y = .loc n ∧ z = .int k ∧ S[n]? = some (.lst xs) ∧ PM.ixN xs.length k = some j ∧ S4 = S.set n (.lst (xs.set j x))) ∨
    ∃ n kvs q, y = .loc n ∧ S[n]? = some (.dct false kvs) ∧ kvs.length < sizeMax ∧ keyOf z = some q ∧ S4 = S.set n (.dct false (PM.putK kvs q x)) := by
  unfold setIx at h
  split at h
  · rename_i n
    split at h
    · rename_i ys kk eS
      obtain ⟨j, ej, ee⟩ := Option.map_eq_some_iff.mp h
      exact .inl ⟨n, ys, kk, j, rfl, rfl, eS, ej, ee.symm⟩
    · rename_i kvs eS
      split at h
      · rename_i hl
        obtain ⟨q, ej, ee⟩ := Option.map_eq_some_iff.mp h
        exact .inr ⟨n, kvs, q, rfl, eS, hl, ej, ee.symm⟩
      · cases h
    · cases h
  · cases h
theorem setFd_inv {C : Ctx} {S S3 : St} {y x : PM.D} {f : String} (h : setFd C S y f x = some S3) : ∃ n c fs, y = .loc n ∧ S[n]? = some (.ins c fs) ∧ C.isF c f = true ∧ fs.length < 100 ∧ S3 = S.set n (.ins c (PM.putF fs f x)) := by
  unfold setFd at h
  split at h
  · rename_i n
    split at h
    · rename_i c fs eS
      split at h
      · rename_i hc
        cases h
        exact ⟨n, c, fs, rfl, eS, hc.1, hc.2, rfl⟩
      · cases h
    · cases h
  · cases h
theorem loc_at {F : Addr → Prop} {μ : List Addr} {H : Hp} {n : Nat} {v : V} (r : Rep W.toWd F μ H (.loc n) v) : ∃ p, v = .ref p ∧ μ[n]? = some p := by
  cases r with
  | loc z => exact ⟨_, rfl, z⟩
theorem s_fset (G : Gb W C sh k X) {oe ve : Expr} {oI vI : E} {f : String} {y : Str} {pos' pos : Pos} (hy : y = Str.ofString f) (hc : swapsWith ve (some (.Attribute oe y pos')) pos.line X.env = pure false) (ho : PE X oe (tE W wx C oI)) (hv : PE X ve (tE W wx C vI)) :
    PS X (.Assign [.Attribute oe y pos'] ve pos) (tSt W wx C (.fset oI f vI)) := PS_imp (ps_fld ho hv hc) fun D σ H h =>
  tR_mono (st_e (run := vI) (f := fun ρ x S1 => (evE C oI ρ S1).fl ρ fun y S2 => Fl.ofO (setFd C S2 y f x) fun S3 => .nx ρ S3) (fun ρ S => by rw [evS]) h) fun x H1 ⟨ρ, S1, F1, μ1, a, o1, R1, r1, q⟩ => by
    refine ⟨ρ, S1, F1, μ1, o1, R1, (EndS.fl (rel := relD W) o1 R1 q).mono fun yv H2 ⟨F2, μ2, od, S2, x2, R2, o2, r2, q2⟩ => ?_⟩
    obtain ⟨S3, es, q3⟩ := EndS.ofO q2
    obtain ⟨n, c, fs, rfl, eS, hf1, hf2, rfl⟩ := setFd_inv es
    obtain ⟨p, rfl, z⟩ := loc_at r2
    obtain ⟨Ca, dx, ws, ec, eH, rf⟩ := cell_ins (R2.cell n p _ z eS)
    refine ⟨p, Ca, dx, ws, rfl, eH, G.st.cls c Ca ec, by rw [hy]; exact G.st.no c f Ca ec hf1, ?_, ?_⟩
    · rw [← RepF.len rf]; omega
    · rw [hy]
      have E := Ext.write (o := HO.ins Ca dx (L2.putF (Str.ofString f) x ws)) R2 (List.mem_of_getElem? z) (nfz eH fun _ _ z => nomatch z)
      have rx := R1.ext x2 r1
      exact q3 F2 μ2 _ σ E (R2.write z (nfz eH fun _ _ z => nomatch z) (.ins ec upd_same ((putF_rep rx rf).ext R2.fz R2.off E))) (o2.ext R2 E)
/-- o[i] = e: of a list or a dict -/
def rSetLD (hu : Prop) : TSet := fun o i v H Q => rSetL o i v H Q ∨ rSetD o i v H Q
theorem set_ld (hu : X.A.units + 1 < cLine) : PSet X (rSetLD True) := fun pins s σ H o i v ov iv u Q I ro ri rv h => by
  rcases h with h | h
  · exact set_list pins s σ H o i v ov iv u Q I ro ri rv h
  · exact set_dict hu pins s σ H o i v ov iv u Q I ro ri rv h
def isSl : Expr → Bool
  | .Slice .. => true
  | _ => false
theorem s_iset (G : Gb W C sh k X) {oe ie ve : Expr} {oI iI vI : E} {pos' pos : Pos} (hc : swapsWith ve (some (.Subscript oe ie pos')) pos.line X.env = pure false) (hw : swappedStores [.Subscript oe ie pos'] ve X.env = pure none)
    (ha : ∀ v, assign (.Subscript oe ie pos') X.env v = (do
      let ov ← holding [v] (eval oe X.env)
      let iv ← holding [v, ov] (eval ie X.env)
      standAt pos'
      holding [v, ov, iv] (setItem ov iv v)
      release [v, ov, iv] []))
    (h1 : (assignEach [.Subscript oe ie pos'] X.env).map (·.2) = [assign (.Subscript oe ie pos') X.env])
    (ho : PE X oe (tE W wx C oI)) (hi : PE X ie (tE W wx C iI)) (hv : PE X ve (tE W wx C vI)) :
    PS X (.Assign [.Subscript oe ie pos'] ve pos) (tSt W wx C (.iset oI iI vI)) := PS_imp (ps_asg hv (pg_sub ho hi (set_ld (by have := G.hu; omega)) ha) hc hw h1) fun D σ H h =>
  tR_mono (st_e (run := vI) (f := fun ρ x S1 => (evE C oI ρ S1).fl ρ fun y S2 => (evE C iI ρ S2).fl ρ fun z S3 => Fl.ofO (setIx S3 y z x) fun S4 => .nx ρ S4) (fun ρ S => by rw [evS]) h) fun x H1 ⟨ρ, S1, F1, μ1, a, o1, R1, r1, q⟩ => by
    refine ⟨ρ, S1, F1, μ1, o1, R1, (EndS.fl (rel := relD W) o1 R1 q).mono fun yv H2 ⟨F2, μ2, od, S2, x2, R2, o2, r2, q2⟩ => ?_⟩
    refine ⟨ρ, S2, F2, μ2, o2, R2, (EndS.fl (rel := relD W) o2 R2 q2).mono fun zv H3 ⟨F3, μ3, id, S3, x3, R3, o3, r3, q3⟩ => ?_⟩
    obtain ⟨S4, es, q4⟩ := EndS.ofO q3
    have rx := R2.ext x3 (R1.ext x2 r1)
    have ry := R2.ext x3 r2
    rcases setIx_inv es with ⟨n, ys, kk, j, rfl, rfl, eS, ej, rfl⟩ | ⟨n, kvs, qk, rfl, eS, hlt, ej, rfl⟩
    · cases r3
      obtain ⟨p, vs, rfl, z, eH, rr⟩ := locL R3 eS ry
      rw [ixN_eq, rr.length] at ej
      refine .inl ⟨p, vs, kk, j, rfl, rfl, eH, ej, ?_⟩
      have E := Ext.write (o := HO.lst (vs.set j x)) R3 (List.mem_of_getElem? z) (nfz eH fun _ _ z => nomatch z)
      exact q4 F3 μ3 _ σ E (R3.write z (nfz eH fun _ _ z => nomatch z) (.lst upd_same ((rr.set j rx).ext R3.fz R3.off E))) (o3.ext R3 E)
    · obtain ⟨p, rfl, z⟩ := loc_at ry
      obtain ⟨ws, eH, rk⟩ := cell_dct (R3.cell n p _ z eS)
      obtain ⟨ek, hk⟩ := keyRep ej r3
      subst ek
      have z4 : sizeMax < sizeLine := by decide
      have hlen : ws.length < sizeLine := by rw [← rk.len]; omega
      refine .inr ⟨p, upd H3 p (.dK (L2.putK ws (kQ qk) x)), rfl, DPut.k eH hlen, ?_⟩
      have E := Ext.write (o := HO.dK (L2.putK ws (kQ qk) x)) R3 (List.mem_of_getElem? z) (nfz eH fun _ _ z => nomatch z)
      exact q4 F3 μ3 _ σ E (R3.write z (nfz eH fun _ _ z => nomatch z) (.dct (lk := false) upd_same ((rk.put hk rx).ext R3.fz R3.off E))) (o3.ext R3 E)
end
end PM
set_option Elab.async false
set_option linter.all false
set_option autoImplicit false
set_option maxHeartbeats 4000000
/-! PMStmt2: loops. -/
namespace PM
open PySem PySem.Spec PyProof.Rows L2
section
variable {W : Wx} {wx : WX} {C : Ctx} {sh : Shp} {k : Nat} {X : Cx}
/-- the turns of a for loop, where xs are what J hands out -/
theorem loop_core {t : Tg} {b : List S} {D : Ends} {σ : L2.St} {ρ : Env} {F1 : Addr → Prop} {μ1 : List Addr} {H1 : Hp} {S1 : St} {ds xs : List PM.D} {J : It} (hJ' : ItOk W J S1 ds xs F1 μ1 H1) (R1 : Rl W.toWd F1 μ1 H1 S1) (o1 : Ro W F1 μ1 H1 ρ σ)
    (q : EndS W wx F1 μ1 H1 (loopF (fun S' => ds.all (sameAt S1 S')) (fun x ρ2 S2 => Fl.ofO (bindT S2 t x ρ2) fun ρ3 => evSs C b ρ3 S2) xs ρ S1) D) :
    ∃ Wn : Nat → Nat → L2.St → Hp → Prop, (∃ m, Wn 0 m σ H1) ∧ ∀ i m σ H, Wn i m σ H → (J.stop i H ∧ D.nx σ H) ∨ (J.go i H ∧ ∃ N : L2.St → Hp → Prop, (∀ σ' H', N σ' H' → ∃ m', m' < m ∧ Wn (i + 1) m' σ' H') ∧
      ∀ x H', J.yld i H x H' → gT W t x σ H' fun σ2 H2 => tSts W wx C b { D with nx := N, ct := N, bk := D.nx } σ2 H2) := by
  generalize hstep : (fun (x : PM.D) (ρ2 : Env) (S2 : St) => Fl.ofO (bindT S2 t x ρ2) fun ρ3 => evSs C b ρ3 S2) = step at q
  refine ⟨fun i m σ H => m = xs.length - i ∧ i ≤ xs.length ∧ ∃ (F : Addr → Prop) (μ : List Addr) (S : St) (ρ : Env), Ext F1 μ1 H1 F μ H ∧ Rl W.toWd F μ H S ∧ Ro W F μ H ρ σ ∧ EndS W wx F μ H (loopF (fun S' => ds.all (sameAt S1 S')) step (xs.drop i) ρ S) D,
    ⟨xs.length, rfl, Nat.zero_le _, F1, μ1, S1, ρ, Ext.refl, R1, o1, by rw [List.drop_zero]; exact q⟩, ?_⟩
  rintro i m σ H ⟨rfl, hi, F, μ, S, ρ, E, R, o, q⟩
  by_cases hlt : i < xs.length
  · right
    have hx : xs[i]? = some xs[i] := List.getElem?_eq_getElem hlt
    rw [List.drop_eq_getElem_cons hlt] at q
    unfold loopF at q
    split at q
    case isFalse => exact q.elim
    case isTrue ho =>
    obtain ⟨go, yl⟩ := hJ'.go E R ho hx
    refine ⟨go, fun σ' H' => ∃ (F' : Addr → Prop) (μ' : List Addr) (S' : St) (ρ' : Env), Ext F1 μ1 H1 F' μ' H' ∧ Rl W.toWd F' μ' H' S' ∧ Ro W F' μ' H' ρ' σ' ∧ EndS W wx F' μ' H' (loopF (fun S' => ds.all (sameAt S1 S')) step (xs.drop (i + 1)) ρ' S') D,
      fun σ' H' ⟨F', μ', S', ρ', h1, h2, h3, h4⟩ => ⟨xs.length - (i + 1), by omega, rfl, hlt, F', μ', S', ρ', h1, h2, h3, h4⟩, fun v H' hy => ?_⟩
    obtain ⟨F2, E2, R2, r2⟩ := yl v H' hy
    have q2 := EndS.shift E2 q
    have o2 := o.ext R E2
    rw [← hstep] at q2
    simp only at q2
    cases eb : bindT S t xs[i] ρ with
    | none => rw [eb] at q2; exact q2.elim
    | some ρ3 =>
      rw [eb] at q2
      refine ⟨ρ, ρ3, S, F2, μ, xs[i], o2, R2, r2, eb, fun σ' o' _ _ => ⟨ρ3, S, F2, μ, o', R2, ?_⟩⟩
      replace q2 : EndS W wx F2 μ H' (match evSs C b ρ3 S with
        | .nx ρ1 S1' => loopF (fun S' => ds.all (sameAt S1 S')) (fun x ρ2 S2 => Fl.ofO (bindT S2 t x ρ2) fun ρ3 => evSs C b ρ3 S2) (xs.drop (i + 1)) ρ1 S1'
        | .ct ρ1 S1' => loopF (fun S' => ds.all (sameAt S1 S')) (fun x ρ2 S2 => Fl.ofO (bindT S2 t x ρ2) fun ρ3 => evSs C b ρ3 S2) (xs.drop (i + 1)) ρ1 S1'
        | .bk ρ1 S1' => .nx ρ1 S1'
        | f => f) D := q2
      rw [hstep] at q2
      cases er : evSs C b ρ3 S with
      | bad => rw [er] at q2; exact q2
      | ex c v ρ1 S2 => rw [er] at q2; exact q2
      | rt d S2 => rw [er] at q2; exact q2
      | bk ρ1 S2 => rw [er] at q2; exact q2
      | nx ρ1 S2 =>
        rw [er] at q2
        exact fun F3 μ3 H3 σ3 E3 R3 o3 => ⟨F3, μ3, S2, ρ1, (E.trans E2).trans E3, R3, o3, EndS.shift E3 q2⟩
      | ct ρ1 S2 =>
        rw [er] at q2
        exact fun F3 μ3 H3 σ3 E3 R3 o3 => ⟨F3, μ3, S2, ρ1, (E.trans E2).trans E3, R3, o3, EndS.shift E3 q2⟩
  · left
    have hi' : i = xs.length := by omega
    subst hi'
    rw [List.drop_length] at q
    unfold loopF at q
    split at q
    · rename_i ho
      exact ⟨hJ'.stop E R ho, q F μ H σ Ext.refl R o⟩
    · exact q.elim
theorem s_loop (G : Gd W C sh k X) {ik : IK} (hk : ik.isD = false) (hp : PassesOwn (model X.prog X.w) X.A X.env X.xe) {tg iter : Expr} {body : List Stmt} {t : Tg} {ie : List E} {b : List S} {pos : Pos} (hi : PI X tg iter (tI W wx C ik ie)) (hg : PG X tg (gT W t)) (hb : PSs X body (tSts W wx C b))
    (hs : ∀ x, foldedSetIterable iter X.env x = pure x) : PS X (.For tg iter body [] pos) (tSt W wx C (.loop t ik ie b)) := PS_imp (ps_for hp G.calm hi hg hb hs) fun D σ H h => by
  have h' : tS' W wx (fun ρ S => (evL C ie ρ S).fl ρ fun ds S1 => Fl.ofO (walk S1 ik ds) fun xs => loopF (fun S' => ds.all (sameAt S1 S')) (fun x ρ2 S2 => Fl.ofO (bindT S2 t x ρ2) fun ρ3 => evSs C b ρ3 S2) xs ρ S1) D σ H := by
    obtain ⟨ρ, S, F, μ, o, Rs, h⟩ := h
    unfold evS at h
    simp only [lkS_of hk, FlUl_of hk] at h
    exact ⟨ρ, S, F, μ, o, Rs, h⟩
  refine tR_mono (tS_fl (rel := relL W) (f := fun ρ ds S1 => Fl.ofO (walk S1 ik ds) fun xs => loopF (fun S' => ds.all (sameAt S1 S')) (fun x ρ2 S2 => Fl.ofO (bindT S2 t x ρ2) fun ρ3 => evSs C b ρ3 S2) xs ρ S1) h') fun vs H1 ⟨ρ, S1, F1, μ1, ds, o1, R1, r1, q⟩ => ?_
  obtain ⟨xs, ew, q⟩ := EndS.ofO q
  refine ⟨F1, μ1, S1, ds, xs, R1, r1, ew, fun J hJ => ?_⟩
  exact loop_core (hJ F1 μ1 H1 R1 r1) R1 o1 q
theorem s_whl (hp : PassesOwn (model X.prog X.w) X.A X.env X.xe) {c : Expr} {body : List Stmt} {ci : E} {b : List S} {pos : Pos} (hc : PT X c (tT W wx C ci)) (hb : PSs X body (tSts W wx C b)) : PS X (.While c body [] pos) (tSt W wx C (.whl ci b)) := PS_imp (ps_while hp hc hb) fun D σ H h => by
  obtain ⟨ρ, S, F, μ, o, Rs, h⟩ := h
  unfold evS at h
  generalize whileMax = fuel at h
  refine ⟨fun m σ H => ∃ (F : Addr → Prop) (μ : List Addr) (S : St) (ρ : Env), Rl W.toWd F μ H S ∧ Ro W F μ H ρ σ ∧ EndS W wx F μ H (whileF (fun ρ1 S1 => (evE C ci ρ1 S1).tru) (fun ρ1 S1 => evSs C b ρ1 S1) m ρ S) D, ⟨fuel, F, μ, S, ρ, Rs, o, h⟩, ?_⟩
  rintro m σ H ⟨F, μ, S, ρ, Rs, o, q⟩
  cases m with
  | zero => unfold whileF at q; exact q.elim
  | succ m =>
    unfold whileF at q
    refine ⟨ρ, S, F, μ, o, Rs, ?_⟩
    simp only at q ⊢
    cases et : (evE C ci ρ S).tru with
    | bad => rw [et] at q; exact q
    | ex c v S1 =>
      rw [et] at q
      exact fun F1 μ1 H1 cls d E1 R1 x => q F1 μ1 H1 σ cls d E1 R1 (o.ext Rs E1) x
    | ok t S1 =>
      rw [et] at q
      intro F1 μ1 H1 bb E1 R1 rb
      cases rb
      have o1 := o.ext Rs E1
      cases t with
      | false => exact q F1 μ1 H1 σ E1 R1 o1
      | true =>
        rw [if_pos rfl]
        have q1 := EndS.shift E1 q
        refine ⟨fun σ' H' => ∃ (F : Addr → Prop) (μ : List Addr) (S : St) (ρ : Env), Rl W.toWd F μ H' S ∧ Ro W F μ H' ρ σ' ∧ EndS W wx F μ H' (whileF (fun ρ1 S1 => (evE C ci ρ1 S1).tru) (fun ρ1 S1 => evSs C b ρ1 S1) m ρ S) D, fun σ' H' z => ⟨m, Nat.lt_succ_self _, z⟩, ρ, S1, F1, μ1, o1, R1, ?_⟩
        simp only at q1 ⊢
        cases er : evSs C b ρ S1 with
        | bad => rw [er] at q1; exact q1
        | ex c v ρ1 S2 => rw [er] at q1; exact q1
        | rt d S2 => rw [er] at q1; exact q1
        | bk ρ1 S2 => rw [er] at q1; exact q1
        | nx ρ1 S2 =>
          rw [er] at q1
          exact fun F3 μ3 H3 σ3 E3 R3 o3 => ⟨F3, μ3, S2, ρ1, R3, o3, EndS.shift E3 q1⟩
        | ct ρ1 S2 =>
          rw [er] at q1
          exact fun F3 μ3 H3 σ3 E3 R3 o3 => ⟨F3, μ3, S2, ρ1, R3, o3, EndS.shift E3 q1⟩
end
end PM
set_option Elab.async false
set_option linter.all false
set_option autoImplicit false
set_option maxHeartbeats 4000000
/-! PMStmt3: raise; name = [..]. -/
namespace PM
open PySem PySem.Spec PyProof.Rows L2
section
variable {W : Wx} {wx : WX} {C : Ctx} {sh : Shp} {k : Nat} {X : Cx}
theorem passes_F : Passes (L2.CX X.prog X.w) X (fun _ _ _ => False) := fun pins σ H s e s' I h => by
  obtain ⟨_, _, _, _, _, _, _, _, _, _, _, _, z⟩ := h
  exact z.elim
theorem BRoom.room {k : Nat} {A : Around} (r : BRoom k A) : Room 2 A := ⟨r.hd, by have := r.dp; omega, by have := r.un; omega⟩
/-- raise c(e) -/
theorem s_rse (G : Gd W C sh k X) (tk : Takes X wx) {c : String} {Ca : Addr} {f : Str} {x : Str} {e : Expr} {i : E} {p pos' pos : Pos} (hx : x = Str.ofString c) (hg : Gl X x) (hd : (x == ("__debug__" : Str)) = false) (hc : W.xc c = some (Ca, f)) (ns : isSt e = false) (he : PE X e (tE W wx C i)) :
    PS X (.Raise (some (.Call (.Name x p) [e] [] pos')) none pos) (tSt W wx C (.rse c i)) := by
  obtain ⟨fI, fd, ps, hm, T, iC, tI, F1, hb, _⟩ := G.st.xr c Ca f hc
  refine PS_imp (ps_raise G.calm tk (pmk_oex (ds := []) (dvs := []) T iC tI F1 G.room.room hb .nil passes_F hg (by rw [hx]; exact hm) (pa_cons he pa_nil (starEach_ns ns)) hd (starEach_ns ns))) fun D σ H h => ?_
  refine tR_mono (st_e (run := i) (f := fun ρ x S1 => .ex c x ρ S1) (fun ρ S => by rw [evS]) h) fun v H1 ⟨ρ, S1, F1, μ1, a, o1, R1, r1, q⟩ => ?_
  refine ⟨by show 1 ≤ 1000; decide, fun a' ha => ⟨a', v, rfl, upd_same, fun dx hdx ne => ⟨rfl, dx, [(f, v)], upd_same, ?_, ?_, ?_⟩⟩⟩
  · rw [upd_ne (Ne.symm ne |>.symm), upd_same]
  · rw [upd_ne ne] at hdx; exact hdx
  · have hdx' : H1 dx = none := by rw [upd_ne ne] at hdx; exact hdx
    have eH : upd (del (upd (upd (upd H1 a' (exo a' Ca none)) dx (exd dx [(f, v)])) a' (exo a' Ca (some dx))) a') dx (.xd [(f, v)]) = upd H1 dx (.xd [(f, v)]) := by
      funext b
      by_cases h1 : b = dx
      · rw [h1, upd_same, upd_same]
      · rw [upd_ne h1, upd_ne h1]
        by_cases h2 : b = a'
        · rw [h2, del_same, ha]
        · rw [del_ne h2, upd_ne h2, upd_ne h1, upd_ne h2]
    rw [eH]
    have E := Ext.side (o := HO.xd [(f, v)]) R1 hdx'
    exact q F1 μ1 _ σ (.ref Ca) (some dx) E (R1.side hdx') (o1.ext R1 E) ⟨Ca, f, dx, v, hc, rfl, rfl, fun hm => R1.some_ dx hm hdx', upd_same, R1.ext E r1⟩
/-- name = [..] on one line -/
theorem s_setLc (G : Gd W C sh k X) {a : Nat} {y : Str} {py : Pos} {m : Bool} {elt tg iter : Expr} {ifs : List Expr} {scope : Scope} {own : List (Str × Nat)} {ownI : List Nat} {t : Tg} {ik : IK} {ie ifsI : List E} {eltI : E} {pos spos : Pos} (hy : X.N[a]? = some y) (hyl : X.env.scope.names.lookup y = some .local)
    (hk : ik.isD = false) (hsw : swapsWith (.ListComp elt [⟨tg, iter, ifs, 0⟩] scope pos) (some (.Name y py)) spos.line X.env = pure true) (hown : own.map (·.2) = ownI) (hsl : ∀ i ∈ t.slots, i ∈ ownI)
    (hi : PI X tg iter (tI W wx C ik ie)) (ok : BlkOk X.N X.env.scope scope own)
    (hg : ∀ (s : Shared) (H : Hp) (c : Addr) (cl : List (Str × Addr)) (fp : List Addr), PG (X.blk s H scope (compEnvC scope cl c X.env) fp) tg (gT W t))
    (ht : ∀ (s : Shared) (H : Hp) (c : Addr) (cl : List (Str × Addr)) (fp : List Addr), PTs (X.blk s H scope (compEnvC scope cl c X.env) fp) ifs (tTs W (fun _ _ _ _ => False) C ifsI))
    (he : ∀ (s : Shared) (H : Hp) (c : Addr) (cl : List (Str × Addr)) (fp : List Addr), PE (X.blk s H scope (compEnvC scope cl c X.env) fp) elt (tE W (fun _ _ _ _ => False) C eltI))
    (hf : ∀ x, foldedSetIterable iter X.env x = pure x) : PS X (.Assign [.Name y py] (.ListComp elt [⟨tg, iter, ifs, 0⟩] scope pos) spos) (tSt W wx C (.set (.nm a) (.comp m ownI t ik ie ifsI eltI))) :=
  PS_imp (ps_setLc G.calm G.nd hy hyl hsw hi ok hg ht he hf) fun D σ H h => by
    rw [hown]
    refine comp_lc hk hsl (tR_mono (st_e (run := .comp m ownI t ik ie ifsI eltI) (f := fun ρ x S1 => Fl.ofO (bindT S1 (.nm a) x ρ) fun ρ1 => .nx ρ1 S1) (fun ρ S => by rw [evS]) h) fun x H1 ⟨ρ, S1, F1, μ1, d, o1, R1, r1, q⟩ => ?_)
    exact q F1 μ1 H1 _ Ext.refl R1 (o1.set r1)
theorem s_setLc2 (G : Gd W C sh k X) {a : Nat} {y : Str} {py : Pos} {m : Bool} {elt tg iter tg1 iter1 : Expr} {ifs ifs1 : List Expr} {scope : Scope} {own : List (Str × Nat)} {ownI own1 : List Nat} {t t1 : Tg} {ik ik1 : IK} {ie ifsI ie1 ifsI1 : List E} {eltI : E} {pos spos : Pos} (hy : X.N[a]? = some y) (hyl : X.env.scope.names.lookup y = some .local)
    (hsw : swapsWith (.ListComp elt [⟨tg, iter, ifs, 0⟩, ⟨tg1, iter1, ifs1, 0⟩] scope pos) (some (.Name y py)) spos.line X.env = pure true) (hown : own.map (·.2) = ownI) (hsl : ∀ i ∈ t.slots, i ∈ ownI) (hsl1 : ∀ i ∈ t1.slots, i ∈ own1) (hv : ∀ i ∈ own1, i ∈ ownI)
    (hi : PI X tg iter (tI W wx C ik ie)) (ok : BlkOk X.N X.env.scope scope own)
    (hg : ∀ (s : Shared) (H : Hp) (c : Addr) (cl : List (Str × Addr)) (fp : List Addr), PG (X.blk s H scope (compEnvC scope cl c X.env) fp) tg (gT W t))
    (ht : ∀ (s : Shared) (H : Hp) (c : Addr) (cl : List (Str × Addr)) (fp : List Addr), PTs (X.blk s H scope (compEnvC scope cl c X.env) fp) ifs (tTs W (fun _ _ _ _ => False) C ifsI))
    (hi1 : ∀ (s : Shared) (H : Hp) (c : Addr) (cl : List (Str × Addr)) (fp : List Addr), PI (X.blk s H scope (compEnvC scope cl c X.env) fp) tg1 iter1 (tI W (fun _ _ _ _ => False) C ik1 ie1))
    (hg1 : ∀ (s : Shared) (H : Hp) (c : Addr) (cl : List (Str × Addr)) (fp : List Addr), PG (X.blk s H scope (compEnvC scope cl c X.env) fp) tg1 (gT W t1))
    (ht1 : ∀ (s : Shared) (H : Hp) (c : Addr) (cl : List (Str × Addr)) (fp : List Addr), PTs (X.blk s H scope (compEnvC scope cl c X.env) fp) ifs1 (tTs W (fun _ _ _ _ => False) C ifsI1))
    (he : ∀ (s : Shared) (H : Hp) (c : Addr) (cl : List (Str × Addr)) (fp : List Addr), PE (X.blk s H scope (compEnvC scope cl c X.env) fp) elt (tE W (fun _ _ _ _ => False) C eltI))
    (hf : ∀ x, foldedSetIterable iter X.env x = pure x) (hf1 : ∀ env x, foldedSetIterable iter1 env x = pure x) : PS X (.Assign [.Name y py] (.ListComp elt [⟨tg, iter, ifs, 0⟩, ⟨tg1, iter1, ifs1, 0⟩] scope pos) spos) (tSt W wx C (.set (.nm a) (.comp2 m ownI t ik ie ifsI own1 t1 ik1 ie1 ifsI1 eltI))) :=
  PS_imp (ps_setLc2 G.calm G.nd hy hyl hsw hi ok (vs1 := own1) (by rw [hown]; exact hv) hg ht hi1 hg1 ht1 he hf hf1) fun D σ H h => by
    rw [hown]
    refine comp2_lc hsl hsl1 (tR_mono (st_e (run := .comp2 m ownI t ik ie ifsI own1 t1 ik1 ie1 ifsI1 eltI) (f := fun ρ x S1 => Fl.ofO (bindT S1 (.nm a) x ρ) fun ρ1 => .nx ρ1 S1) (fun ρ S => by rw [evS]) h) fun x H1 ⟨ρ, S1, F1, μ1, d, o1, R1, r1, q⟩ => ?_)
    exact q F1 μ1 H1 _ Ext.refl R1 (o1.set r1)
end
end PM
set_option Elab.async false
set_option linter.all false
set_option maxRecDepth 100000
/-! PMTry: except clauses, one or more, each with or without a name. -/
namespace PM
open PySem PySem.Spec PyProof.Rows L2
/-- one clause: its class, the slot of its name, what its suite wishes -/
structure Cl where
  c : Value
  i : Option Nat
  ts : Addr → Value → Option Addr → TS
def offE (i : Option Nat) (D : Ends) : Ends := match i with
  | none => D
  | some i => { nx := fun σ H => D.nx (σ.set i none) H, rt := D.rt, bk := fun σ H => D.bk (σ.set i none) H, ct := fun σ H => D.ct (σ.set i none) H }
def onS (i : Option Nat) (a : Addr) (σ : L2.St) : L2.St := match i with
  | none => σ
  | some i => σ.set i (some (.ref a))
def wCl (K : PySem.W.Frag) (Wout : WX) (D : Ends) : List Cl → WX
  | [] => Wout
  | q :: r => fun cls d σ H => ∃ b, PySem.W.exmOne K cls q.c = some b ∧ (b = true → ∀ a, H a = none → q.ts a cls d (offE q.i D) (onS q.i a σ) H) ∧ (b = false → wCl K Wout D r cls d σ H)
inductive ClsOk (X : Cx) : List ExceptHandler → List Cl → Prop
  | nil : ClsOk X [] []
  | plain {x : Str} {c : Value} {ts : Addr → Value → Option Addr → TS} {b₀ : Stmt} {suite : List Stmt} {np pos' : Pos} {hds : List ExceptHandler} {l : List Cl} (hc : Names X x c)
      (hsu : ∀ (a : Addr) (oe : Obj) (cls : Value) (d : Option Addr) (pn : List (Addr × Obj)), Zc cls d oe → (∃ vs, oe.data = .fields vs) → PSs (X.suite a ((a, oe) :: pn)) (b₀ :: suite) (ts a cls d)) (r : ClsOk X hds l) :
      ClsOk X (.ExceptHandler (some (.Name x np)) none (b₀ :: suite) pos' :: hds) (⟨c, none, ts⟩ :: l)
  | named {x n : Str} {i : Nat} {c : Value} {ts : Addr → Value → Option Addr → TS} {b₀ : Stmt} {suite : List Stmt} {np pos' : Pos} {hds : List ExceptHandler} {l : List Cl} (hc : Names X x c)
      (hi : X.N[i]? = some n) (hln : X.env.kindOf n = some .local)
      (hsu : ∀ (a : Addr) (oe : Obj) (cls : Value) (d : Option Addr) (pn : List (Addr × Obj)), Zc cls d oe → (∃ vs, oe.data = .fields vs) → PSs (X.suite a ((a, oe) :: pn)) (b₀ :: suite) (ts a cls d)) (r : ClsOk X hds l) :
      ClsOk X (.ExceptHandler (some (.Name x np)) (some n) (b₀ :: suite) pos' :: hds) (⟨c, some i, ts⟩ :: l)
section
variable {X : Cx} {body : List Stmt} {h₀ : ExceptHandler} {hds : List ExceptHandler} {l : List Cl} {pos : Pos} {tb : WX → TS} {Wout : WX}
theorem ps_try_cls (hs : X.stack = X.env :: X.outer) (hf : X.env.frame = some X.env.locals) (hN : X.N.Nodup) (tk : Takes X Wout)
    (hb : ∀ (W : WX) (pn : List (Addr × Obj)) (xe : Value → Shared → Prop), Takes (X.tr pn xe) W → PassesOwn (model X.prog X.w) X.A X.env xe → PSs (X.tr pn xe) body (tb W))
    (hh : ClsOk X (h₀ :: hds) l) : PS X (.Try body (h₀ :: hds) [] [] pos) (fun D σ H => tb (wCl X.K Wout D l) D σ H) := by
  refine ⟨fun pins s σ H D I h => ?_⟩
  have ok := I.ok
  have hfr : X.A.frames = some (X.env :: X.outer) := by rw [ok.frames, hs]
  refine wpAny_Try_except ?_
  refine wpAny_mono ((hb (wCl X.K Wout D l) (X.pn ++ pins) (fun e s₁ => wpAny (model X.prog X.w) X.A (noteFrame e X.env) (fun _ s₂ => wpAny (model X.prog X.w) X.A (setFlight e none) (fun _ s₃ =>
    wpAny (model X.prog X.w) X.A (handleBy e X.env (h₀ :: hds)) (SP X pins D) X.xe s₃) X.xe s₂) X.xe s₁) (fun u s' xx => ?_) PassesOwn.looking).run [] s σ H D (I.toTry _) h) (fun f s1 hsp => ?_) (fun e s1 he => he)
  · -- the catch
    obtain ⟨a, B, sI, pins', σ', H', cls, d, rfl, J', nb, up, sky, na, os, ag, w⟩ := xx
    have J : Inv X pins σ' H' sI := J'.ofTry ok
    have sky' : Sky B (X.env :: X.outer) a (Zc cls d) X.env.locals s'.heap := by rw [← hs]; exact sky
    show wpAny (model X.prog X.w) X.A (noteFrame (.ref a) X.env) _ _ _
    refine Sky.land Zc.steady hfr hf sky' fun h3 fl3 up3 => ?_
    have J3 : Inv X pins σ' H' { s' with heap := h3 } := J.landed nb fl3.1 (up.trans up3) os ag
    obtain ⟨oe3, vs3, he3, hz3, hd3⟩ := fl3.there
    have notFr : ∀ {h : Heap} {o : Obj} {vs : Array Value}, h.FunFrames B (X.env :: X.outer) → h.get? a = some o → o.data = .fields vs → a ∉ frs (X.env :: X.outer) := fun {h o vs} ff e dd hm => by
      obtain ⟨_, o', e', hnf⟩ := ff.mem hm
      rw [e] at e'; cases e'
      exact hnf _ dd
    have nfr := notFr fl3.2.2.1 he3 hd3
    have nL : a ≠ X.env.locals := fun z => nfr (List.mem_filterMap.mpr ⟨X.env, List.mem_cons_self, by rw [hf, z]⟩)
    have nF : a ∉ X.fs := fun hm => by
      obtain ⟨e, he, q⟩ := List.mem_filterMap.mp hm
      exact nfr (List.mem_filterMap.mpr ⟨e, List.mem_cons_of_mem _ he, q⟩)
    have S3 := J3.suite he3 hd3 na nL nF
    have go : ∀ {hds' : List ExceptHandler} {l' : List Cl}, ClsOk X hds' l' → wCl X.K Wout D l' cls d σ' H' →
        wpAny (model X.prog X.w) X.A (handleBy (.ref a) X.env hds') (SP X pins D) X.xe { s' with heap := h3 } := by
      intro hds' l' hk
      induction hk with
      | nil =>
        intro w
        refine wpAny_handleBy_nil ?_
        obtain ⟨k1, k2, k3, oe, vs, T, oT, ts', he, hz, hd, h1, hr⟩ := id fl3
        unfold PySem.passOn
        refine wpAny_bind (wpAny_field he hd h1 ?_)
        rw [if_neg (show ¬ ((Value.ref T == Value.none) = true) from by simp)]
        have fin : wpAny (model X.prog X.w) X.A (setFlight (.ref a) X.env.frame) (fun _ s4 => wpAny (model X.prog X.w) X.A (throw (.ref a) : Sem Flow) (SP X pins D) X.xe s4) X.xe { s' with heap := h3 } := by
          rw [hf]
          refine HandSPX.setFlight_upZ fl3 fun h4 hh4 up4 => wpAny_throw (tk _ _ ?_)
          exact ⟨a, B, sI, pins, σ', H', cls, d, rfl, J, nb, (up.trans up3).trans up4, .inr (.inr (by rw [hs]; exact hh4)), na, os, ag, w⟩
        first
          | exact wpAny_bind (wpAny_pure (wpAny_bind fin))
          | exact wpAny_bind fin
      | @plain x c ts b₀ suite np pos' hds2 l2 hc hsu r ih =>
        intro w
        obtain ⟨b, hb1, hyes, hno⟩ := w
        refine wpAny_handleBy_cons (codeAny_handlers_test ?_) (by intro q; cases q)
        have LT : PySem.W.Looks (model X.prog X.w) h3 (typeOf (.ref a)) cls := fun A Q E s k q => wpAny_typeOf_ref (k _ _ he3) (by rw [hz3.1]; exact q)
        have LM := PySem.W.exm_one (M := model X.prog X.w) (J3.kIn) LT hb1
        have test : ∀ {Q : Value → Shared → Prop} {E : Value → Shared → Prop}, Q c { s' with heap := h3 } → wpAny (model X.prog X.w) (X.A.mark (some (.ref a))) (eval (.Name x np) X.env) Q E { s' with heap := h3 } := fun {Q E} q => by
          obtain ⟨hg, hdbg, hm | ⟨hm, hv, hnn⟩⟩ := hc
          · exact ld_glob (X := X.suite a ((a, oe3) :: (X.pn ++ pins))) S3 hg hm q hdbg
          · exact ld_blt (X := X.suite a ((a, oe3) :: (X.pn ++ pins))) S3 hg hm hv q hnn hdbg
        refine test (LM.here ?_)
        cases b with
        | true =>
          refine codeAny_handlers_suite ?_
          refine HandSPX.lands_againZ fl3 fun h4 fl4 up4 => ?_
          have J4 : Inv X pins σ' H' { s' with heap := h4 } := J.landed nb fl4.1 ((up.trans up3).trans up4) os ag
          obtain ⟨oe4, vs4, he4, hz4, hd4⟩ := fl4.there
          have S4 := J4.suite he4 hd4 na nL nF
          refine wpAny_mono ((hsu a oe4 cls d (X.pn ++ pins) hz4 ⟨_, hd4⟩).run [] _ _ H' _ S4 (hyes rfl a na)) (fun f s6 hsp => ?_) (fun _ _ z => False.elim z)
          cases f with
          | next =>
            obtain ⟨σ6, H6, S6, q6⟩ := hsp
            exact ⟨_, _, S6.unsuite ok, q6⟩
          | brk =>
            obtain ⟨σ6, H6, S6, q6⟩ := hsp
            exact ⟨_, _, S6.unsuite ok, q6⟩
          | cont =>
            obtain ⟨σ6, H6, S6, q6⟩ := hsp
            exact ⟨_, _, S6.unsuite ok, q6⟩
          | ret u =>
            obtain ⟨v6, σ6, H6, S6, r6, q6⟩ := hsp
            exact ⟨_, _, _, S6.unsuite ok, r6, q6⟩
        | false =>
          show wpAny _ X.A (handleBy (.ref a) X.env hds2) _ _ _
          exact ih (hno rfl)
      | @named x n i c ts b₀ suite np pos' hds2 l2 hc hi hln hsu r ih =>
        intro w
        obtain ⟨b, hb1, hyes, hno⟩ := w
        refine wpAny_handleBy_cons (codeAny_handlers_test ?_) (by intro q; cases q)
        have LT : PySem.W.Looks (model X.prog X.w) h3 (typeOf (.ref a)) cls := fun A Q E s k q => wpAny_typeOf_ref (k _ _ he3) (by rw [hz3.1]; exact q)
        have LM := PySem.W.exm_one (M := model X.prog X.w) (J3.kIn) LT hb1
        have test : ∀ {Q : Value → Shared → Prop} {E : Value → Shared → Prop}, Q c { s' with heap := h3 } → wpAny (model X.prog X.w) (X.A.mark (some (.ref a))) (eval (.Name x np) X.env) Q E { s' with heap := h3 } := fun {Q E} q => by
          obtain ⟨hg, hdbg, hm | ⟨hm, hv, hnn⟩⟩ := hc
          · exact ld_glob (X := X.suite a ((a, oe3) :: (X.pn ++ pins))) S3 hg hm q hdbg
          · exact ld_blt (X := X.suite a ((a, oe3) :: (X.pn ++ pins))) S3 hg hm hv q hnn hdbg
        refine test (LM.here ?_)
        cases b with
        | true =>
          refine codeAny_handlers_suite_as ?_
          refine HandSPX.lands_againZ fl3 fun h4 fl4 up4 => ?_
          have J4 : Inv X pins σ' H' { s' with heap := h4 } := J.landed nb fl4.1 ((up.trans up3).trans up4) os ag
          obtain ⟨oe4, vs4, he4, hz4, hd4⟩ := fl4.there
          have S4 := J4.suite he4 hd4 na nL nF
          have hloc : Loc X.env.scope n := .inl hln
          refine store_ok (X := X.suite a ((a, oe4) :: (X.pn ++ pins))) (v := .ref a) S4 hN hi hloc rfl (fun s5 S5 => ?_) (.inr hln)
          refine wpAny_mono ((hsu a oe4 cls d (X.pn ++ pins) hz4 ⟨_, hd4⟩).run [] s5 _ H' _ S5 (hyes rfl a na)) (fun f s6 hsp => ?_) (fun _ _ z => False.elim z)
          have end_ : ∀ {σ6 : L2.St} {H6 : Hp} {Q : Shared → Prop}, Inv (X.suite a ((a, oe4) :: (X.pn ++ pins))) [] σ6 H6 s6 → (∀ s7, Inv X pins (σ6.set i none) H6 s7 → Q s7) →
              wpAny (model X.prog X.w) X.A (do bindName X.env n .none; unbindBehindTheSuite X.env n pos') (fun _ s7 => Q s7) X.xe s6 := fun {σ6 H6 Q} S6 hq => gone_ok (S6.unsuite ok) hN hi hln hq
          cases f with
          | next =>
            obtain ⟨σ6, H6, S6, q6⟩ := hsp
            exact end_ S6 fun s7 J7 => ⟨_, _, J7, q6⟩
          | brk =>
            obtain ⟨σ6, H6, S6, q6⟩ := hsp
            exact end_ S6 fun s7 J7 => ⟨_, _, J7, q6⟩
          | cont =>
            obtain ⟨σ6, H6, S6, q6⟩ := hsp
            exact end_ S6 fun s7 J7 => ⟨_, _, J7, q6⟩
          | ret u =>
            obtain ⟨v6, σ6, H6, S6, r6, q6⟩ := hsp
            exact end_ S6 fun s7 J7 => ⟨_, _, _, J7, r6, q6⟩
        | false =>
          show wpAny _ X.A (handleBy (.ref a) X.env hds2) _ _ _
          exact ih (hno rfl)
    exact go hh w
  · cases f with
    | next =>
      obtain ⟨σ', H', J', q⟩ := hsp
      exact wpAny_execs_nil ⟨σ', H', J'.ofTry ok, q⟩
    | brk =>
      obtain ⟨σ', H', J', q⟩ := hsp
      exact ⟨σ', H', J'.ofTry ok, q⟩
    | cont =>
      obtain ⟨σ', H', J', q⟩ := hsp
      exact ⟨σ', H', J'.ofTry ok, q⟩
    | ret u =>
      obtain ⟨v, σ', H', J', r, q⟩ := hsp
      exact ⟨v, σ', H', J'.ofTry ok, r, q⟩
end
end PM
set_option Elab.async false
set_option linter.all false
set_option autoImplicit false
set_option maxHeartbeats 4000000
/-! PMTry2: the machine's try. -/
namespace PM
open PySem PySem.Spec PyProof.Rows L2
/-- in an except suite -/
def Wx.sat (W : Wx) (a : Addr) (cls : Value) (d : Option Addr) : Wx := { W with cur := some (a, cls, d) }
inductive ClM (W : Wx) (K : PySem.W.Frag) (C : Ctx) (i : Nat) : List (List String) → List (List S) → List Cl → Prop
  | nil : ClM W K C i [] [] []
  | cons {k : List String} {cs : List (List String)} {h : List S} {hs : List (List S)} {cl : Value} {l : List Cl} (hx : ∀ c Ca f, W.xc c = some (Ca, f) → PySem.W.exmOne K (.ref Ca) cl = some (k.contains c)) (r : ClM W K C i cs hs l) :
      ClM W K C i (k :: cs) (h :: hs) (⟨cl, some i, fun a cls d => tSts (W.sat a cls d) (fun _ _ _ _ => False) C h⟩ :: l)
section
variable {W W' : Wx} {wx : WX} {C : Ctx} {F : Addr → Prop} {μ : List Addr} {H : Hp} {ρ : Env} {σ : L2.St}
theorem noX_at {i : Nat} {d : D} (h : noX ρ = true) (e : ρ[i]? = some (some d)) : d.isX = false := by
  have := List.all_eq_true.mp h (some d) (List.mem_of_getElem? e)
  simpa using this
theorem Ro.noX {a : Addr} {cls : Value} {d : Option Addr} (h : PM.noX ρ = true) (o : Ro W F μ H ρ σ) : Ro (W.sat a cls d) F μ H ρ σ :=
  ⟨o.len, fun i x e => let ⟨v, e1, r⟩ := o.at_ i x e; ⟨v, e1, .inl (r.rep (noX_at h e))⟩⟩
theorem Ro.noX' {a : Addr} {cls : Value} {d : Option Addr} (h : PM.noX ρ = true) (o : Ro (W.sat a cls d) F μ H ρ σ) : Ro W F μ H ρ σ :=
  ⟨o.len, fun i x e => let ⟨v, e1, r⟩ := o.at_ i x e; ⟨v, e1, .inl (r.rep (noX_at h e))⟩⟩
theorem Ro.setX {c : String} {v : D} {i : Nat} {a : Addr} {cls : Value} {d : Option Addr} (x : XOk W F μ H c v cls d) (o : Ro (W.sat a cls d) F μ H ρ σ) : Ro (W.sat a cls d) F μ H (ρ.set i (some (.exn c v))) (σ.set i (some (.ref a))) := by
  refine ⟨by rw [List.length_set, List.length_set]; exact o.len, fun j e h => ?_⟩
  by_cases hj : i = j
  · subst hj
    by_cases hl : i < ρ.length
    · rw [List.getElem?_set_self hl] at h
      cases h
      exact ⟨.ref a, List.getElem?_set_self (by rw [← o.len]; exact hl), .inr ⟨c, v, a, cls, d, rfl, rfl, rfl, x⟩⟩
    · rw [List.getElem?_eq_none (by simpa using hl)] at h
      cases h
  · rw [List.getElem?_set_ne hj] at h
    obtain ⟨u, e1, r1⟩ := o.at_ j e h
    exact ⟨u, by rw [List.getElem?_set_ne hj]; exact e1, r1⟩
theorem EndS.off {a : Addr} {cls : Value} {d : Option Addr} {i : Nat} {fl : Fl} {D : Ends} (h : EndS W wx F μ H (fl.off i) D) : EndS (W.sat a cls d) (fun _ _ _ _ => False) F μ H fl (offE (some i) D) := by
  cases fl with
  | nx ρ S =>
    by_cases hx : PM.noX (ρ.set i none) = true
    · rw [show Fl.off i (.nx ρ S) = .nx (ρ.set i none) S from if_pos hx] at h
      exact fun F' μ' H' σ' E R o => h F' μ' H' _ E R (Ro.noX' hx o.unset)
    · rw [show Fl.off i (.nx ρ S) = .bad from if_neg hx] at h
      exact h.elim
  | bk ρ S =>
    by_cases hx : PM.noX (ρ.set i none) = true
    · rw [show Fl.off i (.bk ρ S) = .bk (ρ.set i none) S from if_pos hx] at h
      exact fun F' μ' H' σ' E R o => h F' μ' H' _ E R (Ro.noX' hx o.unset)
    · rw [show Fl.off i (.bk ρ S) = .bad from if_neg hx] at h
      exact h.elim
  | ct ρ S =>
    by_cases hx : PM.noX (ρ.set i none) = true
    · rw [show Fl.off i (.ct ρ S) = .ct (ρ.set i none) S from if_pos hx] at h
      exact fun F' μ' H' σ' E R o => h F' μ' H' _ E R (Ro.noX' hx o.unset)
    · rw [show Fl.off i (.ct ρ S) = .bad from if_neg hx] at h
      exact h.elim
  | rt x S => exact h
  | ex c v ρ S => exact h.elim
  | bad => exact h.elim
theorem wcl_of {K : PySem.W.Frag} {i : Nat} {cs : List (List String)} {hs : List (List S)} {l : List Cl} (M : ClM W K C i cs hs l) {c : String} {v : D} {cls : Value} {d : Option Addr} {S : St} {D : Ends} (x : XOk W F μ H c v cls d) (o : Ro W F μ H ρ σ) (R : Rl W.toWd F μ H S)
    (h : EndS W wx F μ H (evH C i cs hs c v ρ S) D) : wCl K wx D l cls d σ H := by
  induction M with
  | nil =>
    unfold evH at h
    exact h F μ H σ cls d Ext.refl R o x
  | @cons k cs hd hs cl l hx r ih =>
    obtain ⟨Ca, f, dd, vv, hc, rfl, g3⟩ := id x
    refine ⟨k.contains c, hx c Ca f hc, fun hk a ha => ?_, fun hk => ih ?_⟩
    · unfold evH at h
      rw [if_pos hk] at h
      by_cases hn : PM.noX ρ = true
      · rw [if_pos hn] at h
        exact ⟨ρ.set i (some (.exn c v)), S, F, μ, Ro.setX x (Ro.noX hn o), R, EndS.off h⟩
      · rw [if_neg hn] at h
        exact h.elim
    · unfold evH at h
      rw [if_neg (by rw [hk]; decide)] at h
      exact h
end
section
variable {W : Wx} {wx : WX} {C : Ctx} {X : Cx}
theorem s_tri (hs : X.stack = X.env :: X.outer) (hf : X.env.frame = some X.env.locals) (hN : X.N.Nodup) (tk : Takes X wx) {body : List Stmt} {h₀ : ExceptHandler} {hds : List ExceptHandler} {l : List Cl} {pos : Pos} {b : List S} {i : Nat} {cs : List (List String)} {hs' : List (List S)}
    (hb : ∀ (wx' : WX) (pn : List (Addr × Obj)) (xe : Value → Shared → Prop), Takes (X.tr pn xe) wx' → PassesOwn (model X.prog X.w) X.A X.env xe → PSs (X.tr pn xe) body (tSts W wx' C b))
    (hh : ClsOk X (h₀ :: hds) l) (hm : ClM W X.K C i cs hs' l) : PS X (.Try body (h₀ :: hds) [] [] pos) (tSt W wx C (.tri b i cs hs')) :=
  PS_imp (ps_try_cls (tb := fun wx' => tSts W wx' C b) hs hf hN tk hb hh) fun D σ H h => by
    obtain ⟨ρ, S, F, μ, o, R, h⟩ := h
    unfold evS at h
    refine ⟨ρ, S, F, μ, o, R, ?_⟩
    cases e : evSs C b ρ S with
    | ex c v ρ1 S1 =>
      rw [e] at h
      exact fun F' μ' H' σ' cls d E R' o' x => wcl_of hm x o' R' (EndS.shift E h)
    | nx ρ1 S1 => rw [e] at h; exact h
    | bk ρ1 S1 => rw [e] at h; exact h
    | ct ρ1 S1 => rw [e] at h; exact h
    | rt d S1 => rw [e] at h; exact h
    | bad => rw [e] at h; exact h
end
end PM
set_option Elab.async false
set_option linter.all false
set_option autoImplicit false
set_option maxHeartbeats 4000000
/-! PMTry3: the attribute of a caught error. -/
namespace PM
open PySem PySem.Spec PyProof.Rows L2
section
variable {W : Wx} {wx : WX} {C : Ctx} {X : Cx}
/-- an own error's attribute may be read -/
def XfOk (W : Wx) (C : Ctx) (K : PySem.W.Frag) (f : String) : Prop := ∀ c Ca fs, W.xc c = some (Ca, fs) → C.xat c = some f → fs = Str.ofString f ∧ XfC K Ca ∧ PySem.W.findIn K (.ref Ca) (Str.ofString f) = some none
theorem e_xval {a : Addr} {oe : Obj} {cls : Value} {d : Option Addr} {pn : List (Addr × Obj)} {i : Nat} {x n : Str} {f : String} {p pos : Pos} (hN : X.N[i]? = some x) (hv : Vis X.env.scope x) (hd : (x == ("__debug__" : Str)) = false) (hc : (x == ("__classdict__" : Str)) = false)
    (hn : n = Str.ofString f) (hx : XfOk W C X.K f) (hz : Zc cls d oe) (hf : ∃ vs, oe.data = .fields vs) : PE (X.suite a ((a, oe) :: pn)) (.Attribute (.Name x p) n pos) (tE (W.sat a cls d) wx C (.xval i f)) := by
  refine ⟨fun pins s σ H Q I h => ?_⟩
  obtain ⟨ρ, S, F, μ, o, R, h⟩ := h
  unfold evE at h
  split at h
  · rename_i c v e
    split at h
    · rename_i ha
      obtain ⟨u, e1, r⟩ := o.at_ i _ e
      rcases r with r | ⟨c', x', a', cls', dd', heq, hu, hcur, xok⟩
      · cases r
      · cases heq
        cases hcur
        obtain ⟨Ca, fs, dd, vv, hc', rfl, rfl, nm, hxd, rv⟩ := xok
        obtain ⟨rfl, T, hno⟩ := hx c Ca fs hc' ha
        subst hn
        subst hu
        exact (pe_xf (X := X) (a := a) (pn := pn) (pos := pos) T hno hz hf (pe_var (X := X.suite a ((a, oe) :: pn)) hN hv hd hc)).run pins s σ H Q I
          ⟨.ref a, e1, rfl, rfl, dd, _, vv, rfl, hxd, by rw [List.lookup_cons, beq_self_eq_true], h.here R rv⟩
    · exact h.elim
  · exact h.elim
end
end PM
set_option Elab.async false
set_option linter.all false
set_option autoImplicit false
set_option maxHeartbeats 4000000
/-! PMBi2: list(d.values()). -/
namespace PM
open PySem PySem.Spec PyProof.Rows L2
section
variable {W : Wx} {wx : WX} {C : Ctx} {sh : Shp} {k : Nat} {X : Cx}
theorem vals_repK {F : Addr → Prop} {μ : List Addr} {H : Hp} : ∀ {kvs : List (Key × D)} {ws : List (L2.Key × V)}, RepK W.toWd F μ H kvs ws → RepL W.toWd F μ H (kvs.map (·.2)) (ws.map (·.2))
  | _, _, .nil => .nil
  | _, _, .cons hq a b => .cons a (vals_repK b)
theorem e_listvals (G : Gd W C sh k X) {m : Bool} {o : Expr} {oI : E} {p pos apos mpos : Pos} (hg : Gl X "list") (h1 : notSuper o = true) (hl : (apos.endLine == mpos.line) = true) (ho : PE X o (tE W wx C oI)) :
    PE X (.Call (.Name "list" p) [.Call (.Attribute o "values" apos) [] [] mpos] [] pos) (tE W wx C (.bi "listvals" m [oI])) := by
  refine ⟨fun pins s σ H Q I h => ?_⟩
  have h' : tE W wx C oI σ H fun x H1 => ∃ (S1 : St) (F1 : Addr → Prop) (μ1 : List Addr) (d : D) (kvs : List (Key × D)), Rl W.toWd F1 μ1 H1 S1 ∧ Rep W.toWd F1 μ1 H1 d x ∧ pairs S1 d = some kvs ∧ EndV W.toWd F1 μ1 H1 (mkL m (kvs.map (·.2)) S1) Q := by
    have h2 : tL W wx C [oI] σ H fun vs H1 => rBi W.toWd C "listvals" m vs H1 Q := bi_read h
    refine tR_mono (l_cons h2) fun v H1 q1 => ?_
    obtain ⟨S, F, μ, ds, Rs, rr, q⟩ := l_nil q1
    cases rr with
    | cons r1 r2 =>
      cases r2
      rename_i d
      obtain ⟨d', S', e, q⟩ := q
      simp only [bi] at e
      cases ep : pairs S d with
      | none => rw [ep] at e; cases e
      | some kvs =>
        rw [ep] at e
        exact ⟨S, F, μ, d, kvs, Rs, r1, ep, d', S', e, q⟩
  refine wpAny_Call_Name_kw (ld_blt I hg (G.st.bl _ (by decide)) (u := .type "list") (by first | rfl | decide +kernel) ?_ (by first | decide +kernel | decide) (by first | decide +kernel | decide))
  refine PySem.callWith_type1 (wpAny_Call_method0_late (base_ns h1) hl (thn (ho.run pins s σ H _ I h') fun v s1 ⟨x, H1, I1, rx, S1, F1, μ1, d, kvs, R1, r1, ep, q⟩ => ?_))
  obtain ⟨a, ws, rfl, ha, rk⟩ := R1.pairs ep r1
  obtain rfl : v = Value.ref a := rx
  obtain ⟨_, hsys, vs, rel, dof⟩ := dk_rd I1.hok ha
  obtain ⟨ep', dat⟩ := dof.dictAt
  have dat' := dat
  obtain ⟨ob, es, ho', ex, hdat, hko, hpr, hnd⟩ := dat'
  refine ⟨"dict", "dict.values", F.plainAttrs_dict, F.slot_dict_values, F.type_dict_values, ⟨ob, ho', ex.1⟩, fun b e => ?_, Calls.callWith_builtin rfl (PySem.evalArgs_none ?_)⟩
  · cases e
    exact ⟨ob, ho', ex.2.1⟩
  refine call_meetsIn F.slot_dict_values ⟨ob, ho', ex.1⟩ F.entry_dict_values (F.args_dict_values_1 _) (meets_dict_values (mixKind X.prog X.w) a hsys) ⟨⟨vs, dof⟩, ?_⟩
  have k1 : ∀ b u, s1.heap.get? b = some u → (s1.heap.push { cls := .type "dict_values", data := .fields #[.ref a] }).get? b = some u := fun b u e => Heap.get?_push_of_some _ e
  have dat1 : (s1.heap.push { cls := .type "dict_values", data := .fields #[.ref a] }).DictAt (mixKind X.prog X.w) a vs ep' := dat.keep k1
  have I2 : Inv X pins σ H1 { s1 with heap := s1.heap.push { cls := .type "dict_values", data := .fields #[.ref a] } } := I1.kept (t' := s1.toks) k1
  have hlv : ws.length = vs.length := KV.length rel
  have hz : ws.length ≤ sizeLine := (dk_rd I1.hok ha).1
  refine PySem.W.kdl_call (PySem.W.kdl_values (r := s1.heap.objs.size) (d := a) (knd := mixKind X.prog X.w) (kvs := vs) (ep := ep')) (I1.ok.hd G.calm) ⟨⟨_, Heap.get?_push_size _ rfl, rfl, rfl⟩, dat1⟩ (by rw [← hlv]; exact hz) fun h' tk acc' c' hkeep hS hacc => ?_
  refine ⟨.ref _, upd H1 _ (.lst (ws.map (·.2))), I2.laid hkeep (Nat.le_refl _) ⟨?_, acc'.toList, c', ?_, ?_⟩, rfl, new_lst R1 (vals_repK rk) (I2.hok.fresh (Nat.le_refl _)) q⟩
  · rw [List.length_map]; exact hz
  · have el : acc'.toList.length = acc'.size := by simp
    refine vals_of_at (by rw [List.length_map, el, hacc.1, hlv]) fun j x w h1 h2 => ?_
    obtain ⟨kk, hky⟩ := hacc.2 j w (by rw [← Array.getElem?_toList]; exact h2)
    obtain ⟨y, h3, h4⟩ := KV.at' rel hky
    rw [List.getElem?_map, h3] at h1
    cases h1
    exact h4
  · rw [Array.toArray_toList]; exact hS
end
end PM
set_option Elab.async false
set_option linter.all false
set_option autoImplicit false
set_option maxHeartbeats 4000000
/-! PMRepr: data as the library reads it, dicts too; repr. -/
namespace PM
open PySem PySem.Spec PyProof.Rows L2
def pyKey : Key → PyData
  | .inl i => .int i
  | .inr x => .str (tS x)
mutual
def pyR : D → PyData
  | .bl b => .bool b
  | .int i => .int i
  | .str x => .str (tS x)
  | .tup xs => .tuple (pyRL xs)
  | .lst xs => .list (pyRL xs)
  | .dct kvs => .dict (pyRK kvs)
  | _ => .none
def pyRL : List D → List PyData
  | [] => []
  | x :: r => pyR x :: pyRL r
def pyRK : List (Key × D) → List (PyData × PyData)
  | [] => []
  | (k, x) :: r => (pyKey k, pyR x) :: pyRK r
end
section
variable {W : Wx} {X : Cx} {pins : List (Addr × Obj)} {σ : L2.St} {H : Hp} {s : Shared} {F : Addr → Prop} {μ : List Addr} {S : St}
/-- what is told of one value -/
def RdOk (s : Shared) (x : D) (u : Value) (k : Nat) : Prop := ∃ as, Reads s.heap u (pyR x) as ∧ sysModules ∉ as ∧ (pyR x).depth ≤ k
def RdAll (s : Shared) (xs : List D) (us : List Value) (k : Nat) : Prop := ∃ as, ReadsAll s.heap us (pyRL xs) as ∧ sysModules ∉ as ∧ PyData.depthAll (pyRL xs) ≤ k
theorem rd_all {k : Nat} {f : D → Option D} (hf : ∀ (d x : D) (v : V) (u : Value), f d = some x → Rep W.toWd F μ H d v → RelV v u → RdOk s x u k) :
    ∀ {xs ys : List D} {vs : List V} {us : List Value}, mapO f xs = some ys → RepL W.toWd F μ H xs vs → Vals vs us → RdAll s ys us k
  | [], ys, vs, us, e, r, q => by
    simp [mapO] at e
    subst e
    cases r
    cases q
    exact ⟨[], .nil, by simp, Nat.zero_le _⟩
  | x :: t, ys, vs, us, e, r, q => by
    cases r with
    | cons a b =>
      cases q with
      | cons c d =>
        unfold mapO at e
        split at e
        · rename_i y u h1 h2
          cases e
          obtain ⟨as, p1, p2, p3⟩ := hf _ _ _ _ h1 a c
          obtain ⟨bs, q1, q2, q3⟩ := rd_all hf h2 b d
          exact ⟨as ++ bs, .cons p1 q1, by simp [p2, q2], by unfold pyRL PyData.depthAll; omega⟩
        · cases e
/-- a dict's entries -/
theorem rd_kv {prog : Program} {w : World} {k : Nat} {f : D → Option D} (hf : ∀ (d x : D) (v : V) (u : Value), f d = some x → Rep W.toWd F μ H d v → RelV v u → RdOk s x u k) :
    ∀ {kvs ys : List (Key × D)} {ws : List (L2.Key × V)} {vs : List (L2.Key × Value)} {es : List DictEntry}, mapV f kvs = some ys → RepK W.toWd F μ H kvs ws → KV ws vs → Pairs (mixKind prog w) es vs →
      ∃ as bs, ReadsAll s.heap (es.map (·.key)) ((pyRK ys).map (·.1)) as ∧ ReadsAll s.heap (es.map (·.val)) ((pyRK ys).map (·.2)) bs ∧ sysModules ∉ as ∧ sysModules ∉ bs ∧ PyData.depthKv (pyRK ys) ≤ k
  | [], ys, ws, vs, es, e, r, q, p => by
    simp [mapV] at e
    subst e
    cases r
    cases q
    cases p
    exact ⟨[], [], .nil, .nil, by simp, by simp, Nat.zero_le _⟩
  | (kk, x) :: t, ys, ws, vs, es, e, r, q, p => by
    cases r with
    | cons hk a b =>
      cases q with
      | cons c d =>
        cases p with
        | cons h1 h2 h3 =>
          unfold mapV at e
          split at e
          · rename_i y u g1 g2
            cases e
            obtain ⟨c1, c2⟩ := c
            obtain ⟨as, p1, p2, p3⟩ := hf _ _ _ _ g1 a c2
            obtain ⟨a2, b2, q1, q2, q3, q4, q5⟩ := rd_kv hf g2 b d h3
            refine ⟨[] ++ a2, as ++ b2, .cons ?_ q1,  .cons (by simpa only [h2] using p1) q2, by simpa using q3, by simp [p2, q4], ?_⟩
            · have hk1 := keyIs_shape h1
              rw [← c1] at hk1
              rcases hk1 with ⟨i, t, e1, e2⟩ | ⟨x, t, e1, e2⟩
              · cases kk with
                | inl j =>
                  simp only [e2]
                  cases e1
                  exact .int _ _
                | inr y => cases e1
              · cases kk with
                | inl j => cases e1
                | inr y =>
                  simp only [e2]
                  cases e1
                  exact .str _ _
            · unfold pyRK PyData.depthKv
              have : (pyKey kk).depth = 0 := by cases kk <;> rfl
              omega
          · cases e
theorem reads_of (hK : X.K = W.K) (hsm : ∃ o, s.heap.get? sysModules = some o ∧ o.cls = .type "dict") (I : Inv X pins σ H s) (R : Rl W.toWd F μ H S) : ∀ (k : Nat) (d x : D) (v : V) (u : Value), D.dr S k d = some x → Rep W.toWd F μ H d v → RelV v u → RdOk s x u k
  | 0, d, x, v, u, h, r, q => by
    unfold D.dr at h
    cases r with
    | non => cases h; cases q; exact ⟨[], .none, by simp, Nat.le_refl _⟩
    | bl b => cases h; cases q; exact ⟨[], .bool b, by simp, Nat.le_refl _⟩
    | int i => cases h; obtain ⟨t, rfl⟩ := q; exact ⟨[], .int i t, by simp, Nat.le_refl _⟩
    | str y hy => cases h; obtain ⟨t, rfl⟩ := q; exact ⟨[], .str _ t, by simp, Nat.le_refl _⟩
    | _ => cases h
  | k + 1, d, x, v, u, h, r, q => by
    have ih := reads_of hK hsm I R k
    have lstC : ∀ {ds ys : List D} {a : Addr} {vs : List V}, Rd H a (.lst vs) → RepL W.toWd F μ H ds vs → mapO (D.dr S k) ds = some ys → u = .ref a → RdOk s (.lst ys) u (k + 1) := fun {ds ys a vs} sq rr e eu => by
      subst eu
      obtain ⟨_, its, n, rv, ho⟩ := sq.ok I.hok
      obtain ⟨as, p1, p2, p3⟩ := rd_all ih e rr rv
      refine ⟨a :: as, .list ho rfl rfl (by simpa using p1), ?_, Nat.succ_le_succ p3⟩
      rw [List.mem_cons, not_or]
      refine ⟨fun ea => ?_, p2⟩
      obtain ⟨o, h1, h2⟩ := hsm
      rw [ea, ho] at h1
      cases h1
      exact absurd (show Value.type "list" = Value.type "dict" from h2) (by decide)
    have tupC : ∀ {ds ys : List D} {a : Addr} {vs : List V}, SqT W.K H a vs → RepL W.toWd F μ H ds vs → mapO (D.dr S k) ds = some ys → u = .ref a → RdOk s (.tup ys) u (k + 1) := fun {ds ys a vs} sq rr e eu => by
      subst eu
      have sq' : SqT X.K H a vs := by rw [hK]; exact sq
      obtain ⟨its, rv, ⟨o, ho, hc, n, hd⟩, _⟩ := I.tuple sq'
      obtain ⟨as, p1, p2, p3⟩ := rd_all ih e rr rv
      exact ⟨as, .tuple ho hc hd (by simpa using p1), p2, Nat.succ_le_succ p3⟩
    have dctC : ∀ {kvs ys : List (Key × D)} {a : Addr} {ws : List (L2.Key × V)}, L2.Rd H a (.dK ws) → RepK W.toWd F μ H kvs ws → mapV (D.dr S k) kvs = some ys → u = .ref a → RdOk s (.dct ys) u (k + 1) := fun {kvs ys a ws} eH rk e eu => by
      subst eu
      obtain ⟨_, hsys, vs, rel, dof⟩ := dk_rd I.hok eH
      obtain ⟨ep', dat⟩ := dof.dictAt
      obtain ⟨ob, es, ho', ex, hdat, hko, hpr, hnd⟩ := dat
      obtain ⟨as, bs, p1, p2, p3, p4, p5⟩ := rd_kv ih e rk rel hpr
      refine ⟨a :: as ++ bs, .dict ho' ex.1 hdat p1 p2, ?_, Nat.succ_le_succ p5⟩
      simp only [List.cons_append, List.mem_cons, List.mem_append, not_or]
      exact ⟨fun ea => by rw [ea] at hsys; simp at hsys, p3, p4⟩
    unfold D.dr at h
    cases r with
    | non => cases h; cases q; exact ⟨[], .none, by simp, Nat.zero_le _⟩
    | bl b => cases h; cases q; exact ⟨[], .bool b, by simp, Nat.zero_le _⟩
    | int i => cases h; obtain ⟨t, rfl⟩ := q; exact ⟨[], .int i t, by simp, Nat.zero_le _⟩
    | str y hy => cases h; obtain ⟨t, rfl⟩ := q; exact ⟨[], .str _ t, by simp, Nat.zero_le _⟩
    | tup z r =>
      obtain ⟨ys, e, rfl⟩ := Option.map_eq_some_iff.mp h
      exact tupC (z.elim (fun ⟨_, q⟩ => .inl (.inl q)) fun q => .inr q) r e q
    | lst f sq r =>
      obtain ⟨ys, e, rfl⟩ := Option.map_eq_some_iff.mp h
      exact lstC sq r e q
    | dct f eH r =>
      obtain ⟨ys, e, rfl⟩ := Option.map_eq_some_iff.mp h
      exact dctC eH r e q
    | ins _ _ _ _ => cases h
    | err _ _ _ _ _ _ => cases h
    | loc z =>
      rename_i n a
      have hlt : n < S.length := by rw [← R.len]; exact (List.getElem?_eq_some_iff.mp z).1
      have c := R.cell n a _ z (List.getElem?_eq_getElem hlt)
      simp only [List.getElem?_eq_getElem hlt] at h
      generalize S[n] = cc at h c
      cases c with
      | lst sq r =>
        obtain ⟨ys, e, rfl⟩ := Option.map_eq_some_iff.mp h
        exact lstC (.inl sq) r e q
      | dct eH r =>
        obtain ⟨ys, e, rfl⟩ := Option.map_eq_some_iff.mp h
        exact dctC eH.rd r e q
      | ins _ _ _ => cases h
end
end PM
set_option Elab.async false
set_option linter.all false
set_option autoImplicit false
set_option maxHeartbeats 4000000
/-! PMRepr2: repr's text is no longer than wt says; repr. -/
namespace PM
open PySem PySem.Spec PyProof.Rows L2
theorem textFrom_le : ∀ (ts : List Str) (k : Nat) (acc : Str), (textFrom k acc ts).length ≤ acc.length + piled ts
  | [], k, acc => by show acc.length ≤ _; omega
  | t :: r, k, acc => by
    have ih := textFrom_le r (k + 1) (acc ++ (if k > 0 then ", " else "" : String) ++ t)
    rw [piled_cons]
    unfold textFrom
    rw [strLen_append, strLen_append] at ih
    have h2 : (Str.ofString (if k > 0 then ", " else "" : String)).length ≤ 2 := by
      split
      · exact Nat.le_of_eq (by decide +kernel)
      · exact Nat.le_trans (Nat.le_of_eq (by decide +kernel : (Str.ofString "").length = 0)) (by omega)
    omega
theorem listText_le (ts : List Str) : (listText ts).length ≤ 2 + piled ts := by
  unfold listText
  rw [strLen_append]
  have h1 := textFrom_le ts 0 "["
  have h2 : (Str.ofString "[").length = 1 := by decide +kernel
  have h3 : (Str.ofString "]").length = 1 := by decide +kernel
  omega
theorem join_le (ts : List Str) : (Str.join ", " ts).length ≤ piled ts := by
  by_cases h : ts = []
  · subst h; exact Nat.zero_le _
  · have := join_length_add ts h
    omega
theorem tupleText_le (ts : List Str) : (tupleText ts).length ≤ 3 + piled ts := by
  unfold tupleText
  rw [strLen_append, strLen_append]
  have h1 := join_le ts
  have h2 : (Str.ofString "(").length = 1 := by decide +kernel
  have h3 : (Str.ofString (if ts.length == 1 then ",)" else ")" : String)).length ≤ 2 := by
    split
    · exact Nat.le_of_eq (by decide +kernel)
    · exact Nat.le_trans (Nat.le_of_eq (by decide +kernel : (Str.ofString ")").length = 1)) (by omega)
  omega
theorem dictText_le (ts : List Str) : (dictText ts).length ≤ 2 + piled ts := by
  unfold dictText
  rw [strLen_append, strLen_append]
  have h1 := join_le ts
  have h2 : (Str.ofString "{").length = 1 := by decide +kernel
  have h3 : (Str.ofString "}").length = 1 := by decide +kernel
  omega
def big : Nat := 100000000
theorem int_wt {i : Int} (h : (if i.natAbs.log2 < 1900 then i.natAbs.log2 + 3 else 1000000000) ≤ big) : (Str.ofString (toString i)).length ≤ (if i.natAbs.log2 < 1900 then i.natAbs.log2 + 3 else 1000000000) ∧ decide (i.natAbs.log2 < 1920) = true := by
  split at h
  · rename_i hl
    rw [if_pos hl]
    have h1 := int_text_length_le (a := i) (k := i.natAbs.log2 + 1) (by omega) (by omega)
    have h2 : (Str.ofString (toString i)).length = (toString i).length := PySem.ofString_length _
    exact ⟨by rw [h2]; omega, decide_eq_true (by omega)⟩
  · exact absurd h (by decide)
theorem str_wt {x : Txt} (h : (if x.all (fun c => decide (c < 128)) then 10 * x.length + 2 else 1000000000) ≤ big) : (reprText (tS x)).length ≤ (if x.all (fun c => decide (c < 128)) then 10 * x.length + 2 else 1000000000) := by
  split at h
  · rename_i ha
    rw [if_pos ha]
    have e1 : (tS x).cps.toList = x := by unfold tS; simp
    have := StrLaws.reprText_len (tS x) (fun c hc => by
      rw [e1] at hc
      have := of_decide_eq_true (List.all_eq_true.mp ha c hc)
      omega)
    rw [tS_len] at this
    exact this
  · exact absurd h (by decide)
theorem key_wt {k : Key} (h : (match k with | .inl i => (if i.natAbs.log2 < 1900 then i.natAbs.log2 + 3 else 1000000000) | .inr y => (if y.all (fun c => decide (c < 128)) then 10 * y.length + 2 else 1000000000) : Nat) ≤ big) :
    (pyKey k).shown.length ≤ (match k with | .inl i => (if i.natAbs.log2 < 1900 then i.natAbs.log2 + 3 else 1000000000) | .inr y => (if y.all (fun c => decide (c < 128)) then 10 * y.length + 2 else 1000000000) : Nat) ∧ (pyKey k).showable = true := by
  cases k with
  | inl i => exact int_wt h
  | inr y => exact ⟨str_wt h, rfl⟩
mutual
theorem shown_wt : ∀ x : D, x.wt ≤ big → (pyR x).shown.length ≤ x.wt ∧ (pyR x).showable = true
  | .non, _ => ⟨by decide +kernel, rfl⟩
  | .bl b, _ => ⟨by cases b <;> decide +kernel, rfl⟩
  | .int i, h => int_wt h
  | .str x, h => ⟨str_wt h, rfl⟩
  | .tup xs, h => by
    unfold D.wt at h
    obtain ⟨a, b⟩ := shown_wtL xs (by omega)
    have := tupleText_le (PyData.shownAll (pyRL xs))
    exact ⟨by show (tupleText (PyData.shownAll (pyRL xs))).length ≤ _; unfold D.wt; omega, b⟩
  | .lst xs, h => by
    unfold D.wt at h
    obtain ⟨a, b⟩ := shown_wtL xs (by omega)
    have := listText_le (PyData.shownAll (pyRL xs))
    exact ⟨by show (listText (PyData.shownAll (pyRL xs))).length ≤ _; unfold D.wt; omega, b⟩
  | .dct kvs, h => by
    unfold D.wt at h
    obtain ⟨a, b⟩ := shown_wtK kvs (by omega)
    have := dictText_le (PyData.shownKv (pyRK kvs))
    exact ⟨by show (dictText (PyData.shownKv (pyRK kvs))).length ≤ _; unfold D.wt; omega, b⟩
  | .ins _ _, _ => ⟨by show (Str.ofString "None").length ≤ 5; decide +kernel, rfl⟩
  | .exn _ _, _ => ⟨by show (Str.ofString "None").length ≤ 5; decide +kernel, rfl⟩
  | .err _ _, _ => ⟨by show (Str.ofString "None").length ≤ 5; decide +kernel, rfl⟩
  | .loc _, _ => ⟨by show (Str.ofString "None").length ≤ 5; decide +kernel, rfl⟩
theorem shown_wtL : ∀ xs : List D, D.wtL xs ≤ big → piled (PyData.shownAll (pyRL xs)) ≤ D.wtL xs ∧ PyData.showableAll (pyRL xs) = true
  | [], _ => ⟨Nat.zero_le _, rfl⟩
  | x :: r, h => by
    unfold D.wtL at h
    obtain ⟨a, b⟩ := shown_wt x (by omega)
    obtain ⟨c, d⟩ := shown_wtL r (by omega)
    refine ⟨?_, ?_⟩
    · show piled ((pyR x).shown :: PyData.shownAll (pyRL r)) ≤ _
      rw [piled_cons]
      unfold D.wtL
      omega
    · show ((pyR x).showable && PyData.showableAll (pyRL r)) = true
      rw [b, d]; rfl
theorem shown_wtK : ∀ xs : List (Key × D), D.wtK xs ≤ big → piled (PyData.shownKv (pyRK xs)) ≤ D.wtK xs ∧ PyData.showableKv (pyRK xs) = true
  | [], _ => ⟨Nat.zero_le _, rfl⟩
  | (.inl i, x) :: r, h => by
    have hw : D.wtK ((.inl i, x) :: r) = (if i.natAbs.log2 < 1900 then i.natAbs.log2 + 3 else 1000000000) + D.wt x + 4 + D.wtK r := by rw [D.wtK]
    rw [hw] at h ⊢
    obtain ⟨a, b⟩ := shown_wt x (by omega)
    obtain ⟨c, d⟩ := shown_wtK r (by omega)
    obtain ⟨e, f⟩ := int_wt (i := i) (by omega)
    refine ⟨?_, ?_⟩
    · show piled ((Str.ofString (toString i) ++ ": " ++ (pyR x).shown) :: PyData.shownKv (pyRK r)) ≤ _
      rw [piled_cons, strLen_append, strLen_append]
      have h2 : (Str.ofString ": ").length = 2 := by decide +kernel
      omega
    · show ((pyKey (.inl i)).showable && (pyR x).showable && PyData.showableKv (pyRK r)) = true
      rw [b, d]
      show (decide (i.natAbs.log2 < 1920) && true && true) = true
      rw [f]; rfl
  | (.inr y, x) :: r, h => by
    have hw : D.wtK ((.inr y, x) :: r) = (if y.all (fun c => decide (c < 128)) then 10 * y.length + 2 else 1000000000) + D.wt x + 4 + D.wtK r := by rw [D.wtK]
    rw [hw] at h ⊢
    obtain ⟨a, b⟩ := shown_wt x (by omega)
    obtain ⟨c, d⟩ := shown_wtK r (by omega)
    have e := str_wt (x := y) (by omega)
    refine ⟨?_, ?_⟩
    · show piled ((reprText (tS y) ++ ": " ++ (pyR x).shown) :: PyData.shownKv (pyRK r)) ≤ _
      rw [piled_cons, strLen_append, strLen_append]
      have h2 : (Str.ofString ": ").length = 2 := by decide +kernel
      omega
    · show ((pyKey (.inr y)).showable && (pyR x).showable && PyData.showableKv (pyRK r)) = true
      rw [b, d]; rfl
end
section
variable {W : Wx} {wx : WX} {C : Ctx} {sh : Shp} {k : Nat} {X : Cx}
theorem repr_any {prog : Program} {w : World} {A : Around} {E' : Value → Shared → Prop} {s : Shared} {u : Value} {d : PyData} {as : List Addr} {Q : Value → Shared → Prop} (r : Reads s.heap u d as) (hs : d.showable = true) (hsn : sysModules ∉ as) (hg : A.guards = some []) (hu : A.units + (d.depth + 1) < cLine) (hsz : d.shown.length ≤ sizeLine)
    (hQ : ∀ h' t tk, (∀ b o, s.heap.get? b = some o → h'.get? b = some o) → Q (.str d.shown t) { s with heap := h', toks := tk }) : wpAny (model prog w) A (call (.builtin "repr") [u]) Q E' s := by
  have h0 := hQ s.heap s.toks (s.toks + 1) fun _ _ e => e
  cases r with
  | none => exact PySem.P.repr_of_none h0
  | bool b => exact PySem.P.repr_of_bool (by cases b <;> exact h0)
  | int i t => exact PySem.P.repr_of_int (of_decide_eq_true hs) h0
  | str x t => exact PySem.P.repr_of_str h0 hsz
  | list a b c e => exact PySem.repr_of_reads' (.list a b c e) hs (fun _ => hsn) hg hu (fun _ _ e => e) hQ hsz
  | tuple a b c e => exact PySem.repr_of_reads' (.tuple a b c e) hs (fun _ => hsn) hg hu (fun _ _ e => e) hQ hsz
  | dict a b c e f => exact PySem.repr_of_reads' (.dict a b c e f) hs (fun _ => hsn) hg hu (fun _ _ e => e) hQ hsz
theorem shown_int (i : Int) : (PyData.int i).shown = Str.ofString (toString i) := rfl
/-- repr of data -/
theorem c_repr (G : Gb W C sh k X) (hrep : ∀ x, tS (C.rep x) = (pyR x).shown) {m : Bool} : CallR X (.builtin "repr") (rBi W.toWd C "repr" m) := by
  intro pins s σ H xs us Q I r ⟨S, F, μ, ds, Rs, rr, d, S', e, q⟩
  cases ds with
  | nil => simp [bi] at e
  | cons d1 ds =>
    cases ds with
    | cons _ _ => simp [bi] at e
    | nil =>
      obtain ⟨v, rfl, r1⟩ := one_arg rr
      simp only [bi] at e
      cases ed : D.dr S 150 d1 with
      | none => rw [ed] at e; cases e
      | some x =>
        rw [ed] at e
        simp only at e
        split at e
        · rename_i hw
          cases e
          have hbig : x.wt ≤ big := Nat.le_trans hw (by decide)
          obtain ⟨hl, hs⟩ := shown_wt x hbig
          have z4 : sizeMax ≤ sizeLine := by decide
          have hsz : (pyR x).shown.length ≤ sizeLine := by omega
          obtain ⟨u, rfl, ru⟩ := vals1 r
          have hsm : ∃ o, s.heap.get? sysModules = some o ∧ o.cls = .type "dict" := by
            obtain ⟨o, h1, h2⟩ := G.st.sm
            exact ⟨o, I.bk _ _ h1, h2⟩
          obtain ⟨as, hr, hsn, hdp⟩ := reads_of G.hK hsm I Rs 150 d1 x v u ed r1 ru
          have hlen : (C.rep x).length ≤ sizeLine := by
            have := congrArg Str.length (hrep x)
            rw [tS_len] at this
            omega
          have hu := G.hu
          exact repr_any hr hs hsn G.gs (by omega) hsz fun h' t tk hk => ⟨.str (pyR x).shown, H, I.kept hk, ⟨t, rfl⟩, by
            rw [← hrep]
            exact EndV.val q Rs (.str _ hlen)⟩
        · cases e
end
end PM
set_option Elab.async false
set_option linter.all false
set_option autoImplicit false
set_option maxRecDepth 100000
/-! PMSetR: sets of texts whose table rises and can be walked. -/
namespace PM
open PySem PySem.Spec PyProof.Rows L2
/-- met one by one -/
def ad (l : List Str) (x : Str) : List Str := if l.contains x = true then l else l ++ [x]
def txK (e : Int × Value) : Str := match e.2 with
  | .str x _ => x
  | _ => ⟨#[]⟩
def TxG (w : World) (e : Int × Value) : Prop := ∃ x m, e.2 = .str x m ∧ e.1 = hashStr w x
/-- the set of the texts l lies at c -/
def TxR (w : World) (hp : Heap) (c : Addr) (l : List Str) : Prop :=
  ∃ o es ep tb, hp.get? c = some o ∧ o.ExactSet ∧ o.data = .set es ep tb ∧ (∀ e ∈ es.toList, TxG w e) ∧ (es.toList.map txK).Perm l ∧ l.Nodup ∧
    es.size < scanBound ∧ tb.fits es.size = true ∧ Ris tb.place.toList ∧ (w.params.followText "set-order" = true ∨ tb.led = true)
section
variable {P : Program} {w : World} {hp hp' : Heap} {c : Addr} {l : List Str}
theorem TxR.at (r : TxR w hp c l) (k : ∀ o, hp.get? c = some o → hp'.get? c = some o) : TxR w hp' c l := by
  obtain ⟨o, es, ep, tb, ho, q⟩ := r
  exact ⟨o, es, ep, tb, k o ho, q⟩
theorem txG_el {xs : List (Int × Value)} (g : ∀ e ∈ xs, TxG w e) : ElemsOf (PySem.strKind P w) xs := fun e he => by
  obtain ⟨x, m, q1, q2⟩ := g e he
  exact ⟨⟨x, by rw [q1]; exact strKind_is P w x m, q2⟩, by rw [q1]; rfl⟩
theorem txG_is {e : Int × Value} (g : TxG w e) (x : Str) : (PySem.strKind P w).is x e.2 = true ↔ txK e = x := by
  obtain ⟨y, m, q, _⟩ := g
  unfold txK
  rw [q]
  simp only
  show Value.isStrOf x (.str y m) = true ↔ y = x
  constructor
  · intro z
    obtain ⟨_, z⟩ := Value.isStrOf_shape z
    injection z
  · rintro rfl
    exact strKind_is P w y m
theorem TxR.setOf (r : TxR w hp c l) : hp.SetOf (PySem.strKind P w) c (fun y => l.contains y) l.length := by
  obtain ⟨o, es, ep, tb, ho, hx, hd, g, pm, nd, hb, hf, _⟩ := r
  refine ⟨o, es, ep, tb, ho, hx, hd, txG_el g, fun y => ?_, hb, hf, by rw [← pm.length_eq, List.length_map, Array.length_toList]⟩
  rw [List.contains_iff_mem, ← pm.mem_iff, List.mem_map]
  constructor
  · rintro ⟨e, he, q⟩
    exact ⟨e, he, (txG_is (g e he) y).2 q⟩
  · rintro ⟨e, he, q⟩
    exact ⟨e, he, (txG_is (g e he) y).1 q⟩
theorem TxR.len (r : TxR w hp c l) : l.length < scanBound := by
  obtain ⟨o, es, ep, tb, ho, hx, hd, g, pm, nd, hb, _⟩ := r
  rw [← pm.length_eq, List.length_map, Array.length_toList]; exact hb
end
section
variable {P : Program} {w : World} {A : Around} {E : Value → Shared → Prop} {s : Shared} {c : Addr} {l : List Str}
theorem txR_tail {f : Bool → Sem Unit} (hf : ∀ (b : Bool) (z : Shared) (Z : Unit → Shared → Prop), Z () z → wpAny (model P w) A (f b) Z E z)
    {o : Obj} {es : Array (Int × Value)} {ep : Nat} {tb : SetTable} (ho : s.heap.get? c = some o) (hx : o.ExactSet) (hd : o.data = .set es ep tb)
    {xs : Array (Int × Value)} {tc : SetTable} {m : List Str} (g : ∀ e ∈ xs.toList, TxG w e) (pm : (xs.toList.map txK).Perm m) (nd : m.Nodup)
    (hb : xs.size < scanBound) (ht : tc.fits xs.size = true) (hr : Ris tc.place.toList) (hl : w.params.followText "set-order" = true ∨ tc.led = true) {dm : Bool} {R : Option Bool → Shared → Prop}
    (hR : ∀ hq, Heap.SameBut c s.heap hq → TxR w hq c m → R (some true) { s with heap := hq }) :
    wpAny (model P w) A (do
      storeSet c xs tc
      if (!dm && tc.tooFull) = true then do
        f (relayAll tc xs (SetTable.grown xs.size)).2.2
        storeSet c (relayAll tc xs (SetTable.grown xs.size)).1 (relayAll tc xs (SetTable.grown xs.size)).2.1
        pure (some true)
      else pure (some true)) R E s := by
  refine wpAny_bind (wpAny_storeSet_of ho hd ?_ (fits_of_scanBound hb))
  have o1 := store_at (es' := xs) (t' := tc) ho hd
  have b1 := Heap.SameBut.update s.heap c (Obj.putSet xs tc)
  split
  · have p2 := relayAll_perm tc xs (SetTable.grown xs.size)
    have f2 := relayAll_fits tc xs (SetTable.grown xs.size)
    have r2 := relayAll_ris tc xs (SetTable.grown xs.size)
    have l2 := relayAll_led tc xs (SetTable.grown xs.size)
    generalize relayAll tc xs (SetTable.grown xs.size) = Y at p2 f2 r2 l2 ⊢
    obtain ⟨ys, td, gv⟩ := Y
    dsimp only at p2 f2 r2 l2 ⊢
    have zy : ys.size = xs.size := by rw [← Array.length_toList, p2.length_eq, Array.length_toList]
    have yb : ys.size < scanBound := by rw [zy]; exact hb
    refine wpAny_bind (hf _ _ _ ?_)
    refine wpAny_bind (wpAny_storeSet_of o1 rfl ?_ (fits_of_scanBound yb))
    have o2 := store_at (es' := ys) (t' := td) o1 rfl
    refine wpAny_pure (hR _ (b1.trans (Heap.SameBut.update _ c _)) ?_)
    exact ⟨_, ys, _, td, o2, hx, rfl, fun e he => g e (p2.mem_iff.mp he), (p2.map txK).trans pm, nd, yb, f2, r2, hl.imp id fun z => by rw [l2]; exact z⟩
  · exact wpAny_pure (hR _ b1 ⟨_, xs, _, tc, o1, hx, rfl, g, pm, nd, hb, ht, hr, hl⟩)
theorem txR_add {x : Str} {m : Tok} {Q : Bool → Shared → Prop} (r : TxR w s.heap c l) (room : l.length + 1 < scanBound)
    (hQ : ∀ hq b, Heap.SameBut c s.heap hq → TxR w hq c (ad l x) → Q b { s with heap := hq }) :
    wpAny (model P w) A (setAddHashed c (.str x m) ((PySem.strKind P w).hash x)) Q E s := by
  obtain ⟨o, es, ep, tb, ho, hx, hd, g, pm, nd, hb, hf, hr, hl⟩ := r
  have k1 : (PySem.strKind P w).is x (.str x m) = true := strKind_is P w x m
  have k2 : (Value.str x m).scannable = true := rfl
  have hel : ElemsOf (PySem.strKind P w) es.toList := txG_el g
  unfold setAddHashed setAddHashedIn
  refine wpAny_holding (wpAny_bind (wpAny_setState_of ho hd hf ?_))
  dsimp only
  rw [byScan_of k2 hb hel]
  simp only [↓reduceIte]
  unfold setAddByScan
  refine wpAny_bind ?_
  refine wpAny_bind (wpAny_rule ?_)
  refine wpAny_bind (wpAny_setScan_of k1 ho hd hf hel ?_)
  have inl : x ∈ l ↔ ∃ e ∈ es.toList, (PySem.strKind P w).is x e.2 = true := by
    rw [← pm.mem_iff, List.mem_map]
    constructor
    · rintro ⟨e, he, q⟩
      exact ⟨e, he, (txG_is (g e he) x).2 q⟩
    · rintro ⟨e, he, q⟩
      exact ⟨e, he, (txG_is (g e he) x).1 q⟩
  cases fi : List.findIdx? (fun e => (PySem.strKind P w).is x e.2) es.toList with
  | some j =>
    dsimp only
    obtain ⟨hj, pj, _⟩ := List.findIdx?_eq_some_iff_getElem.mp fi
    have xl : x ∈ l := inl.2 ⟨es.toList[j], List.getElem_mem hj, pj⟩
    have ea : ad l x = l := by unfold ad; rw [if_pos (List.contains_iff_mem.mpr xl)]
    refine wpAny_pure (wpAny_pure (hQ s.heap _ (Heap.SameBut.refl c s.heap) ?_))
    rw [ea]
    exact ⟨o, es, ep, tb, ho, hx, hd, g, pm, nd, hb, hf, hr, hl⟩
  | none =>
    dsimp only
    have xl : x ∉ l := fun z => by
      obtain ⟨e, he, q⟩ := inl.1 z
      have := List.findIdx?_eq_none_iff.mp fi e he
      rw [q] at this
      cases this
    have ea : ad l x = l ++ [x] := by unfold ad; rw [if_neg fun z => xl (List.contains_iff_mem.mp z)]
    have gw : ∀ (b : Bool) {z : Shared} {Z : Unit → Shared → Prop}, Z () z → wpAny (model P w) A (match b with | true => rule "set.scan.the-table-gave-way" | false => pure ()) Z E z :=
      fun b z Z q => by cases b <;> first | exact wpAny_pure q | exact wpAny_rule q
    have p1 := layNew_perm tb es ((PySem.strKind P w).hash x) (.str x m)
    have f1 := layNew_fits tb es ((PySem.strKind P w).hash x) (.str x m)
    have r1 := layNew_ris tb es ((PySem.strKind P w).hash x) (.str x m) hr
    have l1 := layNew_led tb es ((PySem.strKind P w).hash x) (.str x m)
    generalize layNew tb es ((PySem.strKind P w).hash x) (.str x m) = Y at p1 f1 r1 l1 ⊢
    obtain ⟨xs, tc, dm, gv⟩ := Y
    dsimp only at p1 f1 r1 l1 ⊢
    rw [Array.toList_push] at p1
    have pc : xs.toList.Perm (((PySem.strKind P w).hash x, Value.str x m) :: es.toList) := p1.trans (List.perm_append_singleton _ _)
    have pk : (xs.toList.map txK).Perm (ad l x) := by
      rw [ea]
      have q := pc.map txK
      rw [List.map_cons] at q
      have q1 : txK ((PySem.strKind P w).hash x, Value.str x m) = x := rfl
      rw [q1] at q
      exact (q.trans (pm.cons x)).trans (List.perm_append_singleton _ _).symm
    have nl : (ad l x).Nodup := by
      rw [ea, (List.perm_append_singleton x l).nodup_iff, List.nodup_cons]
      exact ⟨xl, nd⟩
    have gx : ∀ e ∈ xs.toList, TxG w e := fun e he => by
      rcases List.mem_cons.mp (pc.mem_iff.mp he) with z | z
      · rw [z]; exact ⟨x, m, rfl, rfl⟩
      · exact g e z
    have zs : xs.size = l.length + 1 := by rw [← Array.length_toList, pc.length_eq, List.length_cons, ← pm.length_eq, List.length_map]
    have xb : xs.size < scanBound := by rw [zs]; exact room
    have ld : w.params.followText "set-order" = true ∨ tc.led = true := hl.imp id fun z => by rw [l1]; exact z
    refine wpAny_bind (gw _ ?_)
    split
    · refine wpAny_bind ?_
      rw [hashByValue_scannable 8 k2]
      refine wpAny_pure ?_
      refine txR_tail ?_ ho hx hd gx pk nl xb ?_ ?_ ?_ ?_
      · intro b z Z q; cases b <;> first | exact wpAny_pure q | exact wpAny_rule q
      · first | (split <;> first | exact f1 | exact SetTable.fits_plain_off f1) | exact f1
      · first | (split <;> exact r1) | exact r1
      · first | (split <;> exact ld) | exact ld
      · intro hq sb r; dsimp only; exact wpAny_pure (hQ hq _ sb r)
    · refine wpAny_bind (wpAny_pure ?_)
      simp only [↓reduceIte]
      refine txR_tail ?_ ho hx hd gx pk nl xb f1 r1 ld ?_
      · intro b z Z q; cases b <;> first | exact wpAny_pure q | exact wpAny_rule q
      · intro hq sb r; dsimp only; exact wpAny_pure (hQ hq _ sb r)
theorem txR_new (w : World) (hp : Heap) : TxR w (hp.push { cls := .type "set", dict := none, data := .set #[] 0 (.fresh 0 0 (!w.params.followText "set-order")) }) hp.objs.size [] :=
  ⟨_, #[], 0, _, Heap.get?_push_size _ rfl, ⟨rfl, rfl, rfl⟩, rfl, (fun e he => by simp at he), .nil, List.nodup_nil, (by decide), rfl, List.Pairwise.nil, by
    show _ ∨ (!w.params.followText "set-order") = true
    cases w.params.followText "set-order"
    · exact .inr rfl
    · exact .inl rfl⟩
end
end PM
set_option Elab.async false
set_option linter.all false
set_option autoImplicit false
set_option maxRecDepth 100000
/-! PMSet: set(texts), of any number. -/
namespace PM
open PySem PySem.Spec PyProof.Rows
def fs (ks : List Str) (i : Nat) : List Str := (ks.take i).foldl ad []
theorem fs_len (ks : List Str) (i : Nat) : (fs ks i).length ≤ i := by
  have h : ∀ (xs acc : List Str), (xs.foldl ad acc).length ≤ acc.length + xs.length := by
    intro xs
    induction xs with
    | nil => intro acc; simp
    | cons x r ih =>
      intro acc
      have := ih (ad acc x)
      have h2 : (ad acc x).length ≤ acc.length + 1 := by unfold ad; split <;> simp
      simp only [List.foldl_cons, List.length_cons]
      omega
  have := h (ks.take i) []
  have h2 : (ks.take i).length ≤ i := by rw [List.length_take]; omega
  unfold fs
  simp at this
  omega
theorem fs_succ (ks : List Str) (i : Nat) (x : Str) (h : ks[i]? = some x) : fs ks (i + 1) = ad (fs ks i) x := by
  unfold fs
  rw [List.take_add_one, h]
  simp
theorem fs_nodup (ks : List Str) : ∀ (acc : List Str), acc.Nodup → (ks.foldl ad acc).Nodup ∧ ∀ y, y ∈ ks.foldl ad acc ↔ y ∈ acc ∨ y ∈ ks := by
  induction ks with
  | nil => intro acc h; exact ⟨h, fun y => by simp⟩
  | cons x r ih =>
    intro acc h
    have h2 : (ad acc x).Nodup := by
      unfold ad
      split
      · exact h
      · rename_i q
        refine List.nodup_append.mpr ⟨h, by simp, fun a ha b hb => ?_⟩
        rw [List.mem_singleton.mp hb]
        intro e
        subst e
        exact q (by simpa using ha)
    obtain ⟨a, b⟩ := ih _ h2
    refine ⟨a, fun y => ?_⟩
    rw [List.foldl_cons, b y]
    unfold ad
    split
    · rename_i q
      have hx : x ∈ acc := by simpa using q
      constructor
      · rintro (z | z)
        · exact .inl z
        · exact .inr (List.mem_cons_of_mem _ z)
      · rintro (z | z)
        · exact .inl z
        · rcases List.mem_cons.mp z with z | z
          · subst z; exact .inl hx
          · exact .inr z
    · rw [List.mem_append, List.mem_singleton, List.mem_cons, or_assoc]
section
variable {prog : Program} {w : World} {A : Around} {R : Result → Shared → Prop} {I : Addr} {fp wr : List Addr} {G : Array GenState → Array GenState → Prop} {n : Nat} {Pi : Nat → Value → Prop} {St : Nat → Shared → Prop}
abbrev ofS (prog : Program) (w : World) (h : Heap) (a : Addr) (l : List Str) : Prop := TxR w h a l
theorem pm_setLoop (W : WalksS prog w A.in1 I fp wr G n Pi St) (c : Addr) (hc : c ∉ fp) (ks : List Str) (hv : ∀ i v, Pi i v → ∃ x t, ks[i]? = some x ∧ v = .str x t) (hn : n + 1 < scanBound) :
    ∀ (k i : Nat) (s : Shared), n - i = k → i ≤ n → St i s → ofS prog w s.heap c (fs ks i) →
      (∀ s2, Moved (c :: wr) G s s2 → ofS prog w s2.heap c (fs ks n) → R (.ok (.ret .none)) s2) →
      codeAny (model prog w) A (.builtin "set.update.loop" ⟨[.ref c, .ref I], []⟩) R s
  | 0, i, s, hk, hi, st, zs, fin => by
    obtain rfl : i = n := by omega
    have hcw : c ∉ wr := fun z => hc (W.sub _ z)
    refine codeAny_builtin PyProof.Rows.F.entry_set_update_loop ?_
    rw [Around.under_plainId PyProof.Rows.F.plain_set_update_loop _]
    refine wpAny_bind (W.done s _ _ st fun s2 mv => wpAny_pure (fin s2 (mv.mono fun b hb => List.mem_cons_of_mem _ hb) ?_))
    exact zs.at fun o e => mv.heap c o hcw e
  | k + 1, i, s, hk, hi, st, zs, fin => by
    have hlt : i < n := by omega
    have hcw : c ∉ wr := fun z => hc (W.sub _ z)
    refine codeAny_builtin PyProof.Rows.F.entry_set_update_loop ?_
    rw [Around.under_plainId PyProof.Rows.F.plain_set_update_loop _]
    refine wpAny_bind (W.item i s _ _ hlt st fun v s2 pv st2 mv => ?_)
    obtain ⟨x, t, hx, rfl⟩ := hv i v pv
    have zs2 : ofS prog w s2.heap c (fs ks i) := zs.at fun o e => mv.heap c o hcw e
    refine wpAny_bind (wpAny_holding ?_)
    unfold setAdd
    refine wpAny_holding (wpAny_bind ((PySem.strKind prog w).pyHash (k := x) (strKind_is _ _ _ _) ?_))
    refine txR_add (s := { s2 with toks := s2.toks + 1 }) zs2 (by have := fs_len ks i; omega) fun h2 bb sbt z4 => ?_
    have z5 : ofS prog w h2 c (fs ks (i + 1)) := by
      rw [fs_succ ks i x hx]
      exact z4
    refine wpAny_pure ⟨plainId_quiet PyProof.Rows.F.plain_set_update_loop _, pm_setLoop W c hc ks hv hn k (i + 1) _ (by omega) hlt (W.frame _ s2 _ _ st2 (Nat.le_succ _) fun b hb o e => ?_) z5 fun s3 mv2 z6 => ?_⟩
    · rw [sbt.2 b (fun z => hc (z ▸ hb))]; exact e
    · refine fin s3 (Moved.trans W.gtrans ((mv.mono fun b hb => List.mem_cons_of_mem _ hb).then_heap (Nat.le_succ _) fun b o hb e => ?_) mv2) z6
      rw [sbt.2 b (fun z => hb (by rw [z]; exact List.mem_cons_self))]; exact e
end
section
variable {prog : Program} {w : World} {A : Around} {E : Value → Shared → Prop} {s : Shared}
abbrev newS (ld : Bool) : Obj := { cls := .type "set", dict := none, data := .set #[] 0 (.fresh 0 0 ld) }
/-- what stands behind set(xs) -/
def BehS (prog : Program) (w : World) (s : Shared) (ks : List Str) (s2 : Shared) : Prop := ∃ (h2 : Heap) (tk : Nat), s2 = { s with heap := h2, toks := tk } ∧ ofS prog w h2 s.heap.objs.size (fs ks ks.length) ∧ ∀ b o, b < s.heap.objs.size → s.heap.get? b = some o → h2.get? b = some o
set_option maxHeartbeats 3200000 in
theorem pm_setList {a : Addr} {its : Array Value} {ks : List Str} {Q : Value → Shared → Prop} (nh : A.handled = none) (isl : s.heap.IsList a its) (hk : StrsAre its.toList ks) (hn : its.size + 1 < scanBound)
    (h : ∀ s2, BehS prog w s ks s2 → Q (.ref s.heap.objs.size) s2) : wpAny (model prog w) A (call (.type "set") [.ref a]) Q E s := by
  have hlen : its.size = ks.length := by
    have : ∀ {us : List Value} {xs : List Str}, StrsAre us xs → us.length = xs.length := fun z => by
      induction z with
      | nil => rfl
      | cons _ _ _ ih => simp [ih]
    have := this hk
    simpa using this
  have hv : ∀ (i : Nat) (v : Value), its[i]? = some v → ∃ x t, ks[i]? = some x ∧ v = .str x t := by
    have z : ∀ {us : List Value} {xs : List Str}, StrsAre us xs → ∀ (i : Nat) (v : Value), us[i]? = some v → ∃ x t, xs[i]? = some x ∧ v = .str x t := fun {us xs} z => by
      induction z with
      | nil => intro i v e; simp at e
      | cons y t _ ih =>
        intro i v e
        cases i with
        | zero => simp at e; exact ⟨y, t, by simp, e.symm⟩
        | succ i => simpa using ih i v (by simpa using e)
    intro i v e
    exact z hk i v (by rw [Array.getElem?_toList]; exact e)
  obtain ⟨c0, tl, mro0⟩ := PySem.F.called_set.mro
  have mk0 := PySem.F.called_set.made
  have sb0 := PySem.F.called_set.sub
  refine wpAny_call (codeAny_of_tree (wpAny_pure ⟨Code.quiet_builtin _ (by decide +kernel), codeAny_builtin PySem.F.entry_type_call ?_⟩))
  rw [Around.under_plain (weight_type_call_type "set" [.ref a] []) rfl]
  have c1 := PySem.F.called_set.notType
  have c2 := PySem.F.called_set.canCreate
  have ct0 := PySem.F.typeCall_set_1 (.ref a)
  repeat (any_goals (first | assumption | wp_step))
  refine codeAny_mono (L2.code_set_led1 (.ref a) (E := E) (Q₁ := fun v s1 => ∃ ld : Bool, ld = (!w.params.followText "set-order") ∧ v = .ref s.heap.objs.size ∧ s1 = { s with heap := s.heap.push (newS ld) }) ⟨_, rfl, rfl, rfl⟩) fun r s1 q1 => ?_
  rcases r with e | fl
  · exact q1
  rcases fl with _ | _ | _ | obj
  case ret =>
    obtain ⟨ld, hld, rfl, rfl⟩ := q1
    have zS : (s.heap.push (newS ld)).get? s.heap.objs.size = some (newS ld) := Heap.get?_push_size _ rfl
    have ty0 : Shared.TypeIs { s with heap := s.heap.push (newS ld) } (.ref s.heap.objs.size) "set" := ⟨_, zS, rfl⟩
    have li0 := PySem.F.called_set.init.lookup
    have bi0 := PySem.F.called_set.init.bind (.ref s.heap.objs.size)
    repeat (any_goals (first | assumption | wp_step))
    refine codeAny_mono (codeAny_call_builtin (R := wants (fun r s2 => r = .none ∧ BehS prog w s ks s2) E) PySem.F.called_set.init.plain PySem.F.entry_set_init (check_set_init_1 ty0 ?_)) fun r2 s2 q2 => ?_
    · obtain ⟨⟨oc, odi, oda, osl⟩, gl0, rfl, nn, rfl⟩ := isl
      have gl1 : (s.heap.push (newS ld)).get? a = some { cls := .type "list", dict := odi, data := .seq its nn, slots := osl } := Heap.get?_push_of_some _ gl0
      have sl0 := PySem.F.sub_list_set
      have sl1 := PySem.F.sub_list_frozenset
      have ne0 : (Value.type "list" == Value.type "dict") = false := by decide
      have isl1 : (s.heap.push (newS ld)).IsList a its := ⟨_, gl1, rfl, nn, rfl⟩
      unfold Builtin.«set.__init__» noKeywords Builtin.Frozenset.updateFrom
      generalize ePI : pyIter = pI
      wp_walk
      subst ePI
      refine wpAny_pyIter_list isl1 (wpAny_bind (wpAny_runValue ?_))
      have lta : a < s.heap.objs.size := Heap.lt_size gl0
      have nh3 : A.in1.in1.in1.handled = none := by simp [nh]
      have sz1 : (s.heap.push (newS ld)).objs.size = s.heap.objs.size + 1 := by rw [Heap.size_push]
      have neI : a ≠ (s.heap.push (newS ld)).objs.size := by rw [sz1]; exact fun z => absurd (z ▸ lta) (Nat.not_lt.mpr (Nat.le_succ _))
      have nIn : s.heap.objs.size ∉ [(s.heap.push (newS ld)).objs.size, a] := by
        rw [sz1]
        intro z
        rcases List.mem_cons.mp z with z | z
        · exact Nat.ne_of_lt (Nat.lt_succ_self _) z
        · exact Nat.ne_of_gt lta (List.mem_singleton.mp z)
      refine pm_setLoop ((Walks.list nh3 _ a neI its).toS) s.heap.objs.size nIn ks hv hn (its.size - 0) 0 _ (by omega) (Nat.zero_le _) ⟨⟨_, Heap.get?_push_size _ rfl, rfl, rfl⟩, (isl1.push _)⟩ ?_ ?_
      · have z0 := txR_new w s.heap
        rw [← hld] at z0
        exact z0.at fun o e => Heap.get?_push_of_some _ e
      · rintro ⟨h2, g2, d2, tk2, os2⟩ mv z2
        obtain rfl : g2 = s.gens := mv.gens
        obtain rfl : d2 = s.drawn := mv.drawn
        obtain rfl : os2 = s.os := mv.os
        refine wpAny_pure (wpAny_pure ⟨rfl, h2, tk2, rfl, by rw [← hlen]; exact z2, fun b o hb e => ?_⟩)
        refine mv.heap b o (fun z => ?_) (Heap.get?_push_of_some _ (Heap.get?_push_of_some _ e))
        rcases List.mem_cons.mp z with z | z
        · exact Nat.ne_of_lt hb z
        · have := List.mem_singleton.mp z
          rw [sz1] at this
          exact Nat.ne_of_lt (Nat.lt_succ_of_lt hb) this
    · rcases r2 with e | fl
      · exact q2
      rcases fl with _ | _ | _ | r
      case ret =>
        obtain ⟨rfl, q3⟩ := q2
        obtain ⟨h2, tk, rfl, q4, q5⟩ := id q3
        repeat (any_goals (first | assumption | wp_step))
        exact h _ q3
      all_goals exact q2.elim
  all_goals exact q1.elim
end
end PM
set_option Elab.async false
set_option linter.all false
set_option autoImplicit false
set_option maxHeartbeats 4000000
/-! PMSet2: len(set(texts)). -/
namespace PM
open PySem PySem.Spec PyProof.Rows L2
theorem distinct_mem (y : Txt) : ∀ (xs : List Txt), y ∈ distinct xs ↔ y ∈ xs
  | [] => by simp [distinct]
  | x :: r => by
    unfold distinct
    split
    · rename_i q
      rw [distinct_mem y r, List.mem_cons]
      constructor
      · exact .inr
      · rintro (z | z)
        · subst z; simpa using q
        · exact z
    · rw [List.mem_cons, List.mem_cons, distinct_mem y r]
theorem distinct_nodup : ∀ (xs : List Txt), (distinct xs).Nodup
  | [] => by simp [distinct]
  | x :: r => by
    unfold distinct
    split
    · exact distinct_nodup r
    · rename_i q
      refine List.nodup_cons.mpr ⟨fun h => q ?_, distinct_nodup r⟩
      simpa using (distinct_mem x r).mp h
theorem fs_distinct (ts : List Txt) : (fs (ts.map tS) (ts.map tS).length).length = (distinct ts).length := by
  have h1 := fs_nodup (ts.map tS) [] List.nodup_nil
  have e : fs (ts.map tS) (ts.map tS).length = (ts.map tS).foldl ad [] := by unfold fs; rw [List.take_length]
  rw [e]
  have h2 : ((distinct ts).map tS).Nodup := List.Pairwise.map tS (fun a b (h : a ≠ b) q => h (tS_inj q)) (distinct_nodup ts)
  have p : ((ts.map tS).foldl ad []).Perm ((distinct ts).map tS) := by
    rw [List.perm_ext_iff_of_nodup h1.1 h2]
    intro y
    rw [h1.2 y]
    constructor
    · rintro (z | z)
      · cases z
      · obtain ⟨t, ht, rfl⟩ := List.mem_map.mp z
        exact List.mem_map.mpr ⟨t, (distinct_mem t ts).mpr ht, rfl⟩
    · intro z
      obtain ⟨t, ht, rfl⟩ := List.mem_map.mp z
      exact .inr (List.mem_map.mpr ⟨t, (distinct_mem t ts).mp ht, rfl⟩)
  rw [p.length_eq, List.length_map]
section
variable {W : Wx} {wx : WX} {C : Ctx} {sh : Shp} {k : Nat} {X : Cx}
theorem e_lenset (G : Gd W C sh k X) {m : Bool} {o : Expr} {oI : E} {p p2 q pos : Pos} (hg : Gl X "len") (hg2 : Gl X "set") (ns : isSt o = false) (ho : PE X o (tE W wx C oI)) :
    PE X (.Call (.Name "len" p) [.Call (.Name "set" p2) [o] [] q] [] pos) (tE W wx C (.bi "lenset" m [oI])) := by
  refine ⟨fun pins s σ H Q I h => ?_⟩
  have h' : tE W wx C oI σ H fun x H1 => ∃ (S1 : St) (F1 : Addr → Prop) (μ1 : List Addr) (d : D) (xs : List D) (ts : List Txt), Rl W.toWd F1 μ1 H1 S1 ∧ Rep W.toWd F1 μ1 H1 d x ∧ lstItems S1 d = some xs ∧ strsD xs = some ts ∧ ts.length < 4000 ∧ EndV W.toWd F1 μ1 H1 (some (.int (distinct ts).length, S1)) Q := by
    have h2 : tL W wx C [oI] σ H fun vs H1 => rBi W.toWd C "lenset" m vs H1 Q := bi_read h
    refine tR_mono (l_cons h2) fun v H1 q1 => ?_
    obtain ⟨S, F, μ, ds, Rs, rr, q⟩ := l_nil q1
    cases rr with
    | cons r1 r2 =>
      cases r2
      rename_i d
      obtain ⟨d', S', e, q⟩ := q
      simp only [bi] at e
      cases el : lstItems S d with
      | none => rw [el] at e; cases e
      | some xs =>
        rw [el] at e
        cases et : strsD xs with
        | none =>
          have e' : (match (some xs).bind strsD with | some xs => if xs.length < 4000 then some (D.int (distinct xs).length, S) else none | none => none) = some (d', S') := e
          rw [Option.bind_some, et] at e'
          cases e'
        | some ts =>
          have e' : (match (some xs).bind strsD with | some xs => if xs.length < 4000 then some (D.int (distinct xs).length, S) else none | none => none) = some (d', S') := e
          rw [Option.bind_some, et] at e'
          simp only at e'
          split at e'
          · rename_i hl
            exact ⟨S, F, μ, d, xs, ts, Rs, r1, el, et, hl, d', S', e', q⟩
          · cases e'
  refine Call_ (ld_blt I hg (G.st.bl _ (by decide)) boot_len ?_)
  refine PyProof.Rows.callWith_builtin1 (PyProof.Rows.args_cons ?_ rfl) rfl rfl
  refine Call_ (ld_blt I hg2 (G.st.bl _ (by decide)) boot_set ?_)
  refine PyProof.Rows.callWith_type1 (PyProof.Rows.args_cons (thn (ho.run pins s σ H _ I h') fun v s1 ⟨x, H1, I1, rx, S1, F1, μ1, d, xs, ts, R1, r1, el, et, hl, q⟩ => PyProof.Rows.args_nil ?_) (starEach_ns ns)) (starEach_ns ns) rfl
  obtain ⟨a, vs, rfl, ha, rl⟩ := R1.lstItems el r1
  obtain rfl : v = Value.ref a := rx
  obtain ⟨hv, hlt⟩ := strs_rep et rl
  obtain ⟨its, rv, pl, hz⟩ := I1.list (.inl ha)
  subst hv
  have hsa : StrsAre its (ts.map tS) := by
    refine L2.strsAre_of ?_
    rw [List.map_map]
    exact rv
  have hlen : its.length = ts.length := by rw [← rv.length, List.length_map]
  refine pm_setList (ks := ts.map tS) (I1.ok.hd G.calm) pl.isList (by simpa using hsa) (by simp only [List.size_toArray]; rw [hlen]; unfold scanBound; omega) fun s2 ⟨h2, tk, e2, z2, keep⟩ => ?_
  subst e2
  refine PyProof.Rows.args_nil ?_
  obtain ⟨ob, es, ep, t, hob, hex, hd, _, _, _, hf, hn⟩ := z2.setOf (P := X.prog)
  have hn' : es.size = (distinct ts).length := by rw [hn, fs_distinct]
  have hlt2 : (distinct ts).length < 4000 + 1 := by
    have := fs_len (ts.map tS) (ts.map tS).length
    rw [fs_distinct, List.length_map] at this
    omega
  have I2 : Inv X pins σ H1 { s1 with heap := h2, toks := tk } := I1.kept fun b o e => keep b o (Heap.lt_size e) e
  refine call_len_set hob hex hd hf (by rw [hn'] <;> omega) ?_
  rw [hn']
  obtain ⟨d', S', e', q'⟩ := q
  cases e'
  exact ⟨.int (distinct ts).length, H1, I2.tok _, ⟨_, rfl⟩, q' F1 μ1 H1 _ Ext.refl R1 (.int _)⟩
end
end PM
set_option Elab.async false
set_option linter.all false
set_option autoImplicit false
set_option maxHeartbeats 4000000
/-! PMSet3: sorted(set(texts)). -/
namespace PM
open PySem PySem.Spec PyProof.Rows L2
/-! ### the plain side -/
theorem ltT_irr : ∀ (x : Txt), ltT x x = false
  | [] => rfl
  | a :: r => by unfold ltT; rw [if_neg (Nat.lt_irrefl a), if_pos rfl]; exact ltT_irr r
theorem ltT_tr : ∀ {a b c : Txt}, ltT a b = true → ltT b c = true → ltT a c = true
  | [], [], _, h, _ => by cases h
  | [], _ :: _, [], _, h => by cases h
  | [], _ :: _, _ :: _, _, _ => rfl
  | _ :: _, [], _, h, _ => by cases h
  | _ :: _, _ :: _, [], _, h => by cases h
  | x :: a, y :: b, z :: c, h, h' => by
    unfold ltT at h h' ⊢
    by_cases e1 : x < y
    · by_cases e2 : y < z
      · rw [if_pos (Nat.lt_trans e1 e2)]
      · rw [if_neg e2] at h'
        by_cases e3 : y = z
        · subst e3; rw [if_pos e1]
        · rw [if_neg e3] at h'; cases h'
    · rw [if_neg e1] at h
      by_cases e3 : x = y
      · subst e3
        rw [if_pos rfl] at h
        by_cases e2 : x < z
        · rw [if_pos e2]
        · rw [if_neg e2] at h' ⊢
          by_cases e4 : x = z
          · rw [if_pos e4] at h' ⊢; exact ltT_tr h h'
          · rw [if_neg e4] at h'; cases h'
      · rw [if_neg e3] at h; cases h
theorem ltT_tot : ∀ {a b : Txt}, ltT a b = false → a ≠ b → ltT b a = true
  | [], [], _, n => absurd rfl n
  | [], _ :: _, h, _ => by cases h
  | _ :: _, [], _, _ => rfl
  | x :: a, y :: b, h, n => by
    unfold ltT at h ⊢
    by_cases e1 : x < y
    · rw [if_pos e1] at h; cases h
    · rw [if_neg e1] at h
      by_cases e2 : x = y
      · subst e2
        rw [if_pos rfl] at h
        rw [if_neg e1, if_pos rfl]
        exact ltT_tot h fun e => n (by rw [e])
      · rw [if_pos (by omega)]
abbrev Asc (l : List Txt) : Prop := l.Pairwise fun a b => ltT a b = true
theorem insT_mem (x y : Txt) : ∀ (l : List Txt), y ∈ insT x l ↔ y = x ∨ y ∈ l
  | [] => by simp [insT]
  | z :: r => by
    unfold insT
    split
    · rw [List.mem_cons]
    · split
      · rename_i e
        subst e
        rw [List.mem_cons]
        exact ⟨.inr, fun h => h.elim .inl id⟩
      · rw [List.mem_cons, List.mem_cons, insT_mem x y r]
        constructor
        · rintro (h | h | h)
          · exact .inr (.inl h)
          · exact .inl h
          · exact .inr (.inr h)
        · rintro (h | h | h)
          · exact .inr (.inl h)
          · exact .inl h
          · exact .inr (.inr h)
theorem insT_asc (x : Txt) : ∀ (l : List Txt), Asc l → Asc (insT x l)
  | [], _ => by unfold insT; exact List.pairwise_singleton _ _
  | z :: r, h => by
    obtain ⟨h1, h2⟩ := List.pairwise_cons.mp h
    unfold insT
    split
    · rename_i e
      refine List.pairwise_cons.mpr ⟨fun y hy => ?_, h⟩
      rcases List.mem_cons.mp hy with q | q
      · rw [q]; exact e
      · exact ltT_tr e (h1 y q)
    · rename_i e
      split
      · exact h
      · rename_i n
        refine List.pairwise_cons.mpr ⟨fun y hy => ?_, insT_asc x r h2⟩
        rcases (insT_mem x y r).mp hy with q | q
        · rw [q]; exact ltT_tot (by simpa using e) n
        · exact h1 y q
theorem sortT_mem (y : Txt) : ∀ (l : List Txt), y ∈ sortT l ↔ y ∈ l
  | [] => by simp [sortT]
  | x :: r => by unfold sortT; rw [insT_mem, sortT_mem y r, List.mem_cons]
theorem sortT_asc : ∀ (l : List Txt), Asc (sortT l)
  | [] => List.Pairwise.nil
  | x :: r => by unfold sortT; exact insT_asc x _ (sortT_asc r)
theorem asc_eq : ∀ {l m : List Txt}, Asc l → Asc m → (∀ y, y ∈ l ↔ y ∈ m) → l = m
  | [], [], _, _, _ => rfl
  | [], b :: _, _, _, h => absurd ((h b).mpr List.mem_cons_self) (by simp)
  | a :: _, [], _, _, h => absurd ((h a).mp List.mem_cons_self) (by simp)
  | a :: l, b :: m, h1, h2, h => by
    obtain ⟨a1, a2⟩ := List.pairwise_cons.mp h1
    obtain ⟨b1, b2⟩ := List.pairwise_cons.mp h2
    have e : a = b := by
      rcases List.mem_cons.mp ((h a).mp List.mem_cons_self) with q | q
      · exact q
      · rcases List.mem_cons.mp ((h b).mpr List.mem_cons_self) with q' | q'
        · exact q'.symm
        · have := ltT_tr (b1 a q) (a1 b q')
          rw [ltT_irr] at this
          cases this
    subst e
    rw [asc_eq a2 b2 fun y => ?_]
    have n1 : ∀ z ∈ l, z ≠ a := fun z hz e => by have := a1 z hz; rw [e, ltT_irr] at this; cases this
    have n2 : ∀ z ∈ m, z ≠ a := fun z hz e => by have := b1 z hz; rw [e, ltT_irr] at this; cases this
    constructor
    · intro hy
      rcases List.mem_cons.mp ((h y).mp (List.mem_cons_of_mem _ hy)) with q | q
      · exact absurd q (n1 y hy)
      · exact q
    · intro hy
      rcases List.mem_cons.mp ((h y).mpr (List.mem_cons_of_mem _ hy)) with q | q
      · exact absurd q (n2 y hy)
      · exact q
theorem asc_nodup {l : List Txt} (h : Asc l) : l.Nodup := h.imp fun {a b} q e => by rw [e, ltT_irr] at q; cases q
theorem asc_of : ∀ {l : List Txt}, sortedS (l.map tS) = true → l.Nodup → Asc l
  | [], _, _ => List.Pairwise.nil
  | p :: l, h, n => by
    have key : ∀ (l : List Txt) (p : Txt), risingS (tS p) (l.map tS) = true → (p :: l).Nodup → Asc (p :: l) := by
      intro l
      induction l with
      | nil => intro p _ _; exact List.pairwise_singleton _ _
      | cons x r ih =>
        intro p h n
        have h' : (!ltCps (tS x).cps.toList (tS p).cps.toList && risingS (tS x) (r.map tS)) = true := h
        rw [Bool.and_eq_true] at h'
        obtain ⟨n1, n2⟩ := List.nodup_cons.mp n
        have q := ih x h'.2 n2
        have hl : ltT x p = false := by
          have z := h'.1
          rw [tS_toList, tS_toList, ltCps_eq, ltT_eq] at z
          simpa using z
        have hp : ltT p x = true := ltT_tot hl fun e => n1 (by rw [e]; exact List.mem_cons_self)
        refine List.pairwise_cons.mpr ⟨fun y hy => ?_, q⟩
        rcases List.mem_cons.mp hy with e | hy
        · rw [e]; exact hp
        · exact ltT_tr hp ((List.pairwise_cons.mp q).1 y hy)
    exact key l p h n
/-! ### the walk -/
def txOf : Value → Str
  | .str x _ => x
  | _ => ⟨#[]⟩
section
variable {P : Program} {w : World} {A : Around} {E : Value → Shared → Prop} {s : Shared}
theorem sorted_setT {a : Addr} {l : List Str} {Q : Value → Shared → Prop} (R : TxR w s.heap a l) (hh : A.handled = none) (h64 : l.length < 64)
    (hQ : ∀ s' p (out : Array Value) (c : Nat) (ys : List Str), (∀ b o, s.heap.get? b = some o → s'.heap.get? b = some o) → s'.gens = s.gens → s'.os = s.os → s.heap.objs.size ≤ p →
      s'.heap.get? p = some (seqObj "list" out c) → StrsAre out.toList ys → ys.Perm l → sortedS ys = true → Q (.ref p) s') :
    wpAny (model P w) A (call (.builtin "sorted") [.ref a]) Q E s := by
  obtain ⟨o, es, ep, t, ho, hex, hd, g, pm0, nd, hb, hf, hr, hl⟩ := R
  refine Calls.call_function_entry kind_sorted plain_sorted entry_sorted (args_sorted1 _) ?_
  unfold Builtin.«sorted»
  refine wpAny_bind (m := checkCount "sorted" 1 1 _) (wpAny_pure ?_)
  refine wpAny_bind (collect_set (A := A.in1) hh ⟨o, ho, hex.1, hd⟩ hf hb hr hl fun s1 vs k1 hz gg o1 pm => ?_)
  have hty : ∀ v ∈ vs, ∃ x t, v = Value.str x t := fun v hv => by
    obtain ⟨e, he, q⟩ := List.mem_map.mp (pm.mem_iff.mp hv)
    obtain ⟨x, m, h1, _⟩ := g e he
    exact ⟨x, m, by rw [← q]; exact h1⟩
  have hS : StrsAre vs (vs.map txOf) := by
    have key : ∀ (l : List Value), (∀ v ∈ l, ∃ x t, v = Value.str x t) → StrsAre l (l.map txOf) := fun l => by
      induction l with
      | nil => intro _; exact .nil
      | cons v l ih =>
        intro h
        obtain ⟨x, t, rfl⟩ := h v List.mem_cons_self
        exact .cons x t (ih fun u hu => h u (List.mem_cons_of_mem _ hu))
    exact key vs hty
  have pk : (vs.map txOf).Perm l := by
    have q := pm.map txOf
    rw [List.map_map] at q
    have e : es.toList.map (txOf ∘ fun x => x.2) = es.toList.map txK := List.map_congr_left fun e he => by
      obtain ⟨x, m, h1, _⟩ := g e he
      show txOf e.2 = txK e
      unfold txOf txK
      rw [h1]
    rw [e] at q
    exact q.trans pm0
  have hvl : vs.length = l.length := by
    have := pk.length_eq
    rw [List.length_map] at this
    exact this
  refine wpAny_bind (wpAny_newList ?_ (by rw [hvl, sizeLine_eq]; omega))
  have hoL : (s1.heap.push (seqObj "list" vs.toArray 0)).get? s1.heap.objs.size = some (seqObj "list" vs.toArray 0) := Heap.get?_push_size _ rfl
  refine wpAny_bind (wpAny_holding (wpAny_call_entry PyProof.Rows.slot_list_sort ⟨_, hoL, rfl⟩ PyProof.Rows.entry_list_sort
    (list_sort_treeK strKind_oneLt (s := { s1 with heap := s1.heap.push (seqObj "list" vs.toArray 0) }) hoL hS.keysOf (fun v₁ v₂ rest e => keyKind_strs (by rw [← e]; exact hS)) (by rw [hvl]; exact h64) fun st' hp hs => ⟨_, rfl, ?_⟩)
    (PyProof.Rows.args_list_sort _)))
  obtain ⟨ys, g1, g2, g3⟩ := sorted_out_str hS hp hs
  obtain ⟨c, hc⟩ := PyProof.Rows.sortedHeap_at (vs := vs) (out := (arrOf st').map (·.2)) hoL
  refine wpAny_pure ⟨_, rfl, hQ _ s1.heap.objs.size ((arrOf st').map (·.2)) c ys (fun b u e => ?_) gg o1 hz hc g1 (g2.trans pk) g3⟩
  have q := k1 b u e
  have hlt := Heap.lt_size q
  show (sortedHeap (s1.heap.push (seqObj "list" vs.toArray 0)) s1.heap.objs.size vs ((arrOf st').map (·.2))).get? b = some u
  rw [PyProof.Rows.sortedHeap_old (Nat.ne_of_lt hlt) (by rw [size_push']; exact Nat.lt_succ_of_lt hlt)]
  exact Heap.get?_push_of_some _ q
end
section
variable {W : Wx} {wx : WX} {C : Ctx} {sh : Shp} {k : Nat} {X : Cx}
theorem sorted_is {ts : List Txt} {ys : List Str} (p : ys.Perm (fs (ts.map tS) (ts.map tS).length)) (h : sortedS ys = true) : ys = (sortT ts).map tS := by
  have e0 : fs (ts.map tS) (ts.map tS).length = (ts.map tS).foldl ad [] := by unfold fs; rw [List.take_length]
  obtain ⟨n1, m1⟩ := fs_nodup (ts.map tS) [] List.nodup_nil
  rw [e0] at p
  have mem : ∀ y, y ∈ ys ↔ y ∈ ts.map tS := fun y => by rw [p.mem_iff, m1 y]; simp
  have nd : ys.Nodup := p.nodup_iff.mpr n1
  obtain ⟨us, rfl⟩ : ∃ us : List Txt, ys = us.map tS := by
    have key : ∀ (l : List Str), (∀ y ∈ l, y ∈ ts.map tS) → ∃ us : List Txt, l = us.map tS := fun l => by
      induction l with
      | nil => intro _; exact ⟨[], rfl⟩
      | cons y l ih =>
        intro h
        obtain ⟨us, e⟩ := ih fun z hz => h z (List.mem_cons_of_mem _ hz)
        obtain ⟨t, _, rfl⟩ := List.mem_map.mp (h y List.mem_cons_self)
        exact ⟨t :: us, by rw [e]; rfl⟩
    exact key ys fun y hy => (mem y).mp hy
  have nu : us.Nodup := by
    have : ∀ (l : List Txt), (l.map tS).Nodup → l.Nodup := fun l => by
      induction l with
      | nil => intro _; exact List.nodup_nil
      | cons x l ih =>
        intro h
        obtain ⟨h1, h2⟩ := List.nodup_cons.mp h
        exact List.nodup_cons.mpr ⟨fun z => h1 (List.mem_map_of_mem z), ih h2⟩
    exact this us nd
  rw [asc_eq (asc_of h nu) (sortT_asc ts) fun y => ?_]
  rw [sortT_mem]
  have q := mem (tS y)
  constructor
  · intro hy
    obtain ⟨z, hz, e⟩ := List.mem_map.mp (q.mp (List.mem_map_of_mem hy))
    rw [← tS_inj e]; exact hz
  · intro hy
    obtain ⟨z, hz, e⟩ := List.mem_map.mp (q.mpr (List.mem_map_of_mem hy))
    rw [← tS_inj e]; exact hz
theorem e_sortedset (G : Gd W C sh k X) {m : Bool} {o : Expr} {oI : E} {p p2 q pos : Pos} (hg : Gl X "sorted") (hg2 : Gl X "set") (ns : isSt o = false) (ho : PE X o (tE W wx C oI)) :
    PE X (.Call (.Name "sorted" p) [.Call (.Name "set" p2) [o] [] q] [] pos) (tE W wx C (.bi "sortedset" m [oI])) := by
  refine ⟨fun pins s σ H Q I h => ?_⟩
  have h' : tE W wx C oI σ H fun x H1 => ∃ (S1 : St) (F1 : Addr → Prop) (μ1 : List Addr) (d : D) (xs : List D) (ts : List Txt), Rl W.toWd F1 μ1 H1 S1 ∧ Rep W.toWd F1 μ1 H1 d x ∧ lstItems S1 d = some xs ∧ strsD xs = some ts ∧ ts.length < 4000 ∧ (sortT ts).length < 64 ∧
      ∃ d' S', mkL m ((sortT ts).map .str) S1 = some (d', S') ∧ EndR W wx F1 μ1 H1 σ (relD W) (.ok d' S') Q := by
    have h2 : tL W wx C [oI] σ H fun vs H1 => rBi W.toWd C "sortedset" m vs H1 Q := bi_read h
    refine tR_mono (l_cons h2) fun v H1 q1 => ?_
    obtain ⟨S, F, μ, ds, Rs, rr, q⟩ := l_nil q1
    cases rr with
    | cons r1 r2 =>
      cases r2
      rename_i d
      obtain ⟨d', S', e, q⟩ := q
      simp only [bi] at e
      cases el : lstItems S d with
      | none => rw [el] at e; cases e
      | some xs =>
        rw [el] at e
        cases et : strsD xs with
        | none =>
          have e' : (match (some xs).bind strsD with | some xs => if xs.length < 4000 ∧ (sortT xs).length < 64 then mkL m ((sortT xs).map .str) S else none | none => none) = some (d', S') := e
          rw [Option.bind_some, et] at e'
          cases e'
        | some ts =>
          have e' : (match (some xs).bind strsD with | some xs => if xs.length < 4000 ∧ (sortT xs).length < 64 then mkL m ((sortT xs).map .str) S else none | none => none) = some (d', S') := e
          rw [Option.bind_some, et] at e'
          simp only at e'
          split at e'
          · rename_i hl
            exact ⟨S, F, μ, d, xs, ts, Rs, r1, el, et, hl.1, hl.2, d', S', e', q⟩
          · cases e'
  refine Call_ (ld_blt I hg (G.st.bl _ (by decide)) (u := .builtin "sorted") (by first | rfl | decide +kernel) ?_ (by first | decide +kernel | decide) (by first | decide +kernel | decide))
  refine PyProof.Rows.callWith_builtin1 (PyProof.Rows.args_cons ?_ rfl) rfl rfl
  refine Call_ (ld_blt I hg2 (G.st.bl _ (by decide)) boot_set ?_)
  refine PyProof.Rows.callWith_type1 (PyProof.Rows.args_cons (thn (ho.run pins s σ H _ I h') fun v s1 ⟨x, H1, I1, rx, S1, F1, μ1, d, xs, ts, R1, r1, el, et, hl, h64, q⟩ => PyProof.Rows.args_nil ?_) (starEach_ns ns)) (starEach_ns ns)
  obtain ⟨a, vs, rfl, ha, rl⟩ := R1.lstItems el r1
  obtain rfl : v = Value.ref a := rx
  obtain ⟨hv, hlt⟩ := strs_rep et rl
  obtain ⟨its, rv, pl, hz⟩ := I1.list (.inl ha)
  subst hv
  have hsa : StrsAre its (ts.map tS) := by
    refine L2.strsAre_of ?_
    rw [List.map_map]
    exact rv
  have hlen : its.length = ts.length := by rw [← rv.length, List.length_map]
  refine pm_setList (ks := ts.map tS) (I1.ok.hd G.calm) pl.isList (by simpa using hsa) (by simp only [List.size_toArray]; rw [hlen]; unfold scanBound; omega) fun s2 ⟨h2, tk, e2, z2, keep⟩ => ?_
  subst e2
  refine PyProof.Rows.args_nil ?_
  have hd : (fs (ts.map tS) (ts.map tS).length).length = (sortT ts).length := by
    rw [fs_distinct]
    have p : (distinct ts).Perm (sortT ts) := by
      rw [List.perm_ext_iff_of_nodup (distinct_nodup ts) (asc_nodup (sortT_asc ts))]
      intro y
      rw [distinct_mem, sortT_mem]
    exact p.length_eq
  have I2 : Inv X pins σ H1 { s1 with heap := h2, toks := tk } := I1.kept fun b o e => keep b o (Heap.lt_size e) e
  refine sorted_setT z2 (I1.ok.hd G.calm) (by rw [hd]; exact h64) fun s' p out c ys k g o hp hg hi pm hs => ?_
  have ey := sorted_is pm hs
  subst ey
  have hn : H1 p = none := I2.hok.fresh hp
  have hlen2 : (((sortT ts).map tS).map V.str).length ≤ sizeLine := by rw [List.length_map, List.length_map, sizeLine_eq]; omega
  have J : Inv X pins σ (upd H1 p (.lst (((sortT ts).map tS).map V.str))) { ({ s1 with heap := h2, toks := tk } : Shared) with heap := s'.heap, gens := s'.gens, drawn := s'.drawn, toks := s'.toks } :=
    I2.call (ch := []) (Un.laid k hp hn) (I2.hok.laid k hp ⟨hlen2, out.toList, c, vals_of_strs hi, hg⟩) (by rw [g]; exact I2.bare) (fun _ z => nomatch z)
  have e : s' = { ({ s1 with heap := h2, toks := tk } : Shared) with heap := s'.heap, gens := s'.gens, drawn := s'.drawn, toks := s'.toks } := by
    cases s'
    cases s1
    cases o
    rfl
  rw [e]
  refine ⟨.ref p, _, J, rfl, ?_⟩
  obtain ⟨d', S', e', q'⟩ := q
  have rr : RepL W.toWd F1 μ1 H1 ((sortT ts).map D.str) (((sortT ts).map tS).map V.str) := by
    have key : ∀ (l : List Txt), (∀ t ∈ l, t.length ≤ sizeLine) → RepL W.toWd F1 μ1 H1 (l.map D.str) ((l.map tS).map V.str) := fun l => by
      induction l with
      | nil => intro _; exact .nil
      | cons t l ih => intro h; exact .cons (.str t (h t List.mem_cons_self)) (ih fun u hu => h u (List.mem_cons_of_mem _ hu))
    exact key _ fun t ht => hlt t ((sortT_mem t ts).mp ht)
  exact new_lst R1 rr hn ⟨d', S', e', q'⟩
end
end PM
set_option Elab.async false
set_option linter.all false
set_option autoImplicit false
set_option maxHeartbeats 4000000
/-! PMLock: dicts that are walked: locked meanwhile, free again behind. -/
namespace PM
open PySem PySem.Spec PyProof.Rows L2
section
variable {W : Wd} {F F' : Addr → Prop} {μ μ' : List Addr} {H H' : Hp} {S S' : St}
theorem rdK_inj {a : Addr} {ws us : List (L2.Key × V)} (h : L2.Rd H a (.dK ws)) (h' : L2.Rd H a (.dK us)) : ws = us := by
  rcases h with h | ⟨o, h⟩ <;> rcases h' with h' | ⟨o', h'⟩ <;> rw [h] at h' <;> cases h' <;> rfl
theorem rdK_ne {a : Addr} {ws : List (L2.Key × V)} {o : HO} (h : L2.Rd H a (.dK ws)) (e : H a = some o) : o = .dK ws ∨ ∃ q, o = .frz q (.dK ws) := by
  rcases h with h | ⟨q, h⟩
  · rw [h] at e; cases e; exact .inl rfl
  · rw [h] at e; cases e; exact .inr ⟨q, rfl⟩
/-- H' is H, but that dicts may be locked or free -/
abbrev Flp (F : Addr → Prop) (H H' : Hp) : Prop := ∀ a o, F a → H a = some o → H' a = some o ∨ ∃ ws, L2.Rd H a (.dK ws) ∧ L2.Rd H' a (.dK ws)
mutual
theorem Rep.flp (hs : Flp F H H') : ∀ {d : D} {v : V}, Rep W F μ H d v → Rep W F μ H' d v
  | _, _, .non => .non
  | _, _, .bl b => .bl b
  | _, _, .int i => .int i
  | _, _, .str x h => .str x h
  | _, _, .tup h r => .tup (h.imp (fun ⟨f, q⟩ => ⟨f, by
      rcases hs _ _ f q with z | ⟨ws, z, _⟩
      · exact z
      · rcases rdK_ne z q with e | ⟨_, e⟩ <;> cases e⟩) id) (RepL.flp hs r)
  | _, _, .lst f q r => .lst f (by
      rcases q with q | ⟨o, q⟩
      · rcases hs _ _ f q with z | ⟨ws, z, _⟩
        · exact .inl z
        · rcases rdK_ne z q with e | ⟨_, e⟩ <;> cases e
      · rcases hs _ _ f q with z | ⟨ws, z, _⟩
        · exact .inr ⟨o, z⟩
        · rcases rdK_ne z q with e | ⟨_, e⟩ <;> cases e) (RepL.flp hs r)
  | _, _, .dct f q r => .dct f (by
      rcases id q with q' | ⟨o, q'⟩
      · rcases hs _ _ f q' with z | ⟨ws, z, z'⟩
        · exact .inl z
        · rw [rdK_inj q z]; exact z'
      · rcases hs _ _ f q' with z | ⟨ws, z, z'⟩
        · exact .inr ⟨o, z⟩
        · rw [rdK_inj q z]; exact z') (RepK.flp hs r)
  | _, _, .err c f g q z r => .err c f g (by
      rcases hs _ _ f q with y | ⟨ws, y, _⟩
      · exact y
      · rcases rdK_ne y q with e | ⟨_, e⟩ <;> (have e' : HO.ext _ = _ := e; cases e')) (by
      rcases hs _ _ g z with y | ⟨ws, y, _⟩
      · exact y
      · rcases rdK_ne y z with e | ⟨_, e⟩ <;> (have e' : HO.ext _ = _ := e; cases e')) (Rep.flp hs r)
  | _, _, .ins c f q r => .ins c f (by
      rcases hs _ _ f q with z | ⟨ws, z, _⟩
      · exact z
      · rcases rdK_ne z q with e | ⟨_, e⟩ <;> cases e) (RepF.flp hs r)
  | _, _, .loc h => .loc h
theorem RepL.flp (hs : Flp F H H') : ∀ {d : List D} {v : List V}, RepL W F μ H d v → RepL W F μ H' d v
  | _, _, .nil => .nil
  | _, _, .cons a b => .cons (Rep.flp hs a) (RepL.flp hs b)
theorem RepK.flp (hs : Flp F H H') : ∀ {d : List (Key × D)} {v : List (L2.Key × V)}, RepK W F μ H d v → RepK W F μ H' d v
  | _, _, .nil => .nil
  | _, _, .cons c a b => .cons c (Rep.flp hs a) (RepK.flp hs b)
theorem RepF.flp (hs : Flp F H H') : ∀ {d : List (String × D)} {v : List (Str × V)}, RepF W F μ H d v → RepF W F μ H' d v
  | _, _, .nil => .nil
  | _, _, .cons a b => .cons (Rep.flp hs a) (RepF.flp hs b)
end
theorem CellR.flp (hs : Flp F H H') {a : Addr} {c : Cell} (ha : ∀ o, H a = some o → H' a = some o) (h : CellR W F μ H a c) : CellR W F μ H' a c := by
  cases h with
  | lst q r => exact .lst (ha _ q) (r.flp hs)
  | dct q r => exact .dct (q.stay ha) (r.flp hs)
  | ins c q r => exact .ins c (ha _ q) (r.flp hs)
theorem flp_upd {a : Addr} {o' : HO} {ws : List (L2.Key × V)} (h1 : L2.Rd H a (.dK ws)) (h2 : L2.Rd (upd H a o') a (.dK ws)) : Flp F H (upd H a o') := fun b o f q => by
  by_cases e : b = a
  · subst e; exact .inr ⟨ws, h1, h2⟩
  · exact .inl (by rw [upd_ne e]; exact q)
theorem Rl.flip (R : Rl W F μ H S) {a : Addr} {o' : HO} {ws : List (L2.Key × V)} (h1 : L2.Rd H a (.dK ws)) (h2 : L2.Rd (upd H a o') a (.dK ws))
    (hc : (a ∉ μ ∧ S' = S) ∨ ∃ n c, μ[n]? = some a ∧ S' = S.set n c ∧ CellR W F μ (upd H a o') a c) : Rl W F μ (upd H a o') S' := by
  have hs : Flp F H (upd H a o') := flp_upd h1 h2
  have hz : ∀ b, F b → upd H a o' b ≠ none := fun b f => by
    by_cases e : b = a
    · rw [e, upd_same]; simp
    · rw [upd_ne e]; exact R.fz b f
  rcases hc with ⟨hm, rfl⟩ | ⟨n, c, hn, rfl, hc⟩
  · refine ⟨R.len, R.nd, hz, R.off, fun i b c e1 e2 => ?_⟩
    have q : b ≠ a := fun e => hm (by rw [← e]; exact List.mem_of_getElem? e1)
    exact (R.cell i b c e1 e2).flp hs fun o h => by rw [upd_ne q]; exact h
  · refine ⟨by simp [R.len], R.nd, hz, R.off, fun i b c' e1 e2 => ?_⟩
    by_cases hi : i = n
    · subst hi
      rw [hn] at e1; cases e1
      have hlt : i < S.length := by rw [← R.len]; exact (List.getElem?_eq_some_iff.mp hn).1
      rw [List.getElem?_set_self hlt] at e2
      cases e2
      exact hc
    · rw [List.getElem?_set_ne (Ne.symm hi)] at e2
      have q : b ≠ a := fun e => hi (by
        have z1 := (List.getElem?_eq_some_iff.mp e1)
        have z2 := (List.getElem?_eq_some_iff.mp hn)
        obtain ⟨l1, q1⟩ := z1
        obtain ⟨l2, q2⟩ := z2
        exact (List.getElem_inj R.nd).mp (q1.trans (e.trans q2.symm)))
      exact (R.cell i b c' e1 e2).flp hs fun o h => by rw [upd_ne q]; exact h
theorem Ext.unlk {a : Addr} {od : Obj} {u : HO} (hu : H a = some u) (mu : ∀ o w, u ≠ .frz o w) (E : Ext F μ (upd H a (.frz od u)) F' μ' H') : Ext F μ H F' μ' (upd H' a u) where
  sub := E.sub
  new := fun b h => by
    rcases E.new b h with z | z
    · exact .inl z
    · refine .inr ?_
      by_cases e : b = a
      · rw [e, upd_same] at z; cases z
      · rw [upd_ne e] at z; exact z
  pre := E.pre
  newM := fun b h => by
    rcases E.newM b h with z | z
    · exact .inl z
    · refine .inr ?_
      by_cases e : b = a
      · rw [e, upd_same] at z; cases z
      · rw [upd_ne e] at z; exact z
  stay := fun b o h n => by
    by_cases e : b = a
    · subst e; rw [hu] at h; cases h; exact upd_same
    · rw [upd_ne e]; exact E.stay b o (by rw [upd_ne e]; exact h) n
  there := fun b h => by
    by_cases e : b = a
    · rw [e, upd_same]; simp
    · rw [upd_ne e]; exact E.there b (by rw [upd_ne e]; exact h)
  frzs := fun b o x h => by
    by_cases e : b = a
    · subst e; rw [hu] at h; cases h; exact absurd rfl (mu _ _)
    · rw [upd_ne e]; exact E.frzs b o x (by rw [upd_ne e]; exact h)
end
section
variable {W : Wx} {F F0 : Addr → Prop} {μ μ0 : List Addr} {H H0 : Hp} {S S1 : St}
theorem Ro.flp {ρ : Env} {σ : L2.St} (o : Ro W F μ H ρ σ) {a : Addr} {o' : HO} {ws : List (L2.Key × V)} (h1 : L2.Rd H a (.dK ws)) (h2 : L2.Rd (upd H a o') a (.dK ws)) : Ro W F μ (upd H a o') ρ σ :=
  ⟨o.len, fun i d h => by
    obtain ⟨v, e, r⟩ := o.at_ i d h
    refine ⟨v, e, ?_⟩
    rcases r with r | ⟨c, x, b, cls, dd, q1, q2, q3, C, f, d0, vv, p1, p2, p3, p4, p5, p6⟩
    · exact .inl (r.flp (flp_upd h1 h2))
    · refine .inr ⟨c, x, b, cls, dd, q1, q2, q3, C, f, d0, vv, p1, p2, p3, p4, ?_, p6.flp (flp_upd h1 h2)⟩
      rw [upd_ne fun z => by
        rw [z] at p5
        rcases rdK_ne h1 p5 with e | ⟨_, e⟩ <;> cases e]
      exact p5⟩
theorem RepK.at_ {W : Wd} {kvs : List (Key × D)} {ws : List (L2.Key × V)} (r : RepK W F μ H kvs ws) : ∀ {i : Nat} {k : Key} {x : D}, kvs[i]? = some (k, x) → ∃ v, ws[i]? = some (kQ k, v) ∧ kSm k ∧ Rep W F μ H x v := by
  intro i
  induction kvs generalizing ws i with
  | nil => intro k x e; simp at e
  | cons p kvs ih =>
    intro k x e
    cases r with
    | cons h a b =>
      cases i with
      | zero => simp at e; obtain ⟨rfl, rfl⟩ := e; exact ⟨_, rfl, h, a⟩
      | succ i =>
        obtain ⟨v, e1, e2⟩ := ih b (i := i) (by simpa using e)
        exact ⟨v, by simpa using e1, e2⟩
/-- what is walked, when a dict is -/
def JD (ik : IK) (a : Addr) (od : Obj) (ws : List (L2.Key × V)) : It := match ik with
  | .vals => Itd a od ws
  | .itms => Iti a od ws
  | _ => Itk a od ws
def dkItems (ik : IK) (kvs : List (Key × D)) : List D := match ik with
  | .vals => kvs.map fun p => p.2
  | .itms => kvs.map fun p => .tup [ofKey p.1, p.2]
  | _ => kvs.map fun p => ofKey p.1
theorem walk_dk {ik : IK} (h : ik.isD = true) {d : D} : walk S ik [d] = (pairs S d).map (dkItems ik) := by
  cases ik <;> first | (cases h; done) | rfl
theorem rep_ofKey {W : Wd} {k : Key} (h : kSm k) : Rep W F μ H (ofKey k) (kV (kQ k)) := by
  cases k with
  | inl i => exact .int i
  | inr x => exact .str x h
theorem it_dk {ik : IK} (hik : ik.isD = true) {a : Addr} {od : Obj} {kvs : List (Key × D)} {ws : List (L2.Key × V)} {ds : List D} (hd : H0 a = some (.frz od (.dK ws))) (R0 : Rl W.toWd F0 μ0 H0 S1) (rk : RepK W.toWd F0 μ0 H0 kvs ws) :
    ItOk W (JD ik a od ws) S1 ds (dkItems ik kvs) F0 μ0 H0 where
  go := fun {i x F μ H S} E R h hx => by
    have hd' := E.frzs a od _ hd
    have rk' := rk.ext R0.fz R0.off E
    have hl := rk'.len
    have key : ∀ {k : Key} {y : D}, kvs[i]? = some (k, y) → i < ws.length := fun e => by rw [← hl]; exact (List.getElem?_eq_some_iff.mp e).1
    cases ik <;> first | (cases hik; done) | skip
    · obtain ⟨⟨k, y⟩, e1, e2⟩ := Option.map_eq_some_iff.mp (show (kvs[i]?).map (fun p => ofKey p.1) = some x by rw [← List.getElem?_map]; exact hx)
      obtain ⟨v, e3, hk, rv⟩ := rk'.at_ e1
      refine ⟨⟨hd', key e1⟩, fun w H' ⟨eH, k', v', e4, ew⟩ => ?_⟩
      rw [e3] at e4
      cases e4
      subst eH ew e2
      exact ⟨F, Ext.refl, R, rep_ofKey hk⟩
    · obtain ⟨⟨k, y⟩, e1, e2⟩ := Option.map_eq_some_iff.mp (show (kvs[i]?).map (fun p => D.tup [ofKey p.1, p.2]) = some x by rw [← List.getElem?_map]; exact hx)
      obtain ⟨v, e3, hk, rv⟩ := rk'.at_ e1
      refine ⟨⟨hd', key e1⟩, fun w H' ⟨T, k', v', e4, ew, hT, eH⟩ => ?_⟩
      rw [e3] at e4
      cases e4
      subst eH ew e2
      exact ⟨fun c => F c ∨ c = T, Ext.laid R hT, R.laid hT, .tup (.inl ⟨.inr rfl, upd_same⟩) (.cons (rep_ofKey hk) (.cons (R.ext (Ext.laid R hT) rv) .nil))⟩
    · obtain ⟨⟨k, y⟩, e1, e2⟩ := Option.map_eq_some_iff.mp (show (kvs[i]?).map (fun p => p.2) = some x by rw [← List.getElem?_map]; exact hx)
      obtain ⟨v, e3, hk, rv⟩ := rk'.at_ e1
      refine ⟨⟨hd', key e1⟩, fun w H' ⟨eH, k', e4⟩ => ?_⟩
      rw [e3] at e4
      cases e4
      subst eH e2
      exact ⟨F, Ext.refl, R, rv⟩
  stop := fun {F μ H S} E R h => by
    have hd' := E.frzs a od _ hd
    have hl := (rk.ext R0.fz R0.off E).len
    cases ik <;> first | (cases hik; done) | exact ⟨hd', by unfold dkItems; rw [List.length_map, hl]; exact Nat.le_refl _⟩
/-- the dict in a value -/
theorem Rl.dk {d : D} {v : V} {kvs : List (Key × D)} (R : Rl W.toWd F μ H S) (h : PM.pairs S d = some kvs) (r : Rep W.toWd F μ H d v) : ∃ a ws, v = .ref a ∧ RepK W.toWd F μ H kvs ws ∧ L2.Rd H a (.dK ws) ∧
    ((F a ∧ a ∉ μ ∧ (∀ ik, lkS ik [d] S = S) ∧ ∀ ik S1, ulS ik [d] S S1 = S1) ∨ ∃ n lk, d = .loc n ∧ μ[n]? = some a ∧ S[n]? = some (.dct lk kvs) ∧ DkAt H a lk ws) := by
  unfold PM.pairs at h
  split at h
  · cases h
    cases r with
    | dct f q r => exact ⟨_, _, rfl, r, q, .inl ⟨f, fun m => R.off _ m f, fun ik => by unfold lkS; split <;> rfl, fun ik S1 => by unfold ulS; split <;> rfl⟩⟩
  · split at h
    · rename_i n _ lk xs' e
      cases h
      obtain ⟨a, rfl, z, c⟩ := R.locS r e
      cases c with
      | dct q r => exact ⟨_, _, rfl, r, q.rd, .inr ⟨n, lk, rfl, z, e, q⟩⟩
    · cases h
  · cases h
/-- where the dict stands -/
def DkIn (F : Addr → Prop) (μ : List Addr) (H : Hp) (S : St) (d : D) (kvs : List (Key × D)) (a : Addr) (ws : List (L2.Key × V)) : Prop :=
  (F a ∧ a ∉ μ ∧ (∀ ik, lkS ik [d] S = S) ∧ ∀ ik S1, ulS ik [d] S S1 = S1) ∨ ∃ n lk, d = .loc n ∧ μ[n]? = some a ∧ S[n]? = some (.dct lk kvs) ∧ DkAt H a lk ws
theorem lock_in {ik : IK} (hik : ik.isD = true) {d : D} {kvs : List (Key × D)} {a : Addr} {ws : List (L2.Key × V)} (R : Rl W.toWd F μ H S) (dk : DkIn F μ H S d kvs a ws) (hH : H a = some (.dK ws)) (rk : RepK W.toWd F μ H kvs ws) (od : Obj) :
    Rl W.toWd F μ (upd H a (.frz od (.dK ws))) (lkS ik [d] S) := by
  have h2 : L2.Rd (upd H a (.frz od (.dK ws))) a (.dK ws) := .inr ⟨od, upd_same⟩
  refine R.flip (.inl hH) h2 ?_
  rcases dk with ⟨_, hm, h, _⟩ | ⟨n, lk, rfl, hn, eS, q⟩
  · exact .inl ⟨hm, h ik⟩
  · cases lk with
    | true => obtain ⟨o, q⟩ := q; rw [hH] at q; cases q
    | false =>
      refine .inr ⟨n, .dct true kvs, hn, ?_, .dct (lk := true) ⟨od, upd_same⟩ (rk.flp (flp_upd (.inl hH) h2))⟩
      unfold lkS
      rw [if_pos hik]
      simp only
      rw [eS]
theorem lock_out {ik : IK} (hik : ik.isD = true) {d : D} {kvs : List (Key × D)} {a : Addr} {ws : List (L2.Key × V)} (R : Rl W.toWd F μ H S) (dk : DkIn F μ H S d kvs a ws) (hH : H a = some (.dK ws)) (rk : RepK W.toWd F μ H kvs ws) {od : Obj} {F' : Addr → Prop} {μ' : List Addr} {H' : Hp} {S' : St}
    (E : Ext F μ (upd H a (.frz od (.dK ws))) F' μ' H') (R' : Rl W.toWd F' μ' H' S') : Rl W.toWd F' μ' (upd H' a (.dK ws)) (ulS ik [d] S S') := by
  have h5 : H' a = some (.frz od (.dK ws)) := E.frzs a od _ upd_same
  have h1 : L2.Rd H' a (.dK ws) := .inr ⟨od, h5⟩
  have h2 : L2.Rd (upd H' a (.dK ws)) a (.dK ws) := .inl upd_same
  refine R'.flip h1 h2 ?_
  have h0 : L2.Rd (upd H a (.frz od (.dK ws))) a (.dK ws) := .inr ⟨od, upd_same⟩
  have R1 := lock_in hik R dk hH rk od
  rcases dk with ⟨_, hm, _, h⟩ | ⟨n, lk, rfl, hn, eS, q⟩
  · refine .inl ⟨fun m => ?_, h ik S'⟩
    rcases E.newM a m with z | z
    · exact hm z
    · rw [upd_same] at z; cases z
  · cases lk with
    | true => obtain ⟨o, q⟩ := q; rw [hH] at q; cases q
    | false =>
      refine .inr ⟨n, .dct false kvs, pre_get E.pre hn, ?_, .dct (lk := false) upd_same (((rk.flp (flp_upd (.inl hH) h0)).ext R1.fz R1.off E).flp (flp_upd h1 h2))⟩
      unfold ulS
      rw [if_pos hik]
      simp only
      rw [eS]
/-- already locked: nothing is done -/
theorem lock_no {ik : IK} {d : D} {kvs : List (Key × D)} {a : Addr} {ws : List (L2.Key × V)} (dk : DkIn F μ H S d kvs a ws) {o : Obj} (hH : H a = some (.frz o (.dK ws))) : lkS ik [d] S = S ∧ ∀ S1, ulS ik [d] S S1 = S1 := by
  rcases dk with ⟨_, hm, h, h'⟩ | ⟨n, lk, rfl, hn, eS, q⟩
  · exact ⟨h ik, h' ik⟩
  · cases lk with
    | false => rw [show H a = some (.dK ws) from q] at hH; cases hH
    | true =>
      refine ⟨?_, fun S1 => ?_⟩
      · unfold lkS
        split
        · simp only; rw [eS]
        · rfl
      · unfold ulS
        split
        · simp only; rw [eS]
        · rfl
/-- the iterator over a dict that a name holds -/
def tDW (ik : IK) (td : TE) : TI := match ik with
  | .vals => iVals td
  | .itms => iItems td
  | _ => iKeys td
theorem tDW_of {ik : IK} (hik : ik.isD = true) {i : Nat} {σ : L2.St} {H : Hp} {R : It → Hp → Prop} {a : Addr} {o : Obj} {ws : List (L2.Key × V)} (hv : σ[i]? = some (some (.ref a))) (hH : H a = some (.frz o (.dK ws))) (h : R (JD ik a o ws) H) : tDW ik (tVar i) σ H R := by
  cases ik <;> first | (cases hik; done) | skip
  · exact ⟨_, hv, a, o, rfl, .inl ⟨ws, hH, h⟩⟩
  · exact ⟨_, hv, a, o, ws, rfl, hH, h⟩
  · exact ⟨_, hv, a, o, ws, rfl, hH, h⟩
end
section
variable {X : Cx}
theorem pe_or {e : Expr} {t t' : TE} (h : PE X e t) (h' : PE X e t') : PE X e fun σ H Q => t σ H Q ∨ t' σ H Q := ⟨fun pins s σ H Q I q => q.elim (h.run pins s σ H Q I) (h'.run pins s σ H Q I)⟩
theorem ps_or {st : Stmt} {t t' : TS} (h : PS X st t) (h' : PS X st t') : PS X st fun D σ H => t D σ H ∨ t' D σ H := ⟨fun pins s σ H D I q => q.elim (h.run pins s σ H D I) (h'.run pins s σ H D I)⟩
end
section
variable {W : Wx} {wx : WX} {C : Ctx} {F : Addr → Prop} {μ : List Addr} {H : Hp} {S : St}
theorem evL_var {i : Nat} {ρ : Env} {d : D} (h : ρ[i]? = some (some d)) (hx : d.isX = false) : evL C [.var i] ρ S = .ok [d] S := by
  unfold evL evE evL
  rw [h]
  simp only
  rw [hx]
  rfl
theorem evL_var' {i : Nat} {ρ : Env} {α : Type} {rel : Rel α V} {σ : L2.St} {f : List D → St → R α} {Q : VK} (h : EndR W wx F μ H σ rel ((evL C [.var i] ρ S).bind f) Q) : ∃ d, ρ[i]? = some (some d) ∧ d.isX = false ∧ EndR W wx F μ H σ rel (f [d] S) Q := by
  unfold evL evE evL at h
  split at h
  · rename_i d e
    split at h
    · exact h.elim
    · rename_i hx
      exact ⟨d, e, by simpa using hx, h⟩
  · exact h.elim
end
end PM
set_option Elab.async false
set_option linter.all false
set_option autoImplicit false
set_option maxHeartbeats 4000000
/-! PMLock2: comprehensions and loops over dicts. -/
namespace PM
open PySem PySem.Spec PyProof.Rows L2
section
variable {W : Wx} {wx : WX} {C : Ctx} {sh : Shp} {k : Nat} {X : Cx}
theorem dK_nfz {ws : List (L2.Key × V)} : ∀ o w, (HO.dK ws) ≠ .frz o w := fun _ _ z => nomatch z
theorem AccI.unlk {ik : IK} (hik : ik.isD = true) {F F5 : Addr → Prop} {μ μ5 : List Addr} {H H5 : Hp} {S S5 : St} {d : D} {kvs : List (Key × D)} {a Dd : Addr} {ws : List (L2.Key × V)} {od : Obj} {acc : List D} (R : Rl W.toWd F μ H S) (dk : DkIn F μ H S d kvs a ws) (hH : H a = some (.dK ws)) (rk : RepK W.toWd F μ H kvs ws)
    (hD : H Dd = none) (hA : AccI W Dd F μ (upd H a (.frz od (.dK ws))) F5 μ5 H5 S5 acc) : AccI W Dd F μ H F5 μ5 (upd H5 a (.dK ws)) (ulS ik [d] S S5) acc := by
  have h5 : H5 a = some (.frz od (.dK ws)) := hA.ext.frzs a od _ upd_same
  have hne : Dd ≠ a := fun e => by rw [e, hH] at hD; cases hD
  obtain ⟨vs, e, rr⟩ := hA.at_
  exact ⟨hA.ext.unlk hH dK_nfz, lock_out hik R dk hH rk hA.ext hA.rl, hA.nF, hA.nM, vs, by rw [upd_ne hne]; exact e, rr.flp (flp_upd (.inr ⟨od, h5⟩) (.inl upd_same))⟩
theorem AccK.unlk {ik : IK} (hik : ik.isD = true) {F F5 : Addr → Prop} {μ μ5 : List Addr} {H H5 : Hp} {S S5 : St} {d : D} {kvs : List (Key × D)} {a Dd : Addr} {ws : List (L2.Key × V)} {od : Obj} {acc : List (Key × D)} (R : Rl W.toWd F μ H S) (dk : DkIn F μ H S d kvs a ws) (hH : H a = some (.dK ws)) (rk : RepK W.toWd F μ H kvs ws)
    (hD : H Dd = none) (hA : AccK W Dd F μ (upd H a (.frz od (.dK ws))) F5 μ5 H5 S5 acc) : AccK W Dd F μ H F5 μ5 (upd H5 a (.dK ws)) (ulS ik [d] S S5) acc := by
  have h5 : H5 a = some (.frz od (.dK ws)) := hA.ext.frzs a od _ upd_same
  have hne : Dd ≠ a := fun e => by rw [e, hH] at hD; cases hD
  obtain ⟨vs, e, rr⟩ := hA.at_
  exact ⟨hA.ext.unlk hH dK_nfz, lock_out hik R dk hH rk hA.ext hA.rl, hA.nF, hA.nM, vs, by rw [upd_ne hne]; exact e, rr.flp (flp_upd (.inr ⟨od, h5⟩) (.inl upd_same))⟩
theorem comp_lcK {m : Bool} {ownI : List Nat} {t : Tg} {ik : IK} {i : Nat} {ifsI : List E} {eltI : E} (hik : ik.isD = true) (hsl : ∀ i ∈ t.slots, i ∈ ownI) {σ : L2.St} {H : Hp} {Q : VK} (h : tE W wx C (.comp m ownI t ik [.var i] ifsI eltI) σ H Q) :
    tLockE (tLc (tDW ik (tVar i)) (gT W t) (tTs W (fun _ _ _ _ => False) C ifsI) (tE W (fun _ _ _ _ => False) C eltI) ownI) σ H Q ∨ tLc (tDW ik (tVar i)) (gT W t) (tTs W (fun _ _ _ _ => False) C ifsI) (tE W (fun _ _ _ _ => False) C eltI) ownI σ H Q := by
  obtain ⟨ρ, S, F, μ, o, Rs, h⟩ := h
  unfold evE at h
  obtain ⟨d, hv, hx, q⟩ := evL_var' h
  obtain ⟨v, ev, rv⟩ := o.at_ i d hv
  have rd := rv.rep hx
  rw [walk_dk hik] at q
  cases ep : PM.pairs S d with
  | none => rw [ep] at q; exact q.elim
  | some kvs =>
    rw [ep] at q
    replace q : EndR W wx F μ H σ (relD W) ((loopR (fun S' => [d].all (sameAt (lkS ik [d] S) S')) (stepC C ownI t ifsI ρ fun ρ1 S3 => (evE C eltI ρ1 S3).bind fun y S4 => .ok [y] S4) (dkItems ik kvs) (lkS ik [d] S)).bind fun ys S5 => if ys.length ≤ sizeMax then R.o (mkL m ys (ulS ik [d] S S5)) else .bad) Q := q
    obtain ⟨a, ws, rfl, rk, hR, dk⟩ := Rs.dk ep rd
    cases el : loopR (fun S' => [d].all (sameAt (lkS ik [d] S) S')) (stepC C ownI t ifsI ρ fun ρ1 S3 => (evE C eltI ρ1 S3).bind fun y S4 => .ok [y] S4) (dkItems ik kvs) (lkS ik [d] S) with
    | bad => rw [el] at q; exact q.elim
    | ex c v S5 => exact absurd el (noexR _ _)
    | ok ys S5 =>
      rw [el] at q
      replace q : EndR W wx F μ H σ (relD W) (if ys.length ≤ sizeMax then R.o (mkL m ys (ulS ik [d] S S5)) else .bad) Q := q
      split at q
      case isFalse => exact q.elim
      case isTrue hlen =>
      rcases hR with hH | ⟨oo, hH⟩
      · refine .inl ⟨a, .dK ws, hH, trivial, fun od => tDW_of hik ev upd_same fun Dd hD => ?_⟩
        have h2 : L2.Rd (upd H a (.frz od (.dK ws))) a (.dK ws) := .inr ⟨od, upd_same⟩
        have R1 := lock_in hik Rs dk hH rk od
        have hne : Dd ≠ a := fun e => by rw [e, upd_same] at hD; cases hD
        have hD0 : H Dd = none := by rw [upd_ne hne] at hD; exact hD
        refine comp_core hsl (o.flp (.inl hH) h2) R1 (it_dk hik upd_same R1 (rk.flp (flp_upd (.inl hH) h2))) hD el hlen fun F5 μ5 H5 hA => ⟨hA.ext.frzs a od _ upd_same, ?_⟩
        exact (hA.unlk hik Rs dk hH rk hD0).fin Rs.some_ hD0 q
      · obtain ⟨l1, l2⟩ := lock_no (ik := ik) dk hH
        rw [l1] at el
        rw [l2] at q
        refine .inr (tDW_of hik ev hH fun Dd hD => ?_)
        exact comp_core hsl o Rs (it_dk hik hH Rs rk) hD el hlen fun F5 μ5 H5 hA => hA.fin Rs.some_ hD q
theorem e_compK (G : Gd W C sh k X) {m : Bool} {elt tg iter : Expr} {ifs : List Expr} {scope : Scope} {own : List (Str × Nat)} {ownI : List Nat} {t : Tg} {ik : IK} {i : Nat} {ifsI : List E} {eltI : E} {pos : Pos} (hik : ik.isD = true) (hown : own.map (·.2) = ownI) (hsl : ∀ i ∈ t.slots, i ∈ ownI)
    (hi : PI X tg iter (tDW ik (tVar i))) (ok : BlkOk X.N X.env.scope scope own)
    (hg : ∀ (s : Shared) (H : Hp) (c : Addr) (cl : List (Str × Addr)) (fp : List Addr), PG (X.blk s H scope (compEnvC scope cl c X.env) fp) tg (gT W t))
    (ht : ∀ (s : Shared) (H : Hp) (c : Addr) (cl : List (Str × Addr)) (fp : List Addr), PTs (X.blk s H scope (compEnvC scope cl c X.env) fp) ifs (tTs W (fun _ _ _ _ => False) C ifsI))
    (he : ∀ (s : Shared) (H : Hp) (c : Addr) (cl : List (Str × Addr)) (fp : List Addr), PE (X.blk s H scope (compEnvC scope cl c X.env) fp) elt (tE W (fun _ _ _ _ => False) C eltI))
    (hf : ∀ x, foldedSetIterable iter X.env x = pure x) : PE X (.ListComp elt [⟨tg, iter, ifs, 0⟩] scope pos) (tE W wx C (.comp m ownI t ik [.var i] ifsI eltI)) := by
  have base := pe_lc (pos := pos) G.calm G.nd hi ok hg ht he hf
  rw [hown] at base
  exact PE_imp (pe_or (pe_lock base) base) fun σ H Q h => comp_lcK hik hsl h
theorem dcomp_dcK {m : Bool} {ownI : List Nat} {t : Tg} {ik : IK} {i : Nat} {kI vI : E} (hik : ik.isD = true) (hsl : ∀ i ∈ t.slots, i ∈ ownI) {σ : L2.St} {H : Hp} {Q : VK} (h : tE W wx C (.dcomp m ownI t ik [.var i] kI vI) σ H Q) :
    tLockE (tDc (tDW ik (tVar i)) (gT W t) (tTs W (fun _ _ _ _ => False) C []) (tE W (fun _ _ _ _ => False) C kI) (tE W (fun _ _ _ _ => False) C vI) ownI) σ H Q ∨ tDc (tDW ik (tVar i)) (gT W t) (tTs W (fun _ _ _ _ => False) C []) (tE W (fun _ _ _ _ => False) C kI) (tE W (fun _ _ _ _ => False) C vI) ownI σ H Q := by
  obtain ⟨ρ, S, F, μ, o, Rs, h⟩ := h
  unfold evE at h
  obtain ⟨d, hv, hx, q⟩ := evL_var' h
  obtain ⟨v, ev, rv⟩ := o.at_ i d hv
  have rd := rv.rep hx
  rw [walk_dk hik] at q
  cases ep : PM.pairs S d with
  | none => rw [ep] at q; exact q.elim
  | some kvs =>
    rw [ep] at q
    replace q : EndR W wx F μ H σ (relD W) ((loopK (fun S' => [d].all (sameAt (lkS ik [d] S) S')) (stepD C ownI t kI vI ρ) (dkItems ik kvs) [] (lkS ik [d] S)).bind fun ys S5 => if ys.length ≤ sizeMax then R.o (mkK m ys (ulS ik [d] S S5)) else .bad) Q := q
    obtain ⟨a, ws, rfl, rk, hR, dk⟩ := Rs.dk ep rd
    cases el : loopK (fun S' => [d].all (sameAt (lkS ik [d] S) S')) (stepD C ownI t kI vI ρ) (dkItems ik kvs) [] (lkS ik [d] S) with
    | bad => rw [el] at q; exact q.elim
    | ex c v S5 => exact absurd el (noexK _ _ _)
    | ok ys S5 =>
      rw [el] at q
      replace q : EndR W wx F μ H σ (relD W) (if ys.length ≤ sizeMax then R.o (mkK m ys (ulS ik [d] S S5)) else .bad) Q := q
      split at q
      case isFalse => exact q.elim
      case isTrue hlen =>
      rcases hR with hH | ⟨oo, hH⟩
      · refine .inl ⟨a, .dK ws, hH, trivial, fun od => tDW_of hik ev upd_same fun Dd hD => ?_⟩
        have h2 : L2.Rd (upd H a (.frz od (.dK ws))) a (.dK ws) := .inr ⟨od, upd_same⟩
        have R1 := lock_in hik Rs dk hH rk od
        have hne : Dd ≠ a := fun e => by rw [e, upd_same] at hD; cases hD
        have hD0 : H Dd = none := by rw [upd_ne hne] at hD; exact hD
        refine dcomp_core hsl (o.flp (.inl hH) h2) R1 (it_dk hik upd_same R1 (rk.flp (flp_upd (.inl hH) h2))) hD el hlen fun F5 μ5 H5 hA => ⟨hA.ext.frzs a od _ upd_same, ?_⟩
        exact (hA.unlk hik Rs dk hH rk hD0).fin Rs.some_ hD0 q
      · obtain ⟨l1, l2⟩ := lock_no (ik := ik) dk hH
        rw [l1] at el
        rw [l2] at q
        refine .inr (tDW_of hik ev hH fun Dd hD => ?_)
        exact dcomp_core hsl o Rs (it_dk hik hH Rs rk) hD el hlen fun F5 μ5 H5 hA => hA.fin Rs.some_ hD q
theorem e_dcompK (G : Gd W C sh k X) {m : Bool} {kx vx tg iter : Expr} {scope : Scope} {own : List (Str × Nat)} {ownI : List Nat} {t : Tg} {ik : IK} {i : Nat} {kI vI : E} {pos : Pos} (hik : ik.isD = true) (hown : own.map (·.2) = ownI) (hsl : ∀ i ∈ t.slots, i ∈ ownI)
    (hi : PI X tg iter (tDW ik (tVar i))) (ok : BlkOk X.N X.env.scope scope own)
    (hg : ∀ (s : Shared) (H : Hp) (c : Addr) (cl : List (Str × Addr)) (fp : List Addr), PG (X.blk s H scope (compEnvC scope cl c X.env) fp) tg (gT W t))
    (hk : ∀ (s : Shared) (H : Hp) (c : Addr) (cl : List (Str × Addr)) (fp : List Addr), PE (X.blk s H scope (compEnvC scope cl c X.env) fp) kx (tE W (fun _ _ _ _ => False) C kI))
    (he : ∀ (s : Shared) (H : Hp) (c : Addr) (cl : List (Str × Addr)) (fp : List Addr), PE (X.blk s H scope (compEnvC scope cl c X.env) fp) vx (tE W (fun _ _ _ _ => False) C vI))
    (hf : ∀ x, foldedSetIterable iter X.env x = pure x) : PE X (.DictComp kx vx [⟨tg, iter, [], 0⟩] scope pos) (tE W wx C (.dcomp m ownI t ik [.var i] kI vI)) := by
  have base := pe_dc (pos := pos) G.calm G.nd hi ok hg (fun _ _ _ _ _ => ts_nil (W := W) (wx := fun _ _ _ _ => False) (C := C)) hk he hf
  rw [hown] at base
  exact PE_imp (pe_or (pe_lock base) base) fun σ H Q h => dcomp_dcK hik hsl h
theorem EndS.lock {ik : IK} (hik : ik.isD = true) {F : Addr → Prop} {μ : List Addr} {H : Hp} {S : St} {d : D} {kvs : List (Key × D)} {a : Addr} {ws : List (L2.Key × V)} {od : Obj} {fl : Fl} {D : Ends} (R : Rl W.toWd F μ H S) (dk : DkIn F μ H S d kvs a ws) (hH : H a = some (.dK ws)) (rk : RepK W.toWd F μ H kvs ws)
    (q : EndS W wx F μ H (Fl.ul ik [d] S fl) D) : EndS W wx F μ (upd H a (.frz od (.dK ws))) fl
      ⟨fun σ' H' => H' a = some (.frz od (.dK ws)) ∧ D.nx σ' (upd H' a (.dK ws)), fun v H' => H' a = some (.frz od (.dK ws)) ∧ D.rt v (upd H' a (.dK ws)), fun σ' H' => H' a = some (.frz od (.dK ws)) ∧ D.bk σ' (upd H' a (.dK ws)), fun σ' H' => H' a = some (.frz od (.dK ws)) ∧ D.ct σ' (upd H' a (.dK ws))⟩ := by
  unfold Fl.ul at q
  rw [if_pos hik] at q
  have fl2 : ∀ {F5 : Addr → Prop} {μ5 : List Addr} {H5 : Hp}, Ext F μ (upd H a (.frz od (.dK ws))) F5 μ5 H5 → L2.Rd H5 a (.dK ws) ∧ L2.Rd (upd H5 a (.dK ws)) a (.dK ws) := fun E => ⟨.inr ⟨od, E.frzs a od _ upd_same⟩, .inl upd_same⟩
  cases fl with
  | bad => exact q
  | ex _ _ _ _ => exact q.elim
  | nx ρ5 S5 => exact fun F5 μ5 H5 σ5 E R5 o5 => ⟨E.frzs a od _ upd_same, q F5 μ5 _ σ5 (E.unlk hH dK_nfz) (lock_out hik R dk hH rk E R5) (o5.flp (fl2 E).1 (fl2 E).2)⟩
  | bk ρ5 S5 => exact fun F5 μ5 H5 σ5 E R5 o5 => ⟨E.frzs a od _ upd_same, q F5 μ5 _ σ5 (E.unlk hH dK_nfz) (lock_out hik R dk hH rk E R5) (o5.flp (fl2 E).1 (fl2 E).2)⟩
  | ct ρ5 S5 => exact fun F5 μ5 H5 σ5 E R5 o5 => ⟨E.frzs a od _ upd_same, q F5 μ5 _ σ5 (E.unlk hH dK_nfz) (lock_out hik R dk hH rk E R5) (o5.flp (fl2 E).1 (fl2 E).2)⟩
  | rt x S5 => exact fun F5 μ5 H5 v5 E R5 r5 => ⟨E.frzs a od _ upd_same, q F5 μ5 _ v5 (E.unlk hH dK_nfz) (lock_out hik R dk hH rk E R5) (r5.flp (flp_upd (fl2 E).1 (fl2 E).2))⟩
theorem EndS.lockNo {ik : IK} {F : Addr → Prop} {μ : List Addr} {H : Hp} {S : St} {d : D} {fl : Fl} {D : Ends} (l2 : ∀ S1, ulS ik [d] S S1 = S1) (q : EndS W wx F μ H (Fl.ul ik [d] S fl) D) : EndS W wx F μ H fl D := by
  unfold Fl.ul at q
  split at q
  · cases fl with
    | ex _ _ _ _ => exact q.elim
    | bad => exact q
    | _ => simp only [l2] at q; exact q
  · exact q
theorem loop_K {t : Tg} {ik : IK} {i : Nat} {b : List S} (hik : ik.isD = true) {D : Ends} {σ : L2.St} {H : Hp} (h : tSt W wx C (.loop t ik [.var i] b) D σ H) :
    tLock (tFor (tDW ik (tVar i)) (gT W t) (tSts W wx C b)) D σ H ∨ tFor (tDW ik (tVar i)) (gT W t) (tSts W wx C b) D σ H := by
  obtain ⟨ρ, S, F, μ, o, Rs, h⟩ := h
  unfold evS at h
  obtain ⟨d, hv, hx, q⟩ : ∃ d, ρ[i]? = some (some d) ∧ d.isX = false ∧ EndS W wx F μ H (Fl.ofO (walk S ik [d]) fun xs => Fl.ul ik [d] S (loopF (fun S' => [d].all (sameAt (lkS ik [d] S) S')) (fun x ρ2 S2 => Fl.ofO (bindT S2 t x ρ2) fun ρ3 => evSs C b ρ3 S2) xs ρ (lkS ik [d] S))) D := by
    unfold evL evE evL at h
    split at h
    · rename_i d e
      split at h
      · exact h.elim
      · rename_i hx
        exact ⟨d, e, by simpa using hx, h⟩
    · exact h.elim
  obtain ⟨v, ev, rv⟩ := o.at_ i d hv
  have rd := rv.rep hx
  rw [walk_dk hik] at q
  obtain ⟨xs, ew, q⟩ := EndS.ofO q
  obtain ⟨kvs, ep, rfl⟩ := Option.map_eq_some_iff.mp ew
  obtain ⟨a, ws, rfl, rk, hR, dk⟩ := Rs.dk ep rd
  rcases hR with hH | ⟨oo, hH⟩
  · refine .inl ⟨a, .dK ws, hH, trivial, fun od => tDW_of hik ev upd_same ?_⟩
    have h2 : L2.Rd (upd H a (.frz od (.dK ws))) a (.dK ws) := .inr ⟨od, upd_same⟩
    have R1 := lock_in hik Rs dk hH rk od
    exact loop_core (it_dk hik upd_same R1 (rk.flp (flp_upd (.inl hH) h2))) R1 (o.flp (.inl hH) h2) (q.lock hik Rs dk hH rk)
  · obtain ⟨l1, l2⟩ := lock_no (ik := ik) dk hH
    rw [l1] at q
    exact .inr (tDW_of hik ev hH (loop_core (it_dk hik hH Rs rk) Rs o (q.lockNo l2)))
theorem s_loopK (G : Gd W C sh k X) {ik : IK} (hik : ik.isD = true) (hp : PassesOwn (model X.prog X.w) X.A X.env X.xe) {tg iter : Expr} {body : List Stmt} {t : Tg} {i : Nat} {b : List S} {pos : Pos} (hi : PI X tg iter (tDW ik (tVar i))) (hg : PG X tg (gT W t)) (hb : PSs X body (tSts W wx C b))
    (hs : ∀ x, foldedSetIterable iter X.env x = pure x) : PS X (.For tg iter body [] pos) (tSt W wx C (.loop t ik [.var i] b)) := by
  have base := ps_for (pos := pos) hp G.calm hi hg hb hs
  exact PS_imp (ps_or (ps_lock base) base) fun D σ H h => loop_K hik h
/-- name = [.. for .. in a dict] -/
theorem s_setLcK (G : Gd W C sh k X) {a : Nat} {y : Str} {py : Pos} {m : Bool} {elt tg iter : Expr} {ifs : List Expr} {scope : Scope} {own : List (Str × Nat)} {ownI : List Nat} {t : Tg} {ik : IK} {i : Nat} {ifsI : List E} {eltI : E} {pos spos : Pos} (hik : ik.isD = true) (hy : X.N[a]? = some y) (hyl : X.env.scope.names.lookup y = some .local)
    (hsw : swapsWith (.ListComp elt [⟨tg, iter, ifs, 0⟩] scope pos) (some (.Name y py)) spos.line X.env = pure true) (hown : own.map (·.2) = ownI) (hsl : ∀ i ∈ t.slots, i ∈ ownI)
    (hi : PI X tg iter (tDW ik (tVar i))) (ok : BlkOk X.N X.env.scope scope own)
    (hg : ∀ (s : Shared) (H : Hp) (c : Addr) (cl : List (Str × Addr)) (fp : List Addr), PG (X.blk s H scope (compEnvC scope cl c X.env) fp) tg (gT W t))
    (ht : ∀ (s : Shared) (H : Hp) (c : Addr) (cl : List (Str × Addr)) (fp : List Addr), PTs (X.blk s H scope (compEnvC scope cl c X.env) fp) ifs (tTs W (fun _ _ _ _ => False) C ifsI))
    (he : ∀ (s : Shared) (H : Hp) (c : Addr) (cl : List (Str × Addr)) (fp : List Addr), PE (X.blk s H scope (compEnvC scope cl c X.env) fp) elt (tE W (fun _ _ _ _ => False) C eltI))
    (hf : ∀ x, foldedSetIterable iter X.env x = pure x) : PS X (.Assign [.Name y py] (.ListComp elt [⟨tg, iter, ifs, 0⟩] scope pos) spos) (tSt W wx C (.set (.nm a) (.comp m ownI t ik [.var i] ifsI eltI))) := by
  have base := ps_setLc G.calm G.nd hy hyl hsw hi ok hg ht he hf
  rw [hown] at base
  refine PS_imp (ps_or (ps_lock base) base) fun D σ H h => ?_
  have h' := comp_lcK hik hsl (tR_mono (st_e (run := .comp m ownI t ik [.var i] ifsI eltI) (f := fun ρ x S1 => Fl.ofO (bindT S1 (.nm a) x ρ) fun ρ1 => .nx ρ1 S1) (fun ρ S => by rw [evS]) h) fun x H1 ⟨ρ, S1, F1, μ1, d, o1, R1, r1, q⟩ => q F1 μ1 H1 _ Ext.refl R1 (o1.set r1))
  exact h'.imp (fun ⟨d, u, hd, mu, f⟩ => ⟨d, u, hd, mu, f⟩) id
end
end PM
set_option Elab.async false
set_option linter.all false
set_option autoImplicit false
set_option maxRecDepth 100000
set_option maxHeartbeats 4000000
/-! PMDup: {**d, k: v}: a dict put into another one, pair by pair. -/
namespace PM
open PySem PySem.Spec
section
variable {prog : Program} {w : World} {K : Type} [DecidableEq K] {knd : PySem.KeyKind prog w K} {A : Around} {E : Value → Shared → Prop} {s : Shared}
theorem pm_dictPut {d : Addr} {kvs : List (K × Value)} {k : K} {key v : Value} {Q : Unit → Shared → Prop} (hkey : knd.is k key = true) (hm : s.heap.DictOf knd d kvs) (hsz : kvs.length ≤ sizeLine)
    (hQ : ∀ h', h'.DictOf knd d (stored kvs k v) → Heap.SameBut d s.heap h' → Q () { s with heap := h' }) : wpAny (model prog w) A (dictPut d (knd.hash k) key v) Q E s := by
  obtain ⟨ob, es, ep, gob, exd, dat, kok, pr, nd⟩ := hm
  have hl : es.size ≤ sizeLine := by
    have z := pr.length
    rw [Array.length_toList] at z
    omega
  have idx : (es.findIdx? fun e => knd.is k e.key) = kvs.findIdx? fun p => decide (p.1 = k) := by
    have z := pr.findIdx k
    rw [← z]
    cases es
    simp
  unfold dictPut
  refine wpAny_bind (wpAny_dictFind_of hkey gob dat kok ?_)
  cases fi : es.findIdx? fun e => knd.is k e.key with
  | none =>
    have hno : k ∉ kvs.map (·.1) := not_mem_of_findIdx_none (idx ▸ fi)
    have est : stored kvs k v = kvs ++ [(k, v)] := by
      unfold stored
      rw [if_neg]
      intro z
      obtain ⟨p, hp, he⟩ := List.any_eq_true.mp z
      exact hno (List.mem_map.mpr ⟨p, hp, of_decide_eq_true he⟩)
    rw [est] at hQ
    refine wpAny_updateDictKeys (hz := hl) gob dat (hQ _ ⟨_, _, ep + 1, Heap.get?_update_self _ gob (Obj.isFreed_of_dict (Obj.data_mapDictKeys dat _)), exd.mapDictKeys _, Obj.data_mapDictKeys dat _, kok.push hkey _, ?_, ?_⟩ (Heap.SameBut.update ..))
    · have z := pr.append hkey (knd.hash k) v
      cases es
      simpa using z
    · rw [List.map_append]
      refine List.nodup_append.mpr ⟨nd, by simp, fun a ha b hb e => hno ?_⟩
      have hb' : b = k := by simpa using hb
      rw [← hb', ← e]
      exact ha
  | some i =>
    have hany : (kvs.any fun p => decide (p.1 = k)) = true := any_of_findIdx_some (idx ▸ fi)
    have est : stored kvs k v = kvs.map fun p => if p.1 = k then (p.1, v) else p := by
      unfold stored
      rw [if_pos hany]
    rw [est] at hQ
    refine wpAny_updateDict gob dat (hQ _ ⟨_, _, ep, Heap.get?_update_self _ gob (Obj.isFreed_of_dict (Obj.data_mapDict dat _)), exd.mapDict _, Obj.data_mapDict dat _, kok.modify _ _, ?_, ?_⟩ (Heap.SameBut.update ..)) (by simp)
    · have fl : (es.toList.findIdx? fun e => knd.is k e.key) = some i := by
        rw [← fi]
        cases es
        simp
      have z := pr.modify nd fl v
      cases es
      simpa using z
    · rw [keys_map_store]; exact nd
end
section
variable {prog : Program} {w : World} {A : Around} {E : Value → Shared → Prop} {s : Shared}
theorem mix_noref {k : L2.Key} {key : Value} (h : (L2.mixKind prog w).is k key = true) : ∀ a, key ≠ .ref a := fun a e => by
  subst e
  rcases L2.keyIs_shape (show L2.keyIs k (.ref a) = true from h) with ⟨i, t, _, z⟩ | ⟨x, t, _, z⟩ <;> cases z
/-- the pairs of the dict at a go into the dict at d -/
theorem pm_merge {d a : Addr} {kvs more : List (L2.Key × Value)} {Q : Unit → Shared → Prop} (hda : d ≠ a) (hsys : (a == sysModules) = false) (hd : s.heap.DictOf (L2.mixKind prog w) d kvs) (ha : s.heap.DictOf (L2.mixKind prog w) a more)
    (hsz : kvs.length + more.length ≤ sizeLine) (hQ : ∀ h', h'.DictOf (L2.mixKind prog w) d (merged kvs more) → Heap.SameBut d s.heap h' → Q () { s with heap := h' }) :
    wpAny (model prog w) A (mergeMapping d (.ref a) false) Q E s := by
  obtain ⟨od, esd, epd, god, exd, datd, kod, prd, ndd⟩ := id hd
  obtain ⟨oa, esa, epa, goa, exa, data, koa, pra, nda⟩ := id ha
  have hlen : esa.size = more.length := by
    have z := pra.length
    rw [Array.length_toList] at z
    exact z
  unfold mergeMapping
  have loop : wpAny (model prog w) A (do
      let l ← dictEntries a
      let epoch ← dictEpoch a
      forIn (List.range l.size) PUnit.unit fun i (_ : PUnit) => (do
          let l' ← dictEntries a
          match l'[i]? with
          | some e => do
            holding [e.key, e.val] (dictPut d e.hash e.key e.val)
            let ep' ← dictEpoch a
            if (ep' != epoch) = true then do
                unsupported "dict.changed-during-merge"
                pure (ForInStep.yield PUnit.unit)
              else pure (ForInStep.yield PUnit.unit)
          | _ => do
            unsupported "dict.changed-during-merge"
            pure (ForInStep.yield PUnit.unit) : Sem (ForInStep PUnit))
      pure ()) Q E s := by
    refine wpAny_bind (wpAny_dictEntries goa data (wpAny_bind (wpAny_dictEpoch goa data (wpAny_bind ?_))))
    rw [List.range_eq_range']
    refine wpAny_forIn_list _ (fun rest _ z => ∃ (h1 : Heap) (i : Nat), z = { s with heap := h1 } ∧ i ≤ esa.size ∧ rest = List.range' i (esa.size - i) ∧ h1.get? a = some oa ∧ Heap.SameBut d s.heap h1 ∧ h1.DictOf (L2.mixKind prog w) d (merged kvs (more.take i)))
      _ ?_ ?_ _ _ ⟨s.heap, 0, rfl, Nat.zero_le _, by simp, goa, Heap.SameBut.refl _ _, by simpa [merged] using hd⟩
    · rintro x rest b z ⟨h1, i, rfl, hi, hr, ga, sb, dd⟩
      have hlt : i < esa.size := by
        by_cases q : i < esa.size
        · exact q
        · rw [show esa.size - i = 0 by omega] at hr
          cases hr
      have hr' : x = i ∧ rest = List.range' (i + 1) (esa.size - (i + 1)) := by
        rw [show esa.size - i = esa.size - (i + 1) + 1 by omega, List.range'_succ] at hr
        injection hr with e1 e2
        exact ⟨e1, e2⟩
      obtain ⟨ex, er⟩ := hr'
      subst ex
      refine wpAny_bind (wpAny_dictEntries ga data ?_)
      have hm : x < more.length := by omega
      have gm : more[x]? = some more[x] := List.getElem?_eq_getElem hm
      obtain ⟨hkey, hval⟩ := pra.get? (e := esa[x]) (by simp [hlt]) gm
      obtain ⟨k', hk', hh⟩ := koa esa[x] (Array.getElem_mem hlt)
      have ek : k' = more[x].1 := (L2.mixKind prog w).inj _ _ _ hk' hkey
      rw [ek] at hh
      rw [Array.getElem?_eq_getElem hlt]
      dsimp only
      rw [hh, hval]
      have hsz1 : (merged kvs (more.take x)).length ≤ sizeLine := by
        have e1 := merged_length_le kvs (more.take x)
        rw [List.length_take] at e1
        omega
      refine wpAny_bind (wpAny_holding (pm_dictPut hkey dd hsz1 fun h2 dd2 sb2 => ?_))
      have ga2 : h2.get? a = some oa := (sb2.2 a (Ne.symm hda)).trans ga
      refine wpAny_bind (wpAny_dictEpoch ga2 data ?_)
      rw [if_neg (by simp)]
      refine wpAny_pure ⟨h2, x + 1, rfl, hlt, er, ga2, sb.trans sb2, ?_⟩
      rw [merged_take_succ kvs more x (more[x].1, more[x].2) gm]
      exact dd2
    · rintro b z ⟨h1, i, rfl, hi, hr, ga, sb, dd⟩
      have ei : i = esa.size := by
        by_cases q : i < esa.size
        · rw [show esa.size - i = esa.size - (i + 1) + 1 by omega, List.range'_succ] at hr
          cases hr
        · omega
      refine wpAny_pure (hQ h1 ?_ sb)
      rw [ei, hlen, List.take_length] at dd
      exact dd
  refine wpAny_bind (wpAny_isInstance ha.typeIs isSubtype_dict_dict ?_)
  dsimp only
  rw [if_pos rfl]
  refine wpAny_bind (wpAny_specialOf ha.typeIs F.slot_dict_iter.lookup ?_)
  refine wpAny_bind (wpAny_pure ?_)
  rw [show (some (Value.builtin "dict.__iter__") == some (Value.builtin "dict.__iter__")) = true by decide]
  dsimp only
  rw [if_neg (by rw [hsys]; exact Bool.false_ne_true)]
  refine wpAny_bind (wpAny_dictEntries god datd ?_)
  split
  · refine wpAny_bind (wpAny_dictEntries goa data (wpAny_bind ?_))
    rw [← Array.forIn_toList]
    refine wpAny_forIn_list _ (fun rest _ z => z = s ∧ ∀ e ∈ rest, ∃ k, (L2.mixKind prog w).is k e.key = true) _ ?_ ?_ _ _ ⟨rfl, fun e he => (koa e (by simpa using he)).imp fun k q => q.1⟩
    · rintro x rest b z ⟨rfl, hz⟩
      obtain ⟨k, hk⟩ := hz x List.mem_cons_self
      have nr := mix_noref hk
      cases q : x.key with
      | ref c => exact absurd q (nr c)
      | _ => exact wpAny_pure ⟨rfl, fun e he => hz e (List.mem_cons_of_mem _ he)⟩
    · rintro b z ⟨rfl, _⟩
      exact loop
  · exact loop
abbrev newDct : Obj := { cls := .type "dict", data := .dict #[] }
/-- {**a, k: v}, in the model's steps -/
theorem pm_dupDisp {va vk vv : Sem Value} {Q : Value → Shared → Prop}
    (h : wpAny (model prog w) A va (fun m s1 => ∃ (a : Addr) (more : List (L2.Key × Value)), m = .ref a ∧ s.heap.objs.size ≠ a ∧ (a == sysModules) = false ∧ s1.heap.DictOf (L2.mixKind prog w) s.heap.objs.size [] ∧ s1.heap.DictOf (L2.mixKind prog w) a more ∧ more.length < sizeLine ∧
      ∀ h1, h1.DictOf (L2.mixKind prog w) s.heap.objs.size more → Heap.SameBut s.heap.objs.size s1.heap h1 →
        wpAny (model prog w) A (evalPairs [(vk, vv)]) (fun vs s3 => ∃ (k : L2.Key) (key val : Value) (more2 : List (L2.Key × Value)), vs = [(key, val)] ∧ (L2.mixKind prog w).is k key = true ∧ more2.length < sizeLine ∧ s.heap.objs.size ≠ h1.objs.size ∧ (h1.objs.size == sysModules) = false ∧
          s3.heap.DictOf (L2.mixKind prog w) h1.objs.size [] ∧ s3.heap.DictOf (L2.mixKind prog w) s.heap.objs.size more2 ∧
          ∀ h2 h3 tk, h2.DictOf (L2.mixKind prog w) h1.objs.size [(k, val)] → Heap.SameBut h1.objs.size s3.heap h2 → h3.DictOf (L2.mixKind prog w) s.heap.objs.size (stored more2 k val) → Heap.SameBut s.heap.objs.size h2 h3 → Q (.ref s.heap.objs.size) { s3 with heap := h3, toks := tk }) E
          { s1 with heap := h1.push newDct }) E { s with heap := s.heap.push newDct }) :
    wpAny (model prog w) A (dictDisplay [(none, va), (some vk, vv)]) Q E s := by
  unfold dictDisplay
  dsimp only
  simp only [List.forIn_cons, List.forIn_nil, List.isEmpty_nil, if_true, pure_bind, List.nil_append, List.length_singleton, bind_assoc]
  refine wpAny_bind (wpAny_alloc (wpAny_bind (wpAny_holding (wpAny_mono h (fun m s1 ⟨a, more, em, ne, sys, dp, da, sz, q⟩ => ?_) fun _ _ e => e))))
  subst em
  have nd : (more.map (·.1)).Nodup := by
    obtain ⟨_, _, _, _, _, _, _, _, z⟩ := da
    exact z
  refine wpAny_bind (wpAny_onRaise (wpAny_tryCatch (wpAny_onRaise (wpAny_holding (pm_merge ne sys dp da (by rw [List.length_nil]; omega) fun h1 d1 sb1 => ?_)))))
  rw [merged_nil_of_nodup more nd] at d1
  have q1 := q h1 d1 sb1
  rw [if_neg (by decide)]
  simp only [pure_bind]
  rw [if_neg (show ¬ ([(vk, vv)].isEmpty = true) from fun z => by cases z)]
  refine wpAny_bind (wpAny_bind (wpAny_holding (wpAny_subDict (knd := L2.mixKind prog w) (show 1 ≤ 15 by decide) (wpAny_mono q1 (fun vs s3 ⟨k, key, val, more2, ev, hk, sz2, ne2, sys2, dq, dp3, fin⟩ => ?_) fun _ _ e => e))))
  subst ev
  refine ⟨[(k, val)], ⟨hk, rfl, trivial⟩, dq, fun h2 d2 sb2 => ?_⟩
  have d2' : h2.DictOf (L2.mixKind prog w) h1.objs.size [(k, val)] := d2
  have dp2 : h2.DictOf (L2.mixKind prog w) s.heap.objs.size more2 := dp3.sameBut sb2 ne2
  refine wpAny_bind (wpAny_onRaise (wpAny_holding (pm_merge ne2 sys2 dp2 d2' (by rw [List.length_singleton]; omega) fun h3 d3 sb3 => ?_)))
  exact wpAny_pure (wpAny_pure (fin h2 h3 _ d2' sb2 d3 sb3))
end
section
open PySem.Spec PyProof.Rows L2
/-- {**d, k: v} with keys ints and texts: the new dict stands at p, a helping one at q -/
def tDup (ta tk tv : TE) : TE := fun σ H Q => ∀ p, H p = none → ta σ (upd H p (.dK [])) fun x H1 => ∃ b kvs, x = .ref b ∧ b ≠ p ∧ L2.Rd H1 b (.dK kvs) ∧ H1 p = some (.dK []) ∧ kvs.length < sizeLine ∧
  ∀ q, upd H1 p (.dK kvs) q = none → tk σ (upd (upd H1 p (.dK kvs)) q (.dK [])) fun y H2 => tv σ H2 fun z H3 => ∃ kk, y = kV kk ∧ H3 q = some (.dK []) ∧ H3 p = some (.dK kvs) ∧ Q (.ref p) (upd (upd H3 q (.dK [(kk, z)])) p (.dK (L2.putK kvs kk z)))
theorem pe_dup {X : Cx} {a k v : Expr} {ta tk tv : TE} {pos : Pos} (ha : PE X a ta) (hk : PE X k tk) (hv : PE X v tv) : PE X (.Dict [none, some k] [a, v] pos) (tDup ta tk tv) := by
  refine ⟨fun pins s σ H Q I h => ?_⟩
  rw [arm_eval_Dict]
  refine wpAny_bind (wpAny_standAt ?_)
  show wpAny _ _ (dictDisplay [(none, do let x ← eval a X.env; standAt pos; pure x), (some (eval k X.env), do let x ← eval v X.env; standAt pos; pure x)]) _ _ _
  have hn := I.hok.fresh (Nat.le_refl s.heap.objs.size)
  have I1 := I.laid (a := s.heap.objs.size) (o := .dK []) (h' := s.heap.push { cls := .type "dict", data := .dict #[] }) (t' := s.toks) (fun _ _ q => Heap.get?_push_of_some _ q) (Nat.le_refl _) (dk_empty s.heap I.big)
  refine pm_dupDisp (wpAny_bind (thn (ha.run pins _ σ _ _ I1 (h _ hn)) fun m s1 ⟨x, H1, I2, rx, b, kvs, ex, hbp, hb, hp, hsz, q⟩ => wpAny_bind (wpAny_standAt (wpAny_pure ?_))))
  subst ex
  obtain rfl : m = Value.ref b := rx
  obtain ⟨z1, sys1, vs, rel, db⟩ := dk_rd I2.hok hb
  obtain ⟨z0, sys0, vs0, rel0, dp⟩ := dk_of I2.hok hp
  cases rel0
  refine ⟨b, vs, rfl, fun e => hbp e.symm, sys1, dp, db, by rw [← KV.length rel]; exact hsz, fun h1 d1 sb1 => ?_⟩
  have I3 : L2.Inv X pins σ (upd H1 s.heap.objs.size (.dK kvs)) { s1 with heap := h1 } := d_write (t' := s1.toks) I2 (by rw [hp]; exact True.intro) sb1 (let ⟨o, _, _, g, _⟩ := d1; ⟨o, g⟩) (dk_new z1 sys0 rel d1)
  have hq : upd H1 s.heap.objs.size (.dK kvs) h1.objs.size = none := I3.hok.fresh (Nat.le_refl _)
  have I4 := I3.laid (a := h1.objs.size) (o := .dK []) (h' := h1.push { cls := .type "dict", data := .dict #[] }) (t' := s1.toks) (fun _ _ q => Heap.get?_push_of_some _ q) (Nat.le_refl _) (dk_empty h1 I3.big)
  refine evalPairs_cons (thn (hk.run pins _ σ _ _ I4 (q _ hq)) fun key s2 ⟨y, H2, I5, ry, q2⟩ => wpAny_bind (thn (hv.run pins s2 σ _ _ I5 q2) fun val s3 ⟨z, H3, I6, rz, kk, ey, h3q, h3p, q3⟩ => wpAny_bind (wpAny_standAt (wpAny_pure (evalPairs_nil ?_)))))
  subst ey
  obtain ⟨zq, sysq, vq, relq, dq⟩ := dk_of I6.hok h3q
  obtain ⟨zp, sysp, vp, relp, dp3⟩ := dk_of I6.hok h3p
  cases relq
  have hne : s.heap.objs.size ≠ h1.objs.size := fun e => by rw [← e, upd_same] at hq; cases hq
  refine ⟨kk, key, val, vp, rfl, kV_is ry, by rw [← KV.length relp]; exact hsz, hne, sysq, dq, dp3, fun h2 h3 tk d2 sb2 d3 sb3 => ?_⟩
  have J1 : L2.Inv X pins σ (upd H3 h1.objs.size (.dK [(kk, z)])) { s3 with heap := h2 } := d_write (t' := s3.toks) I6 (by rw [h3q]; exact True.intro) sb2 (let ⟨o, _, _, g, _⟩ := d2; ⟨o, g⟩)
    (dk_new (by show 1 ≤ sizeLine; decide) sysq (.cons ⟨rfl, rz⟩ .nil) d2)
  have hp3 : upd H3 h1.objs.size (.dK [(kk, z)]) s.heap.objs.size = some (.dK kvs) := by rw [upd_ne hne]; exact h3p
  have hz : (L2.putK kvs kk z).length ≤ sizeLine := by have := length_putK kvs kk z; omega
  have J2 : L2.Inv X pins σ (upd (upd H3 h1.objs.size (.dK [(kk, z)])) s.heap.objs.size (.dK (L2.putK kvs kk z))) { s3 with heap := h3, toks := tk } := d_write (s := { s3 with heap := h2 }) J1 (by rw [hp3]; exact True.intro) sb3 (let ⟨o, _, _, g, _⟩ := d3; ⟨o, g⟩)
    (dk_new hz sysp (relp.put kk rz) d3)
  exact ⟨.ref s.heap.objs.size, _, J2, rfl, q3⟩
end
end PM
set_option Elab.async false
set_option linter.all false
set_option autoImplicit false
set_option maxHeartbeats 4000000
/-! PMDup2: {**d, k: v} in the machine. -/
namespace PM
open PySem PySem.Spec PyProof.Rows L2
section
variable {W : Wx} {wx : WX} {C : Ctx} {sh : Shp} {k : Nat} {X : Cx}
theorem upd_erase {D : Addr} {H : Hp} {o : HO} : upd (PM.erase D H) D o = upd H D o := by
  funext a
  by_cases e : a = D
  · rw [e, upd_same, upd_same]
  · rw [upd_ne e, upd_ne e, erase_ne e]
theorem erase_none {D a : Addr} {H : Hp} (h : H a = none) : PM.erase D H a = none := by
  unfold PM.erase
  split
  · rfl
  · exact h
theorem e_dup (G : Gb W C sh k X) {a ke v : Expr} {aI kI vI : E} {m : Bool} {pos : Pos} (ha : PE X a (tE W wx C aI)) (hk : PE X ke (tE W wx C kI)) (hv : PE X v (tE W wx C vI)) :
    PE X (.Dict [none, some ke] [a, v] pos) (tE W wx C (.dup m aI kI vI)) :=
  PE_imp (pe_dup ha hk hv) fun σ H Q h => by
    obtain ⟨ρ, S, F, μ, o, Rs, h⟩ := h
    unfold evE at h
    intro p hp
    have E0 := Ext.side (o := HO.dK []) Rs hp
    have R0 : Rl W.toWd F μ (upd H p (.dK [])) S := Rs.side hp
    have pn : p ∉ μ := fun hm => Rs.some_ p hm hp
    refine ⟨ρ, S, F, μ, o.ext Rs E0, R0, ?_⟩
    cases e1 : evE C aI ρ S with
    | bad => rw [e1] at h; exact h.elim
    | ex c v S1 => rw [e1] at h; exact fun F1 μ1 H1 cls d e => h F1 μ1 H1 cls d (E0.trans e)
    | ok x S1 =>
      rw [e1] at h
      replace h : EndR W wx F μ H σ (relD W) (match PM.pairs S1 x with
        | some kvs => if kvs.length < sizeMax then (evE C kI ρ S1).bind fun y S2 => (evE C vI ρ S2).bind fun z S3 => match keyOf y with
          | some q => R.o (mkK m (PM.putK kvs q z) S3)
          | none => .bad
          else .bad
        | none => .bad) Q := h
      intro F1 μ1 H1 xv E1 R1 r1
      obtain ⟨n1, n2, n3⟩ := Ext.sideF Rs.fz Rs.some_ hp E1
      cases ep : PM.pairs S1 x with
      | none => rw [ep] at h; exact h.elim
      | some kvs =>
        rw [ep] at h
        replace h : EndR W wx F μ H σ (relD W) (if kvs.length < sizeMax then (evE C kI ρ S1).bind fun y S2 => (evE C vI ρ S2).bind fun z S3 => match keyOf y with
          | some q => R.o (mkK m (PM.putK kvs q z) S3)
          | none => .bad
          else .bad) Q := h
        split at h
        case isFalse => exact h.elim
        case isTrue hlen =>
        obtain ⟨b, ws, eb, rk, hR, dk⟩ := R1.dk ep r1
        have hbp : b ≠ p := fun e => by
          subst e
          rcases dk with ⟨f, _⟩ | ⟨n, lk, _, z, _⟩
          · exact n1 f
          · exact n2 (List.mem_of_getElem? z)
        have z4 : sizeMax < sizeLine := by decide
        refine ⟨b, ws, eb, hbp, hR, n3, by rw [← rk.len]; omega, fun q hq => ?_⟩
        have hqp : q ≠ p := fun e => by rw [e, upd_same] at hq; cases hq
        have hq1 : H1 q = none := by rw [upd_ne hqp] at hq; exact hq
        -- from H1 without p on
        have Ee : Ext F μ H F1 μ1 (PM.erase p H1) := (E0.trans E1).erase hp
        have Re : Rl W.toWd F1 μ1 (PM.erase p H1) S1 := R1.erase n1 n2
        have Ep : Ext F1 μ1 (PM.erase p H1) F1 μ1 (upd H1 p (.dK ws)) := by
          have z := Ext.side (o := HO.dK ws) Re (erase_same (D := p) (H := H1))
          rw [upd_erase] at z
          exact z
        have Rp : Rl W.toWd F1 μ1 (upd H1 p (.dK ws)) S1 := by
          have z := Re.side (o := HO.dK ws) (erase_same (D := p) (H := H1))
          rw [upd_erase] at z
          exact z
        have Eq := Ext.side (o := HO.dK []) Rp hq
        have Rq : Rl W.toWd F1 μ1 (upd (upd H1 p (.dK ws)) q (.dK [])) S1 := Rp.side hq
        have rkq : RepK W.toWd F1 μ1 (upd (upd H1 p (.dK ws)) q (.dK [])) kvs ws :=
          rk.mv (fun a h => h) (List.prefix_refl _) fun a u f z => by
            rw [upd_ne fun e => by rw [e] at f; exact R1.fz q f hq1, upd_ne (neF n1 f)]; exact z
        have Eall := Ee.trans (Ep.trans Eq)
        refine ⟨ρ, S1, F1, μ1, o.ext Rs Eall, Rq, ?_⟩
        have hS := EndR.shift Eall h
        cases e2 : evE C kI ρ S1 with
        | bad => rw [e2] at h; exact h.elim
        | ex c v S2 => rw [e2] at hS; exact fun F2 μ2 H2 cls d e => hS F2 μ2 H2 cls d e
        | ok y S2 =>
          rw [e2] at h hS
          intro F2 μ2 H2 yv E2 R2 r2
          refine ⟨ρ, S2, F2, μ2, (o.ext Rs Eall).ext Rq E2, R2, ?_⟩
          replace h : EndR W wx F μ H σ (relD W) ((evE C vI ρ S2).bind fun z S3 => match keyOf y with
            | some q => R.o (mkK m (PM.putK kvs q z) S3)
            | none => .bad) Q := h
          have hS2 := EndR.shift (Eall.trans E2) h
          cases e3 : evE C vI ρ S2 with
          | bad => rw [e3] at h; exact h.elim
          | ex c v S3 => rw [e3] at hS2; exact fun F3 μ3 H3 cls d e => hS2 F3 μ3 H3 cls d e
          | ok z S3 =>
            rw [e3] at h
            replace h : EndR W wx F μ H σ (relD W) (match keyOf y with
              | some q => R.o (mkK m (PM.putK kvs q z) S3)
              | none => .bad) Q := h
            intro F3 μ3 H3 zv E3 R3 r3
            cases ek : keyOf y with
            | none => rw [ek] at h; exact h.elim
            | some qk =>
              rw [ek] at h
              obtain ⟨ey, hsm⟩ := keyRep ek r2
              have E23 := E2.trans E3
              have fz1 : ∀ a, F1 a → upd H1 p (.dK ws) a ≠ none := Rp.fz
              obtain ⟨q1, q2, q3⟩ := Ext.sideF Rp.fz Rp.some_ hq E23
              have E1q := Ext.take (o' := HO.dK [(kQ qk, zv)]) hq (fun m => Rp.some_ q m hq) E23 F3 μ3 (fun a => ⟨.inl, fun z => z.elim id fun e => e.1⟩) (fun a h => h) (List.prefix_refl _) fun a h => .inl h
              have eHp : upd H1 p (.dK ws) = upd (PM.erase p H1) p (.dK ws) := upd_erase.symm
              have E1q' : Ext F1 μ1 (upd (PM.erase p H1) p (.dK ws)) F3 μ3 (upd H3 q (.dK [(kQ qk, zv)])) := by rw [← eHp]; exact E1q
              obtain ⟨p1, p2, p3⟩ := Ext.sideF Re.fz Re.some_ (erase_same (D := p) (H := H1)) E1q'
              have p3' : H3 p = some (.dK ws) := by rw [upd_ne (Ne.symm hqp)] at p3; exact p3
              refine ⟨kQ qk, ey, q3, p3', ?_⟩
              have R3q : Rl W.toWd F3 μ3 (upd H3 q (.dK [(kQ qk, zv)])) S3 := R3.sideW q1 q2
              have hsq : ∀ a u, F3 a → H3 a = some u → upd H3 q (.dK [(kQ qk, zv)]) a = some u := fun a u f z => by rw [upd_ne (neF q1 f)]; exact z
              have rkz : RepK W.toWd F3 μ3 (upd H3 q (.dK [(kQ qk, zv)])) (PM.putK kvs qk z) (L2.putK ws (kQ qk) zv) :=
                ((rkq.ext Rq.fz Rq.off E23).put hsm r3).mv (fun a h => h) (List.prefix_refl _) hsq
              have pe : PM.erase p H1 p = none := erase_same
              cases m with
              | false =>
                have Ef := Ext.take (o' := HO.dK (L2.putK ws (kQ qk) zv)) pe n2 E1q' (fun a => F3 a ∨ a = p) μ3 (fun a => ⟨fun z => z.imp id fun e => ⟨.inr e, e⟩, fun z => z.elim .inl fun e => .inr e.2⟩) (fun a h => .inl h) (List.prefix_refl _) fun a h => .inl h
                exact h (fun a => F3 a ∨ a = p) μ3 _ _ (Ee.trans Ef) (R3q.takeF p1 p2) (.dct (.inr rfl) (.inl upd_same) (rkz.mv (fun a h => .inl h) (List.prefix_refl _) fun a u f z => by rw [upd_ne (neF p1 f)]; exact z))
              | true =>
                have rk1 : RepK W.toWd F3 (μ3 ++ [p]) (upd (upd H3 q (.dK [(kQ qk, zv)])) p (.dK (L2.putK ws (kQ qk) zv))) (PM.putK kvs qk z) (L2.putK ws (kQ qk) zv) := rkz.mv (fun a h => h) (List.prefix_append _ _) fun a u f z => by rw [upd_ne (neF p1 f)]; exact z
                have Ef := Ext.take (o' := HO.dK (L2.putK ws (kQ qk) zv)) pe n2 E1q' F3 (μ3 ++ [p]) (fun a => ⟨fun z => .inl z, fun z => z.elim id fun e => e.1⟩) (fun a h => h) (List.prefix_append _ _) fun a h => (List.mem_append.mp h).imp id List.mem_singleton.mp
                exact h F3 (μ3 ++ [p]) _ _ (Ee.trans Ef) (R3q.takeM p1 p2 (.dct (lk := false) upd_same rk1)) (.loc (by rw [← R3q.len, List.getElem?_append_right (Nat.le_refl _), Nat.sub_self]; rfl))
end
end PM
set_option Elab.async false
set_option linter.all false
set_option autoImplicit false
set_option maxHeartbeats 4000000
/-! PMKd: dicts of the module's own: x in D, D[x]. -/
namespace PM
open PySem PySem.Spec PyProof.Rows L2
section
variable {W : Wx} {wx : WX} {C : Ctx} {sh : Shp} {k : Nat} {X : Cx}
theorem gd_some {kvs : List (Key × D)} {p : Addr} {K : PySem.W.Frag} (h : ∀ t : Txt, match getK kvs (.inr t) with
    | some d => ∃ y u, d = .str y ∧ y.length ≤ sizeLine ∧ PySem.W.nsIn K p (tS t) = some (some u) ∧ RelV (.str (tS y)) u
    | none => PySem.W.nsIn K p (tS t) = some none) (t : Txt) : ∃ r, PySem.W.nsIn K p (tS t) = some r ∧ r.isSome = (getK kvs (.inr t)).isSome := by
  have z := h t
  cases e : getK kvs (.inr t) with
  | none => rw [e] at z; exact ⟨none, z, rfl⟩
  | some d => rw [e] at z; obtain ⟨y, u, _, _, q, _⟩ := z; exact ⟨some u, q, rfl⟩
theorem kin_read {neg : Bool} {aI : E} {x : String} {kvs : List (Key × D)} (hg : C.glb x = some (.dct kvs)) {σ : L2.St} {H : Hp} {Q : VK} (h : tE W wx C (.kin neg aI x) σ H Q) :
    tE W wx C aI σ H fun y H1 => ∃ t, y = .str (tS t) ∧ Q (.bl (neg != (getK kvs (.inr t)).isSome)) H1 := by
  obtain ⟨ρ, S, F, μ, o, Rs, h⟩ := h
  unfold evE at h
  rw [hg] at h
  refine ⟨ρ, S, F, μ, o, Rs, (EndR.bind (rel := relD W) h).mono fun v H1 ⟨F1, μ1, d, S1, x1, R1, r1, q⟩ => ?_⟩
  split at q
  · rename_i t
    cases r1
    exact ⟨t, rfl, q.here R1 (.bl _)⟩
  · exact q.elim
theorem kin_bl {neg : Bool} {aI : E} {x : String} {ρ : Env} {S S' : St} {d : D} (h : evE C (.kin neg aI x) ρ S = .ok d S') : ∃ b, d = .bl b := by
  unfold evE at h
  split at h
  · rename_i kvs e
    cases e1 : evE C aI ρ S with
    | bad => rw [e1] at h; cases h
    | ex _ _ _ => rw [e1] at h; cases h
    | ok y S1 =>
      rw [e1] at h
      replace h : (match y with
        | .str t => R.ok (D.bl (neg != (getK kvs (.inr t)).isSome)) S1
        | _ => .bad) = .ok d S' := h
      split at h
      · cases h; exact ⟨_, rfl⟩
      · cases h
  · cases h
/-- x in D, x not in D -/
theorem e_kin (G : Gb W C sh k X) {neg : Bool} {a b : Expr} {aI : E} {x : String} {y : Str} {op : CmpOp} {pos q : Pos} (ho : op = if neg then .NotIn else .In) (hb : b = .Name y q) (hy : y = Str.ofString x) (hg : Gl X y) (hd : (y == ("__debug__" : Str)) = false) (hm : behindInMarks op b = false) (ha : PE X a (tE W wx C aI)) :
    PE X (.Compare a [op] [b] pos) (tE W wx C (.kin neg aI x)) ∧ PT X (.Compare a [op] [b] pos) (tT W wx C (.kin neg aI x)) := by
  by_cases hk : ∃ kvs, C.glb x = some (.dct kvs)
  · obtain ⟨kvs, hk⟩ := hk
    obtain ⟨p, es, n, mgp, kd, hv⟩ := G.st.gd x kvs hk
    have hp : PE X b (tC (.ref p)) := by
      rw [hb]
      exact pe_glob hg (by rw [hy]; exact mgp) rfl hd
    have opr : OpR X (compareOp op) (fun v u H Q => ∃ (z : Str) (r : Option Value), v = .str z ∧ u = .ref p ∧ PySem.W.nsIn X.K p z = some r ∧ Q (.bl (neg != r.isSome)) H) := by
      rw [ho]
      cases neg with
      | false => exact fun pins s σ H v u v' u' Q I rx ry ⟨z, r, e1, e2, e3, q⟩ => op_in_kd kd pins s σ H v u v' u' Q I rx ry ⟨z, r, e1, e2, e3, by rw [Bool.false_bne] at q; exact q⟩
      | true => exact fun pins s σ H v u v' u' Q I rx ry ⟨z, r, e1, e2, e3, q⟩ => op_notIn_kd kd pins s σ H v u v' u' Q I rx ry ⟨z, r, e1, e2, e3, by rw [Bool.true_bne] at q; exact q⟩
    have rd : ∀ {σ : L2.St} {H : Hp} {Q : VK}, tE W wx C (.kin neg aI x) σ H Q → tOp (fun v u H Q => ∃ (z : Str) (r : Option Value), v = .str z ∧ u = .ref p ∧ PySem.W.nsIn X.K p z = some r ∧ Q (.bl (neg != r.isSome)) H) (tE W wx C aI) (tC (.ref p)) σ H Q := fun {σ H Q} h =>
      tR_mono (kin_read hk h) fun v H1 ⟨t, ey, q⟩ => by
        obtain ⟨r, e1, e2⟩ := gd_some hv t
        exact ⟨tS t, r, ey, rfl, e1, by rw [e2]; exact q⟩
    refine ⟨PE_imp (pe_cmpR opr ha hp hm) fun σ H Q h => rd h, PT_imp (pt_cmpR opr ha hp hm) fun σ H Q h => rd ?_⟩
    obtain ⟨ρ, S, F, μ, o', Rs, h⟩ := t_val G.hK h
    exact ⟨ρ, S, F, μ, o', Rs, endR_bl h fun d S' e => kin_bl e⟩
  · have bad : ∀ ρ S, evE C (.kin neg aI x) ρ S = .bad := fun ρ S => by
      unfold evE
      split
      · rename_i kvs e; exact absurd ⟨kvs, e⟩ hk
      · rfl
    refine ⟨⟨fun pins s σ H Q I h => ?_⟩, ⟨fun pins s σ H Q I h => ?_⟩⟩
    · obtain ⟨ρ, S, F, μ, o, R, h⟩ := h
      rw [bad] at h
      exact h.elim
    · obtain ⟨ρ, S, F, μ, o, R, h⟩ := h
      simp only at h
      rw [bad] at h
      exact h.elim
/-- D[x] -/
theorem e_kget (G : Gb W C sh k X) {a b : Expr} {aI : E} {x : String} {y : Str} {pos q : Pos} (hb : b = .Name y q) (hy : y = Str.ofString x) (hg : Gl X y) (hd : (y == ("__debug__" : Str)) = false) (hs : PlainIx a) (ha : PE X a (tE W wx C aI)) :
    PE X (.Subscript b a pos) (tE W wx C (.kget x aI)) := by
  by_cases hk : ∃ kvs, C.glb x = some (.dct kvs)
  · obtain ⟨kvs, hk⟩ := hk
    obtain ⟨p, es, n, mgp, kd, hv⟩ := G.st.gd x kvs hk
    have hp : PE X b (tC (.ref p)) := by
      rw [hb]
      exact pe_glob hg (by rw [hy]; exact mgp) rfl hd
    refine PE_imp (pe_ix ix_kdict hp ha hs) fun σ H Q h => ?_
    obtain ⟨ρ, S, F, μ, o, Rs, h⟩ := h
    unfold evE at h
    rw [hk] at h
    refine ⟨ρ, S, F, μ, o, Rs, (EndR.bind (rel := relD W) h).mono fun v H1 ⟨F1, μ1, d, S1, x1, R1, r1, q⟩ => ?_⟩
    split at q
    · rename_i t
      obtain ⟨d, ed, q⟩ := EndR.of q
      have z := hv t
      rw [ed] at z
      obtain ⟨y', u, rfl, hl, hn, ru⟩ := z
      cases r1
      exact ⟨p, tS t, .str (tS y'), rfl, rfl, ⟨es, n, u, kd.at_, kd.lit, hn, ru⟩, q.here R1 (.str _ hl)⟩
    · exact q.elim
  · refine ⟨fun pins s σ H Q I h => ?_⟩
    obtain ⟨ρ, S, F, μ, o, R, h⟩ := h
    unfold evE at h
    split at h
    · rename_i kvs e; exact absurd ⟨kvs, e⟩ hk
    · exact h.elim
end
end PM
set_option Elab.async false
set_option linter.all false
set_option autoImplicit false
set_option maxRecDepth 100000
set_option maxHeartbeats 4000000
/-! PMErr: an own error as a value: made, asked for its attribute, asked by isinstance (readings of the hand layer alone). -/
namespace PM
open PySem PySem.Spec PyProof.Rows L2
section
variable {X : Cx}
/-- an own error with its one attribute: at a, its dict at dx -/
def errH (H : Hp) (a dx Ca : Addr) (f : Str) (y : V) : Hp := upd (upd H dx (exd dx [(f, y)])) a (exo a Ca (some dx))
/-- C(e), C's own __init__ keeping its one attribute: a new object, a value -/
theorem pe_err {x : Str} {C fI : Addr} {k : Nat} {fd : FuncData} {ps : List Str} {f : Str} {e : Expr} {te : TE} {p pos : Pos} (T : OexC X.K C) (iC : PySem.W.findIn X.K (.ref C) "__init__" = some (some (.ref fI))) (tI : PySem.W.typeIn X.K (.ref fI) = some (.type "function"))
    (F1 : FnOk X.prog X.w X.K X.mg X.base (L2.CX X.prog X.w) k fI fd ps (initSp C f)) (hr : Room (k + 1) X.A) (hb : Binds X.K fd ps []) (hg : Gl X x) (hm : X.mg x = some (.ref C)) (he : PE X e te)
    (hdb : (x == ("__debug__" : Str)) = false := by decide) (hs : starEach [e] X.env = (false, eval e X.env) :: starEach [] X.env := by rfl) :
    PE X (.Call (.Name x p) [e] [] pos) (fun σ H Q => te σ H fun y H1 => ∀ a dx, H1 a = none → H1 dx = none → dx ≠ a → Q (.ref a) (errH H1 a dx C f y)) := by
  refine ⟨fun pn s0 σ H Q I0 h0 => ?_⟩
  obtain ⟨_, _, _, _, bm, _, _, _, _, _, _, _, _, _, _, hC, hbm⟩ := T.cls
  refine wpAny_Call_Name_kw (ld_glob I0 hg hm ?_ hdb)
  refine PySem.W.callWith_K (h₀ := X.base) I0.ok.mod.kin T.kC ?_ hs (by rfl)
  rw [hs]
  show wpAny _ _ (spliced ((false, eval e X.env) :: backTo pos (starEach [] X.env))) _ _ s0
  refine Calls.spliced_cons (thn (he.run pn s0 σ H _ I0 h0) fun u s1 ⟨v, H1, I1, r1, q1⟩ => ?_)
  refine Calls.spliced_nil ⟨I1.kIn, ?_⟩
  show wpAny _ _ (call (.ref C) [u]) _ _ _
  obtain ⟨hp, g, dr, tk, os⟩ := s1
  have hle0 : hp.objs.size ≤ hp.objs.size + 1 := Nat.le_succ _
  have hn : H1 (hp.objs.size + 1) = none := I1.hok.fresh hle0
  have hq : initSp C f [.ref (hp.objs.size + 1), v] (upd H1 (hp.objs.size + 1) (exo (hp.objs.size + 1) C none)) (fun w H2 => w = .non ∧ Q (.ref (hp.objs.size + 1)) H2) (fun _ _ _ => False) := by
    refine ⟨_, v, rfl, upd_same, fun dx hdx ne => ⟨rfl, ?_⟩⟩
    have hdx' : H1 dx = none := by rw [upd_ne ne] at hdx; exact hdx
    have eH : upd (upd (upd H1 (hp.objs.size + 1) (exo (hp.objs.size + 1) C none)) dx (exd dx [(f, v)])) (hp.objs.size + 1) (exo (hp.objs.size + 1) C (some dx)) = errH H1 (hp.objs.size + 1) dx C f v := by
      unfold errH
      funext b
      by_cases h2 : b = hp.objs.size + 1
      · rw [h2, upd_same, upd_same]
      · rw [upd_ne h2, upd_ne h2]
        by_cases h1 : b = dx
        · rw [h1, upd_same, upd_same]
        · rw [upd_ne h1, upd_ne h1, upd_ne h2]
    rw [eH]
    exact q1 _ dx hn hdx' ne
  have kk : ∀ b o, hp.get? b = some o → ((hp.push (PySem.W.kdv_tup [u])).push (PySem.HandSPX.excO C hp.objs.size)).get? b = some o := fun b o e => Heap.get?_push_of_some _ (Heap.get?_push_of_some _ e)
  have hget : ((hp.push (PySem.W.kdv_tup [u])).push (PySem.HandSPX.excO C hp.objs.size)).get? (hp.objs.size + 1) = some (PySem.HandSPX.excO C hp.objs.size) := by heap_get
  have I2 : Inv X pn σ (upd H1 (hp.objs.size + 1) (exo (hp.objs.size + 1) C none)) ⟨(hp.push (PySem.W.kdv_tup [u])).push (PySem.HandSPX.excO C hp.objs.size), g, dr, tk, os⟩ :=
    I1.laid (t' := tk) (a := hp.objs.size + 1) (o := exo (hp.objs.size + 1) C none) (h' := (hp.push (PySem.W.kdv_tup [u])).push (PySem.HandSPX.excO C hp.objs.size)) kk hle0 (exo_ok hget)
  have r2 : Vals [V.ref (hp.objs.size + 1), v] [Value.ref (hp.objs.size + 1), u] := .cons rfl (.cons r1 .nil)
  have hl : [Value.ref (hp.objs.size + 1), u].length = ps.length := by
    have e := r2.length
    rw [F1.len _ _ _ _ hq] at e
    exact e.symm
  refine wpAny_call (PySem.HandSPX.call_own F.excBase_ValueError (fun Y => PySem.HandSPX.refsVE_contains Y bm hbm) (I1.kIn _ _ hC) (PySem.W.looks_findIn I1.kIn iC) (fun self => PySem.W.bind_fn I1.kIn self tI) (by show 1 ≤ sizeLine; rw [sizeLine_eq]; omega)
    (codeAny_mono (F1.run _ X.stack _ _ ⟨[Value.ref (hp.objs.size + 1), u], []⟩ [Value.ref (hp.objs.size + 1), u] _ _ (fun _ _ _ => False) (hr.make C [u] []) (I2.env0.make C [u] []) (hb _ [Value.ref (hp.objs.size + 1), u] I2.kIn hl) r2 hq) fun r s' hq' => ?_))
  cases r with
  | error er => exact passes_F pn σ _ _ er s' I2 hq'
  | ok fl =>
    cases fl with
    | ret u' =>
      obtain ⟨v', H2, I3, rv, ev, q3⟩ := I2.after hq'
      subst ev
      exact ⟨rv, .ref (hp.objs.size + 1), H2, I3, rfl, q3⟩
    | next => exact False.elim hq'
    | brk => exact False.elim hq'
    | cont => exact False.elim hq'
/-- err.f: the one attribute of an own error that is a value -/
def tErrA (K : PySem.W.Frag) (f : Str) (te : TE) : TE := fun σ H Q => te σ H fun x H1 => ∃ (a C dx : Addr) (fs : List (Str × V)) (v : V), x = .ref a ∧ H1 a = some (exo a C (some dx)) ∧ H1 dx = some (exd dx fs) ∧ XfC K C ∧ PySem.W.findIn K (.ref C) f = some none ∧ fs.lookup f = some v ∧ Q v H1
theorem pe_errA {e : Expr} {te : TE} {pos : Pos} {n : Str} (he : PE X e te) (hb : attributeBase e n X.env (eval e X.env) = eval e X.env := by rfl) :
    PE X (.Attribute e n pos) (tErrA X.K n te) := by
  refine ⟨fun pn s0 σ H Q I0 h0 => ?_⟩
  refine attr_of hb (thn (he.run pn s0 σ H _ I0 h0) fun u s1 hh => ?_)
  obtain ⟨x, H1, I1, rx, a, C, dx, fs, v, ex, ha, ed, T, hno, l, q⟩ := hh
  subst ex
  obtain rfl : u = Value.ref a := rx
  obtain ⟨t1, hoe⟩ := exo_at I1.hok ha
  obtain ⟨mA, hns, hr⟩ := exd_at I1.hok ed
  obtain ⟨od, ho, hl⟩ := lookIn_ns hns
  obtain ⟨u, hu, ru⟩ := RelO.some_of (v := v) (o := mA n) (by rw [← l]; exact hr n)
  have J : PySem.W.InstAt s1.heap a _ C (some od) := ⟨hoe, rfl, rfl, ho⟩
  exact HandSPX.exc_get I1.kIn J T.ga T.gg T.exC (PySem.W.findObj_own T.hdC hno rfl (by rw [hl, hu])) (handed_of ru) ⟨v, H1, I1.tok _, ru, q⟩
/-- isinstance(err, c) of an own error that is a value -/
def rErrI (K : PySem.W.Frag) : List V → Hp → VK → Prop := fun xs H Q => ∃ (a C dx : Addr) (fs : List (Str × V)) (c : V) (cv : Value) (b : Bool), xs = [.ref a, c] ∧ H a = some (exo a C (some dx)) ∧ H dx = some (exd dx fs) ∧ ExcC K C ∧ (∀ u, RelV c u → u = cv) ∧ PySem.W.kitOne K (.ref C) cv = some b ∧ Q (.bl b) H
theorem call_errI : CallR X (.builtin "isinstance") (rErrI X.K) := by
  intro pn s σ H xs us Q I r h
  obtain ⟨a, D, dx, fs, c, cv, b, rfl, ha, ed, C, hcv, e, q⟩ := h
  cases r with
  | cons rx rr =>
    cases rr with
    | cons rt rr =>
      cases rr
      cases rx
      have ec := hcv _ rt
      subst ec
      obtain ⟨t1, hoe⟩ := exo_at I.hok ha
      obtain ⟨mA, hns, hr⟩ := exd_at I.hok ed
      obtain ⟨od, ho, hl⟩ := lookIn_ns hns
      have J : PySem.W.InstAt s.heap a _ D (some od) := ⟨hoe, rfl, rfl, ho⟩
      have hcl : (PySem.W.clsIn X.K D).isSome = true := by
        obtain ⟨cd, hc, _⟩ := PySem.W.any_some C.hd
        rw [hc]; rfl
      exact PySem.W.kia_one (PySem.W.kitx_exc hcl C.hg C.hk C.hs C.ha C.hn C.ht C.hm) I.kIn J e (fun z => nomatch z) fun tk => ⟨.bl b, H, I.kept (t' := tk) fun _ _ z => z, rfl, q⟩
end
end PM
set_option Elab.async false
set_option linter.all false
set_option autoImplicit false
set_option maxRecDepth 100000
set_option maxHeartbeats 4000000
/-! PMErrK: an own error made by the name of its argument. -/
namespace PM
open PySem PySem.Spec PySem.Calls PyProof.Rows PySem.HandSPX L2
section
variable {prog : Program} {w : World} {A : Around} {E : Value → Shared → Prop} {R : Result → Shared → Prop} {h : Heap} {g : Array GenState} {d : Drawn} {t : Nat} {os : OsState}
variable {nm q : Str} {C N : Addr} {bs bm bmB : List Value} {hdct : Bool} {sn : List Str} {sub : List Value} {ab : Bool} {col : Option Bool} {dd : Option Addr} {k0 k1 k2 k3 k5 : Option Value} {B newId initId : String}
variable (F : ExcBaseFacts B newId initId bmB) (hT : ∀ X : String, bm.contains (.type X) = bmB.contains (.type X)) {kw : List (Str × Value)}
include F hT
theorem chk_newK {M : Model} {Q : Unit → Shared → Prop} (hC : h.get? C = some (excClassObj nm q C N bs bm hdct sn sub ab col dd k0 k1 k2 k3 k5 newId)) (hq : Q () ⟨h, g, d, t, os⟩) : wpAny M A (checkBuiltinCall newId ⟨[.ref C], kw⟩) Q E ⟨h, g, d, t, os⟩ := by
  have hB : (Value.ref C :: bm).contains (.type B) = true := by rw [List.contains_cons, hT, F.hasB, Bool.or_true]
  have := F.noStar
  simp only [checkBuiltinCall, F.newKind, F.newSplit, F.newRow]
  repeat (first | refine wpAny_loadPart_at hC ?_ | (refine wpAny_isSubtype_exc hC ?_; rw [hB]) | refine wpAny_staticBase_exc hC ?_ | refine wpAny_madeBy_exc hC ?_ | simp only [bne_self_eq_false, Bool.false_eq_true, if_false] | wp_step)
  exact hq
theorem newK (hC : h.get? C = some (excClassObj nm q C N bs bm hdct sn sub ab col dd k0 k1 k2 k3 k5 newId))
    (hq : R (.ok (.ret (.ref (h.objs.size + 1)))) ⟨(h.push (W.kdv_tup [])).push (excO C h.objs.size), g, d, t, os⟩) :
    codeAny (model prog w) A (.builtin newId ⟨[.ref C], kw⟩) R ⟨h, g, d, t, os⟩ := by
  have e0 := F.ends
  have eB : (Value.ref C :: bm).contains (.type B) = true := by rw [List.contains_cons, hT, F.hasB, Bool.or_true]
  have eA : (Value.ref C :: bm).contains (.type "AttributeError") = false := by rw [List.contains_cons, hT, F.noAttr]; rfl
  have eN : (Value.ref C :: bm).contains (.type "NameError") = false := by rw [List.contains_cons, hT, F.noName]; rfl
  refine codeAny_builtinAt F.entry ?_
  unfold Builtin.«BaseException.__new__»
  refine PySem.wpAt_bind ?_
  show PySem.wpAt _ _ _ (stack >>= _) _ _ _
  refine PySem.wpAt_bind (PySem.wpAt_stack fun _ _ => PySem.wpAt_of_wpAny ?_)
  wp_walk
  refine PySem.wpAt_of_wpAny ?_
  rw [F.owner]
  repeat (first | with_reducible refine wpAny_madeHere_exc F.canon hC ?_ | with_reducible refine wpAny_loadPart_at hC ?_ | (with_reducible refine wpAny_isSubtype_exc hC ?_; first | rw [eB] | rw [eA] | rw [eN]) | wp_step)
  show R _ _
  rw [Heap.size_push]
  exact hq
theorem chk_tcK {M : Model} {Q : Unit → Shared → Prop} (hC : h.get? C = some (excClassObj nm q C N bs bm hdct sn sub ab col dd k0 k1 k2 k3 k5 newId)) (hq : Q () ⟨h, g, d, t, os⟩) : wpAny M A (checkBuiltinCall "type.__call__" ⟨[.ref C], kw⟩) Q E ⟨h, g, d, t, os⟩ := by
  have := PySem.tc_sub
  have : (⟨h, g, d, t, os⟩ : Shared).TypeIs (.ref C) "type" := ⟨_, hC, rfl⟩
  simp only [checkBuiltinCall, tc_kind, tc_split]
  repeat (any_goals (first | assumption | with_reducible refine wpAny_loadPart_at hC ?_ | with_reducible refine wpAny_onRaise ?_ | with_reducible refine wpAny_map ?_ | wp_step))
theorem tcallK {fI : Addr} {Q : Fin → Shared → Prop} (hC : h.get? C = some (excClassObj nm q C N bs bm hdct sn sub ab col dd k0 k1 k2 k3 k5 newId))
    (hi : W.Looks (model prog w) h (typeLookup (.ref C) "__init__") (some (.ref fI))) (hb : ∀ self, W.Looks (model prog w) h (bindSpecial (.ref fI) self) (.ref fI, [self]))
    (hq : codeAny (model prog w) A (.call (.ref fI) ⟨[.ref (h.objs.size + 1)], kw⟩)
      (fun r s' => match r with | .ok (.ret v) => v = .none ∧ Q (.done (.ret (.ref (h.objs.size + 1)))) s' | .ok _ => False | .error e => E e s') ⟨(h.push (W.kdv_tup [])).push (excO C h.objs.size), g, d, t, os⟩) :
    wpAny (model prog w) A (Builtin.«type.__call__» ⟨[.ref C], kw⟩) Q E ⟨h, g, d, t, os⟩ := by
  repeat (first | with_reducible refine wpAny_loadPart_at hC ?_ | with_reducible refine wpAny_madeBy_exc hC ?_ | wp_step)
  refine codeAny_call_builtin_code (Code.quiet_builtin _ F.quiet) (chk_newK F hT hC ?_)
  refine newK F hT hC ?_
  show wpAny _ _ _ _ _ _
  have kp : ∀ b o, h.get? b = some o → ((h.push (W.kdv_tup [])).push (excO C h.objs.size)).get? b = some o := fun b o e => Heap.get?_push_of_some _ (Heap.get?_push_of_some _ e)
  have hC1 := kp _ _ hC
  have hx : ((h.push (W.kdv_tup [])).push (excO C h.objs.size)).get? (h.objs.size + 1) = some (excO C h.objs.size) := by heap_get
  have hCC : (Value.ref C :: bm).contains (.ref C) = true := by simp
  have ii := hi.keeps kp
  have bb := (hb (.ref (h.objs.size + 1))).keeps kp
  unfold isInstance
  repeat (first | with_reducible refine wpAny_loadPart_at hx ?_ | (with_reducible refine wpAny_isSubtype_exc hC1 ?_; rw [hCC]) | wp_step)
  show wpAny _ _ (typeLookup (.ref C) _) _ _ _
  refine ii.at ?_
  refine wpAny_holding (wpAny_bind (bb.at ?_))
  refine wpAny_bind (wpAny_call (codeAny_mono hq fun r s' z => ?_))
  rcases r with e | (v | _ | _ | _) <;> first | exact z | exact z.elim | skip
  obtain ⟨rfl, z⟩ := z
  first
    | exact wpAny_pure (wpAny_pure z)
    | (wp_walk; exact z)
theorem callK {fI : Addr} (hC : h.get? C = some (excClassObj nm q C N bs bm hdct sn sub ab col dd k0 k1 k2 k3 k5 newId))
    (hi : W.Looks (model prog w) h (typeLookup (.ref C) "__init__") (some (.ref fI))) (hb : ∀ self, W.Looks (model prog w) h (bindSpecial (.ref fI) self) (.ref fI, [self]))
    (hq : codeAny (model prog w) (A.under (.builtin "type.__call__" ⟨[.ref C], kw⟩)) (.call (.ref fI) ⟨[.ref (h.objs.size + 1)], kw⟩) (W.InitBack (h.objs.size + 1) R) ⟨(h.push (W.kdv_tup [])).push (excO C h.objs.size), g, d, t, os⟩) :
    codeAny (model prog w) A (.call (.ref C) ⟨[], kw⟩) R ⟨h, g, d, t, os⟩ := by
  have := tc_lookup
  have := tc_bind (.ref C)
  have : (⟨h, g, d, t, os⟩ : Shared).TypeIs (.ref C) "type" := ⟨_, hC, rfl⟩
  refine codeAny_of_tree ?_
  show wpAny _ _ (callAny (.ref C) _) _ _ _
  repeat (any_goals (first | assumption | with_reducible refine wpAny_loadPart_at hC ?_ | wp_step))
  refine ⟨rfl, ?_⟩
  refine codeAny_call_builtin_at (Code.quiet_builtin _ (by decide +kernel)) entry_typeCall (chk_tcK F hT hC (tcallK F hT hC hi hb ?_))
  refine codeAny_mono hq fun r s' z => ?_
  rcases r with e | (v | _ | _ | _) <;> exact z
end
section
variable {X : Cx}
/-- C(f = e), C's own __init__ keeping its one attribute: a new object, a value -/
theorem pe_errK {x : Str} {C fI : Addr} {k : Nat} {fd : FuncData} {ps ks : List Str} {f : Str} {p pos : Pos} {kws : List Keyword} {tk : TA} {gf : List Value → List Value → List Value} {gV : List V → List V → List V} (T : OexC X.K C) (iC : PySem.W.findIn X.K (.ref C) "__init__" = some (some (.ref fI))) (tI : PySem.W.typeIn X.K (.ref fI) = some (.type "function"))
    (F1 : FnOk X.prog X.w X.K X.mg X.base (L2.CX X.prog X.w) k fI fd ps (initSp C f)) (hr : Room (k + 1) X.A) (hb : KBn X.K fd ps 1 ks gf gV) (hg : Gl X x) (hm : X.mg x = some (.ref C)) (hkw : PK X kws tk)
    (hall : (backToKw pos (keywordEach kws X.env)).all (·.1.isSome) = true := by rfl) (hks : (backToKw pos (keywordEach kws X.env)).filterMap (·.1) = ks := by rfl) (hdb : (x == ("__debug__" : Str)) = false := by decide)
    (hpl : ((backTo pos (starEach [] X.env)).any (·.1) || (backToKw pos (keywordEach kws X.env)).any (·.1.isNone)) = false := by rfl) :
    PE X (.Call (.Name x p) [] kws pos) (fun σ H Q => tk σ H fun zs H1 => zs.length = ks.length ∧ ∃ y, (∀ a, gV [.ref a] zs = [.ref a, y]) ∧ ∀ a dx, H1 a = none → H1 dx = none → dx ≠ a → Q (.ref a) (errH H1 a dx C f y)) := by
  refine ⟨fun pn s0 σ H Q I0 h0 => ?_⟩
  obtain ⟨_, _, _, _, bm, _, _, _, _, _, _, _, _, _, _, hC, hbm⟩ := T.cls
  refine wpAny_Call_Name_kw (ld_glob I0 hg hm ?_ hdb)
  refine PySem.W.callWith_KW0 (h₀ := X.base) I0.ok.mod.kin T.kC hall ?_ hpl
  refine thn (hkw.run pos pn s0 σ H _ I0 h0) fun ws s1 ⟨zs, H1, I1, rz, l2, y, hy, q1⟩ => ⟨I1.kIn, ?_⟩
  rw [hks]
  show wpAny _ _ (call (.ref C) [] (ks.zip ws)) _ _ _
  obtain ⟨hp, g, dr, tk, os⟩ := s1
  have le0 : hp.objs.size ≤ hp.objs.size + 1 := Nat.le_succ _
  have fr0 : H1 (hp.objs.size + 1) = none := I1.hok.fresh le0
  have hq : initSp C f (gV [.ref (hp.objs.size + 1)] zs) (upd H1 (hp.objs.size + 1) (exo (hp.objs.size + 1) C none)) (fun w H2 => w = .non ∧ Q (.ref (hp.objs.size + 1)) H2) (fun _ _ _ => False) := by
    rw [hy]
    refine ⟨_, y, rfl, upd_same, fun dx hdx ne => ⟨rfl, ?_⟩⟩
    have hdx' : H1 dx = none := by rw [upd_ne ne] at hdx; exact hdx
    have eH : upd (upd (upd H1 (hp.objs.size + 1) (exo (hp.objs.size + 1) C none)) dx (exd dx [(f, y)])) (hp.objs.size + 1) (exo (hp.objs.size + 1) C (some dx)) = errH H1 (hp.objs.size + 1) dx C f y := by
      unfold errH
      funext b
      by_cases h2 : b = hp.objs.size + 1
      · rw [h2, upd_same, upd_same]
      · rw [upd_ne h2, upd_ne h2]
        by_cases h1 : b = dx
        · rw [h1, upd_same, upd_same]
        · rw [upd_ne h1, upd_ne h1, upd_ne h2]
    rw [eH]
    exact q1 _ dx fr0 hdx' ne
  have kk : ∀ b o, hp.get? b = some o → ((hp.push (PySem.W.kdv_tup [])).push (PySem.HandSPX.excO C hp.objs.size)).get? b = some o := fun b o e => Heap.get?_push_of_some _ (Heap.get?_push_of_some _ e)
  have hget : ((hp.push (PySem.W.kdv_tup [])).push (PySem.HandSPX.excO C hp.objs.size)).get? (hp.objs.size + 1) = some (PySem.HandSPX.excO C hp.objs.size) := by heap_get
  have I2 : Inv X pn σ (upd H1 (hp.objs.size + 1) (exo (hp.objs.size + 1) C none)) ⟨(hp.push (PySem.W.kdv_tup [])).push (PySem.HandSPX.excO C hp.objs.size), g, dr, tk, os⟩ :=
    I1.laid (t' := tk) (a := hp.objs.size + 1) (o := exo (hp.objs.size + 1) C none) (h' := (hp.push (PySem.W.kdv_tup [])).push (PySem.HandSPX.excO C hp.objs.size)) kk le0 (exo_ok hget)
  have ra : Vals [V.ref (hp.objs.size + 1)] [Value.ref (hp.objs.size + 1)] := .cons rfl .nil
  have r2 := hb.rel ra rz
  refine wpAny_call (callK F.excBase_ValueError (fun Y => PySem.HandSPX.refsVE_contains Y bm hbm) (I1.kIn _ _ hC) (PySem.W.looks_findIn I1.kIn iC) (fun self => PySem.W.bind_fn I1.kIn self tI)
    (codeAny_mono (F1.run _ X.stack _ _ ⟨[Value.ref (hp.objs.size + 1)], ks.zip ws⟩ (gf [Value.ref (hp.objs.size + 1)] ws) _ _ (fun _ _ _ => False) (hr.make C [] (ks.zip ws)) (I2.env0.make C [] (ks.zip ws))
      (hb.to _ [Value.ref (hp.objs.size + 1)] ws I2.kIn rfl (rz.length.symm.trans l2)) r2 hq) fun r s' hq' => ?_))
  cases r with
  | error er => exact passes_F pn σ _ _ er s' I2 hq'
  | ok fl =>
    cases fl with
    | ret u' =>
      obtain ⟨v', H2, I3, rv, ev, q3⟩ := I2.after hq'
      subst ev
      exact ⟨rv, .ref (hp.objs.size + 1), H2, I3, rfl, q3⟩
    | next => exact False.elim hq'
    | brk => exact False.elim hq'
    | cont => exact False.elim hq'
end
end PM
set_option Elab.async false
set_option linter.all false
set_option autoImplicit false
set_option maxRecDepth 100000
set_option maxHeartbeats 4000000
/-! PMErr2: own errors as values: made, asked for their kind. -/
namespace PM
open PySem PySem.Spec PyProof.Rows L2
section
variable {W : Wx} {wx : WX} {C : Ctx} {sh : Shp} {k : Nat} {X : Cx}
/-- behind the making -/
theorem err_end {c : String} {Ca : Addr} {f : Str} {F : Addr → Prop} {μ : List Addr} {H : Hp} {S : St} {σ : L2.St} {x : D} {v : V} {Q : VK} (hc : W.xc c = some (Ca, f)) (Rs : Rl W.toWd F μ H S) (r : Rep W.toWd F μ H x v)
    (q : EndR W wx F μ H σ (relD W) (if (C.xat c).isSome then R.ok (D.err c x) S else .bad) Q) {a dx : Addr} (ha : H a = none) (hdx : H dx = none) (ne : dx ≠ a) : Q (.ref a) (errH H a dx Ca f v) := by
  split at q
  case isFalse => exact q.elim
  case isTrue =>
  have E1 := Ext.laid (o := exd dx [(f, v)]) Rs hdx
  have R1 := Rl.laid (o := exd dx [(f, v)]) Rs hdx
  have ha1 : upd H dx (exd dx [(f, v)]) a = none := by rw [upd_ne (Ne.symm ne)]; exact ha
  have E2 := Ext.laid (o := exo a Ca (some dx)) R1 ha1
  have R2 := Rl.laid (o := exo a Ca (some dx)) R1 ha1
  refine EndR.here (rel := relD W) (a := D.err c x) (EndR.shift (E1.trans E2) q) R2 (.err hc (.inr rfl) (.inl (.inr rfl)) (by rw [upd_same]) (by rw [upd_ne ne, upd_same]) (R1.ext E2 (Rs.ext E1 r)))
/-- C(e) -/
theorem e_mkx (G : Gd W C sh k X) {c : String} {Ca : Addr} {f : Str} {x : Str} {e : Expr} {i : E} {p pos : Pos} (hx : x = Str.ofString c) (hg : Gl X x) (hd : (x == ("__debug__" : Str)) = false) (hc : W.xc c = some (Ca, f)) (ns : isSt e = false) (he : PE X e (tE W wx C i)) :
    PE X (.Call (.Name x p) [e] [] pos) (tE W wx C (.mkx c i)) := by
  obtain ⟨fI, fd, ps, hm, T, iC, tI, F1, hb, _⟩ := G.st.xr c Ca f hc
  refine PE_imp (pe_err T iC tI F1 G.room.room hb hg (by rw [hx]; exact hm) he hd (starEach_ns ns)) fun σ H Q h => ?_
  obtain ⟨ρ, S, F, μ, o, Rs, h⟩ := h
  unfold evE at h
  exact ⟨ρ, S, F, μ, o, Rs, (EndR.bind (rel := relD W) h).mono fun v H1 ⟨F1, μ1, x, S1, x1, R1, r1, q⟩ a dx ha hdx ne => err_end hc R1 r1 q ha hdx ne⟩
/-- C(f = e) -/
theorem e_mkxK (G : Gd W C sh k X) {c : String} {Ca : Addr} {f : Str} {x : Str} {e : Expr} {i : E} {p pos kp : Pos} (hx : x = Str.ofString c) (hg : Gl X x) (hd : (x == ("__debug__" : Str)) = false) (hc : W.xc c = some (Ca, f)) (he : PE X e (tE W wx C i)) :
    PE X (.Call (.Name x p) [] [⟨some f, e, kp⟩] pos) (tE W wx C (.mkx c i)) := by
  obtain ⟨fI, fd, ps, hm, T, iC, tI, F1, hb, gf, gV, kb, hgV⟩ := G.st.xr c Ca f hc
  refine PE_imp (pe_errK T iC tI F1 G.room.room kb hg (by rw [hx]; exact hm) (pk_cons he pk_nil) rfl rfl hd) fun σ H Q h => ?_
  obtain ⟨ρ, S, F, μ, o, Rs, h⟩ := h
  unfold evE at h
  exact ⟨ρ, S, F, μ, o, Rs, (EndR.bind (rel := relD W) h).mono fun v H1 ⟨F1, μ1, x, S1, x1, R1, r1, q⟩ => ⟨rfl, v, fun a => hgV _ _, fun a dx ha hdx ne => err_end hc R1 r1 q ha hdx ne⟩⟩
/-- isinstance(error, class) -/
theorem e_isx (G : Gb W C sh k X) {u : Value} {ct : V} {a te : Expr} {aI : E} {x : String} {yes : List String} {p pos : Pos} (hg : Gl X "isinstance") (hc : ClsV ct u) (hu : ∀ c Ca f, W.xc c = some (Ca, f) → PySem.W.kitOne X.K (.ref Ca) u = some (yes.contains c)) (ns : isSt a = false) (ha : PE X a (tE W wx C aI)) (ht : PE X te (tC ct)) (nst : isSt te = false) :
    PE X (.Call (.Name "isinstance" p) [a, te] [] pos) (tE W wx C (.isx aI x yes)) := by
  have st : starEach [te] X.env = (false, eval te X.env) :: starEach [] X.env := starEach_ns nst
  refine PE_imp (pe_callB (call_errI (X := X)) hg (G.st.bl _ (by decide)) (by decide +kernel) (pa_cons ha (pa_cons ht pa_nil st) (starEach_ns ns)) (he := starEach_ns ns) (hpl := by rw [st]; rfl)) fun σ H Q h => ?_
  obtain ⟨ρ, S, F, μ, o, Rs, h⟩ := h
  unfold evE at h
  refine ⟨ρ, S, F, μ, o, Rs, (EndR.bind (rel := relD W) h).mono fun v H1 ⟨F1, μ1, x, S1, x1, R1, r1, q⟩ => ?_⟩
  cases r1 with
  | err hc0 f0 g0 q1 z1 ry =>
    exact ⟨_, _, _, _, ct, u, _, rfl, q1, z1, (G.st.xe _ _ _ hc0).1, fun w r => hc.eq r, hu _ _ _ hc0, EndR.here (rel := relD W) (a := D.bl _) q R1 (.bl _)⟩
  | _ => exact q.elim
end
end PM
set_option Elab.async false
set_option linter.all false
set_option autoImplicit false
set_option maxHeartbeats 4000000
/-! PMChk: a checker: does a syntax tree say what the machine's syntax says? -/
namespace PM
open PySem PySem.Spec PyProof.Rows L2
/-- what is known of a def and its program -/
structure CK where
  N : List Str
  sh : Shp
  cls : List String
  xcs : List String
  xats : List String
  /-- what errors are asked for: a class, the own errors that are of it -/
  xis : List (String × List String)
  /-- own errors, their arguments' names -/
  xas : List (String × String)
/-- the block: its names, which names it may store into besides its locals, a whole body, an error is held -/
structure Sx where
  sc : Scope
  fnB : Str → Bool
  full : Bool
  cur : Bool
structure KX (c : CK) (s : Sx) (W : Wx) (wx : WX) (C : Ctx) (k : Nat) (X : Cx) : Prop where
  gb : Gb W C c.sh k X
  gd : s.full = true → Gd W C c.sh k X
  tk : Takes X wx
  hN : X.N = c.N
  hs : X.env.scope = s.sc
  fn : ∀ x, s.fnB x = true → X.fn x = true
  cls : ∀ n ∈ c.cls, ∃ Ca, W.cl n = some Ca ∧ X.mg (Str.ofString n) = some (.ref Ca)
  rep : ∀ x, tS (C.rep x) = (pyR x).shown
  xcs : ∀ n ∈ c.xcs, ∃ Ca f, W.xc n = some (Ca, f) ∧ X.mg (Str.ofString n) = some (.ref Ca)
  xm : ∀ n Ca f n0 C0 f0, W.xc n = some (Ca, f) → W.xc n0 = some (C0, f0) → PySem.W.exmOne X.K (.ref Ca) (.ref C0) = some (n == n0)
  xf : ∀ f ∈ c.xats, XfOk W C X.K f
  xi : ∀ p ∈ c.xis, ∃ (ct : V) (u : Value), ClsV ct u ∧ (∀ n Ca f, W.xc n = some (Ca, f) → PySem.W.kitOne X.K (.ref Ca) u = some (p.2.contains n)) ∧
    ((∃ Cb, X.mg (Str.ofString p.1) = some u ∧ ct = .ref Cb ∧ u = .ref Cb) ∨ (p.1 = "ValueError" ∧ X.mg (Str.ofString "ValueError") = none ∧ ct = .ty "ValueError" ∧ u = .type "ValueError"))
  xa : ∀ p ∈ c.xas, ∃ Ca, W.xc p.1 = some (Ca, Str.ofString p.2)
  xv : s.cur = true → ∀ (i : Nat) (x n : Str) (f : String) (p pos : Pos), c.N[i]? = some x → Vis s.sc x → (x == ("__debug__" : Str)) = false → (x == ("__classdict__" : Str)) = false → n = Str.ofString f → f ∈ c.xats → PE X (.Attribute (.Name x p) n pos) (tE W wx C (.xval i f))
/-- e does what i says -/
def Good (c : CK) (s : Sx) (e : Expr) (i : E) : Prop := ∀ {W : Wx} {wx : WX} {C : Ctx} {k : Nat} {X : Cx}, KX c s W wx C k X → PE X e (tE W wx C i) ∧ PT X e (tT W wx C i)

/-! ### small looks -/
def ckVis (sc : Scope) (x : Str) : Bool := match sc.names.lookup x with
  | some .local | some .cell | some .free => true
  | _ => false
def ckGl (sc : Scope) (x : Str) : Bool := match sc.names.lookup x with
  | some .globalImplicit => true
  | _ => false
def okNm (x : Str) : Bool := !(x == ("__debug__" : Str)) && !(x == ("__classdict__" : Str))
def atN (N : List Str) (i : Nat) (x : Str) : Bool := match N[i]? with
  | some y => decide (y = x)
  | none => false
def isS (x : Str) (f : String) : Bool := decide (x = Str.ofString f)
theorem ckVis_ok {sc : Scope} {x : Str} (h : ckVis sc x = true) : Vis sc x := by
  unfold ckVis at h
  split at h
  · rename_i e; exact .inl e
  · rename_i e; exact .inr (.inl e)
  · rename_i e; exact .inr (.inr e)
  · cases h
theorem ckGl_ok {c : CK} {s : Sx} {W : Wx} {wx : WX} {C : Ctx} {k : Nat} {X : Cx} {x : Str} (K : KX c s W wx C k X) (h : ckGl s.sc x = true) : Gl X x := by
  unfold ckGl at h
  split at h
  · rename_i e
    show X.env.scope.names.lookup x = _
    rw [K.hs]; exact e
  · cases h
theorem okNm_ok {x : Str} (h : okNm x = true) : (x == ("__debug__" : Str)) = false ∧ (x == ("__classdict__" : Str)) = false := by
  unfold okNm at h
  simpa using h
theorem atN_ok {N : List Str} {i : Nat} {x : Str} (h : atN N i x = true) : N[i]? = some x := by
  unfold atN at h
  split at h
  · rename_i e; rw [e, of_decide_eq_true h]
  · cases h
theorem isS_ok {x : Str} {f : String} (h : isS x f = true) : x = Str.ofString f := of_decide_eq_true h
theorem an {a b : Bool} (h : (a && b) = true) : a = true ∧ b = true := Bool.and_eq_true_iff.mp h
theorem nt {a : Bool} (h : (!a) = true) : a = false := by simpa using h

/-- a value by truth, for all but not, and, or, if-else, comparisons -/
def plT : Expr → Bool
  | .UnaryOp .Not _ _ | .BoolOp .. | .IfExp .. | .Compare .. => false
  | _ => true
theorem good_of {c : CK} {s : Sx} {e : Expr} {i : E} (hp : plT e = true) (h : ∀ {W : Wx} {wx : WX} {C : Ctx} {k : Nat} {X : Cx}, KX c s W wx C k X → PE X e (tE W wx C i)) : Good c s e i := fun K =>
  ⟨h K, t_truth K.gb (h K) (by
    cases e with
    | UnaryOp op x p => cases op <;> first | (intro _; rfl) | cases hp
    | BoolOp _ _ _ => cases hp
    | IfExp _ _ _ _ => cases hp
    | Compare _ _ _ _ => cases hp
    | _ => intro _; rfl)⟩

def ckCst : D → Expr → Bool
  | .non, .Constant .none _ _ => true
  | .bl b, .Constant (.bool b') _ _ => b == b'
  | .int i, .Constant (.int j) _ _ => decide (i = j)
  | .str x, .Constant (.str y) _ _ => decide (y = tS x) && decide (x.length ≤ sizeLine)
  | _, _ => false
theorem g_cst {c : CK} {s : Sx} {e : Expr} {d : D} (h : ckCst d e = true) : Good c s e (.cst d) := by
  unfold ckCst at h
  split at h
  · exact good_of rfl fun K => e_cst pe_non fun _ _ _ => .non
  · rw [beq_iff_eq.mp h]; exact good_of rfl fun K => e_cst pe_bl fun _ _ _ => .bl _
  · rw [of_decide_eq_true h]; exact good_of rfl fun K => e_cst pe_int fun _ _ _ => .int _
  · obtain ⟨h1, h2⟩ := an h
    rw [of_decide_eq_true h1]; exact good_of rfl fun K => e_cst pe_str fun _ _ _ => .str _ (of_decide_eq_true h2)
  · cases h
theorem g_var {c : CK} {s : Sx} {i : Nat} {x : Str} {p : Pos} (h1 : atN c.N i x = true) (h2 : ckVis s.sc x = true) (h3 : okNm x = true) : Good c s (.Name x p) (.var i) :=
  good_of rfl fun K => e_var (by rw [K.hN]; exact atN_ok h1) (by rw [K.hs]; exact ckVis_ok h2) (okNm_ok h3).1 (okNm_ok h3).2
theorem g_xval {c : CK} {s : Sx} {i : Nat} {f : String} {x n : Str} {p q : Pos} (h0 : s.cur = true) (h1 : atN c.N i x = true) (h2 : ckVis s.sc x = true) (h3 : okNm x = true) (h4 : isS n f = true) (h5 : c.xats.contains f = true) : Good c s (.Attribute (.Name x p) n q) (.xval i f) :=
  good_of rfl fun K => K.xv h0 i x n f p q (atN_ok h1) (ckVis_ok h2) (okNm_ok h3).1 (okNm_ok h3).2 (isS_ok h4) (by simpa using h5)
theorem g_glb {c : CK} {s : Sx} {g : String} {x : Str} {p : Pos} (h1 : isS x g = true) (h2 : ckGl s.sc x = true) (h3 : okNm x = true) : Good c s (.Name x p) (.glb g) :=
  good_of rfl fun {W wx C k X} K => by
    cases e : noDct (C.glb g) with
    | none =>
      refine ⟨fun pins s σ H Q I h => ?_⟩
      obtain ⟨ρ, S, F, μ, o, R, h⟩ := h
      unfold evE at h
      rw [e] at h
      exact h.elim
    | some d =>
      obtain ⟨v, u, hm, r, rr⟩ := K.gb.st.gl g d e
      exact e_glb (y := x) (pe_glob (ckGl_ok K h2) (by rw [isS_ok h1]; exact hm) r (okNm_ok h3).1) e rr
def binOk : O2 → Operator → Bool
  | .add, .Add | .sub, .Sub | .mul, .Mult | .fdiv, .FloorDiv | .mod, .Mod | .pow, .Pow => true
  | _, _ => false
theorem bin_ok {c : CK} {s : Sx} {W : Wx} {wx : WX} {C : Ctx} {k : Nat} {X : Cx} {o : O2} {op : Operator} {m : Bool} (K : KX c s W wx C k X) (h : binOk o op = true) : OpR X (binaryOp op) (rO W.toWd o m) := by
  unfold binOk at h
  split at h
  · exact ok_add K.gb.hK
  · exact ok_sub
  · exact ok_mul K.gb.hK
  · exact ok_fdiv
  · exact ok_mod
  · exact ok_pow
  · cases h
def cmpOk : O2 → CmpOp → Bool
  | .eq, .Eq | .ne, .NotEq | .lt, .Lt | .le, .LtE | .gt, .Gt | .ge, .GtE | .isin, .In | .nin, .NotIn | .is_, .Is | .isnt, .IsNot => true
  | _, _ => false
theorem cmp_ok {c : CK} {s : Sx} {W : Wx} {wx : WX} {C : Ctx} {k : Nat} {X : Cx} {o : O2} {op : CmpOp} {m : Bool} (K : KX c s W wx C k X) (h : cmpOk o op = true) : OpR X (compareOp op) (rO W.toWd o m) := by
  unfold cmpOk at h
  split at h
  · exact ok_eq K.gb.hK K.gb.hu
  · exact ok_ne K.gb.hK K.gb.hu
  · exact ok_lt K.gb.hK K.gb.hu
  · exact ok_le
  · exact ok_gt
  · exact ok_ge
  · exact ok_isin K.gb.hK K.gb.hu
  · exact ok_nin K.gb.hK K.gb.hu
  · exact ok_is
  · exact ok_isnt
  · cases h
theorem cmp_isC {o : O2} {op : CmpOp} (h : cmpOk o op = true) : o.isC = true := by
  unfold cmpOk at h
  split at h <;> first | rfl | cases h
theorem g_bin {c : CK} {s : Sx} {o : O2} {op : Operator} {m : Bool} {a b : E} {l r : Expr} {p : Pos} (h : binOk o op = true) (ha : Good c s l a) (hb : Good c s r b) : Good c s (.BinOp l op r p) (.op o m a b) :=
  good_of rfl fun K => PE_imp (pe_op (bin_ok K h) (ha K).1 (hb K).1) fun σ H Q q => e_op q
theorem g_cmp {c : CK} {s : Sx} {o : O2} {op : CmpOp} {m : Bool} {a b : E} {l r : Expr} {p : Pos} (h : cmpOk o op = true) (hm : behindInMarks op r = false) (ha : Good c s l a) (hb : Good c s r b) : Good c s (.Compare l [op] [r] p) (.op o m a b) := fun K =>
  ⟨PE_imp (pe_cmpR (cmp_ok K h) (ha K).1 (hb K).1 hm) fun σ H Q q => e_op q, t_op K.gb (cmp_ok K h) (cmp_isC h) hm (ha K).1 (hb K).1⟩
theorem g_own {c : CK} {s : Sx} {a b : E} {l r : Expr} {p : Pos} (hf : s.full = true) (hm : behindInMarks .Eq r = false) (ha : Good c s l a) (hb : Good c s r b) : Good c s (.Compare l [.Eq] [r] p) (.own false a b) := fun K =>
  ⟨e_own (K.gd hf) K.tk hm (ha K).1 (hb K).1, t_own (K.gd hf) K.tk hm (ha K).1 (hb K).1⟩
theorem g_chn {c : CK} {s : Sx} {o o' : O2} {op op' : CmpOp} {a b d : E} {l r r' : Expr} {p : Pos} (h : cmpOk o op = true) (h' : cmpOk o' op' = true) (hm : lastMarks [op, op'] [r, r'] = false) (ha : Good c s l a) (hb : Good c s r b) (hd : Good c s r' d) : Good c s (.Compare l [op, op'] [r, r'] p) (.chn o o' a b d) := fun K =>
  ⟨PE_imp (pe_chain (cmp_ok K h) (cmp_ok K h') (ha K).1 (hb K).1 (hd K).1 hm) fun σ H Q q => e_chn q, t_chn K.gb (cmp_ok K h) (cmp_ok K h') (cmp_isC h') hm (ha K).1 (hb K).1 (hd K).1⟩
theorem g_neg {c : CK} {s : Sx} {a : E} {x : Expr} {p : Pos} (ha : Good c s x a) : Good c s (.UnaryOp .USub x p) (.neg a) :=
  good_of rfl fun K => PE_imp (pe_un un_neg (ha K).1) fun σ H Q q => e_neg q
theorem g_not {c : CK} {s : Sx} {a : E} {x : Expr} {p : Pos} (ha : Good c s x a) : Good c s (.UnaryOp .Not x p) (.not a) := fun K =>
  ⟨PE_imp (pe_notT (ha K).1) fun σ H Q q => e_not K.gb.hK q, PT_imp (pt_not (ha K).2) fun σ H Q q => t_not q⟩
theorem paired_pe {c : CK} {s : Sx} {es : List Expr} {is : List E} {W : Wx} {wx : WX} {C : Ctx} {k : Nat} {X : Cx} (K : KX c s W wx C k X) (h : Paired (Good c s) es is) : Paired (fun e i => PE X e (tE W wx C i)) es is := by
  induction h with
  | nil => exact .nil
  | cons a _ ih => exact .cons (a K).1 ih
theorem paired_pt {c : CK} {s : Sx} {es : List Expr} {is : List E} {W : Wx} {wx : WX} {C : Ctx} {k : Nat} {X : Cx} (K : KX c s W wx C k X) (h : Paired (Good c s) es is) : Paired (fun e i => PT X e (tT W wx C i)) es is := by
  induction h with
  | nil => exact .nil
  | cons a _ ih => exact .cons (a K).2 ih
theorem g_bop {c : CK} {s : Sx} {and : Bool} {es : List Expr} {is : List E} {op : BoolOp} {p : Pos} (ho : op = if and then .And else .Or) (hn : es ≠ []) (h : Paired (Good c s) es is) : Good c s (.BoolOp op es p) (.bop and is) := fun K => by
  rw [ho]
  exact ⟨e_bop K.gb and (paired_pe K h) hn, t_bop K.gb and (paired_pt K h) hn⟩
def tIfT (t a b : TT) : TT := fun σ H Q => t σ H fun k H1 => if k = true then a σ H1 Q else b σ H1 Q
theorem pt_ifExp {X : Cx} {t a b : Expr} {tt ta tb : TT} {p : Pos} (ht : PT X t tt) (ha : PT X a ta) (hb : PT X b tb) : PT X (.IfExp t a b p) (tIfT tt ta tb) := by
  refine ⟨fun pins s σ H Q I h => ?_⟩
  have e : PySem.isTrue (.IfExp t a b p) X.env (eval (.IfExp t a b p) X.env) = (do if ← PySem.isTrue t X.env (eval t X.env) then PySem.isTrue a X.env (eval a X.env) else PySem.isTrue b X.env (eval b X.env)) := by rw [PySem.isTrue]
  rw [e]
  refine wpAny_bind (thn (ht.run pins s σ H _ I h) fun k s1 ⟨H1, I1, q⟩ => ?_)
  cases k with
  | true => rw [if_pos rfl] at q ⊢; exact ha.run pins s1 σ H1 Q I1 q
  | false => rw [if_neg Bool.false_ne_true] at q ⊢; exact hb.run pins s1 σ H1 Q I1 q
theorem t_ite {W : Wx} {wx : WX} {C : Ctx} {t a b : E} {σ : L2.St} {H : Hp} {Q : Bool → Hp → Prop} (h : tT W wx C (.ite t a b) σ H Q) : tIfT (tT W wx C t) (tT W wx C a) (tT W wx C b) σ H Q := by
  have h' : tR W wx relE (fun ρ S => ((evE C t ρ S).tru).bind fun k S1 => if k then (evE C a ρ S1).tru else (evE C b ρ S1).tru) σ H Q := by
    obtain ⟨ρ, S, F, μ, o, R, h⟩ := h
    refine ⟨ρ, S, F, μ, o, R, ?_⟩
    unfold evE at h
    simp only at h ⊢
    cases e : (evE C t ρ S).tru with
    | bad => rw [e] at h; exact h
    | ex _ _ _ => rw [e] at h; exact h
    | ok k S1 =>
      rw [e] at h
      cases k <;> exact h
  refine tR_mono (tR_bind (rel := relE) (k := fun ρ k S1 => if k then (evE C a ρ S1).tru else (evE C b ρ S1).tru) h') fun k H1 ⟨ρ, S, F, μ, kk, o, R, r, q⟩ => ?_
  cases r
  cases k with
  | true => rw [if_pos rfl]; exact ⟨ρ, S, F, μ, o, R, q⟩
  | false => rw [if_neg Bool.false_ne_true]; exact ⟨ρ, S, F, μ, o, R, q⟩
theorem g_ite {c : CK} {s : Sx} {t a b : E} {te ae be : Expr} {p : Pos} (ht : Good c s te t) (ha : Good c s ae a) (hb : Good c s be b) : Good c s (.IfExp te ae be p) (.ite t a b) := fun K =>
  ⟨PE_imp (pe_ifExp (ht K).2 (ha K).1 (hb K).1) fun σ H Q q => e_ite q, PT_imp (pt_ifExp (ht K).2 (ha K).2 (hb K).2) fun σ H Q q => t_ite q⟩
end PM
set_option Elab.async false
set_option linter.all false
set_option autoImplicit false
set_option maxHeartbeats 4000000
/-! PMChk2: the checker's cases: calls, attributes, displays, subscripts, built-ins. -/
namespace PM
open PySem PySem.Spec PyProof.Rows L2
theorem paired_len {α β : Type} {R : α → β → Prop} {l : List α} {r : List β} (h : Paired R l r) : l.length = r.length := by
  induction h with
  | nil => rfl
  | cons _ _ ih => exact congrArg Nat.succ ih
theorem paired_split {α β : Type} {R : α → β → Prop} : ∀ {l1 l2 : List α} {r : List β}, Paired R (l1 ++ l2) r → Paired R l1 (r.take l1.length) ∧ Paired R l2 (r.drop l1.length)
  | [], _, _, h => ⟨.nil, h⟩
  | a :: l1, l2, _, .cons (b := b) h t => by
    obtain ⟨p, q⟩ := paired_split (l1 := l1) t
    exact ⟨.cons h p, q⟩
def nsAll (es : List Expr) : Bool := es.all fun e => !isSt e
def kwOk (kws : List Keyword) (ks : List String) : Bool := kws.all (fun k => k.arg.isSome) && decide (kws.filterMap (·.arg) = ks.map Str.ofString) && decide (kws.length = ks.length)
section
variable {c : CK} {s : Sx} {W : Wx} {wx : WX} {C : Ctx} {k : Nat} {X : Cx}
theorem pk_of {kws : List Keyword} {is : List E} (K : KX c s W wx C k X) (h : Paired (Good c s) (kws.map (·.value)) is) : PK X kws (tL W wx C is) := by
  induction kws generalizing is with
  | nil =>
    cases h
    exact ⟨fun pos pins s σ H Q I q => pk_nil.run pos pins s σ H Q I (l_nil q)⟩
  | cons kw r ih =>
    obtain ⟨nm, e, p⟩ := kw
    cases h with
    | cons a b => exact ⟨fun pos pins s σ H Q I q => (pk_cons (a K).1 (ih b)).run pos pins s σ H Q I (l_cons q)⟩
theorem pa_of {es : List Expr} {is : List E} (K : KX c s W wx C k X) (ns : nsAll es = true) (h : Paired (Good c s) es is) : PA X es (tL W wx C is) := a_plain ns (paired_pe K h)
end
section
variable {c : CK} {s : Sx}
theorem take_nil_of {α β : Type} {es : List α} {is : List β} (h : es = []) : is.take es.length = [] := by rw [h]; rfl
theorem g_call {f : String} {x : Str} {p pos : Pos} {es : List Expr} {kws : List Keyword} {is : List E} {ks : List String} (hf : s.full = true) (hx : isS x f = true) (hg : ckGl s.sc x = true) (ho : okNm x = true) (hs : c.sh.fn f es.length ks = true) (ns : nsAll es = true) (hk : kwOk kws ks = true)
    (h : Paired (Good c s) (es ++ kws.map (·.value)) is) : Good c s (.Call (.Name x p) es kws pos) (.call f is ks) :=
  good_of rfl fun K => by
    obtain ⟨h1, h2⟩ := paired_split h
    obtain ⟨k1, k3⟩ := an hk
    obtain ⟨k1, k2⟩ := an k1
    have l1 := paired_len h1
    have l2 := paired_len h2
    rw [List.length_map] at l2
    rw [← List.take_append_drop es.length is]
    exact e_call (K.gd hf) K.tk (isS_ok hx) (ckGl_ok K hg) (okNm_ok ho).1 (by rw [← l1]; exact hs) ns k1 (of_decide_eq_true k2) (fun e => take_nil_of e) (fun e => by rw [e] at l2; exact List.eq_nil_of_length_eq_zero l2.symm)
      (by rw [← l2]; exact of_decide_eq_true k3) (pa_of K ns h1) (pk_of K h2)
theorem g_make {z : Bool} {f : String} {x : Str} {p pos : Pos} {es : List Expr} {kws : List Keyword} {is : List E} {ks : List String} (hf : s.full = true) (hx : isS x f = true) (hg : ckGl s.sc x = true) (ho : okNm x = true) (hs : c.sh.mkc f es.length ks = true) (ns : nsAll es = true) (hk : kwOk kws ks = true)
    (h : Paired (Good c s) (es ++ kws.map (·.value)) is) : Good c s (.Call (.Name x p) es kws pos) (.make z f is ks) :=
  good_of rfl fun K => by
    obtain ⟨h1, h2⟩ := paired_split h
    obtain ⟨k1, k3⟩ := an hk
    obtain ⟨k1, k2⟩ := an k1
    have l1 := paired_len h1
    have l2 := paired_len h2
    rw [List.length_map] at l2
    rw [← List.take_append_drop es.length is]
    exact e_make (K.gd hf) K.tk (isS_ok hx) (ckGl_ok K hg) (okNm_ok ho).1 (by rw [← l1]; exact hs) ns k1 (of_decide_eq_true k2) (fun e => take_nil_of e) (fun e => by rw [e] at l2; exact List.eq_nil_of_length_eq_zero l2.symm)
      (by rw [← l2]; exact of_decide_eq_true k3) (pa_of K ns h1) (pk_of K h2)
theorem g_meth {m : String} {y : Str} {oe : Expr} {o : E} {apos pos : Pos} {es : List Expr} {kws : List Keyword} {is : List E} {ks : List String} (hf : s.full = true) (hy : isS y m = true) (h1 : notSuper oe = true) (hs : c.sh.me m es.length ks = true) (ns : nsAll es = true) (hk : kwOk kws ks = true)
    (hn : es.length + kws.length < 20) (hl : (apos.endLine == pos.line) = true) (hoe : Good c s oe o) (h : Paired (Good c s) (es ++ kws.map (·.value)) is) : Good c s (.Call (.Attribute oe y apos) es kws pos) (.meth m o is ks) :=
  good_of rfl fun K => by
    obtain ⟨g1, g2⟩ := paired_split h
    obtain ⟨k1, k3⟩ := an hk
    obtain ⟨k1, k2⟩ := an k1
    have l1 := paired_len g1
    have l2 := paired_len g2
    rw [List.length_map] at l2
    rw [← List.take_append_drop es.length is]
    exact e_meth (K.gd hf) K.tk (isS_ok hy) (by rw [← l1]; exact hs) h1 ns k1 hn hl (of_decide_eq_true k2) (fun e => take_nil_of e) (fun e => by rw [e] at l2; exact List.eq_nil_of_length_eq_zero l2.symm)
      (by rw [← l2]; exact of_decide_eq_true k3) (hoe K).1 (pa_of K ns g1) (pk_of K g2)
theorem g_fld {f : String} {y : Str} {oe : Expr} {o : E} {pos : Pos} (hf : s.full = true) (hy : isS y f = true) (h1 : notSuper oe = true) (ho : Good c s oe o) : Good c s (.Attribute oe y pos) (.fld o f) :=
  good_of rfl fun K => e_fld (K.gd hf) (isS_ok hy) h1 (ho K).1
theorem plainIx_of {b : Expr} (h : isSl b = false) : PlainIx b := fun o i => by
  cases b <;> first | rfl | cases h
theorem g_ix {a b : E} {x y : Expr} {pos : Pos} (hs : isSl y = false) (ha : Good c s x a) (hb : Good c s y b) : Good c s (.Subscript x y pos) (.ix a b) :=
  good_of rfl fun K => e_ix K.gb (plainIx_of hs) (ha K).1 (hb K).1
inductive GoodO (c : CK) (s : Sx) : Option Expr → Option E → Prop
  | none : GoodO c s none none
  | some {e : Expr} {i : E} : Good c s e i → GoodO c s (some e) (some i)
theorem poo_of {W : Wx} {wx : WX} {C : Ctx} {k : Nat} {X : Cx} {e : Option Expr} {i : Option E} (K : KX c s W wx C k X) (h : GoodO c s e i) : POO W wx C X e i := by
  cases h with
  | none => exact .none
  | some h => exact .some (h K).1
theorem g_sl {m : Bool} {a : E} {lo hi : Option E} {x : Expr} {l h : Option Expr} {p2 pos : Pos} (ha : Good c s x a) (hl : GoodO c s l lo) (hh : GoodO c s h hi) : Good c s (.Subscript x (.Slice l h none p2) pos) (.sl m a lo hi) :=
  good_of rfl fun K => e_sl K.gb (ha K).1 (poo_of K hl) (poo_of K hh)
theorem g_rev {m : Bool} {a : E} {x : Expr} {kk : Nat} {p1 p2 p3 pos : Pos} (ha : Good c s x a) : Good c s (.Subscript x (.Slice none none (some (.UnaryOp .USub (.Constant (.int 1) kk p1) p2)) p3) pos) (.rev m a) :=
  good_of rfl fun K => e_rev K.gb (ha K).1
inductive GoodS (c : CK) (s : Sx) : List Expr → List Bool → List E → Prop
  | nil {ss : List Bool} : GoodS c s [] ss []
  | pl {e : Expr} {i : E} {es : List Expr} {ss : List Bool} {is : List E} : isSt e = false → Good c s e i → GoodS c s es ss is → GoodS c s (e :: es) (false :: ss) (i :: is)
  | st {e : Expr} {p : Pos} {i : E} {es : List Expr} {ss : List Bool} {is : List E} : s.full = true → Good c s e i → GoodS c s es ss is → GoodS c s (.Starred e p :: es) (true :: ss) (i :: is)
theorem psl_of {W : Wx} {wx : WX} {C : Ctx} {k : Nat} {X : Cx} {es : List Expr} {ss : List Bool} {is : List E} (K : KX c s W wx C k X) (h : GoodS c s es ss is) : PSL W wx C X es ss is := by
  induction h with
  | nil => exact .nil
  | pl ns h _ ih => exact .pl ns (h K).1 ih
  | st hf h _ ih => exact .st (K.gd hf).room.hd (h K).1 ih
theorem g_tup {es : List Expr} {ss : List Bool} {is : List E} {tx : Nat} {pos : Pos} (h : GoodS c s es ss is) : Good c s (.Tuple es tx pos) (.tup ss is) := good_of rfl fun K => e_tup K.gb (psl_of K h)
theorem g_lst {m : Bool} {es : List Expr} {ss : List Bool} {is : List E} {pos : Pos} (h : GoodS c s es ss is) : Good c s (.List es pos) (.lst m ss is) := good_of rfl fun K => e_lst K.gb (psl_of K h)
inductive GoodD (c : CK) (s : Sx) : List (Option Expr) → List Expr → List E → Prop
  | nil : GoodD c s [] [] []
  | cons {k v : Expr} {ki vi : E} {ks : List (Option Expr)} {vs : List Expr} {is : List E} : Good c s k ki → Good c s v vi → GoodD c s ks vs is → GoodD c s (some k :: ks) (v :: vs) (ki :: vi :: is)
theorem pps_of {W : Wx} {wx : WX} {C : Ctx} {k : Nat} {X : Cx} {pos : Pos} {ks : List (Option Expr)} {vs : List Expr} {is : List E} (K : KX c s W wx C k X) (h : GoodD c s ks vs is) :
    ∃ kis : List (E × E), is = flatE kis ∧ kis.length = ks.length ∧ ks.length = vs.length ∧ ks.all (·.isSome) = true ∧ PPs X pos ks vs (kis.map fun p => (tE W wx C p.1, tE W wx C p.2)) := by
  induction h with
  | nil => exact ⟨[], rfl, rfl, rfl, rfl, pps_nil⟩
  | cons a b _ ih =>
    obtain ⟨kis, e, l, l2, al, p⟩ := ih
    exact ⟨(_, _) :: kis, by rw [e]; rfl, by simp [l], by simp [l2], by simpa using al, pps_cons (a K).1 (b K).1 p⟩
theorem g_dsp {m : Bool} {ks : List (Option Expr)} {vs : List Expr} {is : List E} {pos : Pos} (h15 : ks.length ≤ 15) (h : GoodD c s ks vs is) : Good c s (.Dict ks vs pos) (.dsp m is) := good_of rfl fun K => by
  obtain ⟨kis, e, l, l2, al, p⟩ := pps_of (pos := pos) K h
  rw [e]
  cases h with
  | nil =>
    cases kis with
    | nil => exact e_dsp0
    | cons _ _ => cases l
  | cons _ _ _ => exact e_dsp K.gb p al l2 (by simp) h15 (by rw [l]; exact h15)
/-! ### isinstance -/
def ckTy (c : CK) (s : Sx) (T : Ty) (e : Expr) : Bool := match e with
  | .Name x _ => ckGl s.sc x && okNm x && (match T with
    | .own n => isS x n && c.cls.contains n
    | T => isS x (tyNm T))
  | _ => false
theorem ty_ok {W : Wx} {wx : WX} {C : Ctx} {k : Nat} {X : Cx} {T : Ty} {e : Expr} (K : KX c s W wx C k X) (h : ckTy c s T e = true) : ∃ ct u, ClsV ct u ∧ tyc W.toWd T = some u ∧ PE X e (tC ct) ∧ isSt e = false := by
  unfold ckTy at h
  split at h
  · rename_i x p
    obtain ⟨h1, h2⟩ := an h
    obtain ⟨h1, h3⟩ := an h1
    have hd := (okNm_ok h3).1
    have hg := ckGl_ok K h1
    have nat : ∀ (n : String), x = Str.ofString n → X.mg (Str.ofString n) = none → bootBuiltins (Str.ofString n) = some (.type n) → Str.ofString n ≠ "__name__" → PE X (.Name x p) (tC (.ty n)) := fun n e m b d => by
      subst e
      exact pe_bltn hg m b rfl d hd
    have bl := K.gb.st.bl
    cases T with
    | own n =>
      obtain ⟨h4, h5⟩ := an h2
      obtain ⟨Ca, e1, e2⟩ := K.cls n (by simpa using h5)
      exact ⟨.ref Ca, .ref Ca, .own Ca, by show (W.cl n).map Value.ref = _; rw [e1]; rfl, pe_glob hg (by rw [isS_ok h4]; exact e2) rfl hd, rfl⟩
    | str => exact ⟨_, _, .ty "str", rfl, nat "str" (isS_ok h2) (bl _ (by decide)) (by decide +kernel) (by decide +kernel), rfl⟩
    | int => exact ⟨_, _, .ty "int", rfl, nat "int" (isS_ok h2) (bl _ (by decide)) (by decide +kernel) (by decide +kernel), rfl⟩
    | bool => exact ⟨_, _, .ty "bool", rfl, nat "bool" (isS_ok h2) (bl _ (by decide)) (by decide +kernel) (by decide +kernel), rfl⟩
    | list => exact ⟨_, _, .ty "list", rfl, nat "list" (isS_ok h2) (bl _ (by decide)) (by decide +kernel) (by decide +kernel), rfl⟩
    | tuple => exact ⟨_, _, .ty "tuple", rfl, nat "tuple" (isS_ok h2) (bl _ (by decide)) (by decide +kernel) (by decide +kernel), rfl⟩
    | dict => exact ⟨_, _, .ty "dict", rfl, nat "dict" (isS_ok h2) (bl _ (by decide)) (by decide +kernel) (by decide +kernel), rfl⟩
  · cases h
def ckTys (c : CK) (s : Sx) : List Ty → List Expr → Bool
  | [], [] => true
  | T :: Ts, e :: es => ckTy c s T e && ckTys c s Ts es
  | _, _ => false
theorem tys_ok {W : Wx} {wx : WX} {C : Ctx} {k : Nat} {X : Cx} (K : KX c s W wx C k X) : ∀ {Ts : List Ty} {es : List Expr}, ckTys c s Ts es = true →
    ∃ (cs : List V) (us : List Value) (tt : TA), Paired ClsV cs us ∧ Ts.map (tyc W.toWd) = us.map some ∧ cs.length = Ts.length ∧ PA X es tt ∧ ∀ σ H Q, Q cs H → tt σ H Q
  | [], [], _ => ⟨[], [], tNil, .nil, rfl, rfl, pa_nil, fun _ _ _ q => q⟩
  | T :: Ts, e :: es, h => by
    unfold ckTys at h
    obtain ⟨h1, h2⟩ := an h
    obtain ⟨cs, us, tt, p1, p2, p3, p4, p5⟩ := tys_ok K h2
    obtain ⟨ct, u, q1, q2, q3, q4⟩ := ty_ok K h1
    exact ⟨ct :: cs, u :: us, _, .cons q1 p1, by rw [List.map_cons, List.map_cons, q2, p2], by simp [p3], pa_cons q3 p4 (starEach_ns q4), fun σ H Q q => p5 σ H _ q⟩
  | [], _ :: _, h => by cases h
  | _ :: _, [], h => by cases h
theorem g_isi1 {T : Ty} {a te : Expr} {aI : E} {x : Str} {p pos : Pos} (hx : isS x "isinstance" = true) (hg : ckGl s.sc x = true) (ns : isSt a = false) (ht : ckTy c s T te = true) (ha : Good c s a aI) : Good c s (.Call (.Name x p) [a, te] [] pos) (.isi aI [T]) := good_of rfl fun K => by
  obtain ⟨ct, u, q1, q2, q3, q4⟩ := ty_ok K ht
  have e := isS_ok hx
  subst e
  exact e_isi1 K.gb (ckGl_ok K hg) q1 q2 ns (ha K).1 q3 q4
theorem g_isiT {Ts : List Ty} {a : Expr} {tes : List Expr} {aI : E} {x : Str} {p pos tpos : Pos} {tx : Nat} (hx : isS x "isinstance" = true) (hg : ckGl s.sc x = true) (ns : isSt a = false) (hne : Ts ≠ []) (hl : Ts.length ≤ 100) (ht : ckTys c s Ts tes = true) (ha : Good c s a aI) : Good c s (.Call (.Name x p) [a, .Tuple tes tx tpos] [] pos) (.isi aI Ts) := good_of rfl fun K => by
  obtain ⟨cs, us, tt, p1, p2, p3, p4, p5⟩ := tys_ok K ht
  have e := isS_ok hx
  subst e
  exact e_isiT K.gb (ckGl_ok K hg) p1 p2 hne (by rw [p3]; exact Nat.le_trans hl (by decide)) ns (ha K).1 p4 p5
theorem g_isx {a : Expr} {aI : E} {x y : Str} {yn : String} {yes : List String} {p p2 pos : Pos} (hx : isS x "isinstance" = true) (hg : ckGl s.sc x = true) (ns : isSt a = false) (hy : isS y yn = true) (hgy : ckGl s.sc y = true) (ho : okNm y = true) (hm : (yn, yes) ∈ c.xis) (ha : Good c s a aI) : Good c s (.Call (.Name x p) [a, .Name y p2] [] pos) (.isx aI yn yes) := good_of rfl fun K => by
  obtain ⟨ct, u, h1, h2, h3⟩ := K.xi _ hm
  have e := isS_ok hx
  subst e
  have e2 := isS_ok hy
  subst e2
  have hd := (okNm_ok ho).1
  refine e_isx K.gb (ckGl_ok K hg) h1 h2 ns (ha K).1 ?_ rfl
  rcases h3 with ⟨Cb, hmg, rfl, rfl⟩ | ⟨e, hmg, rfl, rfl⟩
  · exact pe_glob (ckGl_ok K hgy) hmg rfl hd
  · have e : yn = "ValueError" := e
    subst e
    exact pe_bltn (ckGl_ok K hgy) hmg (by decide +kernel) rfl (by decide +kernel) hd
theorem g_mkx {cn : String} {x : Str} {e : Expr} {i : E} {p pos : Pos} (hf : s.full = true) (hx : isS x cn = true) (hg : ckGl s.sc x = true) (ho : okNm x = true) (hc : cn ∈ c.xcs) (ns : isSt e = false) (he : Good c s e i) : Good c s (.Call (.Name x p) [e] [] pos) (.mkx cn i) := good_of rfl fun K => by
  obtain ⟨Ca, f, hc, _⟩ := K.xcs _ hc
  exact e_mkx (K.gd hf) (isS_ok hx) (ckGl_ok K hg) (okNm_ok ho).1 hc ns (he K).1
theorem g_mkxK {cn : String} {x : Str} {a : String} {fa : Str} {e : Expr} {i : E} {p pos kp : Pos} (hf : s.full = true) (hx : isS x cn = true) (hg : ckGl s.sc x = true) (ho : okNm x = true) (hc : (cn, a) ∈ c.xas) (hfa : isS fa a = true) (he : Good c s e i) : Good c s (.Call (.Name x p) [] [⟨some fa, e, kp⟩] pos) (.mkx cn i) := good_of rfl fun K => by
  obtain ⟨Ca, hc⟩ := K.xa _ hc
  rw [isS_ok hfa]
  exact e_mkxK (K.gd hf) (isS_ok hx) (ckGl_ok K hg) (okNm_ok ho).1 hc (he K).1
/-! ### built-in functions -/
def biB : List String := ["len", "repr"]
def biBF : List String := ["all", "any", "sum", "max", "min"]
def biT : List String := ["int", "tuple", "dict", "str"]
def biOk (s : Sx) (f : String) : Bool := biB.contains f || biT.contains f || (s.full && (biBF.contains f || f == "list"))
theorem g_bi {f : String} {m : Bool} {x : Str} {e : Expr} {es : List Expr} {is : List E} {p pos : Pos} (hb : biOk s f = true) (hx : isS x f = true) (hg : ckGl s.sc x = true) (ns : nsAll (e :: es) = true) (h : Paired (Good c s) (e :: es) is) : Good c s (.Call (.Name x p) (e :: es) [] pos) (.bi f m is) := good_of rfl fun {W wx C k X} K => by
  have ex := isS_ok hx
  have g := ckGl_ok K hg
  have a := pa_of K ns h
  have bl := K.gb.st.bl
  unfold biOk at hb
  rw [Bool.or_eq_true, Bool.or_eq_true, Bool.and_eq_true, Bool.or_eq_true] at hb
  have B : ∀ (id : String), f = id → (X.mg (Str.ofString id) = none) → bootBuiltins (Str.ofString id) = some (.builtin id) → Str.ofString id ≠ "__name__" → (Str.ofString id == ("__debug__" : Str)) = false → CallR X (.builtin id) (rBi W.toWd C id m) → PE X (.Call (.Name x p) (e :: es) [] pos) (tE W wx C (.bi f m is)) := fun id ef m1 b1 n1 d1 cr => by
    subst ef
    subst ex
    exact e_biB cr g m1 b1 n1 d1 ns a
  have T : ∀ (id : String), f = id → (X.mg (Str.ofString id) = none) → bootBuiltins (Str.ofString id) = some (.type id) → Str.ofString id ≠ "__name__" → (Str.ofString id == ("__debug__" : Str)) = false → CallR X (.type id) (rBi W.toWd C id m) → PE X (.Call (.Name x p) (e :: es) [] pos) (tE W wx C (.bi f m is)) := fun id ef m1 b1 n1 d1 cr => by
    subst ef
    subst ex
    exact e_biT cr g m1 b1 n1 d1 ns a
  rcases hb with (hb | hb) | ⟨hf, hb⟩
  · have hb : f ∈ biB := by simpa using hb
    simp only [biB, List.mem_cons, List.not_mem_nil, or_false] at hb
    rcases hb with e | e
    · exact B "len" e (bl _ (by decide)) (by decide +kernel) (by decide +kernel) (by decide +kernel) (c_len K.gb)
    · exact B "repr" e (bl _ (by decide)) (by decide +kernel) (by decide +kernel) (by decide +kernel) (c_repr K.gb K.rep)
  · have hb : f ∈ biT := by simpa using hb
    simp only [biT, List.mem_cons, List.not_mem_nil, or_false] at hb
    rcases hb with e | e | e | e
    · exact T "int" e (bl _ (by decide)) (by decide +kernel) (by decide +kernel) (by decide +kernel) (c_int K.gb)
    · exact T "tuple" e (bl _ (by decide)) (by decide +kernel) (by decide +kernel) (by decide +kernel) (c_tuple K.gb)
    · exact T "dict" e (bl _ (by decide)) (by decide +kernel) (by decide +kernel) (by decide +kernel) (c_dict K.gb)
    · exact T "str" e (bl _ (by decide)) (by decide +kernel) (by decide +kernel) (by decide +kernel) (c_str K.gb)
  · have G := K.gd hf
    rcases hb with hb | hb
    · have hb : f ∈ biBF := by simpa using hb
      simp only [biBF, List.mem_cons, List.not_mem_nil, or_false] at hb
      rcases hb with e | e | e | e | e
      · exact B "all" e (bl _ (by decide)) (by decide +kernel) (by decide +kernel) (by decide +kernel) (c_all G)
      · exact B "any" e (bl _ (by decide)) (by decide +kernel) (by decide +kernel) (by decide +kernel) (c_any G)
      · exact B "sum" e (bl _ (by decide)) (by decide +kernel) (by decide +kernel) (by decide +kernel) (c_sum G)
      · exact B "max" e (bl _ (by decide)) (by decide +kernel) (by decide +kernel) (by decide +kernel) (c_max G)
      · exact B "min" e (bl _ (by decide)) (by decide +kernel) (by decide +kernel) (by decide +kernel) (c_min G)
    · exact T "list" (by simpa using hb) (bl _ (by decide)) (by decide +kernel) (by decide +kernel) (by decide +kernel) (c_list G)
theorem g_listvals {m : Bool} {x y : Str} {o : Expr} {oI : E} {p pos apos mpos : Pos} (hf : s.full = true) (hx : isS x "list" = true) (hg : ckGl s.sc x = true) (hy : isS y "values" = true) (h1 : notSuper o = true) (hl : (apos.endLine == mpos.line) = true) (ho : Good c s o oI) :
    Good c s (.Call (.Name x p) [.Call (.Attribute o y apos) [] [] mpos] [] pos) (.bi "listvals" m [oI]) := good_of rfl fun K => by
  have e1 := isS_ok hx
  have e2 := isS_ok hy
  have g := ckGl_ok K hg
  subst e1
  subst e2
  exact e_listvals (K.gd hf) g h1 hl (ho K).1
theorem g_lenset {m : Bool} {x y : Str} {o : Expr} {oI : E} {p pos yp mpos : Pos} (hf : s.full = true) (hx : isS x "len" = true) (hg : ckGl s.sc x = true) (hy : isS y "set" = true) (hg2 : ckGl s.sc y = true) (ns : isSt o = false) (ho : Good c s o oI) :
    Good c s (.Call (.Name x p) [.Call (.Name y yp) [o] [] mpos] [] pos) (.bi "lenset" m [oI]) := good_of rfl fun K => by
  have e1 := isS_ok hx
  have e2 := isS_ok hy
  have g := ckGl_ok K hg
  have g2 := ckGl_ok K hg2
  subst e1
  subst e2
  exact e_lenset (K.gd hf) g g2 ns (ho K).1
/-! ### methods of built-in types -/
theorem g_bm0 {m : Bool} {f : String} {y : Str} {oe : Expr} {o : E} {apos pos : Pos} (hb : f = "pop" ∨ f = "reverse" ∨ f = "isdigit") (hy : isS y f = true) (h1 : notSuper oe = true) (hl : (apos.endLine == pos.line) = true) (ho : Good c s oe o) : Good c s (.Call (.Attribute oe y apos) [] [] pos) (.bm f m o []) := good_of rfl fun K => by
  have e := isS_ok hy
  subst e
  rcases hb with e | e | e <;> subst e
  · exact e_bm0 K.gb (by decide) PySem.F.plainAttrs_list PySem.F.slot_list_pop PySem.F.type_list_pop m_pop h1 hl (ho K).1
  · exact e_bm0 K.gb (by decide) PySem.F.plainAttrs_list PySem.F.slot_list_reverse PySem.F.type_list_reverse m_reverse h1 hl (ho K).1
  · exact e_bm0 K.gb (by decide) PySem.F.plainAttrs_str PySem.F.slot_str_isdigit PySem.F.type_str_isdigit m_isdigit h1 hl (ho K).1
theorem g_bm {m : Bool} {f : String} {y : Str} {oe e : Expr} {es : List Expr} {o : E} {is : List E} {apos pos : Pos} (hb : f = "append" ∨ f = "pop" ∨ f = "insert" ∨ f = "extend" ∨ f = "index" ∨ f = "join") (hy : isS y f = true) (h1 : notSuper oe = true) (hl : (apos.endLine == pos.line) = true)
    (ns : nsAll (e :: es) = true) (hn : (e :: es).length < 20) (ho : Good c s oe o) (h : Paired (Good c s) (e :: es) is) : Good c s (.Call (.Attribute oe y apos) (e :: es) [] pos) (.bm f m o is) := good_of rfl fun K => by
  have ey := isS_ok hy
  subst ey
  have a := pa_of K ns h
  rcases hb with q | q | q | q | q | q <;> subst q
  · exact e_bm K.gb (by decide) PySem.F.plainAttrs_list PySem.F.slot_list_append PySem.F.type_list_append m_append h1 hl ns hn (ho K).1 a
  · exact e_bm K.gb (by decide) PySem.F.plainAttrs_list PySem.F.slot_list_pop PySem.F.type_list_pop m_pop h1 hl ns hn (ho K).1 a
  · exact e_bm K.gb (by decide) PySem.F.plainAttrs_list PySem.F.slot_list_insert PySem.F.type_list_insert m_insert h1 hl ns hn (ho K).1 a
  · exact e_bm K.gb (by decide) PySem.F.plainAttrs_list PySem.F.slot_list_extend PySem.F.type_list_extend m_extend h1 hl ns hn (ho K).1 a
  · exact e_bm K.gb (by decide) PySem.F.plainAttrs_list PySem.F.slot_list_index PySem.F.type_list_index (m_index K.gb) h1 hl ns hn (ho K).1 a
  · exact e_bm K.gb (by decide) PySem.F.plainAttrs_str PySem.F.slot_str_join PySem.F.type_str_join m_join h1 hl ns hn (ho K).1 a
theorem g_get {m : Bool} {y : Str} {oe e : Expr} {o i : E} {apos pos : Pos} (hy : isS y "get" = true) (h1 : notSuper oe = true) (hl : (apos.endLine == pos.line) = true) (ns : isSt e = false) (ho : Good c s oe o) (h : Good c s e i) : Good c s (.Call (.Attribute oe y apos) [e] [] pos) (.bm "get" m o [i]) := good_of rfl fun K => by
  have ey := isS_ok hy
  subst ey
  exact m_get K.gb h1 ns hl (ho K).1 (h K).1
theorem g_get2 {m : Bool} {y : Str} {oe e e' : Expr} {o i i' : E} {apos pos : Pos} (hy : isS y "get" = true) (h1 : notSuper oe = true) (hl : (apos.endLine == pos.line) = true) (ns : isSt e = false) (ns' : isSt e' = false) (ho : Good c s oe o) (h : Good c s e i) (h' : Good c s e' i') : Good c s (.Call (.Attribute oe y apos) [e, e'] [] pos) (.bm "get" m o [i, i']) := good_of rfl fun K => by
  have ey := isS_ok hy
  subst ey
  exact m_get2 K.gb h1 ns ns' hl (ho K).1 (h K).1 (h' K).1
theorem g_dpop {m : Bool} {y : Str} {oe e : Expr} {o i : E} {apos pos : Pos} (hy : isS y "pop" = true) (h1 : notSuper oe = true) (hl : (apos.endLine == pos.line) = true) (ns : isSt e = false) (ho : Good c s oe o) (h : Good c s e i) : Good c s (.Call (.Attribute oe y apos) [e] [] pos) (.bm "dpop" m o [i]) := good_of rfl fun K => by
  have ey := isS_ok hy
  subst ey
  exact m_dpop K.gb h1 ns hl (ho K).1 (h K).1
theorem g_sortedset {m : Bool} {x y : Str} {o : Expr} {oI : E} {p pos yp mpos : Pos} (hf : s.full = true) (hx : isS x "sorted" = true) (hg : ckGl s.sc x = true) (hy : isS y "set" = true) (hg2 : ckGl s.sc y = true) (ns : isSt o = false) (ho : Good c s o oI) :
    Good c s (.Call (.Name x p) [.Call (.Name y yp) [o] [] mpos] [] pos) (.bi "sortedset" m [oI]) := good_of rfl fun K => by
  have e1 := isS_ok hx
  have e2 := isS_ok hy
  have g := ckGl_ok K hg
  have g2 := ckGl_ok K hg2
  subst e1
  subst e2
  exact e_sortedset (K.gd hf) g g2 ns (ho K).1
theorem g_dup {m : Bool} {ae ke ve : Expr} {a k v : E} {pos : Pos} (ha : Good c s ae a) (hk : Good c s ke k) (hv : Good c s ve v) : Good c s (.Dict [none, some ke] [ae, ve] pos) (.dup m a k v) := good_of rfl fun K => e_dup K.gb (ha K).1 (hk K).1 (hv K).1
theorem g_kin {neg : Bool} {a : E} {l : Expr} {x : String} {y : Str} {op : CmpOp} {p q : Pos} (ho : op = if neg then .NotIn else .In) (hy : isS y x = true) (hg : ckGl s.sc y = true) (hd : okNm y = true) (hm : behindInMarks op (.Name y q) = false) (ha : Good c s l a) : Good c s (.Compare l [op] [.Name y q] p) (.kin neg a x) := fun K =>
  e_kin K.gb ho rfl (isS_ok hy) (ckGl_ok K hg) (okNm_ok hd).1 hm (ha K).1
theorem g_kget {a : E} {e : Expr} {x : String} {y : Str} {p q : Pos} (hy : isS y x = true) (hg : ckGl s.sc y = true) (hd : okNm y = true) (hs : isSl e = false) (ha : Good c s e a) : Good c s (.Subscript (.Name y q) e p) (.kget x a) := good_of rfl fun K =>
  e_kget K.gb rfl (isS_ok hy) (ckGl_ok K hg) (okNm_ok hd).1 (plainIx_of hs) (ha K).1
end
end PM
set_option Elab.async false
set_option linter.all false
set_option autoImplicit false
set_option maxHeartbeats 4000000
/-! PMChk3: the checker's cases: what is walked, targets, comprehensions. -/
namespace PM
open PySem PySem.Spec PyProof.Rows L2
/-! ### what is walked -/
/-- the expressions that are walked -/
def itArgs (s : Sx) (ik : IK) (tg it : Expr) : Option (List Expr) := match ik with
  | .seq => some [it]
  | .rng => (match it with
    | .Call (.Name x _) [a] [] _ => if isS x "range" && ckGl s.sc x && !isSt a then some [a] else none
    | .Call (.Name x _) [a, b] [] _ => if isS x "range" && ckGl s.sc x && !isSt a && !isSt b then some [a, b] else none
    | _ => none)
  | .enum => (match tg, it with
    | .Tuple _ _ _, .Call (.Name x _) [a] [] _ => if isS x "enumerate" && ckGl s.sc x && !isSt a then some [a] else none
    | _, _ => none)
  | .zip => (match tg, it with
    | .Tuple _ _ _, .Call (.Name x _) [a, b] [] _ => if isS x "zip" && ckGl s.sc x && !isSt a && !isSt b then some [a, b] else none
    | _, _ => none)
  | _ => none
theorem it_ok {c : CK} {s : Sx} {W : Wx} {wx : WX} {C : Ctx} {k : Nat} {X : Cx} {ik : IK} {tg it : Expr} {es : List Expr} {is : List E} (K : KX c s W wx C k X) (e : itArgs s ik tg it = some es) (h : Paired (Good c s) es is) : PI X tg it (tI W wx C ik is) := by
  unfold itArgs at e
  cases ik with
  | seq =>
    cases e
    cases h with
    | cons a b => cases b; exact i_seq K.gb (a K).1
  | rng =>
    simp only at e
    split at e
    · split at e
      · rename_i q
        cases e
        obtain ⟨q, q3⟩ := an q
        obtain ⟨q1, q2⟩ := an q
        have ex := isS_ok q1
        subst ex
        cases h with
        | cons a b => cases b; exact i_rng1 K.gb (ckGl_ok K q2) (nt q3) (a K).1
      · cases e
    · split at e
      · rename_i q
        cases e
        obtain ⟨q, q4⟩ := an q
        obtain ⟨q, q3⟩ := an q
        obtain ⟨q1, q2⟩ := an q
        have ex := isS_ok q1
        subst ex
        cases h with
        | cons a b =>
          cases b with
          | cons b d => cases d; exact i_rng2 K.gb (ckGl_ok K q2) (nt q3) (nt q4) (a K).1 (b K).1
      · cases e
    · cases e
  | enum =>
    simp only at e
    split at e
    · split at e
      · rename_i q
        cases e
        obtain ⟨q, q3⟩ := an q
        obtain ⟨q1, q2⟩ := an q
        have ex := isS_ok q1
        subst ex
        cases h with
        | cons a b => cases b; exact i_enum K.gb (ckGl_ok K q2) (nt q3) (a K).1
      · cases e
    · cases e
  | zip =>
    simp only at e
    split at e
    · split at e
      · rename_i q
        cases e
        obtain ⟨q, q4⟩ := an q
        obtain ⟨q, q3⟩ := an q
        obtain ⟨q1, q2⟩ := an q
        have ex := isS_ok q1
        subst ex
        cases h with
        | cons a b =>
          cases b with
          | cons b d => cases d; exact i_zip K.gb (ckGl_ok K q2) (nt q3) (nt q4) (a K).1 (b K).1
      · cases e
    · cases e
  | keys => cases e
  | itms => cases e
  | vals => cases e
theorem itArgs_nd {s : Sx} {ik : IK} {tg it : Expr} {es : List Expr} (e : itArgs s ik tg it = some es) : ik.isD = false := by
  cases ik <;> first | rfl | (unfold itArgs at e; cases e)
/-- a dict that a name holds is walked -/
def nmB (c : CK) (s : Sx) (i : Nat) (x : Str) : Bool := atN c.N i x && ckVis s.sc x && okNm x
def itK (c : CK) (s : Sx) (ik : IK) (tg it : Expr) (i : Nat) : Bool := match ik with
  | .keys => (match it with
    | .Name x _ => nmB c s i x
    | _ => false)
  | .vals => (match it with
    | .Call (.Attribute (.Name x _) y apos) [] [] cpos => isS y "values" && (apos.endLine == cpos.line) && nmB c s i x
    | _ => false)
  | .itms => (match tg, it with
    | .Tuple _ _ _, .Call (.Attribute (.Name x _) y apos) [] [] cpos => isS y "items" && (apos.endLine == cpos.line) && nmB c s i x
    | _, _ => false)
  | _ => false
theorem nm_ok {c : CK} {s : Sx} {W : Wx} {wx : WX} {C : Ctx} {k : Nat} {X : Cx} {i : Nat} {x : Str} {p : Pos} (K : KX c s W wx C k X) (h : nmB c s i x = true) : PE X (.Name x p) (tVar i) := by
  unfold nmB at h
  obtain ⟨h, h3⟩ := an h
  obtain ⟨h1, h2⟩ := an h
  exact pe_var (by rw [K.hN]; exact atN_ok h1) (by rw [K.hs]; exact ckVis_ok h2) (okNm_ok h3).1 (okNm_ok h3).2
theorem itK_ok {c : CK} {s : Sx} {W : Wx} {wx : WX} {C : Ctx} {k : Nat} {X : Cx} {ik : IK} {tg it : Expr} {i : Nat} (K : KX c s W wx C k X) (h : itK c s ik tg it i = true) : ik.isD = true ∧ PI X tg it (tDW ik (tVar i)) := by
  unfold itK at h
  split at h
  · split at h
    · exact ⟨rfl, pi_keys (nm_ok K h)⟩
    · cases h
  · split at h
    · obtain ⟨h, h3⟩ := an h
      obtain ⟨h1, h2⟩ := an h
      have e := isS_ok h1
      subst e
      exact ⟨rfl, pi_values (nm_ok K h3) (base_ns rfl) h2⟩
    · cases h
  · split at h
    · obtain ⟨h, h3⟩ := an h
      obtain ⟨h1, h2⟩ := an h
      have e := isS_ok h1
      subst e
      exact ⟨rfl, pi_items (nm_ok K h3) (base_ns rfl) h2⟩
    · cases h
  · cases h
/-! ### targets -/
def ckLoc (s : Sx) (x : Str) : Bool := match s.sc.names.lookup x with
  | some .local => true
  | some .cell => s.fnB x
  | _ => false
theorem ckLoc_ok {c : CK} {s : Sx} {W : Wx} {wx : WX} {C : Ctx} {k : Nat} {X : Cx} {x : Str} (K : KX c s W wx C k X) (h : ckLoc s x = true) : Loc X.env.scope x ∧ (X.fn x = true ∨ X.env.scope.names.lookup x = some .local) := by
  unfold ckLoc at h
  rw [K.hs]
  split at h
  · rename_i e; exact ⟨.inl e, .inr e⟩
  · rename_i e; exact ⟨.inr e, .inl (K.fn x h)⟩
  · cases h
def ckNms (c : CK) (s : Sx) : List Nat → List Expr → Bool
  | [], [] => true
  | i :: is, .Name x _ :: es => atN c.N i x && ckLoc s x && ckNms c s is es
  | _, _ => false
theorem nms_ok {c : CK} {s : Sx} {W : Wx} {wx : WX} {C : Ctx} {k : Nat} {X : Cx} (K : KX c s W wx C k X) : ∀ {is : List Nat} {es : List Expr}, ckNms c s is es = true → Nms X es is
  | [], [], _ => .nil
  | i :: is, e :: es, h => by
    cases e <;> first | (unfold ckNms at h; cases h; done) | skip
    unfold ckNms at h
    obtain ⟨h, h3⟩ := an h
    obtain ⟨h1, h2⟩ := an h
    exact .cons (by rw [K.hN]; exact atN_ok h1) (ckLoc_ok K h2).1 (ckLoc_ok K h2).2 (nms_ok K h3)
  | [], _ :: _, h => by cases h
  | _ :: _, [], h => by cases h
def ckTg (c : CK) (s : Sx) (t : Tg) (e : Expr) : Bool := match t, e with
  | .nm i, .Name x _ => atN c.N i x && ckLoc s x
  | .tp is, .Tuple es _ _ => s.full && ckNms c s is es
  | _, _ => false
theorem tg_ok {c : CK} {s : Sx} {W : Wx} {wx : WX} {C : Ctx} {k : Nat} {X : Cx} {t : Tg} {e : Expr} (K : KX c s W wx C k X) (h : ckTg c s t e = true) : PG X e (gT W t) := by
  unfold ckTg at h
  split at h
  · obtain ⟨h1, h2⟩ := an h
    exact g_nm K.gb.nd (by rw [K.hN]; exact atN_ok h1) (ckLoc_ok K h2).1 (ckLoc_ok K h2).2
  · obtain ⟨h1, h2⟩ := an h
    exact g_tp (K.gd h1).calm K.gb.hK K.gb.nd (nms_ok K h2)
  · cases h
def isSet : Expr → Bool
  | .Set .. => true
  | _ => false
theorem fold_ok {it : Expr} (h : isSet it = false) (env : PySem.Env) (x : Value) : foldedSetIterable it env x = pure x := by
  cases it <;> first | rfl | cases h
/-! ### blocks -/
def blkSc (sc scope : Scope) : Scope := { scope with names := scope.names.map fun (n, k) => if (k == .free && sc.kind == .function && sc.names.lookup n == some .cell) then (n, .cell) else (n, k) }
def blkSx (s : Sx) (scope : Scope) : Sx := ⟨blkSc s.sc scope, fun x => scope.names.lookup x == some .cell, s.full, false⟩
def ownOf (N : List Str) (is : List Nat) : List (Str × Nat) := is.filterMap fun i => (N[i]?).map fun x => (x, i)
def ckBlk (c : CK) (s : Sx) (scope : Scope) (is : List Nat) : Bool := decide (scope.kind = .function) && scope.names.all (fun y => decide (scope.names.lookup y.1 = some y.2)) && is.all (fun i => decide (i < c.N.length)) &&
  scope.names.all (fun y => !decide (y.2 = .free) || decide (s.sc.names.lookup y.1 = some .cell) || decide (s.sc.names.lookup y.1 = some .free)) &&
  scope.names.all (fun y => !(decide (y.2 = .local) || decide (y.2 = .cell)) || decide (y.1 ∈ (ownOf c.N is).map (·.1)) || decide (y.1 ∉ c.N))
theorem own_snd {N : List Str} : ∀ {is : List Nat}, is.all (fun i => decide (i < N.length)) = true → (ownOf N is).map (·.2) = is
  | [], _ => rfl
  | i :: is, h => by
    rw [List.all_cons] at h
    obtain ⟨h1, h2⟩ := an h
    unfold ownOf
    rw [List.filterMap_cons, List.getElem?_eq_getElem (of_decide_eq_true h1)]
    show i :: (ownOf N is).map (·.2) = _
    rw [own_snd h2]
theorem blk_ok {c : CK} {s : Sx} {W : Wx} {wx : WX} {C : Ctx} {k : Nat} {X : Cx} {scope : Scope} {is : List Nat} (K : KX c s W wx C k X) (h : ckBlk c s scope is = true) : BlkOk X.N X.env.scope scope (ownOf c.N is) ∧ (ownOf c.N is).map (·.2) = is := by
  unfold ckBlk at h
  obtain ⟨h, h5⟩ := an h
  obtain ⟨h, h4⟩ := an h
  obtain ⟨h, h3⟩ := an h
  obtain ⟨h1, h2⟩ := an h
  rw [K.hN, K.hs]
  refine ⟨⟨of_decide_eq_true h1, fun y hy => of_decide_eq_true (List.all_eq_true.mp h2 y hy), fun p hp => ?_, fun y hy e => ?_, fun y hy e => ?_⟩, own_snd h3⟩
  · obtain ⟨i, hi, e⟩ := List.mem_filterMap.mp hp
    obtain ⟨x, e1, e2⟩ := Option.map_eq_some_iff.mp e
    subst e2
    exact e1
  · have q := List.all_eq_true.mp h4 y hy
    rw [Bool.or_eq_true, Bool.or_eq_true] at q
    rcases q with (q | q) | q
    · simp [e] at q
    · exact .inl (of_decide_eq_true q)
    · exact .inr (of_decide_eq_true q)
  · have q := List.all_eq_true.mp h5 y hy
    rw [Bool.or_eq_true, Bool.or_eq_true] at q
    rcases q with (q | q) | q
    · rcases e with e | e <;> simp [e] at q
    · exact .inl (of_decide_eq_true q)
    · exact .inr (of_decide_eq_true q)
theorem kx_blk {c : CK} {s : Sx} {W : Wx} {wx : WX} {C : Ctx} {k : Nat} {X : Cx} (K : KX c s W wx C k X) (hf : s.full = true) (scope : Scope) (s1 : Shared) (H : Hp) (cc : Addr) (cl : List (Str × Addr)) (fp : List Addr) :
    KX c (blkSx s scope) W (fun _ _ _ _ => False) C k (X.blk s1 H scope (compEnvC scope cl cc X.env) fp) := by
  have G := K.gd hf
  have B : Gb W C c.sh k (X.blk s1 H scope (compEnvC scope cl cc X.env) fp) := ⟨G.nd, G.hK, G.hu, G.gs, G.st⟩
  refine ⟨B, fun _ => ⟨B, G.calm, G.room⟩, fun u s' ⟨a, B, sI, pins, σ, H, cls, d, e, I, nb, up, sky, na, os, ag, w⟩ => w.elim, K.hN, ?_, fun x h => h, K.cls, K.rep, K.xcs, K.xm, K.xf, K.xi, K.xa, fun h => by cases h⟩
  have e : relabel scope X.env = blkSc X.env.scope scope := rfl
  show relabel scope X.env = blkSc s.sc scope
  rw [e, K.hs]
/-! ### comprehensions -/
section
variable {c : CK} {s : Sx}
/-- no tests or one -/
theorem pts_of {W : Wx} {wx : WX} {C : Ctx} {k : Nat} {X : Cx} {es : List Expr} {is : List E} (K : KX c s W wx C k X) (hl : es.length ≤ 1) (h : Paired (Good c s) es is) : PTs X es (tTs W wx C is) := by
  cases h with
  | nil => exact ts_nil
  | cons a b =>
    cases b with
    | nil => exact ts_one (a K).2
    | cons _ _ => simp at hl
structure CompG (c : CK) (s : Sx) (elt tg it : Expr) (ifs : List Expr) (scope : Scope) (own : List Nat) (t : Tg) (ik : IK) (ie ifsI : List E) (eltI : E) : Prop where
  f_hf : s.full = true
  f_blk : ckBlk c s scope own = true
  f_tg : ckTg c (blkSx s scope) t tg = true
  f_sl : t.slots.all (fun i => own.contains i) = true
  f_set : isSet it = false
  f_l1 : ifs.length ≤ 1
  f_it : (∃ es, itArgs s ik tg it = some es ∧ Paired (Good c s) es ie) ∨ ∃ i, ie = [.var i] ∧ itK c s ik tg it i = true
  f_ifs : Paired (Good c (blkSx s scope)) ifs ifsI
  f_elt : Good c (blkSx s scope) elt eltI
theorem slots_of {t : Tg} {own : List Nat} (h : t.slots.all (fun i => own.contains i) = true) : ∀ i ∈ t.slots, i ∈ own := fun i hi => by
  simpa using List.all_eq_true.mp h i hi
theorem g_comp {m : Bool} {elt tg it : Expr} {ifs : List Expr} {scope : Scope} {own : List Nat} {t : Tg} {ik : IK} {ie ifsI : List E} {eltI : E} {pos : Pos} (h : CompG c s elt tg it ifs scope own t ik ie ifsI eltI) : Good c s (.ListComp elt [⟨tg, it, ifs, 0⟩] scope pos) (.comp m own t ik ie ifsI eltI) :=
  good_of rfl fun K => by
    obtain ⟨b1, b2⟩ := blk_ok K h.f_blk
    rcases h.f_it with ⟨es, e1, e2⟩ | ⟨i, rfl, e1⟩
    case inr =>
      obtain ⟨d1, d2⟩ := itK_ok K e1
      exact e_compK (K.gd h.f_hf) d1 b2 (slots_of h.f_sl) d2 b1 (fun s1 H cc cl fp => tg_ok (kx_blk K h.f_hf scope s1 H cc cl fp) h.f_tg) (fun s1 H cc cl fp => pts_of (kx_blk K h.f_hf scope s1 H cc cl fp) h.f_l1 h.f_ifs) (fun s1 H cc cl fp => (h.f_elt (kx_blk K h.f_hf scope s1 H cc cl fp)).1) (fold_ok h.f_set _)
    exact e_comp (K.gd h.f_hf) (itArgs_nd e1) b2 (slots_of h.f_sl) (it_ok K e1 e2) b1 (fun s1 H cc cl fp => tg_ok (kx_blk K h.f_hf scope s1 H cc cl fp) h.f_tg) (fun s1 H cc cl fp => pts_of (kx_blk K h.f_hf scope s1 H cc cl fp) h.f_l1 h.f_ifs) (fun s1 H cc cl fp => (h.f_elt (kx_blk K h.f_hf scope s1 H cc cl fp)).1) (fold_ok h.f_set _)
structure CompG2 (c : CK) (s : Sx) (elt tg it tg1 it1 : Expr) (ifs ifs1 : List Expr) (scope : Scope) (own own1 : List Nat) (t t1 : Tg) (ik ik1 : IK) (ie ifsI ie1 ifsI1 : List E) (eltI : E) : Prop where
  f_hf : s.full = true
  f_blk : ckBlk c s scope own = true
  f_tg : ckTg c (blkSx s scope) t tg = true
  f_tg1 : ckTg c (blkSx s scope) t1 tg1 = true
  f_sl : t.slots.all (fun i => own.contains i) = true
  f_sl1 : t1.slots.all (fun i => own1.contains i) = true
  f_sub : own1.all (fun i => own.contains i) = true
  f_set : isSet it = false
  f_set1 : isSet it1 = false
  f_l1 : ifs.length ≤ 1
  f_l2 : ifs1.length ≤ 1
  f_it : ∃ es, itArgs s ik tg it = some es ∧ Paired (Good c s) es ie
  f_ifs : Paired (Good c (blkSx s scope)) ifs ifsI
  f_it1 : ∃ es, itArgs (blkSx s scope) ik1 tg1 it1 = some es ∧ Paired (Good c (blkSx s scope)) es ie1
  f_ifs1 : Paired (Good c (blkSx s scope)) ifs1 ifsI1
  f_elt : Good c (blkSx s scope) elt eltI
theorem sub_of {own own1 : List Nat} (h : own1.all (fun i => own.contains i) = true) : ∀ i ∈ own1, i ∈ own := fun i hi => by
  simpa using List.all_eq_true.mp h i hi
theorem g_comp2 {m : Bool} {elt tg it tg1 it1 : Expr} {ifs ifs1 : List Expr} {scope : Scope} {own own1 : List Nat} {t t1 : Tg} {ik ik1 : IK} {ie ifsI ie1 ifsI1 : List E} {eltI : E} {pos : Pos} (h : CompG2 c s elt tg it tg1 it1 ifs ifs1 scope own own1 t t1 ik ik1 ie ifsI ie1 ifsI1 eltI) :
    Good c s (.ListComp elt [⟨tg, it, ifs, 0⟩, ⟨tg1, it1, ifs1, 0⟩] scope pos) (.comp2 m own t ik ie ifsI own1 t1 ik1 ie1 ifsI1 eltI) :=
  good_of rfl fun K => by
    obtain ⟨b1, b2⟩ := blk_ok K h.f_blk
    obtain ⟨es, e1, e2⟩ := h.f_it
    obtain ⟨es1, f1, f2⟩ := h.f_it1
    exact e_comp2 (K.gd h.f_hf) b2 (slots_of h.f_sl) (slots_of h.f_sl1) (sub_of h.f_sub) (it_ok K e1 e2) b1 (fun s1 H cc cl fp => tg_ok (kx_blk K h.f_hf scope s1 H cc cl fp) h.f_tg) (fun s1 H cc cl fp => pts_of (kx_blk K h.f_hf scope s1 H cc cl fp) h.f_l1 h.f_ifs)
      (fun s1 H cc cl fp => it_ok (kx_blk K h.f_hf scope s1 H cc cl fp) f1 f2) (fun s1 H cc cl fp => tg_ok (kx_blk K h.f_hf scope s1 H cc cl fp) h.f_tg1) (fun s1 H cc cl fp => pts_of (kx_blk K h.f_hf scope s1 H cc cl fp) h.f_l2 h.f_ifs1)
      (fun s1 H cc cl fp => (h.f_elt (kx_blk K h.f_hf scope s1 H cc cl fp)).1) (fold_ok h.f_set _) (fun env x => fold_ok h.f_set1 env x)
structure CompGD (c : CK) (s : Sx) (kx vx tg it : Expr) (scope : Scope) (own : List Nat) (t : Tg) (ik : IK) (ie : List E) (kI vI : E) : Prop where
  f_hf : s.full = true
  f_blk : ckBlk c s scope own = true
  f_tg : ckTg c (blkSx s scope) t tg = true
  f_sl : t.slots.all (fun i => own.contains i) = true
  f_set : isSet it = false
  f_it : (∃ es, itArgs s ik tg it = some es ∧ Paired (Good c s) es ie) ∨ ∃ i, ie = [.var i] ∧ itK c s ik tg it i = true
  f_k : Good c (blkSx s scope) kx kI
  f_v : Good c (blkSx s scope) vx vI
theorem g_dcomp {m : Bool} {kx vx tg it : Expr} {scope : Scope} {own : List Nat} {t : Tg} {ik : IK} {ie : List E} {kI vI : E} {pos : Pos} (h : CompGD c s kx vx tg it scope own t ik ie kI vI) : Good c s (.DictComp kx vx [⟨tg, it, [], 0⟩] scope pos) (.dcomp m own t ik ie kI vI) :=
  good_of rfl fun K => by
    obtain ⟨b1, b2⟩ := blk_ok K h.f_blk
    rcases h.f_it with ⟨es, e1, e2⟩ | ⟨i, rfl, e1⟩
    case inr =>
      obtain ⟨d1, d2⟩ := itK_ok K e1
      exact e_dcompK (K.gd h.f_hf) d1 b2 (slots_of h.f_sl) d2 b1 (fun s1 H cc cl fp => tg_ok (kx_blk K h.f_hf scope s1 H cc cl fp) h.f_tg) (fun s1 H cc cl fp => (h.f_k (kx_blk K h.f_hf scope s1 H cc cl fp)).1) (fun s1 H cc cl fp => (h.f_v (kx_blk K h.f_hf scope s1 H cc cl fp)).1) (fold_ok h.f_set _)
    exact e_dcomp (K.gd h.f_hf) (itArgs_nd e1) b2 (slots_of h.f_sl) (it_ok K e1 e2) b1 (fun s1 H cc cl fp => tg_ok (kx_blk K h.f_hf scope s1 H cc cl fp) h.f_tg) (fun s1 H cc cl fp => (h.f_k (kx_blk K h.f_hf scope s1 H cc cl fp)).1) (fun s1 H cc cl fp => (h.f_v (kx_blk K h.f_hf scope s1 H cc cl fp)).1) (fold_ok h.f_set _)
end
end PM
set_option Elab.async false
set_option linter.all false
set_option autoImplicit false
set_option maxHeartbeats 8000000
/-! PMChk4: the checker of expressions. -/
namespace PM
open PySem PySem.Spec PyProof.Rows L2
def oneT : List Expr → Bool
  | [] => true
  | [_] => true
  | _ => false
mutual
def ckE (c : CK) : E → Sx → Expr → Bool
  | .var i, s, e => (match e with
    | .Name x _ => atN c.N i x && ckVis s.sc x && okNm x
    | _ => false)
  | .xval i f, s, e => (match e with
    | .Attribute (.Name x _) n _ => s.cur && atN c.N i x && ckVis s.sc x && okNm x && isS n f && c.xats.contains f
    | _ => false)
  | .cst d, s, e => ckCst d e
  | .glb g, s, e => (match e with
    | .Name x _ => isS x g && ckGl s.sc x && okNm x
    | _ => false)
  | .op o m a b, s, e => (match e with
    | .BinOp l op r _ => binOk o op && ckE c a s l && ckE c b s r
    | .Compare l [op] [r] _ => cmpOk o op && !behindInMarks op r && ckE c a s l && ckE c b s r
    | _ => false)
  | .own ne a b, s, e => (match e with
    | .Compare l [.Eq] [r] _ => !ne && s.full && !behindInMarks .Eq r && ckE c a s l && ckE c b s r
    | _ => false)
  | .chn o o' a b d, s, e => (match e with
    | .Compare l [op, op'] [r, r'] _ => cmpOk o op && cmpOk o' op' && !lastMarks [op, op'] [r, r'] && ckE c a s l && ckE c b s r && ckE c d s r'
    | _ => false)
  | .neg a, s, e => (match e with
    | .UnaryOp .USub x _ => ckE c a s x
    | _ => false)
  | .not a, s, e => (match e with
    | .UnaryOp .Not x _ => ckE c a s x
    | _ => false)
  | .bop and is, s, e => (match e with
    | .BoolOp op es _ => decide (op = if and then .And else .Or) && !es.isEmpty && ckL c is s es
    | _ => false)
  | .ite t a b, s, e => (match e with
    | .IfExp te ae be _ => ckE c t s te && ckE c a s ae && ckE c b s be
    | _ => false)
  | .isi a Ts, s, e => (match e with
    | .Call (.Name x _) [ae, te] [] _ => isS x "isinstance" && ckGl s.sc x && !isSt ae && (match te, Ts with
        | .Tuple tes _ _, Ts => !Ts.isEmpty && decide (Ts.length ≤ 100) && ckTys c s Ts tes
        | te, [T] => ckTy c s T te
        | _, _ => false) && ckE c a s ae
    | _ => false)
  | .call f is ks, s, e => (match e with
    | .Call (.Name x _) es kws _ => s.full && isS x f && ckGl s.sc x && okNm x && c.sh.fn f es.length ks && nsAll es && kwOk kws ks && ckL c is s (es ++ kws.map (·.value))
    | _ => false)
  | .make z f is ks, s, e => (match e with
    | .Call (.Name x _) es kws _ => s.full && isS x f && ckGl s.sc x && okNm x && c.sh.mkc f es.length ks && nsAll es && kwOk kws ks && ckL c is s (es ++ kws.map (·.value))
    | _ => false)
  | .meth m o is ks, s, e => (match e with
    | .Call (.Attribute oe y apos) es kws pos => s.full && isS y m && notSuper oe && c.sh.me m es.length ks && nsAll es && kwOk kws ks && decide (es.length + kws.length < 20) && (apos.endLine == pos.line) && ckE c o s oe && ckL c is s (es ++ kws.map (·.value))
    | _ => false)
  | .fld o f, s, e => (match e with
    | .Attribute oe y _ => s.full && isS y f && notSuper oe && ckE c o s oe
    | _ => false)
  | .ix a i, s, e => (match e with
    | .Subscript x y _ => !isSl y && ckE c a s x && ckE c i s y
    | _ => false)
  | .sl m a lo hi, s, e => (match e with
    | .Subscript x (.Slice l h none _) _ => ckE c a s x && ckO c lo s l && ckO c hi s h
    | _ => false)
  | .rev m a, s, e => (match e with
    | .Subscript x (.Slice none none (some (.UnaryOp .USub (.Constant (.int 1) _ _) _)) _) _ => ckE c a s x
    | _ => false)
  | .tup ss is, s, e => (match e with
    | .Tuple es _ _ => ckS c ss is s es
    | _ => false)
  | .lst m ss is, s, e => (match e with
    | .List es _ => ckS c ss is s es
    | _ => false)
  | .dsp m is, s, e => (match e with
    | .Dict ks vs _ => decide (ks.length ≤ 15) && ckD c is s ks vs
    | _ => false)
  | .comp m own t ik ie ifsI eltI, s, e => (match e with
    | .ListComp elt [⟨tg, it, ifs, 0⟩] scope _ => s.full && ckBlk c s scope own && ckTg c (blkSx s scope) t tg && t.slots.all (fun i => own.contains i) && !isSet it && oneT ifs && ((match itArgs s ik tg it with
        | some es => ckL c ie s es
        | none => false) || (match ie with
        | [.var i] => itK c s ik tg it i
        | _ => false)) && ckL c ifsI (blkSx s scope) ifs && ckE c eltI (blkSx s scope) elt
    | _ => false)
  | .comp2 m own t ik ie ifsI own1 t1 ik1 ie1 ifsI1 eltI, s, e => (match e with
    | .ListComp elt [⟨tg, it, ifs, 0⟩, ⟨tg1, it1, ifs1, 0⟩] scope _ => s.full && ckBlk c s scope own && ckTg c (blkSx s scope) t tg && ckTg c (blkSx s scope) t1 tg1 && t.slots.all (fun i => own.contains i) && t1.slots.all (fun i => own1.contains i) && own1.all (fun i => own.contains i) && !isSet it && !isSet it1 && oneT ifs && oneT ifs1 && (match itArgs s ik tg it with
        | some es => ckL c ie s es
        | none => false) && ckL c ifsI (blkSx s scope) ifs && (match itArgs (blkSx s scope) ik1 tg1 it1 with
        | some es => ckL c ie1 (blkSx s scope) es
        | none => false) && ckL c ifsI1 (blkSx s scope) ifs1 && ckE c eltI (blkSx s scope) elt
    | _ => false)
  | .dcomp m own t ik ie kI vI, s, e => (match e with
    | .DictComp kx vx [⟨tg, it, [], 0⟩] scope _ => s.full && ckBlk c s scope own && ckTg c (blkSx s scope) t tg && t.slots.all (fun i => own.contains i) && !isSet it && ((match itArgs s ik tg it with
        | some es => ckL c ie s es
        | none => false) || (match ie with
        | [.var i] => itK c s ik tg it i
        | _ => false)) && ckE c kI (blkSx s scope) kx && ckE c vI (blkSx s scope) vx
    | _ => false)
  | .bi f m is, s, e => (match e with
    | .Call (.Name x _) [.Call (.Attribute oe y apos) [] [] mpos] [] _ => if f == "listvals" then s.full && isS x "list" && ckGl s.sc x && isS y "values" && notSuper oe && (apos.endLine == mpos.line) && ckL c is s [oe]
        else biOk s f && isS x f && ckGl s.sc x && ckL c is s [.Call (.Attribute oe y apos) [] [] mpos]
    | .Call (.Name x _) [.Call (.Name y yp) [oe] [] mpos] [] _ => if f == "lenset" then s.full && isS x "len" && ckGl s.sc x && isS y "set" && ckGl s.sc y && !isSt oe && ckL c is s [oe]
        else if f == "sortedset" then s.full && isS x "sorted" && ckGl s.sc x && isS y "set" && ckGl s.sc y && !isSt oe && ckL c is s [oe]
        else biOk s f && isS x f && ckGl s.sc x && ckL c is s [.Call (.Name y yp) [oe] [] mpos]
    | .Call (.Name x _) (e1 :: es) [] _ => biOk s f && isS x f && ckGl s.sc x && nsAll (e1 :: es) && ckL c is s (e1 :: es)
    | _ => false)
  | .bm f m o is, s, e => (match e with
    | .Call (.Attribute oe y apos) es [] pos => isS y (if f == "dpop" then "pop" else f) && notSuper oe && (apos.endLine == pos.line) && nsAll es && ckE c o s oe && ckL c is s es && (match es with
        | [] => ["pop", "reverse", "isdigit"].contains f
        | [_] => ["append", "pop", "extend", "index", "join", "get", "dpop"].contains f
        | [_, _] => ["insert", "get"].contains f
        | _ => false)
    | _ => false)
  | .star _ _ _, _, _ => false
  | .mkx n a, s, e => (match e with
    | .Call (.Name x _) [ae] [] _ => s.full && isS x n && ckGl s.sc x && okNm x && c.xcs.contains n && !isSt ae && ckE c a s ae
    | .Call (.Name x _) [] [⟨some fa, ae, _⟩] _ => s.full && isS x n && ckGl s.sc x && okNm x && c.xas.any (fun p => p.1 == n && isS fa p.2) && ckE c a s ae
    | _ => false)
  | .isx a yn yes, s, e => (match e with
    | .Call (.Name x _) [ae, .Name y _] [] _ => isS x "isinstance" && ckGl s.sc x && !isSt ae && isS y yn && ckGl s.sc y && okNm y && c.xis.contains (yn, yes) && ckE c a s ae
    | _ => false)
  | .dup m a k v, s, e => (match e with
    | .Dict [none, some ke] [ae, ve] _ => ckE c a s ae && ckE c k s ke && ckE c v s ve
    | _ => false)
  | .kin neg a x, s, e => (match e with
    | .Compare l [op] [.Name y q] _ => decide (op = if neg then .NotIn else .In) && isS y x && ckGl s.sc y && okNm y && !behindInMarks op (.Name y q) && ckE c a s l
    | _ => false)
  | .kget x a, s, e => (match e with
    | .Subscript (.Name y _) ie _ => isS y x && ckGl s.sc y && okNm y && !isSl ie && ckE c a s ie
    | _ => false)
def ckL (c : CK) : List E → Sx → List Expr → Bool
  | [], _, [] => true
  | i :: is, s, e :: es => ckE c i s e && ckL c is s es
  | _, _, _ => false
def ckS (c : CK) : List Bool → List E → Sx → List Expr → Bool
  | _, [], _, [] => true
  | false :: ss, i :: is, s, e :: es => !isSt e && ckE c i s e && ckS c ss is s es
  | true :: ss, i :: is, s, e :: es => (match e with
    | .Starred e _ => s.full && ckE c i s e && ckS c ss is s es
    | _ => false)
  | _, _, _, _ => false
def ckO (c : CK) : Option E → Sx → Option Expr → Bool
  | none, _, none => true
  | some i, s, some e => ckE c i s e
  | _, _, _ => false
def ckD (c : CK) : List E → Sx → List (Option Expr) → List Expr → Bool
  | [], _, [], [] => true
  | k :: v :: is, s, some ke :: ks, ve :: vs => ckE c k s ke && ckE c v s ve && ckD c is s ks vs
  | _, _, _, _ => false
end
end PM
set_option Elab.async false
set_option linter.all false
set_option autoImplicit false
set_option maxHeartbeats 8000000
/-! PMChk5: the checker of expressions is right. -/
namespace PM
open PySem PySem.Spec PyProof.Rows L2
theorem oneT_ok {es : List Expr} (h : oneT es = true) : es.length ≤ 1 := by
  match es, h with
  | [], _ => exact Nat.zero_le _
  | [_], _ => exact Nat.le_refl _
  | _ :: _ :: _, h => cases h
mutual
theorem ckE_ok (c : CK) : ∀ (i : E) (s : Sx) (e : Expr), ckE c i s e = true → Good c s e i
  | .var i, s, e, h => by
    unfold ckE at h
    split at h
    · obtain ⟨h, h3⟩ := an h
      obtain ⟨h1, h2⟩ := an h
      exact g_var h1 h2 h3
    · cases h
  | .xval i f, s, e, h => by
    unfold ckE at h
    split at h
    · obtain ⟨h, h6⟩ := an h
      obtain ⟨h, h5⟩ := an h
      obtain ⟨h, h4⟩ := an h
      obtain ⟨h, h3⟩ := an h
      obtain ⟨h1, h2⟩ := an h
      exact g_xval h1 h2 h3 h4 h5 h6
    · cases h
  | .cst d, s, e, h => by
    unfold ckE at h
    exact g_cst h
  | .glb g, s, e, h => by
    unfold ckE at h
    split at h
    · obtain ⟨h, h3⟩ := an h
      obtain ⟨h1, h2⟩ := an h
      exact g_glb h1 h2 h3
    · cases h
  | .op o m a b, s, e, h => by
    unfold ckE at h
    split at h
    · obtain ⟨h, h3⟩ := an h
      obtain ⟨h1, h2⟩ := an h
      exact g_bin h1 (ckE_ok c a s _ h2) (ckE_ok c b s _ h3)
    · obtain ⟨h, h4⟩ := an h
      obtain ⟨h, h3⟩ := an h
      obtain ⟨h1, h2⟩ := an h
      exact g_cmp h1 (nt h2) (ckE_ok c a s _ h3) (ckE_ok c b s _ h4)
    · cases h
  | .own ne a b, s, e, h => by
    unfold ckE at h
    split at h
    · obtain ⟨h, h5⟩ := an h
      obtain ⟨h, h4⟩ := an h
      obtain ⟨h, h3⟩ := an h
      obtain ⟨h1, h2⟩ := an h
      have e1 := nt h1
      subst e1
      exact g_own h2 (nt h3) (ckE_ok c a s _ h4) (ckE_ok c b s _ h5)
    · cases h
  | .chn o o' a b d, s, e, h => by
    unfold ckE at h
    split at h
    · obtain ⟨h, h6⟩ := an h
      obtain ⟨h, h5⟩ := an h
      obtain ⟨h, h4⟩ := an h
      obtain ⟨h, h3⟩ := an h
      obtain ⟨h1, h2⟩ := an h
      exact g_chn h1 h2 (nt h3) (ckE_ok c a s _ h4) (ckE_ok c b s _ h5) (ckE_ok c d s _ h6)
    · cases h
  | .neg a, s, e, h => by
    unfold ckE at h
    split at h
    · exact g_neg (ckE_ok c a s _ h)
    · cases h
  | .not a, s, e, h => by
    unfold ckE at h
    split at h
    · exact g_not (ckE_ok c a s _ h)
    · cases h
  | .bop and is, s, e, h => by
    unfold ckE at h
    split at h
    · obtain ⟨h, h3⟩ := an h
      obtain ⟨h1, h2⟩ := an h
      exact g_bop (of_decide_eq_true h1) (fun e => by rw [e] at h2; cases h2) (ckL_ok c is s _ h3)
    · cases h
  | .ite t a b, s, e, h => by
    unfold ckE at h
    split at h
    · obtain ⟨h, h3⟩ := an h
      obtain ⟨h1, h2⟩ := an h
      exact g_ite (ckE_ok c t s _ h1) (ckE_ok c a s _ h2) (ckE_ok c b s _ h3)
    · cases h
  | .isi a Ts, s, e, h => by
    unfold ckE at h
    split at h
    · obtain ⟨h, h5⟩ := an h
      obtain ⟨h, h4⟩ := an h
      obtain ⟨h, h3⟩ := an h
      obtain ⟨h1, h2⟩ := an h
      split at h4
      · obtain ⟨h4, h7⟩ := an h4
        obtain ⟨h8, h6⟩ := an h4
        exact g_isiT h1 h2 (nt h3) (fun e => by rw [e] at h8; cases h8) (of_decide_eq_true h6) h7 (ckE_ok c a s _ h5)
      · exact g_isi1 h1 h2 (nt h3) h4 (ckE_ok c a s _ h5)
      · cases h4
    · cases h
  | .call f is ks, s, e, h => by
    unfold ckE at h
    split at h
    · obtain ⟨h, h8⟩ := an h
      obtain ⟨h, h7⟩ := an h
      obtain ⟨h, h6⟩ := an h
      obtain ⟨h, h5⟩ := an h
      obtain ⟨h, h4⟩ := an h
      obtain ⟨h, h3⟩ := an h
      obtain ⟨h1, h2⟩ := an h
      exact g_call h1 h2 h3 h4 h5 h6 h7 (ckL_ok c is s _ h8)
    · cases h
  | .make z f is ks, s, e, h => by
    unfold ckE at h
    split at h
    · obtain ⟨h, h8⟩ := an h
      obtain ⟨h, h7⟩ := an h
      obtain ⟨h, h6⟩ := an h
      obtain ⟨h, h5⟩ := an h
      obtain ⟨h, h4⟩ := an h
      obtain ⟨h, h3⟩ := an h
      obtain ⟨h1, h2⟩ := an h
      exact g_make h1 h2 h3 h4 h5 h6 h7 (ckL_ok c is s _ h8)
    · cases h
  | .meth m o is ks, s, e, h => by
    unfold ckE at h
    split at h
    · obtain ⟨h, h10⟩ := an h
      obtain ⟨h, h9⟩ := an h
      obtain ⟨h, h8⟩ := an h
      obtain ⟨h, h7⟩ := an h
      obtain ⟨h, h6⟩ := an h
      obtain ⟨h, h5⟩ := an h
      obtain ⟨h, h4⟩ := an h
      obtain ⟨h, h3⟩ := an h
      obtain ⟨h1, h2⟩ := an h
      exact g_meth h1 h2 h3 h4 h5 h6 (of_decide_eq_true h7) h8 (ckE_ok c o s _ h9) (ckL_ok c is s _ h10)
    · cases h
  | .fld o f, s, e, h => by
    unfold ckE at h
    split at h
    · obtain ⟨h, h4⟩ := an h
      obtain ⟨h, h3⟩ := an h
      obtain ⟨h1, h2⟩ := an h
      exact g_fld h1 h2 h3 (ckE_ok c o s _ h4)
    · cases h
  | .ix a i, s, e, h => by
    unfold ckE at h
    split at h
    · obtain ⟨h, h3⟩ := an h
      obtain ⟨h1, h2⟩ := an h
      exact g_ix (nt h1) (ckE_ok c a s _ h2) (ckE_ok c i s _ h3)
    · cases h
  | .sl m a lo hi, s, e, h => by
    unfold ckE at h
    split at h
    · obtain ⟨h, h3⟩ := an h
      obtain ⟨h1, h2⟩ := an h
      exact g_sl (ckE_ok c a s _ h1) (ckO_ok c lo s _ h2) (ckO_ok c hi s _ h3)
    · cases h
  | .rev m a, s, e, h => by
    unfold ckE at h
    split at h
    · exact g_rev (ckE_ok c a s _ h)
    · cases h
  | .tup ss is, s, e, h => by
    unfold ckE at h
    split at h
    · exact g_tup (ckS_ok c ss is s _ h)
    · cases h
  | .lst m ss is, s, e, h => by
    unfold ckE at h
    split at h
    · exact g_lst (ckS_ok c ss is s _ h)
    · cases h
  | .dsp m is, s, e, h => by
    unfold ckE at h
    split at h
    · obtain ⟨h1, h2⟩ := an h
      exact g_dsp (of_decide_eq_true h1) (ckD_ok c is s _ _ h2)
    · cases h
  | .comp m own t ik ie ifsI eltI, s, e, h => by
    unfold ckE at h
    split at h
    · obtain ⟨h, h9⟩ := an h
      obtain ⟨h, h8⟩ := an h
      obtain ⟨h, h7⟩ := an h
      obtain ⟨h, h6⟩ := an h
      obtain ⟨h, h5⟩ := an h
      obtain ⟨h, h4⟩ := an h
      obtain ⟨h, h3⟩ := an h
      obtain ⟨h1, h2⟩ := an h
      rw [Bool.or_eq_true] at h7
      rcases h7 with h7 | h7
      · split at h7
        · rename_i es e7
          exact g_comp ⟨h1, h2, h3, h4, nt h5, oneT_ok h6, .inl ⟨es, e7, ckL_ok c ie s _ h7⟩, ckL_ok c ifsI _ _ h8, ckE_ok c eltI _ _ h9⟩
        · cases h7
      · split at h7
        · exact g_comp ⟨h1, h2, h3, h4, nt h5, oneT_ok h6, .inr ⟨_, rfl, h7⟩, ckL_ok c ifsI _ _ h8, ckE_ok c eltI _ _ h9⟩
        · cases h7
    · cases h
  | .comp2 m own t ik ie ifsI own1 t1 ik1 ie1 ifsI1 eltI, s, e, h => by
    unfold ckE at h
    split at h
    · obtain ⟨h, h16⟩ := an h
      obtain ⟨h, h15⟩ := an h
      obtain ⟨h, h14⟩ := an h
      obtain ⟨h, h13⟩ := an h
      obtain ⟨h, h12⟩ := an h
      obtain ⟨h, h11⟩ := an h
      obtain ⟨h, h10⟩ := an h
      obtain ⟨h, h9⟩ := an h
      obtain ⟨h, h8⟩ := an h
      obtain ⟨h, h7⟩ := an h
      obtain ⟨h, h6⟩ := an h
      obtain ⟨h, h5⟩ := an h
      obtain ⟨h, h4⟩ := an h
      obtain ⟨h, h3⟩ := an h
      obtain ⟨h1, h2⟩ := an h
      split at h12
      · rename_i es e12
        split at h14
        · rename_i es1 e14
          exact g_comp2 ⟨h1, h2, h3, h4, h5, h6, h7, nt h8, nt h9, oneT_ok h10, oneT_ok h11, ⟨es, e12, ckL_ok c ie s _ h12⟩, ckL_ok c ifsI _ _ h13, ⟨es1, e14, ckL_ok c ie1 _ _ h14⟩, ckL_ok c ifsI1 _ _ h15, ckE_ok c eltI _ _ h16⟩
        · cases h14
      · cases h12
    · cases h
  | .dcomp m own t ik ie kI vI, s, e, h => by
    unfold ckE at h
    split at h
    · obtain ⟨h, h8⟩ := an h
      obtain ⟨h, h7⟩ := an h
      obtain ⟨h, h6⟩ := an h
      obtain ⟨h, h5⟩ := an h
      obtain ⟨h, h4⟩ := an h
      obtain ⟨h, h3⟩ := an h
      obtain ⟨h1, h2⟩ := an h
      rw [Bool.or_eq_true] at h6
      rcases h6 with h6 | h6
      · split at h6
        · rename_i es e6
          exact g_dcomp ⟨h1, h2, h3, h4, nt h5, .inl ⟨es, e6, ckL_ok c ie s _ h6⟩, ckE_ok c kI _ _ h7, ckE_ok c vI _ _ h8⟩
        · cases h6
      · split at h6
        · exact g_dcomp ⟨h1, h2, h3, h4, nt h5, .inr ⟨_, rfl, h6⟩, ckE_ok c kI _ _ h7, ckE_ok c vI _ _ h8⟩
        · cases h6
    · cases h
  | .bi f m is, s, e, h => by
    unfold ckE at h
    split at h
    · split at h
      · rename_i hf
        obtain ⟨h, h7⟩ := an h
        obtain ⟨h, h6⟩ := an h
        obtain ⟨h, h5⟩ := an h
        obtain ⟨h, h4⟩ := an h
        obtain ⟨h, h3⟩ := an h
        obtain ⟨h1, h2⟩ := an h
        have e := beq_iff_eq.mp hf
        subst e
        have q := ckL_ok c is s _ h7
        cases q with
        | cons a b => cases b; exact g_listvals h1 h2 h3 h4 h5 h6 a
      · obtain ⟨h, h4⟩ := an h
        obtain ⟨h, h3⟩ := an h
        obtain ⟨h1, h2⟩ := an h
        exact g_bi h1 h2 h3 rfl (ckL_ok c is s _ h4)
    · split at h
      · rename_i hf
        obtain ⟨h, h7⟩ := an h
        obtain ⟨h, h6⟩ := an h
        obtain ⟨h, h5⟩ := an h
        obtain ⟨h, h4⟩ := an h
        obtain ⟨h, h3⟩ := an h
        obtain ⟨h1, h2⟩ := an h
        have e := beq_iff_eq.mp hf
        subst e
        have q := ckL_ok c is s _ h7
        cases q with
        | cons a b => cases b; exact g_lenset h1 h2 h3 h4 h5 (nt h6) a
      · split at h
        · rename_i hf
          obtain ⟨h, h7⟩ := an h
          obtain ⟨h, h6⟩ := an h
          obtain ⟨h, h5⟩ := an h
          obtain ⟨h, h4⟩ := an h
          obtain ⟨h, h3⟩ := an h
          obtain ⟨h1, h2⟩ := an h
          have e := beq_iff_eq.mp hf
          subst e
          have q := ckL_ok c is s _ h7
          cases q with
          | cons a b => cases b; exact g_sortedset h1 h2 h3 h4 h5 (nt h6) a
        obtain ⟨h, h4⟩ := an h
        obtain ⟨h, h3⟩ := an h
        obtain ⟨h1, h2⟩ := an h
        exact g_bi h1 h2 h3 rfl (ckL_ok c is s _ h4)
    · obtain ⟨h, h5⟩ := an h
      obtain ⟨h, h4⟩ := an h
      obtain ⟨h, h3⟩ := an h
      obtain ⟨h1, h2⟩ := an h
      exact g_bi h1 h2 h3 h4 (ckL_ok c is s _ h5)
    · cases h
  | .bm f m o is, s, e, h => by
    unfold ckE at h
    split at h
    · obtain ⟨h, h7⟩ := an h
      obtain ⟨h, h6⟩ := an h
      obtain ⟨h, h5⟩ := an h
      obtain ⟨h, h4⟩ := an h
      obtain ⟨h, h3⟩ := an h
      obtain ⟨h1, h2⟩ := an h
      have q := ckL_ok c is s _ h6
      have qo : Good c s _ o := ckE_ok c o s _ h5
      by_cases hdp : f = "dpop"
      · subst hdp
        split at h7
        · cases h7
        · cases q with
          | cons a b =>
            cases b
            obtain ⟨n1, _⟩ := an (show (!isSt _ && nsAll []) = true from h4)
            exact g_dpop h1 h2 h3 (nt n1) qo a
        · cases h7
        · cases h7
      have hne : (f == "dpop") = false := by simpa using hdp
      rw [hne] at h1
      rw [if_neg Bool.false_ne_true] at h1
      split at h7
      · cases q
        refine g_bm0 ?_ h1 h2 h3 qo
        simpa using h7
      · have h7' : f ∈ ["append", "pop", "extend", "index", "join", "get", "dpop"] := by simpa using h7
        by_cases hg : f = "get"
        · subst hg
          cases q with
          | cons a b =>
            cases b
            obtain ⟨n1, _⟩ := an (show (!isSt _ && nsAll []) = true from h4)
            exact g_get h1 h2 h3 (nt n1) qo a
        · refine g_bm ?_ h1 h2 h3 h4 (by simp) qo q
          simp only [List.mem_cons, List.not_mem_nil, or_false] at h7'
          rcases h7' with e | e | e | e | e | e | e
          · exact .inl e
          · exact .inr (.inl e)
          · exact .inr (.inr (.inr (.inl e)))
          · exact .inr (.inr (.inr (.inr (.inl e))))
          · exact .inr (.inr (.inr (.inr (.inr e))))
          · exact absurd e hg
          · exact absurd e hdp
      · have h7' : f ∈ ["insert", "get"] := by simpa using h7
        simp only [List.mem_cons, List.not_mem_nil, or_false] at h7'
        rcases h7' with e | e
        · exact g_bm (.inr (.inr (.inl e))) h1 h2 h3 h4 (by simp) qo q
        · subst e
          cases q with
          | cons a b =>
            cases b with
            | cons b d =>
              cases d
              obtain ⟨n1, n2⟩ := an (show (!isSt _ && nsAll [_]) = true from h4)
              obtain ⟨n2, _⟩ := an (show (!isSt _ && nsAll []) = true from n2)
              exact g_get2 h1 h2 h3 (nt n1) (nt n2) qo a b
      · cases h7
    · cases h
  | .star _ _ _, s, e, h => by unfold ckE at h; cases h
  | .mkx n a, s, e, h => by
    unfold ckE at h
    split at h
    · obtain ⟨h, h7⟩ := an h
      obtain ⟨h, h6⟩ := an h
      obtain ⟨h, h5⟩ := an h
      obtain ⟨h, h4⟩ := an h
      obtain ⟨h, h3⟩ := an h
      obtain ⟨h1, h2⟩ := an h
      exact g_mkx h1 h2 h3 h4 (by simpa using h5) (nt h6) (ckE_ok c a s _ h7)
    · obtain ⟨h, h7⟩ := an h
      obtain ⟨h, h5⟩ := an h
      obtain ⟨h, h4⟩ := an h
      obtain ⟨h, h3⟩ := an h
      obtain ⟨h1, h2⟩ := an h
      obtain ⟨p, hp, hq⟩ := List.any_eq_true.mp h5
      obtain ⟨q1, q2⟩ := an hq
      have e1 := beq_iff_eq.mp q1
      exact g_mkxK h1 h2 h3 h4 (a := p.2) (by rw [← e1]; exact hp) q2 (ckE_ok c a s _ h7)
    · cases h
  | .isx a yn yes, s, e, h => by
    unfold ckE at h
    split at h
    · obtain ⟨h, h8⟩ := an h
      obtain ⟨h, h7⟩ := an h
      obtain ⟨h, h6⟩ := an h
      obtain ⟨h, h5⟩ := an h
      obtain ⟨h, h4⟩ := an h
      obtain ⟨h, h3⟩ := an h
      obtain ⟨h1, h2⟩ := an h
      exact g_isx h1 h2 (nt h3) h4 h5 h6 (by simpa using h7) (ckE_ok c a s _ h8)
    · cases h
  | .dup m a k v, s, e, h => by
    unfold ckE at h
    split at h
    · obtain ⟨h, h3⟩ := an h
      obtain ⟨h1, h2⟩ := an h
      exact g_dup (ckE_ok c a s _ h1) (ckE_ok c k s _ h2) (ckE_ok c v s _ h3)
    · cases h
  | .kin neg a x, s, e, h => by
    unfold ckE at h
    split at h
    · obtain ⟨h, h6⟩ := an h
      obtain ⟨h, h5⟩ := an h
      obtain ⟨h, h4⟩ := an h
      obtain ⟨h, h3⟩ := an h
      obtain ⟨h1, h2⟩ := an h
      exact g_kin (of_decide_eq_true h1) h2 h3 h4 (nt h5) (ckE_ok c a s _ h6)
    · cases h
  | .kget x a, s, e, h => by
    unfold ckE at h
    split at h
    · obtain ⟨h, h5⟩ := an h
      obtain ⟨h, h4⟩ := an h
      obtain ⟨h, h3⟩ := an h
      obtain ⟨h1, h2⟩ := an h
      exact g_kget h1 h2 h3 (nt h4) (ckE_ok c a s _ h5)
    · cases h
theorem ckL_ok (c : CK) : ∀ (is : List E) (s : Sx) (es : List Expr), ckL c is s es = true → Paired (Good c s) es is
  | [], s, [], h => .nil
  | i :: is, s, e :: es, h => by
    unfold ckL at h
    obtain ⟨h1, h2⟩ := an h
    exact .cons (ckE_ok c i s e h1) (ckL_ok c is s es h2)
  | [], s, _ :: _, h => by simp [ckL] at h
  | _ :: _, s, [], h => by simp [ckL] at h
theorem ckS_ok (c : CK) : ∀ (ss : List Bool) (is : List E) (s : Sx) (es : List Expr), ckS c ss is s es = true → GoodS c s es ss is
  | _, [], s, [], h => .nil
  | false :: ss, i :: is, s, e :: es, h => by
    unfold ckS at h
    obtain ⟨h, h3⟩ := an h
    obtain ⟨h1, h2⟩ := an h
    exact .pl (nt h1) (ckE_ok c i s e h2) (ckS_ok c ss is s es h3)
  | true :: ss, i :: is, s, e :: es, h => by
    unfold ckS at h
    split at h
    · obtain ⟨h, h3⟩ := an h
      obtain ⟨h1, h2⟩ := an h
      exact .st h1 (ckE_ok c i s _ h2) (ckS_ok c ss is s es h3)
    · cases h
  | [], i :: is, s, es, h => by simp [ckS] at h
  | _, [], s, _ :: _, h => by simp [ckS] at h
  | _ :: _, _ :: _, s, [], h => by simp [ckS] at h
theorem ckO_ok (c : CK) : ∀ (i : Option E) (s : Sx) (e : Option Expr), ckO c i s e = true → GoodO c s e i
  | none, s, none, h => .none
  | some i, s, some e, h => by
    unfold ckO at h
    exact .some (ckE_ok c i s e h)
  | none, s, some _, h => by simp [ckO] at h
  | some _, s, none, h => by simp [ckO] at h
theorem ckD_ok (c : CK) : ∀ (is : List E) (s : Sx) (ks : List (Option Expr)) (vs : List Expr), ckD c is s ks vs = true → GoodD c s ks vs is
  | [], s, [], [], h => .nil
  | k :: v :: is, s, some ke :: ks, ve :: vs, h => by
    unfold ckD at h
    obtain ⟨h, h3⟩ := an h
    obtain ⟨h1, h2⟩ := an h
    exact .cons (ckE_ok c k s ke h1) (ckE_ok c v s ve h2) (ckD_ok c is s ks vs h3)
  | [], s, [], _ :: _, h => by simp [ckD] at h
  | [], s, _ :: _, _, h => by simp [ckD] at h
  | [_], s, _, _, h => by simp [ckD] at h
  | _ :: _ :: _, s, [], _, h => by simp [ckD] at h
  | _ :: _ :: _, s, none :: _, _, h => by simp [ckD] at h
  | _ :: _ :: _, s, some _ :: _, [], h => by simp [ckD] at h
end
end PM
set_option Elab.async false
set_option linter.all false
set_option autoImplicit false
set_option maxHeartbeats 8000000
/-! PMChk6: the checker's cases: statements. -/
namespace PM
open PySem PySem.Spec PyProof.Rows L2
/-- a body's own context -/
structure SX (X : Cx) : Prop where
  hp : PassesOwn (model X.prog X.w) X.A X.env X.xe
  hs : X.stack = X.env :: X.outer
  hf : X.env.frame = some X.env.locals
def GoodP (c : CK) (s : Sx) (st : Stmt) (i : S) : Prop := ∀ {W : Wx} {wx : WX} {C : Ctx} {k : Nat} {X : Cx}, KX c s W wx C k X → (s.full = true → SX X) → PS X st (tSt W wx C i)
def GoodPs (c : CK) (s : Sx) (sts : List Stmt) (is : List S) : Prop := ∀ {W : Wx} {wx : WX} {C : Ctx} {k : Nat} {X : Cx}, KX c s W wx C k X → (s.full = true → SX X) → PSs X sts (tSts W wx C is)
section
variable {c : CK} {s : Sx}
theorem p_nil : GoodPs c s [] [] := fun K S => s_nil
theorem p_cons {st : Stmt} {sts : List Stmt} {i : S} {is : List S} (h1 : GoodP c s st i) (h2 : GoodPs c s sts is) : GoodPs c s (st :: sts) (i :: is) := fun K S => s_cons (h1 K S) (h2 K S)
theorem p_skip {pos : Pos} : GoodP c s (.Pass pos) .skip := fun K S => s_skip
theorem p_brk {pos : Pos} : GoodP c s (.Break pos) .brk := fun K S => s_brk
theorem p_cnt {pos : Pos} : GoodP c s (.Continue pos) .cnt := fun K S => s_cnt
theorem p_ex {e : Expr} {i : E} {pos : Pos} (hc : isCmp e = false) (h : Good c s e i) : GoodP c s (.Expr e pos) (.ex i) := fun K S => s_ex (h K).1 hc
theorem p_ret {e : Expr} {i : E} {pos : Pos} (h : Good c s e i) : GoodP c s (.Return (some e) pos) (.ret i) := fun K S => s_ret (h K).1
theorem p_retN {pos : Pos} : GoodP c s (.Return none pos) (.ret (.cst .non)) := fun K S => s_retN
theorem p_ite {e : Expr} {a b : List Stmt} {i : E} {ai bi : List S} {pos : Pos} (h : Good c s e i) (ha : GoodPs c s a ai) (hb : GoodPs c s b bi) : GoodP c s (.If e a b pos) (.ite i ai bi) := fun K S => s_ite (h K).2 (ha K S) (hb K S)
theorem p_loop {tg it : Expr} {body : List Stmt} {t : Tg} {ik : IK} {ie : List E} {b : List S} {es : List Expr} {pos : Pos} (hf : s.full = true) (ht : ckTg c s t tg = true) (hset : isSet it = false) (e : itArgs s ik tg it = some es) (he : Paired (Good c s) es ie) (hb : GoodPs c s body b) :
    GoodP c s (.For tg it body [] pos) (.loop t ik ie b) := fun K S => s_loop (K.gd hf) (itArgs_nd e) (S hf).hp (it_ok K e he) (tg_ok K ht) (hb K S) (fold_ok hset _)
theorem p_loopK {tg it : Expr} {body : List Stmt} {t : Tg} {ik : IK} {i : Nat} {b : List S} {pos : Pos} (hf : s.full = true) (ht : ckTg c s t tg = true) (hset : isSet it = false) (e : itK c s ik tg it i = true) (hb : GoodPs c s body b) :
    GoodP c s (.For tg it body [] pos) (.loop t ik [.var i] b) := fun K S => s_loopK (K.gd hf) (itK_ok K e).1 (S hf).hp (itK_ok K e).2 (tg_ok K ht) (hb K S) (fold_ok hset _)
theorem p_whl {e : Expr} {body : List Stmt} {i : E} {b : List S} {pos : Pos} (hf : s.full = true) (h : Good c s e i) (hb : GoodPs c s body b) : GoodP c s (.While e body [] pos) (.whl i b) := fun K S => s_whl (S hf).hp (h K).2 (hb K S)
theorem p_rse {n : String} {x : Str} {e : Expr} {i : E} {p pos' pos : Pos} (hf : s.full = true) (hx : isS x n = true) (hg : ckGl s.sc x = true) (ho : okNm x = true) (hc : c.xcs.contains n = true) (ns : isSt e = false) (h : Good c s e i) :
    GoodP c s (.Raise (some (.Call (.Name x p) [e] [] pos')) none pos) (.rse n i) := fun K S => by
  obtain ⟨Ca, f, e1, _⟩ := K.xcs n (by simpa using hc)
  exact s_rse (K.gd hf) K.tk (isS_ok hx) (ckGl_ok K hg) (okNm_ok ho).1 e1 ns (h K).1
/-! ### assignments -/
/-- the swap of a comprehension's store: name = [..] on one line -/
def swB (s : Sx) (ve : Expr) (tg : Expr) : Bool := match ve, tg with
  | .ListComp _ _ sc p, .Name t pos => s.sc.names.lookup t == some .local && pos.line == p.line && !(sc.names.any fun (n, k) => n == t && (k == .local || k == .cell))
  | .SetComp _ _ sc p, .Name t pos => s.sc.names.lookup t == some .local && pos.line == p.line && !(sc.names.any fun (n, k) => n == t && (k == .local || k == .cell))
  | .DictComp _ _ _ sc p, .Name t pos => s.sc.names.lookup t == some .local && pos.line == p.line && !(sc.names.any fun (n, k) => n == t && (k == .local || k == .cell))
  | _, _ => false
theorem sw_eq {env : PySem.Env} (hk : env.scope.kind = .function) (hs : env.scope = s.sc) (ve tg : Expr) (l : Nat) : swapsWith ve (some tg) l env = pure (swB s ve tg) := by
  have hb : (env.blockKind == ScopeKind.function) = true := by
    unfold Env.blockKind
    rw [hk]
    rfl
  cases ve with
  | ListComp elt gs sc p =>
    cases tg with
    | Name t pos =>
      show (pure (env.blockKind == .function && env.scope.names.lookup t == some .local && pos.line == (Expr.ListComp elt gs sc p).pos.line && !(sc.names.any fun (n, k) => n == t && (k == .local || k == .cell))) : Sem Bool) = _
      rw [hb, hs, Bool.true_and]
      rfl
    | _ => rfl
  | SetComp elt gs sc p =>
    cases tg with
    | Name t pos =>
      show (pure (env.blockKind == .function && env.scope.names.lookup t == some .local && pos.line == (Expr.SetComp elt gs sc p).pos.line && !(sc.names.any fun (n, k) => n == t && (k == .local || k == .cell))) : Sem Bool) = _
      rw [hb, hs, Bool.true_and]
      rfl
    | _ => rfl
  | DictComp e1 e2 gs sc p =>
    cases tg with
    | Name t pos =>
      show (pure (env.blockKind == .function && env.scope.names.lookup t == some .local && pos.line == (Expr.DictComp e1 e2 gs sc p).pos.line && !(sc.names.any fun (n, k) => n == t && (k == .local || k == .cell))) : Sem Bool) = _
      rw [hb, hs, Bool.true_and]
      rfl
    | _ => rfl
  | _ => rfl
/-- no swapped stores -/
def ssB (tg ve : Expr) : Bool := match tg, ve with
  | .Tuple ts _ _, .Tuple vs _ _ => !(ts.length == 2 || ts.length == 3) || vs.length != ts.length || vs.all (foldedForSure 8)
  | .List _ _, _ => false
  | _, _ => true
theorem ss_none {env : PySem.Env} {tg ve : Expr} (h : ssB tg ve = true) : swappedStores [tg] ve env = pure none := by
  cases tg with
  | Tuple ts k p =>
    cases ve with
    | Tuple vs k2 p2 =>
      replace h : (!(ts.length == 2 || ts.length == 3) || vs.length != ts.length || vs.all (foldedForSure 8)) = true := h
      rw [Bool.or_eq_true, Bool.or_eq_true] at h
      unfold swappedStores
      simp only
      split
      · rfl
      · rename_i h1
        split
        · rfl
        · split
          · rfl
          · rcases h with (h | h) | h
            · exfalso; apply h1; rw [h]; simp
            · exfalso; apply h1; rw [h]; simp
            · simp [h]
    | _ => rfl
  | List _ _ => cases h
  | _ => rfl
theorem kind_of {W : Wx} {wx : WX} {C : Ctx} {k : Nat} {X : Cx} (K : KX c s W wx C k X) (h : s.sc.kind = .function) : X.env.scope.kind = .function := by rw [K.hs]; exact h
theorem ae_one {tg : Expr} {env : PySem.Env} (h : isSt tg = false) : (assignEach [tg] env).map (·.2) = [assign tg env] := by
  cases tg <;> first | rfl | cases h
theorem tg_ns {t : Tg} {tg : Expr} (h : ckTg c s t tg = true) : isSt tg = false := by
  unfold ckTg at h
  split at h <;> first | rfl | cases h
theorem p_set {tg ve : Expr} {t : Tg} {i : E} {pos : Pos} (hk : decide (s.sc.kind = .function) = true) (h : Good c s ve i) (ht : ckTg c s t tg = true) (hsw : swB s ve tg = false) (hss : ssB tg ve = true) : GoodP c s (.Assign [tg] ve pos) (.set t i) := fun K S =>
  s_set (h K).1 (tg_ok K ht) (by rw [sw_eq (kind_of K (of_decide_eq_true hk)) K.hs, hsw]) (ss_none hss) (ae_one (tg_ns ht))
theorem p_fset {f : String} {y : Str} {oe ve : Expr} {o i : E} {p pos : Pos} (hk : decide (s.sc.kind = .function) = true) (hy : isS y f = true) (ho : Good c s oe o) (h : Good c s ve i) : GoodP c s (.Assign [.Attribute oe y p] ve pos) (.fset o f i) := fun K S =>
  s_fset K.gb (isS_ok hy) (by rw [sw_eq (kind_of K (of_decide_eq_true hk)) K.hs]; cases ve <;> rfl) (ho K).1 (h K).1
theorem p_iset {oe ie ve : Expr} {o i v : E} {p pos : Pos} (hk : decide (s.sc.kind = .function) = true) (hi : isSl ie = false) (ho : Good c s oe o) (hie : Good c s ie i) (h : Good c s ve v) : GoodP c s (.Assign [.Subscript oe ie p] ve pos) (.iset o i v) := fun K S =>
  s_iset K.gb (by rw [sw_eq (kind_of K (of_decide_eq_true hk)) K.hs]; cases ve <;> rfl) (ss_none (by cases ve <;> rfl)) (fun v => by cases ie <;> first | rfl | cases hi) rfl (ho K).1 (hie K).1 (h K).1
/-- a, b = x, y: the stores are swapped -/
def parB (s : Sx) (x y : Str) (px py : Pos) (e1 e2 : Expr) : Bool := s.sc.names.lookup x == some .local && s.sc.names.lookup y == some .local && py.line == px.line && !(x == y) && !([e1, e2].all (foldedForSure 8)) && !([e1, e2].all (constantsAlone 8)) && !isSt e1 && !isSt e2
theorem par_eq {env : PySem.Env} {x y : Str} {px py pt pt2 : Pos} {kt k2 : Nat} {e1 e2 : Expr} (hk : env.scope.kind = .function) (hs : env.scope = s.sc) (h : parB s x y px py e1 e2 = true) : swappedStores [.Tuple [.Name x px, .Name y py] kt pt] (.Tuple [e1, e2] k2 pt2) env = pure (some [x, y]) := by
  have hb : (env.blockKind != ScopeKind.function) = false := by
    unfold Env.blockKind
    rw [hk]
    rfl
  unfold parB at h
  simp only [Bool.and_eq_true, Bool.not_eq_true', beq_iff_eq] at h
  obtain ⟨⟨⟨⟨⟨⟨⟨h1, h2⟩, h3⟩, h4⟩, h5⟩, h6⟩, h7⟩, h8⟩ := h
  have k1 : env.kindOf x = some .local := by show env.scope.names.lookup x = _; rw [hs]; exact h1
  have k2 : env.kindOf y = some .local := by show env.scope.names.lookup y = _; rw [hs]; exact h2
  have n1 : ∀ f : Expr → Bool, (∀ e, f e = isSt e) → [e1, e2].any f = false := fun f hf => by simp [hf, h7, h8]
  have ne : ¬ x = y := by intro e; rw [e] at h4; simp at h4
  have ne' : ¬ y = x := fun e => ne e.symm
  have h4' : (y == x) = false := beq_eq_false_iff_ne.mpr ne'
  have q1 : ∀ f : Expr → Option Str, f (.Name x px) = some x → f (.Name y py) = some y → [Expr.Name x px, Expr.Name y py].filterMap f = [x, y] := fun f a b => by simp [a, b]
  unfold swappedStores
  simp only
  split
  · rename_i q; exfalso; simp [hb] at q
  · split
    · rename_i q; exfalso; rw [n1 _ (fun e => by cases e <;> rfl)] at q; cases q
    · rw [q1 _ (by simp [k1, Expr.pos]) (by simp [k2, Expr.pos, h3])]
      simp [h5, h6, List.eraseDups, List.eraseDupsBy, List.eraseDupsBy.loop, ne, ne', h4, h4']
theorem p_par {a b : Nat} {x y : Str} {e1 e2 : Expr} {i1 i2 : E} {px py pt pt2 pos : Pos} {kt k2 : Nat} (hf : s.full = true) (hk : decide (s.sc.kind = .function) = true) (hab : decide (a ≠ b) = true) (ha : atN c.N a x = true) (hb : atN c.N b y = true) (hp : parB s x y px py e1 e2 = true) (h1 : Good c s e1 i1) (h2 : Good c s e2 i2) :
    GoodP c s (.Assign [.Tuple [.Name x px, .Name y py] kt pt] (.Tuple [e1, e2] k2 pt2) pos) (.set (.tp [a, b]) (.tup [false, false] [i1, i2])) := fun K S => by
  have hp' := hp
  unfold parB at hp'
  simp only [Bool.and_eq_true, Bool.not_eq_true', beq_iff_eq] at hp'
  obtain ⟨⟨⟨⟨⟨⟨⟨g1, g2⟩, _⟩, _⟩, _⟩, _⟩, g7⟩, g8⟩ := hp'
  exact s_par2 (K.gd hf) (by rw [K.hN]; exact atN_ok ha) (by rw [K.hN]; exact atN_ok hb) (of_decide_eq_true hab) (by rw [K.hs]; exact g1) (by rw [K.hs]; exact g2) g7 g8 (h1 K).1 (h2 K).1 (par_eq (kind_of K (of_decide_eq_true hk)) K.hs hp)
/-- name = [..] on one line -/
theorem p_setLc {a : Nat} {y : Str} {py spos : Pos} {m : Bool} {elt tg it : Expr} {ifs : List Expr} {scope : Scope} {own : List Nat} {t : Tg} {ik : IK} {ie ifsI : List E} {eltI : E} {pos : Pos} (hk : decide (s.sc.kind = .function) = true) (hy : atN c.N a y = true) (hl : (s.sc.names.lookup y == some .local) = true)
    (hsw : swB s (.ListComp elt [⟨tg, it, ifs, 0⟩] scope pos) (.Name y py) = true) (h : CompG c s elt tg it ifs scope own t ik ie ifsI eltI) : GoodP c s (.Assign [.Name y py] (.ListComp elt [⟨tg, it, ifs, 0⟩] scope pos) spos) (.set (.nm a) (.comp m own t ik ie ifsI eltI)) := fun K S => by
    obtain ⟨b1, b2⟩ := blk_ok K h.f_blk
    rcases h.f_it with ⟨es, e1, e2⟩ | ⟨i, rfl, e1⟩
    case inr =>
      obtain ⟨d1, d2⟩ := itK_ok K e1
      exact s_setLcK (K.gd h.f_hf) d1 (by rw [K.hN]; exact atN_ok hy) (by rw [K.hs]; exact beq_iff_eq.mp hl) (by rw [sw_eq (kind_of K (of_decide_eq_true hk)) K.hs, hsw]) b2 (slots_of h.f_sl) d2 b1 (fun s1 H cc cl fp => tg_ok (kx_blk K h.f_hf scope s1 H cc cl fp) h.f_tg) (fun s1 H cc cl fp => pts_of (kx_blk K h.f_hf scope s1 H cc cl fp) h.f_l1 h.f_ifs) (fun s1 H cc cl fp => (h.f_elt (kx_blk K h.f_hf scope s1 H cc cl fp)).1) (fold_ok h.f_set _)
    exact s_setLc (K.gd h.f_hf) (by rw [K.hN]; exact atN_ok hy) (by rw [K.hs]; exact beq_iff_eq.mp hl) (itArgs_nd e1) (by rw [sw_eq (kind_of K (of_decide_eq_true hk)) K.hs, hsw]) b2 (slots_of h.f_sl) (it_ok K e1 e2) b1 (fun s1 H cc cl fp => tg_ok (kx_blk K h.f_hf scope s1 H cc cl fp) h.f_tg) (fun s1 H cc cl fp => pts_of (kx_blk K h.f_hf scope s1 H cc cl fp) h.f_l1 h.f_ifs) (fun s1 H cc cl fp => (h.f_elt (kx_blk K h.f_hf scope s1 H cc cl fp)).1) (fold_ok h.f_set _)
theorem p_setLc2 {a : Nat} {y : Str} {py spos : Pos} {m : Bool} {elt tg it tg1 it1 : Expr} {ifs ifs1 : List Expr} {scope : Scope} {own own1 : List Nat} {t t1 : Tg} {ik ik1 : IK} {ie ifsI ie1 ifsI1 : List E} {eltI : E} {pos : Pos} (hk : decide (s.sc.kind = .function) = true) (hy : atN c.N a y = true) (hl : (s.sc.names.lookup y == some .local) = true)
    (hsw : swB s (.ListComp elt [⟨tg, it, ifs, 0⟩, ⟨tg1, it1, ifs1, 0⟩] scope pos) (.Name y py) = true) (h : CompG2 c s elt tg it tg1 it1 ifs ifs1 scope own own1 t t1 ik ik1 ie ifsI ie1 ifsI1 eltI) : GoodP c s (.Assign [.Name y py] (.ListComp elt [⟨tg, it, ifs, 0⟩, ⟨tg1, it1, ifs1, 0⟩] scope pos) spos) (.set (.nm a) (.comp2 m own t ik ie ifsI own1 t1 ik1 ie1 ifsI1 eltI)) := fun K S => by
    obtain ⟨b1, b2⟩ := blk_ok K h.f_blk
    obtain ⟨es, e1, e2⟩ := h.f_it
    obtain ⟨es1, f1, f2⟩ := h.f_it1
    exact s_setLc2 (K.gd h.f_hf) (by rw [K.hN]; exact atN_ok hy) (by rw [K.hs]; exact beq_iff_eq.mp hl) (by rw [sw_eq (kind_of K (of_decide_eq_true hk)) K.hs, hsw]) b2 (slots_of h.f_sl) (slots_of h.f_sl1) (sub_of h.f_sub) (it_ok K e1 e2) b1 (fun s1 H cc cl fp => tg_ok (kx_blk K h.f_hf scope s1 H cc cl fp) h.f_tg) (fun s1 H cc cl fp => pts_of (kx_blk K h.f_hf scope s1 H cc cl fp) h.f_l1 h.f_ifs)
      (fun s1 H cc cl fp => it_ok (kx_blk K h.f_hf scope s1 H cc cl fp) f1 f2) (fun s1 H cc cl fp => tg_ok (kx_blk K h.f_hf scope s1 H cc cl fp) h.f_tg1) (fun s1 H cc cl fp => pts_of (kx_blk K h.f_hf scope s1 H cc cl fp) h.f_l2 h.f_ifs1)
      (fun s1 H cc cl fp => (h.f_elt (kx_blk K h.f_hf scope s1 H cc cl fp)).1) (fold_ok h.f_set _) (fun env x => fold_ok h.f_set1 env x)
end
end PM
set_option Elab.async false
set_option linter.all false
set_option autoImplicit false
set_option maxHeartbeats 8000000
/-! PMChk7: the checker of statements; try. -/
namespace PM
open PySem PySem.Spec PyProof.Rows L2
theorem sta_sat {W : Wx} {C : Ctx} {sh : Shp} {k : Nat} {P : Program} {w : World} {K : PySem.W.Frag} {mg : Str → Option Value} {base : Heap} (a : Addr) (cls : Value) (d : Option Addr) (h : Sta W C sh k P w K mg base) : Sta (W.sat a cls d) C sh k P w K mg base :=
  ⟨h.fn, h.me, h.cls, h.mkc, h.pr, h.ty, h.is1, h.is2, h.eq, h.no, h.sm, h.xr, h.xe, h.bl, h.gl, h.gd⟩
theorem kx_tr {c : CK} {s : Sx} {W : Wx} {wx wx' : WX} {C : Ctx} {k : Nat} {X : Cx} (K : KX c s W wx C k X) (hf : s.full = true) (pn : List (Addr × Obj)) (xe : Value → Shared → Prop) (tk : Takes (X.tr pn xe) wx') : KX c { s with cur := false } W wx' C k (X.tr pn xe) := by
  have G := K.gd hf
  have B : Gb W C c.sh k (X.tr pn xe) := ⟨G.nd, G.hK, G.hu, G.gs, G.st⟩
  exact ⟨B, fun _ => ⟨B, G.calm, G.room⟩, tk, K.hN, K.hs, K.fn, K.cls, K.rep, K.xcs, K.xm, K.xf, K.xi, K.xa, fun h => by cases h⟩
theorem kx_suite {c : CK} {s : Sx} {W : Wx} {wx : WX} {C : Ctx} {k : Nat} {X : Cx} (K : KX c s W wx C k X) {a : Addr} {oe : Obj} {cls : Value} {d : Option Addr} {pn : List (Addr × Obj)} (hz : Zc cls d oe) (hv : ∃ vs, oe.data = .fields vs) :
    KX c ⟨s.sc, s.fnB, false, true⟩ (W.sat a cls d) (fun _ _ _ _ => False) C k (X.suite a ((a, oe) :: pn)) := by
  have G := K.gb
  have B : Gb (W.sat a cls d) C c.sh k (X.suite a ((a, oe) :: pn)) := ⟨G.nd, G.hK, G.hu, G.gs, sta_sat a cls d G.st⟩
  refine ⟨B, (fun h => by cases h), fun u s' ⟨a, B, sI, pins, σ, H, cls, d, e, I, nb, up, sky, na, os, ag, w⟩ => w.elim, K.hN, K.hs, K.fn, K.cls, K.rep, K.xcs, K.xm, K.xf, K.xi, K.xa, fun _ i x n f p pos h1 h2 h3 h4 h5 h6 => ?_⟩
  exact e_xval (by rw [K.hN]; exact h1) (by rw [K.hs]; exact h2) h3 h4 h5 (K.xf f h6) hz hv
/-- the clauses -/
inductive GoodH (c : CK) (s : Sx) (i : Nat) : List ExceptHandler → List (List String) → List (List S) → Prop
  | nil : GoodH c s i [] [] []
  | cons {x n : Str} {n0 : String} {b0 : Stmt} {suite : List Stmt} {np pos : Pos} {hds : List ExceptHandler} {cs : List (List String)} {h : List S} {hs : List (List S)} : isS x n0 = true → ckGl s.sc x = true → okNm x = true → c.xcs.contains n0 = true → atN c.N i n = true → (s.sc.names.lookup n == some .local) = true →
      GoodPs c ⟨s.sc, s.fnB, false, true⟩ (b0 :: suite) h → GoodH c s i hds cs hs → GoodH c s i (.ExceptHandler (some (.Name x np)) (some n) (b0 :: suite) pos :: hds) ([n0] :: cs) (h :: hs)
theorem hs_ok {c : CK} {s : Sx} {i : Nat} {W : Wx} {wx : WX} {C : Ctx} {k : Nat} {X : Cx} {hds : List ExceptHandler} {cs : List (List String)} {hs : List (List S)} (K : KX c s W wx C k X) (h : GoodH c s i hds cs hs) : ∃ l, ClsOk X hds l ∧ ClM W X.K C i cs hs l := by
  induction h with
  | nil => exact ⟨[], .nil, .nil⟩
  | @cons x n n0 b0 suite np pos hds cs h hs h1 h2 h3 h4 h5 h6 hb _ ih =>
    obtain ⟨l, q1, q2⟩ := ih
    obtain ⟨C0, f0, e1, e2⟩ := K.xcs n0 (by simpa using h4)
    refine ⟨_, .named (c := .ref C0) (i := i) (ts := fun a cls d => tSts (W.sat a cls d) (fun _ _ _ _ => False) C h) ⟨ckGl_ok K h2, (okNm_ok h3).1, .inl (by rw [isS_ok h1]; exact e2)⟩ (by rw [K.hN]; exact atN_ok h5) (by show X.env.scope.names.lookup n = _; rw [K.hs]; exact beq_iff_eq.mp h6) (fun a oe cls d pn hz hv => hb (kx_suite K hz hv) fun z => by cases z) q1,
      .cons (fun n1 Ca f e => ?_) q2⟩
    rw [K.xm n1 Ca f n0 C0 f0 e e1]
    simp [List.contains, List.elem]
    cases n1 == n0 <;> rfl
theorem p_tri {c : CK} {s : Sx} {body : List Stmt} {h0 : ExceptHandler} {hds : List ExceptHandler} {b : List S} {i : Nat} {cs : List (List String)} {hs : List (List S)} {pos : Pos} (hf : s.full = true) (hb : GoodPs c { s with cur := false } body b) (hh : GoodH c s i (h0 :: hds) cs hs) : GoodP c s (.Try body (h0 :: hds) [] [] pos) (.tri b i cs hs) := fun K S => by
  obtain ⟨l, q1, q2⟩ := hs_ok K hh
  have Sx := S hf
  exact s_tri Sx.hs Sx.hf K.gb.nd K.tk (fun wx' pn xe tk hp => hb (kx_tr K hf pn xe tk) fun _ => ⟨hp, Sx.hs, Sx.hf⟩) q1 q2
mutual
def ckP (c : CK) : S → Sx → Stmt → Bool
  | .skip, _, st => (match st with
    | .Pass _ => true
    | _ => false)
  | .brk, _, st => (match st with
    | .Break _ => true
    | _ => false)
  | .cnt, _, st => (match st with
    | .Continue _ => true
    | _ => false)
  | .ex i, s, st => (match st with
    | .Expr e _ => !isCmp e && ckE c i s e
    | _ => false)
  | .ret i, s, st => (match st with
    | .Return (some e) _ => ckE c i s e
    | .Return none _ => (match i with
      | .cst .non => true
      | _ => false)
    | _ => false)
  | .ite i a b, s, st => (match st with
    | .If e x y _ => ckE c i s e && ckPs c a s x && ckPs c b s y
    | _ => false)
  | .loop t ik ie b, s, st => (match st with
    | .For tg it body [] _ => s.full && ckTg c s t tg && !isSet it && ((match itArgs s ik tg it with
      | some es => ckL c ie s es
      | none => false) || (match ie with
      | [.var i] => itK c s ik tg it i
      | _ => false)) && ckPs c b s body
    | _ => false)
  | .whl i b, s, st => (match st with
    | .While e body [] _ => s.full && ckE c i s e && ckPs c b s body
    | _ => false)
  | .rse n i, s, st => (match st with
    | .Raise (some (.Call (.Name x _) [e] [] _)) none _ => s.full && isS x n && ckGl s.sc x && okNm x && c.xcs.contains n && !isSt e && ckE c i s e
    | _ => false)
  | .set t i, s, st => (match st with
    | .Assign [tg] ve _ => decide (s.sc.kind = .function) && ckTg c s t tg && ckE c i s ve && ((!swB s ve tg && ssB tg ve) || (match t, i, tg, ve with
      | .tp [a, b], .tup [false, false] [i1, i2], .Tuple [.Name x px, .Name y py] _ _, .Tuple [e1, e2] _ _ => s.full && decide (a ≠ b) && atN c.N a x && atN c.N b y && parB s x y px py e1 e2
      | .nm a, .comp _ _ _ _ _ _ _, .Name y _, .ListComp _ [⟨_, _, _, 0⟩] _ _ => swB s ve tg && atN c.N a y && (s.sc.names.lookup y == some .local)
      | .nm a, .comp2 _ _ _ _ _ _ _ _ _ _ _ _, .Name y _, .ListComp _ [⟨_, _, _, 0⟩, ⟨_, _, _, 0⟩] _ _ => swB s ve tg && atN c.N a y && (s.sc.names.lookup y == some .local)
      | _, _, _, _ => false))
    | _ => false)
  | .fset o f i, s, st => (match st with
    | .Assign [.Attribute oe y _] ve _ => decide (s.sc.kind = .function) && isS y f && ckE c o s oe && ckE c i s ve
    | _ => false)
  | .iset o i v, s, st => (match st with
    | .Assign [.Subscript oe ie _] ve _ => decide (s.sc.kind = .function) && !isSl ie && ckE c o s oe && ckE c i s ie && ckE c v s ve
    | _ => false)
  | .tri b i cs hs, s, st => (match st with
    | .Try body (h0 :: hds) [] [] _ => s.full && ckPs c b { s with cur := false } body && ckH c i hs cs s (h0 :: hds)
    | _ => false)
  | .aug _ _ _, _, _ => false
  | .augf _ _ _ _, _, _ => false
  | .augi _ _ _ _, _, _ => false
def ckPs (c : CK) : List S → Sx → List Stmt → Bool
  | [], _, [] => true
  | i :: is, s, st :: sts => ckP c i s st && ckPs c is s sts
  | _, _, _ => false
def ckH (c : CK) (i : Nat) : List (List S) → List (List String) → Sx → List ExceptHandler → Bool
  | [], cs, _, hds => cs.isEmpty && (match hds with
    | [] => true
    | _ => false)
  | h :: hs, cs, s, hds => (match cs, hds with
    | [n0] :: cs, .ExceptHandler (some (.Name x _)) (some n) (b0 :: suite) _ :: hds => isS x n0 && ckGl s.sc x && okNm x && c.xcs.contains n0 && atN c.N i n && (s.sc.names.lookup n == some .local) && ckPs c h ⟨s.sc, s.fnB, false, true⟩ (b0 :: suite) && ckH c i hs cs s hds
    | _, _ => false)
end
end PM
set_option Elab.async false
set_option linter.all false
set_option autoImplicit false
set_option maxHeartbeats 8000000
/-! PMChk8: the checker of statements is right. -/
namespace PM
open PySem PySem.Spec PyProof.Rows L2
theorem compG_of {c : CK} {s : Sx} {m : Bool} {elt tg it : Expr} {ifs : List Expr} {scope : Scope} {own : List Nat} {t : Tg} {ik : IK} {ie ifsI : List E} {eltI : E} {pos : Pos} (h : ckE c (.comp m own t ik ie ifsI eltI) s (.ListComp elt [⟨tg, it, ifs, 0⟩] scope pos) = true) : CompG c s elt tg it ifs scope own t ik ie ifsI eltI := by
  unfold ckE at h
  simp only at h
  obtain ⟨h, h9⟩ := an h
  obtain ⟨h, h8⟩ := an h
  obtain ⟨h, h7⟩ := an h
  obtain ⟨h, h6⟩ := an h
  obtain ⟨h, h5⟩ := an h
  obtain ⟨h, h4⟩ := an h
  obtain ⟨h, h3⟩ := an h
  obtain ⟨h1, h2⟩ := an h
  rw [Bool.or_eq_true] at h7
  rcases h7 with h7 | h7
  · split at h7
    · rename_i es e7
      exact ⟨h1, h2, h3, h4, nt h5, oneT_ok h6, .inl ⟨es, e7, ckL_ok c ie s _ h7⟩, ckL_ok c ifsI _ _ h8, ckE_ok c eltI _ _ h9⟩
    · cases h7
  · split at h7
    · exact ⟨h1, h2, h3, h4, nt h5, oneT_ok h6, .inr ⟨_, rfl, h7⟩, ckL_ok c ifsI _ _ h8, ckE_ok c eltI _ _ h9⟩
    · cases h7
theorem compG2_of {c : CK} {s : Sx} {m : Bool} {elt tg it tg1 it1 : Expr} {ifs ifs1 : List Expr} {scope : Scope} {own own1 : List Nat} {t t1 : Tg} {ik ik1 : IK} {ie ifsI ie1 ifsI1 : List E} {eltI : E} {pos : Pos} (h : ckE c (.comp2 m own t ik ie ifsI own1 t1 ik1 ie1 ifsI1 eltI) s (.ListComp elt [⟨tg, it, ifs, 0⟩, ⟨tg1, it1, ifs1, 0⟩] scope pos) = true) : CompG2 c s elt tg it tg1 it1 ifs ifs1 scope own own1 t t1 ik ik1 ie ifsI ie1 ifsI1 eltI := by
  unfold ckE at h
  simp only at h
  obtain ⟨h, h16⟩ := an h
  obtain ⟨h, h15⟩ := an h
  obtain ⟨h, h14⟩ := an h
  obtain ⟨h, h13⟩ := an h
  obtain ⟨h, h12⟩ := an h
  obtain ⟨h, h11⟩ := an h
  obtain ⟨h, h10⟩ := an h
  obtain ⟨h, h9⟩ := an h
  obtain ⟨h, h8⟩ := an h
  obtain ⟨h, h7⟩ := an h
  obtain ⟨h, h6⟩ := an h
  obtain ⟨h, h5⟩ := an h
  obtain ⟨h, h4⟩ := an h
  obtain ⟨h, h3⟩ := an h
  obtain ⟨h1, h2⟩ := an h
  split at h12
  · rename_i es e12
    split at h14
    · rename_i es1 e14
      exact ⟨h1, h2, h3, h4, h5, h6, h7, nt h8, nt h9, oneT_ok h10, oneT_ok h11, ⟨es, e12, ckL_ok c ie s _ h12⟩, ckL_ok c ifsI _ _ h13, ⟨es1, e14, ckL_ok c ie1 _ _ h14⟩, ckL_ok c ifsI1 _ _ h15, ckE_ok c eltI _ _ h16⟩
    · cases h14
  · cases h12
theorem tup2_of {c : CK} {s : Sx} {i1 i2 : E} {e1 e2 : Expr} {k : Nat} {p : Pos} (h : ckE c (.tup [false, false] [i1, i2]) s (.Tuple [e1, e2] k p) = true) : Good c s e1 i1 ∧ Good c s e2 i2 := by
  unfold ckE at h
  simp only at h
  have q := ckS_ok c _ _ s _ h
  cases q with
  | pl _ a q =>
    cases q with
    | pl _ b q => exact ⟨a, b⟩
mutual
theorem ckP_ok (c : CK) : ∀ (i : S) (s : Sx) (st : Stmt), ckP c i s st = true → GoodP c s st i
  | .skip, s, st, h => by
    unfold ckP at h
    split at h
    · exact p_skip
    · cases h
  | .brk, s, st, h => by
    unfold ckP at h
    split at h
    · exact p_brk
    · cases h
  | .cnt, s, st, h => by
    unfold ckP at h
    split at h
    · exact p_cnt
    · cases h
  | .ex i, s, st, h => by
    unfold ckP at h
    split at h
    · obtain ⟨h1, h2⟩ := an h
      exact p_ex (nt h1) (ckE_ok c i s _ h2)
    · cases h
  | .ret i, s, st, h => by
    unfold ckP at h
    split at h
    · exact p_ret (ckE_ok c i s _ h)
    · split at h
      · exact p_retN
      · cases h
    · cases h
  | .ite i a b, s, st, h => by
    unfold ckP at h
    split at h
    · obtain ⟨h, h3⟩ := an h
      obtain ⟨h1, h2⟩ := an h
      exact p_ite (ckE_ok c i s _ h1) (ckPs_ok c a s _ h2) (ckPs_ok c b s _ h3)
    · cases h
  | .loop t ik ie b, s, st, h => by
    unfold ckP at h
    split at h
    · obtain ⟨h, h5⟩ := an h
      obtain ⟨h, h4⟩ := an h
      obtain ⟨h, h3⟩ := an h
      obtain ⟨h1, h2⟩ := an h
      rw [Bool.or_eq_true] at h4
      rcases h4 with h4 | h4
      · split at h4
        · rename_i es e4
          exact p_loop h1 h2 (nt h3) e4 (ckL_ok c ie s _ h4) (ckPs_ok c b s _ h5)
        · cases h4
      · split at h4
        · exact p_loopK h1 h2 (nt h3) h4 (ckPs_ok c b s _ h5)
        · cases h4
    · cases h
  | .whl i b, s, st, h => by
    unfold ckP at h
    split at h
    · obtain ⟨h, h3⟩ := an h
      obtain ⟨h1, h2⟩ := an h
      exact p_whl h1 (ckE_ok c i s _ h2) (ckPs_ok c b s _ h3)
    · cases h
  | .rse n i, s, st, h => by
    unfold ckP at h
    split at h
    · obtain ⟨h, h7⟩ := an h
      obtain ⟨h, h6⟩ := an h
      obtain ⟨h, h5⟩ := an h
      obtain ⟨h, h4⟩ := an h
      obtain ⟨h, h3⟩ := an h
      obtain ⟨h1, h2⟩ := an h
      exact p_rse h1 h2 h3 h4 h5 (nt h6) (ckE_ok c i s _ h7)
    · cases h
  | .set t i, s, st, h => by
    unfold ckP at h
    split at h
    · obtain ⟨h, h4⟩ := an h
      obtain ⟨h, h3⟩ := an h
      obtain ⟨h1, h2⟩ := an h
      rw [Bool.or_eq_true] at h4
      rcases h4 with h4 | h4
      · obtain ⟨h5, h6⟩ := an h4
        exact p_set h1 (ckE_ok c i s _ h3) h2 (nt h5) h6
      · split at h4
        · obtain ⟨h, h9⟩ := an h4
          obtain ⟨h, h8⟩ := an h
          obtain ⟨h, h7⟩ := an h
          obtain ⟨h5, h6⟩ := an h
          obtain ⟨g1, g2⟩ := tup2_of h3
          exact p_par h5 h1 h6 h7 h8 h9 g1 g2
        · obtain ⟨h, h7⟩ := an h4
          obtain ⟨h5, h6⟩ := an h
          exact p_setLc h1 h6 h7 h5 (compG_of h3)
        · obtain ⟨h, h7⟩ := an h4
          obtain ⟨h5, h6⟩ := an h
          exact p_setLc2 h1 h6 h7 h5 (compG2_of h3)
        · cases h4
    · cases h
  | .fset o f i, s, st, h => by
    unfold ckP at h
    split at h
    · obtain ⟨h, h4⟩ := an h
      obtain ⟨h, h3⟩ := an h
      obtain ⟨h1, h2⟩ := an h
      exact p_fset h1 h2 (ckE_ok c o s _ h3) (ckE_ok c i s _ h4)
    · cases h
  | .iset o i v, s, st, h => by
    unfold ckP at h
    split at h
    · obtain ⟨h, h5⟩ := an h
      obtain ⟨h, h4⟩ := an h
      obtain ⟨h, h3⟩ := an h
      obtain ⟨h1, h2⟩ := an h
      exact p_iset h1 (nt h2) (ckE_ok c o s _ h3) (ckE_ok c i s _ h4) (ckE_ok c v s _ h5)
    · cases h
  | .tri b i cs hs, s, st, h => by
    unfold ckP at h
    split at h
    · obtain ⟨h, h3⟩ := an h
      obtain ⟨h1, h2⟩ := an h
      exact p_tri h1 (ckPs_ok c b _ _ h2) (ckH_ok c i hs cs s _ h3)
    · cases h
  | .aug _ _ _, s, st, h => by unfold ckP at h; cases h
  | .augf _ _ _ _, s, st, h => by unfold ckP at h; cases h
  | .augi _ _ _ _, s, st, h => by unfold ckP at h; cases h
theorem ckPs_ok (c : CK) : ∀ (is : List S) (s : Sx) (sts : List Stmt), ckPs c is s sts = true → GoodPs c s sts is
  | [], s, [], h => p_nil
  | i :: is, s, st :: sts, h => by
    unfold ckPs at h
    obtain ⟨h1, h2⟩ := an h
    exact p_cons (ckP_ok c i s st h1) (ckPs_ok c is s sts h2)
  | [], s, _ :: _, h => by simp [ckPs] at h
  | _ :: _, s, [], h => by simp [ckPs] at h
theorem ckH_ok (c : CK) (i : Nat) : ∀ (hs : List (List S)) (cs : List (List String)) (s : Sx) (hds : List ExceptHandler), ckH c i hs cs s hds = true → GoodH c s i hds cs hs
  | [], cs, s, hds, q => by
    unfold ckH at q
    obtain ⟨q1, q2⟩ := an q
    split at q2
    · cases cs with
      | nil => exact .nil
      | cons _ _ => cases q1
    · cases q2
  | h :: hs, cs, s, hds, q => by
    unfold ckH at q
    split at q
    · obtain ⟨q, q8⟩ := an q
      obtain ⟨q, q7⟩ := an q
      obtain ⟨q, q6⟩ := an q
      obtain ⟨q, q5⟩ := an q
      obtain ⟨q, q4⟩ := an q
      obtain ⟨q, q3⟩ := an q
      obtain ⟨q1, q2⟩ := an q
      exact .cons q1 q2 q3 q4 q5 q6 (ckPs_ok c h _ _ q7) (ckH_ok c i hs _ s _ q8)
    · cases q
end
end PM
set_option Elab.async false
set_option linter.all false
set_option autoImplicit false
set_option maxHeartbeats 8000000
/-! PMHead: what stands behind the top, read off a part of the heap. -/
namespace PM
open PySem PySem.Spec PyProof.Rows L2
/-- where a def stands: a global, a class's method, a property's getter -/
inductive Lc where
  | glo (x : String) | me (c m : String) | pr (c f : String)
def cA (K : PySem.W.Frag) (c : String) : Addr := He.ga K (Str.ofString c)
def mA (K : PySem.W.Frag) (c m : String) : Addr := He.ma K (cA K c) (Str.ofString m)
def gA (K : PySem.W.Frag) (c f : String) : Addr := match PySem.W.recIn K (mA K c f) "property" with
  | some (.ref g :: _) => g
  | _ => 0
def adOf (K : PySem.W.Frag) : Lc → Addr
  | .glo x => cA K x
  | .me c m => mA K c m
  | .pr c f => gA K c f
/-- a def -/
structure Ent where
  key : String
  loc : Lc
  name : Str
  qual : Str
  params : Arguments
  body : List Stmt
  scope : Scope
  dfl : List He.Dv
  kwd : List (Str × He.Dv)
  N : List Str
  ps : List Str
  fn : Fn
  shapes : List (Nat × List String)
def lookF (K : PySem.W.Frag) (a : Addr) : Option FuncData := match K.lookup a with
  | some ⟨_, _, .func fd, _⟩ => some fd
  | _ => none
def fnO (K : PySem.W.Frag) (a : Addr) : He.FnW := (lookF K a).map fun fd => (fd.name, fd.qualname, fd.params, fd.body, fd.scope, fd.globals, fd.closure, fd.builtins)
def Ent.val (e : Ent) : He.FnW := some (e.name, e.qual, e.params, .stmts e.body, e.scope, mainGlobals, [], builtinsNs)
def Ent.dvs (K : PySem.W.Frag) (e : Ent) : List V := e.dfl.map (He.Dv.v K)
def Ent.kws (K : PySem.W.Frag) (e : Ent) : List (Str × V) := e.kwd.map fun q => (q.1, q.2.v K)
def Ent.okB (K : PySem.W.Frag) (e : Ent) : Bool := PySem.W.keepIn K (.ref (adOf K e.loc)) && (match lookF K (adOf K e.loc) with
  | some fd => PySem.W.codeIn K fd.code e.qual && (He.dflB K fd.defaults (e.dvs K) && He.kwdB K fd.kwdefaults (e.kws K))
  | none => false)
theorem lookF_of {K : PySem.W.Frag} {a : Addr} {fd : FuncData} (h : lookF K a = some fd) : ∃ oc od osl, K.lookup a = some ⟨oc, od, .func fd, osl⟩ := by
  unfold lookF at h
  split at h
  · rename_i q
    cases h
    exact ⟨_, _, _, q⟩
  · cases h
theorem Ent.funD {K : PySem.W.Frag} {d : Ent} (e : fnO K (adOf K d.loc) = d.val) (c : d.okB K = true) : ∃ fd, FunD K d.name d.qual d.params d.body d.scope (d.dvs K) (d.kws K) (adOf K d.loc) fd := by
  obtain ⟨kp, c2⟩ := an c
  unfold fnO at e
  cases q : lookF K (adOf K d.loc) with
  | none => rw [q] at c2; cases c2
  | some fd =>
    rw [q] at c2 e
    obtain ⟨oc, od, osl, lk⟩ := lookF_of q
    obtain ⟨c3, c4⟩ := an (show (PySem.W.codeIn K fd.code d.qual && (He.dflB K fd.defaults (d.dvs K) && He.kwdB K fd.kwdefaults (d.kws K))) = true from c2)
    obtain ⟨c5, c6⟩ := an c4
    obtain ⟨n1, n2, n3, n4, n5, n6, n7, n8, n9, n10, n11, n12, n13, n14, n15⟩ := fd
    have e2 : (some (n1, n2, n3, n4, n5, n6, n7, n15) : He.FnW) = d.val := e
    unfold Ent.val at e2
    simp only [Option.some.injEq, Prod.mk.injEq] at e2
    obtain ⟨rfl, rfl, rfl, rfl, rfl, rfl, rfl, rfl⟩ := e2
    exact ⟨_, ⟨oc, od, n8, n9, n10, n11, n12, n13, n14, osl, rfl, lk, c3, He.dflB_ok c5, He.kwdB_ok c6⟩, kp⟩
/-! ### an own error's __init__ -/
theorem init_ok {P : Program} {w : World} {K : PySem.W.Frag} {mg : Str → Option Value} {base : Heap} {x qual : Str} {params : Arguments} {scope : Scope} {f : Addr} {fd : FuncData} {Ca : Addr} {y v : Str} {q1 q2 q3 q4 : Pos}
    (F : FunD K x qual params [.Assign [.Attribute (.Name "self" q1) y q2] (.Name v q3) q4] scope [] [] f fd) (S : FnScope ["self", v] ["self", v] scope) (hv : (v == ("__debug__" : Str)) = false) (hv2 : (v == ("__classdict__" : Str)) = false) (O : OexC K Ca) (hno : PySem.W.findIn K (.ref Ca) y = some none) :
    FnOk P w K mg base (L2.CX P w) 1 f fd ["self", v] (initSp Ca y) := by
  refine F.ok S (fun vs H Q E h => ?_) fun cdv A outer s H vs Q E hr h => ?_
  · obtain ⟨a, u, rfl, _⟩ := h
    rfl
  · refine ⟨_, pss_one (ps_ost (f := y) (pe_var (i := 0) rfl ?_ (by decide +kernel) (by decide +kernel)) (pe_var (i := 1) rfl ?_ hv hv2)), ?_⟩
    · rcases S.par "self" (by simp) with h | h
      · exact .inl h
      · exact .inr (.inl h)
    · rcases S.par v (by simp) with h | h
      · exact .inl h
      · exact .inr (.inl h)
    · obtain ⟨a, u, rfl, h1, h2⟩ := h
      exact ⟨u, rfl, .ref a, rfl, a, Ca, rfl, O, hno, .inl ⟨h1, fun dx e1 e2 => h2 dx e1 e2⟩⟩
def oexB (K : PySem.W.Frag) (C : Addr) : Bool := (match K.lookup C with
  | some ⟨.type "type", _, .cls cd, sl⟩ => (match cd.mro, sl.toList with
    | .ref C' :: bm, [_, _, _, _, some (.builtin n), _] => C' == C && n == "ValueError.__new__" && !cd.hasDel && cd.hasDict && PySem.HandSPX.refsVE bm
    | _, _ => false)
  | _ => false) && decide (PySem.W.findIn K (.ref C) "__setattr__" = some (some (.builtin "object.__setattr__"))) && decide (PySem.W.subIn K (.ref C) (.type "BaseException") = some true) && decide (PySem.W.typeIn K (.ref C) = some (.type "type")) && PySem.W.keepIn K (.ref C)
theorem oexB_ok {K : PySem.W.Frag} {C : Addr} (h : oexB K C = true) : OexC K C := by
  unfold oexB at h
  obtain ⟨h, h5⟩ := an h
  obtain ⟨h, h4⟩ := an h
  obtain ⟨h, h3⟩ := an h
  obtain ⟨q, h2⟩ := an h
  refine ⟨?_, of_decide_eq_true h2, of_decide_eq_true h3, of_decide_eq_true h4, h5⟩
  split at q
  · rename_i dd cd sl ho
    split at q
    · rename_i C' bm k0 k1 k2 k3 n k5 hm hs
      simp only [Bool.and_eq_true, beq_iff_eq, Bool.not_eq_true'] at q
      obtain ⟨⟨⟨⟨rfl, rfl⟩, hdel⟩, hdct⟩, ht⟩ := q
      obtain ⟨nm, bs, mro, ns, qn, hd, sn, sub, ab, col, del⟩ := cd
      dsimp only at hm hdel hdct
      subst hm hdel hdct
      have hsl : sl = #[k0, k1, k2, k3, some (.builtin "ValueError.__new__"), k5] := by
        obtain ⟨l⟩ := sl
        simp only at hs
        rw [hs]
      subst hsl
      exact ⟨nm, qn, ns, bs, bm, sn, sub, ab, col, dd, k0, k1, k2, k3, k5, ho, ht⟩
    · cases q
  · cases q
/-! ### the module's constants -/
mutual
def repB (K : PySem.W.Frag) : D → Value → Bool
  | .non, v => (match v with
    | .none => true
    | _ => false)
  | .bl b, v => (match v with
    | .bool c => b == c
    | _ => false)
  | .int i, v => (match v with
    | .int j _ => decide (i = j)
    | _ => false)
  | .str x, v => (match v with
    | .str y _ => decide (y = tS x) && decide (x.length ≤ sizeLine)
    | _ => false)
  | .tup xs, v => (match v with
    | .ref a => (match K.lookup a with
      | some ⟨c, _, .seq its _, _⟩ => decide (c = .type "tuple") && decide (its.size ≤ sizeLine) && repBL K xs its.toList
      | _ => false)
    | _ => false)
  | _, _ => false
def repBL (K : PySem.W.Frag) : List D → List Value → Bool
  | [], vs => vs.isEmpty
  | x :: xs, vs => (match vs with
    | v :: vs => repB K x v && repBL K xs vs
    | [] => false)
end
mutual
theorem repB_ok {W : Wd} : ∀ (d : D) (u : Value), repB W.K d u = true → ∃ v, RelV v u ∧ ∀ F μ H, Rep W F μ H d v
  | .non, u, h => by
    unfold repB at h
    split at h
    · exact ⟨.non, rfl, fun _ _ _ => .non⟩
    · cases h
  | .bl b, u, h => by
    unfold repB at h
    split at h
    · rw [beq_iff_eq.mp h]; exact ⟨.bl _, rfl, fun _ _ _ => .bl _⟩
    · cases h
  | .int i, u, h => by
    unfold repB at h
    split at h
    · rw [of_decide_eq_true h]; exact ⟨.int _, ⟨_, rfl⟩, fun _ _ _ => .int _⟩
    · cases h
  | .str x, u, h => by
    unfold repB at h
    split at h
    · obtain ⟨h1, h2⟩ := an h
      rw [of_decide_eq_true h1]; exact ⟨.str _, ⟨_, rfl⟩, fun _ _ _ => .str _ (of_decide_eq_true h2)⟩
    · cases h
  | .tup xs, u, h => by
    unfold repB at h
    split at h
    · split at h
      · rename_i a _ c od its n sl lk
        obtain ⟨h, h3⟩ := an h
        obtain ⟨h1, h2⟩ := an h
        obtain ⟨vs, r1, r2⟩ := repBL_ok xs _ h3
        exact ⟨.ref a, rfl, fun F μ H => .tup (.inr ⟨_, its, n, lk, of_decide_eq_true h1, rfl, of_decide_eq_true h2, r1⟩) (r2 F μ H)⟩
      · cases h
    · cases h
  | .lst _, u, h => by unfold repB at h; cases h
  | .dct _, u, h => by unfold repB at h; cases h
  | .ins _ _, u, h => by unfold repB at h; cases h
  | .exn _ _, u, h => by unfold repB at h; cases h
  | .err _ _, u, h => by unfold repB at h; cases h
  | .loc _, u, h => by unfold repB at h; cases h
theorem repBL_ok {W : Wd} : ∀ (ds : List D) (us : List Value), repBL W.K ds us = true → ∃ vs, Vals vs us ∧ ∀ F μ H, RepL W F μ H ds vs
  | [], us, h => by
    unfold repBL at h
    cases us with
    | nil => exact ⟨[], .nil, fun _ _ _ => .nil⟩
    | cons _ _ => cases h
  | x :: xs, us, h => by
    unfold repBL at h
    split at h
    · obtain ⟨h1, h2⟩ := an h
      obtain ⟨v, a1, a2⟩ := repB_ok x _ h1
      obtain ⟨vs, b1, b2⟩ := repBL_ok xs _ h2
      exact ⟨v :: vs, .cons a1 b1, fun F μ H => .cons (a2 F μ H) (b2 F μ H)⟩
    · cases h
end
end PM
set_option Elab.async false
set_option linter.all false
set_option autoImplicit false
set_option maxHeartbeats 8000000
/-! PMLev: level by level: every def of the text does what the machine says. -/
namespace PM
open PySem PySem.Spec PyProof.Rows L2
structure PD where
  ents : List Ent
  cls : List String
  /-- own errors: the class, its attribute, its __init__ (key, v) -/
  xs : List (String × String)
  xents : List (String × Str × Ent)
  xats : List String
  props : List (String × String)
  flds : List (String × String)
  glb : List (String × D)
  /-- what errors are asked for: a class, whether it is a built-in one, the own errors that are of it -/
  xis : List (String × Bool × List String)
/-- the constants that are dicts -/
def PD.dcts (pd : PD) : List (String × List (Key × D)) := pd.glb.filterMap fun p => match p.2 with
  | .dct kvs => some (p.1, kvs)
  | _ => none
def dKeys (kvs : List (Key × D)) : List Str := kvs.map fun q => match q.1 with
  | .inr x => tS x
  | .inl _ => ⟨#[]⟩
def PD.find (pd : PD) (f : String) : Option Ent := pd.ents.find? fun e => e.key == f
def isGlo : Lc → String → Bool
  | .glo x, f => x == f
  | _, _ => false
def isMe : Lc → String → String → Bool
  | .me c m, c', m' => c == c' && m == m'
  | _, _, _ => false
def isPr : Lc → String → String → Bool
  | .pr c m, c', m' => c == c' && m == m'
  | _, _, _ => false
def PD.sh (pd : PD) : Shp where
  fn f n ks := match pd.find f with
    | some e => isGlo e.loc f && e.shapes.contains (n, ks)
    | none => false
  me m n ks := pd.cls.all fun c => match pd.find (c ++ "." ++ m) with
    | some e => isMe e.loc c m && e.shapes.contains (n + 1, ks)
    | none => true
  mkc c n ks := pd.cls.contains c && match pd.find (c ++ ".__init__") with
    | some e => isMe e.loc c "__init__" && e.shapes.contains (n + 1, ks)
    | none => false
def PD.ck (pd : PD) (N : List Str) : CK := ⟨N, pd.sh, pd.cls, pd.xs.map (·.1), pd.xats, pd.xis.map fun p => (p.1, p.2.2), pd.xs⟩
def PD.W (pd : PD) (K : PySem.W.Frag) : Wx where
  K := K
  cl := fun c => if pd.cls.contains c then some (cA K c) else none
  xc := fun c => (pd.xs.lookup c).map fun f => (cA K c, Str.ofString f)
  cur := none
def nat7 : List String := ["NoneType", "bool", "int", "str", "list", "tuple", "dict"]
def eqO (a b : Option (Option Value)) : Bool := decide (a = b)
/-- the names that are free -/
def freeB (K : PySem.W.Frag) : Bool := builtinsUsed.all fun x => eqO (PySem.W.nsIn K mainGlobals (Str.ofString x)) (some none)
def smB (K : PySem.W.Frag) : Bool := match K.lookup sysModules with
  | some o => decide (o.cls = .type "dict")
  | none => false
def gloB (K : PySem.W.Frag) (x : String) : Bool := eqO (PySem.W.nsIn K mainGlobals (Str.ofString x)) (some (some (.ref (cA K x))))
/-- a dict of texts -/
def dctB (K : PySem.W.Frag) (p : Addr) (kvs : List (Key × D)) : Bool := kvs.all fun q => match q.1, q.2 with
  | .inr x, .str y => decide (y.length ≤ sizeLine) && (match PySem.W.nsIn K p (tS x) with
    | some (some (.str z _)) => decide (z = tS y)
    | _ => false)
  | _, _ => false
def glbB (K : PySem.W.Frag) (p : String × D) : Bool := match PySem.W.nsIn K mainGlobals (Str.ofString p.1) with
  | some (some u) => (match p.2 with
    | .dct kvs => gloB K p.1 && dctB K (cA K p.1) kvs
    | d => repB K d u)
  | _ => false
/-- one class -/
def clsB (pd : PD) (K : PySem.W.Frag) (c : String) : Bool := gloB K c && He.Fa.ok K (.cls (Str.ofString c)) && eqO (PySem.W.findIn K (.ref (cA K c)) "__class__") (some (some (.builtin "object.__class__"))) && eqO (PySem.W.specialIn K (.builtin "object.__class__") "__get__") (some (some (.builtin "getset_descriptor.__get__"))) &&
  decide (PySem.W.takesIn K (.builtin "object.__class__") = some true) && decide (PySem.W.mroIn K (cA K c) (.type "object") = some true) && nat7.all (fun T => decide (PySem.W.kitOne K (.ref (cA K c)) (.type T) = some false) && decide (PySem.W.kitOne K (.type T) (.ref (cA K c)) = some false)) &&
  pd.cls.all (fun e => decide (PySem.W.kitOne K (.ref (cA K c)) (.ref (cA K e)) = some (c == e))) &&
  (match pd.find (c ++ ".__eq__") with
    | some e => isMe e.loc c "__eq__" && e.shapes.contains (2, []) && eqO (PySem.W.findIn K (.ref (cA K c)) "__eq__") (some (some (.ref (mA K c "__eq__")))) && PySem.W.isFn K (.ref (mA K c "__eq__")) && nat7.all (fun T => PySem.W.notFirst K (cA K c) (.type T)) && pd.cls.all (fun e => PySem.W.notFirst K (cA K c) (.ref (cA K e)))
    | none => true) &&
  (match pd.find (c ++ ".__init__") with
    | some e => He.Fa.ok K (.mkr (Str.ofString c))
    | none => true)
def prB (pd : PD) (K : PySem.W.Frag) (p : String × String) : Bool := eqO (PySem.W.findIn K (.ref (cA K p.1)) (Str.ofString p.2)) (some (some (.ref (mA K p.1 p.2)))) && eqO (PySem.W.specialIn K (.ref (mA K p.1 p.2)) "__get__") (some (some (.builtin "property.__get__"))) && decide (PySem.W.takesIn K (.ref (mA K p.1 p.2)) = some true) &&
  (match PySem.W.recIn K (mA K p.1 p.2) "property" with
    | some (.ref g :: _) => true
    | _ => false) && (match pd.find (p.1 ++ "." ++ p.2) with
    | some e => isPr e.loc p.1 p.2 && e.shapes.contains (1, [])
    | none => false)
def noB (K : PySem.W.Frag) (p : String × String) : Bool := eqO (PySem.W.findIn K (.ref (cA K p.1)) (Str.ofString p.2)) (some none)
def meB (K : PySem.W.Frag) (e : Ent) : Bool := match e.loc with
  | .me c m => He.Fa.ok K (.meth (Str.ofString c) (Str.ofString m))
  | .glo x => gloB K x
  | .pr _ _ => true
def xB (pd : PD) (K : PySem.W.Frag) (p : String × String) : Bool := gloB K p.1 && oexB K (cA K p.1) && xfB K (cA K p.1) && eqO (PySem.W.findIn K (.ref (cA K p.1)) (Str.ofString p.2)) (some none) && eqO (PySem.W.findIn K (.ref (cA K p.1)) "__init__") (some (some (.ref (mA K p.1 "__init__")))) && decide (PySem.W.typeIn K (.ref (mA K p.1 "__init__")) = some (.type "function")) &&
  pd.xs.all fun q => decide (PySem.W.exmOne K (.ref (cA K p.1)) (.ref (cA K q.1)) = some (p.1 == q.1))
/-- what isinstance asks of an own error -/
def excB (K : PySem.W.Frag) (C : Addr) : Bool := eqO (PySem.W.findIn K (.ref C) "__class__") (some (some (.builtin "object.__class__"))) && eqO (PySem.W.specialIn K (.builtin "object.__class__") "__get__") (some (some (.builtin "getset_descriptor.__get__"))) &&
  decide (PySem.W.takesIn K (.builtin "object.__class__") = some true) && decide (PySem.W.mroIn K C (.type "object") = some true)
def xiB (pd : PD) (K : PySem.W.Frag) (p : String × Bool × List String) : Bool := if p.2.1 then p.1 == "ValueError" && eqO (PySem.W.nsIn K mainGlobals (Str.ofString p.1)) (some none) && pd.xs.all (fun q => decide (PySem.W.kitOne K (.ref (cA K q.1)) (.type "ValueError") = some (p.2.2.contains q.1)))
  else gloB K p.1 && pd.xs.all (fun q => decide (PySem.W.kitOne K (.ref (cA K q.1)) (.ref (cA K p.1)) = some (p.2.2.contains q.1)))
/-- all that is asked of K -/
def PD.allB (pd : PD) (K : PySem.W.Frag) : Bool := freeB K && smB K && pd.glb.all (glbB K) && pd.cls.all (clsB pd K) && pd.props.all (prB pd K) && pd.flds.all (noB K) && pd.ents.all (fun e => e.okB K && meB K e) && pd.xs.all (xB pd K) && pd.xents.all (fun q => q.2.2.okB K) && pd.xs.all (fun p => excB K (cA K p.1)) && pd.xis.all (xiB pd K)
/-- what is written: of the syntax alone -/
def scB (e : Ent) : Bool := decide (e.scope.kind = .function) && !e.scope.isCoroutine && !e.scope.isGenerator && decide e.N.Nodup && decide (e.N.take e.ps.length = e.ps) && e.ps.all (fun x => decide (e.scope.names.lookup x = some .local) || decide (e.scope.names.lookup x = some .cell)) && e.scope.names.all fun y => !decide (y.2 = .free)
theorem scB_ok {e : Ent} (h : scB e = true) : FnScope e.N e.ps e.scope := by
  unfold scB at h
  obtain ⟨h, h7⟩ := an h
  obtain ⟨h, h6⟩ := an h
  obtain ⟨h, h5⟩ := an h
  obtain ⟨h, h4⟩ := an h
  obtain ⟨h, h3⟩ := an h
  obtain ⟨h1, h2⟩ := an h
  refine ⟨of_decide_eq_true h1, nt h2, nt h3, of_decide_eq_true h4, of_decide_eq_true h5, fun x hx => ?_, fun y hy e => ?_⟩
  · have q := List.all_eq_true.mp h6 x hx
    rw [Bool.or_eq_true] at q
    exact q.imp of_decide_eq_true of_decide_eq_true
  · have q := List.all_eq_true.mp h7 y hy
    simp [e] at q
def entB (pd : PD) (e : Ent) : Bool := scB e && decide (e.N.length = e.fn.slots) && ckPs (pd.ck e.N) e.fn.body ⟨e.scope, fun _ => true, true, false⟩ e.body
def xeB (q : String × Str × Ent) : Bool := scB q.2.2 && decide (q.2.2.N = ([("self" : Str), q.2.1] : List Str)) && decide (q.2.2.ps = ([("self" : Str), q.2.1] : List Str)) && q.2.2.dfl.isEmpty && q.2.2.kwd.isEmpty && okNm q.2.1
structure PDok (pd : PD) (Pg : Prog) : Prop where
  fn : ∀ f, Pg.fn f = (pd.find f).map (·.fn)
  prop : ∀ c f, Pg.prop c f = pd.props.contains (c, f)
  isF : ∀ c f, Pg.isF c f = pd.flds.contains (c, f)
  glb : ∀ x, Pg.glb x = pd.glb.lookup x
  xat : ∀ c, Pg.xat c = pd.xs.lookup c
  rep : ∀ x, tS (Pg.rep x) = (pyR x).shown
  propC : pd.props.all (fun p => pd.cls.contains p.1) = true
  nd : (pd.ents.map (·.key)).Nodup
  ent : ∀ e ∈ pd.ents, entB pd e = true
  xsl : ∀ p ∈ pd.xs, pd.xs.lookup p.1 = some p.2
  bd : ∀ e ∈ pd.ents, ∀ p ∈ e.shapes, ∀ (K : PySem.W.Frag) (fd : FuncData), FunD K e.name e.qual e.params e.body e.scope (e.dvs K) (e.kws K) (adOf K e.loc) fd → Nonempty (Bd K (pd.W K) fd e.ps e.fn p.1 p.2)
  xe : ∀ p ∈ pd.xs, ∃ v e, (p.1, v, e) ∈ pd.xents ∧ e.loc = .me p.1 "__init__" ∧ xeB (p.1, v, e) = true ∧ (∃ q1 q2 q3 q4, e.body = [.Assign [.Attribute (.Name "self" q1) (Str.ofString p.2) q2] (.Name v q3) q4]) ∧
    (∀ (kV doc pm : Value) (an : Option Addr) (cdv ct : Value) (us : List Value), us.length = e.ps.length → bindArgs (PySem.W.fnOf e.name e.qual e.params e.body e.scope .none kV doc pm an cdv ct) ⟨us, []⟩ = pure (e.ps.zip us)) ∧ v = Str.ofString p.2 ∧
    ∀ (kV doc pm : Value) (an : Option Addr) (cdv ct a b : Value), bindArgs (PySem.W.fnOf e.name e.qual e.params e.body e.scope .none kV doc pm an cdv ct) ⟨[a], [(v, b)]⟩ = pure (e.ps.zip [a, b])
end PM
set_option Elab.async false
set_option linter.all false
set_option autoImplicit false
set_option maxHeartbeats 8000000
/-! PMLev2: level by level, the proof. -/
namespace PM
open PySem PySem.Spec PyProof.Rows L2
theorem eqO_of {a b : Option (Option Value)} (h : PM.eqO a b = true) : a = b := of_decide_eq_true h
/-- the world behind the top -/
structure Bhd (pd : PD) (w : World) (K : PySem.W.Frag) (mg : Str → Option Value) (base : Heap) : Prop where
  all : pd.allB K = true
  val : ∀ e ∈ pd.ents, fnO K (adOf K e.loc) = e.val
  valx : ∀ p ∈ pd.xents, fnO K (adOf K p.2.2.loc) = p.2.2.val
  dic : ∀ q ∈ pd.dcts, He.dicW K (cA K q.1) = some (He.keysIn w.params (dKeys q.2))
  inn : K.In base
  ns : base.Ns mainGlobals mg
section
variable {pd : PD} {Pg : Prog} {P : Program} {w : World} {K : PySem.W.Frag} {mg : Str → Option Value} {base : Heap}
structure BhdF (pd : PD) (K : PySem.W.Frag) : Prop where
  free : freeB K = true
  sm : smB K = true
  glb : ∀ p ∈ pd.glb, glbB K p = true
  cls : ∀ c ∈ pd.cls, clsB pd K c = true
  pr : ∀ p ∈ pd.props, prB pd K p = true
  no : ∀ p ∈ pd.flds, noB K p = true
  ent : ∀ e ∈ pd.ents, e.okB K = true ∧ meB K e = true
  xs : ∀ p ∈ pd.xs, xB pd K p = true
  xents : ∀ q ∈ pd.xents, q.2.2.okB K = true
  exc : ∀ p ∈ pd.xs, excB K (cA K p.1) = true
  xis : ∀ p ∈ pd.xis, xiB pd K p = true
theorem bhdF_of (h : pd.allB K = true) : BhdF pd K := by
  unfold PD.allB at h
  obtain ⟨h, h11⟩ := an h
  obtain ⟨h, h10⟩ := an h
  obtain ⟨h, h9⟩ := an h
  obtain ⟨h, h8⟩ := an h
  obtain ⟨h, h7⟩ := an h
  obtain ⟨h, h6⟩ := an h
  obtain ⟨h, h5⟩ := an h
  obtain ⟨h, h4⟩ := an h
  obtain ⟨h, h3⟩ := an h
  obtain ⟨h1, h2⟩ := an h
  exact ⟨h1, h2, List.all_eq_true.mp h3, List.all_eq_true.mp h4, List.all_eq_true.mp h5, List.all_eq_true.mp h6, fun e he => an (List.all_eq_true.mp h7 e he), List.all_eq_true.mp h8, List.all_eq_true.mp h9, List.all_eq_true.mp h10, List.all_eq_true.mp h11⟩
theorem find_mem {f : String} {e : Ent} (h : pd.find f = some e) : e ∈ pd.ents ∧ e.key = f := by
  unfold PD.find at h
  exact ⟨List.mem_of_find?_eq_some h, by simpa using List.find?_some h⟩
theorem find_of (nd : (pd.ents.map (·.key)).Nodup) {e : Ent} (he : e ∈ pd.ents) : pd.find e.key = some e := by
  unfold PD.find
  revert nd he
  generalize pd.ents = l
  intro nd he
  induction l with
  | nil => cases he
  | cons a l ih =>
    rw [List.map_cons, List.nodup_cons] at nd
    rw [List.find?_cons]
    rcases List.mem_cons.mp he with rfl | h
    · simp
    · have : (a.key == e.key) = false := by
        rw [beq_eq_false_iff_ne]
        intro q
        exact nd.1 (by rw [q]; exact List.mem_map_of_mem h)
      rw [this]
      exact ih nd.2 h
theorem mg_glo (B : Bhd pd w K mg base) {x : String} (h : gloB K x = true) : mg (Str.ofString x) = some (.ref (cA K x)) := PySem.W.mg_of B.inn B.ns (eqO_of h)
theorem isGlo_ok {l : Lc} {x : String} (h : isGlo l x = true) : l = .glo x := by
  cases l with
  | glo y => rw [show y = x from beq_iff_eq.mp h]
  | _ => cases h
theorem isMe_ok {l : Lc} {c m : String} (h : isMe l c m = true) : l = .me c m := by
  cases l with
  | me a b =>
    obtain ⟨h1, h2⟩ := an (show (a == c && b == m) = true from h)
    rw [beq_iff_eq.mp h1, beq_iff_eq.mp h2]
  | _ => cases h
theorem isPr_ok {l : Lc} {c m : String} (h : isPr l c m = true) : l = .pr c m := by
  cases l with
  | pr a b =>
    obtain ⟨h1, h2⟩ := an (show (a == c && b == m) = true from h)
    rw [beq_iff_eq.mp h1, beq_iff_eq.mp h2]
  | _ => cases h
theorem cl_ok {c : String} {Ca : Addr} (h : (pd.W K).cl c = some Ca) : c ∈ pd.cls ∧ Ca = cA K c := by
  have h' : (if pd.cls.contains c then some (cA K c) else none) = some Ca := h
  split at h'
  · rename_i q
    cases h'
    exact ⟨by simpa using q, rfl⟩
  · cases h'
theorem lookup_mem {α : Type} {k : String} {v : α} : ∀ {l : List (String × α)}, l.lookup k = some v → (k, v) ∈ l
  | [], h => by cases h
  | (a, b) :: r, h => by
    rw [List.lookup_cons] at h
    cases e : k == a with
    | true =>
      rw [e] at h
      cases h
      rw [beq_iff_eq.mp e]
      exact List.mem_cons_self
    | false =>
      rw [e] at h
      exact List.mem_cons_of_mem _ (lookup_mem h)
theorem xc_ok {c : String} {Ca : Addr} {f : Str} (h : (pd.W K).xc c = some (Ca, f)) : ∃ f0, (c, f0) ∈ pd.xs ∧ pd.xs.lookup c = some f0 ∧ Ca = cA K c ∧ f = Str.ofString f0 := by
  have h' : (pd.xs.lookup c).map (fun f => (cA K c, Str.ofString f)) = some (Ca, f) := h
  obtain ⟨f0, e1, e2⟩ := Option.map_eq_some_iff.mp h'
  cases e2
  exact ⟨f0, lookup_mem e1, e1, rfl, rfl⟩
/-- a level -/
def Lev (pd : PD) (Pg : Prog) (P : Program) (w : World) (K : PySem.W.Frag) (mg : Str → Option Value) (base : Heap) (k : Nat) : Prop := ∀ e ∈ pd.ents, ∀ n ks, (n, ks) ∈ e.shapes → FnG (pd.W K) P w K mg base k (adOf K e.loc) (callF Pg k e.key) n ks
structure ClsF (pd : PD) (K : PySem.W.Frag) (c : String) : Prop where
  glo : gloB K c = true
  cls : Cls K (cA K c)
  ha : PySem.W.findIn K (.ref (cA K c)) "__class__" = some (some (.builtin "object.__class__"))
  hn : PySem.W.specialIn K (.builtin "object.__class__") "__get__" = some (some (.builtin "getset_descriptor.__get__"))
  ht : PySem.W.takesIn K (.builtin "object.__class__") = some true
  hm : PySem.W.mroIn K (cA K c) (.type "object") = some true
  n7 : ∀ T ∈ nat7, PySem.W.kitOne K (.ref (cA K c)) (.type T) = some false ∧ PySem.W.kitOne K (.type T) (.ref (cA K c)) = some false
  two : ∀ e ∈ pd.cls, PySem.W.kitOne K (.ref (cA K c)) (.ref (cA K e)) = some (c == e)
  eq : ∀ e, pd.find (c ++ ".__eq__") = some e → e.loc = .me c "__eq__" ∧ (2, []) ∈ e.shapes ∧ PySem.W.findIn K (.ref (cA K c)) "__eq__" = some (some (.ref (mA K c "__eq__"))) ∧ PySem.W.isFn K (.ref (mA K c "__eq__")) = true ∧ (∀ T ∈ nat7, PySem.W.notFirst K (cA K c) (.type T) = true) ∧ ∀ e ∈ pd.cls, PySem.W.notFirst K (cA K c) (.ref (cA K e)) = true
  init : ∀ e, pd.find (c ++ ".__init__") = some e → Mk K (cA K c) (mA K c "__init__")
theorem clsF_of {c : String} (h : clsB pd K c = true) : ClsF pd K c := by
  unfold clsB at h
  obtain ⟨h, h10⟩ := an h
  obtain ⟨h, h9⟩ := an h
  obtain ⟨h, h8⟩ := an h
  obtain ⟨h, h7⟩ := an h
  obtain ⟨h, h6⟩ := an h
  obtain ⟨h, h5⟩ := an h
  obtain ⟨h, h4⟩ := an h
  obtain ⟨h, h3⟩ := an h
  obtain ⟨h1, h2⟩ := an h
  refine ⟨h1, He.cls_ok h2, eqO_of h3, eqO_of h4, of_decide_eq_true h5, of_decide_eq_true h6, fun T hT => ?_, fun e he => of_decide_eq_true (List.all_eq_true.mp h8 e he), fun e q => ?_, fun e q => ?_⟩
  · obtain ⟨a, b⟩ := an (List.all_eq_true.mp h7 T hT)
    exact ⟨of_decide_eq_true a, of_decide_eq_true b⟩
  · rw [q] at h9
    obtain ⟨h, g6⟩ := an h9
    obtain ⟨h, g5⟩ := an h
    obtain ⟨h, g4⟩ := an h
    obtain ⟨h, g3⟩ := an h
    obtain ⟨g1, g2⟩ := an h
    exact ⟨isMe_ok g1, by simpa using g2, eqO_of g3, g4, List.all_eq_true.mp g5, List.all_eq_true.mp g6⟩
  · rw [q] at h10
    exact He.mkr_ok h10
theorem dct_ok {p : Addr} {kvs : List (Key × D)} {x : String} (hp : mg (Str.ofString x) = some (.ref p)) (hd : He.dicW K p = some (He.keysIn w.params (dKeys kvs))) (hv : dctB K p kvs = true) :
    ∃ p es n, mg (Str.ofString x) = some (.ref p) ∧ KDict K w p es n ∧ ∀ t : Txt, match getK kvs (.inr t) with
      | some d => ∃ y u, d = .str y ∧ y.length ≤ sizeLine ∧ PySem.W.nsIn K p (tS t) = some (some u) ∧ RelV (.str (tS y)) u
      | none => PySem.W.nsIn K p (tS t) = some none := by
  obtain ⟨es, n, kd⟩ := He.dicW_ok hd
  refine ⟨p, es, n, hp, kd, fun t => ?_⟩
  have hall := List.all_eq_true.mp hv
  cases e : getK kvs (.inr t) with
  | some d =>
    obtain ⟨q, e1, e2⟩ := Option.map_eq_some_iff.mp e
    have hm := List.mem_of_find?_eq_some e1
    have ek : q.1 = .inr t := by simpa using List.find?_some e1
    have z := hall q hm
    obtain ⟨qk, qd⟩ := q
    simp only at ek e2
    subst ek e2
    simp only at z
    cases qd <;> first | (cases z; done) | skip
    rename_i y
    obtain ⟨z1, z2⟩ := an z
    split at z2
    · rename_i s tk ee
      refine ⟨y, _, rfl, of_decide_eq_true z1, ee, ?_⟩
      rw [of_decide_eq_true z2]
      exact ⟨_, rfl⟩
    · cases z2
  | none =>
    -- no such key
    have lk := kd.at_
    have ekeys : es.toList.map He.keyOf = He.keysIn w.params (dKeys kvs) := by
      unfold He.dicW at hd
      rw [lk] at hd
      simp only at hd
      split at hd
      · exact Option.some.inj hd
      · cases hd
    have nk : tS t ∉ dKeys kvs := fun hm => by
      obtain ⟨q, hq, eq⟩ := List.mem_map.mp hm
      have z := hall q hq
      obtain ⟨qk, qd⟩ := q
      cases qk with
      | inl i => cases qd <;> cases z
      | inr x0 =>
        have ex : x0 = t := tS_inj eq
        subst ex
        unfold getK at e
        have := List.find?_eq_none.mp (Option.map_eq_none_iff.mp e) _ hq
        simp at this
    have ent : ∀ en ∈ es.toList, ∃ s tk, en.key = .str s tk ∧ s ∈ dKeys kvs := fun en he => by
      have z : He.keyOf en ∈ He.keysIn w.params (dKeys kvs) := by rw [← ekeys]; exact List.mem_map_of_mem he
      obtain ⟨s, hs, e1⟩ := List.mem_map.mp z
      unfold He.keyOf at e1
      split at e1
      · rename_i s' tk ek
        have e2 := (Prod.mk.inj (Option.some.inj e1)).1
        exact ⟨_, tk, ek, e2 ▸ hs⟩
      · cases e1
    unfold PySem.W.nsIn
    rw [lk]
    simp only
    have f1 : es.toList.find? (fun e => e.key.isStr (tS t)) = none := by
      refine List.find?_eq_none.mpr fun en he => ?_
      obtain ⟨s, tk, ek, hs⟩ := ent en he
      rw [ek]
      intro z
      have : s = tS t := by simpa [Value.isStr] using z
      exact nk (this ▸ hs)
    have f2 : es.toList.any (fun e => e.refKey) = false := by
      rw [Bool.eq_false_iff]
      intro z
      obtain ⟨en, he, q⟩ := List.any_eq_true.mp z
      obtain ⟨s, tk, ek, hs⟩ := ent en he
      unfold DictEntry.refKey at q
      rw [ek] at q
      cases q
    rw [f1, f2]
    rfl
theorem sta_of (D : PDok pd Pg) (B : Bhd pd w K mg base) {k : Nat} (L : Lev pd Pg P w K mg base k) : Sta (pd.W K) (Pg.ctx k) pd.sh k P w K mg base := by
  have F := bhdF_of B.all
  have has : ∀ f, (Pg.ctx k).has f = true → ∃ e, pd.find f = some e := fun f h => by
    have h' : (Pg.fn f).isSome = true := h
    rw [D.fn f] at h'
    cases q : pd.find f with
    | none => rw [q] at h'; cases h'
    | some e => exact ⟨e, rfl⟩
  have CF : ∀ {c Ca}, (pd.W K).cl c = some Ca → c ∈ pd.cls ∧ Ca = cA K c ∧ ClsF pd K c := fun h => by
    obtain ⟨h1, h2⟩ := cl_ok h
    exact ⟨h1, h2, clsF_of (F.cls _ h1)⟩
  refine ⟨fun f n ks h => ?_, fun c m n ks Ca hc h hh => ?_, fun c Ca hc => ?_, fun c n ks h => ?_, fun c f Ca hc h => ?_, fun c Ca hc => ?_, fun T hT c Ca hc => ?_, fun c c' Ca Ca' hc hc' => ?_, fun c Ca hc h => ?_, fun c f Ca hc h => ?_, ?_, fun c Ca f h => ?_, fun c Ca f h => ?_, fun x hx => ?_, fun x d h => ?_, fun x kvs h => ?_⟩
  · have h' : (match pd.find f with
      | some e => isGlo e.loc f && e.shapes.contains (n, ks)
      | none => false) = true := h
    cases q : pd.find f with
    | none => rw [q] at h'; cases h'
    | some e =>
      rw [q] at h'
      obtain ⟨h1, h2⟩ := an h'
      obtain ⟨m1, m2⟩ := find_mem q
      have el := isGlo_ok h1
      obtain ⟨o1, o2⟩ := F.ent e m1
      have hl := L e m1 n ks (by simpa using h2)
      rw [el, m2] at hl
      unfold meB at o2
      rw [el] at o2
      unfold Ent.okB at o1
      rw [el] at o1
      exact ⟨cA K f, mg_glo B o2, (an o1).1, hl⟩
  · obtain ⟨h1, rfl, cf⟩ := CF hc
    obtain ⟨e, he⟩ := has _ hh
    have q := List.all_eq_true.mp (show (pd.cls.all fun c => match pd.find (c ++ "." ++ m) with
      | some e => isMe e.loc c m && e.shapes.contains (n + 1, ks)
      | none => true) = true from h) c h1
    rw [he] at q
    obtain ⟨q1, q2⟩ := an q
    obtain ⟨m1, m2⟩ := find_mem he
    have el := isMe_ok q1
    obtain ⟨o1, o2⟩ := F.ent e m1
    unfold meB at o2
    rw [el] at o2
    have hl := L e m1 (n + 1) ks (by simpa using q2)
    rw [el, m2] at hl
    exact ⟨mA K c m, He.meth_ok o2, hl⟩
  · obtain ⟨h1, rfl, cf⟩ := CF hc
    exact cf.cls
  · obtain ⟨h1, h2⟩ := an (show (pd.cls.contains c && match pd.find (c ++ ".__init__") with
      | some e => isMe e.loc c "__init__" && e.shapes.contains (n + 1, ks)
      | none => false) = true from h)
    have hc : c ∈ pd.cls := by simpa using h1
    have cf := clsF_of (F.cls c hc)
    cases q : pd.find (c ++ ".__init__") with
    | none => rw [q] at h2; cases h2
    | some e =>
      rw [q] at h2
      obtain ⟨q1, q2⟩ := an h2
      obtain ⟨m1, m2⟩ := find_mem q
      have el := isMe_ok q1
      have hl := L e m1 (n + 1) ks (by simpa using q2)
      rw [el, m2] at hl
      refine ⟨cA K c, mA K c "__init__", ?_, mg_glo B cf.glo, cf.init e q, hl⟩
      show (if pd.cls.contains c then some (cA K c) else none) = _
      rw [if_pos h1]
  · obtain ⟨h1, rfl, cf⟩ := CF hc
    have h' : Pg.prop c f = true := h
    rw [D.prop] at h'
    have q := F.pr (c, f) (by simpa using h')
    unfold prB at q
    obtain ⟨q, q5⟩ := an q
    obtain ⟨q, q4⟩ := an q
    obtain ⟨q, q3⟩ := an q
    obtain ⟨q1, q2⟩ := an q
    cases r : PySem.W.recIn K (mA K c f) "property" with
    | none => simp [r] at q4
    | some vs =>
      cases vs with
      | nil => simp [r] at q4
      | cons v rest =>
        cases v <;> first | (simp [r] at q4; done) | skip
        rename_i g
        cases z : pd.find (c ++ "." ++ f) with
        | none => simp [z] at q5
        | some e =>
          simp only [z] at q5
          obtain ⟨z1, z2⟩ := an q5
          obtain ⟨m1, m2⟩ := find_mem z
          have el := isPr_ok z1
          have hl := L e m1 1 [] (by simpa using z2)
          have eg : adOf K (.pr c f) = g := by
            show gA K c f = g
            unfold gA
            rw [r]
          rw [el, m2, eg] at hl
          exact ⟨mA K c f, g, ⟨eqO_of q1, eqO_of q2, of_decide_eq_true q3, rest, r⟩, hl⟩
  · obtain ⟨h1, rfl, cf⟩ := CF hc
    exact ⟨cf.ha, cf.hn, cf.ht, cf.hm⟩
  · obtain ⟨h1, rfl, cf⟩ := CF hc
    exact cf.n7 T hT
  · obtain ⟨h1, rfl, cf⟩ := CF hc
    obtain ⟨h2, rfl, _⟩ := CF hc'
    exact cf.two c' h2
  · obtain ⟨h1, rfl, cf⟩ := CF hc
    obtain ⟨e, he⟩ := has _ h
    obtain ⟨g1, g2, g3, g4, g5, g6⟩ := cf.eq e he
    obtain ⟨m1, m2⟩ := find_mem he
    have hl := L e m1 2 [] g2
    rw [g1, m2] at hl
    exact ⟨mA K c "__eq__", g3, g4, hl, g5, fun c' Ca' hc' => by
      obtain ⟨h2, rfl, _⟩ := CF hc'
      exact g6 c' h2⟩
  · obtain ⟨h1, rfl, cf⟩ := CF hc
    have h' : Pg.isF c f = true := h
    rw [D.isF] at h'
    exact eqO_of (F.no (c, f) (by simpa using h'))
  · have q := F.sm
    unfold smB at q
    split at q
    · rename_i o e
      exact ⟨o, B.inn _ _ e, of_decide_eq_true q⟩
    · cases q
  · obtain ⟨f0, m0, lk, rfl, rfl⟩ := xc_ok h
    have q := F.xs (c, f0) m0
    unfold xB at q
    obtain ⟨q, q7⟩ := an q
    obtain ⟨q, q6⟩ := an q
    obtain ⟨q, q5⟩ := an q
    obtain ⟨q, q4⟩ := an q
    obtain ⟨q, q3⟩ := an q
    obtain ⟨q1, q2⟩ := an q
    obtain ⟨v, e, x1, x2, x3, ⟨p1, p2, p3, p4, x4⟩, x5, x6, x7⟩ := D.xe (c, f0) m0
    unfold xeB at x3
    obtain ⟨x3, y6⟩ := an x3
    obtain ⟨x3, y5⟩ := an x3
    obtain ⟨x3, y4⟩ := an x3
    obtain ⟨x3, y3⟩ := an x3
    obtain ⟨y1, y2⟩ := an x3
    obtain ⟨fd, FD⟩ := Ent.funD (B.valx _ x1) (F.xents _ x1)
    have sc := scB_ok y1
    have d1 : e.dfl = [] := List.isEmpty_iff.mp y4
    have d2 : e.kwd = [] := List.isEmpty_iff.mp y5
    have eN : e.N = [("self" : Str), v] := of_decide_eq_true y2
    have eP : e.ps = [("self" : Str), v] := of_decide_eq_true y3
    simp only at FD sc
    unfold Ent.dvs Ent.kws at FD
    rw [d1, d2, x4, x2] at FD
    rw [eN, eP] at sc
    refine ⟨mA K c "__init__", fd, ["self", v], mg_glo B q1, oexB_ok q2, eqO_of q5, of_decide_eq_true q6, init_ok FD sc (okNm_ok y6).1 (okNm_ok y6).2 (oexB_ok q2) (eqO_of q4), FD.bindsN fun kV doc pm an cdv ct us hl => by
      have := x5 kV doc pm an cdv ct us (by rw [eP]; exact hl)
      rw [eP, x4] at this
      exact this, fun us ws => us ++ ws, fun vs zs => vs ++ zs, ⟨fun s us ws _ hl hl2 => ?_, fun r r2 => r.append r2⟩, fun _ _ => rfl⟩
    obtain ⟨oc, od, dV, kV, doc, pm, an', cdv, ct, osl, rfl, lk', hcd, hD, hK⟩ := FD.ex
    rcases hD with ⟨_, rfl⟩ | ⟨e', _⟩
    · match us, ws, hl, hl2 with
      | [a], [b], _, _ =>
        have := x7 kV doc pm an' cdv ct a b
        rw [eP, x4, x6] at this
        rw [x6]
        exact .of_eq this
    · exact absurd rfl e'
  · obtain ⟨f0, m0, lk, rfl, rfl⟩ := xc_ok h
    have q := F.xs (c, f0) m0
    unfold xB at q
    obtain ⟨q, q7⟩ := an q
    obtain ⟨q, q6⟩ := an q
    obtain ⟨q, q5⟩ := an q
    obtain ⟨q, q4⟩ := an q
    obtain ⟨q, q3⟩ := an q
    have xf := xfB_ok q3
    have z := F.exc (c, f0) m0
    unfold excB at z
    obtain ⟨z, z4⟩ := an z
    obtain ⟨z, z3⟩ := an z
    obtain ⟨z1, z2⟩ := an z
    refine ⟨⟨xf.ga, xf.gg, xf.exC, xf.hdC, eqO_of z1, eqO_of z2, of_decide_eq_true z3, of_decide_eq_true z4⟩, xf, eqO_of q4, fun g hg => ?_⟩
    have hg' : Pg.xat c = some g := hg
    rw [D.xat, lk] at hg'
    cases hg'
    rfl
  · exact PySem.W.mg_none_of B.inn B.ns (eqO_of (List.all_eq_true.mp F.free x hx))
  · have h0 : noDct (Pg.glb x) = some d := h
    have h' : Pg.glb x = some d := by
      unfold noDct at h0
      split at h0
      · cases h0
      · exact h0
    have nd : ∀ kvs, d ≠ .dct kvs := fun kvs e => by rw [h', e] at h0; cases h0
    rw [D.glb] at h'
    have q := F.glb (x, d) (lookup_mem h')
    unfold glbB at q
    split at q
    · rename_i u e
      have q' : repB K d u = true := by
        cases d <;> first | exact q | exact absurd rfl (nd _)
      obtain ⟨v, r1, r2⟩ := repB_ok (W := (pd.W K).toWd) d u q'
      exact ⟨v, u, PySem.W.mg_of B.inn B.ns e, r1, r2⟩
    · cases q
  · have h' : Pg.glb x = some (.dct kvs) := h
    rw [D.glb] at h'
    have hm := lookup_mem h'
    have q := F.glb (x, .dct kvs) hm
    unfold glbB at q
    split at q
    · simp only at q
      obtain ⟨q1, q2⟩ := an q
      have hd : (x, kvs) ∈ pd.dcts := List.mem_filterMap.mpr ⟨(x, .dct kvs), hm, rfl⟩
      exact dct_ok (mg_glo B q1) (B.dic _ hd) q2
    · cases q
theorem lev_all (D : PDok pd Pg) (B : Bhd pd w K mg base) : ∀ k, Lev pd Pg P w K mg base k
  | 0 => fun e he n ks hs A outer s H us ws vs zs pos kvals F μ S Q E hr e0 rv rz R rp rk hn hk h => by
    unfold callF at h
    exact h.elim
  | k + 1 => fun e he n ks hs => by
    have st := sta_of (P := P) (w := w) D B (lev_all D B k)
    obtain ⟨fd, FD⟩ := Ent.funD (B.val e he) ((bhdF_of B.all).ent e he).1
    have q := D.ent e he
    unfold entB at q
    obtain ⟨q, q3⟩ := an q
    obtain ⟨q1, q2⟩ := an q
    have sc := scB_ok q1
    obtain ⟨bd⟩ := D.bd e he (n, ks) hs K fd FD
    have hfn : Pg.fn e.key = some e.fn := by rw [D.fn, find_of D.nd he]; rfl
    refine fnG_of (x := "") (qual := "") FD sc hfn (of_decide_eq_true q2) bd fun cdv A outer s H E hr => ?_
    have G : Gb (pd.W K) (Pg.ctx k) pd.sh k (cxOf (L2.CX P w) P w K mg base e.N e.qual e.scope (adOf K e.loc) cdv A outer s H E) := ⟨sc.nd, rfl, hr.hu, hr.gs, st⟩
    have F := bhdF_of B.all
    refine ckPs_ok (pd.ck e.N) e.fn.body _ _ q3 (W := pd.W K) (wx := fun cls d _ H' => E cls d H') (C := Pg.ctx k) (k := k) ⟨G, fun _ => ⟨G, rfl, hr⟩, takes_of rfl rfl rfl rfl, rfl, rfl, fun _ _ => rfl, fun n hn => ?_, D.rep, fun n hn => ?_, fun n Ca f n0 C0 f0 h1 h2 => ?_, fun f hf c Ca fs h1 h2 => ?_, fun p hp => ?_, fun p hp => ?_, fun h => by cases h⟩ fun _ => ⟨passes_of rfl, rfl, rfl⟩
    · have hn' : n ∈ pd.cls := hn
      refine ⟨cA K n, ?_, mg_glo B (clsF_of (F.cls n hn')).glo⟩
      show (if pd.cls.contains n then some (cA K n) else none) = _
      rw [if_pos (by simpa using hn')]
    · have hn' : n ∈ pd.xs.map (·.1) := hn
      obtain ⟨p, hp, rfl⟩ := List.mem_map.mp hn'
      have lk : ∃ f, pd.xs.lookup p.1 = some f := by
        revert hp
        generalize pd.xs = l
        intro hp
        induction l with
        | nil => cases hp
        | cons a l ih =>
          rw [List.lookup_cons]
          cases z : p.1 == a.1 with
          | true => exact ⟨a.2, rfl⟩
          | false =>
            rcases List.mem_cons.mp hp with rfl | h
            · simp at z
            · exact ih h
      obtain ⟨f, lk⟩ := lk
      have q := F.xs p hp
      unfold xB at q
      obtain ⟨q, q7⟩ := an q
      obtain ⟨q, q6⟩ := an q
      obtain ⟨q, q5⟩ := an q
      obtain ⟨q, q4⟩ := an q
      obtain ⟨q, q3⟩ := an q
      obtain ⟨q1, q2⟩ := an q
      refine ⟨cA K p.1, Str.ofString f, ?_, mg_glo B q1⟩
      show (pd.xs.lookup p.1).map (fun f => (cA K p.1, Str.ofString f)) = _
      rw [lk]; rfl
    · obtain ⟨g1, m1, _, rfl, rfl⟩ := xc_ok h1
      obtain ⟨g2, m2, _, rfl, rfl⟩ := xc_ok h2
      have q := F.xs (n, g1) m1
      unfold xB at q
      exact of_decide_eq_true (List.all_eq_true.mp (an q).2 (n0, g2) m2)
    · obtain ⟨g1, m1, lk, rfl, rfl⟩ := xc_ok h1
      have h2' : Pg.xat c = some f := h2
      rw [D.xat, lk] at h2'
      cases h2'
      have q := F.xs (c, _) m1
      unfold xB at q
      obtain ⟨q, q7⟩ := an q
      obtain ⟨q, q6⟩ := an q
      obtain ⟨q, q5⟩ := an q
      obtain ⟨q, q4⟩ := an q
      obtain ⟨q, q3⟩ := an q
      exact ⟨rfl, xfB_ok q3, eqO_of q4⟩
    · obtain ⟨q, hq, rfl⟩ := List.mem_map.mp (show p ∈ pd.xis.map fun p => (p.1, p.2.2) from hp)
      have z := F.xis q hq
      unfold xiB at z
      split at z
      · obtain ⟨z, z3⟩ := an z
        obtain ⟨z1, z2⟩ := an z
        have e : q.1 = "ValueError" := beq_iff_eq.mp z1
        refine ⟨.ty "ValueError", .type "ValueError", .ty _, fun n Ca f h => ?_, .inr ⟨e, ?_, rfl, rfl⟩⟩
        · obtain ⟨g1, m1, lk, rfl, rfl⟩ := xc_ok h
          exact of_decide_eq_true (List.all_eq_true.mp z3 _ m1)
        · rw [← e]
          exact PySem.W.mg_none_of B.inn B.ns (eqO_of z2)
      · obtain ⟨z1, z3⟩ := an z
        refine ⟨.ref (cA K q.1), .ref (cA K q.1), .own _, fun n Ca f h => ?_, .inl ⟨_, mg_glo B z1, rfl, rfl⟩⟩
        obtain ⟨g1, m1, lk, rfl, rfl⟩ := xc_ok h
        exact of_decide_eq_true (List.all_eq_true.mp z3 _ m1)
    · have hp' : p ∈ pd.xs := hp
      refine ⟨cA K p.1, ?_⟩
      show (pd.xs.lookup p.1).map (fun f => (cA K p.1, Str.ofString f)) = _
      rw [D.xsl p hp']; rfl
end
end PM
set_option Elab.async false
set_option linter.all false
set_option autoImplicit false
set_option maxHeartbeats 8000000
/-! PMEnd: from the machine's run of the law to the row. -/
namespace PM
open PySem PySem.Spec PyProof.Rows L2
section
variable {P : Program} {w : World} {K : PySem.W.Frag} {mg mb : Str → Option Value} {W : Wx} {k : Nat} {fa a : Addr} {s1 : Shared} {vs : List Value} {ns : List Int} {run : List D → List (String × D) → St → R D}
theorem repl_ints {F : Addr → Prop} {μ : List Addr} {H : Hp} : ∀ ns : List Int, RepL W.toWd F μ H (ns.map D.int) (ns.map V.int)
  | [] => .nil
  | _ :: r => .cons (.int _) (repl_ints r)
/-- the law's call, over the machine's run -/
theorem callG (inK : K.In s1.heap) (gl : s1.heap.Ns mainGlobals mg) (bt : s1.heap.Ns builtinsNs mb) (btb : ∀ x : Str, x ≠ "__name__" → mb x = bootBuiltins x) (nol : s1.heap.NoLimit) (gen : s1.gens = #[])
    (obj : s1.heap.get? a = some { cls := .type "list", data := .seq vs.toArray }) (is : IntsAre vs ns) (le : ns.length ≤ sizeLine) (room : PRoom k callerA) (WK : W.K = K) (Ka : K.lookup a = none)
    (G : ∀ base : Heap, K.In base → base.Ns mainGlobals mg → FnG W P w K mg base k fa run 1 [])
    (h : ∃ S', run [.lst (ns.map .int)] [] [] = .ok (.bl true) S') :
    codeAny (model P w) callerA (.call (.ref fa) ⟨[.ref a], []⟩) (fun r s' => r = .ok (.ret (.bool true)) ∧ OldK s1.heap s'.heap ∧ s'.os = s1.os ∧ AllBare s'.gens) s1 := by
  have rv := vals_ints is
  have lv := is.length
  obtain ⟨Sf, h⟩ := h
  -- the script is frozen at a
  let o : Obj := { cls := .type "list", data := .seq vs.toArray }
  let H : Hp := fun b => if b = a then some (.frz o (.lst (ns.map V.int))) else none
  have Ha : H a = some (.frz o (.lst (ns.map V.int))) := if_pos rfl
  have Hn : ∀ {b}, b ≠ a → H b = none := fun e => if_neg e
  have only : ∀ {b}, H b ≠ none → b = a := fun {b} z => Classical.byContradiction fun e => z (Hn e)
  have hok : HOk P w H s1.heap := fun b u z => by
    have e : b = a := only (by rw [z]; simp)
    subst e
    rw [Ha] at z
    cases z
    exact ⟨obj, by rw [List.length_map]; exact le, vs, _, rv, obj⟩
  have nodict : ∀ {b : Addr} {u : Obj} {es : Array DictEntry} {ep : Nat}, s1.heap.get? b = some u → u.data = .dict es ep → H b = none := fun {b u es ep} e d => Hn fun q => by
    subst q
    rw [obj] at e
    cases e
    have d' : Data.seq vs.toArray _ = Data.dict es ep := d
    cases d'
  have hid : ∀ {b : Addr} {u : Obj}, s1.heap.get? b = some u → H b = none → (hidT s1.heap H).get? b = some u := fun e n => hidT_get e n
  have nsh : ∀ {b : Addr} {m : Str → Option Value}, s1.heap.Ns b m → (hidT s1.heap H).Ns b m := fun ⟨u, es, ep, e, d, r⟩ => ⟨u, es, ep, hid e (nodict e d), d, r⟩
  have inb : K.In (hidT s1.heap H) := fun b u e => hid (inK b u e) (Hn fun q => by rw [q, Ka] at e; cases e)
  have mod : Mod K mg (hidT s1.heap H) := ⟨inb, nsh gl, ⟨mb, nsh bt, btb⟩, let ⟨m, q1, q2⟩ := nol; ⟨m, nsh q1, q2⟩⟩
  have env : Env0 P w K mg (hidT s1.heap H) callerA [] s1 H := ⟨rfl, mod, fun b u e => of_hidT e, Nat.le_of_eq (hidT_size _ _), trivial, fun b hb => absurd (show b ∈ ([] : List Addr) from hb) (by simp), hok, .of_eq gen⟩
  have rl : Rl W.toWd (fun b => b = a) [] H [] := ⟨rfl, List.nodup_nil, fun b e => by rw [e, Ha]; simp, fun b hb => (by cases hb), fun i b c h1 _ => (by cases h1)⟩
  have rs : RepL W.toWd (fun b => b = a) [] H [.lst (ns.map D.int)] [.ref a] := .cons (.lst rfl (.inr ⟨o, Ha⟩) (repl_ints ns)) .nil
  refine codeAny_mono (G _ inb (nsh gl) callerA [] s1 H [.ref a] [] [.ref a] [] _ [] _ [] [] (fun v _ => v = .bl true) (fun _ _ _ => False) room env (.cons rfl .nil) .nil rl rs .nil rfl rfl ?_) fun r s2 q => ?_
  · show EndR W _ _ [] H [] (relD W) (run [.lst (ns.map .int)] [] []) _
    rw [h]
    intro F2 μ2 H2 v _ _ r
    cases r
    rfl
  · cases r with
    | error e =>
      obtain ⟨_, _, _, _, _, _, _, _, _, _, _, _, z⟩ := q
      exact z.elim
    | ok f =>
      cases f with
      | ret u =>
        obtain ⟨v, H2, q1, q2, q3, q4, q5, q6⟩ := q
        have q6' : v = .bl true := q6
        subst q6'
        obtain rfl : u = Value.bool true := q5
        refine ⟨rfl, OldK.of_keep fun b u e => ?_, q1, q2⟩
        by_cases eb : b = a
        · subst eb
          have z := q3.frzs b o _ Ha
          obtain ⟨z1, _⟩ := hok b _ Ha
          obtain ⟨z2, _⟩ := q4 b _ z
          rw [e] at z1
          cases z1
          exact z2
        · exact q3.keep b u e (Hn eb) (fun z => by cases z) (fun z => by cases z)
      | next => exact False.elim q
      | brk => exact False.elim q
      | cont => exact False.elim q
end
/-! ### the head's Hook -/
def fnRefs (fd : FuncData) : List Addr := He.refV fd.code ++ He.refV fd.defaults ++ He.refV fd.kwdefaults
def colF (g : Addr → Option Obj) (v : Value) : List Addr := match v with
  | .ref a => a :: (match g a with
    | some ⟨_, _, .func fd, _⟩ => fnRefs fd
    | _ => [])
  | _ => []
def colM (g : Addr → Option Obj) (v : Value) : List Addr := match v with
  | .ref a => a :: (match g a with
    | some ⟨_, _, .func fd, _⟩ => fnRefs fd
    | some ⟨_, _, .fields vs, _⟩ => vs.toList.flatMap (colF g)
    | _ => [])
  | _ => []
def colV (g : Addr → Option Obj) (v : Value) : List Addr := match v with
  | .ref a => a :: (match g a with
    | some ⟨_, _, .func fd, _⟩ => fnRefs fd
    | some ⟨_, _, .cls cd, _⟩ => cd.ns :: (match g cd.ns with
      | some ⟨_, _, .dict es _, _⟩ => es.toList.flatMap fun e => colM g e.val
      | _ => [])
    | some ⟨_, _, .seq its _, _⟩ => its.toList.flatMap He.refV
    | _ => [])
  | _ => []
def colA (g : Addr → Option Obj) : List Addr := mainGlobals :: sysModules :: (match g mainGlobals with
  | some ⟨_, _, .dict es _, _⟩ => es.toList.flatMap fun e => colV g e.val
  | _ => [])
def noLst (K : PySem.W.Frag) : Bool := K.all fun p => !decide (p.2.cls = .type "list")
abbrev AlP : Type := Bool × List He.FnW × List He.FnW × List (Option (List (Option (Str × Int))))
def obsK (pd : PD) (K : PySem.W.Frag) : AlP := (pd.allB K && noLst K, pd.ents.map fun e => fnO K (adOf K e.loc), pd.xents.map fun q => fnO K (adOf K q.2.2.loc), pd.dcts.map fun q => He.dicW K (cA K q.1))
def valP (pd : PD) (w : World) : AlP := (true, pd.ents.map Ent.val, pd.xents.map fun q => q.2.2.val, pd.dcts.map fun q => some (He.keysIn w.params (dKeys q.2)))
def obsP (pd : PD) (g : Addr → Option Obj) : AlP := obsK pd (He.frG g (colA g))
def hookP (pd : PD) : PySem.W.Hook where
  α := AlP
  obs := fun s => obsP pd s.heap.get?
  val := fun w => valP pd w
  says := fun w h => ∃ K : PySem.W.Frag, K.In h ∧ obsK pd K = valP pd w
  of := fun _ _ e => ⟨_, He.frG_in, e⟩
  keeps := fun _ _ _ ⟨K, hK, c⟩ k => ⟨K, PySem.W.Frag.In.keeps hK k, c⟩
def obP (pd : PD) (s : PySem.W.SharedT) : AlP := obsP pd (HandSHeadRun.getT s)
theorem obP_eq (pd : PD) (s : PySem.W.SharedT) : obP pd s = (hookP pd).obs s.abs := by
  have e : HandSHeadRun.getT s = s.abs.heap.get? := funext fun a => HandSHeadRun.getT_eq s a
  unfold obP
  rw [e]
  rfl
theorem says_ok {pd : PD} {w : World} {K : PySem.W.Frag} (h : obsK pd K = valP pd w) : pd.allB K = true ∧ noLst K = true ∧ (∀ e ∈ pd.ents, fnO K (adOf K e.loc) = e.val) ∧ (∀ p ∈ pd.xents, fnO K (adOf K p.2.2.loc) = p.2.2.val) ∧ ∀ q ∈ pd.dcts, He.dicW K (cA K q.1) = some (He.keysIn w.params (dKeys q.2)) := by
  unfold obsK valP at h
  simp only [Prod.mk.injEq] at h
  obtain ⟨h1, h2, h3, h5⟩ := h
  obtain ⟨h1, h4⟩ := an h1
  exact ⟨h1, h4, fun e he => List.map_inj_left.mp h2 e he, fun p hp => List.map_inj_left.mp h3 p hp, fun q hq => List.map_inj_left.mp h5 q hq⟩
/-- THE END: a law's row from the machine's run -/
theorem holds_pm {l : PySem.W.OpenLaw} {pd : PD} {Pg : Prog} {q : Program} {loose : List Str} {XP : (Str → Option Value) → Heap → Prop} {d : DefRec} {k : Nat} {e : Ent}
    (hn : l.most = some 63) (hdf : d.params.defaults = []) (hname : d.name = ("law" : Str)) (hr : PRoom k callerA) (D : PDok pd Pg) (he : e ∈ pd.ents) (hk : e.key = "law") (hl : e.loc = .glo "law") (hs : (1, []) ∈ e.shapes)
    (run : ∀ ns : List Int, ns.length ≤ 63 → (∀ i ∈ ns, i.natAbs.log2 < 1048576) → ∃ S', callF Pg k "law" [.lst (ns.map .int)] [] [] = .ok (.bl true) S') :
    PySem.W.WalkO q loose XP (hookP pd).says l.row.toRowW d [] (fun f vs => PySem.call f vs) := by
  refine Att.attach_callB hn hdf fun w s₀ s₁ mg mb fa o pm cd doc a vs ns G Y ho hd hcd hmg hobj hints hlen hbits hg => ?_
  obtain ⟨K, KX, Y⟩ := Y
  obtain ⟨y1, y2, y3, y4, y5⟩ := says_ok Y
  have Ka : K.lookup a = none := by
    cases z : K.lookup a with
    | none => rfl
    | some u =>
      have z1 := KX _ _ z
      rw [hobj] at z1
      cases z1
      have z2 := List.all_eq_true.mp y2 _ (He.lookup_mem z)
      simp at z2
  have gl := G.T.g
  have gm : gloB K "law" = true := by
    have q := ((bhdF_of y1).ent e he).2
    unfold meB at q
    rw [hl] at q
    exact q
  have efa : fa = cA K "law" := by
    have z := PySem.W.mg_of KX gl (eqO_of gm)
    rw [hname] at hmg
    have z' : mg ("law" : Str) = some (.ref (cA K "law")) := z
    rw [hmg] at z'
    cases z'
    rfl
  subst efa
  refine callG (W := pd.W K) (run := callF Pg k "law") KX gl G.T.b G.T.builtins G.T.nolimit hg hobj hints (Nat.le_trans hlen (by decide)) hr rfl Ka (fun base ib nb => ?_) (run ns hlen fun i hi => ?_)
  · have B : Bhd pd w K mg base := ⟨y1, y3, y4, y5, ib, nb⟩
    have z := lev_all (P := l.prog) (w := w) D B k e he 1 [] hs
    rw [hk, hl] at z
    exact z
  · have := hbits i hi
    unfold Builtin.Int.intBits at this
    split at this
    · rename_i z; rw [beq_iff_eq.mp z]; decide
    · omega
end PM
set_option Elab.async false
set_option linter.all false
set_option autoImplicit false
set_option maxHeartbeats 8000000
/-! PMBd: how values are bound. -/
namespace PM
open PySem PySem.Spec PyProof.Rows L2
/-- every use of the def binds -/
def BdAll (e : Ent) : Prop := ∀ p ∈ e.shapes, ∀ (W : Wx) (K : PySem.W.Frag) (fd : FuncData), FunD K e.name e.qual e.params e.body e.scope (e.dvs K) (e.kws K) (adOf K e.loc) fd → Nonempty (Bd K W fd e.ps e.fn p.1 p.2)
def BdOne (e : Ent) (n : Nat) (ks : List String) : Prop := ∀ (W : Wx) (K : PySem.W.Frag) (fd : FuncData), FunD K e.name e.qual e.params e.body e.scope (e.dvs K) (e.kws K) (adOf K e.loc) fd → Nonempty (Bd K W fd e.ps e.fn n ks)
theorem bdAll_of {e : Ent} {l : List (Nat × List String)} (h : e.shapes = l) (q : ∀ p ∈ l, BdOne e p.1 p.2) : BdAll e := fun p hp => q p (by rw [← h]; exact hp)
section
variable {K : PySem.W.Frag} {W : Wx} {x qual : Str} {params : Arguments} {body : List Stmt} {scope : Scope} {f : Addr} {fd : FuncData} {ps : List Str} {fn : Fn} {n : Nat}
/-- all by place -/
theorem bd_plain {kws : List (Str × V)} (F : FunD K x qual params body scope [] kws f fd) (h1 : ps.length = n) (h2 : fn.ps.length = n)
    (h : ∀ (kV doc pm : Value) (an : Option Addr) (cdv ct : Value) (us : List Value), us.length = n → bindArgs (PySem.W.fnOf x qual params body scope .none kV doc pm an cdv ct) ⟨us, []⟩ = pure (ps.zip us)) : Nonempty (Bd K W fd ps fn n []) :=
  ⟨{ g := fun us _ => us
     gV := fun vs _ => vs
     kb := ⟨fun s us ws _ hl _ => F.bindsA (fun kV doc pm an cdv ct us hl => h kV doc pm an cdv ct us (hl.trans h1)) s us (by rw [h1]; exact hl), fun r _ => r⟩
     rel := fun {F' μ H pos kvals ds vs zs} hn hk hb rp rk => by
       unfold bindA at hb
       split at hb
       · rw [hn, ← h2, List.drop_length] at hb
         simp only [bindR, Option.map_some, Option.some.injEq, List.append_nil] at hb
         subst hb
         exact ⟨rp, by rw [← rp.length, hn, h1]⟩
       · cases hb }⟩
/-- keywords for all the rest, as they stand -/
theorem bd_kw {kws : List (Str × V)} {ks : List String} (F : FunD K x qual params body scope [] kws f fd) (h1 : ps.length = n + ks.length)
    (hm : ∀ kvals : List D, kvals.length = ks.length → bindR fn.dfl (ks.zip kvals) (fn.ps.drop n) = some kvals)
    (h : ∀ (kV doc pm : Value) (an : Option Addr) (cdv ct : Value) (us ws : List Value), us.length = n → ws.length = ks.length → bindArgs (PySem.W.fnOf x qual params body scope .none kV doc pm an cdv ct) ⟨us, (ks.map Str.ofString).zip ws⟩ = pure (ps.zip (us ++ ws))) : Nonempty (Bd K W fd ps fn n ks) :=
  ⟨{ g := fun us ws => us ++ ws
     gV := fun vs zs => vs ++ zs
     kb := ⟨fun s us ws _ hl hl2 => by
       obtain ⟨oc, od, dV, kV, doc, pm, an, cdv, ct, osl, rfl, lk, hcd, hD, hK⟩ := F.ex
       rcases hD with ⟨_, rfl⟩ | ⟨e, _⟩
       · exact .of_eq (h kV doc pm an cdv ct us ws hl (by rw [List.length_map] at hl2; exact hl2))
       · exact absurd rfl e, fun r r2 => r.append r2⟩
     rel := fun {F' μ H pos kvals ds vs zs} hn hk hb rp rk => by
       unfold bindA at hb
       split at hb
       · rw [hn, hm kvals hk] at hb
         simp only [Option.map_some, Option.some.injEq] at hb
         subst hb
         exact ⟨rp.append rk, by rw [List.length_append, ← rp.length, ← rk.length, hn, hk, h1]⟩
       · cases hb }⟩
/-- keyword-only defaults fill up -/
theorem bd_dflK {kws : List (Str × V)} {dl : List D} (F : FunD K x qual params body scope [] kws f fd) (hk : kws ≠ []) (hn : n + kws.length = ps.length) (hd : dl.length = kws.length)
    (hr : ∀ F' μ H, RepL W.toWd F' μ H dl (kws.map (·.2))) (hm : bindR fn.dfl [] (fn.ps.drop n) = some dl)
    (h : ∀ (D : Addr) (doc pm : Value) (an : Option Addr) (cdv ct : Value) (us ks : List Value), us.length = n → ks.length = kws.length →
      KwChain D ((kws.map (·.1)).zip ks) (bindArgs (PySem.W.fnOf x qual params body scope .none (.ref D) doc pm an cdv ct) ⟨us, []⟩) (ps.zip (us ++ ks))) : Nonempty (Bd K W fd ps fn n []) := by
  obtain ⟨ds, rd, B⟩ := F.binds0 n hk hn h
  have ld : ds.length = kws.length := by rw [← rd.length, List.length_map]
  exact ⟨{
    g := fun us _ => us ++ ds
    gV := fun vs _ => vs ++ kws.map (·.2)
    kb := ⟨fun s us ws X hl _ => B s us X (by rw [List.length_append, hl, ld]; exact hn), fun r _ => r.append rd⟩
    rel := fun {F' μ H pos kvals ds' vs zs} hn' hk' hb rp rk => by
       unfold bindA at hb
       split at hb
       · rw [hn', List.zip_nil_left, hm] at hb
         simp only [Option.map_some, Option.some.injEq] at hb
         subst hb
         exact ⟨rp.append (hr _ _ _), by rw [List.length_append, ← rp.length, hn', List.length_map]; exact hn⟩
       · cases hb }⟩
end
end PM
set_option autoImplicit false
set_option maxRecDepth 100000
namespace PM.I
/-- _law_source: 0 script, 1 start, 2 mixed, 3 cell, 4 own -/
def _law_source : Fn := ⟨["script", "start"], 2, [], 5, true, [(.set (.nm 2) (.op .add false (.cst (.int 91)) (.var 1))), (.loop (.nm 3) .seq [(.var 0)] [(.set (.nm 2) (.op .add false (.op .mod false (.bi "int" false [(.op .pow false (.bi "int" false [(.op .add false (.op .mul false (.var 2) (.cst (.int 60013))) (.bi "int" false [(.var 3)]))]) (.cst (.int 3)))]) (.cst (.int 2147483563))) (.cst (.int 1))))]), (.set (.nm 4) (.cst (.int 0))), (.ite (.bop true [(.op .lt false (.var 1) (.bi "len" false [(.var 0)])), (.op .ge false (.ix (.var 0) (.var 1)) (.op .pow false (.cst (.int 10)) (.cst (.int 18))))]) [(.set (.nm 4) (.op .sub false (.ix (.var 0) (.var 1)) (.op .pow false (.cst (.int 10)) (.cst (.int 18)))))] []), (.ret (.lst true [false, false] [(.var 4), (.var 2)]))]⟩
/-- _law_draw: 0 source, 1 span, 2 found -/
def _law_draw : Fn := ⟨["source", "span"], 2, [], 3, false, [(.ite (.op .ge false (.ix (.var 0) (.cst (.int 0))) (.var 1)) [(.set (.nm 2) (.op .mod false (.bi "int" false [(.ix (.var 0) (.cst (.int 0)))]) (.var 1))), (.iset (.var 0) (.cst (.int 0)) (.op .fdiv false (.ix (.var 0) (.cst (.int 0))) (.var 1))), (.ret (.var 2))] []), (.iset (.var 0) (.cst (.int 1)) (.op .mod false (.bi "int" false [(.op .add false (.op .mul false (.ix (.var 0) (.cst (.int 1))) (.cst (.int 48271))) (.cst (.int 5087)))]) (.cst (.int 2147483647)))), (.ret (.op .mod false (.bi "int" false [(.op .fdiv false (.op .mod false (.bi "int" false [(.op .pow false (.bi "int" false [(.ix (.var 0) (.cst (.int 1)))]) (.cst (.int 5)))]) (.cst (.int 1000000007))) (.cst (.int 23)))]) (.var 1)))]⟩
/-- _law_pick: 0 source, 1 things -/
def _law_pick : Fn := ⟨["source", "things"], 2, [], 2, false, [(.ret (.ix (.var 1) (.call "_law_draw" [(.var 0), (.bi "len" false [(.var 1)])] [])))]⟩
/-- _law_kinds: 0 error, 1 found -/
def _law_kinds : Fn := ⟨["error"], 1, [], 2, false, [(.set (.nm 1) (.lst false [false, false, false] [(.isx (.var 0) "BadSigns" ["BadSigns"]), (.isx (.var 0) "BadTree" ["BadTree"]), (.isx (.var 0) "BadForm" ["BadForm"])])), (.set (.nm 1) (.op .add false (.var 1) (.lst false [false, false, false] [(.isx (.var 0) "BadValues" ["BadValues"]), (.isx (.var 0) "HasMore" ["HasMore"]), (.isx (.var 0) "NotThere" ["NotThere"])]))), (.set (.nm 1) (.op .add false (.var 1) (.lst false [false, false, false] [(.isx (.var 0) "BadText" ["BadText"]), (.isx (.var 0) "BadForms" ["BadForms"]), (.isx (.var 0) "NotPlain" ["NotPlain"])]))), (.ret (.op .add false (.var 1) (.lst false [false, false] [(.isx (.var 0) "BadCondition" ["BadCondition"]), (.isx (.var 0) "TooFar" ["TooFar"])])))]⟩
/-- _law_by_place: 0 thing, 1 found -/
def _law_by_place : Fn := ⟨["thing"], 1, [], 2, false, [(.set (.nm 1) (.lst false [false, false, false, false, false, false] [(.mkx "BadSigns" (.var 0)), (.mkx "BadTree" (.var 0)), (.mkx "BadForm" (.var 0)), (.mkx "BadValues" (.var 0)), (.mkx "HasMore" (.var 0)), (.mkx "NotThere" (.var 0))])), (.ret (.op .add false (.var 1) (.lst false [false, false, false, false, false] [(.mkx "BadText" (.var 0)), (.mkx "BadForms" (.var 0)), (.mkx "NotPlain" (.var 0)), (.mkx "BadCondition" (.var 0)), (.mkx "TooFar" (.var 0))])))]⟩
/-- _law_by_name: 0 thing, 1 found -/
def _law_by_name : Fn := ⟨["thing"], 1, [], 2, false, [(.set (.nm 1) (.lst false [false, false, false, false] [(.mkx "BadSigns" (.var 0)), (.mkx "BadTree" (.var 0)), (.mkx "BadForm" (.var 0)), (.mkx "BadValues" (.var 0))])), (.set (.nm 1) (.op .add false (.var 1) (.lst false [false, false, false, false] [(.mkx "HasMore" (.var 0)), (.mkx "NotThere" (.var 0)), (.mkx "BadText" (.var 0)), (.mkx "BadForms" (.var 0))]))), (.ret (.op .add false (.var 1) (.lst false [false, false, false] [(.mkx "NotPlain" (.var 0)), (.mkx "BadCondition" (.var 0)), (.mkx "TooFar" (.var 0))])))]⟩
/-- _law_stored: 0 errors, 1 found, 2 error -/
def _law_stored : Fn := ⟨["errors"], 1, [], 3, false, [(.set (.nm 1) (.op .add false (.comp false [2] (.nm 2) .seq [(.sl false (.var 0) none (some (.cst (.int 7))))] [] (.fld (.var 2) "value")) (.comp false [2] (.nm 2) .seq [(.sl false (.var 0) (some (.cst (.int 7))) (some (.cst (.int 10))))] [] (.fld (.var 2) "position")))), (.ret (.op .add false (.var 1) (.lst false [false] [(.fld (.ix (.var 0) (.cst (.int 10))) "count")])))]⟩
/-- law: 0 script, 1 start, 2 source, 3 some, 4 thing, 5 errors, 6 at, 7 error, 8 spot -/
def law : Fn := ⟨["script"], 1, [], 9, false, [(.loop (.nm 1) .rng [(.bi "max" false [(.cst (.int 1)), (.bi "min" false [(.cst (.int 4)), (.bi "len" false [(.var 0)])])])] [(.set (.nm 2) (.call "_law_source" [(.var 0), (.var 1)] [])), (.set (.nm 3) (.lst false [false, false, false, false, false, false, false, false, false] [(.lst true [false] [(.cst (.int 5))]), (.lst true [false, false] [(.cst (.str [97])), (.cst .non)]), (.dsp true [(.cst (.str [97])), (.cst (.int 1))]), (.cst .non), (.cst (.str [120])), (.tup [false] [(.cst (.int 1))]), (.cst (.bl true)), (.op .sub false (.cst (.int 0)) (.cst (.int 3))), (.call "_law_draw" [(.var 2), (.cst (.int 60))] [])])), (.loop (.nm 4) .seq [(.lst false [false, false] [(.call "_law_pick" [(.var 2), (.sl false (.var 3) none (some (.cst (.int 3))))] []), (.call "_law_pick" [(.var 2), (.var 3)] [])])] [(.loop (.nm 5) .seq [(.lst false [false, false] [(.call "_law_by_place" [(.var 4)] []), (.call "_law_by_name" [(.var 4)] [])])] [(.loop (.tp [6, 7]) .enum [(.var 5)] [(.ite (.bop false [(.not (.isx (.var 7) "FormError" ["BadSigns", "BadTree", "BadForm", "BadForms", "BadValues", "NotPlain", "HasMore", "BadCondition", "NotThere", "TooFar", "BadText"])), (.not (.isx (.var 7) "ValueError" ["BadSigns", "BadTree", "BadForm", "BadForms", "BadValues", "NotPlain", "HasMore", "BadCondition", "NotThere", "TooFar", "BadText"]))]) [(.ret (.cst (.bl false)))] []), (.ite (.op .ne false (.call "_law_kinds" [(.var 7)] []) (.comp false [8] (.nm 8) .rng [(.cst (.int 11))] [] (.op .eq false (.var 8) (.var 6)))) [(.ret (.cst (.bl false)))] [])]), (.ite (.isi (.var 4) [.list]) [(.ex (.bm "append" false (.var 4) [(.cst (.int 0))]))] []), (.ite (.isi (.var 4) [.dict]) [(.iset (.var 4) (.cst (.str [108, 97, 116, 101])) (.cst (.int 0)))] []), (.ite (.op .ne false (.bi "repr" false [(.call "_law_stored" [(.var 5)] [])]) (.bi "repr" false [(.op .mul false (.lst false [false] [(.var 4)]) (.cst (.int 11)))])) [(.ret (.cst (.bl false)))] [])])])]), (.ret (.cst (.bl true)))]⟩
def tbl : List (String × Fn) := [("_law_source", _law_source), ("_law_draw", _law_draw), ("_law_pick", _law_pick), ("_law_kinds", _law_kinds), ("_law_by_place", _law_by_place), ("_law_by_name", _law_by_name), ("_law_stored", _law_stored), ("law", law)]
def glb : List (String × D) := []
def xat : List (String × String) := [("BadSigns", "value"), ("BadTree", "value"), ("BadForm", "value"), ("BadForms", "position"), ("BadValues", "value"), ("NotPlain", "position"), ("HasMore", "value"), ("BadCondition", "position"), ("NotThere", "value"), ("TooFar", "count"), ("BadText", "value")]
def props : List (String × String) := []
def flds : List (String × String) := []
def P (rep : D → Txt) : Prog := ⟨fun f => tbl.lookup f, fun x => glb.lookup x, fun c => xat.lookup c, fun c f => props.contains (c, f), rep, fun c f => flds.contains (c, f)⟩
end PM.I
set_option Elab.async false
set_option linter.all false
set_option autoImplicit false
set_option maxRecDepth 100000
set_option maxHeartbeats 0
namespace PM.J
open PySem PySem.Spec PyProof.Rows L2
def top (i : Nat) : Stmt := PySem.Challenge.pw_butthese_k61_errors_by_hand.main.body.getD i (.Pass ⟨0, 0, 0, 0⟩)
def inn (s : Stmt) (j : Nat) : Stmt := match s with
  | .ClassDef _ _ _ b _ _ _ _ _ _ _ => b.getD j (.Pass ⟨0, 0, 0, 0⟩)
  | _ => s
def e__law_source : Ent := ⟨"_law_source", (.glo "_law_source"), "_law_source", "_law_source", defArgs (top 14), defBody (top 14), defScope (top 14), [], [], ["script", "start", "mixed", "cell", "own"], ["script", "start"], PM.I._law_source, [(2, [])]⟩
theorem b__law_source_0 : BdOne e__law_source 2 [] := fun W K fd F => bd_plain (n := 2) F rfl rfl fun _ _ _ _ _ _ us hl => match us, hl with | [_, _], _ => rfl
theorem b__law_source : BdAll e__law_source := bdAll_of rfl (List.forall_mem_cons.mpr ⟨b__law_source_0, (by intro p hp; simp at hp)⟩)
def e__law_draw : Ent := ⟨"_law_draw", (.glo "_law_draw"), "_law_draw", "_law_draw", defArgs (top 15), defBody (top 15), defScope (top 15), [], [], ["source", "span", "found"], ["source", "span"], PM.I._law_draw, [(2, [])]⟩
theorem b__law_draw_0 : BdOne e__law_draw 2 [] := fun W K fd F => bd_plain (n := 2) F rfl rfl fun _ _ _ _ _ _ us hl => match us, hl with | [_, _], _ => rfl
theorem b__law_draw : BdAll e__law_draw := bdAll_of rfl (List.forall_mem_cons.mpr ⟨b__law_draw_0, (by intro p hp; simp at hp)⟩)
def e__law_pick : Ent := ⟨"_law_pick", (.glo "_law_pick"), "_law_pick", "_law_pick", defArgs (top 16), defBody (top 16), defScope (top 16), [], [], ["source", "things"], ["source", "things"], PM.I._law_pick, [(2, [])]⟩
theorem b__law_pick_0 : BdOne e__law_pick 2 [] := fun W K fd F => bd_plain (n := 2) F rfl rfl fun _ _ _ _ _ _ us hl => match us, hl with | [_, _], _ => rfl
theorem b__law_pick : BdAll e__law_pick := bdAll_of rfl (List.forall_mem_cons.mpr ⟨b__law_pick_0, (by intro p hp; simp at hp)⟩)
def e__law_kinds : Ent := ⟨"_law_kinds", (.glo "_law_kinds"), "_law_kinds", "_law_kinds", defArgs (top 17), defBody (top 17), defScope (top 17), [], [], ["error", "found"], ["error"], PM.I._law_kinds, [(1, [])]⟩
theorem b__law_kinds_0 : BdOne e__law_kinds 1 [] := fun W K fd F => bd_plain (n := 1) F rfl rfl fun _ _ _ _ _ _ us hl => match us, hl with | [_], _ => rfl
theorem b__law_kinds : BdAll e__law_kinds := bdAll_of rfl (List.forall_mem_cons.mpr ⟨b__law_kinds_0, (by intro p hp; simp at hp)⟩)
def e__law_by_place : Ent := ⟨"_law_by_place", (.glo "_law_by_place"), "_law_by_place", "_law_by_place", defArgs (top 18), defBody (top 18), defScope (top 18), [], [], ["thing", "found"], ["thing"], PM.I._law_by_place, [(1, [])]⟩
theorem b__law_by_place_0 : BdOne e__law_by_place 1 [] := fun W K fd F => bd_plain (n := 1) F rfl rfl fun _ _ _ _ _ _ us hl => match us, hl with | [_], _ => rfl
theorem b__law_by_place : BdAll e__law_by_place := bdAll_of rfl (List.forall_mem_cons.mpr ⟨b__law_by_place_0, (by intro p hp; simp at hp)⟩)
def e__law_by_name : Ent := ⟨"_law_by_name", (.glo "_law_by_name"), "_law_by_name", "_law_by_name", defArgs (top 19), defBody (top 19), defScope (top 19), [], [], ["thing", "found"], ["thing"], PM.I._law_by_name, [(1, [])]⟩
theorem b__law_by_name_0 : BdOne e__law_by_name 1 [] := fun W K fd F => bd_plain (n := 1) F rfl rfl fun _ _ _ _ _ _ us hl => match us, hl with | [_], _ => rfl
theorem b__law_by_name : BdAll e__law_by_name := bdAll_of rfl (List.forall_mem_cons.mpr ⟨b__law_by_name_0, (by intro p hp; simp at hp)⟩)
def e__law_stored : Ent := ⟨"_law_stored", (.glo "_law_stored"), "_law_stored", "_law_stored", defArgs (top 20), defBody (top 20), defScope (top 20), [], [], ["errors", "found", "error"], ["errors"], PM.I._law_stored, [(1, [])]⟩
theorem b__law_stored_0 : BdOne e__law_stored 1 [] := fun W K fd F => bd_plain (n := 1) F rfl rfl fun _ _ _ _ _ _ us hl => match us, hl with | [_], _ => rfl
theorem b__law_stored : BdAll e__law_stored := bdAll_of rfl (List.forall_mem_cons.mpr ⟨b__law_stored_0, (by intro p hp; simp at hp)⟩)
def e_law : Ent := ⟨"law", (.glo "law"), "law", "law", defArgs (top 21), defBody (top 21), defScope (top 21), [], [], ["script", "start", "source", "some", "thing", "errors", "at", "error", "spot"], ["script"], PM.I.law, [(1, [])]⟩
theorem b_law_0 : BdOne e_law 1 [] := fun W K fd F => bd_plain (n := 1) F rfl rfl fun _ _ _ _ _ _ us hl => match us, hl with | [_], _ => rfl
theorem b_law : BdAll e_law := bdAll_of rfl (List.forall_mem_cons.mpr ⟨b_law_0, (by intro p hp; simp at hp)⟩)
def e_BadSigns___init__ : Ent := ⟨"BadSigns.__init__", (.me "BadSigns" "__init__"), "__init__", "BadSigns.__init__", defArgs (inn (top 2) 0), defBody (inn (top 2) 0), defScope (inn (top 2) 0), [], [], ["self", "value"], ["self", "value"], ⟨[], 0, [], 0, false, []⟩, []⟩
def e_BadTree___init__ : Ent := ⟨"BadTree.__init__", (.me "BadTree" "__init__"), "__init__", "BadTree.__init__", defArgs (inn (top 3) 0), defBody (inn (top 3) 0), defScope (inn (top 3) 0), [], [], ["self", "value"], ["self", "value"], ⟨[], 0, [], 0, false, []⟩, []⟩
def e_BadForm___init__ : Ent := ⟨"BadForm.__init__", (.me "BadForm" "__init__"), "__init__", "BadForm.__init__", defArgs (inn (top 4) 0), defBody (inn (top 4) 0), defScope (inn (top 4) 0), [], [], ["self", "value"], ["self", "value"], ⟨[], 0, [], 0, false, []⟩, []⟩
def e_BadForms___init__ : Ent := ⟨"BadForms.__init__", (.me "BadForms" "__init__"), "__init__", "BadForms.__init__", defArgs (inn (top 5) 0), defBody (inn (top 5) 0), defScope (inn (top 5) 0), [], [], ["self", "position"], ["self", "position"], ⟨[], 0, [], 0, false, []⟩, []⟩
def e_BadValues___init__ : Ent := ⟨"BadValues.__init__", (.me "BadValues" "__init__"), "__init__", "BadValues.__init__", defArgs (inn (top 6) 0), defBody (inn (top 6) 0), defScope (inn (top 6) 0), [], [], ["self", "value"], ["self", "value"], ⟨[], 0, [], 0, false, []⟩, []⟩
def e_NotPlain___init__ : Ent := ⟨"NotPlain.__init__", (.me "NotPlain" "__init__"), "__init__", "NotPlain.__init__", defArgs (inn (top 7) 0), defBody (inn (top 7) 0), defScope (inn (top 7) 0), [], [], ["self", "position"], ["self", "position"], ⟨[], 0, [], 0, false, []⟩, []⟩
def e_HasMore___init__ : Ent := ⟨"HasMore.__init__", (.me "HasMore" "__init__"), "__init__", "HasMore.__init__", defArgs (inn (top 8) 0), defBody (inn (top 8) 0), defScope (inn (top 8) 0), [], [], ["self", "value"], ["self", "value"], ⟨[], 0, [], 0, false, []⟩, []⟩
def e_BadCondition___init__ : Ent := ⟨"BadCondition.__init__", (.me "BadCondition" "__init__"), "__init__", "BadCondition.__init__", defArgs (inn (top 9) 0), defBody (inn (top 9) 0), defScope (inn (top 9) 0), [], [], ["self", "position"], ["self", "position"], ⟨[], 0, [], 0, false, []⟩, []⟩
def e_NotThere___init__ : Ent := ⟨"NotThere.__init__", (.me "NotThere" "__init__"), "__init__", "NotThere.__init__", defArgs (inn (top 10) 0), defBody (inn (top 10) 0), defScope (inn (top 10) 0), [], [], ["self", "value"], ["self", "value"], ⟨[], 0, [], 0, false, []⟩, []⟩
def e_TooFar___init__ : Ent := ⟨"TooFar.__init__", (.me "TooFar" "__init__"), "__init__", "TooFar.__init__", defArgs (inn (top 11) 0), defBody (inn (top 11) 0), defScope (inn (top 11) 0), [], [], ["self", "count"], ["self", "count"], ⟨[], 0, [], 0, false, []⟩, []⟩
def e_BadText___init__ : Ent := ⟨"BadText.__init__", (.me "BadText" "__init__"), "__init__", "BadText.__init__", defArgs (inn (top 12) 0), defBody (inn (top 12) 0), defScope (inn (top 12) 0), [], [], ["self", "value"], ["self", "value"], ⟨[], 0, [], 0, false, []⟩, []⟩
def ents : List Ent := [e__law_source, e__law_draw, e__law_pick, e__law_kinds, e__law_by_place, e__law_by_name, e__law_stored, e_law]
def pd : PD := ⟨ents, [], PM.I.xat, [("BadSigns", "value", e_BadSigns___init__), ("BadTree", "value", e_BadTree___init__), ("BadForm", "value", e_BadForm___init__), ("BadForms", "position", e_BadForms___init__), ("BadValues", "value", e_BadValues___init__), ("NotPlain", "position", e_NotPlain___init__), ("HasMore", "value", e_HasMore___init__), ("BadCondition", "position", e_BadCondition___init__), ("NotThere", "value", e_NotThere___init__), ("TooFar", "count", e_TooFar___init__), ("BadText", "value", e_BadText___init__)], ["count", "position", "value"], PM.I.props, PM.I.flds, PM.I.glb, [("BadSigns", false, ["BadSigns"]), ("BadTree", false, ["BadTree"]), ("BadForm", false, ["BadForm"]), ("BadValues", false, ["BadValues"]), ("HasMore", false, ["HasMore"]), ("NotThere", false, ["NotThere"]), ("BadText", false, ["BadText"]), ("BadForms", false, ["BadForms"]), ("NotPlain", false, ["NotPlain"]), ("BadCondition", false, ["BadCondition"]), ("TooFar", false, ["TooFar"]), ("FormError", false, ["BadSigns", "BadTree", "BadForm", "BadForms", "BadValues", "NotPlain", "HasMore", "BadCondition", "NotThere", "TooFar", "BadText"]), ("ValueError", true, ["BadSigns", "BadTree", "BadForm", "BadForms", "BadValues", "NotPlain", "HasMore", "BadCondition", "NotThere", "TooFar", "BadText"])]⟩
def rep (x : D) : Txt := (pyR x).shown.cps.toList
abbrev Pg : Prog := PM.I.P rep
theorem lk (l : List Ent) (f : String) : (l.map fun e => (e.key, e.fn)).lookup f = (l.find? fun e => e.key == f).map (·.fn) := by
  induction l with
  | nil => rfl
  | cons a l ih =>
    rw [List.map_cons, List.lookup_cons, List.find?_cons]
    have e : (f == a.key) = (a.key == f) := by rw [Bool.eq_iff_iff, beq_iff_eq, beq_iff_eq]; exact eq_comm
    rw [e]
    cases a.key == f with
    | true => rfl
    | false => exact ih
theorem ent_ok : ents.all (entB pd) = true := by decide +kernel
theorem bd_ok : ∀ e ∈ ents, BdAll e := (List.forall_mem_cons.mpr ⟨b__law_source, (List.forall_mem_cons.mpr ⟨b__law_draw, (List.forall_mem_cons.mpr ⟨b__law_pick, (List.forall_mem_cons.mpr ⟨b__law_kinds, (List.forall_mem_cons.mpr ⟨b__law_by_place, (List.forall_mem_cons.mpr ⟨b__law_by_name, (List.forall_mem_cons.mpr ⟨b__law_stored, (List.forall_mem_cons.mpr ⟨b_law, (by intro p hp; cases hp)⟩)⟩)⟩)⟩)⟩)⟩)⟩)⟩)
theorem xe_ok : ∀ p ∈ pd.xs, ∃ v e, (p.1, v, e) ∈ pd.xents ∧ e.loc = .me p.1 "__init__" ∧ xeB (p.1, v, e) = true ∧ (∃ q1 q2 q3 q4, e.body = [.Assign [.Attribute (.Name "self" q1) (Str.ofString p.2) q2] (.Name v q3) q4]) ∧
    (∀ (kV doc pm : Value) (an : Option Addr) (cdv ct : Value) (us : List Value), us.length = e.ps.length → bindArgs (PySem.W.fnOf e.name e.qual e.params e.body e.scope .none kV doc pm an cdv ct) ⟨us, []⟩ = pure (e.ps.zip us)) ∧ v = Str.ofString p.2 ∧
    ∀ (kV doc pm : Value) (an : Option Addr) (cdv ct a b : Value), bindArgs (PySem.W.fnOf e.name e.qual e.params e.body e.scope .none kV doc pm an cdv ct) ⟨[a], [(v, b)]⟩ = pure (e.ps.zip [a, b]) := (List.forall_mem_cons.mpr ⟨⟨"value", e_BadSigns___init__, (.head _), rfl, by decide +kernel, ⟨_, _, _, _, rfl⟩, fun _ _ _ _ _ _ us hl => match us, hl with | [_, _], _ => rfl, rfl, fun _ _ _ _ _ _ _ _ => rfl⟩, (List.forall_mem_cons.mpr ⟨⟨"value", e_BadTree___init__, (.tail _ (.head _)), rfl, by decide +kernel, ⟨_, _, _, _, rfl⟩, fun _ _ _ _ _ _ us hl => match us, hl with | [_, _], _ => rfl, rfl, fun _ _ _ _ _ _ _ _ => rfl⟩, (List.forall_mem_cons.mpr ⟨⟨"value", e_BadForm___init__, (.tail _ (.tail _ (.head _))), rfl, by decide +kernel, ⟨_, _, _, _, rfl⟩, fun _ _ _ _ _ _ us hl => match us, hl with | [_, _], _ => rfl, rfl, fun _ _ _ _ _ _ _ _ => rfl⟩, (List.forall_mem_cons.mpr ⟨⟨"position", e_BadForms___init__, (.tail _ (.tail _ (.tail _ (.head _)))), rfl, by decide +kernel, ⟨_, _, _, _, rfl⟩, fun _ _ _ _ _ _ us hl => match us, hl with | [_, _], _ => rfl, rfl, fun _ _ _ _ _ _ _ _ => rfl⟩, (List.forall_mem_cons.mpr ⟨⟨"value", e_BadValues___init__, (.tail _ (.tail _ (.tail _ (.tail _ (.head _))))), rfl, by decide +kernel, ⟨_, _, _, _, rfl⟩, fun _ _ _ _ _ _ us hl => match us, hl with | [_, _], _ => rfl, rfl, fun _ _ _ _ _ _ _ _ => rfl⟩, (List.forall_mem_cons.mpr ⟨⟨"position", e_NotPlain___init__, (.tail _ (.tail _ (.tail _ (.tail _ (.tail _ (.head _)))))), rfl, by decide +kernel, ⟨_, _, _, _, rfl⟩, fun _ _ _ _ _ _ us hl => match us, hl with | [_, _], _ => rfl, rfl, fun _ _ _ _ _ _ _ _ => rfl⟩, (List.forall_mem_cons.mpr ⟨⟨"value", e_HasMore___init__, (.tail _ (.tail _ (.tail _ (.tail _ (.tail _ (.tail _ (.head _))))))), rfl, by decide +kernel, ⟨_, _, _, _, rfl⟩, fun _ _ _ _ _ _ us hl => match us, hl with | [_, _], _ => rfl, rfl, fun _ _ _ _ _ _ _ _ => rfl⟩, (List.forall_mem_cons.mpr ⟨⟨"position", e_BadCondition___init__, (.tail _ (.tail _ (.tail _ (.tail _ (.tail _ (.tail _ (.tail _ (.head _)))))))), rfl, by decide +kernel, ⟨_, _, _, _, rfl⟩, fun _ _ _ _ _ _ us hl => match us, hl with | [_, _], _ => rfl, rfl, fun _ _ _ _ _ _ _ _ => rfl⟩, (List.forall_mem_cons.mpr ⟨⟨"value", e_NotThere___init__, (.tail _ (.tail _ (.tail _ (.tail _ (.tail _ (.tail _ (.tail _ (.tail _ (.head _))))))))), rfl, by decide +kernel, ⟨_, _, _, _, rfl⟩, fun _ _ _ _ _ _ us hl => match us, hl with | [_, _], _ => rfl, rfl, fun _ _ _ _ _ _ _ _ => rfl⟩, (List.forall_mem_cons.mpr ⟨⟨"count", e_TooFar___init__, (.tail _ (.tail _ (.tail _ (.tail _ (.tail _ (.tail _ (.tail _ (.tail _ (.tail _ (.head _)))))))))), rfl, by decide +kernel, ⟨_, _, _, _, rfl⟩, fun _ _ _ _ _ _ us hl => match us, hl with | [_, _], _ => rfl, rfl, fun _ _ _ _ _ _ _ _ => rfl⟩, (List.forall_mem_cons.mpr ⟨⟨"value", e_BadText___init__, (.tail _ (.tail _ (.tail _ (.tail _ (.tail _ (.tail _ (.tail _ (.tail _ (.tail _ (.tail _ (.head _))))))))))), rfl, by decide +kernel, ⟨_, _, _, _, rfl⟩, fun _ _ _ _ _ _ us hl => match us, hl with | [_, _], _ => rfl, rfl, fun _ _ _ _ _ _ _ _ => rfl⟩, (by intro p hp; cases hp)⟩)⟩)⟩)⟩)⟩)⟩)⟩)⟩)⟩)⟩)⟩)
theorem pd_ok : PDok pd Pg where
  fn f := lk ents f
  prop c f := rfl
  isF c f := rfl
  glb x := rfl
  xat c := rfl
  rep x := by unfold tS; simp [Pg, PM.I.P, rep]
  propC := by decide +kernel
  nd := by decide +kernel
  ent := List.all_eq_true.mp ent_ok
  xsl := by decide +kernel
  bd e he p hp K fd F := bd_ok e he p hp (pd.W K) K fd F
  xe := xe_ok
def names0 : List PySem.Str := ["__name__", "FormError", "BadSigns", "BadTree", "BadForm", "BadForms", "BadValues", "NotPlain", "HasMore", "BadCondition", "NotThere", "TooFar", "BadText", "_law_source", "_law_draw", "_law_pick", "_law_kinds", "_law_by_place", "_law_by_name", "_law_stored"]
def names : List PySem.Str := names0
abbrev R : PySem.W.OpenRow := PySem.W.OpenLaw.row PySem.Challenge.rw_butthese_k61_errors_by_hand
theorem run (w : World) : HandSHeadRun.RunEq R (PySem.W.view R.prog [21]) (hookP pd) (obP pd) 40000 names w := by
  intro os
  kernel_rfl
/-- the law by hand: what is left is the machine's run -/
theorem fin (law_run : ∀ ns : List Int, ns.length ≤ 63 → (∀ i ∈ ns, i.natAbs.log2 < 1048576) → ∃ S', callF Pg 340 "law" [.lst (ns.map .int)] [] [] = .ok (.bl true) S') : PySem.Challenge.rw_butthese_k61_errors_by_hand.Holds := by
  w_on; o_law
  refine HandSHeadRun.head_any (r := R) (q := PySem.W.view R.prog [21]) (H := hookP pd) (ob := obP pd) (M := 40000) (loose := names) (d := HandSHeadRun.topDef R.prog 21) (kwd := []) (obP_eq pd)
    (by kernel_rfl) (fun s => by kernel_rfl) run (by kernel_rfl) (by kernel_rfl) (by kernel_rfl) (by rfl) (by first | assumption | decide +kernel) (by decide +kernel) ⟨rfl, rfl, rfl, rfl, rfl, by decide +kernel⟩ ?hw ?hc
  case hw => w_witness2
  case hc => exact holds_pm (e := e_law) rfl rfl rfl ⟨rfl, rfl, by decide, by decide⟩ pd_ok (.tail _ (.tail _ (.tail _ (.tail _ (.tail _ (.tail _ (.tail _ (.head _)))))))) rfl rfl (by decide +kernel) law_run
end PM.J
set_option autoImplicit false
set_option linter.all false
/-! PlCore: the plain side: general facts of runs. -/
namespace PM
mutual
theorem D.beq_self : ∀ d : D, D.beq d d = true
  | .non => by unfold D.beq; rfl
  | .bl b => by unfold D.beq; simp
  | .int b => by unfold D.beq; simp
  | .str b => by unfold D.beq; simp
  | .tup b => by unfold D.beq; exact D.beqL_self b
  | .lst b => by unfold D.beq; exact D.beqL_self b
  | .dct b => by unfold D.beq; exact D.beqK_self b
  | .ins c b => by unfold D.beq; simp [D.beqF_self b]
  | .exn c b => by unfold D.beq; simp [D.beq_self b]
  | .err c b => by unfold D.beq; simp [D.beq_self b]
  | .loc b => by unfold D.beq; simp
theorem D.beqL_self : ∀ d : List D, D.beqL d d = true
  | [] => by unfold D.beqL; rfl
  | a :: r => by unfold D.beqL; simp [D.beq_self a, D.beqL_self r]
theorem D.beqK_self : ∀ d : List (Key × D), D.beqK d d = true
  | [] => by unfold D.beqK; rfl
  | (k, a) :: r => by unfold D.beqK; simp [D.beq_self a, D.beqK_self r]
theorem D.beqF_self : ∀ d : List (String × D), D.beqF d d = true
  | [] => by unfold D.beqF; rfl
  | (k, a) :: r => by unfold D.beqF; simp [D.beq_self a, D.beqF_self r]
end
theorem Cell.beq_self (c : Cell) : c.beq c = true := by
  cases c with
  | lst xs => exact D.beqL_self xs
  | dct l xs => show (l == l && D.beqK xs xs) = true; simp [D.beqK_self]
  | ins c xs => show (c == c && D.beqF xs xs) = true; simp [D.beqF_self]
theorem cutOk_app (n : Nat) : ∀ S X : St, cutOk n S (S ++ X) = true
  | [], X => rfl
  | a :: r, X => by
    show ((a.beq a || a.lo n) && cutOk n r (r ++ X)) = true
    rw [Cell.beq_self, cutOk_app n r X]; rfl
theorem cutOk_src (n : Nat) (c c' : Cell) (T X : St) (h : c'.lo n = true) : cutOk n (c :: T) ((c' :: T) ++ X) = true := by
  show ((c.beq c' || c'.lo n) && cutOk n T (T ++ X)) = true
  rw [h, cutOk_app n T X]; simp
theorem mapO_id {f : D → Option D} : ∀ xs : List D, (∀ x ∈ xs, f x = some x) → mapO f xs = some xs
  | [], _ => rfl
  | x :: r, h => by
    unfold mapO
    rw [h x (List.mem_cons_self ..), mapO_id r fun y hy => h y (List.mem_cons_of_mem _ hy)]
theorem mapV_id {κ : Type} {f : D → Option D} : ∀ xs : List (κ × D), (∀ x ∈ xs, f x.2 = some x.2) → mapV f xs = some xs
  | [], _ => rfl
  | (k, x) :: r, h => by
    unfold mapV
    rw [h (k, x) (List.mem_cons_self ..), mapV_id r fun y hy => h y (List.mem_cons_of_mem _ hy)]
theorem loL_mem {n : Nat} : ∀ {xs : List D}, D.loL n xs = true → ∀ x ∈ xs, D.lo n x = true
  | [], _, x, hx => by cases hx
  | a :: r, h, x, hx => by
    unfold D.loL at h
    rw [Bool.and_eq_true] at h
    rcases List.mem_cons.mp hx with rfl | hx
    · exact h.1
    · exact loL_mem h.2 x hx
theorem loK_mem {n : Nat} : ∀ {xs : List (Key × D)}, D.loK n xs = true → ∀ x ∈ xs, D.lo n x.2 = true
  | [], _, x, hx => by cases hx
  | (k, a) :: r, h, x, hx => by
    unfold D.loK at h
    rw [Bool.and_eq_true] at h
    rcases List.mem_cons.mp hx with rfl | hx
    · exact h.1
    · exact loK_mem h.2 x hx
theorem loF_mem {n : Nat} : ∀ {xs : List (String × D)}, D.loF n xs = true → ∀ x ∈ xs, D.lo n x.2 = true
  | [], _, x, hx => by cases hx
  | (k, a) :: r, h, x, hx => by
    unfold D.loF at h
    rw [Bool.and_eq_true] at h
    rcases List.mem_cons.mp hx with rfl | hx
    · exact h.1
    · exact loF_mem h.2 x hx
theorem loL_of {n : Nat} : ∀ {xs : List D}, (∀ x ∈ xs, D.lo n x = true) → D.loL n xs = true
  | [], _ => by unfold D.loL; rfl
  | a :: r, h => by
    unfold D.loL
    rw [h a (List.mem_cons_self ..), loL_of fun y hy => h y (List.mem_cons_of_mem _ hy)]; rfl
theorem frz_lo {S : St} {n : Nat} : ∀ (k : Nat) (d : D), D.lo n d = true → D.frz S n k d = some d
  | 0, d, h => by unfold D.frz; rw [if_pos h]
  | k + 1, d, h => by
    cases d with
    | tup xs =>
      unfold D.lo at h
      show (mapO (D.frz S n k) xs).map D.tup = _
      rw [mapO_id xs fun x hx => frz_lo k x (loL_mem h x hx)]; rfl
    | lst xs =>
      unfold D.lo at h
      show (mapO (D.frz S n k) xs).map D.lst = _
      rw [mapO_id xs fun x hx => frz_lo k x (loL_mem h x hx)]; rfl
    | dct xs =>
      unfold D.lo at h
      show (mapV (D.frz S n k) xs).map D.dct = _
      rw [mapV_id xs fun x hx => frz_lo k x.2 (loK_mem h x hx)]; rfl
    | ins c xs =>
      unfold D.lo at h
      show (mapV (D.frz S n k) xs).map (D.ins c) = _
      rw [mapV_id xs fun x hx => frz_lo k x.2 (loF_mem h x hx)]; rfl
    | exn c v =>
      unfold D.lo at h
      show (D.frz S n k v).map (D.exn c) = _
      rw [frz_lo k v h]; rfl
    | err c v =>
      unfold D.lo at h
      show (D.frz S n k v).map (D.err c) = _
      rw [frz_lo k v h]; rfl
    | loc i =>
      unfold D.lo at h
      show (if i < n then _ else _) = _
      rw [if_pos (of_decide_eq_true h)]
    | _ => rfl
mutual
/-- places below -/
theorem lo_mono {m n : Nat} (hm : m ≤ n) : ∀ d : D, D.lo m d = true → D.lo n d = true
  | .non, h => by unfold D.lo; rfl
  | .bl _, h => by unfold D.lo; rfl
  | .int _, h => by unfold D.lo; rfl
  | .str _, h => by unfold D.lo; rfl
  | .tup xs, h => by unfold D.lo at h ⊢; exact loL_mono hm xs h
  | .lst xs, h => by unfold D.lo at h ⊢; exact loL_mono hm xs h
  | .dct xs, h => by unfold D.lo at h ⊢; exact loK_mono hm xs h
  | .ins _ xs, h => by unfold D.lo at h ⊢; exact loF_mono hm xs h
  | .exn _ v, h => by unfold D.lo at h ⊢; exact lo_mono hm v h
  | .err _ v, h => by unfold D.lo at h ⊢; exact lo_mono hm v h
  | .loc i, h => by unfold D.lo at h ⊢; exact decide_eq_true (Nat.lt_of_lt_of_le (of_decide_eq_true h) hm)
theorem loL_mono {m n : Nat} (hm : m ≤ n) : ∀ d : List D, D.loL m d = true → D.loL n d = true
  | [], h => by unfold D.loL; rfl
  | a :: r, h => by unfold D.loL at h ⊢; rw [Bool.and_eq_true] at h ⊢; exact ⟨lo_mono hm a h.1, loL_mono hm r h.2⟩
theorem loK_mono {m n : Nat} (hm : m ≤ n) : ∀ d : List (Key × D), D.loK m d = true → D.loK n d = true
  | [], h => by unfold D.loK; rfl
  | (_, a) :: r, h => by unfold D.loK at h ⊢; rw [Bool.and_eq_true] at h ⊢; exact ⟨lo_mono hm a h.1, loK_mono hm r h.2⟩
theorem loF_mono {m n : Nat} (hm : m ≤ n) : ∀ d : List (String × D), D.loF m d = true → D.loF n d = true
  | [], h => by unfold D.loF; rfl
  | (_, a) :: r, h => by unfold D.loF at h ⊢; rw [Bool.and_eq_true] at h ⊢; exact ⟨lo_mono hm a h.1, loF_mono hm r h.2⟩
end
/-! ### calls -/
theorem callF_run {P : Prog} {d : Nat} {f : String} {pos : List D} {kws : List (String × D)} {S : St} {fn : Fn} {ds : List D} (h : P.fn f = some fn) (hb : bindA fn pos kws = some ds) : callF P (d + 1) f pos kws S = ran fn S (evSs (P.ctx d) fn.body (start fn ds) S) := by
  show (match P.fn f with
    | none => R.bad
    | some fn => match bindA fn pos kws with
      | none => .bad
      | some ds => ran fn S (evSs (P.ctxOf (callF P d)) fn.body (start fn ds) S)) = _
  rw [h]
  simp only
  rw [hb]
  rfl
theorem cutAt_app {S X : St} {d e : D} (h : D.frz (S ++ X) S.length 40 d = some e) : cutAt S (S ++ X) d = .ok e S := by
  unfold cutAt
  rw [if_pos (cutOk_app _ _ _), h]
  simp
theorem cutAt_pure {S : St} {d : D} (h : D.lo S.length d = true) : cutAt S S d = .ok d S := by
  have := cutAt_app (S := S) (X := []) (d := d) (e := d) (frz_lo _ _ h)
  simpa using this
theorem cutAt_src {c c' : Cell} {T X : St} {d e : D} (hc : c'.lo (T.length + 1) = true) (h : D.frz (c' :: (T ++ X)) (T.length + 1) 40 d = some e) : cutAt (c :: T) (c' :: (T ++ X)) d = .ok e (c' :: T) := by
  unfold cutAt
  have q : cutOk (c :: T).length (c :: T) (c' :: (T ++ X)) = true := cutOk_src _ c c' T X hc
  rw [if_pos q]
  show (match D.frz (c' :: (T ++ X)) (T.length + 1) 40 d with | some e => R.ok e ((c' :: (T ++ X)).take (T.length + 1)) | none => .bad) = _
  rw [h]
  simp
@[simp] theorem ctx_call (P : Prog) (d : Nat) : (P.ctx d).call = callF P d := rfl
@[simp] theorem ctx_glb (P : Prog) (d : Nat) : (P.ctx d).glb = P.glb := rfl
@[simp] theorem ctx_xat (P : Prog) (d : Nat) : (P.ctx d).xat = P.xat := rfl
@[simp] theorem ctx_prop (P : Prog) (d : Nat) : (P.ctx d).prop = P.prop := rfl
@[simp] theorem ctx_rep (P : Prog) (d : Nat) : (P.ctx d).rep = P.rep := rfl
@[simp] theorem ctx_isF (P : Prog) (d : Nat) : (P.ctx d).isF = P.isF := rfl
@[simp] theorem ctx_has (P : Prog) (d : Nat) (f : String) : (P.ctx d).has f = (P.fn f).isSome := rfl
end PM
set_option autoImplicit false
set_option linter.all false
/-! PlSim: runs, step by step, for simp. -/
namespace PM
section
variable {α β : Type}
@[simp] theorem bind_ok (a : α) (S : St) (f : α → St → R β) : (R.ok a S).bind f = f a S := rfl
@[simp] theorem bind_ex (c : String) (v : D) (S : St) (f : α → St → R β) : (R.ex c v S : R α).bind f = .ex c v S := rfl
@[simp] theorem bind_bad (f : α → St → R β) : (R.bad : R α).bind f = .bad := rfl
@[simp] theorem fl_ok (a : α) (S : St) (ρ : Env) (f : α → St → Fl) : (R.ok a S).fl ρ f = f a S := rfl
@[simp] theorem fl_ex (c : String) (v : D) (S : St) (ρ : Env) (f : α → St → Fl) : (R.ex c v S : R α).fl ρ f = .ex c v ρ S := rfl
@[simp] theorem of_some (a : α) (S : St) : R.of (some a) S = .ok a S := rfl
@[simp] theorem of_none (S : St) : R.of (none : Option α) S = .bad := rfl
@[simp] theorem o_some (a : α) (S : St) : R.o (some (a, S)) = .ok a S := rfl
@[simp] theorem o_none : R.o (none : Option (α × St)) = .bad := rfl
@[simp] theorem ofO_some (a : α) (f : α → Fl) : Fl.ofO (some a) f = f a := rfl
@[simp] theorem noex_ok (a : α) (S : St) : (R.ok a S).noex = .ok a S := rfl
@[simp] theorem bind_if (b : Prop) [Decidable b] (r s : R α) (f : α → St → R β) : (if b then r else s).bind f = if b then r.bind f else s.bind f := by split <;> rfl
end
@[simp] theorem fl_if {α : Type} (b : Prop) [Decidable b] (r s : R α) (ρ : Env) (f : α → St → Fl) : (if b then r else s).fl ρ f = if b then r.fl ρ f else s.fl ρ f := by split <;> rfl
@[simp] theorem tru_if (b : Prop) [Decidable b] (r s : R D) : (if b then r else s).tru = if b then r.tru else s.tru := by split <;> rfl
@[simp] theorem tru_ok (x : D) (S : St) : (R.ok x S).tru = R.of (truthy S x) S := rfl
@[simp] theorem tru_ex (c : String) (v : D) (S : St) : (R.ex c v S : R D).tru = .ex c v S := rfl
@[simp] theorem truthy_non (S : St) : truthy S .non = some false := rfl
@[simp] theorem truthy_bl (S : St) (b : Bool) : truthy S (.bl b) = some b := rfl
@[simp] theorem truthy_int (S : St) (i : Int) : truthy S (.int i) = some (decide (i ≠ 0)) := rfl
@[simp] theorem truthy_str (S : St) (x : Txt) : truthy S (.str x) = some (!x.isEmpty) := rfl
@[simp] theorem truthy_tup (S : St) (x : List D) : truthy S (.tup x) = some (!x.isEmpty) := rfl
@[simp] theorem truthy_lst (S : St) (x : List D) : truthy S (.lst x) = some (!x.isEmpty) := rfl
/-! names -/
def getV (ρ : Env) (i : Nat) (S : St) : R D := match ρ[i]? with
  | some (some d) => if d.isX then .bad else .ok d S
  | _ => .bad
@[simp] theorem getV_zero (d : D) (r : Env) (S : St) : getV (some d :: r) 0 S = if d.isX = true then .bad else .ok d S := rfl
@[simp] theorem getV_succ (o : Option D) (r : Env) (i : Nat) (S : St) : getV (o :: r) (i + 1) S = getV r i S := rfl
@[simp] theorem isX_non : D.isX .non = false := rfl
@[simp] theorem isX_bl (b : Bool) : D.isX (.bl b) = false := rfl
@[simp] theorem isX_int (b : Int) : D.isX (.int b) = false := rfl
@[simp] theorem isX_str (b : Txt) : D.isX (.str b) = false := rfl
@[simp] theorem isX_tup (b : List D) : D.isX (.tup b) = false := rfl
@[simp] theorem isX_lst (b : List D) : D.isX (.lst b) = false := rfl
@[simp] theorem isX_dct (b : List (Key × D)) : D.isX (.dct b) = false := rfl
@[simp] theorem isX_ins (c : String) (b : List (String × D)) : D.isX (.ins c b) = false := rfl
@[simp] theorem isX_err (c : String) (b : D) : D.isX (.err c b) = false := rfl
@[simp] theorem isX_loc (b : Nat) : D.isX (.loc b) = false := rfl
@[simp] theorem set_zero (d v : Option D) (r : Env) : (d :: r : Env).set 0 v = v :: r := rfl
@[simp] theorem set_succ (d v : Option D) (r : Env) (i : Nat) : (d :: r : Env).set (i + 1) v = d :: List.set r i v := rfl
/-! expressions -/
section
variable (C : Ctx) (ρ : Env) (S : St)
@[simp] theorem evE_var (i : Nat) : evE C (.var i) ρ S = getV ρ i S := by unfold evE getV; rfl
@[simp] theorem evE_cst (d : D) : evE C (.cst d) ρ S = .ok d S := by unfold evE; rfl
@[simp] theorem evE_glb (x : String) : evE C (.glb x) ρ S = R.of (noDct (C.glb x)) S := by unfold evE; rfl
@[simp] theorem evE_op (o : O2) (m : Bool) (a b : E) : evE C (.op o m a b) ρ S = (evE C a ρ S).bind fun x S1 => (evE C b ρ S1).bind fun y S2 => R.o (op2 o m x y S2) := by rw [evE]
def chnR (C : Ctx) (p : O2) (c : E) (ρ : Env) (y t : D) (S3 : St) : R D := match t with
    | .bl true => (evE C c ρ S3).bind fun z S4 => R.o (op2 p false y z S4)
    | .bl false => .ok (.bl false) S3
    | _ => .bad
@[simp] theorem chnR_t (p : O2) (c : E) (y : D) : chnR C p c ρ y (.bl true) S = (evE C c ρ S).bind fun z S4 => R.o (op2 p false y z S4) := rfl
@[simp] theorem chnR_f (p : O2) (c : E) (y : D) : chnR C p c ρ y (.bl false) S = .ok (.bl false) S := rfl
@[simp] theorem chnR_bl (p : O2) (c : E) (y : D) (b : Bool) : chnR C p c ρ y (.bl b) S = if b = true then (evE C c ρ S).bind fun z S4 => R.o (op2 p false y z S4) else .ok (.bl false) S := by cases b <;> rfl
@[simp] theorem evE_chn (o p : O2) (a b c : E) : evE C (.chn o p a b c) ρ S = (evE C a ρ S).bind fun x S1 => (evE C b ρ S1).bind fun y S2 => (R.o (op2 o false x y S2)).bind fun t S3 => chnR C p c ρ y t S3 := by rw [evE]; rfl
@[simp] theorem evE_neg_int (i : Int) : evE C (.neg (.cst (.int i))) ρ S = .ok (.int (-i)) S := by simp only [evE]; rfl
@[simp] theorem evE_not (a : E) : evE C (.not a) ρ S = (evE C a ρ S).tru.bind fun t S1 => .ok (.bl (!t)) S1 := by rw [evE]
@[simp] theorem evE_bop (and : Bool) (es : List E) : evE C (.bop and es) ρ S = evB C and es ρ S := by rw [evE]
@[simp] theorem evB_1 (and : Bool) (e : E) : evB C and [e] ρ S = evE C e ρ S := by rw [evB]
def bopR (C : Ctx) (and : Bool) (es : List E) (ρ : Env) (x : D) (S : St) : R D := match truthy S x with
  | some t => if t == and then evB C and es ρ S else .ok x S
  | none => .bad
@[simp] theorem evB_2 (and : Bool) (e f : E) (r : List E) : evB C and (e :: f :: r) ρ S = (evE C e ρ S).bind fun x S1 => bopR C and (f :: r) ρ x S1 := by rw [evB] <;> first | rfl | exact List.cons_ne_nil _ _
@[simp] theorem bopR_bl (and : Bool) (es : List E) (b : Bool) : bopR C and es ρ (.bl b) S = if (b == and) = true then evB C and es ρ S else .ok (.bl b) S := rfl
@[simp] theorem evE_ite (t a b : E) : evE C (.ite t a b) ρ S = (evE C t ρ S).tru.bind fun k S1 => if k then evE C a ρ S1 else evE C b ρ S1 := by rw [evE]
def isiR (Ts : List Ty) (x : D) (S : St) : R D := match isTys S x Ts with
    | some t => .ok (.bl t) S
    | none => .bad
@[simp] theorem evE_isi (a : E) (Ts : List Ty) : evE C (.isi a Ts) ρ S = (evE C a ρ S).bind fun x S1 => isiR Ts x S1 := by rw [evE]; rfl
@[simp] theorem evE_call (f : String) (es : List E) (ks : List String) : evE C (.call f es ks) ρ S = (evL C es ρ S).bind fun ds S1 => C.call f (splitKw ds ks).1 (splitKw ds ks).2 S1 := by rw [evE]
def methR (C : Ctx) (m : String) (es : List E) (ks : List String) (ρ : Env) (x : D) (S0 : St) : R D := match obj S0 x with
    | some (c, fs) => if (getF fs m).isNone ∧ C.has (c ++ "." ++ m) = true then (evL C es ρ S0).bind fun ds S1 => C.call (c ++ "." ++ m) (x :: (splitKw ds ks).1) (splitKw ds ks).2 S1 else .bad
    | none => .bad
@[simp] theorem evE_meth (m : String) (o : E) (es : List E) (ks : List String) : evE C (.meth m o es ks) ρ S = (evE C o ρ S).bind fun x S0 => methR C m es ks ρ x S0 := by rw [evE]; rfl
@[simp] theorem evE_fld (o : E) (f : String) : evE C (.fld o f) ρ S = (evE C o ρ S).bind fun x S1 => getFd C x f S1 := by rw [evE]
@[simp] theorem evE_ix (a i : E) : evE C (.ix a i) ρ S = (evE C a ρ S).bind fun x S1 => (evE C i ρ S1).bind fun y S2 => R.o (getIx S2 x y) := by rw [evE]
@[simp] theorem evE_sl (m : Bool) (a : E) (lo hi : Option E) : evE C (.sl m a lo hi) ρ S = (evE C a ρ S).bind fun x S1 => (evO C lo ρ S1).bind fun l S2 => (evO C hi ρ S2).bind fun h S3 => R.o (getSl S3 m x l h) := by rw [evE]
@[simp] theorem evO_none : evO C none ρ S = .ok none S := by rw [evO]
@[simp] theorem evO_some (e : E) : evO C (some e) ρ S = (evE C e ρ S).bind fun x S1 => R.of (optInt x) S1 := by rw [evO]
@[simp] theorem optInt_int (i : Int) : optInt (.int i) = some (some i) := rfl
@[simp] theorem evE_tup (ss : List Bool) (es : List E) : evE C (.tup ss es) ρ S = (evSL C ss es ρ S).bind fun ds S1 => if ds.length ≤ sizeMax then .ok (.tup ds) S1 else .bad := by rw [evE]
@[simp] theorem evE_lst (m : Bool) (ss : List Bool) (es : List E) : evE C (.lst m ss es) ρ S = (evSL C ss es ρ S).bind fun ds S1 => if ds.length ≤ sizeMax then R.o (mkL m ds S1) else .bad := by rw [evE]
@[simp] theorem evE_bi (f : String) (m : Bool) (es : List E) : evE C (.bi f m es) ρ S = (evL C es ρ S).bind fun ds S1 => R.o (bi C f m ds S1) := by rw [evE]
@[simp] theorem evE_bm (f : String) (m : Bool) (o : E) (es : List E) : evE C (.bm f m o es) ρ S = (evE C o ρ S).bind fun x S0 => if isTy S0 x (bmT f) = some true then (evL C es ρ S0).bind fun ds S1 => R.o (bm f m x ds S1) else .bad := by rw [evE]
@[simp] theorem evL_nil : evL C [] ρ S = .ok [] S := by rw [evL]
@[simp] theorem evL_cons' (e : E) (r : List E) : evL C (e :: r) ρ S = (evE C e ρ S).bind fun x S1 => (evL C r ρ S1).bind fun xs S2 => .ok (x :: xs) S2 := by rw [evL]
@[simp] theorem evSL_nil' (ss : List Bool) : evSL C ss [] ρ S = .ok [] S := by cases ss <;> rw [evSL] <;> simp
@[simp] theorem evSL_f (ss : List Bool) (e : E) (r : List E) : evSL C (false :: ss) (e :: r) ρ S = (evE C e ρ S).bind fun x S1 => (evSL C ss r ρ S1).bind fun xs S2 => .ok (x :: xs) S2 := by rw [evSL]
def starR (C : Ctx) (ss : List Bool) (r : List E) (ρ : Env) (x : D) (S1 : St) : R (List D) := match starD S1 x with
    | some ys => (evSL C ss r ρ S1).bind fun xs S2 => .ok (ys ++ xs) S2
    | none => .bad
@[simp] theorem evSL_t (ss : List Bool) (e : E) (r : List E) : evSL C (true :: ss) (e :: r) ρ S = (evE C e ρ S).bind fun x S1 => starR C ss r ρ x S1 := by rw [evSL]; rfl
@[simp] theorem evTs_nil : evTs C [] ρ S = .ok true S := by rw [evTs]
@[simp] theorem evTs_cons (e : E) (r : List E) : evTs C (e :: r) ρ S = (evE C e ρ S).tru.bind fun t S1 => if t then evTs C r ρ S1 else .ok false S1 := by rw [evTs]
/-- a turn of a comprehension -/
def compStep (C : Ctx) (own : List Nat) (t : Tg) (ifs : List E) (elt : E) (ρ : Env) (x : D) (S2 : St) : R (List D) := match bindT S2 t x (wipe ρ own) with
  | some ρ1 => (evTs C ifs ρ1 S2).bind fun k S3 => if k then (evE C elt ρ1 S3).bind fun y S4 => .ok [y] S4 else .ok [] S3
  | none => .bad
def compR (C : Ctx) (m : Bool) (own : List Nat) (t : Tg) (ik : IK) (ifs : List E) (elt : E) (ρ : Env) (ds : List D) (S1 : St) : R D := match walk S1 ik ds with
  | some xs => (loopR (fun S' => ds.all (sameAt (lkS ik ds S1) S')) (compStep C own t ifs elt ρ) xs (lkS ik ds S1)).bind fun ys S5 => if ys.length ≤ sizeMax then R.o (mkL m ys (ulS ik ds S1 S5)) else .bad
  | none => .bad
theorem lkS_nd {ik : IK} {ds : List D} {S : St} (h : ik.isD = false) : lkS ik ds S = S := by unfold lkS; rw [h]; rfl
theorem ulS_nd {ik : IK} {ds : List D} {S S' : St} (h : ik.isD = false) : ulS ik ds S S' = S' := by unfold ulS; rw [h]; rfl
theorem FlUl_nd {ik : IK} {ds : List D} {S : St} {f : Fl} (h : ik.isD = false) : Fl.ul ik ds S f = f := by unfold Fl.ul; rw [h]; rfl
theorem set_back {S : St} {n : Nat} {c d : Cell} (e : S[n]? = some c) : (S.set n d).set n c = S := by
  rw [List.set_set]
  apply List.ext_getElem?
  intro i
  by_cases hi : n = i
  · subst hi
    have hlt : n < S.length := (List.getElem?_eq_some_iff.mp e).1
    rw [List.getElem?_set_self hlt, e]
  · rw [List.getElem?_set_ne hi]
theorem ulS_lk {ik : IK} {ds : List D} {S : St} : ulS ik ds S (lkS ik ds S) = S := by
  unfold ulS lkS
  by_cases h : ik.isD = true
  · rw [if_pos h, if_pos h]
    rcases ds with _ | ⟨d, _ | ⟨d2, r⟩⟩
    · rfl
    · cases d with
      | loc n =>
        simp only
        cases e : S[n]? with
        | none => rfl
        | some c =>
          cases c with
          | dct l kvs =>
            cases l with
            | false => exact set_back e
            | true => rfl
          | _ => rfl
      | _ => rfl
    · cases d <;> rfl
  · rw [if_neg h, if_neg h]
@[simp] theorem evE_comp (m : Bool) (own : List Nat) (t : Tg) (ik : IK) (ie ifs : List E) (elt : E) : evE C (.comp m own t ik ie ifs elt) ρ S = (evL C ie ρ S).bind fun ds S1 => compR C m own t ik ifs elt ρ ds S1 := by rw [evE]; rfl
/-! statements -/
def Fl.seq (f : Fl) (k : Env → St → Fl) : Fl := match f with
  | .nx ρ S => k ρ S
  | f => f
@[simp] theorem seq_nx (k : Env → St → Fl) : (Fl.nx ρ S).seq k = k ρ S := rfl
@[simp] theorem seq_rt (d : D) (k : Env → St → Fl) : (Fl.rt d S).seq k = .rt d S := rfl
@[simp] theorem seq_ex (c : String) (v : D) (k : Env → St → Fl) : (Fl.ex c v ρ S).seq k = .ex c v ρ S := rfl
@[simp] theorem seq_if (b : Prop) [Decidable b] (r s : Fl) (k : Env → St → Fl) : (if b then r else s).seq k = if b then r.seq k else s.seq k := by split <;> rfl
@[simp] theorem evSs_nil : evSs C [] ρ S = .nx ρ S := by rw [evSs]
@[simp] theorem evSs_cons (s : PM.S) (r : List PM.S) : evSs C (s :: r) ρ S = (evS C s ρ S).seq fun ρ S => evSs C r ρ S := by rw [evSs]; rfl
@[simp] theorem evS_set (t : Tg) (e : E) : evS C (.set t e) ρ S = (evE C e ρ S).fl ρ fun x S1 => Fl.ofO (bindT S1 t x ρ) fun ρ1 => .nx ρ1 S1 := by rw [evS]
@[simp] theorem evS_fset (o : E) (f : String) (e : E) : evS C (.fset o f e) ρ S = (evE C e ρ S).fl ρ fun x S1 => (evE C o ρ S1).fl ρ fun y S2 => Fl.ofO (setFd C S2 y f x) fun S3 => .nx ρ S3 := by rw [evS]
@[simp] theorem evS_iset (o i e : E) : evS C (.iset o i e) ρ S = (evE C e ρ S).fl ρ fun x S1 => (evE C o ρ S1).fl ρ fun y S2 => (evE C i ρ S2).fl ρ fun z S3 => Fl.ofO (setIx S3 y z x) fun S4 => .nx ρ S4 := by rw [evS]
@[simp] theorem evS_ex (e : E) : evS C (.ex e) ρ S = (evE C e ρ S).fl ρ fun _ S1 => .nx ρ S1 := by rw [evS]
@[simp] theorem evS_ret (e : E) : evS C (.ret e) ρ S = (evE C e ρ S).fl ρ fun x S1 => .rt x S1 := by rw [evS]
@[simp] theorem evS_ite (t : E) (a b : List PM.S) : evS C (.ite t a b) ρ S = (evE C t ρ S).tru.fl ρ fun k S1 => if k then evSs C a ρ S1 else evSs C b ρ S1 := by rw [evS]
@[simp] theorem evS_rse (c : String) (e : E) : evS C (.rse c e) ρ S = (evE C e ρ S).fl ρ fun x S1 => .ex c x ρ S1 := by rw [evS]
def loopStep (C : Ctx) (t : Tg) (b : List PM.S) (x : D) (ρ2 : Env) (S2 : St) : Fl := Fl.ofO (bindT S2 t x ρ2) fun ρ3 => evSs C b ρ3 S2
@[simp] theorem evS_loop (t : Tg) (ik : IK) (ie : List E) (b : List PM.S) : evS C (.loop t ik ie b) ρ S = (evL C ie ρ S).fl ρ fun ds S1 => Fl.ofO (walk S1 ik ds) fun xs => Fl.ul ik ds S1 (loopF (fun S' => ds.all (sameAt (lkS ik ds S1) S')) (loopStep C t b) xs ρ (lkS ik ds S1)) := by rw [evS]; rfl
@[simp] theorem bindT_nm (i : Nat) (d : D) : bindT S (.nm i) d ρ = some (ρ.set i (some d)) := rfl
@[simp] theorem ran_rt (fn : Fn) (S' : St) (d : D) : ran fn S (.rt d S') = leave fn S S' d := rfl
@[simp] theorem ran_nx (fn : Fn) (S' : St) : ran fn S (.nx ρ S') = leave fn S S' .non := rfl
theorem ran_ex (fn : Fn) (S' : St) (c : String) (v : D) : ran fn S (.ex c v ρ S') = (leave fn S S' v).bind fun u S'' => .ex c u S'' := rfl
end
/-! loops -/
theorem loopR_pure {ok : St → Bool} {step : D → St → R (List D)} {S : St} (g : D → List D) (hok : ok S = true) : ∀ xs : List D, (∀ x ∈ xs, step x S = .ok (g x) S) → loopR ok step xs S = .ok (xs.flatMap g) S
  | [], _ => by unfold loopR; rw [if_pos hok]; rfl
  | x :: r, h => by
    unfold loopR
    rw [if_pos hok, h x (List.mem_cons_self ..)]
    simp only [noex_ok, bind_ok]
    rw [loopR_pure g hok r fun y hy => h y (List.mem_cons_of_mem _ hy)]
    rfl
/-! calls, by their bodies -/
theorem callF_rt {P : Prog} {d : Nat} {f : String} {pos : List D} {kws : List (String × D)} {S S' : St} {fn : Fn} {ds : List D} {v : D} (h : P.fn f = some fn) (hb : bindA fn pos kws = some ds) (e : evSs (P.ctx d) fn.body (start fn ds) S = .rt v S') : callF P (d + 1) f pos kws S = leave fn S S' v := by
  rw [callF_run h hb, e]; rfl
theorem callF_pure {P : Prog} {d : Nat} {f : String} {pos : List D} {kws : List (String × D)} {S : St} {fn : Fn} {ds : List D} {v : D} (h : P.fn f = some fn) (hb : bindA fn pos kws = some ds) (hk : fn.keep = false) (e : evSs (P.ctx d) fn.body (start fn ds) S = .rt v S) (lo : D.lo S.length v = true) : callF P (d + 1) f pos kws S = .ok v S := by
  rw [callF_rt h hb e]
  unfold leave
  rw [hk]
  exact cutAt_pure lo
@[simp] theorem lo_bl (n : Nat) (b : Bool) : D.lo n (.bl b) = true := by unfold D.lo; rfl
@[simp] theorem lo_non (n : Nat) : D.lo n .non = true := by unfold D.lo; rfl
@[simp] theorem lo_int (n : Nat) (b : Int) : D.lo n (.int b) = true := by unfold D.lo; rfl
@[simp] theorem lo_str (n : Nat) (b : Txt) : D.lo n (.str b) = true := by unfold D.lo; rfl
@[simp] theorem lo_tup (n : Nat) (b : List D) : D.lo n (.tup b) = D.loL n b := by rw [D.lo]
@[simp] theorem lo_lst (n : Nat) (b : List D) : D.lo n (.lst b) = D.loL n b := by rw [D.lo]
@[simp] theorem loL_nil (n : Nat) : D.loL n [] = true := by rw [D.loL]
@[simp] theorem loL_cons (n : Nat) (a : D) (r : List D) : D.loL n (a :: r) = (D.lo n a && D.loL n r) := by rw [D.loL]
/-! types -/
section
variable (S : St)
@[simp] theorem isTys_nil (d : D) : isTys S d [] = some false := rfl
@[simp] theorem isTys_non (T : Ty) : isTys S .non [T] = some false := rfl
@[simp] theorem isTys_bl (b : Bool) (T : Ty) : isTys S (.bl b) [T] = some (T == .bool || T == .int) := by show (match some (T == .bool || T == .int), some false with | some a, some b => some (a || b) | _, _ => none) = _; simp
@[simp] theorem isTys_int (b : Int) (T : Ty) : isTys S (.int b) [T] = some (T == .int) := by show (match some (T == .int), some false with | some a, some b => some (a || b) | _, _ => none) = _; simp
@[simp] theorem isTys_str (b : Txt) (T : Ty) : isTys S (.str b) [T] = some (T == .str) := by show (match some (T == .str), some false with | some a, some b => some (a || b) | _, _ => none) = _; simp
@[simp] theorem isTys_tup (b : List D) (T : Ty) : isTys S (.tup b) [T] = some (T == .tuple) := by show (match some (T == .tuple), some false with | some a, some b => some (a || b) | _, _ => none) = _; simp
@[simp] theorem isTys_lst (b : List D) (T : Ty) : isTys S (.lst b) [T] = some (T == .list) := by show (match some (T == .list), some false with | some a, some b => some (a || b) | _, _ => none) = _; simp
@[simp] theorem isTys_dct (b : List (Key × D)) (T : Ty) : isTys S (.dct b) [T] = some (T == .dict) := by show (match some (T == .dict), some false with | some a, some b => some (a || b) | _, _ => none) = _; simp
theorem isiR_of {Ts : List Ty} {x : D} {t : Bool} (h : isTys S x Ts = some t) : isiR Ts x S = .ok (.bl t) S := by unfold isiR; rw [h]
@[simp] theorem isiR_non (T : Ty) : isiR [T] .non S = .ok (.bl false) S := isiR_of S (isTys_non S T)
@[simp] theorem isiR_bl (b : Bool) (T : Ty) : isiR [T] (.bl b) S = .ok (.bl (T == .bool || T == .int)) S := isiR_of S (isTys_bl S b T)
@[simp] theorem isiR_int (b : Int) (T : Ty) : isiR [T] (.int b) S = .ok (.bl (T == .int)) S := isiR_of S (isTys_int S b T)
@[simp] theorem isiR_str (b : Txt) (T : Ty) : isiR [T] (.str b) S = .ok (.bl (T == .str)) S := isiR_of S (isTys_str S b T)
@[simp] theorem isiR_tup (b : List D) (T : Ty) : isiR [T] (.tup b) S = .ok (.bl (T == .tuple)) S := isiR_of S (isTys_tup S b T)
@[simp] theorem isiR_lst (b : List D) (T : Ty) : isiR [T] (.lst b) S = .ok (.bl (T == .list)) S := isiR_of S (isTys_lst S b T)
@[simp] theorem isiR_dct (b : List (Key × D)) (T : Ty) : isiR [T] (.dct b) S = .ok (.bl (T == .dict)) S := isiR_of S (isTys_dct S b T)
/-! what is walked -/
@[simp] theorem walk_str (x : Txt) : walk S .seq [.str x] = some (x.map fun c => .str [c]) := rfl
@[simp] theorem walk_tup (x : List D) : walk S .seq [.tup x] = some x := rfl
@[simp] theorem walk_lst (x : List D) : walk S .seq [.lst x] = some x := rfl
theorem walk_rng {n : Int} (h : rngOk n = true) : walk S .rng [.int n] = some (rngL 0 n) := by show (if rngOk n = true then _ else _) = _; rw [if_pos h]
@[simp] theorem same_str (S' : St) (x : Txt) : sameAt S S' (.str x) = true := rfl
@[simp] theorem same_tup (S' : St) (x : List D) : sameAt S S' (.tup x) = true := rfl
@[simp] theorem same_lst' (S' : St) (x : List D) : sameAt S S' (.lst x) = true := rfl
@[simp] theorem same_int (S' : St) (x : Int) : sameAt S S' (.int x) = true := rfl
@[simp] theorem mkL_f (xs : List D) : mkL false xs S = some (.lst xs, S) := rfl
@[simp] theorem mkL_t (xs : List D) : mkL true xs S = some (.loc S.length, S ++ [.lst xs]) := rfl
@[simp] theorem starR_str (C : Ctx) (ss : List Bool) (r : List E) (ρ : Env) (x : Txt) : starR C ss r ρ (.str x) S = (evSL C ss r ρ S).bind fun xs S2 => .ok ((x.map fun c => .str [c]) ++ xs) S2 := rfl
@[simp] theorem starR_tup (C : Ctx) (ss : List Bool) (r : List E) (ρ : Env) (x : List D) : starR C ss r ρ (.tup x) S = (evSL C ss r ρ S).bind fun xs S2 => .ok (x ++ xs) S2 := rfl
@[simp] theorem starR_lst (C : Ctx) (ss : List Bool) (r : List E) (ρ : Env) (x : List D) : starR C ss r ρ (.lst x) S = (evSL C ss r ρ S).bind fun xs S2 => .ok (x ++ xs) S2 := rfl
theorem compR_pure {C : Ctx} {own : List Nat} {t : Tg} {ik : IK} {ifs : List E} {elt : E} {ρ : Env} {ds xs : List D} (g : D → List D) (hw : walk S ik ds = some xs) (hs : ds.all (sameAt S S) = true) (h : ∀ x ∈ xs, compStep C own t ifs elt ρ x S = .ok (g x) S) (hl : (xs.flatMap g).length ≤ sizeMax) (hk : ik.isD = false := by decide) :
    compR C false own t ik ifs elt ρ ds S = .ok (.lst (xs.flatMap g)) S := by
  unfold compR
  rw [hw]
  simp only
  rw [lkS_nd hk, loopR_pure g hs xs h]
  simp only [bind_ok]
  rw [ulS_nd hk]
  rw [if_pos hl]
  rfl
theorem flatMap_one {α β : Type} (g : α → List β) (h : α → β) : ∀ l : List α, (∀ a ∈ l, g a = [h a]) → l.flatMap g = l.map h
  | [], _ => rfl
  | a :: r, q => by rw [List.flatMap_cons, q a (List.mem_cons_self ..), flatMap_one g h r fun b hb => q b (List.mem_cons_of_mem _ hb)]; rfl
theorem loopR_map {α : Type} {ok : St → Bool} {step : D → St → R (List D)} {S : St} (f : α → D) (h : α → List D) (hok : ok S = true) : ∀ l : List α, (∀ a ∈ l, step (f a) S = .ok (h a) S) → loopR ok step (l.map f) S = .ok (l.flatMap h) S
  | [], _ => by show loopR ok step [] S = _; unfold loopR; rw [if_pos hok]; rfl
  | x :: r, q => by
    show loopR ok step (f x :: r.map f) S = _
    unfold loopR
    rw [if_pos hok, q x (List.mem_cons_self ..)]
    simp only [noex_ok, bind_ok]
    rw [loopR_map f h hok r fun y hy => q y (List.mem_cons_of_mem _ hy)]
    rfl
/-- [h(x) for x in l if ..] without a change of the store -/
theorem compR_flat {α : Type} {C : Ctx} {own : List Nat} {t : Tg} {ik : IK} {ifs : List E} {elt : E} {ρ : Env} {ds : List D} (l : List α) (f : α → D) (h : α → List D) (hw : walk S ik ds = some (l.map f)) (hs : ds.all (sameAt S S) = true) (hl : (l.flatMap h).length ≤ sizeMax) (q : ∀ a ∈ l, compStep C own t ifs elt ρ (f a) S = .ok (h a) S) (hk : ik.isD = false := by decide) :
    compR C false own t ik ifs elt ρ ds S = .ok (.lst (l.flatMap h)) S := by
  unfold compR
  rw [hw]
  simp only
  rw [lkS_nd hk, loopR_map f h hs l q]
  simp only [bind_ok]
  rw [ulS_nd hk]
  rw [if_pos hl]
  rfl
theorem compR_map {α : Type} {C : Ctx} {own : List Nat} {t : Tg} {ik : IK} {elt : E} {ρ : Env} {ds : List D} (l : List α) (f : α → D) (h : α → D) (hw : walk S ik ds = some (l.map f)) (hs : ds.all (sameAt S S) = true) (hl : l.length ≤ sizeMax) (q : ∀ a ∈ l, compStep C own t [] elt ρ (f a) S = .ok [h a] S) (hk : ik.isD = false := by decide) :
    compR C false own t ik [] elt ρ ds S = .ok (.lst (l.map h)) S := by
  have e := flatMap_one (fun a => [h a]) h l fun _ _ => rfl
  rw [compR_flat S l f (fun a => [h a]) hw hs (by rw [e, List.length_map]; exact hl) q hk, e]
theorem flatMap_if {α : Type} (p : α → Bool) (f : α → D) : ∀ l : List α, (l.flatMap fun a => if p a = true then [f a] else []) = (l.filter p).map f
  | [] => rfl
  | a :: r => by
    rw [List.flatMap_cons, flatMap_if p f r, List.filter_cons]
    split <;> rfl
theorem compR_filter {α : Type} {C : Ctx} {own : List Nat} {t : Tg} {ik : IK} {ifs : List E} {elt : E} {ρ : Env} {ds : List D} (l : List α) (f : α → D) (p : α → Bool) (hw : walk S ik ds = some (l.map f)) (hs : ds.all (sameAt S S) = true) (hl : l.length ≤ sizeMax) (q : ∀ a ∈ l, compStep C own t ifs elt ρ (f a) S = .ok (if p a = true then [f a] else []) S) (hk : ik.isD = false := by decide) :
    compR C false own t ik ifs elt ρ ds S = .ok (.lst ((l.filter p).map f)) S := by
  have e := flatMap_if p f l
  rw [compR_flat S l f _ hw hs (by rw [e, List.length_map]; exact Nat.le_trans (List.length_filter_le _ _) hl) q hk, e]
/-! built-ins, operators -/
variable (C : Ctx) (m : Bool)
@[simp] theorem bi_len_str (x : Txt) : bi C "len" m [.str x] S = some (.int x.length, S) := rfl
@[simp] theorem bi_len_tup (x : List D) : bi C "len" m [.tup x] S = some (.int x.length, S) := rfl
@[simp] theorem bi_len_lst (x : List D) : bi C "len" m [.lst x] S = some (.int x.length, S) := rfl
@[simp] theorem bi_len_dct (x : List (Key × D)) : bi C "len" m [.dct x] S = some (.int x.length, S) := rfl
@[simp] theorem bi_int_int (x : Int) : bi C "int" m [.int x] S = some (.int x, S) := rfl
@[simp] theorem bi_tuple_lst (x : List D) : bi C "tuple" m [.lst x] S = some (.tup x, S) := rfl
@[simp] theorem bi_tuple_tup (x : List D) : bi C "tuple" m [.tup x] S = some (.tup x, S) := rfl
theorem bools_map {α : Type} (f : α → Bool) (xs : List α) : bools (xs.map fun x => .bl (f x)) = some (xs.map f) := by
  induction xs with
  | nil => rfl
  | cons a r ih => show ((bools _).map (f a :: ·)) = _; rw [ih]; rfl
theorem bi_all {xs : List D} {bs : List Bool} (h : bools xs = some bs) : bi C "all" m [.lst xs] S = some (.bl (bs.all id), S) := by
  show (match (some xs).bind bools with | some bs => some (D.bl (bs.all id), S) | none => none) = _
  rw [Option.bind_some, h]
theorem bi_any {xs : List D} {bs : List Bool} (h : bools xs = some bs) : bi C "any" m [.lst xs] S = some (.bl (bs.any id), S) := by
  show (match (some xs).bind bools with | some bs => some (D.bl (bs.any id), S) | none => none) = _
  rw [Option.bind_some, h]
@[simp] theorem op_add_int (i j : Int) : op2 .add m (.int i) (.int j) S = some (.int (i + j), S) := rfl
@[simp] theorem op_sub_int (i j : Int) : op2 .sub m (.int i) (.int j) S = some (.int (i - j), S) := rfl
@[simp] theorem op_le_int (i j : Int) : op2 .le m (.int i) (.int j) S = some (.bl (decide (i ≤ j)), S) := rfl
@[simp] theorem op_ge_int (i j : Int) : op2 .ge m (.int i) (.int j) S = some (.bl (decide (j ≤ i)), S) := rfl
@[simp] theorem op_gt_int (i j : Int) : op2 .gt m (.int i) (.int j) S = some (.bl (decide (j < i)), S) := rfl
@[simp] theorem op_le_str (i j : Txt) : op2 .le m (.str i) (.str j) S = some (.bl (!ltT j i), S) := rfl
@[simp] theorem op_eq_str (i j : Txt) : op2 .eq m (.str i) (.str j) S = some (.bl (i == j), S) := by show (some (D.bl (D.eqv (.str i) (.str j)))).map (fun d => (d, S)) = _; simp [D.eqv]
@[simp] theorem op_ne_str (i j : Txt) : op2 .ne m (.str i) (.str j) S = some (.bl (!(i == j)), S) := by show (some (D.bl (!D.eqv (.str i) (.str j)))).map (fun d => (d, S)) = _; simp [D.eqv]
@[simp] theorem op_in_chr (c : Nat) (y : Txt) : op2 .isin m (.str [c]) (.str y) S = some (.bl (y.contains c), S) := by show some (D.bl (false != y.contains c), S) = _; simp
@[simp] theorem op_nin_chr (c : Nat) (y : Txt) : op2 .nin m (.str [c]) (.str y) S = some (.bl (!y.contains c), S) := by show some (D.bl (true != y.contains c), S) = _; simp
theorem op_add_str {x y : Txt} (h : x.length + y.length ≤ sizeMax) : op2 .add m (.str x) (.str y) S = some (.str (x ++ y), S) := by show (if _ then _ else _) = _; rw [if_pos h]
theorem op_add_tup {x y : List D} (h : x.length + y.length ≤ sizeMax) : op2 .add m (.tup x) (.tup y) S = some (.tup (x ++ y), S) := by show (if _ then _ else _) = _; rw [if_pos h]
theorem op_add_lst {x y : List D} (h : x.length + y.length ≤ sizeMax) : op2 .add m (.lst x) (.lst y) S = mkL m (x ++ y) S := by show (if _ then _ else _) = _; rw [if_pos h]
/-! -/
@[simp] theorem beq_cast (m n : Nat) : ((m : Int) == (n : Int)) = (m == n) := by rw [Bool.eq_iff_iff]; simp; omega
theorem beq_cast1 (m n : Nat) : ((m : Int) + 1 == (n : Int)) = (m + 1 == n) := by rw [Bool.eq_iff_iff]; simp; omega
/-! plain data: texts, numbers, None, tuples, lists of them, at most so deep -/
end
def gd : Nat → D → Bool
  | 0, d => match d with
    | .non | .bl _ | .int _ => true
    | .str x => x.all fun c => decide (c < 128)
    | _ => false
  | n + 1, d => match d with
    | .non | .bl _ | .int _ => true
    | .str x => x.all fun c => decide (c < 128)
    | .tup xs => xs.all (gd n)
    | .lst xs => xs.all (gd n)
    | _ => false
theorem plL_of : ∀ {xs : List D}, (∀ x ∈ xs, x.pl = true) → D.plL xs = true
  | [], _ => by unfold D.plL; rfl
  | a :: r, h => by unfold D.plL; rw [h a (List.mem_cons_self ..), plL_of fun y hy => h y (List.mem_cons_of_mem _ hy)]; rfl
theorem gd_pl : ∀ (n : Nat) (d : D), gd n d = true → d.pl = true
  | 0, d, h => by
    unfold gd at h
    split at h <;> first | (unfold D.pl; rfl) | (unfold D.pl; exact h) | cases h
  | n + 1, d, h => by
    unfold gd at h
    split at h <;> first | (unfold D.pl; rfl) | (unfold D.pl; exact h) | (unfold D.pl; exact plL_of fun x hx => gd_pl n x (List.all_eq_true.mp h x hx)) | cases h
theorem gd_lo : ∀ (n : Nat) (d : D), gd n d = true → ∀ m, D.lo m d = true
  | 0, d, h, m => by
    unfold gd at h
    split at h <;> first | (unfold D.lo; rfl) | cases h
  | n + 1, d, h, m => by
    unfold gd at h
    split at h <;> first | (unfold D.lo; rfl) | (unfold D.lo; exact loL_of fun x hx => gd_lo n x (List.all_eq_true.mp h x hx) m) | cases h
theorem gd_dr {S : St} : ∀ (n : Nat) (d : D), gd n d = true → ∀ m, n ≤ m → D.dr S m d = some d
  | 0, d, h, m, hm => by
    unfold gd at h
    split at h <;> first | (cases m <;> (unfold D.dr; rfl)) | cases h
  | n + 1, d, h, 0, hm => by omega
  | n + 1, d, h, m + 1, hm => by
    unfold gd at h
    split at h
    any_goals (first | (unfold D.dr; rfl) | cases h)
    · rename_i xs
      show (mapO (D.dr S m) xs).map D.tup = _
      rw [mapO_id xs fun x hx => gd_dr n x (List.all_eq_true.mp h x hx) m (by omega)]; rfl
    · rename_i xs
      show (mapO (D.dr S m) xs).map D.lst = _
      rw [mapO_id xs fun x hx => gd_dr n x (List.all_eq_true.mp h x hx) m (by omega)]; rfl
theorem gd_dp {S : St} {n : Nat} {d : D} (h : gd n d = true) (hn : n ≤ 150) : d.dp S = some d := by
  unfold D.dp
  rw [gd_dr n d h 150 hn]
  simp only
  rw [if_pos (gd_pl n d h)]
theorem gd_mono : ∀ (n m : Nat) (d : D), n ≤ m → gd n d = true → gd m d = true
  | 0, 0, d, _, h => h
  | 0, m + 1, d, _, h => by
    unfold gd at h ⊢
    cases d <;> first | rfl | exact h | cases h
  | n + 1, 0, d, hm, h => by omega
  | n + 1, m + 1, d, hm, h => by
    unfold gd at h ⊢
    cases d with
    | tup xs => exact List.all_eq_true.mpr fun x hx => gd_mono n m x (by omega) (List.all_eq_true.mp h x hx)
    | lst xs => exact List.all_eq_true.mpr fun x hx => gd_mono n m x (by omega) (List.all_eq_true.mp h x hx)
    | _ => first | rfl | exact h | cases h
theorem gd_str {n : Nat} {x : Txt} : gd n (.str x) = x.all fun c => decide (c < 128) := by cases n <;> rfl
theorem gd_tup {n : Nat} {xs : List D} (h : gd n (.tup xs) = true) : ∃ m, n = m + 1 ∧ ∀ x ∈ xs, gd m x = true := by
  cases n with
  | zero => cases h
  | succ m => exact ⟨m, rfl, fun x hx => List.all_eq_true.mp h x hx⟩
theorem gd_no_ins {n : Nat} {c : String} {f : List (String × D)} (h : gd n (.ins c f) = true) : False := by cases n <;> cases h
theorem gd_no_exn {n : Nat} {c : String} {f : D} (h : gd n (.exn c f) = true) : False := by cases n <;> cases h
theorem gd_no_loc {n : Nat} {c : Nat} (h : gd n (.loc c) = true) : False := by cases n <;> cases h
theorem gd_no_dct {n : Nat} {c : List (Key × D)} (h : gd n (.dct c) = true) : False := by cases n <;> cases h
theorem gd_isX {n : Nat} {d : D} (h : gd n d = true) : d.isX = false := by
  cases n <;> cases d <;> first | rfl | cases h
theorem eqvl_nil' (xs : List D) : D.eqv (.lst xs) (.lst []) = xs.isEmpty := by cases xs <;> simp [D.eqv, D.eqvL]
section
variable (S : St) (m : Bool)
@[simp] theorem dp_non : D.dp S .non = some .non := gd_dp (n := 0) rfl (by decide)
@[simp] theorem dp_bl (b : Bool) : D.dp S (.bl b) = some (.bl b) := gd_dp (n := 0) rfl (by decide)
@[simp] theorem dp_int (b : Int) : D.dp S (.int b) = some (.int b) := gd_dp (n := 0) rfl (by decide)
theorem op_eq_rd {a b x y : D} (ha : a.dp S = some x) (hb : b.dp S = some y) : op2 .eq m a b S = some (.bl (D.eqv x y), S) := by
  have e : bothDr S a b (fun x y => some (.bl (D.eqv x y))) = some (.bl (D.eqv x y), S) := by
    unfold bothDr
    split
    · rename_i u v
      unfold D.dp D.dr at ha hb
      simp only at ha hb
      split at ha <;> cases ha
      split at hb <;> cases hb
      rfl
    · rw [ha, hb]; rfl
  unfold op2
  simp only
  rw [e]
theorem op_ne_rd {a b x y : D} (ha : a.dp S = some x) (hb : b.dp S = some y) : op2 .ne m a b S = some (.bl (!D.eqv x y), S) := by
  have e : bothDr S a b (fun x y => some (.bl (!D.eqv x y))) = some (.bl (!D.eqv x y), S) := by
    unfold bothDr
    split
    · rename_i u v
      unfold D.dp D.dr at ha hb
      simp only at ha hb
      split at ha <;> cases ha
      split at hb <;> cases hb
      rfl
    · rw [ha, hb]; rfl
  unfold op2
  simp only
  rw [e]
theorem op_eq_dp {a b : D} (ha : a.dp S = some a) (hb : b.dp S = some b) : op2 .eq m a b S = some (.bl (D.eqv a b), S) := op_eq_rd S m ha hb
theorem op_ne_dp {a b : D} (ha : a.dp S = some a) (hb : b.dp S = some b) : op2 .ne m a b S = some (.bl (!D.eqv a b), S) := op_ne_rd S m ha hb
theorem mapO_len {f : D → Option D} : ∀ {xs ys : List D}, mapO f xs = some ys → ys.length = xs.length
  | [], ys, h => by simp [mapO] at h; subst h; rfl
  | x :: r, ys, h => by
    unfold mapO at h
    split at h
    · rename_i y t h1 h2
      cases h
      rw [List.length_cons, List.length_cons, mapO_len h2]
    · cases h
theorem isEmpty_len {α β : Type} {l : List α} {r : List β} (h : l.length = r.length) : l.isEmpty = r.isEmpty := by
  cases l <;> cases r <;> simp at h ⊢
theorem dp_tup {xs : List D} {x : D} (h : D.dp S (.tup xs) = some x) : ∃ ys, x = .tup ys ∧ ys.length = xs.length := by
  unfold D.dp at h
  split at h
  · rename_i y e
    split at h
    · cases h
      unfold D.dr at e
      obtain ⟨ys, e1, rfl⟩ := Option.map_eq_some_iff.mp e
      exact ⟨ys, rfl, mapO_len e1⟩
    · cases h
  · cases h
/-- (..) == () of any tuple -/
theorem op_eq_nilT (xs : List D) : op2 .eq m (.tup xs) (.tup []) S = some (.bl xs.isEmpty, S) := by
  have hb : D.dp S (.tup []) = some (.tup []) := gd_dp (n := 1) rfl (by decide)
  cases ha : D.dp S (.tup xs) with
  | some x =>
    obtain ⟨ys, rfl, hl⟩ := dp_tup S ha
    rw [op_eq_rd S m ha hb, ← isEmpty_len hl]
    cases ys <;> simp [D.eqv, D.eqvL]
  | none =>
    have e : bothDr S (.tup xs) (.tup []) (fun x y => some (.bl (D.eqv x y))) = none := by
      unfold bothDr
      simp only
      rw [ha]
    unfold op2
    simp only
    rw [e]
    rfl
theorem dp_itemsP {d : D} {xs : List D} {x : D} (hi : lstItems S d = some xs) (h : D.dp S d = some x) : ∃ ys, x = .lst ys ∧ ys.length = xs.length := by
  unfold D.dp at h
  split at h
  · rename_i y e
    split at h
    · cases h
      unfold lstItems at hi
      split at hi
      · cases hi
        unfold D.dr at e
        obtain ⟨ys, e1, rfl⟩ := Option.map_eq_some_iff.mp e
        exact ⟨ys, rfl, mapO_len e1⟩
      · split at hi
        · rename_i q
          cases hi
          unfold D.dr at e
          simp only [q] at e
          obtain ⟨ys, e1, rfl⟩ := Option.map_eq_some_iff.mp e
          exact ⟨ys, rfl, mapO_len e1⟩
        · cases hi
      · cases hi
    · cases h
  · cases h
theorem bothDr_lst {d e : D} {xs ys : List D} {f : D → D → Option D} (hd : lstItems S d = some xs) (he : lstItems S e = some ys) : bothDr S d e f = (match D.dp S d, D.dp S e with | some x, some y => (f x y).map fun d => (d, S) | _, _ => none) := by
  unfold bothDr
  split
  · cases hd
  · rfl
theorem eq2_lst {d e : D} {xs : List D} (hd : lstItems S d = some xs) (he : lstItems S e = some []) : eq2 S d e = some xs.isEmpty := by
  unfold eq2
  split
  · cases hd
  · rw [hd, he]
/-- [..] == [], [..] != [] of any list -/
theorem op_eq_nilL {d e : D} {xs : List D} (hd : lstItems S d = some xs) (he : lstItems S e = some []) : op2 .eq m d e S = some (.bl xs.isEmpty, S) := by
  have q := eq2_lst S hd he
  have q2 := bothDr_lst S (f := fun x y => some (.bl (D.eqv x y))) hd he
  unfold op2
  simp only
  rw [q2]
  cases ha : D.dp S d with
  | none => simp [q]
  | some x =>
    cases hb : D.dp S e with
    | none => simp [q]
    | some y =>
      obtain ⟨us, rfl, hl⟩ := dp_itemsP S hd ha
      obtain ⟨vs, rfl, hl2⟩ := dp_itemsP S he hb
      have : vs = [] := List.eq_nil_of_length_eq_zero hl2
      subst this
      simp [eqvl_nil', ← isEmpty_len hl]
theorem op_ne_nilL {d e : D} {xs : List D} (hd : lstItems S d = some xs) (he : lstItems S e = some []) : op2 .ne m d e S = some (.bl (!xs.isEmpty), S) := by
  have q := eq2_lst S hd he
  have q2 := bothDr_lst S (f := fun x y => some (.bl (!D.eqv x y))) hd he
  unfold op2
  simp only
  rw [q2]
  cases ha : D.dp S d with
  | none => simp [q]
  | some x =>
    cases hb : D.dp S e with
    | none => simp [q]
    | some y =>
      obtain ⟨us, rfl, hl⟩ := dp_itemsP S hd ha
      obtain ⟨vs, rfl, hl2⟩ := dp_itemsP S he hb
      have : vs = [] := List.eq_nil_of_length_eq_zero hl2
      subst this
      simp [eqvl_nil', ← isEmpty_len hl]
@[simp] theorem op_eq_int (i j : Int) : op2 .eq m (.int i) (.int j) S = some (.bl (i == j), S) := by rw [op_eq_dp S m (dp_int S i) (dp_int S j)]; simp [D.eqv]
@[simp] theorem op_ne_int (i j : Int) : op2 .ne m (.int i) (.int j) S = some (.bl (!(i == j)), S) := by rw [op_ne_dp S m (dp_int S i) (dp_int S j)]; simp [D.eqv]
@[simp] theorem op_lt_int (i j : Int) : op2 .lt m (.int i) (.int j) S = some (.bl (decide (i < j)), S) := by
  unfold op2
  simp only
  unfold bothDr
  simp [D.lt]
@[simp] theorem op_is_non : op2 .is_ m .non .non S = some (.bl true, S) := rfl
@[simp] theorem op_is_int (i : Int) : op2 .is_ m (.int i) .non S = some (.bl false, S) := rfl
@[simp] theorem op_is_str (i : Txt) : op2 .is_ m (.str i) .non S = some (.bl false, S) := rfl
@[simp] theorem op_is_tup (i : List D) : op2 .is_ m (.tup i) .non S = some (.bl false, S) := rfl
theorem eqv_nil (xs : List D) : D.eqv (.tup xs) (.tup []) = xs.isEmpty := by cases xs <;> simp [D.eqv, D.eqvL]
theorem eqvl_nil (xs : List D) : D.eqv (.lst xs) (.lst []) = xs.isEmpty := by cases xs <;> simp [D.eqv, D.eqvL]
@[simp] theorem getIx_tup0 (a : D) (r : List D) : getIx S (.tup (a :: r)) (.int 0) = some (a, S) := by simp [getIx, items, ixN]
@[simp] theorem getIx_tup1 (a b : D) (r : List D) : getIx S (.tup (a :: b :: r)) (.int 1) = some (b, S) := by simp [getIx, items, ixN]
theorem cut_tail {α : Type} (a : α) (r : List α) : cut (a :: r) (some 1) none = r := by simp [cut, clip]
@[simp] theorem getSl_tail (a : D) (r : List D) : getSl S m (.tup (a :: r)) (some 1) none = some (.tup r, S) := by show some (D.tup (cut (a :: r) (some 1) none), S) = _; rw [cut_tail]
@[simp] theorem op_eq_non_int (j : Int) : op2 .eq m .non (.int j) S = some (.bl false, S) := by rw [op_eq_dp S m (dp_non S) (dp_int S j)]; simp [D.eqv]
end
end PM
set_option autoImplicit false
set_option linter.all false
/-! QWp: what a run comes to, rule by rule. -/
namespace PM
@[irreducible] def OK {α : Type} (r : R α) (Q : α → St → Prop) (X : String → D → St → Prop) : Prop := match r with
  | .ok a S => Q a S
  | .ex c v S => X c v S
  | .bad => False
@[irreducible] def FOK (f : Fl) (N : Env → St → Prop) (T : D → St → Prop) (X : String → D → Env → St → Prop) (B K : Env → St → Prop) : Prop := match f with
  | .nx ρ S => N ρ S
  | .rt d S => T d S
  | .bk ρ S => B ρ S
  | .ct ρ S => K ρ S
  | .ex c v ρ S => X c v ρ S
  | .bad => False
abbrev NX : String → D → St → Prop := fun _ _ _ => False
abbrev NE : Env → St → Prop := fun _ _ => False
section
variable {α β : Type} {Q Q' : α → St → Prop} {X X' : String → D → St → Prop}
theorem OK.mono {r : R α} (h : OK r Q X) (q : ∀ a S, Q a S → Q' a S) : OK r Q' X := by with_unfolding_all (cases r <;> first | exact q _ _ h | exact h)
theorem OK.monoX {r : R α} (h : OK r Q X) (q : ∀ a S, Q a S → Q' a S) (x : ∀ c v S, X c v S → X' c v S) : OK r Q' X' := by with_unfolding_all (cases r <;> first | exact q _ _ h | exact x _ _ _ h | exact h)
/-- a run that can't raise, where anything may be raised -/
theorem OK.to {r : R α} (h : OK r Q NX) (q : ∀ a S, Q a S → Q' a S) : OK r Q' X := h.monoX q fun _ _ _ z => z.elim
theorem OK.eq {r : R α} {a : α} {S : St} (e : r = .ok a S) (h : Q a S) : OK r Q X := by with_unfolding_all (rw [e]; exact h)
theorem OK.ex {r : R α} {c : String} {v : D} {S : St} (e : r = .ex c v S) (h : X c v S) : OK r Q X := by with_unfolding_all (rw [e]; exact h)
theorem OK.to_eq {r : R α} {a : α} {S : St} (h : OK r (fun b S' => b = a ∧ S' = S) NX) : r = .ok a S := by with_unfolding_all
  cases r with
  | ok b S' =>
    have h' : b = a ∧ S' = S := h
    rw [h'.1, h'.2]
  | ex _ _ _ => exact h.elim
  | bad => exact h.elim
theorem OK.to_ex {r : R α} {c : String} {v : D} {S : St} (h : OK r (fun _ _ => False) (fun e u S' => e = c ∧ u = v ∧ S' = S)) : r = .ex c v S := by with_unfolding_all
  cases r with
  | ok b S' => exact h.elim
  | ex e u S' =>
    have h' : e = c ∧ u = v ∧ S' = S := h
    rw [h'.1, h'.2.1, h'.2.2]
  | bad => exact h.elim
theorem OK.some {r : R α} (h : OK r Q NX) : ∃ a S, r = .ok a S ∧ Q a S := by with_unfolding_all
  cases r with
  | ok b S' => exact ⟨_, _, rfl, h⟩
  | ex _ _ _ => exact h.elim
  | bad => exact h.elim
theorem w_ok {a : α} {S : St} (h : Q a S) : OK (.ok a S) Q X := by with_unfolding_all exact (h)
theorem w_bind {r : R β} {f : β → St → R α} (h : OK r (fun b S => OK (f b S) Q X) X) : OK (r.bind f) Q X := by with_unfolding_all (cases r <;> exact h)
theorem w_of {o : Option α} {a : α} {S : St} (e : o = some a) (h : Q a S) : OK (R.of o S) Q X := by with_unfolding_all (rw [e]; exact h)
theorem w_o {o : Option (α × St)} {a : α} {S : St} (e : o = some (a, S)) (h : Q a S) : OK (R.o o) Q X := by with_unfolding_all (rw [e]; exact h)
theorem w_if {c : Prop} {_ic : Decidable c} {r s : R α} (h1 : c → OK r Q X) (h2 : ¬ c → OK s Q X) : OK (if c then r else s) Q X := by
  split
  · exact h1 ‹_›
  · exact h2 ‹_›
theorem w_ift {c : Prop} {_ic : Decidable c} {r s : R α} (hc : c) (h1 : OK r Q X) : OK (if c then r else s) Q X := by rw [if_pos hc]; exact h1
theorem w_iff {c : Prop} {_ic : Decidable c} {r s : R α} (hc : c → False) (h1 : OK s Q X) : OK (if c then r else s) Q X := by rw [if_neg hc]; exact h1
theorem w_noex {r : R α} (h : OK r Q NX) : OK r.noex Q X := by with_unfolding_all (cases r <;> first | exact h | exact h.elim)
end
theorem splitKw_nil (ds : List D) : splitKw ds [] = (ds, []) := by
  unfold splitKw
  simp
section
variable {C : Ctx} {ρ : Env} {S : St} {Q : D → St → Prop} {X : String → D → St → Prop} {Qb : Bool → St → Prop} {Ql : List D → St → Prop} {Qo : Option Int → St → Prop}
theorem w_var {i : Nat} (h : OK (getV ρ i S) Q X) : OK (evE C (.var i) ρ S) Q X := by rw [evE_var]; exact h
theorem w_get0 {d : D} {r : Env} (hx : d.isX = false) (h : Q d S) : OK (getV (some d :: r) 0 S) Q X := by with_unfolding_all (rw [getV_zero, hx]; exact h)
theorem w_getS {o : Option D} {r : Env} {i : Nat} (h : OK (getV r i S) Q X) : OK (getV (o :: r) (i + 1) S) Q X := h
theorem w_cst {d : D} (h : Q d S) : OK (evE C (.cst d) ρ S) Q X := by with_unfolding_all (rw [evE_cst]; exact h)
theorem w_glb {x : String} {d : D} (e : noDct (C.glb x) = some d) (h : Q d S) : OK (evE C (.glb x) ρ S) Q X := by with_unfolding_all (rw [evE_glb, e]; exact h)
theorem w_op {o : O2} {m : Bool} {a b : E} (h : OK (evE C a ρ S) (fun x S1 => OK (evE C b ρ S1) (fun y S2 => OK (R.o (op2 o m x y S2)) Q X) X) X) : OK (evE C (.op o m a b) ρ S) Q X := by
  rw [evE_op]; exact w_bind (h.mono fun x S1 h => w_bind h)
theorem w_chn {o p : O2} {a b c : E} (h : OK (evE C a ρ S) (fun x S1 => OK (evE C b ρ S1) (fun y S2 => OK (R.o (op2 o false x y S2)) (fun t S3 => OK (chnR C p c ρ y t S3) Q X) X) X) X) : OK (evE C (.chn o p a b c) ρ S) Q X := by
  rw [evE_chn]; exact w_bind (h.mono fun x S1 h => w_bind (h.mono fun y S2 h => w_bind h))
theorem w_chnR {p : O2} {c : E} {y : D} {b : Bool} (h1 : b = true → OK (evE C c ρ S) (fun z S4 => OK (R.o (op2 p false y z S4)) Q X) X) (h2 : b = false → Q (.bl false) S) : OK (chnR C p c ρ y (.bl b) S) Q X := by with_unfolding_all
  cases b with
  | true => exact w_bind (h1 rfl)
  | false => exact h2 rfl
theorem w_neg {a : E} (h : OK (evE C a ρ S) (fun x S1 => ∃ i, x = .int i ∧ Q (.int (-i)) S1) X) : OK (evE C (.neg a) ρ S) Q X := by with_unfolding_all
  rw [evE]
  refine w_bind (h.mono fun x S1 ⟨i, e, q⟩ => ?_)
  subst e
  exact q
theorem w_not {a : E} (h : OK (evE C a ρ S).tru (fun t S1 => Q (.bl (!t)) S1) X) : OK (evE C (.not a) ρ S) Q X := by with_unfolding_all (rw [evE_not]; exact w_bind h)
theorem w_tru {a : E} (h : OK (evE C a ρ S) (fun x S1 => OK (R.of (truthy S1 x) S1) Qb X) X) : OK (evE C a ρ S).tru Qb X := w_bind h
theorem w_trb {b : Bool} (h : Qb b S) : OK (R.of (truthy S (.bl b)) S) Qb X := by with_unfolding_all exact (h)
theorem w_bop {and : Bool} {es : List E} (h : OK (evB C and es ρ S) Q X) : OK (evE C (.bop and es) ρ S) Q X := by rw [evE_bop]; exact h
theorem w_b1 {and : Bool} {e : E} (h : OK (evE C e ρ S) Q X) : OK (evB C and [e] ρ S) Q X := by rw [evB_1]; exact h
theorem w_b2 {and : Bool} {e f : E} {r : List E} (h : OK (evE C e ρ S) (fun x S1 => OK (bopR C and (f :: r) ρ x S1) Q X) X) : OK (evB C and (e :: f :: r) ρ S) Q X := by rw [evB_2]; exact w_bind h
theorem w_bR {and b : Bool} {es : List E} (h1 : b = and → OK (evB C and es ρ S) Q X) (h2 : b = !and → Q (.bl b) S) : OK (bopR C and es ρ (.bl b) S) Q X := by with_unfolding_all
  rw [bopR_bl]
  cases b <;> cases and <;> first | exact h1 rfl | exact h2 rfl
theorem w_bR1 {and : Bool} {es : List E} (h1 : OK (evB C and es ρ S) Q X) : OK (bopR C and es ρ (.bl and) S) Q X := w_bR (fun _ => h1) fun e => by cases and <;> cases e
theorem w_bRt {es : List E} (h2 : Q (.bl true) S) : OK (bopR C false es ρ (.bl true) S) Q X := by with_unfolding_all exact (h2)
theorem w_bRf {es : List E} (h2 : Q (.bl false) S) : OK (bopR C true es ρ (.bl false) S) Q X := by with_unfolding_all exact (h2)
theorem w_ite {t a b : E} (h : OK (evE C t ρ S).tru (fun k S1 => OK (if k = true then evE C a ρ S1 else evE C b ρ S1) Q X) X) : OK (evE C (.ite t a b) ρ S) Q X := by rw [evE_ite]; exact w_bind h
theorem w_isi {a : E} {Ts : List Ty} (h : OK (evE C a ρ S) (fun x S1 => OK (isiR Ts x S1) Q X) X) : OK (evE C (.isi a Ts) ρ S) Q X := by rw [evE_isi]; exact w_bind h
theorem w_isiR {x : D} {Ts : List Ty} {b : Bool} (e : isTys S x Ts = some b) (h : Q (.bl b) S) : OK (isiR Ts x S) Q X := by with_unfolding_all (rw [isiR_of S e]; exact h)
theorem w_call0 {f : String} {es : List E} (h : OK (evL C es ρ S) (fun ds S1 => OK (C.call f ds [] S1) Q X) X) : OK (evE C (.call f es []) ρ S) Q X := by
  rw [evE_call]; refine w_bind (h.mono fun ds S1 h => ?_); rw [splitKw_nil]; exact h
theorem w_call {f : String} {es : List E} {ks : List String} (h : OK (evL C es ρ S) (fun ds S1 => OK (C.call f (splitKw ds ks).1 (splitKw ds ks).2 S1) Q X) X) : OK (evE C (.call f es ks) ρ S) Q X := by
  rw [evE_call]; exact w_bind h
theorem w_l0 (h : Ql [] S) : OK (evL C [] ρ S) Ql X := by with_unfolding_all (rw [evL_nil]; exact h)
theorem w_l1 {e : E} {r : List E} (h : OK (evE C e ρ S) (fun x S1 => OK (evL C r ρ S1) (fun xs S2 => Ql (x :: xs) S2) X) X) : OK (evL C (e :: r) ρ S) Ql X := by with_unfolding_all
  rw [evL_cons']; exact w_bind (h.mono fun x S1 h => w_bind h)
theorem w_meth {m : String} {o : E} {es : List E} {ks : List String} (h : OK (evE C o ρ S) (fun x S1 => OK (methR C m es ks ρ x S1) Q X) X) : OK (evE C (.meth m o es ks) ρ S) Q X := by rw [evE_meth]; exact w_bind h
theorem w_methR0 {m c : String} {fs : List (String × D)} {es : List E} {x : D} (e : obj S x = some (c, fs)) (hn : (getF fs m).isNone = true) (hh : C.has (c ++ "." ++ m) = true) (h : OK (evL C es ρ S) (fun ds S1 => OK (C.call (c ++ "." ++ m) (x :: ds) [] S1) Q X) X) : OK (methR C m es [] ρ x S) Q X := by
  unfold methR
  rw [e]
  simp only
  rw [if_pos ⟨hn, hh⟩]
  refine w_bind (h.mono fun ds S1 h => ?_)
  rw [splitKw_nil]
  exact h
theorem w_fld {o : E} {f : String} (h : OK (evE C o ρ S) (fun x S1 => OK (getFd C x f S1) Q X) X) : OK (evE C (.fld o f) ρ S) Q X := by rw [evE_fld]; exact w_bind h
theorem w_ix {a i : E} (h : OK (evE C a ρ S) (fun x S1 => OK (evE C i ρ S1) (fun y S2 => OK (R.o (getIx S2 x y)) Q X) X) X) : OK (evE C (.ix a i) ρ S) Q X := by
  rw [evE_ix]; exact w_bind (h.mono fun x S1 h => w_bind h)
theorem w_sl {m : Bool} {a : E} {lo hi : Option E} (h : OK (evE C a ρ S) (fun x S1 => OK (evO C lo ρ S1) (fun l S2 => OK (evO C hi ρ S2) (fun u S3 => OK (R.o (getSl S3 m x l u)) Q X) X) X) X) : OK (evE C (.sl m a lo hi) ρ S) Q X := by
  rw [evE_sl]; exact w_bind (h.mono fun x S1 h => w_bind (h.mono fun y S2 h => w_bind h))
theorem w_rev {m : Bool} {a : E} (h : OK (evE C a ρ S) (fun x S1 => OK (R.o (getRev S1 m x)) Q X) X) : OK (evE C (.rev m a) ρ S) Q X := by
  rw [evE]; exact w_bind h
theorem w_o0 (h : Qo none S) : OK (evO C none ρ S) Qo X := by with_unfolding_all (rw [evO_none]; exact h)
theorem w_o1 {e : E} (h : OK (evE C e ρ S) (fun x S1 => OK (R.of (optInt x) S1) Qo X) X) : OK (evO C (some e) ρ S) Qo X := by rw [evO_some]; exact w_bind h
theorem w_optI {i : Int} (h : Qo (some i) S) : OK (R.of (optInt (.int i)) S) Qo X := by with_unfolding_all exact (h)
theorem w_tup {ss : List Bool} {es : List E} (h : OK (evSL C ss es ρ S) (fun ds S1 => ds.length ≤ sizeMax ∧ Q (.tup ds) S1) X) : OK (evE C (.tup ss es) ρ S) Q X := by with_unfolding_all
  rw [evE_tup]; exact w_bind (h.mono fun ds S1 h => w_ift h.1 h.2)
theorem w_lst {ss : List Bool} {es : List E} (h : OK (evSL C ss es ρ S) (fun ds S1 => ds.length ≤ sizeMax ∧ Q (.lst ds) S1) X) : OK (evE C (.lst false ss es) ρ S) Q X := by with_unfolding_all
  rw [evE_lst]; exact w_bind (h.mono fun ds S1 h => w_ift h.1 h.2)
theorem w_lstT {ss : List Bool} {es : List E} (h : OK (evSL C ss es ρ S) (fun ds S1 => ds.length ≤ sizeMax ∧ Q (.loc S1.length) (S1 ++ [.lst ds])) X) : OK (evE C (.lst true ss es) ρ S) Q X := by with_unfolding_all
  rw [evE_lst]; exact w_bind (h.mono fun ds S1 h => w_ift h.1 h.2)
theorem w_s0 {ss : List Bool} (h : Ql [] S) : OK (evSL C ss [] ρ S) Ql X := by with_unfolding_all (rw [evSL_nil']; exact h)
theorem w_sf {ss : List Bool} {e : E} {r : List E} (h : OK (evE C e ρ S) (fun x S1 => OK (evSL C ss r ρ S1) (fun xs S2 => Ql (x :: xs) S2) X) X) : OK (evSL C (false :: ss) (e :: r) ρ S) Ql X := by with_unfolding_all
  rw [evSL_f]; exact w_bind (h.mono fun x S1 h => w_bind h)
theorem w_st {ss : List Bool} {e : E} {r : List E} (h : OK (evE C e ρ S) (fun x S1 => ∃ ys, starD S1 x = some ys ∧ OK (evSL C ss r ρ S1) (fun xs S2 => Ql (ys ++ xs) S2) X) X) : OK (evSL C (true :: ss) (e :: r) ρ S) Ql X := by with_unfolding_all
  rw [evSL_t]
  refine w_bind (h.mono fun x S1 ⟨ys, e, h⟩ => ?_)
  unfold starR
  rw [e]
  exact w_bind h
theorem w_dsp {m : Bool} {es : List E} (h : OK (evL C es ρ S) (fun ds S1 => ∃ l, mkPairs ds = some l ∧ OK (R.o (mkK m (mkDict l) S1)) Q X) X) : OK (evE C (.dsp m es) ρ S) Q X := by
  rw [evE]
  refine w_bind (h.mono fun ds S1 ⟨l, e, h⟩ => ?_)
  rw [e]
  exact h
theorem w_bi {f : String} {m : Bool} {es : List E} (h : OK (evL C es ρ S) (fun ds S1 => OK (R.o (bi C f m ds S1)) Q X) X) : OK (evE C (.bi f m es) ρ S) Q X := by rw [evE_bi]; exact w_bind h
theorem w_bm {f : String} {m : Bool} {o : E} {es : List E} (h : OK (evE C o ρ S) (fun x S0 => isTy S0 x (bmT f) = some true ∧ OK (evL C es ρ S0) (fun ds S1 => OK (R.o (bm f m x ds S1)) Q X) X) X) : OK (evE C (.bm f m o es) ρ S) Q X := by
  rw [evE_bm]; exact w_bind (h.mono fun x S0 h => w_ift h.1 (w_bind h.2))
theorem w_comp {m : Bool} {own : List Nat} {t : Tg} {ik : IK} {ie ifs : List E} {elt : E} (h : OK (evL C ie ρ S) (fun ds S1 => OK (compR C m own t ik ifs elt ρ ds S1) Q X) X) : OK (evE C (.comp m own t ik ie ifs elt) ρ S) Q X := by rw [evE_comp]; exact w_bind h
theorem w_t0 (h : Qb true S) : OK (evTs C [] ρ S) Qb X := by with_unfolding_all (rw [evTs_nil]; exact h)
theorem w_t1 {e : E} (h : OK (evE C e ρ S).tru Qb X) : OK (evTs C [e] ρ S) Qb X := by with_unfolding_all
  rw [evTs_cons]
  refine w_bind (h.mono fun t S1 h => ?_)
  cases t with
  | true => rw [if_pos rfl, evTs_nil]; exact h
  | false => exact h
theorem w_xval {i : Nat} {f c : String} {v : D} (e : ρ[i]? = some (some (.exn c v))) (hx : C.xat c = some f) (h : Q v S) : OK (evE C (.xval i f) ρ S) Q X := by with_unfolding_all
  unfold evE
  rw [e]
  simp only
  rw [if_pos hx]
  exact h
theorem w_own {ne : Bool} {a b : E} (h : OK (evE C a ρ S) (fun x S1 => OK (evE C b ρ S1) (fun y S2 => ∃ c fs, obj S2 x = some (c, fs) ∧ C.has (c ++ ".__eq__") = true ∧ y.isE = false ∧ OK (C.call (c ++ ".__eq__") [x, y] [] S2) (fun r S3 => ∃ t, r = .bl t ∧ Q (.bl (ne != t)) S3) X) X) X) : OK (evE C (.own ne a b) ρ S) Q X := by with_unfolding_all
  rw [evE]
  refine w_bind (h.mono fun x S1 h => w_bind (h.mono fun y S2 ⟨c, fs, e, hh, hE, h⟩ => ?_))
  rw [e]
  simp only
  rw [if_pos ⟨hh, hE⟩]
  refine w_bind (h.mono fun r S3 ⟨t, e, h⟩ => ?_)
  subst e
  exact h
theorem w_mkx {c : String} {a : E} (hc : (C.xat c).isSome = true) (h : OK (evE C a ρ S) (fun x S1 => Q (.err c x) S1) X) : OK (evE C (.mkx c a) ρ S) Q X := by with_unfolding_all
  rw [evE]
  refine w_bind (h.mono fun x S1 q => ?_)
  rw [if_pos hc]
  exact q
theorem w_isx {a : E} {x : String} {yes : List String} (h : OK (evE C a ρ S) (fun d S1 => ∃ c v, d = .err c v ∧ Q (.bl (yes.contains c)) S1) X) : OK (evE C (.isx a x yes) ρ S) Q X := by with_unfolding_all
  rw [evE]
  refine w_bind (h.mono fun d S1 ⟨c, v, e, q⟩ => ?_)
  subst e
  exact q
theorem w_dup {m : Bool} {a k v : E} (h : OK (evE C a ρ S) (fun x S1 => ∃ kvs, pairs S1 x = some kvs ∧ kvs.length < sizeMax ∧ OK (evE C k ρ S1) (fun y S2 => OK (evE C v ρ S2) (fun z S3 => ∃ q, keyOf y = some q ∧ OK (R.o (mkK m (putK kvs q z) S3)) Q X) X) X) X) : OK (evE C (.dup m a k v) ρ S) Q X := by
  rw [evE]
  refine w_bind (h.mono fun x S1 ⟨kvs, e, hl, h⟩ => ?_)
  rw [e]
  simp only
  rw [if_pos hl]
  refine w_bind (h.mono fun y S2 h => w_bind (h.mono fun z S3 ⟨q, e, h⟩ => ?_))
  rw [e]
  exact h
theorem w_kin {neg : Bool} {a : E} {x : String} {kvs : List (Key × D)} (hg : C.glb x = some (.dct kvs)) (h : OK (evE C a ρ S) (fun y S1 => ∃ t, y = .str t ∧ Q (.bl (neg != (getK kvs (.inr t)).isSome)) S1) X) : OK (evE C (.kin neg a x) ρ S) Q X := by with_unfolding_all
  rw [evE, hg]
  refine w_bind (h.mono fun y S1 ⟨t, e, q⟩ => ?_)
  subst e
  exact q
theorem w_kget {a : E} {x : String} {kvs : List (Key × D)} (hg : C.glb x = some (.dct kvs)) (h : OK (evE C a ρ S) (fun y S1 => ∃ t d, y = .str t ∧ getK kvs (.inr t) = some d ∧ Q d S1) X) : OK (evE C (.kget x a) ρ S) Q X := by with_unfolding_all
  rw [evE, hg]
  refine w_bind (h.mono fun y S1 ⟨t, d, e, e2, q⟩ => ?_)
  subst e
  show OK (R.of (getK kvs (.inr t)) S1) Q X
  rw [e2]
  exact q
end
/-! statements -/
section
variable {C : Ctx} {ρ : Env} {S : St} {N B K : Env → St → Prop} {T : D → St → Prop} {X : String → D → Env → St → Prop}
theorem FOK.mono {N' : Env → St → Prop} {f : Fl} (h : FOK f N' T X B K) (q : ∀ ρ S, N' ρ S → N ρ S) : FOK f N T X B K := by with_unfolding_all (cases f <;> first | exact q _ _ h | exact h)
theorem f_rt {d : D} (h : T d S) : FOK (.rt d S) N T X B K := by with_unfolding_all exact (h)
theorem f_nx {ρ : Env} (h : N ρ S) : FOK (.nx ρ S) N T X B K := by with_unfolding_all exact (h)
theorem f_0 (h : N ρ S) : FOK (evSs C [] ρ S) N T X B K := by with_unfolding_all (rw [evSs_nil]; exact h)
theorem f_seq {f : Fl} {g : Env → St → Fl} (h : FOK f (fun ρ S => FOK (g ρ S) N T X B K) T X B K) : FOK (f.seq g) N T X B K := by with_unfolding_all (cases f <;> exact h)
theorem f_1 {s : PM.S} {r : List PM.S} (h : FOK (evS C s ρ S) (fun ρ S => FOK (evSs C r ρ S) N T X B K) T X B K) : FOK (evSs C (s :: r) ρ S) N T X B K := by rw [evSs_cons]; exact f_seq h
theorem f_fl {α : Type} {r : R α} {f : α → St → Fl} (h : OK r (fun a S => FOK (f a S) N T X B K) fun c v S => X c v ρ S) : FOK (r.fl ρ f) N T X B K := by with_unfolding_all (cases r <;> exact h)
theorem f_nm {i : Nat} {e : E} (h : OK (evE C e ρ S) (fun x S1 => N (ρ.set i (some x)) S1) fun c v S => X c v ρ S) : FOK (evS C (.set (.nm i) e) ρ S) N T X B K := by with_unfolding_all (rw [evS_set]; exact f_fl h)
theorem f_tp {is : List Nat} {e : E} (h : OK (evE C e ρ S) (fun x S1 => ∃ ρ1, bindT S1 (.tp is) x ρ = some ρ1 ∧ N ρ1 S1) fun c v S => X c v ρ S) : FOK (evS C (.set (.tp is) e) ρ S) N T X B K := by with_unfolding_all
  rw [evS_set]; exact f_fl (h.mono fun x S1 ⟨ρ1, e, h⟩ => by rw [e]; exact h)
theorem f_fset {o : E} {f : String} {e : E} (h : OK (evE C e ρ S) (fun x S1 => OK (evE C o ρ S1) (fun y S2 => ∃ S3, setFd C S2 y f x = some S3 ∧ N ρ S3) fun c v S => X c v ρ S) fun c v S => X c v ρ S) : FOK (evS C (.fset o f e) ρ S) N T X B K := by with_unfolding_all
  rw [evS_fset]; exact f_fl (h.mono fun x S1 h => f_fl (h.mono fun y S2 ⟨S3, e, h⟩ => by rw [e]; exact h))
theorem f_iset {o i e : E} (h : OK (evE C e ρ S) (fun x S1 => OK (evE C o ρ S1) (fun y S2 => OK (evE C i ρ S2) (fun z S3 => ∃ S4, setIx S3 y z x = some S4 ∧ N ρ S4) fun c v S => X c v ρ S) fun c v S => X c v ρ S) fun c v S => X c v ρ S) : FOK (evS C (.iset o i e) ρ S) N T X B K := by with_unfolding_all
  rw [evS_iset]; exact f_fl (h.mono fun x S1 h => f_fl (h.mono fun y S2 h => f_fl (h.mono fun z S3 ⟨S4, e, h⟩ => by rw [e]; exact h)))
theorem f_ex {e : E} (h : OK (evE C e ρ S) (fun _ S1 => N ρ S1) fun c v S => X c v ρ S) : FOK (evS C (.ex e) ρ S) N T X B K := by with_unfolding_all (rw [evS_ex]; exact f_fl h)
theorem f_ret {e : E} (h : OK (evE C e ρ S) T fun c v S => X c v ρ S) : FOK (evS C (.ret e) ρ S) N T X B K := by with_unfolding_all (rw [evS_ret]; exact f_fl h)
theorem f_ite {t : E} {a b : List PM.S} (h : OK (evE C t ρ S).tru (fun k S1 => FOK (if k = true then evSs C a ρ S1 else evSs C b ρ S1) N T X B K) fun c v S => X c v ρ S) : FOK (evS C (.ite t a b) ρ S) N T X B K := by
  rw [evS_ite]; exact f_fl h
theorem f_if {c : Prop} {_ic : Decidable c} {r s : Fl} (h1 : c → FOK r N T X B K) (h2 : ¬ c → FOK s N T X B K) : FOK (if c then r else s) N T X B K := by
  split
  · exact h1 ‹_›
  · exact h2 ‹_›
theorem f_ift {c : Prop} {_ic : Decidable c} {r s : Fl} (hc : c) (h1 : FOK r N T X B K) : FOK (if c then r else s) N T X B K := by rw [if_pos hc]; exact h1
theorem f_iff {c : Prop} {_ic : Decidable c} {r s : Fl} (hc : c → False) (h1 : FOK s N T X B K) : FOK (if c then r else s) N T X B K := by rw [if_neg hc]; exact h1
theorem f_rse {c : String} {e : E} (h : OK (evE C e ρ S) (fun x S1 => X c x ρ S1) fun c v S => X c v ρ S) : FOK (evS C (.rse c e) ρ S) N T X B K := by with_unfolding_all (rw [evS_rse]; exact f_fl h)
theorem f_loop {t : Tg} {ik : IK} {ie : List E} {b : List PM.S} (h : OK (evL C ie ρ S) (fun ds S1 => ∃ xs, walk S1 ik ds = some xs ∧ FOK (loopF (fun S' => ds.all (sameAt S1 S')) (loopStep C t b) xs ρ S1) N T X B K) fun c v S => X c v ρ S) (hk : ik.isD = false := by decide) : FOK (evS C (.loop t ik ie b) ρ S) N T X B K := by
  rw [evS_loop]; exact f_fl (h.mono fun ds S1 ⟨xs, e, h⟩ => by rw [e]; show FOK (Fl.ul ik ds S1 (loopF (fun S' => ds.all (sameAt (lkS ik ds S1) S')) (loopStep C t b) xs ρ (lkS ik ds S1))) N T X B K; rw [FlUl_nd hk, lkS_nd hk]; exact h)
theorem f_ul {ik : IK} {ds : List D} {S1 : St} {f : Fl} (h : FOK f (fun ρ S' => N ρ (ulS ik ds S1 S')) (fun d S' => T d (ulS ik ds S1 S')) (fun _ _ _ _ => False) (fun ρ S' => B ρ (ulS ik ds S1 S')) fun ρ S' => K ρ (ulS ik ds S1 S')) (hk : ik.isD = true) : FOK (Fl.ul ik ds S1 f) N T X B K := by with_unfolding_all
  unfold Fl.ul
  rw [hk]
  cases f <;> first | exact h | exact h.elim
/-- a loop over a dict: it is locked meanwhile -/
theorem f_loopK {t : Tg} {ik : IK} {ie : List E} {b : List PM.S} (h : OK (evL C ie ρ S) (fun ds S1 => ∃ xs, walk S1 ik ds = some xs ∧ FOK (loopF (fun S' => ds.all (sameAt (lkS ik ds S1) S')) (loopStep C t b) xs ρ (lkS ik ds S1))
    (fun ρ S' => N ρ (ulS ik ds S1 S')) (fun d S' => T d (ulS ik ds S1 S')) (fun _ _ _ _ => False) (fun ρ S' => B ρ (ulS ik ds S1 S')) (fun ρ S' => K ρ (ulS ik ds S1 S'))) fun c v S => X c v ρ S) (hk : ik.isD = true := by decide) : FOK (evS C (.loop t ik ie b) ρ S) N T X B K := by
  rw [evS_loop]; exact f_fl (h.mono fun ds S1 ⟨xs, e, h⟩ => by rw [e]; exact f_ul h hk)
theorem f_whl {t : E} {b : List PM.S} (h : FOK (whileF (fun ρ1 S1 => (evE C t ρ1 S1).tru) (fun ρ1 S1 => evSs C b ρ1 S1) whileMax ρ S) N T X B K) : FOK (evS C (.whl t b) ρ S) N T X B K := by
  have e : evS C (.whl t b) ρ S = whileF (fun ρ1 S1 => (evE C t ρ1 S1).tru) (fun ρ1 S1 => evSs C b ρ1 S1) whileMax ρ S := by rw [evS]
  rw [e]; exact h
theorem f_skip (h : N ρ S) : FOK (evS C .skip ρ S) N T X B K := by with_unfolding_all (unfold evS; exact h)
theorem f_brk (h : B ρ S) : FOK (evS C .brk ρ S) N T X B K := by with_unfolding_all (unfold evS; exact h)
theorem f_cnt (h : K ρ S) : FOK (evS C .cnt ρ S) N T X B K := by with_unfolding_all (unfold evS; exact h)
theorem f_tri {b : List PM.S} {i : Nat} {cs : List (List String)} {hs : List (List PM.S)} (h : FOK (evSs C b ρ S) N T (fun c v ρ1 S1 => FOK (evH C i cs hs c v ρ1 S1) N T X B K) B K) : FOK (evS C (.tri b i cs hs) ρ S) N T X B K := by with_unfolding_all
  rw [evS]
  revert h
  cases evSs C b ρ S <;> intro h <;> exact h
theorem f_hit {i : Nat} {k : List String} {cs : List (List String)} {h : List PM.S} {hs : List (List PM.S)} {c : String} {v : D} (hk : k.contains c = true) (hn : noX ρ = true)
    (q : FOK (evSs C h (ρ.set i (some (.exn c v))) S) (fun ρ1 S1 => noX (ρ1.set i none) = true ∧ N (ρ1.set i none) S1) T (fun _ _ _ _ => False) (fun ρ1 S1 => noX (ρ1.set i none) = true ∧ B (ρ1.set i none) S1) (fun ρ1 S1 => noX (ρ1.set i none) = true ∧ K (ρ1.set i none) S1)) :
    FOK (evH C i (k :: cs) (h :: hs) c v ρ S) N T X B K := by with_unfolding_all
  unfold evH
  rw [if_pos hk, if_pos hn]
  revert q
  cases evSs C h (ρ.set i (some (.exn c v))) S with
  | nx ρ1 S1 => intro q; show FOK (if _ then _ else _) _ _ _ _ _; rw [if_pos q.1]; exact q.2
  | bk ρ1 S1 => intro q; show FOK (if _ then _ else _) _ _ _ _ _; rw [if_pos q.1]; exact q.2
  | ct ρ1 S1 => intro q; show FOK (if _ then _ else _) _ _ _ _ _; rw [if_pos q.1]; exact q.2
  | rt d S1 => intro q; exact q
  | ex _ _ _ _ => intro q; exact q.elim
  | bad => intro q; exact q.elim
theorem f_miss {i : Nat} {k : List String} {cs : List (List String)} {h : List PM.S} {hs : List (List PM.S)} {c : String} {v : D} (hk : k.contains c = false) (q : FOK (evH C i cs hs c v ρ S) N T X B K) : FOK (evH C i (k :: cs) (h :: hs) c v ρ S) N T X B K := by
  unfold evH
  rw [hk]
  exact q
theorem FOK_nx : FOK (.nx ρ S) N T X B K = N ρ S := by with_unfolding_all rfl
theorem FOK_rt {d : D} : FOK (.rt d S) N T X B K = T d S := by with_unfolding_all rfl
theorem FOK_bk : FOK (.bk ρ S) N T X B K = B ρ S := by with_unfolding_all rfl
theorem FOK_ct : FOK (.ct ρ S) N T X B K = K ρ S := by with_unfolding_all rfl
theorem FOK_ex {c : String} {v : D} : FOK (.ex c v ρ S) N T X B K = X c v ρ S := by with_unfolding_all rfl
theorem FOK_bad : FOK .bad N T X B K = False := by with_unfolding_all rfl
theorem OK_ok {α : Type} {a : α} {Q : α → St → Prop} {X : String → D → St → Prop} : OK (.ok a S) Q X = Q a S := by with_unfolding_all rfl
theorem OK_ex {α : Type} {c : String} {v : D} {Q : α → St → Prop} {X : String → D → St → Prop} : OK (.ex c v S) Q X = X c v S := by with_unfolding_all rfl
theorem OK_bad {α : Type} {Q : α → St → Prop} {X : String → D → St → Prop} : OK .bad Q X = False := by with_unfolding_all rfl
/-- a for loop, by what holds ahead of each turn -/
theorem f_for {ok : St → Bool} {step : D → Env → St → Fl} (I : List D → Env → St → Prop) (hok : ∀ l ρ S, I l ρ S → ok S = true) (hend : ∀ ρ S, I [] ρ S → N ρ S)
    (hs : ∀ x l ρ S, I (x :: l) ρ S → FOK (step x ρ S) (fun ρ1 S1 => I l ρ1 S1) T X (fun ρ1 S1 => N ρ1 S1) fun ρ1 S1 => I l ρ1 S1) : ∀ (xs : List D) (ρ : Env) (S : St), I xs ρ S → FOK (loopF ok step xs ρ S) N T X B K
  | [], ρ, S, h => by unfold loopF; rw [if_pos (hok _ _ _ h), FOK_nx]; exact hend ρ S h
  | x :: r, ρ, S, h => by
    unfold loopF
    rw [if_pos (hok _ _ _ h)]
    have q := hs x r ρ S h
    revert q
    cases step x ρ S with
    | nx ρ1 S1 => intro q; rw [FOK_nx] at q; exact f_for I hok hend hs r ρ1 S1 q
    | ct ρ1 S1 => intro q; rw [FOK_ct] at q; exact f_for I hok hend hs r ρ1 S1 q
    | bk ρ1 S1 => intro q; rw [FOK_bk] at q; simp only; rw [FOK_nx]; exact q
    | rt d S1 => intro q; rw [FOK_rt] at q; simp only; rw [FOK_rt]; exact q
    | ex _ _ _ _ => intro q; rw [FOK_ex] at q; simp only; rw [FOK_ex]; exact q
    | bad => intro q; rw [FOK_bad] at q; exact q.elim
/-- a while loop, with a measure -/
theorem f_while {t : Env → St → R Bool} {b : Env → St → Fl} (I : Nat → Env → St → Prop)
    (hs : ∀ n ρ S, I n ρ S → OK (t ρ S) (fun k S1 => if k = true then FOK (b ρ S1) (fun ρ1 S2 => ∃ m, m < n ∧ I m ρ1 S2) T X (fun ρ1 S2 => N ρ1 S2) (fun ρ1 S2 => ∃ m, m < n ∧ I m ρ1 S2) else N ρ S1) fun c v S1 => X c v ρ S1) :
    ∀ (f n : Nat) (ρ : Env) (S : St), n < f → I n ρ S → FOK (whileF t b f ρ S) N T X B K
  | 0, n, ρ, S, hf, h => by omega
  | f + 1, n, ρ, S, hf, h => by
    unfold whileF
    have q := hs n ρ S h
    revert q
    cases t ρ S with
    | bad => intro q; rw [OK_bad] at q; exact q.elim
    | ex c v S1 => intro q; rw [OK_ex] at q; simp only; rw [FOK_ex]; exact q
    | ok k S1 =>
      intro q
      rw [OK_ok] at q
      cases k with
      | false => simp only; rw [FOK_nx]; rw [if_neg Bool.false_ne_true] at q; exact q
      | true =>
        rw [if_pos rfl] at q
        simp only
        revert q
        cases b ρ S1 with
        | nx ρ1 S2 => intro q; rw [FOK_nx] at q; obtain ⟨m, hm, q⟩ := q; exact f_while I hs f m ρ1 S2 (by omega) q
        | ct ρ1 S2 => intro q; rw [FOK_ct] at q; obtain ⟨m, hm, q⟩ := q; exact f_while I hs f m ρ1 S2 (by omega) q
        | bk ρ1 S2 => intro q; rw [FOK_bk] at q; simp only; rw [FOK_nx]; exact q
        | rt d S2 => intro q; rw [FOK_rt] at q; simp only; rw [FOK_rt]; exact q
        | ex _ _ _ _ => intro q; rw [FOK_ex] at q; simp only; rw [FOK_ex]; exact q
        | bad => intro q; rw [FOK_bad] at q; exact q.elim
end
/-! calls -/
theorem c_body {P : Prog} {k : Nat} {f : String} {pos : List D} {kws : List (String × D)} {S : St} {fn : Fn} {ds : List D} {Q : D → St → Prop} {X : String → D → St → Prop} (h : P.fn f = some fn) (hb : bindA fn pos kws = some ds)
    (q : FOK (evSs (P.ctx k) fn.body (start fn ds) S) (fun _ S' => OK (leave fn S S' .non) Q X) (fun d S' => OK (leave fn S S' d) Q X) (fun c v _ S' => OK (leave fn S S' v) (fun u S'' => X c u S'') fun _ _ _ => False) NE NE) : OK (callF P (k + 1) f pos kws S) Q X := by with_unfolding_all
  rw [callF_run h hb]
  revert q
  cases evSs (P.ctx k) fn.body (start fn ds) S with
  | nx ρ S' => intro q; exact q
  | rt d S' => intro q; exact q
  | bk _ _ => intro q; exact q.elim
  | ct _ _ => intro q; exact q.elim
  | bad => intro q; exact q.elim
  | ex c v ρ S' =>
    intro q
    show OK ((leave fn S S' v).bind fun u S'' => R.ex c u S'') Q X
    have q' : OK (leave fn S S' v) (fun u S'' => X c u S'') fun _ _ _ => False := q
    cases e : leave fn S S' v with
    | ok a S1 => rw [e] at q'; exact q'
    | ex _ _ _ => rw [e] at q'; exact q'.elim
    | bad => rw [e] at q'; exact q'.elim
theorem c_keep {fn : Fn} {S S' : St} {d : D} {Q : D → St → Prop} {X : String → D → St → Prop} (hk : fn.keep = true) (h : Q d S') : OK (leave fn S S' d) Q X := by with_unfolding_all
  unfold leave; rw [hk]; exact h
theorem c_pure {fn : Fn} {S : St} {d : D} {Q : D → St → Prop} {X : String → D → St → Prop} (hk : fn.keep = false) (lo : D.lo S.length d = true) (h : Q d S) : OK (leave fn S S d) Q X := by with_unfolding_all
  unfold leave; rw [hk]; simp only [Bool.false_eq_true, if_false]; rw [cutAt_pure lo]; exact h
theorem c_defb {P : Prog} {L : Nat} {f : String} {pos : List D} {kws : List (String × D)} {S : St} {fn : Fn} {ds : List D} {ρ : Env} {b : List PM.S} {Q : D → St → Prop} {X : String → D → St → Prop} (hL : 1 ≤ L) (h : P.fn f = some fn) (hb : bindA fn pos kws = some ds) (hs : start fn ds = ρ) (hbd : fn.body = b)
    (q : FOK (evSs (P.ctx (L - 1)) b ρ S) (fun _ S' => OK (leave fn S S' .non) Q X) (fun d S' => OK (leave fn S S' d) Q X) (fun c v _ S' => OK (leave fn S S' v) (fun u S'' => X c u S'') fun _ _ _ => False) NE NE) : OK (callF P L f pos kws S) Q X := by
  subst hs
  subst hbd
  rw [show L = L - 1 + 1 by omega]
  exact c_body h hb q
/-! comprehensions -/
section
variable {C : Ctx} {ρ : Env} {S : St} {Q : D → St → Prop} {X : String → D → St → Prop} {own : List Nat} {t : Tg} {ik : IK} {ifs : List E} {elt : E} {ds : List D}
theorem w_step {x : D} {ρ1 : Env} {Ql : List D → St → Prop} (hb : bindT S t x (wipe ρ own) = some ρ1) (h : OK (evTs C ifs ρ1 S) (fun k S3 => if k = true then OK (evE C elt ρ1 S3) (fun y S4 => Ql [y] S4) X else Ql [] S3) X) : OK (compStep C own t ifs elt ρ x S) Ql X := by with_unfolding_all
  unfold compStep
  rw [hb]
  refine w_bind (h.mono fun k S3 h => ?_)
  cases k with
  | true => rw [if_pos rfl] at h ⊢; exact w_bind h
  | false => exact h
/-- [h(a) ..] without a change of the store -/
theorem w_flat {α : Type} (l : List α) (f : α → D) (h : α → List D) (hw : walk S ik ds = some (l.map f)) (hs : ds.all (sameAt S S) = true) (hl : (l.flatMap h).length ≤ sizeMax) (q : ∀ a ∈ l, OK (compStep C own t ifs elt ρ (f a) S) (fun ys S' => ys = h a ∧ S' = S) NX) (e : Q (.lst (l.flatMap h)) S) (hk : ik.isD = false := by decide) : OK (compR C false own t ik ifs elt ρ ds S) Q X :=
  OK.eq (compR_flat S l f h hw hs hl (fun a ha => (q a ha).to_eq) hk) e
theorem w_map {α : Type} (l : List α) (f h : α → D) (hw : walk S ik ds = some (l.map f)) (hs : ds.all (sameAt S S) = true) (hl : l.length ≤ sizeMax) (q : ∀ a ∈ l, OK (compStep C own t [] elt ρ (f a) S) (fun ys S' => ys = [h a] ∧ S' = S) NX) (e : Q (.lst (l.map h)) S) (hk : ik.isD = false := by decide) : OK (compR C false own t ik [] elt ρ ds S) Q X :=
  OK.eq (compR_map S l f h hw hs hl (fun a ha => (q a ha).to_eq) hk) e
theorem w_filt {α : Type} (l : List α) (f : α → D) (p : α → Bool) (hw : walk S ik ds = some (l.map f)) (hs : ds.all (sameAt S S) = true) (hl : l.length ≤ sizeMax) (q : ∀ a ∈ l, OK (compStep C own t ifs elt ρ (f a) S) (fun ys S' => ys = (if p a = true then [f a] else []) ∧ S' = S) NX) (e : Q (.lst ((l.filter p).map f)) S) (hk : ik.isD = false := by decide) : OK (compR C false own t ik ifs elt ρ ds S) Q X :=
  OK.eq (compR_filter S l f p hw hs hl (fun a ha => (q a ha).to_eq) hk) e
/-- any comprehension, by what holds ahead of each turn: the items so far, the store -/
theorem w_loop {xs : List D} (I : List D → List D → St → Prop) (hw : walk S ik ds = some xs) (hs : ∀ l ys S', I l ys S' → ds.all (sameAt S S') = true)
    (q : ∀ x l ys S', I (x :: l) ys S' → OK (compStep C own t ifs elt ρ x S') (fun zs S'' => I l (ys ++ zs) S'') NX) (h0 : I xs [] S) (he : ∀ ys S', I [] ys S' → ys.length ≤ sizeMax ∧ Q (.lst ys) S') (hk : ik.isD = false := by decide) : OK (compR C false own t ik ifs elt ρ ds S) Q X := by with_unfolding_all
  have key : ∀ (l ys : List D) (S1 : St), I l ys S1 → OK (loopR (fun S' => ds.all (sameAt S S')) (compStep C own t ifs elt ρ) l S1) (fun zs S' => I [] (ys ++ zs) S') NX := by
    intro l
    induction l with
    | nil =>
      intro ys S1 h
      unfold loopR
      rw [if_pos (hs _ _ _ h)]
      exact w_ok (by rw [List.append_nil]; exact h)
    | cons x r ih =>
      intro ys S1 h
      unfold loopR
      rw [if_pos (hs _ _ _ h)]
      refine w_bind (w_noex ((q x r ys S1 h).mono fun zs S2 h2 => w_bind ((ih _ _ h2).mono fun us S3 h3 => w_ok ?_)))
      rw [← List.append_assoc]
      exact h3
  unfold compR
  rw [hw]
  simp only
  rw [lkS_nd hk]
  refine w_bind ((key xs [] S h0).to fun ys S' h => ?_)
  rw [ulS_nd hk]
  obtain ⟨h1, h2⟩ := he _ _ h
  exact w_ift h1 h2
/-- [h(a) ..] over anything, a dict too, without a change of the store -/
theorem w_flatK {α : Type} (l : List α) (f : α → D) (h : α → List D) (hw : walk S ik ds = some (l.map f)) (hs : ds.all (sameAt (lkS ik ds S) (lkS ik ds S)) = true) (hl : (l.flatMap h).length ≤ sizeMax) (q : ∀ a ∈ l, OK (compStep C own t ifs elt ρ (f a) (lkS ik ds S)) (fun ys S' => ys = h a ∧ S' = lkS ik ds S) NX) (e : Q (.lst (l.flatMap h)) S) : OK (compR C false own t ik ifs elt ρ ds S) Q X := by
  have key : compR C false own t ik ifs elt ρ ds S = .ok (.lst (l.flatMap h)) S := by
    unfold compR
    rw [hw]
    simp only
    rw [loopR_map f h hs l fun a ha => (q a ha).to_eq]
    simp only [bind_ok]
    rw [if_pos hl, ulS_lk]
    rfl
  exact OK.eq key e
theorem w_mapK {α : Type} (l : List α) (f h : α → D) (hw : walk S ik ds = some (l.map f)) (hs : ds.all (sameAt (lkS ik ds S) (lkS ik ds S)) = true) (hl : l.length ≤ sizeMax) (q : ∀ a ∈ l, OK (compStep C own t [] elt ρ (f a) (lkS ik ds S)) (fun ys S' => ys = [h a] ∧ S' = lkS ik ds S) NX) (e : Q (.lst (l.map h)) S) : OK (compR C false own t ik [] elt ρ ds S) Q X := by
  have e1 := flatMap_one (fun a => [h a]) h l fun _ _ => rfl
  refine w_flatK l f (fun a => [h a]) hw hs (by rw [e1, List.length_map]; exact hl) q (by rw [e1]; exact e)
end
theorem w_le {n : Nat} {p : Prop} (h : n ≤ sizeMax) (q : p) : n ≤ sizeMax ∧ p := ⟨h, q⟩
theorem w_tp2 {S : St} {ρ : Env} {i j : Nat} {a b : D} {N : Env → Prop} (h : N ((ρ.set i (some a)).set j (some b))) : ∃ ρ1, bindT S (.tp [i, j]) (.tup [a, b]) ρ = some ρ1 ∧ N ρ1 := ⟨_, rfl, h⟩
theorem w_tp3 {S : St} {ρ : Env} {i j k : Nat} {a b c : D} {N : Env → Prop} (h : N (((ρ.set i (some a)).set j (some b)).set k (some c))) : ∃ ρ1, bindT S (.tp [i, j, k]) (.tup [a, b, c]) ρ = some ρ1 ∧ N ρ1 := ⟨_, rfl, h⟩
theorem bind_tp2 {S : St} {ρ : Env} {i j : Nat} {a b : D} : bindT S (.tp [i, j]) (.tup [a, b]) ρ = some ((ρ.set i (some a)).set j (some b)) := rfl
theorem isTy_loc {S : St} {n : Nat} {xs : List D} (h : S[n]? = some (.lst xs)) : isTy S (.loc n) .list = some true := by unfold isTy; simp only; rw [h]; rfl
theorem items_loc {S : St} {n : Nat} {xs : List D} (h : S[n]? = some (.lst xs)) : items S (.loc n) = some xs := by unfold items; simp only; rw [h]
theorem lstI_loc {S : St} {n : Nat} {xs : List D} (h : S[n]? = some (.lst xs)) : lstItems S (.loc n) = some xs := by unfold lstItems; simp only; rw [h]
theorem len_loc {C : Ctx} {m : Bool} {S : St} {n : Nat} {xs : List D} (h : S[n]? = some (.lst xs)) : bi C "len" m [.loc n] S = some (.int xs.length, S) := by
  unfold bi; simp only; rw [items_loc h]
theorem app_loc {S : St} {n : Nat} {m : Bool} {xs : List D} {d : D} (h : S[n]? = some (.lst xs)) (hl : xs.length < sizeMax) : bm "append" m (.loc n) [d] S = some (.non, S.set n (.lst (xs ++ [d]))) := by
  unfold bm; simp only; rw [h]; simp only; rw [if_pos hl]
theorem pop_loc {S : St} {n : Nat} {m : Bool} {xs : List D} {r : Int} (h : S[n]? = some (.lst xs)) (r0 : 0 ≤ r) (r1 : r < xs.length) : ∃ hr : r.toNat < xs.length, bm "pop" m (.loc n) [.int r] S = some (xs[r.toNat], S.set n (.lst (xs.eraseIdx r.toNat))) := by
  have hr : r.toNat < xs.length := by omega
  refine ⟨hr, ?_⟩
  unfold bm; simp only; rw [h]
  simp [ixN, r0, hr]
theorem pop0_loc {S : St} {n : Nat} {m : Bool} {xs : List D} {x : D} (h : S[n]? = some (.lst xs)) (hx : xs.getLast? = some x) : bm "pop" m (.loc n) [] S = some (x, S.set n (.lst xs.dropLast)) := by
  unfold bm; simp only; rw [h]; simp only; rw [hx]
theorem get_push {S : St} {c : Cell} : (S ++ [c])[S.length]? = some c := by simp
theorem get_old {S X : St} {n : Nat} {c : Cell} (h : S[n]? = some c) : (S ++ X)[n]? = some c := by rw [List.getElem?_append_left (List.getElem?_eq_some_iff.mp h).1]; exact h
theorem get_lt {S : St} {n : Nat} {c : Cell} (h : S[n]? = some c) : n < S.length := (List.getElem?_eq_some_iff.mp h).1
theorem get_set {S : St} {n : Nat} {c d : Cell} (h : S[n]? = some d) : (S.set n c)[n]? = some c := List.getElem?_set_self (get_lt h)
theorem get_sne {S : St} {n m : Nat} {c : Cell} (h : n ≠ m) : (S.set n c)[m]? = S[m]? := List.getElem?_set_ne h
theorem same_loc {S S' : St} {n : Nat} {c : Cell} (h : S[n]? = some c) (h' : S'[n]? = some c) : sameAt S S' (.loc n) = true := by unfold sameAt; simp only; rw [h, h']; exact Cell.beq_self c
theorem p_if {c p q : Prop} {_ic : Decidable c} (h1 : c → p) (h2 : ¬ c → q) : if c then p else q := by
  split
  · exact h1 ‹_›
  · exact h2 ‹_›
theorem p_ift {c p q : Prop} {_ic : Decidable c} (hc : c) (h : p) : if c then p else q := by rw [if_pos hc]; exact h
theorem p_iff {c p q : Prop} {_ic : Decidable c} (hc : c → False) (h : q) : if c then p else q := by rw [if_neg hc]; exact h
theorem not_t : (!true) = false := rfl
theorem not_f : (!false) = true := rfl
/-! the tactic -/
-- on to the next return's expression
end PM
set_option autoImplicit false
set_option maxRecDepth 100000
set_option Elab.async false
namespace PM.I
theorem b__law_source : _law_source.body = [(.set (.nm 2) (.op .add false (.cst (.int 91)) (.var 1))), (.loop (.nm 3) .seq [(.var 0)] [(.set (.nm 2) (.op .add false (.op .mod false (.bi "int" false [(.op .pow false (.bi "int" false [(.op .add false (.op .mul false (.var 2) (.cst (.int 60013))) (.bi "int" false [(.var 3)]))]) (.cst (.int 3)))]) (.cst (.int 2147483563))) (.cst (.int 1))))]), (.set (.nm 4) (.cst (.int 0))), (.ite (.bop true [(.op .lt false (.var 1) (.bi "len" false [(.var 0)])), (.op .ge false (.ix (.var 0) (.var 1)) (.op .pow false (.cst (.int 10)) (.cst (.int 18))))]) [(.set (.nm 4) (.op .sub false (.ix (.var 0) (.var 1)) (.op .pow false (.cst (.int 10)) (.cst (.int 18)))))] []), (.ret (.lst true [false, false] [(.var 4), (.var 2)]))] := rfl
theorem f__law_source {rep : D → Txt} : (P rep).fn "_law_source" = some _law_source := rfl
theorem s__law_source {a0 a1 : D} : start _law_source [a0, a1] = [some a0, some a1, none, none, none] := rfl
theorem b__law_draw : _law_draw.body = [(.ite (.op .ge false (.ix (.var 0) (.cst (.int 0))) (.var 1)) [(.set (.nm 2) (.op .mod false (.bi "int" false [(.ix (.var 0) (.cst (.int 0)))]) (.var 1))), (.iset (.var 0) (.cst (.int 0)) (.op .fdiv false (.ix (.var 0) (.cst (.int 0))) (.var 1))), (.ret (.var 2))] []), (.iset (.var 0) (.cst (.int 1)) (.op .mod false (.bi "int" false [(.op .add false (.op .mul false (.ix (.var 0) (.cst (.int 1))) (.cst (.int 48271))) (.cst (.int 5087)))]) (.cst (.int 2147483647)))), (.ret (.op .mod false (.bi "int" false [(.op .fdiv false (.op .mod false (.bi "int" false [(.op .pow false (.bi "int" false [(.ix (.var 0) (.cst (.int 1)))]) (.cst (.int 5)))]) (.cst (.int 1000000007))) (.cst (.int 23)))]) (.var 1)))] := rfl
theorem f__law_draw {rep : D → Txt} : (P rep).fn "_law_draw" = some _law_draw := rfl
theorem s__law_draw {a0 a1 : D} : start _law_draw [a0, a1] = [some a0, some a1, none] := rfl
theorem b__law_pick : _law_pick.body = [(.ret (.ix (.var 1) (.call "_law_draw" [(.var 0), (.bi "len" false [(.var 1)])] [])))] := rfl
theorem f__law_pick {rep : D → Txt} : (P rep).fn "_law_pick" = some _law_pick := rfl
theorem s__law_pick {a0 a1 : D} : start _law_pick [a0, a1] = [some a0, some a1] := rfl
theorem b__law_kinds : _law_kinds.body = [(.set (.nm 1) (.lst false [false, false, false] [(.isx (.var 0) "BadSigns" ["BadSigns"]), (.isx (.var 0) "BadTree" ["BadTree"]), (.isx (.var 0) "BadForm" ["BadForm"])])), (.set (.nm 1) (.op .add false (.var 1) (.lst false [false, false, false] [(.isx (.var 0) "BadValues" ["BadValues"]), (.isx (.var 0) "HasMore" ["HasMore"]), (.isx (.var 0) "NotThere" ["NotThere"])]))), (.set (.nm 1) (.op .add false (.var 1) (.lst false [false, false, false] [(.isx (.var 0) "BadText" ["BadText"]), (.isx (.var 0) "BadForms" ["BadForms"]), (.isx (.var 0) "NotPlain" ["NotPlain"])]))), (.ret (.op .add false (.var 1) (.lst false [false, false] [(.isx (.var 0) "BadCondition" ["BadCondition"]), (.isx (.var 0) "TooFar" ["TooFar"])])))] := rfl
theorem f__law_kinds {rep : D → Txt} : (P rep).fn "_law_kinds" = some _law_kinds := rfl
theorem s__law_kinds {a0 : D} : start _law_kinds [a0] = [some a0, none] := rfl
theorem b__law_by_place : _law_by_place.body = [(.set (.nm 1) (.lst false [false, false, false, false, false, false] [(.mkx "BadSigns" (.var 0)), (.mkx "BadTree" (.var 0)), (.mkx "BadForm" (.var 0)), (.mkx "BadValues" (.var 0)), (.mkx "HasMore" (.var 0)), (.mkx "NotThere" (.var 0))])), (.ret (.op .add false (.var 1) (.lst false [false, false, false, false, false] [(.mkx "BadText" (.var 0)), (.mkx "BadForms" (.var 0)), (.mkx "NotPlain" (.var 0)), (.mkx "BadCondition" (.var 0)), (.mkx "TooFar" (.var 0))])))] := rfl
theorem f__law_by_place {rep : D → Txt} : (P rep).fn "_law_by_place" = some _law_by_place := rfl
theorem s__law_by_place {a0 : D} : start _law_by_place [a0] = [some a0, none] := rfl
theorem b__law_by_name : _law_by_name.body = [(.set (.nm 1) (.lst false [false, false, false, false] [(.mkx "BadSigns" (.var 0)), (.mkx "BadTree" (.var 0)), (.mkx "BadForm" (.var 0)), (.mkx "BadValues" (.var 0))])), (.set (.nm 1) (.op .add false (.var 1) (.lst false [false, false, false, false] [(.mkx "HasMore" (.var 0)), (.mkx "NotThere" (.var 0)), (.mkx "BadText" (.var 0)), (.mkx "BadForms" (.var 0))]))), (.ret (.op .add false (.var 1) (.lst false [false, false, false] [(.mkx "NotPlain" (.var 0)), (.mkx "BadCondition" (.var 0)), (.mkx "TooFar" (.var 0))])))] := rfl
theorem f__law_by_name {rep : D → Txt} : (P rep).fn "_law_by_name" = some _law_by_name := rfl
theorem s__law_by_name {a0 : D} : start _law_by_name [a0] = [some a0, none] := rfl
theorem b__law_stored : _law_stored.body = [(.set (.nm 1) (.op .add false (.comp false [2] (.nm 2) .seq [(.sl false (.var 0) none (some (.cst (.int 7))))] [] (.fld (.var 2) "value")) (.comp false [2] (.nm 2) .seq [(.sl false (.var 0) (some (.cst (.int 7))) (some (.cst (.int 10))))] [] (.fld (.var 2) "position")))), (.ret (.op .add false (.var 1) (.lst false [false] [(.fld (.ix (.var 0) (.cst (.int 10))) "count")])))] := rfl
theorem f__law_stored {rep : D → Txt} : (P rep).fn "_law_stored" = some _law_stored := rfl
theorem s__law_stored {a0 : D} : start _law_stored [a0] = [some a0, none, none] := rfl
theorem b_law : law.body = [(.loop (.nm 1) .rng [(.bi "max" false [(.cst (.int 1)), (.bi "min" false [(.cst (.int 4)), (.bi "len" false [(.var 0)])])])] [(.set (.nm 2) (.call "_law_source" [(.var 0), (.var 1)] [])), (.set (.nm 3) (.lst false [false, false, false, false, false, false, false, false, false] [(.lst true [false] [(.cst (.int 5))]), (.lst true [false, false] [(.cst (.str [97])), (.cst .non)]), (.dsp true [(.cst (.str [97])), (.cst (.int 1))]), (.cst .non), (.cst (.str [120])), (.tup [false] [(.cst (.int 1))]), (.cst (.bl true)), (.op .sub false (.cst (.int 0)) (.cst (.int 3))), (.call "_law_draw" [(.var 2), (.cst (.int 60))] [])])), (.loop (.nm 4) .seq [(.lst false [false, false] [(.call "_law_pick" [(.var 2), (.sl false (.var 3) none (some (.cst (.int 3))))] []), (.call "_law_pick" [(.var 2), (.var 3)] [])])] [(.loop (.nm 5) .seq [(.lst false [false, false] [(.call "_law_by_place" [(.var 4)] []), (.call "_law_by_name" [(.var 4)] [])])] [(.loop (.tp [6, 7]) .enum [(.var 5)] [(.ite (.bop false [(.not (.isx (.var 7) "FormError" ["BadSigns", "BadTree", "BadForm", "BadForms", "BadValues", "NotPlain", "HasMore", "BadCondition", "NotThere", "TooFar", "BadText"])), (.not (.isx (.var 7) "ValueError" ["BadSigns", "BadTree", "BadForm", "BadForms", "BadValues", "NotPlain", "HasMore", "BadCondition", "NotThere", "TooFar", "BadText"]))]) [(.ret (.cst (.bl false)))] []), (.ite (.op .ne false (.call "_law_kinds" [(.var 7)] []) (.comp false [8] (.nm 8) .rng [(.cst (.int 11))] [] (.op .eq false (.var 8) (.var 6)))) [(.ret (.cst (.bl false)))] [])]), (.ite (.isi (.var 4) [.list]) [(.ex (.bm "append" false (.var 4) [(.cst (.int 0))]))] []), (.ite (.isi (.var 4) [.dict]) [(.iset (.var 4) (.cst (.str [108, 97, 116, 101])) (.cst (.int 0)))] []), (.ite (.op .ne false (.bi "repr" false [(.call "_law_stored" [(.var 5)] [])]) (.bi "repr" false [(.op .mul false (.lst false [false] [(.var 4)]) (.cst (.int 11)))])) [(.ret (.cst (.bl false)))] [])])])]), (.ret (.cst (.bl true)))] := rfl
theorem f_law {rep : D → Txt} : (P rep).fn "law" = some law := rfl
theorem s_law {a0 : D} : start law [a0] = [some a0, none, none, none, none, none, none, none, none] := rfl
end PM.I
set_option autoImplicit false
set_option linter.all false
set_option maxRecDepth 100000
set_option maxHeartbeats 1000000
/-! QDraw: draws; stores that evolve. -/
namespace PM
local macro_rules | `(tactic| and_intros) => `(tactic| repeat (first | with_reducible refine f_1 ?_ | with_reducible refine f_0 ?_ | ((with_reducible refine w_var ?_; (repeat (with_reducible refine w_getS ?_)); with_reducible refine w_get0 (by (first | rfl | assumption | (simp only [isX_non, isX_bl, isX_int, isX_str, isX_tup, isX_lst, isX_dct, isX_ins, isX_err, isX_loc]; done) | simp)) ?_)) | with_reducible refine w_cst ?_ | with_reducible refine w_l1 ?_ | with_reducible refine w_l0 ?_ | with_reducible refine w_op ?_ | with_reducible refine w_call0 ?_ | with_reducible refine w_call ?_ | with_reducible refine w_ok ?_ | with_reducible refine w_trb ?_ | with_reducible refine w_tru ?_ | with_reducible refine w_ix ?_ | with_reducible refine w_sf ?_ | with_reducible refine w_s0 ?_ | with_reducible refine w_bi ?_ | with_reducible refine w_glb rfl ?_ | with_reducible refine f_nm ?_ | with_reducible refine f_ite ?_ | with_reducible refine f_ret ?_ | with_reducible refine f_ex ?_ | with_reducible refine f_ift rfl ?_ | with_reducible refine f_iff Bool.false_ne_true ?_ | with_reducible refine f_ift trivial ?_ | with_reducible refine f_iff id ?_ | with_reducible refine w_not ?_ | with_reducible refine w_bop ?_ | with_reducible refine w_b1 ?_ | with_reducible refine w_b2 ?_ | with_reducible refine w_bR1 ?_ | with_reducible refine w_bRt ?_ | with_reducible refine w_bRf ?_ | with_reducible refine w_isi ?_ | with_reducible refine w_mkx rfl ?_ | with_reducible refine w_isx ?_ | with_reducible refine w_chn ?_ | with_reducible refine w_meth ?_ | with_reducible refine w_fld ?_ | with_reducible refine w_sl ?_ | with_reducible refine w_rev ?_ | with_reducible refine w_o0 ?_ | with_reducible refine w_o1 ?_ | with_reducible refine w_optI ?_ | with_reducible refine w_comp ?_ | with_reducible refine w_ite ?_ | with_reducible refine f_rse ?_ | with_reducible refine f_skip ?_ | with_reducible refine f_brk ?_ | with_reducible refine f_cnt ?_ | with_reducible refine f_fset ?_ | with_reducible refine f_iset ?_ | with_reducible refine w_t0 ?_ | with_reducible refine w_t1 ?_ | with_reducible refine w_tup ?_ | with_reducible refine w_lst ?_ | with_reducible refine w_lstT ?_ | with_reducible refine w_st ?_ | with_reducible refine w_dsp ?_ | with_reducible refine w_bm ?_ | with_reducible refine f_tp ?_ | with_reducible refine f_loop ?_ | with_reducible refine f_tri ?_ | with_reducible refine w_le (by (first | assumption | (rw [sizeMax]; (try simp only [List.length_cons, List.length_nil, List.length_append, List.length_map, List.length_reverse]); omega))) ?_ | with_reducible refine w_tp2 ?_ | with_reducible refine w_tp3 ?_ | with_reducible refine f_whl ?_ | with_reducible refine p_ift rfl ?_ | with_reducible refine p_iff Bool.false_ne_true ?_ | with_reducible refine p_ift trivial ?_ | with_reducible refine w_ift rfl ?_ | with_reducible refine w_iff Bool.false_ne_true ?_ | with_reducible refine w_ift trivial ?_ | (dsimp only [set_zero, set_succ, not_t, not_f, wipe])))
open PM.I
variable {rep : D → Txt}
def mkC (o m : Int) : Cell := .lst [.int o, .int m]
structure Vd (o m : Int) : Prop where
  po : 0 ≤ o
  pm : 0 ≤ m
  pt : m < 2147483647
def At (S : St) (s : Nat) : Prop := ∃ o m, S[s]? = some (mkC o m) ∧ Vd o m
def Dr (s : Nat) (S S' : St) : Prop := ∃ o m, Vd o m ∧ S' = S.set s (mkC o m)
theorem At.lt {S : St} {s : Nat} (h : At S s) : s < S.length := by
  obtain ⟨o, m, h1, _⟩ := h
  exact (List.getElem?_eq_some_iff.mp h1).1
theorem Dr.at_ {S S' : St} {s : Nat} (h : Dr s S S') (a : s < S.length) : At S' s := by
  obtain ⟨o, m, v, e⟩ := h
  exact ⟨o, m, by rw [e, List.getElem?_set_self a], v⟩
theorem Dr.len {S S' : St} {s : Nat} (h : Dr s S S') : S'.length = S.length := by
  obtain ⟨o, m, v, e⟩ := h
  rw [e, List.length_set]
theorem Dr.get {S S' : St} {s i : Nat} (h : Dr s S S') (n : i ≠ s) : S'[i]? = S[i]? := by
  obtain ⟨o, m, v, e⟩ := h
  rw [e, List.getElem?_set_ne (Ne.symm n)]
theorem Dr.trans {S S' S'' : St} {s : Nat} (h : Dr s S S') (g : Dr s S' S'') : Dr s S S'' := by
  obtain ⟨o, m, v, e⟩ := h
  obtain ⟨o', m', v', e'⟩ := g
  exact ⟨o', m', v', by rw [e', e, List.set_set]⟩
theorem Dr.refl {S : St} {s : Nat} (h : At S s) : Dr s S S := by
  obtain ⟨o, m, e, v⟩ := h
  refine ⟨o, m, v, ?_⟩
  apply List.ext_getElem?
  intro i
  by_cases hi : s = i
  · subst hi
    rw [e, List.getElem?_set_self (List.getElem?_eq_some_iff.mp e).1]
  · rw [List.getElem?_set_ne hi]
/-- S' is S with the source moved, and more behind it -/
structure Ev (s : Nat) (S S' : St) : Prop where
  at_ : At S' s
  len : S.length ≤ S'.length
  same : ∀ i, i < S.length → i ≠ s → S'[i]? = S[i]?
theorem Ev.refl {s : Nat} {S : St} (h : At S s) : Ev s S S := ⟨h, Nat.le_refl _, fun _ _ _ => rfl⟩
theorem Ev.trans {s : Nat} {S S' S'' : St} (a : Ev s S S') (b : Ev s S' S'') : Ev s S S'' := ⟨b.at_, Nat.le_trans a.len b.len, fun i hi n => (b.same i (Nat.lt_of_lt_of_le hi a.len) n).trans (a.same i hi n)⟩
theorem Dr.ev {s : Nat} {S S' : St} (d : Dr s S S') (h : s < S.length) : Ev s S S' := ⟨d.at_ h, Nat.le_of_eq d.len.symm, fun i _ n => d.get n⟩
theorem Ev.dr {s : Nat} {S S' S'' : St} (a : Ev s S S') (d : Dr s S' S'') : Ev s S S'' := a.trans (d.ev a.at_.lt)
theorem At.app {S : St} {s : Nat} (h : At S s) (X : St) : At (S ++ X) s := by
  obtain ⟨o, m, e, v⟩ := h
  exact ⟨o, m, by rw [List.getElem?_append_left (List.getElem?_eq_some_iff.mp e).1]; exact e, v⟩
theorem Ev.push {s : Nat} {S S' : St} (a : Ev s S S') (X : St) : Ev s S (S' ++ X) := ⟨a.at_.app X, by rw [List.length_append]; have := a.len; omega, fun i hi n => by rw [List.getElem?_append_left (Nat.lt_of_lt_of_le hi a.len)]; exact a.same i hi n⟩
theorem Ev.set {s t : Nat} {S S' : St} {c : Cell} (a : Ev s S S') (ht : S.length ≤ t) (hn : t ≠ s) : Ev s S (S'.set t c) := by
  obtain ⟨o, m, e, v⟩ := a.at_
  exact ⟨⟨o, m, by rw [List.getElem?_set_ne hn]; exact e, v⟩, by rw [List.length_set]; exact a.len, fun i hi n => by rw [List.getElem?_set_ne (by omega)]; exact a.same i hi n⟩
theorem Ev.get {s i : Nat} {S S' : St} {c : Cell} (a : Ev s S S') (n : i ≠ s) (h : S[i]? = some c) : S'[i]? = some c := (a.same i (List.getElem?_eq_some_iff.mp h).1 n).trans h
theorem cutOk_same (n : Nat) : ∀ (S S' : St), S.length ≤ S'.length → (∀ i, i < S.length → S'[i]? = S[i]? ∨ ∃ c, S'[i]? = some c ∧ c.lo n = true) → cutOk n S S' = true
  | [], S', _, _ => by unfold cutOk; rfl
  | a :: r, [], h, _ => by simp at h
  | a :: r, b :: t, h, q => by
    unfold cutOk
    rw [cutOk_same n r t (by simpa using h) fun i hi => by simpa using q (i + 1) (by simpa using hi), Bool.and_true]
    rcases q 0 (by simp) with z | ⟨c, z1, z2⟩
    · simp at z
      subst z
      rw [Cell.beq_self]; rfl
    · simp at z1
      subst z1
      rw [z2, Bool.or_true]
theorem lo_mkC (n : Nat) (o m : Int) : (mkC o m).lo n = true := by unfold mkC Cell.lo; simp
theorem Ev.cut {s : Nat} {S S' : St} (a : Ev s S S') (hs : s < S.length) : cutOk S.length S S' = true ∧ Dr s S (S'.take S.length) := by
  obtain ⟨o, m, e, v⟩ := a.at_
  refine ⟨cutOk_same _ S S' a.len fun i hi => ?_, o, m, v, ?_⟩
  · by_cases h : i = s
    · subst h; exact .inr ⟨_, e, lo_mkC _ _ _⟩
    · exact .inl (a.same i hi h)
  · apply List.ext_getElem?
    intro i
    by_cases hi : i < S.length
    · rw [List.getElem?_take_of_lt hi]
      by_cases h : s = i
      · subst h; rw [e, List.getElem?_set_self hs]
      · rw [List.getElem?_set_ne h, a.same i hi (Ne.symm h)]
    · rw [List.getElem?_eq_none (by rw [List.length_take]; omega), List.getElem?_eq_none (by rw [List.length_set]; omega)]
/-- leaving a def that draws -/
theorem c_cut {fn : Fn} {s : Nat} {S S' : St} {d e : D} {Q : D → St → Prop} {X : String → D → St → Prop} (hk : fn.keep = false) (ev : Ev s S S') (hs : s < S.length) (hf : D.frz S' S.length 40 d = some e) (h : ∀ T, Dr s S T → Q e T) : OK (leave fn S S' d) Q X := by
  obtain ⟨h1, h2⟩ := ev.cut hs
  unfold leave
  rw [hk]
  simp only [Bool.false_eq_true, if_false]
  unfold cutAt
  rw [if_pos h1, hf]
  exact w_ok (h _ h2)
theorem c_cut' {fn : Fn} {s : Nat} {S S' : St} {d : D} {Q : D → St → Prop} {X : String → D → St → Prop} (hk : fn.keep = false) (ev : Ev s S S') (hs : s < S.length) (lo : D.lo S.length d = true) (h : ∀ T, Dr s S T → Q d T) : OK (leave fn S S' d) Q X := c_cut hk ev hs (frz_lo _ _ lo) h
/-- S' is S with more behind it -/
structure Gr (S S' : St) : Prop where
  len : S.length ≤ S'.length
  same : ∀ i, i < S.length → S'[i]? = S[i]?
theorem Gr.refl {S : St} : Gr S S := ⟨Nat.le_refl _, fun _ _ => rfl⟩
theorem Gr.trans {S S' S'' : St} (a : Gr S S') (b : Gr S' S'') : Gr S S'' := ⟨Nat.le_trans a.len b.len, fun i hi => (b.same i (Nat.lt_of_lt_of_le hi a.len)).trans (a.same i hi)⟩
theorem Gr.push {S S' : St} (a : Gr S S') (X : St) : Gr S (S' ++ X) := ⟨by rw [List.length_append]; have := a.len; omega, fun i hi => by rw [List.getElem?_append_left (Nat.lt_of_lt_of_le hi a.len)]; exact a.same i hi⟩
theorem Gr.set {t : Nat} {S S' : St} {c : Cell} (a : Gr S S') (ht : S.length ≤ t) : Gr S (S'.set t c) := ⟨by rw [List.length_set]; exact a.len, fun i hi => by rw [List.getElem?_set_ne (by omega)]; exact a.same i hi⟩
theorem Gr.get {i : Nat} {S S' : St} {c : Cell} (a : Gr S S') (h : S[i]? = some c) : S'[i]? = some c := (a.same i (List.getElem?_eq_some_iff.mp h).1).trans h
theorem Gr.cut {S S' : St} (a : Gr S S') : cutOk S.length S S' = true ∧ S'.take S.length = S := by
  refine ⟨cutOk_same _ S S' a.len fun i hi => .inl (a.same i hi), ?_⟩
  apply List.ext_getElem?
  intro i
  by_cases hi : i < S.length
  · rw [List.getElem?_take_of_lt hi, a.same i hi]
  · rw [List.getElem?_eq_none (by rw [List.length_take]; omega), List.getElem?_eq_none (by omega)]
/-- leaving a def that leaves the store -/
theorem c_gr {fn : Fn} {S S' : St} {d e : D} {Q : D → St → Prop} {X : String → D → St → Prop} (hk : fn.keep = false) (ev : Gr S S') (hf : D.frz S' S.length 40 d = some e) (h : Q e S) : OK (leave fn S S' d) Q X := by
  obtain ⟨h1, h2⟩ := ev.cut
  unfold leave
  rw [hk]
  simp only [Bool.false_eq_true, if_false]
  unfold cutAt
  rw [if_pos h1, hf]
  refine w_ok ?_
  rw [h2]
  exact h
theorem c_gr' {fn : Fn} {S S' : St} {d : D} {Q : D → St → Prop} {X : String → D → St → Prop} (hk : fn.keep = false) (ev : Gr S S') (lo : D.lo S.length d = true) (h : Q d S) : OK (leave fn S S' d) Q X := c_gr hk ev (frz_lo _ _ lo) h
/-- a call, by the def's body -/
theorem c_def {P : Prog} {L : Nat} {f : String} {pos : List D} {kws : List (String × D)} {S : St} {fn : Fn} {ds : List D} {Q : D → St → Prop} {X : String → D → St → Prop} (hL : 1 ≤ L) (h : P.fn f = some fn) (hb : bindA fn pos kws = some ds)
    (q : FOK (evSs (P.ctx (L - 1)) fn.body (start fn ds) S) (fun _ S' => OK (leave fn S S' .non) Q X) (fun d S' => OK (leave fn S S' d) Q X) (fun c v _ S' => OK (leave fn S S' v) (fun u S'' => X c u S'') fun _ _ _ => False) NE NE) : OK (callF P L f pos kws S) Q X := by
  rw [show L = L - 1 + 1 by omega]
  exact c_body h hb q
theorem ix0 {S : St} {s : Nat} {o m : Int} (h : S[s]? = some (mkC o m)) : getIx S (.loc s) (.int 0) = some (.int o, S) := by
  simp [getIx, items, h, mkC, ixN]
theorem ix1 {S : St} {s : Nat} {o m : Int} (h : S[s]? = some (mkC o m)) : getIx S (.loc s) (.int 1) = some (.int m, S) := by
  simp [getIx, items, h, mkC, ixN]
theorem st0 {S : St} {s : Nat} {o m v : Int} (h : S[s]? = some (mkC o m)) : setIx S (.loc s) (.int 0) (.int v) = some (S.set s (mkC v m)) := by
  simp [setIx, h, mkC, ixN]
theorem st1 {S : St} {s : Nat} {o m v : Int} (h : S[s]? = some (mkC o m)) : setIx S (.loc s) (.int 1) (.int v) = some (S.set s (mkC o v)) := by
  simp [setIx, h, mkC, ixN]
theorem op_mod (S : St) (m : Bool) {i j : Int} (h : 0 < j) : op2 .mod m (.int i) (.int j) S = some (.int (i % j), S) := by show (if _ then _ else _) = _; rw [if_pos h]
theorem op_fdiv (S : St) (m : Bool) {i j : Int} (h : 0 < j) (h2 : j < 1073741824) : op2 .fdiv m (.int i) (.int j) S = some (.int (i / j), S) := by show (if _ then _ else _) = _; rw [if_pos ⟨h, h2⟩]
theorem op_mul (S : St) (m : Bool) {i j : Int} (h : i.natAbs.log2 < 4000000) (h2 : j.natAbs.log2 < 4000000) : op2 .mul m (.int i) (.int j) S = some (.int (i * j), S) := by show (if _ then _ else _) = _; rw [if_pos ⟨h, h2⟩]
theorem op_pow (S : St) (m : Bool) {i j : Int} (h : powOk i j = true) : op2 .pow m (.int i) (.int j) S = some (.int (i ^ j.toNat), S) := by show (if _ then _ else _) = _; rw [if_pos h]
theorem log_le {v b : Nat} (h : v < 2 ^ b) (hb : 0 < b) : v.log2 < b := by
  by_cases hv : v = 0
  · subst hv; rw [show Nat.log2 0 = 0 by decide]; exact hb
  · exact (Nat.log2_lt hv).mpr h
theorem draw_w {L : Nat} {S : St} {s : Nat} {n : Int} (hL : 1 ≤ L) (h : At S s) (h0 : 0 < n) (h1 : n < 1073741824) : OK (callF (P rep) L "_law_draw" [.loc s, .int n] [] S) (fun v S' => ∃ r, v = .int r ∧ 0 ≤ r ∧ r < n ∧ Dr s S S') NX := by
  obtain ⟨o, m, e, v⟩ := h
  have hlt := (List.getElem?_eq_some_iff.mp e).1
  refine c_def hL f__law_draw (ds := [.loc s, .int n]) rfl ?_
  have hst : start _law_draw [.loc s, .int n] = [some (.loc s), some (.int n), none] := rfl
  rw [hst]
  by_cases hon : n ≤ o
  · have d : Dr s S (S.set s (mkC (o / n) m)) := ⟨_, _, ⟨Int.ediv_nonneg v.po (by omega), v.pm, v.pt⟩, rfl⟩
    have run : evSs ((P rep).ctx (L - 1)) _law_draw.body [some (.loc s), some (.int n), none] S = .rt (.int (o % n)) (S.set s (mkC (o / n) m)) := by
      simp [_law_draw, ix0 e, hon, op_mod S false h0, op_fdiv S false h0 h1, st0 e]
    rw [run]
    refine f_rt ?_
    and_intros; exact c_cut' rfl (d.ev hlt) hlt (by simp) fun T hT => ⟨_, rfl, Int.emod_nonneg _ (by omega), Int.emod_lt_of_pos _ h0, hT⟩
  · have hm := v.pm
    have ht := v.pt
    generalize em' : (m * 48271 + 5087) % 2147483647 = m'
    have m0 : 0 ≤ m' := by rw [← em']; exact Int.emod_nonneg _ (by decide)
    have m1 : m' < 2147483647 := by rw [← em']; exact Int.emod_lt_of_pos _ (by decide)
    have d : Dr s S (S.set s (mkC o m')) := ⟨_, _, ⟨v.po, m0, m1⟩, rfl⟩
    have e' : (S.set s (mkC o m'))[s]? = some (mkC o m') := List.getElem?_set_self hlt
    have l1 : m.natAbs.log2 < 4000000 := Nat.lt_of_lt_of_le (log_le (b := 31) (by omega) (by decide)) (by decide)
    have l2 : m'.natAbs.log2 < 64 := Nat.lt_of_lt_of_le (log_le (b := 31) (by omega) (by decide)) (by decide)
    have l3 : powOk m' 5 = true := by unfold powOk; simp [l2]
    have l4 : (48271 : Int).natAbs.log2 < 4000000 := by decide
    have run : evSs ((P rep).ctx (L - 1)) _law_draw.body [some (.loc s), some (.int n), none] S = .rt (.int ((m' ^ 5 % 1000000007 / 23) % n)) (S.set s (mkC o m')) := by
      simp [_law_draw, ix0 e, ix1 e, hon, op_mul S false l1 l4, op_mod, em', st1 e, ix1 e', op_pow _ false l3, op_fdiv, op_mod _ false h0]
    rw [run]
    refine f_rt ?_
    and_intros; exact c_cut' rfl (d.ev hlt) hlt (by simp) fun T hT => ⟨_, rfl, Int.emod_nonneg _ (by omega), Int.emod_lt_of_pos _ h0, hT⟩
/-- a pick -/
theorem pick_w {L : Nat} {S : St} {s : Nat} {T : D} {n : Nat} (Pv : D → Prop) (hL : 2 ≤ L) (h : At S s) (h0 : 0 < n) (h1 : n < 1000000) (hx : T.isX = false)
    (hl : ∀ C : Ctx, bi C "len" false [T] S = some (.int n, S)) (hi : ∀ (r : Int) (S' : St), Dr s S S' → 0 ≤ r → r < n → ∃ v, getIx S' T (.int r) = some (v, S') ∧ Pv v ∧ D.lo S.length v = true) :
    OK (callF (P rep) L "_law_pick" [.loc s, T] [] S) (fun v S' => Pv v ∧ Dr s S S') NX := by
  refine c_defb (by omega) f__law_pick rfl s__law_pick b__law_pick ?_
  and_intros
  and_intros; refine w_o (hl _) ?_
  and_intros
  refine (draw_w (by omega) h (by omega) (by omega)).to fun v S' ⟨r, e, r0, r1, d⟩ => ?_
  subst e
  obtain ⟨v, e, pv, lo⟩ := hi r S' d r0 r1
  and_intros; refine w_o e ?_
  and_intros; exact c_cut' rfl (d.ev h.lt) h.lt lo fun T hT => ⟨pv, hT⟩
theorem pick_lst {L : Nat} {S : St} {s : Nat} {xs : List D} (hL : 2 ≤ L) (h : At S s) (ne : xs ≠ []) (hn : xs.length < 1000000) (lo : ∀ x ∈ xs, D.lo S.length x = true) :
    OK (callF (P rep) L "_law_pick" [.loc s, .lst xs] [] S) (fun v S' => v ∈ xs ∧ Dr s S S') NX := by
  refine pick_w (fun v => v ∈ xs) hL h (List.length_pos_iff.mpr ne) hn rfl (fun C => rfl) fun r S' _ r0 r1 => ?_
  have hr : r.toNat < xs.length := by omega
  refine ⟨xs[r.toNat], ?_, List.getElem_mem hr, lo _ (List.getElem_mem hr)⟩
  simp [getIx, items, ixN, r0, hr]
theorem pick_tup {L : Nat} {S : St} {s : Nat} {xs : List D} (hL : 2 ≤ L) (h : At S s) (ne : xs ≠ []) (hn : xs.length < 1000000) (lo : ∀ x ∈ xs, D.lo S.length x = true) :
    OK (callF (P rep) L "_law_pick" [.loc s, .tup xs] [] S) (fun v S' => v ∈ xs ∧ Dr s S S') NX := by
  refine pick_w (fun v => v ∈ xs) hL h (List.length_pos_iff.mpr ne) hn rfl (fun C => rfl) fun r S' _ r0 r1 => ?_
  have hr : r.toNat < xs.length := by omega
  refine ⟨xs[r.toNat], ?_, List.getElem_mem hr, lo _ (List.getElem_mem hr)⟩
  simp [getIx, items, ixN, r0, hr]
theorem pick_str {L : Nat} {S : St} {s : Nat} {x : Txt} (hL : 2 ≤ L) (h : At S s) (ne : x ≠ []) (hn : x.length < 1000000) :
    OK (callF (P rep) L "_law_pick" [.loc s, .str x] [] S) (fun v S' => (∃ c, v = .str [c] ∧ c ∈ x) ∧ Dr s S S') NX := by
  refine pick_w (fun v => ∃ c, v = .str [c] ∧ c ∈ x) hL h (List.length_pos_iff.mpr ne) hn rfl (fun C => rfl) fun r S' _ r0 r1 => ?_
  have hr : r.toNat < x.length := by omega
  refine ⟨.str [x[r.toNat]], ?_, ⟨_, rfl, List.getElem_mem hr⟩, by simp⟩
  simp [getIx, ixN, r0, hr]
end PM
set_option autoImplicit false
set_option linter.all false
set_option maxRecDepth 100000
set_option maxHeartbeats 1000000
/-! QSrc: the source of the draws. -/
namespace PM
local macro_rules | `(tactic| and_intros) => `(tactic| repeat (first | with_reducible refine f_1 ?_ | with_reducible refine f_0 ?_ | ((with_reducible refine w_var ?_; (repeat (with_reducible refine w_getS ?_)); with_reducible refine w_get0 (by (first | rfl | assumption | (simp only [isX_non, isX_bl, isX_int, isX_str, isX_tup, isX_lst, isX_dct, isX_ins, isX_err, isX_loc]; done) | simp)) ?_)) | with_reducible refine w_cst ?_ | with_reducible refine w_l1 ?_ | with_reducible refine w_l0 ?_ | with_reducible refine w_op ?_ | with_reducible refine w_call0 ?_ | with_reducible refine w_call ?_ | with_reducible refine w_ok ?_ | with_reducible refine w_trb ?_ | with_reducible refine w_tru ?_ | with_reducible refine w_ix ?_ | with_reducible refine w_sf ?_ | with_reducible refine w_s0 ?_ | with_reducible refine w_bi ?_ | with_reducible refine w_glb rfl ?_ | with_reducible refine f_nm ?_ | with_reducible refine f_ite ?_ | with_reducible refine f_ret ?_ | with_reducible refine f_ex ?_ | with_reducible refine f_ift rfl ?_ | with_reducible refine f_iff Bool.false_ne_true ?_ | with_reducible refine f_ift trivial ?_ | with_reducible refine f_iff id ?_ | with_reducible refine w_not ?_ | with_reducible refine w_bop ?_ | with_reducible refine w_b1 ?_ | with_reducible refine w_b2 ?_ | with_reducible refine w_bR1 ?_ | with_reducible refine w_bRt ?_ | with_reducible refine w_bRf ?_ | with_reducible refine w_isi ?_ | with_reducible refine w_mkx rfl ?_ | with_reducible refine w_isx ?_ | with_reducible refine w_chn ?_ | with_reducible refine w_meth ?_ | with_reducible refine w_fld ?_ | with_reducible refine w_sl ?_ | with_reducible refine w_rev ?_ | with_reducible refine w_o0 ?_ | with_reducible refine w_o1 ?_ | with_reducible refine w_optI ?_ | with_reducible refine w_comp ?_ | with_reducible refine w_ite ?_ | with_reducible refine f_rse ?_ | with_reducible refine f_skip ?_ | with_reducible refine f_brk ?_ | with_reducible refine f_cnt ?_ | with_reducible refine f_fset ?_ | with_reducible refine f_iset ?_ | with_reducible refine w_t0 ?_ | with_reducible refine w_t1 ?_ | with_reducible refine w_tup ?_ | with_reducible refine w_lst ?_ | with_reducible refine w_lstT ?_ | with_reducible refine w_st ?_ | with_reducible refine w_dsp ?_ | with_reducible refine w_bm ?_ | with_reducible refine f_tp ?_ | with_reducible refine f_loop ?_ | with_reducible refine f_tri ?_ | with_reducible refine w_le (by (first | assumption | (rw [sizeMax]; (try simp only [List.length_cons, List.length_nil, List.length_append, List.length_map, List.length_reverse]); omega))) ?_ | with_reducible refine w_tp2 ?_ | with_reducible refine w_tp3 ?_ | with_reducible refine f_whl ?_ | with_reducible refine p_ift rfl ?_ | with_reducible refine p_iff Bool.false_ne_true ?_ | with_reducible refine p_ift trivial ?_ | with_reducible refine w_ift rfl ?_ | with_reducible refine w_iff Bool.false_ne_true ?_ | with_reducible refine w_ift trivial ?_ | (dsimp only [set_zero, set_succ, not_t, not_f, wipe])))
open PM.I
variable {rep : D → Txt}
def srcB : List PM.S := [(.set (.nm 2) (.op .add false (.op .mod false (.bi "int" false [(.op .pow false (.bi "int" false [(.op .add false (.op .mul false (.var 2) (.cst (.int 60013))) (.bi "int" false [(.var 3)]))]) (.cst (.int 3)))]) (.cst (.int 2147483563))) (.cst (.int 1))))]
theorem pow_log {i m : Int} (hi : i.natAbs.log2 < 1048576) (m0 : 0 ≤ m) (m1 : m < 2147483647) : powOk (m * 60013 + i) 3 = true := by
  have h1 : i.natAbs < 2 ^ 1048576 := by
    by_cases h : i.natAbs = 0
    · rw [h]; exact Nat.pow_pos (by decide)
    · exact (Nat.log2_lt h).mp hi
  have h2 : (m * 60013 + i).natAbs < 2 ^ 1048577 := by
    have e : 2 ^ 1048577 = 2 * 2 ^ 1048576 := by rw [show 1048577 = 1048576 + 1 from rfl, Nat.pow_succ, Nat.mul_comm]
    have e2 : (2 : Nat) ^ 100 ≤ 2 ^ 1048576 := Nat.pow_le_pow_right (by decide) (by omega)
    have e3 : (m * 60013).natAbs < 2 ^ 100 := by
      have : (m * 60013).natAbs ≤ 2147483647 * 60013 := by omega
      exact Nat.lt_of_le_of_lt this (by decide)
    have e4 := Int.natAbs_add_le (m * 60013) i
    rw [e]
    generalize 2 ^ 1048576 = B at *
    omega
  have h3 : (m * 60013 + i).natAbs.log2 < 4000000 := Nat.lt_trans (log_le h2 (by omega)) (by omega)
  unfold powOk
  simp [h3]
theorem src_loop {C : Ctx} {ok : St → Bool} {S : St} {o0 o1 o4 : Option D} (hok : ok S = true) : ∀ (ns : List Int) (m : Int) (o : Option D), (∀ i ∈ ns, i.natAbs.log2 < 1048576) → 0 ≤ m → m < 2147483647 →
    ∃ m' o', loopF ok (loopStep C (.nm 3) srcB) (ns.map .int) [o0, o1, some (.int m), o, o4] S = .nx [o0, o1, some (.int m'), o', o4] S ∧ 0 ≤ m' ∧ m' < 2147483647
  | [], m, o, _, h0, h1 => ⟨m, o, by show loopF ok _ [] _ S = _; unfold loopF; rw [if_pos hok], h0, h1⟩
  | i :: r, m, o, h, h0, h1 => by
    have pk := pow_log (h i (by simp)) h0 h1
    have e1 : op2 .mul false (.int m) (.int 60013) S = some (.int (m * 60013), S) := op_mul S false (Nat.lt_of_lt_of_le (log_le (b := 31) (by omega) (by decide)) (by decide)) (by decide)
    have e2 := op_pow S false pk
    have g0 : 0 ≤ (m * 60013 + i) ^ (3 : Int).toNat % 2147483563 := Int.emod_nonneg _ (by decide)
    have g1 : (m * 60013 + i) ^ (3 : Int).toNat % 2147483563 < 2147483563 := Int.emod_lt_of_pos _ (by decide)
    have st : loopStep C (.nm 3) srcB (.int i) [o0, o1, some (.int m), o, o4] S = .nx [o0, o1, some (.int ((m * 60013 + i) ^ (3 : Int).toNat % 2147483563 + 1)), some (.int i), o4] S := by
      unfold loopStep srcB
      have e3 := op_mod S false (i := (m * 60013 + i) ^ (3 : Int).toNat) (j := 2147483563) (by decide)
      generalize (m * 60013 + i) ^ (3 : Int).toNat = z at *
      simp [e1, e2, e3]
    obtain ⟨m', o', w, w0, w1⟩ := src_loop hok r ((m * 60013 + i) ^ (3 : Int).toNat % 2147483563 + 1) (some (.int i)) (fun j hj => h j (List.mem_cons_of_mem _ hj)) (by omega) (by omega)
    refine ⟨m', o', ?_, w0, w1⟩
    show loopF ok _ (.int i :: r.map .int) _ S = _
    rw [loopF, if_pos hok, st]
    exact w
theorem source_w {L : Nat} {S : St} {ns : List Int} {st : Nat} (hL : 1 ≤ L) (h : ∀ i ∈ ns, i.natAbs.log2 < 1048576) (hst : st ≤ 100) : OK (callF (P rep) L "_law_source" [.lst (ns.map .int), .int st] [] S) (fun v S' => v = .loc S.length ∧ ∃ o m, Vd o m ∧ S' = S ++ [mkC o m]) NX := by
  refine c_defb (by omega) f__law_source rfl s__law_source b__law_source ?_
  and_intros
  and_intros; refine w_o (op_add_int _ _ _ _) ?_
  and_intros
  refine ⟨_, walk_lst _ _, ?_⟩
  obtain ⟨m', o', w, w0, w1⟩ := src_loop (C := (P rep).ctx (L - 1)) (ok := fun S' => ([D.lst (ns.map .int)] : List D).all (sameAt S S')) (S := S) (o0 := some (.lst (ns.map .int))) (o1 := some (.int st)) (o4 := none) rfl ns (91 + st) none h (by omega) (by omega)
  unfold srcB at w
  rw [w]
  refine f_nx ?_
  and_intros
  and_intros; refine w_o (bi_len_lst _ _ _ _) ?_
  rw [List.length_map]
  and_intros; refine w_o (op_lt_int _ _ _ _) ?_
  have fin : ∀ o : Int, 0 ≤ o → OK (leave _law_source S (S ++ [.lst [.int o, .int m']]) (.loc S.length)) (fun v S' => v = .loc S.length ∧ ∃ o m, Vd o m ∧ S' = S ++ [mkC o m]) NX := fun o o0 => c_keep rfl ⟨rfl, o, m', ⟨o0, w0, w1⟩, rfl⟩
  and_intros; refine w_bR (fun h0 => ?_) fun h0 => ?_
  · have hl : st < ns.length := by simp at h0; omega
    have gi : getIx S (.lst (ns.map .int)) (.int st) = some (.int ns[st], S) := by
      simp [getIx, items, ixN, hl]
    have pw : op2 .pow false (.int 10) (.int 18) S = some (.int 1000000000000000000, S) := by rw [op_pow S false (by decide)]; rfl
    and_intros
    and_intros; refine w_o gi ?_
    and_intros
    and_intros; refine w_o pw ?_
    and_intros; refine w_o (op_ge_int _ _ _ _) ?_
    and_intros
    and_intros; refine f_if (fun h1 => ?_) fun h1 => ?_
    · have := of_decide_eq_true h1
      and_intros
      and_intros; refine w_o gi ?_
      and_intros
      and_intros; refine w_o pw ?_
      and_intros; refine w_o (op_sub_int _ _ _ _) ?_
      and_intros
      exact fin _ (by omega)
    · and_intros
      exact fin _ (by omega)
  · rw [h0]
    and_intros
    exact fin _ (by omega)
end PM
set_option autoImplicit false
set_option linter.all false
set_option maxRecDepth 100000
set_option maxHeartbeats 1000000
/-! R61a: errors made, their kinds, what they store. -/
namespace PM
local macro_rules | `(tactic| and_intros) => `(tactic| repeat (first | with_reducible refine f_1 ?_ | with_reducible refine f_0 ?_ | ((with_reducible refine w_var ?_; (repeat (with_reducible refine w_getS ?_)); with_reducible refine w_get0 (by (first | rfl | assumption | (simp only [isX_non, isX_bl, isX_int, isX_str, isX_tup, isX_lst, isX_dct, isX_ins, isX_err, isX_loc]; done) | simp)) ?_)) | with_reducible refine w_cst ?_ | with_reducible refine w_l1 ?_ | with_reducible refine w_l0 ?_ | with_reducible refine w_op ?_ | with_reducible refine w_call0 ?_ | with_reducible refine w_call ?_ | with_reducible refine w_ok ?_ | with_reducible refine w_trb ?_ | with_reducible refine w_tru ?_ | with_reducible refine w_ix ?_ | with_reducible refine w_sf ?_ | with_reducible refine w_s0 ?_ | with_reducible refine w_bi ?_ | with_reducible refine w_glb rfl ?_ | with_reducible refine f_nm ?_ | with_reducible refine f_ite ?_ | with_reducible refine f_ret ?_ | with_reducible refine f_ex ?_ | with_reducible refine f_ift rfl ?_ | with_reducible refine f_iff Bool.false_ne_true ?_ | with_reducible refine f_ift trivial ?_ | with_reducible refine f_iff id ?_ | with_reducible refine w_not ?_ | with_reducible refine w_bop ?_ | with_reducible refine w_b1 ?_ | with_reducible refine w_b2 ?_ | with_reducible refine w_bR1 ?_ | with_reducible refine w_bRt ?_ | with_reducible refine w_bRf ?_ | with_reducible refine w_isi ?_ | with_reducible refine w_mkx rfl ?_ | with_reducible refine w_isx ?_ | with_reducible refine w_chn ?_ | with_reducible refine w_meth ?_ | with_reducible refine w_fld ?_ | with_reducible refine w_sl ?_ | with_reducible refine w_rev ?_ | with_reducible refine w_o0 ?_ | with_reducible refine w_o1 ?_ | with_reducible refine w_optI ?_ | with_reducible refine w_comp ?_ | with_reducible refine w_ite ?_ | with_reducible refine f_rse ?_ | with_reducible refine f_skip ?_ | with_reducible refine f_brk ?_ | with_reducible refine f_cnt ?_ | with_reducible refine f_fset ?_ | with_reducible refine f_iset ?_ | with_reducible refine w_t0 ?_ | with_reducible refine w_t1 ?_ | with_reducible refine w_tup ?_ | with_reducible refine w_lst ?_ | with_reducible refine w_lstT ?_ | with_reducible refine w_st ?_ | with_reducible refine w_dsp ?_ | with_reducible refine w_bm ?_ | with_reducible refine f_tp ?_ | with_reducible refine f_loop ?_ | with_reducible refine f_tri ?_ | with_reducible refine w_le (by (first | assumption | (rw [sizeMax]; (try simp only [List.length_cons, List.length_nil, List.length_append, List.length_map, List.length_reverse]); omega))) ?_ | with_reducible refine w_tp2 ?_ | with_reducible refine w_tp3 ?_ | with_reducible refine f_whl ?_ | with_reducible refine p_ift rfl ?_ | with_reducible refine p_iff Bool.false_ne_true ?_ | with_reducible refine p_ift trivial ?_ | with_reducible refine w_ift rfl ?_ | with_reducible refine w_iff Bool.false_ne_true ?_ | with_reducible refine w_ift trivial ?_ | (dsimp only [set_zero, set_succ, not_t, not_f, wipe])))
open PM.I
variable {rep : D → Txt}
def N11 : List String := ["BadSigns", "BadTree", "BadForm", "BadValues", "HasMore", "NotThere", "BadText", "BadForms", "NotPlain", "BadCondition", "TooFar"]
abbrev errsD (d : D) : D := .lst (N11.map fun c => .err c d)
theorem lo_errs {n : Nat} {d : D} (h : D.lo n d = true) : D.lo n (errsD d) = true := by
  unfold errsD N11
  simp [D.lo, D.loL, h]
theorem by_place_e {S : St} {d : D} {L : Nat} (hL : 1 ≤ L) (hx : d.isX = false) (lo : D.lo S.length d = true) : callF (P rep) L "_law_by_place" [d] [] S = .ok (errsD d) S := by
  refine OK.to_eq ?_
  refine c_defb (by omega) f__law_by_place rfl s__law_by_place b__law_by_place ?_
  and_intros
  and_intros; refine w_o (op_add_lst _ _ (by (first | assumption | (rw [sizeMax]; (try simp only [List.length_cons, List.length_nil, List.length_append, List.length_map, List.length_reverse]); omega)))) ?_
  and_intros; exact c_pure rfl (lo_errs lo) ⟨rfl, rfl⟩
theorem by_name_e {S : St} {d : D} {L : Nat} (hL : 1 ≤ L) (hx : d.isX = false) (lo : D.lo S.length d = true) : callF (P rep) L "_law_by_name" [d] [] S = .ok (errsD d) S := by
  refine OK.to_eq ?_
  refine c_defb (by omega) f__law_by_name rfl s__law_by_name b__law_by_name ?_
  and_intros
  and_intros; refine w_o (op_add_lst _ _ (by (first | assumption | (rw [sizeMax]; (try simp only [List.length_cons, List.length_nil, List.length_append, List.length_map, List.length_reverse]); omega)))) ?_
  and_intros
  and_intros; refine w_o (op_add_lst _ _ (by (first | assumption | (rw [sizeMax]; (try simp only [List.length_cons, List.length_nil, List.length_append, List.length_map, List.length_reverse]); omega)))) ?_
  and_intros; exact c_pure rfl (lo_errs lo) ⟨rfl, rfl⟩
abbrev kindsD (c : String) : D := .lst (N11.map fun n => .bl ([n].contains c))
theorem kinds_e {S : St} {c : String} {d : D} {L : Nat} (hL : 1 ≤ L) : callF (P rep) L "_law_kinds" [.err c d] [] S = .ok (kindsD c) S := by
  refine OK.to_eq ?_
  refine c_defb (by omega) f__law_kinds rfl s__law_kinds b__law_kinds ?_
  and_intros
  repeat (refine ⟨_, _, rfl, ?_⟩; and_intros)
  refine w_o (op_add_lst _ _ (by (first | assumption | (rw [sizeMax]; (try simp only [List.length_cons, List.length_nil, List.length_append, List.length_map, List.length_reverse]); omega)))) ?_
  and_intros
  repeat (refine ⟨_, _, rfl, ?_⟩; and_intros)
  refine w_o (op_add_lst _ _ (by (first | assumption | (rw [sizeMax]; (try simp only [List.length_cons, List.length_nil, List.length_append, List.length_map, List.length_reverse]); omega)))) ?_
  and_intros
  repeat (refine ⟨_, _, rfl, ?_⟩; and_intros)
  refine w_o (op_add_lst _ _ (by (first | assumption | (rw [sizeMax]; (try simp only [List.length_cons, List.length_nil, List.length_append, List.length_map, List.length_reverse]); omega)))) ?_
  and_intros; exact c_pure rfl (by rfl) ⟨rfl, rfl⟩
theorem xat_value : ∀ c ∈ N11.take 7, PM.I.xat.lookup c = some "value" := by decide
theorem xat_pos : ∀ c ∈ (N11.drop 7).take 3, PM.I.xat.lookup c = some "position" := by decide
theorem stored_e {S : St} {d : D} {L : Nat} (hL : 1 ≤ L) (hx : d.isX = false) (lo : D.lo S.length d = true) : callF (P rep) L "_law_stored" [errsD d] [] S = .ok (.lst (List.replicate 11 d)) S := by
  refine OK.to_eq ?_
  refine c_defb (by omega) f__law_stored rfl s__law_stored b__law_stored ?_
  and_intros
  and_intros; refine w_o (a := D.lst ((N11.take 7).map fun c => .err c d)) (S := S) rfl ?_
  and_intros
  refine w_map (N11.take 7) (fun c => D.err c d) (fun _ => d) rfl rfl (by decide) (fun c hc => ?_) ?_
  · refine w_step rfl ?_
    and_intros
    refine OK.eq (a := d) (S := S) ?_ ⟨rfl, rfl⟩
    show (if (P rep).xat c = some "value" then _ else _) = _
    exact if_pos (xat_value c hc)
  and_intros; refine w_o (a := D.lst (((N11.drop 7).take 3).map fun c => .err c d)) (S := S) rfl ?_
  and_intros
  refine w_map ((N11.drop 7).take 3) (fun c => D.err c d) (fun _ => d) rfl rfl (by decide) (fun c hc => ?_) ?_
  · refine w_step rfl ?_
    and_intros
    refine OK.eq (a := d) (S := S) ?_ ⟨rfl, rfl⟩
    show (if (P rep).xat c = some "position" then _ else _) = _
    exact if_pos (xat_pos c hc)
  and_intros; refine w_o (op_add_lst _ _ (by simp [N11, sizeMax])) ?_
  and_intros
  and_intros; refine w_o (a := D.err "TooFar" d) (S := S) rfl ?_
  and_intros
  refine OK.eq (a := d) (S := S) rfl ?_
  and_intros; refine w_o (op_add_lst _ _ (by simp [N11, sizeMax])) ?_
  and_intros; exact c_pure rfl (by simp [D.lo, D.loL, N11, lo]) ⟨rfl, rfl⟩
end PM
set_option autoImplicit false
set_option linter.all false
set_option maxRecDepth 100000
set_option maxHeartbeats 1000000
/-! QMix: mixed lists, words. -/
namespace PM
open PM.I
variable {rep : D → Txt}
theorem perm_pop {xs ys : List D} {i : Nat} (h : i < xs.length) : ((ys ++ [xs[i]]) ++ xs.eraseIdx i).Perm (ys ++ xs) := by
  rw [List.append_assoc]
  refine List.Perm.append_left ys ?_
  have : ∀ (l : List D) (i : Nat) (h : i < l.length), (l[i] :: l.eraseIdx i).Perm l := by
    intro l
    induction l with
    | nil => intro i h; simp at h
    | cons a r ih =>
      intro i h
      cases i with
      | zero => simp
      | succ j =>
        simp only [List.getElem_cons_succ, List.eraseIdx_cons_succ]
        exact (List.Perm.swap a _ _).trans ((ih j (by simpa using h)).cons a)
  exact this xs i h
/-- things that are walked or copied: their items, whatever a draw does -/
structure Its (s : Nat) (S : St) (T : D) (xs : List D) : Prop where
  x : T.isX = false
  it : ∀ S', Ev s S S' → items S' T = some xs
theorem its_lst {s : Nat} {S : St} (xs : List D) : Its s S (.lst xs) xs := ⟨rfl, fun _ _ => rfl⟩
theorem its_tup {s : Nat} {S : St} (xs : List D) : Its s S (.tup xs) xs := ⟨rfl, fun _ _ => rfl⟩
theorem its_loc {s n : Nat} {S : St} {xs : List D} (h : S[n]? = some (.lst xs)) (hn : n ≠ s) : Its s S (.loc n) xs := ⟨rfl, fun S' e => items_loc (e.get hn h)⟩
theorem list_its {C : Ctx} {S : St} {T : D} {xs : List D} (h : items S T = some xs) : bi C "list" true [T] S = some (.loc S.length, S ++ [.lst xs]) := by
  unfold bi; simp only; rw [h]; rfl
theorem walk_rng' {S : St} {n : Int} (h0 : -1000 ≤ n) (h1 : n ≤ 1000000) : walk S .rng [.int n] = some (rngL 0 n) := walk_rng S (by unfold rngOk; simp; omega)
theorem rng_len (n : Nat) : (rngL 0 (n : Int)).length = n := by unfold rngL; simp
def letT : Txt := [97, 98, 99, 100, 101, 102, 103, 104, 105, 106, 107, 108, 109, 110, 111, 112, 113, 114, 115, 116, 117, 118, 119, 120, 121, 122]
def isNameT (x : Txt) : Bool := decide (1 ≤ x.length) && decide (x.length ≤ 8) && x.all fun c => letT.contains c
end PM
set_option autoImplicit false
set_option linter.all false
set_option maxRecDepth 100000
set_option maxHeartbeats 1000000
/-! R61b: one thing looked at; the law. -/
namespace PM
local macro_rules | `(tactic| and_intros) => `(tactic| repeat (first | with_reducible refine f_1 ?_ | with_reducible refine f_0 ?_ | ((with_reducible refine w_var ?_; (repeat (with_reducible refine w_getS ?_)); with_reducible refine w_get0 (by (first | rfl | assumption | (simp only [isX_non, isX_bl, isX_int, isX_str, isX_tup, isX_lst, isX_dct, isX_ins, isX_err, isX_loc]; done) | simp)) ?_)) | with_reducible refine w_cst ?_ | with_reducible refine w_l1 ?_ | with_reducible refine w_l0 ?_ | with_reducible refine w_op ?_ | with_reducible refine w_call0 ?_ | with_reducible refine w_call ?_ | with_reducible refine w_ok ?_ | with_reducible refine w_trb ?_ | with_reducible refine w_tru ?_ | with_reducible refine w_ix ?_ | with_reducible refine w_sf ?_ | with_reducible refine w_s0 ?_ | with_reducible refine w_bi ?_ | with_reducible refine w_glb rfl ?_ | with_reducible refine f_nm ?_ | with_reducible refine f_ite ?_ | with_reducible refine f_ret ?_ | with_reducible refine f_ex ?_ | with_reducible refine f_ift rfl ?_ | with_reducible refine f_iff Bool.false_ne_true ?_ | with_reducible refine f_ift trivial ?_ | with_reducible refine f_iff id ?_ | with_reducible refine w_not ?_ | with_reducible refine w_bop ?_ | with_reducible refine w_b1 ?_ | with_reducible refine w_b2 ?_ | with_reducible refine w_bR1 ?_ | with_reducible refine w_bRt ?_ | with_reducible refine w_bRf ?_ | with_reducible refine w_isi ?_ | with_reducible refine w_mkx rfl ?_ | with_reducible refine w_isx ?_ | with_reducible refine w_chn ?_ | with_reducible refine w_meth ?_ | with_reducible refine w_fld ?_ | with_reducible refine w_sl ?_ | with_reducible refine w_rev ?_ | with_reducible refine w_o0 ?_ | with_reducible refine w_o1 ?_ | with_reducible refine w_optI ?_ | with_reducible refine w_comp ?_ | with_reducible refine w_ite ?_ | with_reducible refine f_rse ?_ | with_reducible refine f_skip ?_ | with_reducible refine f_brk ?_ | with_reducible refine f_cnt ?_ | with_reducible refine f_fset ?_ | with_reducible refine f_iset ?_ | with_reducible refine w_t0 ?_ | with_reducible refine w_t1 ?_ | with_reducible refine w_tup ?_ | with_reducible refine w_lst ?_ | with_reducible refine w_lstT ?_ | with_reducible refine w_st ?_ | with_reducible refine w_dsp ?_ | with_reducible refine w_bm ?_ | with_reducible refine f_tp ?_ | with_reducible refine f_loop ?_ | with_reducible refine f_tri ?_ | with_reducible refine w_le (by (first | assumption | (rw [sizeMax]; (try simp only [List.length_cons, List.length_nil, List.length_append, List.length_map, List.length_reverse]); omega))) ?_ | with_reducible refine w_tp2 ?_ | with_reducible refine w_tp3 ?_ | with_reducible refine f_whl ?_ | with_reducible refine p_ift rfl ?_ | with_reducible refine p_iff Bool.false_ne_true ?_ | with_reducible refine p_ift trivial ?_ | with_reducible refine w_ift rfl ?_ | with_reducible refine w_iff Bool.false_ne_true ?_ | with_reducible refine w_ift trivial ?_ | (dsimp only [set_zero, set_succ, not_t, not_f, wipe])))
open PM.I
variable {rep : D → Txt}
def spotsD (i : Nat) : D := .lst ((List.range 11).map fun (s : Nat) => .bl ((s : Int) == (i : Int)))
theorem kinds_spots : ∀ i < 11, D.eqv (kindsD (N11.getD i "")) (spotsD i) = true := by decide
theorem kinds_gd (c : String) : gd 1 (kindsD c) = true := rfl
theorem spots_gd (i : Nat) : gd 1 (spotsD i) = true := rfl
def allX : List String := ["BadSigns", "BadTree", "BadForm", "BadForms", "BadValues", "NotPlain", "HasMore", "BadCondition", "NotThere", "TooFar", "BadText"]
theorem all_x : ∀ i < 11, allX.contains (N11.getD i "") = true := by decide
def errB : List PM.S := [(.ite (.bop false [(.not (.isx (.var 7) "FormError" allX)), (.not (.isx (.var 7) "ValueError" allX))]) [(.ret (.cst (.bl false)))] []), (.ite (.op .ne false (.call "_law_kinds" [(.var 7)] []) (.comp false [8] (.nm 8) .rng [(.cst (.int 11))] [] (.op .eq false (.var 8) (.var 6)))) [(.ret (.cst (.bl false)))] [])]
theorem err_step {S : St} {L : Nat} (hL : 2 ≤ L) {d : D} {i : Nat} (hi : i < 11) {o0 o1 o2 o3 o4 o5 o6 o7 o8 : Option D} {N B K : Env → St → Prop} {T' : D → St → Prop} {X : String → D → Env → St → Prop} (hN : ∀ o6 o7 o8, N [o0, o1, o2, o3, o4, o5, o6, o7, o8] S) :
    FOK (loopStep ((P rep).ctx L) (.tp [6, 7]) errB (.tup [.int i, .err (N11.getD i "") d]) [o0, o1, o2, o3, o4, o5, o6, o7, o8] S) N T' X B K := by
  unfold loopStep errB
  rw [bind_tp2, ofO_some]
  and_intros
  refine ⟨_, _, rfl, ?_⟩
  rw [all_x i hi]
  and_intros
  refine ⟨_, _, rfl, ?_⟩
  rw [all_x i hi]
  and_intros
  and_intros; refine OK.eq (kinds_e (by omega)) ?_
  and_intros
  refine w_map (List.range 11) (fun (s : Nat) => D.int s) (fun (s : Nat) => D.bl ((s : Int) == (i : Int))) (by rw [walk_rng' (by omega) (by omega)]; rfl) rfl (by simp [sizeMax]) (fun s hs => ?_) ?_
  · refine w_step rfl ?_
    and_intros; refine w_o (op_eq_int _ _ _ _) ?_
    (first | exact ⟨rfl, rfl⟩ | exact ⟨rfl, trivial⟩ | exact ⟨trivial, rfl⟩ | exact ⟨trivial, trivial⟩ | trivial)
  and_intros; refine w_o (op_ne_dp _ _ (gd_dp (kinds_gd _) (by decide)) (gd_dp (n := 1) (d := .lst ((List.range 11).map fun (s : Nat) => .bl ((s : Int) == (i : Int)))) (spots_gd i) (by decide))) ?_
  have ks := kinds_spots i hi
  unfold spotsD at ks
  rw [ks]
  and_intros
  exact hN _ _ _
/-- the things' places, after n changes -/
structure Ts (s a n : Nat) (S : St) : Prop where
  at_ : At S s
  la : ∃ i, i ≤ n ∧ S[a]? = some (.lst (.int 5 :: List.replicate i (.int 0)))
  lb : ∃ i, i ≤ n ∧ S[a + 1]? = some (.lst (.str [97] :: .non :: List.replicate i (.int 0)))
  lc : S[a + 2]? = some (.dct false [(.inr [97], .int 1)]) ∨ S[a + 2]? = some (.dct false [(.inr [97], .int 1), (.inr [108, 97, 116, 101], .int 0)])
  lt : s < a
theorem Ts.dr {s a n : Nat} {S S' : St} (h : Ts s a n S) (d : Dr s S S') : Ts s a n S' :=
  ⟨d.at_ h.at_.lt, by rw [d.get (by have := h.lt; omega)]; exact h.la, by rw [d.get (by have := h.lt; omega)]; exact h.lb, by rw [d.get (by have := h.lt; omega)]; exact h.lc, h.lt⟩
theorem Ts.up {s a n : Nat} {S : St} (h : Ts s a n S) : Ts s a (n + 1) S := ⟨h.at_, by obtain ⟨i, hi, e⟩ := h.la; exact ⟨i, by omega, e⟩, by obtain ⟨i, hi, e⟩ := h.lb; exact ⟨i, by omega, e⟩, h.lc, h.lt⟩
theorem Ts.set {s a n p : Nat} {S : St} {c : Cell} (h : Ts s a n S) (hp : a ≤ p) : At (S.set p c) s := by
  obtain ⟨o, m, e, v⟩ := h.at_
  exact ⟨o, m, by rw [List.getElem?_set_ne (by have := h.lt; omega)]; exact e, v⟩
/-- the things -/
def Th (a : Nat) (d : D) : Prop := d = .loc a ∨ d = .loc (a + 1) ∨ d = .loc (a + 2) ∨ d = .non ∨ d = .str [120] ∨ d = .tup [.int 1] ∨ d = .bl true ∨ d = .int (-3) ∨ ∃ r : Int, d = .int r ∧ 0 ≤ r ∧ r < 60
theorem Th.x {a : Nat} {d : D} (h : Th a d) : d.isX = false := by
  rcases h with rfl | rfl | rfl | rfl | rfl | rfl | rfl | rfl | ⟨r, rfl, _⟩ <;> rfl
theorem Ts.len {s a n : Nat} {S : St} (h : Ts s a n S) : a + 2 < S.length := by
  rcases h.lc with e | e <;> exact get_lt e
theorem Th.lo {s a n : Nat} {S : St} {d : D} (h : Th a d) (t : Ts s a n S) : D.lo S.length d = true := by
  have := t.len
  rcases h with rfl | rfl | rfl | rfl | rfl | rfl | rfl | rfl | ⟨r, rfl, _⟩ <;> simp [D.lo, D.loL] <;> omega
theorem wtLc' (a : D) (r : List D) : D.wtL (a :: r) = D.wt a + 2 + D.wtL r := by rw [D.wtL]
/-- what a repr reads -/
def Rx (S : St) (d : D) : Prop := ∃ e, (∀ m, D.dr S (m + 2) d = some e) ∧ D.wt e ≤ 1000
theorem dr_zeros {S : St} {m : Nat} : ∀ i : Nat, mapO (D.dr S (m + 1)) (List.replicate i (.int 0)) = some (List.replicate i (.int 0))
  | 0 => rfl
  | i + 1 => by
    rw [List.replicate_succ]
    unfold mapO
    rw [dr_zeros i]
    rfl
theorem wt_zeros : ∀ i : Nat, D.wtL (List.replicate i (.int 0)) = 5 * i
  | 0 => by unfold D.wtL; rfl
  | i + 1 => by
    rw [List.replicate_succ, wtLc', wt_zeros i]
    have : D.wt (.int 0) = 3 := by decide
    omega
theorem Th.rx {s a n : Nat} {S : St} {d : D} (h : Th a d) (t : Ts s a n S) (hn : n ≤ 4) : Rx S d := by
  rcases h with rfl | rfl | rfl | rfl | rfl | rfl | rfl | rfl | ⟨r, rfl, r0, r1⟩
  · obtain ⟨i, hi, e⟩ := t.la
    refine ⟨.lst (.int 5 :: List.replicate i (.int 0)), fun m => ?_, ?_⟩
    · unfold D.dr
      simp only [e]
      unfold mapO
      rw [dr_zeros]
      rfl
    · rw [D.wt, wtLc', wt_zeros]
      have : D.wt (.int 5) = 5 := by decide
      omega
  · obtain ⟨i, hi, e⟩ := t.lb
    refine ⟨.lst (.str [97] :: .non :: List.replicate i (.int 0)), fun m => ?_, ?_⟩
    · unfold D.dr
      simp only [e]
      unfold mapO mapO
      rw [dr_zeros]
      rfl
    · rw [D.wt, wtLc', wtLc', wt_zeros]
      have : D.wt (.str [97]) = 12 := by decide
      have : D.wt .non = 5 := by decide
      omega
  · rcases t.lc with e | e
    · refine ⟨.dct [(.inr [97], .int 1)], fun m => ?_, by decide⟩
      unfold D.dr
      simp only [e]
      rfl
    · refine ⟨.dct [(.inr [97], .int 1), (.inr [108, 97, 116, 101], .int 0)], fun m => ?_, by decide⟩
      unfold D.dr
      simp only [e]
      rfl
  · exact ⟨_, fun m => rfl, by decide⟩
  · exact ⟨_, fun m => rfl, by decide⟩
  · exact ⟨_, fun m => rfl, by decide⟩
  · exact ⟨_, fun m => rfl, by decide⟩
  · exact ⟨_, fun m => rfl, by decide⟩
  · refine ⟨_, fun m => rfl, ?_⟩
    have all : (List.range 60).all (fun (j : Nat) => decide (D.wt (.int (j : Int)) ≤ 1000)) = true := by decide
    have := of_decide_eq_true (List.all_eq_true.mp all r.toNat (List.mem_range.mpr (by omega)))
    rw [show ((r.toNat : Nat) : Int) = r by omega] at this
    exact this
theorem mapO_repl11 {f : D → Option D} {d e : D} (h : f d = some e) : ∀ k : Nat, mapO f (List.replicate k d) = some (List.replicate k e)
  | 0 => rfl
  | k + 1 => by
    rw [List.replicate_succ]
    unfold mapO
    rw [h, mapO_repl11 h k]
    rfl
theorem wtL_rep {e : D} : ∀ k : Nat, D.wtL (List.replicate k e) = k * (D.wt e + 2)
  | 0 => by unfold D.wtL; simp
  | k + 1 => by
    rw [List.replicate_succ, wtLc', wtL_rep k, Nat.succ_mul]; omega
theorem rx_repr {C : Ctx} {m : Bool} {S : St} {d : D} (h : Rx S d) : ∃ t, bi C "repr" m [.lst (List.replicate 11 d)] S = some (.str t, S) := by
  obtain ⟨e, h1, h2⟩ := h
  refine ⟨C.rep (.lst (List.replicate 11 e)), ?_⟩
  unfold bi
  simp only
  have : D.dr S 150 (.lst (List.replicate 11 d)) = some (.lst (List.replicate 11 e)) := by
    unfold D.dr
    simp only
    rw [mapO_repl11 (h1 147)]
    rfl
  rw [this]
  simp only
  rw [if_pos]
  rw [D.wt, wtL_rep, sizeMax]; omega
def turnB : List PM.S := [(.loop (.tp [6, 7]) .enum [(.var 5)] errB), (.ite (.isi (.var 4) [.list]) [(.ex (.bm "append" false (.var 4) [(.cst (.int 0))]))] []), (.ite (.isi (.var 4) [.dict]) [(.iset (.var 4) (.cst (.str [108, 97, 116, 101])) (.cst (.int 0)))] []), (.ite (.op .ne false (.bi "repr" false [(.call "_law_stored" [(.var 5)] [])]) (.bi "repr" false [(.op .mul false (.lst false [false] [(.var 4)]) (.cst (.int 11)))])) [(.ret (.cst (.bl false)))] [])]
/-- what changes the thing -/
theorem change_w {C : Ctx} {s a n : Nat} {S : St} {d : D} (h : Th a d) (t : Ts s a n S) (hn : n ≤ 4) {o0 o1 o2 o3 o5 o6 o7 o8 : Option D} {N B K : Env → St → Prop} {T' : D → St → Prop} {X : String → D → Env → St → Prop} {r : List PM.S}
    (hN : ∀ S', Ts s a (n + 1) S' → FOK (evSs C r [o0, o1, o2, o3, some d, o5, o6, o7, o8] S') N T' X B K) :
    FOK (evSs C ((.ite (.isi (.var 4) [.list]) [(.ex (.bm "append" false (.var 4) [(.cst (.int 0))]))] []) :: (.ite (.isi (.var 4) [.dict]) [(.iset (.var 4) (.cst (.str [108, 97, 116, 101])) (.cst (.int 0)))] []) :: r) [o0, o1, o2, o3, some d, o5, o6, o7, o8] S) N T' X B K := by
  have plain : ∀ {d : D}, d.isX = false → isTys S d [.list] = some false → isTys S d [.dict] = some false → FOK (evSs C r [o0, o1, o2, o3, some d, o5, o6, o7, o8] S) N T' X B K → FOK (evSs C ((.ite (.isi (.var 4) [.list]) [(.ex (.bm "append" false (.var 4) [(.cst (.int 0))]))] []) :: (.ite (.isi (.var 4) [.dict]) [(.iset (.var 4) (.cst (.str [108, 97, 116, 101])) (.cst (.int 0)))] []) :: r) [o0, o1, o2, o3, some d, o5, o6, o7, o8] S) N T' X B K := fun {d} hx h1 h2 q => by
    and_intros; refine w_isiR h1 ?_
    and_intros
    and_intros; refine w_isiR h2 ?_
    and_intros
    exact q
  have lst : ∀ {p : Nat} {xs : List D}, S[p]? = some (.lst xs) → xs.length < sizeMax → FOK (evSs C r [o0, o1, o2, o3, some (.loc p), o5, o6, o7, o8] (S.set p (.lst (xs ++ [.int 0])))) N T' X B K → FOK (evSs C ((.ite (.isi (.var 4) [.list]) [(.ex (.bm "append" false (.var 4) [(.cst (.int 0))]))] []) :: (.ite (.isi (.var 4) [.dict]) [(.iset (.var 4) (.cst (.str [108, 97, 116, 101])) (.cst (.int 0)))] []) :: r) [o0, o1, o2, o3, some (.loc p), o5, o6, o7, o8] S) N T' X B K := fun {p xs} e hl q => by
    and_intros; refine w_isiR (b := true) (by unfold isTys isTys; rw [isTy_loc e]; rfl) ?_
    and_intros
    and_intros; refine ⟨isTy_loc e, ?_⟩
    and_intros; refine w_o (app_loc e hl) ?_
    and_intros; refine w_isiR (b := false) (by unfold isTys isTys isTy; simp only [get_set e]; rfl) ?_
    and_intros
    exact q
  rcases h with rfl | rfl | rfl | rfl | rfl | rfl | rfl | rfl | ⟨r, rfl, r0, r1⟩
  · obtain ⟨i, hi, e⟩ := t.la
    refine lst e (by simp [sizeMax]; omega) (hN _ ⟨t.set (Nat.le_refl _), ⟨i + 1, by omega, ?_⟩, ?_, ?_, t.lt⟩)
    · rw [get_set e, List.cons_append, List.replicate_succ']
    · rw [List.getElem?_set_ne (by omega)]; exact t.up.lb
    · rw [List.getElem?_set_ne (by omega)]; exact t.lc
  · obtain ⟨i, hi, e⟩ := t.lb
    refine lst e (by simp [sizeMax]; omega) (hN _ ⟨t.set (by omega), ?_, ⟨i + 1, by omega, ?_⟩, ?_, t.lt⟩)
    · rw [List.getElem?_set_ne (by omega)]; exact t.up.la
    · rw [get_set e, List.cons_append, List.cons_append, List.replicate_succ']
    · rw [List.getElem?_set_ne (by omega)]; exact t.lc
  · have dct : ∀ {kv kv' : List (Key × D)}, S[a + 2]? = some (.dct false kv) → kv.length < sizeMax → putK kv (.inr [108, 97, 116, 101]) (.int 0) = kv' → kv' = [(.inr [97], .int 1), (.inr [108, 97, 116, 101], .int 0)] → FOK (evSs C ((.ite (.isi (.var 4) [.list]) [(.ex (.bm "append" false (.var 4) [(.cst (.int 0))]))] []) :: (.ite (.isi (.var 4) [.dict]) [(.iset (.var 4) (.cst (.str [108, 97, 116, 101])) (.cst (.int 0)))] []) :: r) [o0, o1, o2, o3, some (.loc (a + 2)), o5, o6, o7, o8] S) N T' X B K := fun {kv kv'} e hl e2 e3 => by
      and_intros; refine w_isiR (b := false) (by unfold isTys isTys isTy; simp only [e]; rfl) ?_
      and_intros
      and_intros; refine w_isiR (b := true) (by unfold isTys isTys isTy; simp only [e]; rfl) ?_
      and_intros
      refine ⟨S.set (a + 2) (.dct false kv'), ?_, ?_⟩
      · unfold setIx
        simp only [e]
        rw [if_pos hl, ← e2]
        rfl
      · and_intros
        refine hN _ ⟨t.set (by omega), ?_, ?_, .inr ?_, t.lt⟩
        · rw [List.getElem?_set_ne (by omega)]; exact t.up.la
        · rw [List.getElem?_set_ne (by omega)]; exact t.up.lb
        · rw [get_set e, e3]
    rcases t.lc with e | e
    · exact dct e (by decide) rfl rfl
    · exact dct e (by decide) rfl rfl
  all_goals exact plain rfl rfl rfl (hN _ t.up)
theorem turn_e {s a n : Nat} {S : St} {d : D} {L : Nat} (hL : 2 ≤ L) (h : Th a d) (t : Ts s a n S) (hn : n ≤ 3) {o0 o1 o2 o3 o5 o6 o7 o8 : Option D} {N B K : Env → St → Prop} {T' : D → St → Prop} {X : String → D → Env → St → Prop}
    (hN : ∀ o5 o6 o7 o8 S', Ts s a (n + 1) S' → N [o0, o1, o2, o3, some d, o5, o6, o7, o8] S') :
    FOK (loopStep ((P rep).ctx L) (.nm 5) turnB (errsD d) [o0, o1, o2, o3, some d, o5, o6, o7, o8] S) N T' X B K := by
  have hx := h.x
  unfold loopStep turnB
  rw [bindT_nm, ofO_some]
  and_intros
  refine ⟨_, rfl, ?_⟩
  refine f_for (fun l ρ S' => ∃ o6 o7 o8 : Option D, ρ = [o0, o1, o2, o3, some d, some (errsD d), o6, o7, o8] ∧ S' = S ∧ ∀ x ∈ l, ∃ i : Nat, i < 11 ∧ x = .tup [.int i, .err (N11.getD i "") d]) (fun _ _ _ ⟨_, _, _, _, _, _⟩ => rfl) ?_ ?_ _ _ _ ⟨_, _, _, rfl, rfl, ?_⟩
  · rintro ρ S' ⟨o6, o7, o8, rfl, rfl, _⟩
    refine change_w h t (by omega) fun S' t' => ?_
    have lo := h.lo t'
    obtain ⟨tx, et⟩ := rx_repr (C := (P rep).ctx L) (m := false) (h.rx t' (by omega))
    and_intros; refine OK.eq (stored_e (by omega) hx lo) ?_
    and_intros; refine w_o et ?_
    and_intros
    and_intros; refine w_o (a := .lst (List.replicate 11 d)) (S := S') ?_ ?_
    · rfl
    and_intros; refine w_o et ?_
    and_intros; refine w_o (op_ne_str _ _ _ _) ?_
    simp only [beq_self_eq_true, Bool.not_true]
    and_intros
    exact hN _ _ _ _ _ t'
  · rintro x l ρ S' ⟨o6, o7, o8, rfl, rfl, hl⟩
    obtain ⟨i, hi, rfl⟩ := hl x (by simp)
    exact err_step (by omega) hi fun o6 o7 o8 => ⟨_, _, _, rfl, rfl, fun y hy => hl y (List.mem_cons_of_mem _ hy)⟩
  · intro x hx
    have : ∀ x ∈ enumD 0 (N11.map fun c => D.err c d), ∃ i : Nat, i < 11 ∧ x = .tup [.int i, .err (N11.getD i "") d] := by
      intro x hx
      simp only [N11, List.map_cons, List.map_nil, enumD, List.mem_cons, List.not_mem_nil, or_false] at hx
      rcases hx with rfl | rfl | rfl | rfl | rfl | rfl | rfl | rfl | rfl | rfl | rfl
      · exact ⟨0, by decide, rfl⟩
      · exact ⟨1, by decide, rfl⟩
      · exact ⟨2, by decide, rfl⟩
      · exact ⟨3, by decide, rfl⟩
      · exact ⟨4, by decide, rfl⟩
      · exact ⟨5, by decide, rfl⟩
      · exact ⟨6, by decide, rfl⟩
      · exact ⟨7, by decide, rfl⟩
      · exact ⟨8, by decide, rfl⟩
      · exact ⟨9, by decide, rfl⟩
      · exact ⟨10, by decide, rfl⟩
    exact this x hx
end PM
set_option autoImplicit false
set_option linter.all false
set_option maxRecDepth 100000
set_option maxHeartbeats 1000000
/-! R61c: the law. -/
namespace PM
local macro_rules | `(tactic| and_intros) => `(tactic| repeat (first | with_reducible refine f_1 ?_ | with_reducible refine f_0 ?_ | ((with_reducible refine w_var ?_; (repeat (with_reducible refine w_getS ?_)); with_reducible refine w_get0 (by (first | rfl | assumption | (simp only [isX_non, isX_bl, isX_int, isX_str, isX_tup, isX_lst, isX_dct, isX_ins, isX_err, isX_loc]; done) | simp)) ?_)) | with_reducible refine w_cst ?_ | with_reducible refine w_l1 ?_ | with_reducible refine w_l0 ?_ | with_reducible refine w_op ?_ | with_reducible refine w_call0 ?_ | with_reducible refine w_call ?_ | with_reducible refine w_ok ?_ | with_reducible refine w_trb ?_ | with_reducible refine w_tru ?_ | with_reducible refine w_ix ?_ | with_reducible refine w_sf ?_ | with_reducible refine w_s0 ?_ | with_reducible refine w_bi ?_ | with_reducible refine w_glb rfl ?_ | with_reducible refine f_nm ?_ | with_reducible refine f_ite ?_ | with_reducible refine f_ret ?_ | with_reducible refine f_ex ?_ | with_reducible refine f_ift rfl ?_ | with_reducible refine f_iff Bool.false_ne_true ?_ | with_reducible refine f_ift trivial ?_ | with_reducible refine f_iff id ?_ | with_reducible refine w_not ?_ | with_reducible refine w_bop ?_ | with_reducible refine w_b1 ?_ | with_reducible refine w_b2 ?_ | with_reducible refine w_bR1 ?_ | with_reducible refine w_bRt ?_ | with_reducible refine w_bRf ?_ | with_reducible refine w_isi ?_ | with_reducible refine w_mkx rfl ?_ | with_reducible refine w_isx ?_ | with_reducible refine w_chn ?_ | with_reducible refine w_meth ?_ | with_reducible refine w_fld ?_ | with_reducible refine w_sl ?_ | with_reducible refine w_rev ?_ | with_reducible refine w_o0 ?_ | with_reducible refine w_o1 ?_ | with_reducible refine w_optI ?_ | with_reducible refine w_comp ?_ | with_reducible refine w_ite ?_ | with_reducible refine f_rse ?_ | with_reducible refine f_skip ?_ | with_reducible refine f_brk ?_ | with_reducible refine f_cnt ?_ | with_reducible refine f_fset ?_ | with_reducible refine f_iset ?_ | with_reducible refine w_t0 ?_ | with_reducible refine w_t1 ?_ | with_reducible refine w_tup ?_ | with_reducible refine w_lst ?_ | with_reducible refine w_lstT ?_ | with_reducible refine w_st ?_ | with_reducible refine w_dsp ?_ | with_reducible refine w_bm ?_ | with_reducible refine f_tp ?_ | with_reducible refine f_loop ?_ | with_reducible refine f_tri ?_ | with_reducible refine w_le (by (first | assumption | (rw [sizeMax]; (try simp only [List.length_cons, List.length_nil, List.length_append, List.length_map, List.length_reverse]); omega))) ?_ | with_reducible refine w_tp2 ?_ | with_reducible refine w_tp3 ?_ | with_reducible refine f_whl ?_ | with_reducible refine p_ift rfl ?_ | with_reducible refine p_iff Bool.false_ne_true ?_ | with_reducible refine p_ift trivial ?_ | with_reducible refine w_ift rfl ?_ | with_reducible refine w_iff Bool.false_ne_true ?_ | with_reducible refine w_ift trivial ?_ | (dsimp only [set_zero, set_succ, not_t, not_f, wipe])))
open PM.I
variable {rep : D → Txt}
def thingB : List PM.S := [(.loop (.nm 5) .seq [(.lst false [false, false] [(.call "_law_by_place" [(.var 4)] []), (.call "_law_by_name" [(.var 4)] [])])] turnB)]
theorem thing_e {s a n : Nat} {S : St} {d : D} {L : Nat} (hL : 3 ≤ L) (h : Th a d) (t : Ts s a n S) (hn : n ≤ 2) {o0 o1 o2 o3 o4 o5 o6 o7 o8 : Option D} {N B K : Env → St → Prop} {T' : D → St → Prop} {X : String → D → Env → St → Prop}
    (hN : ∀ o4 o5 o6 o7 o8 S', Ts s a (n + 2) S' → N [o0, o1, o2, o3, o4, o5, o6, o7, o8] S') :
    FOK (loopStep ((P rep).ctx L) (.nm 4) thingB d [o0, o1, o2, o3, o4, o5, o6, o7, o8] S) N T' X B K := by
  have hx := h.x
  have lo := h.lo t
  unfold loopStep thingB
  rw [bindT_nm, ofO_some]
  and_intros
  and_intros; refine OK.eq (by_place_e (by omega) hx lo) ?_
  and_intros
  and_intros; refine OK.eq (by_name_e (by omega) hx lo) ?_
  and_intros
  refine ⟨_, rfl, ?_⟩
  refine f_for (fun l ρ S' => ∃ o5 o6 o7 o8 : Option D, ρ = [o0, o1, o2, o3, some d, o5, o6, o7, o8] ∧ (∀ x ∈ l, x = errsD d) ∧ ∃ k, k + l.length = n + 2 ∧ Ts s a k S') (fun _ _ _ _ => rfl) ?_ ?_ _ _ _ ⟨_, _, _, _, rfl, by simp, n, rfl, t⟩
  · rintro ρ S' ⟨o5, o6, o7, o8, rfl, _, k, hk, t'⟩
    and_intros
    have : k = n + 2 := by simpa using hk
    subst this
    exact hN _ _ _ _ _ _ t'
  · rintro x l ρ S' ⟨o5, o6, o7, o8, rfl, hl, k, hk, t'⟩
    obtain rfl := hl x (by simp)
    simp only [List.length_cons] at hk
    exact turn_e (by omega) h t' (by omega) fun o5 o6 o7 o8 S'' t'' => ⟨_, _, _, _, rfl, fun y hy => hl y (List.mem_cons_of_mem _ hy), k + 1, by omega, t''⟩
theorem law_run (ns : List Int) (hn : ns.length ≤ 63) (hns : ∀ i ∈ ns, i.natAbs.log2 < 1048576) : ∃ S', callF (P rep) 340 "law" [.lst (ns.map .int)] [] [] = .ok (.bl true) S' := by
  suffices h : OK (callF (P rep) 340 "law" [.lst (ns.map .int)] [] []) (fun v _ => v = .bl true) NX by
    obtain ⟨a, S', e, q⟩ := h.some
    exact ⟨S', by rw [e, q]⟩
  refine c_defb (by omega) f_law rfl s_law b_law ?_
  refine f_1 (FOK.mono (N' := fun ρ S' => True) ?_ ?_)
  · and_intros
    and_intros; refine w_o (bi_len_lst _ _ _ _) ?_
    rw [List.length_map]
    and_intros
    obtain ⟨c, c1, c2⟩ : ∃ c : Nat, c ≤ 4 ∧ ∀ C : Ctx, ∃ x : Int, bi C "min" false [.int 4, .int ns.length] [] = some (.int x, []) ∧ bi C "max" false [.int 1, .int x] [] = some (.int c, []) := by
      refine ⟨max 1 (min 4 ns.length), by omega, fun C => ⟨((min 4 ns.length : Nat) : Int), ?_, ?_⟩⟩
      · show some (D.int (if (ns.length : Int) < 4 then (ns.length : Int) else 4), ([] : St)) = _
        congr 3
        split <;> omega
      · show some (D.int (if (1 : Int) < ((min 4 ns.length : Nat) : Int) then ((min 4 ns.length : Nat) : Int) else 1), ([] : St)) = _
        congr 3
        split <;> omega
    obtain ⟨x, c3, c4⟩ := c2 ((P rep).ctx 339)
    and_intros; refine w_o c3 ?_
    and_intros
    and_intros; refine w_o c4 ?_
    and_intros
    refine ⟨_, walk_rng' (by omega) (by omega), ?_⟩
    refine f_for (fun l ρ S' => ∃ o1 o2 o3 o4 o5 o6 o7 o8 : Option D, ρ = [some (.lst (ns.map .int)), o1, o2, o3, o4, o5, o6, o7, o8] ∧ ∀ x ∈ l, ∃ k : Nat, k ≤ 3 ∧ x = .int k) (fun _ _ _ _ => rfl) (fun _ _ _ => trivial) ?_ _ _ _ ⟨_, _, _, _, _, _, _, _, rfl, fun a ha => ?_⟩
    · rintro a l ρ S1 ⟨o1, o2, o3, o4, o5, o6, o7, o8, rfl, hl⟩
      obtain ⟨k, hk, rfl⟩ := hl a (by simp)
      unfold loopStep
      rw [bindT_nm, ofO_some]
      and_intros
      refine (source_w (by omega) hns (by omega)).to fun v S2 ⟨e, o, m, vd, e2⟩ => ?_
      subst e
      have a2 : At S2 S1.length := ⟨o, m, by rw [e2]; exact get_push, vd⟩
      have l2 : S2.length = S1.length + 1 := by rw [e2]; simp
      and_intros
      refine ⟨_, rfl, ?_⟩
      and_intros
      and_intros; refine w_o rfl ?_
      and_intros
      simp only [List.length_append, List.length_cons, List.length_nil, Nat.zero_add]
      and_intros; refine w_o (op_sub_int _ _ _ _) ?_
      have ml : mkDict [((Sum.inr [97] : Key), D.int 1)] = [(.inr [97], .int 1)] := rfl
      rw [ml]
      generalize eS3 : S2 ++ [Cell.lst [D.int 5]] ++ [Cell.lst [D.str [97], D.non]] ++ [Cell.dct false [(.inr [97], .int 1)]] = S3
      have t3 : Ts S1.length S2.length 0 S3 := by
        subst eS3
        refine ⟨((a2.app _).app _).app _, ⟨0, Nat.le_refl _, ?_⟩, ⟨0, Nat.le_refl _, ?_⟩, .inl ?_, by omega⟩
        · rw [get_old (get_old get_push)]; rfl
        · have : (S2 ++ [Cell.lst [D.int 5]] ++ [Cell.lst [D.str [97], D.non]])[S2.length + 1]? = some (Cell.lst [D.str [97], D.non]) := by
            have h := get_push (S := S2 ++ [Cell.lst [D.int 5]]) (c := Cell.lst [D.str [97], D.non])
            simpa using h
          rw [get_old this]; rfl
        · have h := get_push (S := S2 ++ [Cell.lst [D.int 5]] ++ [Cell.lst [D.str [97], D.non]]) (c := Cell.dct false [(.inr [97], .int 1)])
          simpa using h
      and_intros
      refine (draw_w (by omega) t3.at_ (by omega) (by omega)).to fun v S4 ⟨r, e, r0, r1, d4⟩ => ?_
      subst e
      have t4 := t3.dr d4
      and_intros
      and_intros; refine w_o (a := D.lst [.loc S2.length, .loc (S2.length + 1), .loc (S2.length + 2)]) (S := S4) (by simp [getSl, lstItems, optInt, mkL, cut, clip]) ?_
      and_intros
      have hlen := t4.len
      refine (pick_lst (by omega) t4.at_ (by simp) (by simp) (fun x hx => ?_)).to fun v5 S5 ⟨h5, d5⟩ => ?_
      · simp only [List.mem_cons, List.not_mem_nil, or_false] at hx
        rcases hx with rfl | rfl | rfl <;> simp [D.lo] <;> omega
      have t5 := t4.dr d5
      and_intros
      have hlen5 := t5.len
      refine (pick_lst (by omega) t5.at_ (by simp) (by simp) (fun x hx => ?_)).to fun v6 S6 ⟨h6, d6⟩ => ?_
      · simp only [List.mem_cons, List.not_mem_nil, or_false] at hx
        rcases hx with rfl | rfl | rfl | rfl | rfl | rfl | rfl | rfl | rfl <;> simp [D.lo, D.loL] <;> omega
      have t6 := t5.dr d6
      have th5 : Th S2.length v5 := by
        simp only [List.mem_cons, List.not_mem_nil, or_false] at h5
        rcases h5 with rfl | rfl | rfl
        · exact .inl rfl
        · exact .inr (.inl rfl)
        · exact .inr (.inr (.inl rfl))
      have th6 : Th S2.length v6 := by
        simp only [List.mem_cons, List.not_mem_nil, or_false] at h6
        rcases h6 with rfl | rfl | rfl | rfl | rfl | rfl | rfl | rfl | rfl
        · exact .inl rfl
        · exact .inr (.inl rfl)
        · exact .inr (.inr (.inl rfl))
        · exact .inr (.inr (.inr (.inl rfl)))
        · exact .inr (.inr (.inr (.inr (.inl rfl))))
        · exact .inr (.inr (.inr (.inr (.inr (.inl rfl)))))
        · exact .inr (.inr (.inr (.inr (.inr (.inr (.inl rfl))))))
        · exact .inr (.inr (.inr (.inr (.inr (.inr (.inr (.inl rfl)))))))
        · exact .inr (.inr (.inr (.inr (.inr (.inr (.inr (.inr ⟨r, rfl, r0, r1⟩)))))))
      and_intros
      refine ⟨_, rfl, ?_⟩
      refine f_for (fun l ρ S' => ∃ o1 o2 o3 o4 o5 o6 o7 o8 : Option D, ρ = [some (.lst (ns.map .int)), o1, o2, o3, o4, o5, o6, o7, o8] ∧ (∀ x ∈ l, Th S2.length x) ∧ ∃ n, n + 2 * l.length = 4 ∧ Ts S1.length S2.length n S') (fun _ _ _ _ => rfl) ?_ ?_ _ _ _ ⟨_, _, _, _, _, _, _, _, rfl, ?_, 0, rfl, t6⟩
      · rintro ρ S' ⟨o1, o2, o3, o4, o5, o6, o7, o8, rfl, _⟩
        and_intros
        exact ⟨_, _, _, _, _, _, _, _, rfl, fun y hy => hl y (List.mem_cons_of_mem _ hy)⟩
      · rintro x l ρ S' ⟨o1, o2, o3, o4, o5, o6, o7, o8, rfl, hx, n, hn, t'⟩
        simp only [List.length_cons] at hn
        exact thing_e (by omega) (hx x (by simp)) t' (by omega) fun o4 o5 o6 o7 o8 S'' t'' => ⟨_, _, _, _, _, _, _, _, rfl, fun y hy => hx y (List.mem_cons_of_mem _ hy), n + 2, by omega, t''⟩
      · intro x hx
        simp only [List.mem_cons, List.not_mem_nil, or_false] at hx
        rcases hx with rfl | rfl
        · exact th5
        · exact th6
    · unfold rngL at ha
      obtain ⟨q, hq, rfl⟩ := List.mem_map.mp ha
      have := List.mem_range.mp hq
      exact ⟨q, by omega, by simp⟩
  · rintro ρ S' _
    and_intros
    unfold leave
    exact w_ok rfl
end PM
theorem PySem.Challenge.cw_butthese_k61_errors_by_hand_holds : PySem.Challenge.rw_butthese_k61_errors_by_hand.Holds := by
  exact PM.J.fin fun ns h1 h2 => PM.law_run ns h1 h2
