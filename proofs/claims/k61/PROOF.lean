import PyProof.Rows.All
import Wide.All
import OpenK.AllK
import Wide.FinOn
import HandS.ForMost
import HandS.Star
import HandS.Style
import HandS.Flow
import HandS.IsInst
import HandS.TupAny
import HandS.Deep
import HandS.SortInts
import HandS.Conv
import HandS.Text
import HandS.WideBits
import HandS.Iter
import HandS.Zip
import HandS.TupMul
import PyProof.StrOps2
import KE.KDictPairs
import PyProof.WalksMore
import PyProof.WalkInts
import PyProof.SeqI3
import HandS.TupSets
import KE.DatumOrd
import KE.KRevSl
import HandS.Strs
import HandS.SetFor
import KE.GoesEnum
import HandS.FStr
import HandS.Small
import HandS.Defaults
import HandS.Ends
import HandS.HeadHook2
import PyProof.Rows.RegStrFacts
import KE.KStateDown
import HandS.Head0
import HandS.Head1
import HandS.Head2
import HandS.HeadEnd
import HandS.HeadHook1
import PySem.Challenge.RW_everrows_k61_lumps_in_one_form
set_option Elab.async false
set_option linter.all false
set_option maxRecDepth 100000
namespace EV
open PySem L2
inductive D where
  | non | bl (b : Bool) | int (i : Int) | str (s : Str)
  | tup (xs : List D) | lst (xs : List D) | scr (ns : List Int) | ref (n : Nat) | dct (kvs : List (Key × Int)) | fn (f : Str)
  deriving Inhabited
inductive O where
  | lst (xs : List D) | dct (kvs : List (Key × D)) | fz (kvs : List (Key × D))
  deriving Inhabited
abbrev AH := List O
inductive Slot where
  | no | val (d : D) | own (xs : List D)
  deriving Inhabited
abbrev Env := List Slot

inductive R (α : Type) where
  | ok (a : α) | exn (c : Str) (fs : List D) (h : AH) | bad
  deriving Inhabited
@[inline] def R.bind {α β : Type} (x : R α) (f : α → R β) : R β := match x with
  | .ok a => f a
  | .exn c fs h => .exn c fs h
  | .bad => .bad
instance : Monad R where
  pure := R.ok
  bind := R.bind
@[simp] theorem R.bind_ok {α β : Type} (a : α) (f : α → R β) : (R.ok a >>= f) = f a := rfl
@[simp] theorem R.bind_bad {α β : Type} (f : α → R β) : ((R.bad : R α) >>= f) = R.bad := rfl
@[simp] theorem R.pure_eq {α : Type} (a : α) : (pure a : R α) = R.ok a := rfl
theorem R.bind_inv {α β : Type} {x : R α} {f : α → R β} {b : β} (h : (x >>= f) = .ok b) : ∃ a, x = .ok a ∧ f a = .ok b := by
  cases x with
  | ok a => exact ⟨a, rfl, h⟩
  | exn c fs h' => exact nomatch h
  | bad => exact nomatch h

def keyP : Key → PyData
  | .inl i => .int i
  | .inr s => .str s
mutual
def D.py : D → PyData
  | .non => .none
  | .bl b => .bool b
  | .int i => .int i
  | .str s => .str s
  | .tup xs => .tuple (D.pys xs)
  | .lst xs => .list (D.pys xs)
  | .scr ns => .list (ns.map .int)
  | .ref _ => .none
  | .fn _ => .none
  | .dct kvs => .dict (kvs.map fun p => (keyP p.1, .int p.2))
def D.pys : List D → List PyData
  | [] => []
  | d :: ds => d.py :: D.pys ds
end
mutual
/-- no shared object within -/
def D.pure : D → Bool
  | .tup xs => D.pures xs
  | .lst xs => D.pures xs
  | .scr _ => false
  | .ref _ => false
  | .dct _ => false
  | .fn _ => false
  | _ => true
def D.pures : List D → Bool
  | [] => true
  | d :: ds => d.pure && D.pures ds
end
mutual
/-- no list, no shared object within (dicts of ints are allowed) -/
def D.nolst : D → Bool
  | .tup xs => D.nolsts xs
  | .lst _ => false
  | .scr _ => false
  | .ref _ => false
  | .fn _ => false
  | _ => true
def D.nolsts : List D → Bool
  | [] => true
  | d :: ds => d.nolst && D.nolsts ds
end
def D.lst1 : D → Bool
  | .lst xs => D.nolsts xs
  | _ => false
def D.okr (d : D) : Bool := (d.nolst || d.lst1) && decide (d.py.depth ≤ 64)
def D.okq (d : D) : Bool := d.pure && SeqAt.shaped d.py
mutual
/-- shared lists within, as they stand -/
def D.res (h : AH) : D → D
  | .ref n => (match h[n]? with
    | some (.lst xs) => .lst xs
    | _ => .ref n)
  | .tup xs => .tup (D.ress h xs)
  | .lst xs => .lst (D.ress h xs)
  | d => d
def D.ress (h : AH) : List D → List D
  | [] => []
  | d :: ds => d.res h :: D.ress h ds
end
def eqD (a b : D) : R Bool := match a, b with
  | .str x, .str y => .ok (x == y)
  | a, b => if a.okq && b.okq then .ok (PyData.eqv a.py b.py) else (match a, b with | .tup xs, .tup [] => .ok xs.isEmpty | _, _ => .bad)
def anyD (x : D) (ys : List D) : R Bool :=
  if x.okq && (D.lst ys).okq then .ok (ys.any fun y => PyData.eqv y.py x.py) else .bad

inductive Op2 where | add | sub | mul | fdiv | mod | pow
inductive Cm where | eqr | ner | eq | ne | lt | le | gt | ge | isin | notin | is_ | isnot
inductive Tg where | name (i : Nat) | tup (is : List Nat)
mutual
inductive E where
  | non | bl (b : Bool) | int (i : Int) | str (s : Str) | var (i : Nat) | glob (x : Str) | ixb (i : Nat) (b : E) | slb (i : Nat) (lo hi : Eo) | lenb (i : Nat) | inb (neg : Bool) (a : E) (i : Nat)
  | tup (es : Es) | lst (es : Es)
  | bin (op : Op2) (a b : E) | neg (a : E) | not (a : E)
  | cmp (op : Cm) (a b : E) | chain (o1 o2 : Cm) (a b c : E)
  | and (es : Es) | or (es : Es)
  | ite (c : T) (a b : E)
  | call (f : Str) (es : Es) | blt (f : String) (es : Es) | isi (a : E) (tys : List String)
  | meth (m : Str) (o : E) (es : Es) | pop0 (i : Nat) | popA (i : Nat) (e : E)
  | ix (a b : E) | sl (a : E) (lo hi : Eo) | rev (a : E)
  | bits (a : E) | idx (o a : E) | join (s l : E) | lrng (t : Bool) (a b : E)
  | comp (elt : E) (tg : Tg) (it : I) (ifs : Ts) (own : List Nat)
  | newd (es : Kvs) | dlit (kvs : List (Key × Int)) | sset (e : E) | lstb (i : Nat) | repb (i : Nat) | newl (e : E) | idxb (i : Nat) (a : E) | new1 (a b : E)
  | comp2 (elt : E) (tg : Tg) (it : I) (ifs : Ts) (tg1 : Tg) (it1 : I) (ifs1 : Ts) (own own1 : List Nat) | fstr (es : Es) | upper (e : E) | never | idxr (o a : E) | slr (a : E) (lo hi : Eo) | lvals (e : E) | callv (i : Nat) (es : Es)
inductive Eo where | no | so (e : E)
inductive Es where | nil | cons (star : Bool) (e : E) (r : Es)
inductive Kvs where | nil | cons (k : Str) (shared : Bool) (v : E) (r : Kvs)
inductive T where
  | tru (e : E) | inb (neg : Bool) (a : E) (i : Nat) | not (t : T) | and (ts : Ts) | or (ts : Ts) | ite (c a b : T) | cmp (op : Cm) (a b : E) | chain (o1 o2 : Cm) (a b c : E)
inductive Ts where | nil | cons (t : T) (r : Ts)
inductive I where | val (e : E) | rng1 (a : E) | rng2 (a b : E) | rng3 (a b c : E) | enum (e : E) | zip (a b : E) | keys (e : E) | vals (e : E) | items (e : E)
end
instance : Inhabited E := ⟨.non⟩
mutual
inductive S where
  | set (i : Nat) (own : Bool) (e : E)
  | sett (is : List Nat) (e : E)
  | par (is : List Nat) (owns : List Bool) (es : Es)
  | setsub (i : Nat) (k e : E)
  | app (i : Nat) (e : E) | ext (i : Nat) (e : E) | appx (o e : E)
  | expr (e : E) | ret (e : E) | retN | retO (i : Nat)
  | ite (c : T) (a b : Ss)
  | for_ (tg : Tg) (it : I) (body : Ss) (kill : List Nat)
  | while_ (c : T) (body : Ss) (kill : List Nat)
  | brk | cont | pass
  | raise (c : Str) (es : Es)
inductive Ss where | nil | cons (s : S) (r : Ss)
end
def truthy (h : AH) : D → R Bool
  | .non => .ok false
  | .bl b => .ok b
  | .int i => .ok (i != 0)
  | .str s => if decide (s.length ≤ sizeLine) then .ok ((s.length : Int) != 0) else .bad
  | .tup xs => .ok (!xs.isEmpty)
  | .lst xs => .ok (!xs.isEmpty)
  | _ => .bad
def lenOk (n : Nat) : Bool := decide (n ≤ sizeLine)
def repS (z : Str) (k : Nat) : Str := ⟨(List.replicate k z.cps).foldl (· ++ ·) #[]⟩
def binD : Op2 → D → D → R D
  | .add, .int i, .int j => .ok (.int (i + j))
  | .add, .str x, .str y => if lenOk (x.length + y.length) then .ok (.str (x ++ y)) else .bad
  | .add, .tup xs, .tup ys => if lenOk (xs.length + ys.length) then .ok (.tup (xs ++ ys)) else .bad
  | .add, .lst xs, .lst ys => if lenOk (xs.length + ys.length) then .ok (.lst (xs ++ ys)) else .bad
  | .sub, .int i, .int j => .ok (.int (i - j))
  | .mul, .int i, .int j => if (decide (-(2 ^ 64) < i) && decide (i < 2 ^ 64)) || (decide (-(2 ^ 64) < j) && decide (j < 2 ^ 64)) then .ok (.int (i * j)) else .bad
  | .mul, .lst xs, .int k => if decide (-(2 ^ 63) ≤ k) && decide (k < 2 ^ 63) && lenOk (xs.length * k.toNat) then .ok (.lst (List.replicate k.toNat xs).flatten) else .bad
  | .mul, .tup xs, .int k => if (xs.isEmpty && decide (-(2 ^ 62) ≤ k) && decide (k < 2 ^ 62)) || decide (k = 1) then .ok (.tup xs) else if !xs.isEmpty && decide (2 ≤ k) && decide (k ≤ 1000) && decide (xs.length ≤ 1000) then .ok (.tup (List.replicate k.toNat xs).flatten) else .bad
  | .mul, .str z, .int k => if decide (2 ≤ k) && decide (k ≤ 1000) && decide (1 ≤ z.length) && decide (z.length ≤ 1000) then .ok (.str (repS z k.toNat)) else .bad
  | .fdiv, .int i, .int j => if decide (0 < j) && decide (j < 1073741824) then .ok (.int (i / j)) else .bad
  | .pow, .int i, .int j => if decide (0 ≤ j) && (decide (j ≤ 1000000) && decide (i.natAbs < 2 ^ 64)) then .ok (.int (i ^ j.toNat)) else .bad
  | .mod, .int i, .int j => if decide (0 < j) then .ok (.int (i % j)) else .bad
  | _, _, _ => .bad
def intsOf : List D → Option (List Int)
  | [] => some []
  | .int i :: r => (intsOf r).map (i :: ·)
  | _ :: _ => none
def blsOf : List D → Option (List Bool)
  | [] => some []
  | .bl i :: r => (blsOf r).map (i :: ·)
  | _ :: _ => none
def strsOf : List D → Option (List Str)
  | [] => some []
  | .str i :: r => (strsOf r).map (i :: ·)
  | _ :: _ => none
def isD : D → D → R Bool
  | x, .non => .ok (match x with | .non => true | _ => false)
  | .bl a, .bl b => .ok (decide (a = b))
  | .int _, .bl _ => .ok false
  | _, _ => .bad
def ltD : D → D → R Bool
  | .int i, .int j => .ok (decide (i < j))
  | .str x, .str y => .ok (decide (x.cps.toList < y.cps.toList))
  | .tup xs, .tup ys => match intsOf xs, intsOf ys with
    | some a, some b => .ok (HT.lexLt a b)
    | _, _ => .bad
  | _, _ => .bad
def leD : D → D → R Bool
  | .int i, .int j => .ok (decide (i ≤ j))
  | .str x, .str y => .ok (!decide (y.cps.toList < x.cps.toList))
  | _, _ => .bad
def gtD : D → D → R Bool
  | .int i, .int j => .ok (decide (j < i))
  | _, _ => .bad
def geD : D → D → R Bool
  | .int i, .int j => .ok (decide (j ≤ i))
  | _, _ => .bad
def keyD : D → Option Key
  | .int i => some (.inl i)
  | .str s => some (.inr s)
  | _ => none
def keyV : Key → D
  | .inl i => .int i
  | .inr s => .str s
def lookK (kvs : List (Key × D)) (k : Key) : Option D := (kvs.find? fun p => decide (p.1 = k)).map (·.2)
def putK' (kvs : List (Key × D)) (k : Key) (d : D) : List (Key × D) :=
  if (kvs.any fun p => decide (p.1 = k)) then kvs.map fun p => if p.1 = k then (p.1, d) else p else kvs ++ [(k, d)]
def lookI (kvs : List (Key × Int)) (k : Key) : Option Int := (kvs.find? fun p => decide (p.1 = k)).map (·.2)
def inD (h : AH) : D → D → R Bool
  | x, .tup ys => anyD x ys
  | x, .lst ys => anyD x ys
  | .str x, .str y => .ok (!(Builtin.Str.occurrences y x 0 y.length 1).isEmpty)
  | x, .ref n => (match h[n]? with
    | some (.dct kvs) => (match keyD x with
      | some k => .ok (lookK kvs k).isSome
      | none => .bad)
    | some (.lst ys) => anyD x ys
    | some (.fz kvs) => (match keyD x with
      | some k => .ok (lookK kvs k).isSome
      | none => .bad)
    | none => .bad)
  | x, .dct kvs => (match keyD x with
    | some k => .ok (lookI kvs k).isSome
    | none => .bad)
  | _, _ => .bad
def cmpD (h : AH) : Cm → D → D → R Bool
  | .eq, a, b => eqD a b
  | .ne, a, b => do let r ← eqD a b; .ok !r
  | .eqr, a, b => eqD (a.res h) (b.res h)
  | .ner, a, b => do let r ← eqD (a.res h) (b.res h); .ok !r
  | .lt, a, b => ltD a b
  | .le, a, b => leD a b
  | .gt, a, b => gtD a b
  | .ge, a, b => geD a b
  | .isin, a, b => inD h a b
  | .notin, a, b => do let r ← inD h a b; .ok !r
  | .is_, a, b => isD a b
  | .isnot, a, b => do let r ← isD a b; .ok !r
def ofO {α : Type} : Option α → R α
  | some a => .ok a
  | none => .bad
def ixD (h : AH) : D → D → R D
  | .tup xs, .int i => ofO (atI xs i)
  | .lst xs, .int i => ofO (atI xs i)
  | .str z, .int i => if lenOk z.length then ofO ((atI z.cps.toList i).map fun c => .str ⟨#[c]⟩) else .bad
  | .ref n, k => match h[n]? with
    | some (.dct kvs) => (match keyD k with | some k => ofO (lookK kvs k) | none => .bad)
    | some (.lst xs) => (match k with | .int i => ofO (atI xs i) | _ => .bad)
    | some (.fz kvs) => (match keyD k with | some k => ofO (lookK kvs k) | none => .bad)
    | none => .bad
  | .dct kvs, k => match keyD k with
    | some k => ofO ((lookI kvs k).map .int)
    | none => .bad
  | _, _ => .bad
def cutG {α : Type} (xs : List α) (lo hi : Option Int) : List α := (xs.drop (HT.sIx xs.length 0 lo)).take (HT.sIx xs.length xs.length hi - HT.sIx xs.length 0 lo)
def slD : D → Option Int → Option Int → R D
  | .tup xs, lo, hi => .ok (.tup (cutG xs lo hi))
  | .lst xs, lo, hi => .ok (.lst (cutG xs lo hi))
  | .str z, lo, hi => if lenOk z.length then .ok (.str ⟨(cutG z.cps.toList lo hi).toArray⟩) else .bad
  | _, _, _ => .bad
def revD : D → R D
  | .lst xs => .ok (.lst xs.reverse)
  | .tup xs => .ok (.tup xs.reverse)
  | _ => .bad
def valsD : D → R (List D)
  | .dct kvs => if lenOk kvs.length then .ok (kvs.map fun kv => .int kv.2) else .bad
  | _ => .bad
def entryD (kv : Key × D) : D := .tup [keyV kv.1, kv.2]
def walkH (f : Key × D → D) (h : AH) : D → R (List D × AH)
  | .dct kvs => if lenOk kvs.length then .ok (kvs.map fun kv => f (kv.1, .int kv.2), h) else .bad
  | .ref n => (match h[n]? with
    | some (.dct kvs) => if lenOk kvs.length then .ok (kvs.map f, h.set n (.fz kvs)) else .bad
    | some (.fz kvs) => if lenOk kvs.length then .ok (kvs.map f, h) else .bad
    | _ => .bad)
  | _ => .bad
def itemsD : D → R (List D)
  | .tup xs => .ok xs
  | .lst xs => .ok xs
  | .scr ns => .ok (ns.map .int)
  | .str z => if lenOk z.cps.size then .ok (z.cps.toList.map fun c => .str ⟨#[c]⟩) else .bad
  | _ => .bad
def intD : D → R Int
  | .int i => .ok i
  | _ => .bad
def smallI (i : Int) : Bool := decide (-(2 ^ 62) ≤ i) && decide (i < 2 ^ 62)
def smallR (i j : Int) : Bool := smallI i && smallI j && decide (j - i ≤ 16777216)
def idxD : D → D → R D
  | .lst xs, y => if y.okq && (D.lst xs).okq then (match xs.findIdx? (fun z => PyData.eqv z.py y.py) with
    | some j => .ok (.int (j : Nat))
    | none => .bad) else .bad
  | _, _ => .bad
def fmtD : D → R Str
  | .str y => if lenOk y.length then .ok y else .bad
  | .int i => if decide (i.natAbs.log2 < 1920) then .ok (toString i) else .bad
  | _ => .bad
def upperD : D → R D
  | .str a => if decide (a.length ≤ 5592405) then .ok (.str (Txt.upper a)) else .bad
  | _ => .bad
def joinD : D → D → R D
  | .str a, .lst ys => (match strsOf ys with
    | some ss => if lenOk ((ss.map (·.length)).sum + ss.length * a.length) then .ok (.str (Txt.join a ss)) else .bad
    | none => .bad)
  | _, _ => .bad
def bitsD : D → R D
  | .int i => .ok (.int (Builtin.Int.intBits i : Nat))
  | _ => .bad
def rngOk (i j : Int) : Bool := decide (-(2 ^ 62) ≤ i) && (decide (i < 2 ^ 62) && (decide (-(2 ^ 62) ≤ j) && (decide (j < 2 ^ 62) && decide ((j - i).toNat ≤ 16777216))))
def rngD (i j : Int) : List D := (List.range (j - i).toNat).map fun (k : Nat) => .int (i + (k : Int))
def rng3N (i j c : Int) : Nat := (Builtin.Range.rangeSize i j c).toNat
def rng3D (i j c : Int) : R (List D) := if decide (c ≠ 0) && (decide (c.natAbs < 1073741824) && (Builtin.Range.small i j c && (decide (Builtin.Range.rangeSize i j c = (rng3N i j c : Int)) && lenOk (rng3N i j c)))) then .ok ((List.range (rng3N i j c)).map fun (k : Nat) => .int (i + (k : Int) * c)) else .bad
def enumD : D → R (List D)
  | .lst xs => if lenOk xs.length then .ok (xs.zipIdx.map fun p => .tup [.int (p.2 : Nat), p.1]) else .bad
  | .tup xs => if lenOk xs.length then .ok (xs.zipIdx.map fun p => .tup [.int (p.2 : Nat), p.1]) else .bad
  | .str z => if lenOk z.cps.size then .ok ((z.cps.toList.map fun c => D.str ⟨#[c]⟩).zipIdx.map fun p => .tup [.int (p.2 : Nat), p.1]) else .bad
  | _ => .bad
def zipD : D → D → R (List D)
  | .lst xs, .lst ys => if lenOk xs.length then .ok ((xs.zip ys).map fun p => .tup [p.1, p.2]) else .bad
  | .tup xs, .tup ys => if lenOk xs.length then .ok ((xs.zip ys).map fun p => .tup [p.1, p.2]) else .bad
  | _, _ => .bad
def kindD (h : AH) : D → Option String
  | .non => some "NoneType"
  | .bl _ => some "bool"
  | .int _ => some "int"
  | .str _ => some "str"
  | .tup _ => some "tuple"
  | .lst _ => some "list"
  | .scr _ => some "list"
  | .ref n => match h[n]? with
    | some (.lst _) => some "list"
    | some (.dct _) => some "dict"
    | some (.fz _) => some "dict"
    | none => none
  | .dct _ => some "dict"
  | .fn _ => none
def tyNames : List String := ["str", "tuple", "list", "dict", "int", "bool"]
def kinds : List String := ["NoneType", "bool", "int", "str", "tuple", "list", "dict"]
def isSub (k t : String) : Bool := k == t || (k == "bool" && t == "int")
def isTys (h : AH) (d : D) (ts : List String) : R Bool := match kindD h d with
  | some k => .ok (ts.any fun t => isSub k t)
  | none => .bad
def maxL : List Int → Option Int
  | [] => none
  | x :: xs => some (xs.foldl max x)
def minL : List Int → Option Int
  | [] => none
  | x :: xs => some (xs.foldl min x)
def insI (x : Int) : List Int → List Int
  | [] => [x]
  | y :: ys => if x ≤ y then x :: y :: ys else y :: insI x ys
def sortI : List Int → List Int
  | [] => []
  | x :: xs => insI x (sortI xs)
def insU (x : Int) : List Int → List Int
  | [] => [x]
  | y :: ys => if x < y then x :: y :: ys else if x = y then y :: ys else y :: insU x ys
def setI : List Int → List Int
  | [] => []
  | x :: xs => insU x (setI xs)
def pairC : D → Option Int
  | .tup [.int i, .int j] => if decide (0 ≤ i) && (decide (i < 64) && (decide (0 ≤ j) && decide (j < 64))) then some (i * 64 + j) else none
  | _ => none
def pairsC : List D → Option (List Int)
  | [] => some []
  | d :: ds => match pairC d, pairsC ds with
    | some c, some cs => some (c :: cs)
    | _, _ => none
def decC (c : Int) : D := .tup [.int (c / 64), .int (c % 64)]
def sortP (xs : List D) : R D := match pairsC xs with
  | some cs => if decide (cs.length < 64) then .ok (.lst ((sortI cs).map decC)) else .bad
  | none => .bad
def setP (xs : List D) : R D := match pairsC xs with
  | some cs => if decide (cs.length < 64) then .ok (.lst ((setI cs).map decC)) else .bad
  | none => .bad
def ssetD : D → R D
  | .lst xs => (match intsOf xs with | some ns => if decide (ns.length < 64) || (decide ((setI ns).length < 64) && decide (ns.length ≤ 4000)) then .ok (.lst ((setI ns).map .int)) else .bad | none => setP xs)
  | .tup xs => (match intsOf xs with | some ns => if decide (ns.length < 64) || (decide ((setI ns).length < 64) && decide (ns.length ≤ 4000)) then .ok (.lst ((setI ns).map .int)) else .bad | none => .bad)
  | _ => .bad
def insS (x : Str) : List Str → List Str
  | [] => [x]
  | y :: ys => if Spec.ltCps y.cps.toList x.cps.toList then y :: insS x ys else x :: y :: ys
def sortS : List Str → List Str
  | [] => []
  | x :: xs => insS x (sortS xs)
def signD (z : Str) : List D := z.cps.toList.map fun c => .str ⟨#[c]⟩
def b_len (h : AH) : List D → R D
  | [.str z] => if lenOk z.length then .ok (.int z.length) else .bad
  | [.tup xs] => .ok (.int xs.length)
  | [.lst xs] => .ok (.int xs.length)
  | [.ref n] => (match h[n]? with
    | some (.lst xs) => .ok (.int xs.length)
    | some (.dct kvs) => .ok (.int kvs.length)
    | _ => .bad)
  | _ => .bad
def b_tuple (h : AH) : List D → R D
  | [.tup xs] => .ok (.tup xs)
  | [.lst xs] => .ok (.tup xs)
  | [.str z] => if lenOk z.cps.size then .ok (.tup (signD z)) else .bad
  | [.ref n] => (match h[n]? with
    | some (.lst xs) => .ok (.tup xs)
    | _ => .bad)
  | _ => .bad
def b_list (h : AH) : List D → R D
  | [.tup xs] => .ok (.lst xs)
  | [.lst xs] => .ok (.lst xs)
  | [.str z] => if lenOk z.cps.size then .ok (.lst (signD z)) else .bad
  | [.ref n] => (match h[n]? with
    | some (.dct kvs) => .ok (.lst (kvs.map fun kv => keyV kv.1))
    | _ => .bad)
  | [.dct kvs] => .ok (.lst (kvs.map fun kv => keyV kv.1))
  | _ => .bad
def b_int (h : AH) : List D → R D
  | [.int i] => .ok (.int i)
  | [.bl b] => .ok (.int (if b then 1 else 0))
  | _ => .bad
def b_abs (h : AH) : List D → R D
  | [.int i] => .ok (.int (if i < 0 then -i else i))
  | _ => .bad
def b_sum (h : AH) : List D → R D
  | [.lst xs] => (match intsOf xs with | some ns => .ok (.int ns.sum) | none => .bad)
  | _ => .bad
def b_all (h : AH) : List D → R D
  | [.lst xs] => (match blsOf xs with | some bs => .ok (.bl (bs.all id)) | none => .bad)
  | _ => .bad
def b_any (h : AH) : List D → R D
  | [.lst xs] => (match blsOf xs with | some bs => .ok (.bl (bs.any id)) | none => .bad)
  | _ => .bad
def b_max (h : AH) : List D → R D
  | [.lst xs] => (match (intsOf xs).bind maxL with | some m => .ok (.int m) | none => .bad)
  | [.tup xs] => (match (intsOf xs).bind maxL with | some m => .ok (.int m) | none => .bad)
  | [.int i, .int j] => .ok (.int (if i < j then j else i))
  | _ => .bad
def minS (z : Str) (zs : List Str) : Str := zs.foldl (fun a y => if decide (y.cps.toList < a.cps.toList) then y else a) z
def b_min (h : AH) : List D → R D
  | [.lst xs] => (match (intsOf xs).bind minL with
    | some m => .ok (.int m)
    | none => (match strsOf xs with | some (z :: zs) => .ok (.str (minS z zs)) | _ => .bad))
  | [.int i, .int j] => .ok (.int (if j < i then j else i))
  | _ => .bad
def intKs : List (Key × D) → Option (List Int)
  | [] => some []
  | (.inl i, _) :: r => (intKs r).map (i :: ·)
  | (.inr _, _) :: _ => none
def b_sorted (h : AH) : List D → R D
  | [.ref n] => (match h[n]? with
    | some (.dct kvs) => (match intKs kvs with | some ks => if decide (ks.length < 64) then .ok (.lst ((sortI ks).map .int)) else .bad | none => .bad)
    | some (.lst xs) => (match intsOf xs with | some ns => .ok (.lst ((sortI ns).map .int)) | none => sortP xs)
    | _ => .bad)
  | [.lst xs] => (match intsOf xs with | some ns => .ok (.lst ((sortI ns).map .int)) | none => (match strsOf xs with | some ss => if decide (ss.length < 64) then .ok (.lst ((sortS ss).map .str)) else .bad | none => sortP xs))
  | _ => .bad
def b_repr (h : AH) : List D → R D
  | [d] => if (d.okq || d.okr) && PyData.showable d.py && lenOk (PyData.shown d.py).length then .ok (.str (PyData.shown d.py))
    else if (d.res h).okq && PyData.showable (d.res h).py && lenOk (PyData.shown (d.res h).py).length then .ok (.str (PyData.shown (d.res h).py)) else .bad
  | _ => .bad
def pairD : D → Option (Key × Int)
  | .tup [.str s, .int i] => some (.inr s, i)
  | .tup [.int k, .int i] => some (.inl k, i)
  | _ => none
def pairsD : List D → Option (List (Key × Int))
  | [] => some []
  | d :: ds => match pairD d, pairsD ds with
    | some p, some ps => some (p :: ps)
    | _, _ => none
def nodupKs : List Key → Bool
  | [] => true
  | k :: ks => !(ks.any fun j => decide (j = k)) && nodupKs ks
def mkDct (xs : List D) : R D := match pairsD xs with
  | some kvs => if nodupKs (kvs.map (·.1)) && lenOk xs.length then .ok (.dct kvs) else .bad
  | none => .bad
def b_dict (h : AH) : List D → R D
  | [.tup xs] => mkDct xs
  | [.lst xs] => mkDct xs
  | _ => .bad
def bltD2 (h : AH) (f : String) (args : List D) : R D := if f = "dict" then b_dict h args else .bad
def bltD (h : AH) (f : String) (args : List D) : R D :=
  if f = "len" then b_len h args
  else if f = "tuple" then b_tuple h args
  else if f = "list" then b_list h args
  else if f = "int" then b_int h args
  else if f = "abs" then b_abs h args
  else if f = "sum" then b_sum h args
  else if f = "all" then b_all h args
  else if f = "any" then b_any h args
  else if f = "max" then b_max h args
  else if f = "min" then b_min h args
  else if f = "sorted" then b_sorted h args
  else if f = "repr" then b_repr h args
  else bltD2 h f args

def frNm (f : Str) : Bool := decide (f = "row_letters") || decide (f = "next_pairs") || decide (f = "ahead_pairs") || decide (f = "places") || decide (f = "gathered") || decide (f = "lots") || decide (f = "sorts_of_row") || decide (f = "reader_letters") || decide (f = "broken_rules") || decide (f = "trace")
def fr : E → Bool
  | .call f _ => frNm f
  | .lst _ => true
  | .bin _ _ _ => true
  | .slb _ _ _ => true
  | .sl _ _ _ => true
  | .slr _ _ _ => true
  | .rev _ => true
  | .blt _ _ => true
  | .comp _ _ _ _ _ => true
  | .comp2 _ _ _ _ _ _ _ _ _ => true
  | .lrng _ _ _ => true
  | .sset _ => true
  | .lstb _ => true
  | .ite _ a b => fr a && fr b
  | _ => false

def getS (σ : Env) (i : Nat) : R D := match σ[i]? with
  | some (.val d) => .ok d
  | some (.own xs) => .ok (.lst xs)
  | _ => .bad
def getO (σ : Env) (i : Nat) : R (List D) := match σ[i]? with
  | some (.own xs) => .ok xs
  | _ => .bad
def getL (σ : Env) (i : Nat) : R (List D) := match σ[i]? with
  | some (.own xs) => .ok xs
  | some (.val (.lst xs)) => .ok xs
  | _ => .bad
def fnS (σ : Env) (i : Nat) : R Str := match σ[i]? with
  | some (.val (.fn f)) => .ok f
  | _ => .bad
def frzS (σ : Env) (i : Nat) : Env := match σ[i]? with
  | some (.own xs) => σ.set i (.val (.lst xs))
  | _ => σ
def putTg : Tg → D → Env → R Env
  | .name i, d, σ => .ok (σ.set i (.val d))
  | .tup is, .tup xs, σ => if is.length = xs.length then .ok ((is.zip xs).foldl (fun s p => s.set p.1 (.val p.2)) σ) else .bad
  | .tup is, .lst xs, σ => if is.length = xs.length then .ok ((is.zip xs).foldl (fun s p => s.set p.1 (.val p.2)) σ) else .bad
  | _, _, _ => .bad
def killS (σ : Env) : List Nat → Env
  | [] => σ
  | i :: r => (killS σ r).set i .no
def backS (σ0 σ : Env) : List Nat → Env
  | [] => σ
  | i :: r => (backS σ0 σ r).set i (match σ0[i]? with | some (.val d) => .val d | _ => .no)

abbrev Call := Str → List D → AH → R (D × AH)
abbrev Glob := Str → Option D

def compL (turn : D → Env → AH → R (Option D × Env × AH)) : List D → List D → Env → AH → R (List D × Env × AH)
  | [], acc, σ, h => .ok (acc, σ, h)
  | x :: xs, acc, σ, h => do
    let (o, σ, h) ← turn x σ h
    compL turn xs (match o with | some d => acc ++ [d] | none => acc) σ h
def compO (turn : D → List D → Env → AH → R (List D × Env × AH)) : List D → List D → Env → AH → R (List D × Env × AH)
  | [], acc, σ, h => .ok (acc, σ, h)
  | x :: xs, acc, σ, h => do
    let (acc, σ, h) ← turn x acc σ h
    compO turn xs acc σ h
def pop0D (σ : Env) (h : AH) (i : Nat) : R (D × Env × AH) :=
  match σ[i]? with
  | some (.own xs) => match xs[xs.length - 1]? with
    | some d => .ok (d, σ.set i (.own xs.dropLast), h)
    | none => .bad
  | some (.val (.ref n)) => match h[n]? with
    | some (.lst xs) => match xs[xs.length - 1]? with
      | some d => .ok (d, σ, h.set n (.lst xs.dropLast))
      | none => .bad
    | _ => .bad
  | _ => .bad
def popAD (σ : Env) (i : Nat) (xs : List D) (j : Int) : R (D × Env) :=
  match ixN xs.length j with
  | some n => match xs[n]? with
    | some d => if smallI j then .ok (d, σ.set i (.own (xs.eraseIdx n))) else .bad
    | none => .bad
  | none => .bad
def refL (h : AH) : D → R (List D)
  | .ref n => (match h[n]? with
    | some (.lst xs) => .ok xs
    | _ => .bad)
  | _ => .bad
def addR (h : AH) (x d : D) : R AH := match x with
  | .ref n => (match h[n]? with
    | some (.lst xs) => if lenOk (xs.length + 1) then .ok (h.set n (.lst (xs ++ [d]))) else .bad
    | _ => .bad)
  | _ => .bad
def lstD : D → R (List D)
  | .lst ys => .ok ys
  | _ => .bad
def methD (h : AH) (m : Str) (o : D) (args : List D) : R D := .bad

section
variable (G : Glob) (C : Call)
mutual
def ev : E → Env → AH → R (D × Env × AH)
  | .non, σ, h => .ok (.non, σ, h)
  | .bl b, σ, h => .ok (.bl b, σ, h)
  | .int i, σ, h => .ok (.int i, σ, h)
  | .str s, σ, h => .ok (.str s, σ, h)
  | .var i, σ, h => do let d ← getS σ i; .ok (d, frzS σ i, h)
  | .ixb i b, σ, h => do let _ ← getL σ i; let (y, σ, h) ← ev b σ h; let xs ← getL σ i; let d ← ixD h (.lst xs) y; .ok (d, σ, h)
  | .slb i lo hi, σ, h => do let _ ← getL σ i; let (l, σ, h) ← evo lo σ h; let (u, σ, h) ← evo hi σ h; let xs ← getL σ i; let d ← slD (.lst xs) l u; .ok (d, σ, h)
  | .lenb i, σ, h => do let xs ← getL σ i; .ok (.int xs.length, σ, h)
  | .inb neg a i, σ, h => do let (x, σ, h) ← ev a σ h; let xs ← getL σ i; let r ← anyD x xs; .ok (.bl (r != neg), σ, h)
  | .glob x, σ, h => do let d ← ofO (G x); .ok (d, σ, h)
  | .tup es, σ, h => do let (ds, σ, h) ← evs es σ h; if lenOk ds.length then .ok (.tup ds, σ, h) else .bad
  | .lst es, σ, h => do let (ds, σ, h) ← evs es σ h; if lenOk ds.length then .ok (.lst ds, σ, h) else .bad
  | .bin op a b, σ, h => do let (x, σ, h) ← ev a σ h; let (y, σ, h) ← ev b σ h; let d ← binD op x y; .ok (d, σ, h)
  | .neg a, σ, h => do let (x, σ, h) ← ev a σ h; let i ← intD x; .ok (.int (-i), σ, h)
  | .not a, σ, h => do let (x, σ, h) ← ev a σ h; let b ← truthy h x; .ok (.bl !b, σ, h)
  | .cmp op a b, σ, h => do let (x, σ, h) ← ev a σ h; let (y, σ, h) ← ev b σ h; let r ← cmpD h op x y; .ok (.bl r, σ, h)
  | .chain o1 o2 a b c, σ, h => do
    let (x, σ, h) ← ev a σ h; let (y, σ, h) ← ev b σ h; let r ← cmpD h o1 x y
    if r then do let (z, σ, h) ← ev c σ h; let r ← cmpD h o2 y z; .ok (.bl r, σ, h) else .ok (.bl false, σ, h)
  | .and es, σ, h => evand es σ h
  | .or es, σ, h => evor es σ h
  | .ite c a b, σ, h => do let (r, σ, h) ← evt c σ h; if r then ev a σ h else ev b σ h
  | .call f es, σ, h => do let (ds, σ, h) ← evs es σ h; let (d, h) ← C f ds h; .ok (d, σ, h)
  | .callv i es, σ, h => do let f ← fnS σ i; let (ds, σ, h) ← evs es σ h; let (d, h) ← C f ds h; .ok (d, σ, h)
  | .blt f es, σ, h => do let (ds, σ, h) ← evs es σ h; let d ← bltD h f ds; .ok (d, σ, h)
  | .isi a tys, σ, h => do let (x, σ, h) ← ev a σ h; let b ← isTys h x tys; .ok (.bl b, σ, h)
  | .meth m o es, σ, h => do let (x, σ, h) ← ev o σ h; let (ds, σ, h) ← evs es σ h; let d ← methD h m x ds; .ok (d, σ, h)
  | .pop0 i, σ, h => pop0D σ h i
  | .popA i e, σ, h => do let _ ← getO σ i; let (y, σ, h) ← ev e σ h; let j ← intD y; let xs ← getO σ i; let (d, σ) ← popAD σ i xs j; .ok (d, σ, h)
  | .ix a b, σ, h => do let (x, σ, h) ← ev a σ h; let (y, σ, h) ← ev b σ h; let d ← ixD h x y; .ok (d, σ, h)
  | .sl a lo hi, σ, h => do let (x, σ, h) ← ev a σ h; let (l, σ, h) ← evo lo σ h; let (u, σ, h) ← evo hi σ h; let d ← slD x l u; .ok (d, σ, h)
  | .rev a, σ, h => do let (x, σ, h) ← ev a σ h; let d ← revD x; .ok (d, σ, h)
  | .bits a, σ, h => do let (x, σ, h) ← ev a σ h; let d ← bitsD x; .ok (d, σ, h)
  | .idx o a, σ, h => do let (x, σ, h) ← ev o σ h; let (y, σ, h) ← ev a σ h; let d ← idxD x y; .ok (d, σ, h)
  | .idxb i a, σ, h => do let _ ← getL σ i; let (y, σ, h) ← ev a σ h; let xs ← getL σ i; let d ← idxD (.lst xs) y; .ok (d, σ, h)
  | .idxr o a, σ, h => do let (x, σ, h) ← ev o σ h; let _ ← refL h x; let (y, σ, h) ← ev a σ h; let xs ← refL h x; let d ← idxD (.lst xs) y; .ok (d, σ, h)
  | .lvals e, σ, h => do let (x, σ, h) ← ev e σ h; let xs ← valsD x; .ok (.lst xs, σ, h)
  | .slr a lo hi, σ, h => do let (x, σ, h) ← ev a σ h; let _ ← refL h x; let (l, σ, h) ← evo lo σ h; let (u, σ, h) ← evo hi σ h; let xs ← refL h x; let d ← slD (.lst xs) l u; .ok (d, σ, h)
  | .join a l, σ, h => do let (x, σ, h) ← ev a σ h; let (y, σ, h) ← ev l σ h; let d ← joinD x y; .ok (d, σ, h)
  | .lrng t a b, σ, h => do
    let (x, σ, h) ← ev a σ h; let (y, σ, h) ← ev b σ h; let i ← intD x; let j ← intD y
    if rngOk i j then .ok (if t then .tup (rngD i j) else .lst (rngD i j), σ, h) else .bad
  | .comp elt tg it ifs own, σ, h => do
    let (xs, σ, h) ← evi it σ h
    let (ds, σ1, h) ← compL (fun x σ1 h => do
      let σ2 ← putTg tg x σ1
      let (b, σ2, h) ← evts ifs σ2 h
      if b then do let (d, σ2, h) ← ev elt σ2 h; .ok (some d, killS σ2 own, h) else .ok (none, killS σ2 own, h)) xs [] (killS σ own) h
    .ok (.lst ds, backS σ σ1 own, h)
  | .comp2 elt tg it ifs tg1 it1 ifs1 own own1, σ, h => do
    let (xs, σ, h) ← evi it σ h
    let (ds, σ1, h) ← compO (fun x acc σ1 h => do
      let σ2 ← putTg tg x σ1
      let (b, σ2, h) ← evts ifs σ2 h
      if b then do
        let (ys, σ2, h) ← evi it1 σ2 h
        let (acc, σ3, h) ← compL (fun y σ1 h => do
          let σ2 ← putTg tg1 y σ1
          let (b, σ2, h) ← evts ifs1 σ2 h
          if b then do let (d, σ2, h) ← ev elt σ2 h; .ok (some d, killS σ2 own1, h) else .ok (none, killS σ2 own1, h)) ys acc (killS σ2 own1) h
        .ok (acc, killS σ3 own, h)
      else .ok (acc, killS σ2 own, h)) xs [] (killS σ own) h
    if lenOk ds.length then .ok (.lst ds, backS σ σ1 own, h) else .bad
  | .fstr es, σ, h => do let (z, σ, h) ← evf es Str.empty σ h; .ok (.str z, σ, h)
  | .upper e, σ, h => do let (x, σ, h) ← ev e σ h; let d ← upperD x; .ok (d, σ, h)
  | .never, _, _ => .bad
  | .dlit kvs, σ, h => .ok (.dct kvs, σ, h)
  | .sset e, σ, h => do let (x, σ, h) ← ev e σ h; let d ← ssetD x; .ok (d, σ, h)
  | .lstb i, σ, h => do let xs ← getL σ i; .ok (.lst xs, σ, h)
  | .repb i, σ, h => do let xs ← getL σ i; if (D.lst xs).okq && PyData.showable (D.lst xs).py && lenOk (PyData.shown (D.lst xs).py).length then .ok (.str (PyData.shown (D.lst xs).py), σ, h) else .bad
  | .newd es, σ, h => do let (kvs, σ, h) ← evk es σ h; .ok (.ref h.length, σ, h ++ [.dct kvs])
  | .new1 a b, σ, h => do let (x, σ, h) ← ev a σ h; let (y, σ, h) ← ev b σ h; let k ← ofO (keyD x); .ok (.ref h.length, σ, h ++ [.dct [(k, y)]])
  | .newl e, σ, h => do let (x, σ, h) ← ev e σ h; let xs ← lstD x; .ok (.ref h.length, σ, h ++ [.lst xs])
def evo : Eo → Env → AH → R (Option Int × Env × AH)
  | .no, σ, h => .ok (none, σ, h)
  | .so e, σ, h => do let (x, σ, h) ← ev e σ h; let i ← intD x; .ok (some i, σ, h)
def evs : Es → Env → AH → R (List D × Env × AH)
  | .nil, σ, h => .ok ([], σ, h)
  | .cons false e r, σ, h => do let (x, σ, h) ← ev e σ h; let (xs, σ, h) ← evs r σ h; .ok (x :: xs, σ, h)
  | .cons true e r, σ, h => do
    let (x, σ, h) ← ev e σ h
    match x with
    | .tup ys => do let (xs, σ, h) ← evs r σ h; .ok (ys ++ xs, σ, h)
    | .lst ys => do let (xs, σ, h) ← evs r σ h; .ok (ys ++ xs, σ, h)
    | _ => .bad
def evf : Es → Str → Env → AH → R (Str × Env × AH)
  | .nil, acc, σ, h => .ok (acc, σ, h)
  | .cons _ e r, acc, σ, h => do
    let (x, σ, h) ← ev e σ h
    let y ← fmtD x
    if lenOk (acc ++ y).length then evf r (acc ++ y) σ h else .bad
def evand : Es → Env → AH → R (D × Env × AH)
  | .nil, _, _ => .bad
  | .cons _ e .nil, σ, h => ev e σ h
  | .cons _ e r, σ, h => do let (x, σ, h) ← ev e σ h; let b ← truthy h x; if b then evand r σ h else .ok (x, σ, h)
def evor : Es → Env → AH → R (D × Env × AH)
  | .nil, _, _ => .bad
  | .cons _ e .nil, σ, h => ev e σ h
  | .cons _ e r, σ, h => do let (x, σ, h) ← ev e σ h; let b ← truthy h x; if b then .ok (x, σ, h) else evor r σ h
def evk : Kvs → Env → AH → R (List (Key × D) × Env × AH)
  | .nil, σ, h => .ok ([], σ, h)
  | .cons k sh e r, σ, h => do
    let (x, σ, h) ← ev e σ h
    if sh then (match x with
      | .lst xs => do
        let (kvs, σ, h') ← evk r σ (h ++ [.lst xs])
        .ok ((.inr k, .ref h.length) :: kvs, σ, h')
      | _ => .bad)
    else do
      let (kvs, σ, h) ← evk r σ h
      .ok ((.inr k, x) :: kvs, σ, h)
def evt : T → Env → AH → R (Bool × Env × AH)
  | .tru e, σ, h => do let (x, σ, h) ← ev e σ h; let b ← truthy h x; .ok (b, σ, h)
  | .inb neg a i, σ, h => do let (x, σ, h) ← ev a σ h; let xs ← getL σ i; let r ← anyD x xs; .ok (r != neg, σ, h)
  | .not t, σ, h => do let (b, σ, h) ← evt t σ h; .ok (!b, σ, h)
  | .and ts, σ, h => evts ts σ h
  | .or ts, σ, h => evto ts σ h
  | .ite c a b, σ, h => do let (r, σ, h) ← evt c σ h; if r then evt a σ h else evt b σ h
  | .cmp op a b, σ, h => do let (x, σ, h) ← ev a σ h; let (y, σ, h) ← ev b σ h; let r ← cmpD h op x y; .ok (r, σ, h)
  | .chain o1 o2 a b c, σ, h => do
    let (x, σ, h) ← ev a σ h; let (y, σ, h) ← ev b σ h; let r ← cmpD h o1 x y
    if r then do let (z, σ, h) ← ev c σ h; let r ← cmpD h o2 y z; .ok (r, σ, h) else .ok (false, σ, h)
def evts : Ts → Env → AH → R (Bool × Env × AH)
  | .nil, σ, h => .ok (true, σ, h)
  | .cons t r, σ, h => do let (b, σ, h) ← evt t σ h; if b then evts r σ h else .ok (false, σ, h)
def evto : Ts → Env → AH → R (Bool × Env × AH)
  | .nil, σ, h => .ok (false, σ, h)
  | .cons t r, σ, h => do let (b, σ, h) ← evt t σ h; if b then .ok (true, σ, h) else evto r σ h
def evi : I → Env → AH → R (List D × Env × AH)
  | .val e, σ, h => do let (x, σ, h) ← ev e σ h; let xs ← itemsD x; .ok (xs, σ, h)
  | .rng1 a, σ, h => do
    let (x, σ, h) ← ev a σ h; let j ← intD x
    if smallR 0 j then .ok ((List.range j.toNat).map fun (k : Nat) => .int (0 + (k : Int)), σ, h) else .bad
  | .rng2 a b, σ, h => do
    let (x, σ, h) ← ev a σ h; let (y, σ, h) ← ev b σ h; let i ← intD x; let j ← intD y
    if smallR i j then .ok ((List.range (j - i).toNat).map fun (k : Nat) => .int (i + (k : Int)), σ, h) else .bad
  | .rng3 a b c, σ, h => do
    let (x, σ, h) ← ev a σ h; let (y, σ, h) ← ev b σ h; let (z, σ, h) ← ev c σ h; let i ← intD x; let j ← intD y; let c ← intD z
    let xs ← rng3D i j c; .ok (xs, σ, h)
  | .enum e, σ, h => do let (x, σ, h) ← ev e σ h; let xs ← enumD x; .ok (xs, σ, h)
  | .zip a b, σ, h => do let (x, σ, h) ← ev a σ h; let (y, σ, h) ← ev b σ h; let xs ← zipD x y; .ok (xs, σ, h)
  | .keys e, σ, h => do let (x, σ, h) ← ev e σ h; let (xs, h) ← walkH (fun kv => keyV kv.1) h x; .ok (xs, σ, h)
  | .vals e, σ, h => do let (x, σ, h) ← ev e σ h; let (xs, h) ← walkH (·.2) h x; .ok (xs, σ, h)
  | .items e, σ, h => do let (x, σ, h) ← ev e σ h; let (xs, h) ← walkH entryD h x; .ok (xs, σ, h)
end
inductive Out where
  | nx (σ : Env) (h : AH) | rt (d : D) (h : AH) | bk (σ : Env) (h : AH) | ct (σ : Env) (h : AH)
  deriving Inhabited

def forL (tg : Tg) (kill : List Nat) (body : Env → AH → R Out) : List D → Env → AH → R Out
  | [], σ, h => .ok (.nx σ h)
  | x :: xs, σ, h => do
    let σ ← putTg tg x σ
    match ← body σ h with
    | .nx σ h => forL tg kill body xs (killS σ kill) h
    | .ct σ h => forL tg kill body xs (killS σ kill) h
    | .bk σ h => .ok (.nx (killS σ kill) h)
    | .rt d h => .ok (.rt d h)
def whileL (c : Env → AH → R (Bool × Env × AH)) (kill : List Nat) (body : Env → AH → R Out) : Nat → Env → AH → R Out
  | 0, _, _ => .bad
  | n + 1, σ, h => do
    let (b, σ, h) ← c σ h
    if b then (do
      match ← body σ h with
      | .nx σ h => whileL c kill body n (killS σ kill) h
      | .ct σ h => whileL c kill body n (killS σ kill) h
      | .bk σ h => .ok (.nx (killS σ kill) h)
      | .rt d h => .ok (.rt d h))
    else .ok (.nx σ h)
def wfuel : Nat := 100000
def slotOf (own : Bool) (d : D) : R Slot := if own then (match d with | .lst xs => .ok (.own xs) | _ => .ok (.val d)) else .ok (.val d)
def parS : List Nat → List Bool → List D → Env → R Env
  | [], [], [], σ => .ok σ
  | i :: is, o :: os, d :: ds, σ => do let s ← slotOf o d; parS is os ds (σ.set i s)
  | _, _, _, _ => .bad
def preL (σ : Env) (h : AH) (i : Nat) : R Unit := match σ[i]? with
  | some (.own _) => .ok ()
  | some (.val (.ref n)) => (match h[n]? with | some (.lst _) => .ok () | _ => .bad)
  | _ => .bad
def preV (σ : Env) (i : Nat) : R Unit := match σ[i]? with
  | some (.own _) => .ok ()
  | some (.val _) => .ok ()
  | _ => .bad
def appD (σ : Env) (h : AH) (i : Nat) (ys : List D) : R (Env × AH) :=
  match σ[i]? with
  | some (.own xs) => if lenOk (xs.length + ys.length) then .ok (σ.set i (.own (xs ++ ys)), h) else .bad
  | some (.val (.ref n)) => (match h[n]? with
    | some (.lst xs) => if lenOk (xs.length + ys.length) then .ok (σ, h.set n (.lst (xs ++ ys))) else .bad
    | _ => .bad)
  | _ => .bad
def setD (σ : Env) (h : AH) (i : Nat) (k d : D) : R (Env × AH) :=
  match σ[i]? with
  | some (.own xs) => (match k with
    | .int j => (match ixN xs.length j with
      | some n => .ok (σ.set i (.own (xs.set n d)), h)
      | none => .bad)
    | _ => .bad)
  | some (.val (.ref n)) => (match h[n]?, keyD k with
    | some (.dct kvs), some k => if decide (kvs.length < sizeLine) then .ok (σ, h.set n (.dct (putK' kvs k d))) else .bad
    | some (.lst xs), some (.inl j) => (match ixN xs.length j with
      | some m => .ok (σ, h.set n (.lst (xs.set m d)))
      | none => .bad)
    | _, _ => .bad)
  | _ => .bad
mutual
def ex : S → Env → AH → R Out
  | .set i own e, σ, h => do let (d, σ, h) ← ev G C e σ h; let s ← slotOf own d; .ok (.nx (σ.set i s) h)
  | .sett is e, σ, h => do let (d, σ, h) ← ev G C e σ h; let σ ← putTg (.tup is) d σ; .ok (.nx σ h)
  | .par is os es, σ, h => do let (ds, σ, h) ← evs G C es σ h; let σ ← parS is os ds σ; .ok (.nx σ h)
  | .setsub i k e, σ, h => do
    let _ ← preV σ i
    let (d, σ, h) ← ev G C e σ h; let (kd, σ, h) ← ev G C k σ h
    let (σ, h) ← setD σ h i kd d; .ok (.nx σ h)
  | .app i e, σ, h => do let _ ← preL σ h i; let (d, σ, h) ← ev G C e σ h; let (σ, h) ← appD σ h i [d]; .ok (.nx σ h)
  | .appx o e, σ, h => do let (x, σ, h) ← ev G C o σ h; let _ ← refL h x; let (d, σ, h) ← ev G C e σ h; let h ← addR h x d; .ok (.nx σ h)
  | .ext i e, σ, h => do
    let _ ← preL σ h i
    let (d, σ, h) ← ev G C e σ h
    let ys ← lstD d
    let (σ, h) ← appD σ h i ys
    .ok (.nx σ h)
  | .expr e, σ, h => do let (_, σ, h) ← ev G C e σ h; .ok (.nx σ h)
  | .ret e, σ, h => do let (d, _, h) ← ev G C e σ h; .ok (.rt d h)
  | .retN, _, h => .ok (.rt .non h)
  | .retO i, σ, h => do let xs ← getO σ i; .ok (.rt (.lst xs) h)
  | .ite c a b, σ, h => do let (r, σ, h) ← evt G C c σ h; if r then exs a σ h else exs b σ h
  | .for_ tg it body kill, σ, h => do let (xs, σ, h) ← evi G C it σ h; forL tg kill (exs body) xs (killS σ kill) h
  | .while_ c body kill, σ, h => whileL (evt G C c) kill (exs body) wfuel (killS σ kill) h
  | .brk, σ, h => .ok (.bk σ h)
  | .cont, σ, h => .ok (.ct σ h)
  | .pass, σ, h => .ok (.nx σ h)
  | .raise _ _, _, _ => .bad
def exs : Ss → Env → AH → R Out
  | .nil, σ, h => .ok (.nx σ h)
  | .cons s r, σ, h => do
    match ← ex s σ h with
    | .nx σ h => exs r σ h
    | .rt d h => .ok (.rt d h)
    | .bk σ h => .ok (.bk σ h)
    | .ct σ h => .ok (.ct σ h)
end
end
structure Fn where
  ar : Nat
  n : Nat
  body : Ss
abbrev Tab := Str → Option Fn
def callN (G : Glob) (T : Tab) : Nat → Call
  | 0, _, _, _ => .bad
  | k + 1, f, args, h => match T f with
    | none => .bad
    | some fd => if fd.ar = args.length then (do
        match ← exs G (callN G T k) fd.body (args.map .val ++ List.replicate (fd.n - fd.ar) .no) h with
        | .rt d h => .ok (d, h)
        | .nx _ h => .ok (.non, h)
        | _ => .bad) else .bad
end EV
set_option maxRecDepth 100000
set_option maxHeartbeats 4000000
namespace EV
open PySem PySem.Spec PyProof.Rows L2
def NewT (Q : VK) (H : Hp) (vs : List V) : Prop := ∀ (p : Addr) (o : Obj), H p = none → o.dict = none → Q (.ref p) (upd H p (.frz o (.tup vs)))
section
variable {X : Cx}
theorem op_catN : OpR X (binaryOp .Add) (fun x y H Q => ∃ a b xs ys, x = .ref a ∧ y = .ref b ∧ SqT X.K H a xs ∧ SqT X.K H b ys ∧ xs.length + ys.length ≤ sizeLine ∧
    (xs = [] → Q (.ref b) H) ∧ (xs ≠ [] → ys = [] → Q (.ref a) H) ∧ (xs ≠ [] → ys ≠ [] → NewT Q H (xs ++ ys))) := by
  intro pins s σ H x y v u Q I rx ry h
  obtain ⟨a, b, xs, ys, rfl, rfl, ha, hb, hz, q0, q1, q2⟩ := h
  by_cases hx : xs = []
  · exact op_catA pins s σ H _ _ v u Q I rx ry ⟨a, b, xs, ys, rfl, rfl, ha, hb, hz, q0, q1, fun h => absurd hx h⟩
  cases rx
  cases ry
  obtain ⟨its, r1, p1, _⟩ := I.tuple ha
  obtain ⟨its2, r2, p2, _⟩ := I.tuple hb
  refine HT.cat_tup p1 p2 (fun z => hx (r1.nil_iff.mp z)) (fun z => ⟨.ref a, H, I, rfl, q1 hx (r2.nil_iff.mp z)⟩) (fun z => ?_) (by rw [← r1.length, ← r2.length]; exact hz)
  refine ⟨.ref s.heap.objs.size, _, I.laid (t' := s.toks) (o := .frz _ (.tup (xs ++ ys))) (fun b ob q => Heap.get?_push_of_some _ q) (Nat.le_refl _) ⟨Heap.get?_push_size _ rfl, ?_⟩, rfl, q2 hx (fun w => z (r2.nil_iff.mpr w)) _ _ (I.hok.fresh (Nat.le_refl _)) rfl⟩
  exact ⟨by rw [List.length_append]; exact hz, _, r1.append r2, IsTup.new _ _⟩
theorem fold_cat_size (z : Array Nat) : ∀ (k : Nat) (acc : Array Nat), ((List.replicate k z).foldl (· ++ ·) acc).size = acc.size + k * z.size
  | 0, acc => by simp
  | k + 1, acc => by
    rw [List.replicate_succ, List.foldl_cons, fold_cat_size z k, Array.size_append, Nat.succ_mul]
    omega
theorem repS_len (z : Str) (k : Nat) : (repS z k).length = k * z.length := by
  show ((List.replicate k z.cps).foldl (· ++ ·) #[]).size = k * z.cps.size
  rw [fold_cat_size]
  simp
theorem op_repS : OpR X (binaryOp .Mult) (fun x y H Q => ∃ (z : Str) (k : Int), x = .str z ∧ y = .int k ∧ 2 ≤ k ∧ k ≤ 1000 ∧ 1 ≤ z.length ∧ z.length ≤ 1000 ∧ Q (.str (repS z k.toNat)) H) := by
  intro pins s σ H x y v u Q I rx ry h
  obtain ⟨z, k, rfl, rfl, h1, h2, h3, h4, q⟩ := h
  obtain ⟨t, rfl⟩ := rx
  obtain ⟨t', rfl⟩ := ry
  have all : k.toNat * z.length ≤ 1000 * 1000 := Nat.mul_le_mul (by omega) h4
  have c0 : (decide (k < -(2 ^ 63)) || decide (k ≥ 2 ^ 63)) = false := by
    rw [decide_eq_false (by omega), decide_eq_false (by omega)] <;> rfl
  have c1 : (k == 1 || z.length == 0) = false := by
    rw [Bool.or_eq_false_iff]
    exact ⟨beq_eq_false_iff_ne.mpr (by omega), beq_eq_false_iff_ne.mpr (by omega)⟩
  have hl : z.length * k.toNat ≤ sizeLine := by
    rw [sizeLine_eq, Nat.mul_comm]
    omega
  refine PySem.P.mul_str c0 (fun _ _ => ?_) (fun _ _ => ?_) ?_
  · have : (1000 : Int) ≤ (2 ^ 63 - 1) / k := Int.le_ediv_of_mul_le (by omega) (by omega)
    omega
  · simpa [Builtin.Str.tooLong] using hl
  · rw [if_neg (by omega), if_neg (by rw [c1]; decide)]
    refine ⟨?_, .str (repS z k.toNat), H, I.tok _, ⟨_, rfl⟩, q⟩
    show (repS z k.toNat).length ≤ sizeLine
    rw [repS_len, Nat.mul_comm]
    exact hl
theorem op_repN : OpR X (binaryOp .Mult) (fun x y H Q => ∃ l k xs, x = .ref l ∧ y = .int k ∧ SqT X.K H l xs ∧ xs ≠ [] ∧ 2 ≤ k ∧ k ≤ 1000 ∧ xs.length ≤ 1000 ∧ NewT Q H (List.replicate k.toNat xs).flatten) := by
  intro pins s σ H x y v u Q I rx ry h
  obtain ⟨l, k, xs, rfl, rfl, hT, hne, h1, h2, hz, q⟩ := h
  cases rx
  obtain ⟨t, rfl⟩ := ry
  obtain ⟨its, r, ⟨⟨cls, dd, data, sl⟩, ho, hc, n, hd⟩, hs⟩ := I.tuple hT
  simp only at hc hd
  subst hc hd
  have hle : its.length = xs.length := r.length.symm
  have hi : its.toArray.isEmpty = false := by
    cases its with
    | nil => exact absurd (List.eq_nil_of_length_eq_zero (by rw [← hle]; rfl)) hne
    | cons a b => rfl
  have hsz0 : its.toArray.size = xs.length := by rw [List.size_toArray, hle]
  have hm : ((its.toArray.size : Nat) : Int) * k ≤ 1000000 := by
    have a1 : ((xs.length : Nat) : Int) * k ≤ 1000 * k := Int.mul_le_mul_of_nonneg_right (by omega) (by omega)
    rw [hsz0]
    omega
  have all : k.toNat * xs.length ≤ 1000 * 1000 := Nat.mul_le_mul (by omega) hz
  have flen : (List.replicate k.toNat its).flatten.length ≤ sizeLine := by
    rw [PyProof.Rows.lm_len_rep_flat, hle, sizeLine_eq]
    omega
  have c0 : (decide (k < -(2 ^ 63)) || decide (k ≥ 2 ^ 63)) = false := by
    rw [decide_eq_false (by omega), decide_eq_false (by omega)] <;> rfl
  have c1 : (its.toArray.isEmpty || k == 1) = false := by
    rw [hi, Bool.false_or]
    exact beq_eq_false_iff_ne.mpr (by omega)
  have c2 : (decide (k ≤ 0) || its.toArray.isEmpty) = false := by
    rw [hi, Bool.or_false]
    exact decide_eq_false (by omega)
  have c4 : Builtin.Tuple.tupleTooMany (((its.toArray.size : Nat) : Int) * k) = false := by
    unfold Builtin.Tuple.tupleTooMany
    rw [sizeLine_eq]
    exact decide_eq_false (by omega)
  refine wpAny_binaryOp_repeat_ref (T := "tuple") (U := "int") (by decide) ⟨_, ho, rfl⟩ (fun s' => typeIs_int s' k t) noFill_tuple_mul F.fills_int_mul F.slot_int_rmul repeat_tuple F.slot_int_index.lookup
    (call_meets F.slot_int_rmul (typeIs_int s k t) F.entry_int_rmul (F.args_int_rmul_2 _ _) (int_rmul_tuple k t l its.toArray n dd sl)
      ⟨ho, rfl, ⟨_, ho, rfl⟩, call_meets F.slot_tuple_mul ⟨_, ho, rfl⟩ F.entry_tuple_mul (F.args_tuple_mul_2 _ _) (tuple_mulW l its.toArray n dd sl k t c0 c1 c2 (by omega) c4 (by rw [size_rep, List.size_toArray]; exact flen)) ⟨ho, ?_⟩⟩)
  rw [size_rep]
  refine ⟨.ref s.heap.objs.size, _, I.laid (t' := s.toks) (o := .frz _ (.tup (List.replicate k.toNat xs).flatten)) (fun b ob q => Heap.get?_push_of_some _ q) (Nat.le_refl _) ⟨Heap.get?_push_size _ rfl, ?_⟩, rfl, q _ _ (I.hok.fresh (Nat.le_refl _)) rfl⟩
  exact ⟨by rw [PyProof.Rows.lm_len_rep_flat, sizeLine_eq]; omega, _, r.rep k.toNat, IsTup.new _ _⟩
def rSlN (K : PySem.W.Frag) : V → Option Int → Option Int → Hp → VK → Prop := fun x lo hi H Q => ∃ a xs, x = .ref a ∧ SqT K H a xs ∧
  (HT.sIx xs.length 0 lo = 0 ∧ HT.sIx xs.length xs.length hi = xs.length → Q (.ref a) H) ∧ (¬ (HT.sIx xs.length 0 lo = 0 ∧ HT.sIx xs.length xs.length hi = xs.length) → NewT Q H (cutV xs lo hi))
theorem sl_tupN : SlR X (rSlN X.K) := by
  intro pins s σ H x v vl vu lo hi sl Q I rx hs pl pu h
  obtain ⟨a, xs, rfl, hx, q1, q2⟩ := h
  by_cases hw : HT.sIx xs.length 0 lo = 0 ∧ HT.sIx xs.length xs.length hi = xs.length
  · exact sl_tupA pins s σ H _ v vl vu lo hi sl Q I rx hs pl pu ⟨a, xs, rfl, hx, q1, fun h => absurd hw h⟩
  cases rx
  obtain ⟨its, r, ht, hz⟩ := I.tuple hx
  have hlen : its.toArray.size = xs.length := by rw [List.size_toArray]; exact r.length.symm
  refine ⟨"tuple", _, PyProof.Rows.slot_tuple_getitem.lookup, ht.typeIs, ?_⟩
  refine HT.getItem_tuple_cut ht hs pl pu (by rw [hlen]; exact hw) ?_ (by rw [hlen]; exact hz)
  rw [hlen]
  refine ⟨.ref s.heap.objs.size, _, I.laid (t' := s.toks) (o := .frz _ (.tup (cutV xs lo hi))) (fun b ob q => Heap.get?_push_of_some _ q) (Nat.le_refl _) ⟨Heap.get?_push_size _ rfl, ?_⟩, rfl, q2 hw _ _ (I.hok.fresh (Nat.le_refl _)) rfl⟩
  exact ⟨Nat.le_trans (cutV_length xs lo hi) hz, _, (r.drop (HT.sIx xs.length 0 lo)).take (HT.sIx xs.length xs.length hi - HT.sIx xs.length 0 lo), IsTup.new _ _⟩
theorem call_tupleN : CallR X (.type "tuple") (fun xs H Q => ∃ p ys, xs = [.ref p] ∧ ((SqL X.K H p ys ∧ NewT Q H ys) ∨ (SqT X.K H p ys ∧ Q (.ref p) H))) := by
  intro pins s σ H xs us Q I r h
  obtain ⟨p, ys, rfl, h⟩ := h
  obtain ⟨u, rfl, rx⟩ := vals1 r
  cases rx
  rcases h with ⟨hq, q⟩ | ⟨hq, q⟩
  · obtain ⟨its, r', pl, hz⟩ := I.list hq
    have hlen := r'.length
    refine call_tuple_list pl.isList (fun h' kp => ?_) (by simp only [List.size_toArray] <;> omega)
    have I1 : Inv X pins σ H { s with heap := h' } := I.kept (t' := s.toks) kp
    exact ⟨.ref h'.objs.size, _, I1.laid (t' := s.toks) (o := .frz _ (.tup ys)) (fun b o e => Heap.get?_push_of_some _ e) (Nat.le_refl _) ⟨Heap.get?_push_size _ rfl, hz, its, r', IsTup.new _ _⟩, rfl, q _ _ (I1.hok.fresh (Nat.le_refl _)) rfl⟩
  · obtain ⟨its, r', pl, hz⟩ := I.tuple hq
    exact call_tuple_same pl ⟨.ref p, H, I, rfl, q⟩
def tTupN (t : TA) : TE := fun σ H Q => t σ H fun xs H1 => xs.length ≤ sizeLine ∧ NewT Q H1 xs
theorem pe_tupN {es : List Expr} {t : TA} {x1 pos} (h : PA X es t) : PE X (.Tuple es x1 pos) (tTupN t) := by
  refine ⟨fun pins s σ H Q I hq => ?_⟩
  refine wpAny_Tuple_spliced (thn (h.run pos pins s σ H _ I hq) fun us s1 ⟨xs, H1, I1, r, z, q⟩ => ⟨by rw [← r.length]; exact z, ?_⟩)
  exact ⟨.ref s1.heap.objs.size, _, I1.laid (t' := s1.toks) (o := .frz _ (.tup xs)) (fun b u e => Heap.get?_push_of_some _ e) (Nat.le_refl _) ⟨Heap.get?_push_size _ rfl, z, us, r, ⟨_, Heap.get?_push_size _ rfl, rfl, _, rfl⟩⟩, rfl, q _ _ (I1.hok.fresh (Nat.le_refl _)) rfl⟩
def tTupRgN (te : L2.St → Hp → (Int → Int → Hp → Prop) → Prop) : TE := fun σ H Q => te σ H fun a b H1 => RgOk a b ∧ NewT Q H1 (rgV a b)
theorem pe_tupRgN {e : Expr} {te : L2.St → Hp → (Int → Int → Hp → Prop) → Prop} {p pos : Pos} (hc : X.calm = true) (hg : Gl X "tuple") (hm : X.mg "tuple" = none) (he : PRg X e te) (na : starEach [e] X.env = (false, eval e X.env) :: starEach [] X.env := by rfl) : PE X (.Call (.Name "tuple" p) [e] [] pos) (tTupRgN te) := by
  refine ⟨fun pins s σ H Q I h => ?_⟩
  refine Call_ (ld_blt I hg hm boot_tuple (PyProof.Rows.callWith_type1 (args_cons (thn (he pins s σ H _ I h) fun x s1 ⟨r, a, b, t, u, v, H1, ex, hr, I1, ok, q⟩ => args_nil ?_) na) na))
  subst ex
  obtain ⟨b1, b2, b3, b4, b5⟩ := ok
  refine call_tuple_range (n := (b - a).toNat) (I1.ok.hd hc) hr (small_one b1 b2 b3 b4) (rangeSize_nat a b) b5 fun h' tk acc hk hi => ?_
  have I2 : Inv X pins σ H1 { s1 with heap := h', toks := tk } := I1.kept hk
  refine ⟨.ref h'.objs.size, _, I2.laid (t' := tk) (o := .frz _ (.tup (rgV a b))) (fun c o e => Heap.get?_push_of_some _ e) (Nat.le_refl _) ⟨Heap.get?_push_size _ rfl, ?_, acc.toList, vals_rg hi, ?_⟩, rfl, q _ _ (I2.hok.fresh (Nat.le_refl _)) rfl⟩
  · rw [rgV_length, sizeLine_eq]; omega
  · rw [Array.toArray_toList]; exact IsTup.new _ _
end
def ClnT (K : PySem.W.Frag) (G : Hp) (a : Addr) (xs : List V) : Prop := (∃ o, G a = some (.frz o (.tup xs)) ∧ o.dict = none) ∨
  ∃ (o : Obj) (its : Array Value) (n : Nat), K.lookup a = some o ∧ o.cls = .type "tuple" ∧ o.dict = none ∧ o.data = .seq its n ∧ its.size ≤ sizeLine ∧ Vals xs its.toList
theorem ClnT.sq {K : PySem.W.Frag} {G : Hp} {a : Addr} {xs : List V} (h : ClnT K G a xs) : SqT K G a xs := by
  rcases h with ⟨o, e, _⟩ | ⟨o, its, n, h1, h2, _, h3, h4, h5⟩
  · exact .inl (.inr ⟨o, e⟩)
  · exact .inr ⟨o, its, n, h1, h2, h3, h4, h5⟩
theorem ClnT.mono {K : PySem.W.Frag} {G G' : Hp} (s : Same G G') {a : Addr} {xs : List V} (h : ClnT K G a xs) : ClnT K G' a xs := by
  rcases h with ⟨o, e, d⟩ | h
  · exact .inl ⟨o, s _ _ e, d⟩
  · exact .inr h
section
variable {X : Cx} {pins : List (Addr × Obj)} {σ : L2.St} {H : Hp} {s : Shared}
theorem clean_of (I : Inv X pins σ H s) {a : Addr} {xs : List V} (h : ClnT X.K H a xs) : ∃ its : List Value, Vals xs its ∧ PlainSeq "tuple" s.heap a its.toArray ∧ xs.length ≤ sizeLine := by
  rcases h with ⟨o, e, d⟩ | ⟨o, its, n, hk, hc, hd, hs, hz, r⟩
  · obtain ⟨h1, hz, its, r, o2, h2, hc, n, hdat⟩ := I.hok a _ e
    rw [h1] at h2
    cases h2
    exact ⟨its, r, ⟨o, n, h1, hc, d, hdat⟩, hz⟩
  · refine ⟨its.toList, r, ⟨o, n, I.kIn a o hk, hc, hd, by simpa using hs⟩, ?_⟩
    rw [r.length]
    simpa using hz
theorem pairsN (I : Inv X pins σ H s) : ∀ {ps : List Addr} {kvs : List (Key × V)}, Paired (fun p kv => SqT X.K H p [kV kv.1, kv.2]) ps kvs →
    ∃ (prs : List (Key × Value)) (pvs : List (Value × Value)), KV kvs prs ∧ prs.length = ps.length ∧ pvs.length = ps.length ∧ ∀ (j : Nat) (k v : Value), pvs[j]? = some (k, v) → ∃ (b : Addr) (q : Key), ps[j]? = some b ∧ prs[j]? = some (q, v) ∧ IsTup s.heap b #[k, v] ∧ keyIs q k = true
  | _, _, .nil => ⟨[], [], .nil, rfl, rfl, fun j k v e => by simp at e⟩
  | _, _, .cons (a := p) (b := kv) h t => by
    obtain ⟨prs, pvs, r, hl, hl2, hp⟩ := pairsN I t
    obtain ⟨its, rv, ht, _⟩ := I.tuple h
    obtain ⟨u, y, ei, ru, ry⟩ := vals2 rv
    subst ei
    refine ⟨(kv.1, y) :: prs, (u, y) :: pvs, .cons ⟨rfl, ry⟩ r, by rw [List.length_cons, List.length_cons, hl], by rw [List.length_cons, List.length_cons, hl2], fun j k v e => ?_⟩
    cases j with
    | zero =>
      have e' : (u, y) = (k, v) := Option.some.inj e
      cases e'
      exact ⟨p, kv.1, rfl, rfl, ht, kV_is (P := X.prog) (w := X.w) ru⟩
    | succ j =>
      obtain ⟨b, q, e1, e2, e3, e4⟩ := hp j k v (by simpa using e)
      exact ⟨b, q, by simpa using e1, by simpa using e2, e3, e4⟩
theorem call_dictN (hcalm : X.calm = true) : CallR X (.type "dict") (fun xs H Q => ∃ (a : Addr) (ps : List Addr) (kvs : List (Key × V)), xs = [.ref a] ∧ ClnT X.K H a (ps.map V.ref) ∧ Paired (fun p kv => SqT X.K H p [kV kv.1, kv.2]) ps kvs ∧
    ∀ p, H p = none → Q (.ref p) (upd H p (.dK (mergeK [] kvs)))) := by
  intro pins s σ H xs us Q I r q
  obtain ⟨a, ps, kvs, rfl, hq, hp, q⟩ := q
  obtain ⟨u, rfl, rx⟩ := vals1 r
  cases rx
  obtain ⟨its, rv, pl, hz⟩ := clean_of I hq
  have ei := refs_at rv
  subst ei
  rw [List.length_map] at hz
  obtain ⟨prs, pvs, rel, hl, hl2, hpr⟩ := pairsN I hp
  have pi : PairItems s.heap (ps.map Value.ref).toArray (fun j => ps.getD j 0) pvs := ⟨by simp [hl2], fun j k v e => by
    obtain ⟨b, q, e1, e2, e3, e4⟩ := hpr j k v e
    have eb : ps.getD j 0 = b := by rw [List.getD_eq_getElem?_getD, e1]; rfl
    refine ⟨?_, ?_⟩
    · show (ps.map Value.ref).toArray[j]? = some (.ref (ps.getD j 0))
      rw [eb, List.getElem?_toArray, List.getElem?_map, e1]
      rfl
    · show PairAt s.heap (ps.getD j 0) k v
      rw [eb]
      exact .inl e3⟩
  refine PySem.call_dict_pairs (knd := mixKind X.prog X.w) (kvs := prs) (PairArg.tuple a (ps.map Value.ref).toArray (fun j => ps.getD j 0) pvs) (I.ok.hd hcalm) ⟨pl, pi⟩ ⟨by rw [hl, hl2], fun i k v e => ?_⟩ (by rw [hl2]; exact hz) fun h' tk hd' k => ?_
  · obtain ⟨b, q, e1, e2, e3, e4⟩ := hpr i k v e
    exact ⟨q, e2, e4⟩
  · have hm : (s.heap.objs.size == sysModules) = false := beq_eq_false_iff_ne.mpr (Nat.ne_of_gt I.big)
    have hlen : (mergeK [] kvs).length ≤ sizeLine := by
      refine Nat.le_trans (length_mergeK kvs []) ?_
      rw [List.length_nil, Nat.zero_add, rel.length, hl]
      exact hz
    exact ⟨.ref s.heap.objs.size, upd H s.heap.objs.size (.dK (mergeK [] kvs)), I.laid (t' := tk) (fun b o e => k b o (by simp) e) (Nat.le_refl _) (show ObjOk X.prog X.w _ _ _ (.dK (mergeK [] kvs)) from ⟨hlen, hm, merged [] prs, KV.merge rel .nil, hd'⟩), rfl, q _ (I.hok.fresh (Nat.le_refl _))⟩
end
section
variable {pr : Program} {wd : World} {B : Around} {Er : Value → Shared → Prop} {z : Shared} {c : Addr} {ns : Array (Int × Tok)}
theorem itupN {P : Value → Shared → Prop} (ht : z.heap.IsTuple c (intItems ns))
    (k : ∀ z2 : Shared, z2.heap = z.heap.push { cls := .type "tuple_iterator", data := .fields #[.ref c, .int 0 0] } → z2 = { z with heap := z2.heap } → z2.heap.IsTupleIter z.heap.objs.size c 0 → z2.heap.IsTuple c (intItems ns) →
      (∀ b, b = z.heap.objs.size ∨ b = c → b < z2.heap.objs.size) → c ≠ z.heap.objs.size → P (.ref z.heap.objs.size) z2) : wpAny (model pr wd) B (pyIter (.ref c)) P Er z := by
  have lt : c < z.heap.objs.size := by
    obtain ⟨_, g, _⟩ := ht
    exact Heap.lt_size g
  refine wpAny_pyIter_tuple ht (k _ rfl rfl ⟨_, Heap.get?_push_size _ rfl, rfl, rfl⟩ ?_ ?_ (Nat.ne_of_lt lt))
  · exact ht.at fun o g => Heap.get?_push_of_some _ g
  · intro b hb
    show b < (z.heap.push _).objs.size
    rw [Heap.size_push]
    rcases hb with rfl | rfl
    · exact Nat.lt_succ_self _
    · exact Nat.lt_succ_of_lt lt
theorem maxTupN {P : Value → Shared → Prop} (hd : B.handled = none) (ht : z.heap.IsTuple c (intItems ns)) (h0 : 0 < ns.size)
    (k : ∀ v g tk, (intItems ns)[argBest (fun a b => decide (numAt ns a > numAt ns b)) (ns.size - 1)]? = some v → (∀ b o, z.heap.get? b = some o → g.get? b = some o) → P v { z with heap := g, toks := tk }) :
    wpAny (model pr wd) B (call (.builtin "max") [.ref c]) P Er z := by
  refine call_max_walk (itupN ht fun z2 e1 e2 hit htu hlt hne => ?_)
  refine ⟨_, [z.heap.objs.size, c], _, _, _, _, _, rfl, Walks.tuple (A := B.in1) hd _ c hne (intItems ns), ⟨hit, htu⟩, fun b hb => hlt b (by simpa using hb), by simpa [intItems] using h0, CmpOf.ints_gt (numAt ns) (fun _ _ => intItems_at), fun v g tk hv hk => ?_⟩
  have e3 : ({ z2 with heap := g, toks := tk } : Shared) = { z with heap := g, toks := tk } := by rw [e2]
  rw [e3]
  refine k v g tk (by simpa [intItems] using hv) fun b o hb => hk b o (fun hm => ?_) (by rw [e1]; exact Heap.get?_push_of_some _ hb)
  have := Heap.lt_size hb
  rcases List.mem_cons.mp hm with rfl | hm
  · exact Nat.lt_irrefl _ this
  · cases hm
end
section
variable {X : Cx}
def rMaxTu (K : PySem.W.Frag) : List V → Hp → VK → Prop := fun vs H Q => ∃ (p : Addr) (ns : List Int), vs = [V.ref p] ∧ SqT K H p (ns.map V.int) ∧ 0 < ns.length ∧ ∀ m, m ∈ ns → (∀ y, y ∈ ns → y ≤ m) → Q (.int m) H
theorem call_maxTu (calm : X.calm = true) : CallR X (.builtin "max") (rMaxTu X.K) := by
  intro pins s σ H vs us Q I r hq
  obtain ⟨p, ns, rfl, hT, h0, q⟩ := hq
  obtain ⟨its, rv, tu, _⟩ := I.tuple hT
  have ia : IntsAre its ns := rv.ints
  rw [Vals.ref1 r]
  obtain ⟨xs, ex⟩ := ia.allInts.items
  have en : numsOf (intItems xs).toList = ns := by
    rw [← ex]
    exact ia.numsOf
  rw [nums_intItems] at en
  subst en
  have tu2 : s.heap.IsTuple p (intItems xs) := by
    rw [← ex]
    exact tu
  refine maxTupN (I.ok.hd calm) tu2 (by simpa using h0) fun v g tk hv hk => ?_
  obtain ⟨t, rfl⟩ := intItems_at hv
  have best := argBest_gt (numAt xs) (xs.size - 1)
  have hs : 0 < xs.size := by simpa using h0
  refine ⟨.int _, H, I.kept hk, ⟨_, rfl⟩, q _ ?_ fun y hy => ?_⟩
  · rw [numAt_eq]
    refine PySem.getD_mem ?_
    rw [List.length_map, Array.length_toList]
    exact Nat.lt_of_le_of_lt best.1 (by omega)
  · obtain ⟨j, hj, rfl⟩ := mem_getD hy
    have hj : j < xs.size := by simpa using hj
    rw [← numAt_eq]
    exact best.2 j (by omega)
end
end EV
set_option maxRecDepth 100000
namespace EV
open PySem PySem.Spec PyProof.Rows L2
def Ext (ρ ρ' : List Addr) : Prop := ∀ (n : Nat) (a : Addr), ρ[n]? = some a → ρ'[n]? = some a
theorem Ext.refl (ρ) : Ext ρ ρ := fun _ _ h => h
theorem Ext.trans {a b c : List Addr} (x : Ext a b) (y : Ext b c) : Ext a c := fun n q h => y n q (x n q h)
theorem Ext.app (ρ t : List Addr) : Ext ρ (ρ ++ t) := fun n a h => by
  have := (List.getElem?_eq_some_iff.mp h).1
  rw [List.getElem?_append_left this]; exact h
mutual
inductive RepV (K : PySem.W.Frag) (G : Hp) (ρ : List Addr) : V → D → Prop
  | non : RepV K G ρ .non .non
  | bl (b) : RepV K G ρ (.bl b) (.bl b)
  | int (i) : RepV K G ρ (.int i) (.int i)
  | str (s) : RepV K G ρ (.str s) (.str s)
  | tup {a vs ds} : ClnT K G a vs → RepL K G ρ vs ds → RepV K G ρ (.ref a) (.tup ds)
  | lst {a vs ds} : G a = some (.lst vs) → RepL K G ρ vs ds → RepV K G ρ (.ref a) (.lst ds)
  | scr {a ns} : SqL K G a (ns.map V.int) → RepV K G ρ (.ref a) (.scr ns)
  | ref {n a} : ρ[n]? = some a → RepV K G ρ (.ref a) (.ref n)
  | dct {a o} {kvs : List (Key × Int)} : G a = some (.frz o (.dK (kvs.map fun p => (p.1, V.int p.2)))) → RepV K G ρ (.ref a) (.dct kvs)
  | fn {a f} : PySem.W.nsIn K mainGlobals f = some (some (.ref a)) → RepV K G ρ (.ref a) (.fn f)
inductive RepL (K : PySem.W.Frag) (G : Hp) (ρ : List Addr) : List V → List D → Prop
  | nil : RepL K G ρ [] []
  | cons {v d vs ds} : RepV K G ρ v d → RepL K G ρ vs ds → RepL K G ρ (v :: vs) (d :: ds)
end
theorem same_rd {G G' : Hp} (h : Same G G') {a u} (r : Rd G a u) : Rd G' a u := by
  rcases r with r | ⟨o, r⟩
  · exact .inl (h _ _ r)
  · exact .inr ⟨o, h _ _ r⟩
theorem same_sqT {K : PySem.W.Frag} {G G' : Hp} (h : Same G G') {a xs} (r : SqT K G a xs) : SqT K G' a xs := by
  rcases r with r | r
  · exact .inl (same_rd h r)
  · exact .inr r
theorem same_sqL {K : PySem.W.Frag} {G G' : Hp} (h : Same G G') {a xs} (r : SqL K G a xs) : SqL K G' a xs := by
  rcases r with r | r
  · exact .inl (same_rd h r)
  · exact .inr r
section
variable {K : PySem.W.Frag} {G G' : Hp} {ρ ρ' : List Addr}
mutual
theorem RepV.mono (hG : Same G G') (hρ : Ext ρ ρ') : ∀ {v d}, RepV K G ρ v d → RepV K G' ρ' v d
  | _, _, .non => .non
  | _, _, .bl b => .bl b
  | _, _, .int i => .int i
  | _, _, .str s => .str s
  | _, _, .tup h r => .tup (h.mono hG) (RepL.mono hG hρ r)
  | _, _, .lst h r => .lst (hG _ _ h) (RepL.mono hG hρ r)
  | _, _, .scr h => .scr (same_sqL hG h)
  | _, _, .ref h => .ref (hρ _ _ h)
  | _, _, .dct h => .dct (hG _ _ h)
  | _, _, .fn h => .fn h
theorem RepL.mono (hG : Same G G') (hρ : Ext ρ ρ') : ∀ {vs ds}, RepL K G ρ vs ds → RepL K G' ρ' vs ds
  | _, _, .nil => .nil
  | _, _, .cons h r => .cons (RepV.mono hG hρ h) (RepL.mono hG hρ r)
end
theorem RepL.length : ∀ {vs ds}, RepL K G ρ vs ds → vs.length = ds.length
  | _, _, .nil => rfl
  | _, _, .cons _ r => by simp [RepL.length r]
theorem RepL.app : ∀ {vs ds vs' ds'}, RepL K G ρ vs ds → RepL K G ρ vs' ds' → RepL K G ρ (vs ++ vs') (ds ++ ds')
  | _, _, _, _, .nil, s => s
  | _, _, _, _, .cons h r, s => .cons h (RepL.app r s)
theorem RepL.get : ∀ {vs ds} {i : Nat} {d}, RepL K G ρ vs ds → ds[i]? = some d → ∃ v, vs[i]? = some v ∧ RepV K G ρ v d
  | _, _, _, _, .nil, e => by simp at e
  | _, _, 0, _, .cons h _, e => by simp at e; subst e; exact ⟨_, rfl, h⟩
  | _, _, i + 1, _, .cons _ r, e => by
    obtain ⟨v, e1, h⟩ := RepL.get (i := i) r (by simpa using e)
    exact ⟨v, by simpa using e1, h⟩
theorem RepL.drop : ∀ {vs ds} (n : Nat), RepL K G ρ vs ds → RepL K G ρ (vs.drop n) (ds.drop n)
  | _, _, 0, r => r
  | _, _, _ + 1, .nil => .nil
  | _, _, n + 1, .cons _ r => by simpa using RepL.drop n r
theorem RepL.take : ∀ {vs ds} (n : Nat), RepL K G ρ vs ds → RepL K G ρ (vs.take n) (ds.take n)
  | _, _, 0, _ => .nil
  | _, _, _ + 1, .nil => .nil
  | _, _, n + 1, .cons h r => .cons h (RepL.take n r)
theorem RepL.reverse : ∀ {vs ds}, RepL K G ρ vs ds → RepL K G ρ vs.reverse ds.reverse
  | _, _, .nil => .nil
  | _, _, .cons h r => by
    rw [List.reverse_cons, List.reverse_cons]
    exact RepL.app (RepL.reverse r) (.cons h .nil)
theorem RepL.set {v d} (h : RepV K G ρ v d) : ∀ {vs ds} (n : Nat), RepL K G ρ vs ds → RepL K G ρ (vs.set n v) (ds.set n d)
  | _, _, _, .nil => .nil
  | _, _, 0, .cons _ r => .cons h r
  | _, _, n + 1, .cons q r => .cons q (RepL.set h n r)
theorem RepL.erase : ∀ {vs ds} (n : Nat), RepL K G ρ vs ds → RepL K G ρ (vs.eraseIdx n) (ds.eraseIdx n)
  | _, _, _, .nil => .nil
  | _, _, 0, .cons _ r => r
  | _, _, n + 1, .cons q r => .cons q (RepL.erase n r)
theorem RepL.dropLast {vs ds} (r : RepL K G ρ vs ds) : RepL K G ρ vs.dropLast ds.dropLast := by
  rw [List.dropLast_eq_take, List.dropLast_eq_take, r.length]
  exact r.take _
theorem RepL.rep {vs ds} (r : RepL K G ρ vs ds) : ∀ n : Nat, RepL K G ρ (List.replicate n vs).flatten (List.replicate n ds).flatten
  | 0 => .nil
  | n + 1 => by
    rw [List.replicate_succ, List.replicate_succ, List.flatten_cons, List.flatten_cons]
    exact RepL.app r (RepL.rep r n)
theorem RepL.ints : ∀ {vs} {ns : List Int}, RepL K G ρ vs (ns.map D.int) → vs = ns.map V.int
  | _, [], .nil => rfl
  | _, _ :: _, .cons (.int _) r => by rw [List.map_cons, ← RepL.ints r]
theorem RepL.bls : ∀ {vs} {ns : List Bool}, RepL K G ρ vs (ns.map D.bl) → vs = ns.map V.bl
  | _, [], .nil => rfl
  | _, _ :: _, .cons (.bl _) r => by rw [List.map_cons, ← RepL.bls r]
theorem RepL.ofInts : ∀ (ns : List Int), RepL K G ρ (ns.map V.int) (ns.map D.int)
  | [] => .nil
  | _ :: r => .cons (.int _) (RepL.ofInts r)
theorem RepL.ofStrs : ∀ (ns : List Str), RepL K G ρ (ns.map V.str) (ns.map D.str)
  | [] => .nil
  | _ :: r => .cons (.str _) (RepL.ofStrs r)
theorem RepL.signs (z : Str) : RepL K G ρ (z.cps.toList.map fun c => V.str ⟨#[c]⟩) (signD z) := by
  unfold signD
  induction z.cps.toList with
  | nil => exact .nil
  | cons c cs ih => exact .cons (.str _) ih
theorem intsOf_eq : ∀ {ds : List D} {ns}, intsOf ds = some ns → ds = ns.map D.int
  | [], ns, h => by simp [intsOf] at h; subst h; rfl
  | .int i :: r, ns, h => by
    simp only [intsOf, Option.map_eq_some_iff] at h
    obtain ⟨m, h1, rfl⟩ := h
    rw [intsOf_eq h1]; rfl
  | .non :: _, _, h => nomatch h
  | .bl _ :: _, _, h => nomatch h
  | .str _ :: _, _, h => nomatch h
  | .tup _ :: _, _, h => nomatch h
  | .lst _ :: _, _, h => nomatch h
  | .scr _ :: _, _, h => nomatch h
  | .ref _ :: _, _, h => nomatch h
  | .dct _ :: _, _, h => nomatch h
  | .fn _ :: _, _, h => nomatch h
theorem blsOf_eq : ∀ {ds : List D} {ns}, blsOf ds = some ns → ds = ns.map D.bl
  | [], ns, h => by simp [blsOf] at h; subst h; rfl
  | .bl i :: r, ns, h => by
    simp only [blsOf, Option.map_eq_some_iff] at h
    obtain ⟨m, h1, rfl⟩ := h
    rw [blsOf_eq h1]; rfl
  | .non :: _, _, h => nomatch h
  | .int _ :: _, _, h => nomatch h
  | .str _ :: _, _, h => nomatch h
  | .tup _ :: _, _, h => nomatch h
  | .lst _ :: _, _, h => nomatch h
  | .scr _ :: _, _, h => nomatch h
  | .ref _ :: _, _, h => nomatch h
  | .dct _ :: _, _, h => nomatch h
  | .fn _ :: _, _, h => nomatch h
theorem strsOf_eq : ∀ {ds : List D} {ns}, strsOf ds = some ns → ds = ns.map D.str
  | [], ns, h => by simp [strsOf] at h; subst h; rfl
  | .str i :: r, ns, h => by
    simp only [strsOf, Option.map_eq_some_iff] at h
    obtain ⟨m, h1, rfl⟩ := h
    rw [strsOf_eq h1]; rfl
  | .non :: _, _, h => nomatch h
  | .bl _ :: _, _, h => nomatch h
  | .int _ :: _, _, h => nomatch h
  | .tup _ :: _, _, h => nomatch h
  | .lst _ :: _, _, h => nomatch h
  | .scr _ :: _, _, h => nomatch h
  | .ref _ :: _, _, h => nomatch h
  | .dct _ :: _, _, h => nomatch h
  | .fn _ :: _, _, h => nomatch h
theorem RepL.strs {K : PySem.W.Frag} {G : Hp} {ρ : List Addr} : ∀ {vs} {ns : List Str}, RepL K G ρ vs (ns.map D.str) → vs = ns.map V.str
  | _, [], .nil => rfl
  | _, _ :: _, .cons (.str _) r => by rw [List.map_cons, ← RepL.strs r]
mutual
theorem RepV.dp : ∀ {v d}, RepV K G ρ v d → d.pure = true → Dp K G v d.py
  | _, _, .non, _ => .non
  | _, _, .bl b, _ => .bl b
  | _, _, .int i, _ => .int i
  | _, _, .str s, _ => .str s
  | _, _, .tup h r, p => .tup h.sq (RepL.dp r (by simpa [D.pure] using p))
  | _, _, .lst h r, p => .lst (SqL.of h) (RepL.dp r (by simpa [D.pure] using p))
  | _, _, .scr h, p => by simp [D.pure] at p
  | _, _, .ref h, p => by simp [D.pure] at p
  | _, _, .dct h, p => by simp [D.pure] at p
  | _, _, .fn h, p => by simp [D.pure] at p
theorem RepL.dp : ∀ {vs ds}, RepL K G ρ vs ds → D.pures ds = true → DpAll K G vs (D.pys ds)
  | _, _, .nil, _ => .nil
  | _, _, .cons h r, p => by
    have q := (Bool.and_eq_true_iff.mp (show (D.pure _ && D.pures _) = true from p))
    exact .cons (RepV.dp h q.1) (RepL.dp r q.2)
end
end
mutual
theorem Dp.mono {K : PySem.W.Frag} {G G' : Hp} (hG : Same G G') : ∀ {v d}, Dp K G v d → Dp K G' v d
  | _, _, .non => .non
  | _, _, .bl b => .bl b
  | _, _, .int i => .int i
  | _, _, .str s => .str s
  | _, _, .lst h r => .lst (same_sqL hG h) (DpAll.mono hG r)
  | _, _, .tup h r => .tup (same_sqT hG h) (DpAll.mono hG r)
theorem DpAll.mono {K : PySem.W.Frag} {G G' : Hp} (hG : Same G G') : ∀ {vs ds}, DpAll K G vs ds → DpAll K G' vs ds
  | _, _, .nil => .nil
  | _, _, .cons h r => .cons (Dp.mono hG h) (DpAll.mono hG r)
end
theorem pys_map : ∀ ds : List D, D.pys ds = ds.map D.py
  | [] => rfl
  | d :: ds => by simp [D.pys, pys_map ds]

def RepO (K : PySem.W.Frag) (G : Hp) (ρ : List Addr) : HO → O → Prop
  | .lst vs, .lst ds => RepL K G ρ vs ds
  | .dK kvs, .dct ds => kvs.map (·.1) = ds.map (·.1) ∧ RepL K G ρ (kvs.map (·.2)) (ds.map (·.2))
  | _, _ => False
theorem RepO.mono {K : PySem.W.Frag} {G G' : Hp} {ρ ρ' : List Addr} (hG : Same G G') (hρ : Ext ρ ρ') : ∀ {u o}, RepO K G ρ u o → RepO K G' ρ' u o
  | .lst _, .lst _, h => RepL.mono hG hρ h
  | .dK _, .dct _, h => ⟨h.1, RepL.mono hG hρ h.2⟩
  | .lst _, .dct _, h => h.elim
  | .tup _, _, h => by simp [RepO] at h
  | .dT _, _, h => by simp [RepO] at h
  | .set _ _, _, h => by simp [RepO] at h
  | .ins _ _ _, _, h => by simp [RepO] at h
  | .own _, _, h => by simp [RepO] at h
  | .xd _, _, h => by simp [RepO] at h
  | .met _ _, _, h => by simp [RepO] at h
  | .rng _ _, _, h => by simp [RepO] at h
  | .frz _ _, _, h => by simp [RepO] at h
  | .tbl _, _, h => by simp [RepO] at h
  | .ext _, _, h => by simp [RepO] at h

structure Lone (Pr G : Hp) (ρ : List Addr) (σ : L2.St) (env : Env) (a : Addr) : Prop where
  g : G a = none
  p : Pr a = none
  r : a ∉ ρ
  o : ∀ (i : Nat) (ds : List D), env[i]? = some (.own ds) → σ[i]? ≠ some (some (.ref a))
def HpR (K : PySem.W.Frag) (Pr G H : Hp) (ρ : List Addr) (a : Addr) (o : O) : Prop :=
  (∃ u, H a = some u ∧ RepO K G ρ u o ∧ G a = none ∧ Pr a = none) ∨ ∃ ds ob kvs, o = .fz ds ∧ G a = some (.frz ob (.dK kvs)) ∧ kvs.map (·.1) = ds.map (·.1) ∧ RepL K G ρ (kvs.map (·.2)) (ds.map (·.2))
structure SR (K : PySem.W.Frag) (Pr G H : Hp) (ρ : List Addr) (σ : L2.St) (env : Env) (h : AH) : Prop where
  sub : Same G H
  prs : Same Pr H
  len : σ.length = env.length
  val : ∀ (i : Nat) (d : D), env[i]? = some (.val d) → ∃ v, σ[i]? = some (some v) ∧ RepV K G ρ v d
  own : ∀ (i : Nat) (ds : List D), env[i]? = some (.own ds) → ∃ a vs, σ[i]? = some (some (.ref a)) ∧ H a = some (.lst vs) ∧ RepL K G ρ vs ds ∧ G a = none ∧ Pr a = none ∧ a ∉ ρ
  sep : ∀ (i j : Nat) (a : Addr) (ds es : List D), env[i]? = some (.own ds) → env[j]? = some (.own es) → σ[i]? = some (some (.ref a)) → σ[j]? = some (some (.ref a)) → i = j
  rl : ρ.length = h.length
  gp : ∀ (a : Addr) (o : HO), Pr a = some o → G a = none
  nd : ρ.Nodup
  hq : ∀ (n : Nat) (a : Addr) (o : O), ρ[n]? = some a → h[n]? = some o → HpR K Pr G H ρ a o
section
variable {K : PySem.W.Frag} {Pr G H : Hp} {ρ : List Addr} {σ : L2.St} {env : Env} {h : AH}
theorem SR.hp (S : SR K Pr G H ρ σ env h) (n : Nat) (a : Addr) (o : O) (e1 : ρ[n]? = some a) (e2 : h[n]? = some o) (hn : ∀ ds, o ≠ .fz ds := by intro _ z; cases z) : ∃ u, H a = some u ∧ RepO K G ρ u o ∧ G a = none ∧ Pr a = none := by
  rcases S.hq n a o e1 e2 with q | ⟨ds, ob, kvs, e, _⟩
  · exact q
  · exact absurd e (hn ds)
theorem SR.hz (S : SR K Pr G H ρ σ env h) (n : Nat) (a : Addr) (ds : List (Key × D)) (e1 : ρ[n]? = some a) (e2 : h[n]? = some (.fz ds)) : ∃ ob kvs, G a = some (.frz ob (.dK kvs)) ∧ kvs.map (·.1) = ds.map (·.1) ∧ RepL K G ρ (kvs.map (·.2)) (ds.map (·.2)) := by
  rcases S.hq n a _ e1 e2 with ⟨u, _, q, _⟩ | ⟨ds', ob, kvs, e, q⟩
  · cases u <;> simp only [RepO] at q
  · cases e; exact ⟨ob, kvs, q⟩
theorem SR.at (S : SR K Pr G H ρ σ env h) {a} (ha : a ∈ ρ) : ∃ (n : Nat) (o : O), ρ[n]? = some a ∧ h[n]? = some o := by
  obtain ⟨n, e⟩ := List.getElem?_of_mem ha
  have hn : n < h.length := by rw [← S.rl]; exact (List.getElem?_eq_some_iff.mp e).1
  exact ⟨n, _, e, List.getElem?_eq_getElem hn⟩
theorem SR.prn (S : SR K Pr G H ρ σ env h) {a} (ha : a ∈ ρ) : Pr a = none := by
  obtain ⟨n, o, e1, e2⟩ := S.at ha
  rcases S.hq n a o e1 e2 with ⟨_, _, _, _, p⟩ | ⟨_, _, _, _, g, _⟩
  · exact p
  · cases q : Pr a with
    | none => rfl
    | some w => rw [S.gp _ _ q] at g; cases g
theorem SR.rho (S : SR K Pr G H ρ σ env h) {a} (ha : a ∈ ρ) : ∃ u, H a = some u := by
  obtain ⟨n, o, e1, e2⟩ := S.at ha
  rcases S.hq n a o e1 e2 with ⟨u, h1, _⟩ | ⟨_, _, _, _, g, _⟩
  · exact ⟨u, h1⟩
  · exact ⟨_, S.sub _ _ g⟩
theorem SR.lone (S : SR K Pr G H ρ σ env h) {p} (n : H p = none) : Lone Pr G ρ σ env p := by
  refine ⟨?_, ?_, fun hm => ?_, fun i ds e q => ?_⟩
  · cases q : G p with
    | none => rfl
    | some o => rw [S.sub _ _ q] at n; cases n
  · cases q : Pr p with
    | none => rfl
    | some o => rw [S.prs _ _ q] at n; cases n
  · obtain ⟨u, e⟩ := S.rho hm
    rw [n] at e; cases e
  · obtain ⟨a, vs, e1, e2, _⟩ := S.own i ds e
    rw [q] at e1; cases e1
    rw [n] at e2; cases e2
theorem SR.setL (S : SR K Pr G H ρ σ env h) {p u} (L : Lone Pr G ρ σ env p) : SR K Pr G (upd H p u) ρ σ env h := by
  refine ⟨fun b o e => ?_, fun b o e => ?_, S.len, S.val, fun i ds e => ?_, S.sep, S.rl, S.gp, S.nd, fun n a o e1 e2 => ?_⟩
  · rw [upd_ne (by rintro rfl; rw [L.g] at e; cases e)]; exact S.sub _ _ e
  · rw [upd_ne (by rintro rfl; rw [L.p] at e; cases e)]; exact S.prs _ _ e
  · obtain ⟨a, vs, e1, e2, r⟩ := S.own i ds e
    exact ⟨a, vs, e1, by rw [upd_ne (by rintro rfl; exact L.o i ds e e1)]; exact e2, r⟩
  · rcases S.hq n a o e1 e2 with ⟨w, e3, r⟩ | q
    · exact .inl ⟨w, by rw [upd_ne (by rintro rfl; exact L.r (List.mem_of_getElem? e1))]; exact e3, r⟩
    · exact .inr q
theorem same_upd' {G : Hp} {p u} (n : G p = none) : Same G (upd G p u) := fun b o e => by
  rw [upd_ne (by rintro rfl; rw [n] at e; cases e)]; exact e
theorem SR.frz (S : SR K Pr G H ρ σ env h) {p u} (g : G p = none) (pn : Pr p = none) (r : p ∉ ρ) (ow : ∀ (i : Nat) (ds : List D), env[i]? = some (.own ds) → σ[i]? ≠ some (some (.ref p))) (e : H p = some u) : SR K Pr (upd G p u) H ρ σ env h := by
  have sg := same_upd' (u := u) g
  refine ⟨fun b o q => ?_, S.prs, S.len, fun i d q => ?_, fun i ds q => ?_, S.sep, S.rl, fun b o q => by rw [upd_ne (by rintro rfl; rw [pn] at q; cases q)]; exact S.gp b o q, S.nd, fun n a o e1 e2 => ?_⟩
  · by_cases hb : b = p
    · subst hb; rw [upd_same] at q; cases q; exact e
    · rw [upd_ne hb] at q; exact S.sub _ _ q
  · obtain ⟨v, e1, r1⟩ := S.val i d q
    exact ⟨v, e1, r1.mono sg (Ext.refl _)⟩
  · obtain ⟨a, vs, e1, e2, r1, g1, rest⟩ := S.own i ds q
    have : a ≠ p := by rintro rfl; exact ow i ds q e1
    exact ⟨a, vs, e1, e2, r1.mono sg (Ext.refl _), by rw [upd_ne this]; exact g1, rest⟩
  · have : a ≠ p := by rintro rfl; exact r (List.mem_of_getElem? e1)
    rcases S.hq n a o e1 e2 with ⟨w, e3, r1, g1, p1⟩ | ⟨ds, ob, kvs, e, g, k, l⟩
    · exact .inl ⟨w, e3, r1.mono sg (Ext.refl _), by rw [upd_ne this]; exact g1, p1⟩
    · exact .inr ⟨ds, ob, kvs, e, sg _ _ g, k, l.mono sg (Ext.refl _)⟩
theorem SR.lay (S : SR K Pr G H ρ σ env h) {p u} (n : H p = none) : SR K Pr (L2.upd G p u) (L2.upd H p u) ρ σ env h ∧ Same G (L2.upd G p u) := by
  have L := S.lone n
  exact ⟨(S.setL L).frz L.g L.p L.r L.o upd_same, same_upd' L.g⟩
theorem SR.pr (S : SR K Pr G H ρ σ env h) {Pr' : Hp} (s : Same Pr' Pr) : SR K Pr' G H ρ σ env h := by
  have no : ∀ a, Pr a = none → Pr' a = none := fun a e => s.free e
  refine ⟨S.sub, fun b o e => S.prs _ _ (s _ _ e), S.len, S.val, fun i ds e => ?_, S.sep, S.rl, fun b o e => S.gp b o (s _ _ e), S.nd, fun n a o e1 e2 => ?_⟩
  · obtain ⟨a, vs, e1, e2, r1, g1, p1, r2⟩ := S.own i ds e
    exact ⟨a, vs, e1, e2, r1, g1, no _ p1, r2⟩
  · rcases S.hq n a o e1 e2 with ⟨w, e3, r1, g1, p1⟩ | q
    · exact .inl ⟨w, e3, r1, g1, no _ p1⟩
    · exact .inr q
theorem SR.keep (S : SR K Pr G H ρ σ env h) {p u} (e : H p = some u) (g : G p = none) (r : p ∉ ρ) (ow : ∀ (i : Nat) (ds : List D), env[i]? = some (.own ds) → σ[i]? ≠ some (some (.ref p))) : SR K (L2.upd Pr p u) G H ρ σ env h := by
  refine ⟨S.sub, fun b o q => ?_, S.len, S.val, fun i ds q => ?_, S.sep, S.rl, fun b o q => ?_, S.nd, fun n a o e1 e2 => ?_⟩
  · by_cases hb : b = p
    · subst hb; rw [upd_same] at q; cases q; exact e
    · rw [upd_ne hb] at q; exact S.prs _ _ q
  · obtain ⟨a, vs, e1, e2, r1, g1, p1, r2⟩ := S.own i ds q
    have : a ≠ p := by rintro rfl; exact ow i ds q e1
    exact ⟨a, vs, e1, e2, r1, g1, by rw [upd_ne this]; exact p1, r2⟩
  · by_cases hb : b = p
    · subst hb; exact g
    · rw [upd_ne hb] at q; exact S.gp _ _ q
  · have : a ≠ p := by rintro rfl; exact r (List.mem_of_getElem? e1)
    rcases S.hq n a o e1 e2 with ⟨w, e3, r1, g1, p1⟩ | q
    · exact .inl ⟨w, e3, r1, g1, by rw [upd_ne this]; exact p1⟩
    · exact .inr q
theorem SR.put (S : SR K Pr G H ρ σ env h) {i v d} (hi : i < env.length) (r : RepV K G ρ v d) : SR K Pr G H ρ (σ.set i (some v)) (env.set i (.val d)) h := by
  have hi' : i < σ.length := by rw [S.len]; exact hi
  refine ⟨S.sub, S.prs, by simp [S.len], fun j e q => ?_, fun j ds q => ?_, fun j k a ds es q1 q2 q3 q4 => ?_, S.rl, S.gp, S.nd, S.hq⟩
  · by_cases hj : i = j
    · subst hj
      rw [List.getElem?_set_self hi] at q; cases q
      exact ⟨v, by rw [List.getElem?_set_self hi'], r⟩
    · rw [List.getElem?_set_ne hj] at q ⊢
      exact S.val j e q
  · have hj : i ≠ j := by rintro rfl; rw [List.getElem?_set_self hi] at q; cases q
    rw [List.getElem?_set_ne hj] at q ⊢
    exact S.own j ds q
  · have hj : i ≠ j := by rintro rfl; rw [List.getElem?_set_self hi] at q1; cases q1
    have hk : i ≠ k := by rintro rfl; rw [List.getElem?_set_self hi] at q2; cases q2
    rw [List.getElem?_set_ne hj] at q1 q3
    rw [List.getElem?_set_ne hk] at q2 q4
    exact S.sep j k a ds es q1 q2 q3 q4
theorem SR.putOwn (S : SR K Pr G H ρ σ env h) {i a vs ds} (hi : i < env.length) (e : H a = some (.lst vs)) (r : RepL K G ρ vs ds) (L : Lone Pr G ρ σ env a) :
    SR K Pr G H ρ (σ.set i (some (.ref a))) (env.set i (.own ds)) h := by
  have hi' : i < σ.length := by rw [S.len]; exact hi
  refine ⟨S.sub, S.prs, by simp [S.len], fun j x q => ?_, fun j es q => ?_, fun j k b xs ys q1 q2 q3 q4 => ?_, S.rl, S.gp, S.nd, S.hq⟩
  · have hj : i ≠ j := by rintro rfl; rw [List.getElem?_set_self hi] at q; cases q
    rw [List.getElem?_set_ne hj] at q ⊢
    exact S.val j x q
  · by_cases hj : i = j
    · subst hj
      rw [List.getElem?_set_self hi] at q; cases q
      exact ⟨a, vs, by rw [List.getElem?_set_self hi'], e, r, L.g, L.p, L.r⟩
    · rw [List.getElem?_set_ne hj] at q ⊢
      exact S.own j es q
  · by_cases hj : i = j <;> by_cases hk : i = k
    · exact hj.symm.trans hk
    · subst hj
      rw [List.getElem?_set_self hi'] at q3; cases q3
      rw [List.getElem?_set_ne hk] at q2 q4
      exact absurd q4 (L.o k ys q2)
    · subst hk
      rw [List.getElem?_set_self hi'] at q4; cases q4
      rw [List.getElem?_set_ne hj] at q1 q3
      exact absurd q3 (L.o j xs q1)
    · rw [List.getElem?_set_ne hj] at q1 q3
      rw [List.getElem?_set_ne hk] at q2 q4
      exact S.sep j k b xs ys q1 q2 q3 q4
theorem SR.forget (S : SR K Pr G H ρ σ env h) {σ' : L2.St} {env' : Env} (hl : σ'.length = env'.length) (w : ∀ (i : Nat) s, env'[i]? = some s → s ≠ .no → env[i]? = some s ∧ σ'[i]? = σ[i]?) : SR K Pr G H ρ σ' env' h := by
  refine ⟨S.sub, S.prs, hl, fun i d e => ?_, fun i ds e => ?_, fun i j a ds es q1 q2 q3 q4 => ?_, S.rl, S.gp, S.nd, S.hq⟩
  · obtain ⟨h1, h2⟩ := w i _ e (by simp)
    obtain ⟨v, e1, r⟩ := S.val i d h1
    exact ⟨v, h2.trans e1, r⟩
  · obtain ⟨h1, h2⟩ := w i _ e (by simp)
    obtain ⟨a, vs, e1, r⟩ := S.own i ds h1
    exact ⟨a, vs, h2.trans e1, r⟩
  · obtain ⟨h1, h2⟩ := w i _ q1 (by simp)
    obtain ⟨h3, h4⟩ := w j _ q2 (by simp)
    exact S.sep i j a ds es h1 h3 (h2.symm.trans q3) (h4.symm.trans q4)
theorem SR.frzOwn (S : SR K Pr G H ρ σ env h) {i ds} (e : env[i]? = some (.own ds)) : ∃ a vs, σ[i]? = some (some (.ref a)) ∧ RepL K G ρ vs ds ∧ SR K Pr (L2.upd G a (.lst vs)) H ρ σ (env.set i (.val (.lst ds))) h ∧ Same G (L2.upd G a (.lst vs)) := by
  obtain ⟨a, vs, e1, e2, r, g, p, nr⟩ := S.own i ds e
  have hi : i < env.length := (List.getElem?_eq_some_iff.mp e).1
  have sg := same_upd' (u := HO.lst vs) g
  refine ⟨a, vs, e1, r, ?_, sg⟩
  have ne : ∀ (j : Nat) (ds' : List D), i ≠ j → env[j]? = some (.own ds') → σ[j]? ≠ some (some (.ref a)) := fun j ds' hj q1 q2 => hj (S.sep i j a ds ds' e q1 e1 q2)
  refine ⟨fun b o q => ?_, S.prs, by simp [S.len], fun j d q => ?_, fun j es q => ?_, fun j k b xs ys q1 q2 q3 q4 => ?_, S.rl, fun b o q => by rw [upd_ne (by rintro rfl; rw [p] at q; cases q)]; exact S.gp b o q, S.nd, fun n b o q1 q2 => ?_⟩
  · by_cases hb : b = a
    · subst hb; rw [upd_same] at q; cases q; exact e2
    · rw [upd_ne hb] at q; exact S.sub _ _ q
  · by_cases hj : i = j
    · subst hj
      rw [List.getElem?_set_self hi] at q; cases q
      exact ⟨_, e1, .lst upd_same (r.mono sg (Ext.refl _))⟩
    · rw [List.getElem?_set_ne hj] at q
      obtain ⟨v, e3, r3⟩ := S.val j d q
      exact ⟨v, e3, r3.mono sg (Ext.refl _)⟩
  · have hj : i ≠ j := by rintro rfl; rw [List.getElem?_set_self hi] at q; cases q
    rw [List.getElem?_set_ne hj] at q
    obtain ⟨b, ws, e3, e4, r3, g3, p3, n3⟩ := S.own j es q
    have : b ≠ a := by rintro rfl; exact ne j es hj q e3
    exact ⟨b, ws, e3, e4, r3.mono sg (Ext.refl _), by rw [upd_ne this]; exact g3, p3, n3⟩
  · have hj : i ≠ j := by rintro rfl; rw [List.getElem?_set_self hi] at q1; cases q1
    have hk : i ≠ k := by rintro rfl; rw [List.getElem?_set_self hi] at q2; cases q2
    rw [List.getElem?_set_ne hj] at q1
    rw [List.getElem?_set_ne hk] at q2
    exact S.sep j k b xs ys q1 q2 q3 q4
  · have : b ≠ a := by rintro rfl; exact nr (List.mem_of_getElem? q1)
    rcases S.hq n b o q1 q2 with ⟨w, e3, r1, g1, p1⟩ | ⟨ds, ob, kvs, e, g, k, l⟩
    · exact .inl ⟨w, e3, r1.mono sg (Ext.refl _), by rw [upd_ne this]; exact g1, p1⟩
    · exact .inr ⟨ds, ob, kvs, e, sg _ _ g, k, l.mono sg (Ext.refl _)⟩
theorem SR.updOwn (S : SR K Pr G H ρ σ env h) {i ds a vs' ds'} (e : env[i]? = some (.own ds)) (ea : σ[i]? = some (some (.ref a))) (r' : RepL K G ρ vs' ds') :
    SR K Pr G (L2.upd H a (.lst vs')) ρ σ (env.set i (.own ds')) h := by
  obtain ⟨a', vs, e1, e2, r, g, p, nr⟩ := S.own i ds e
  rw [ea] at e1; cases e1
  have hi : i < env.length := (List.getElem?_eq_some_iff.mp e).1
  refine ⟨fun b o q => ?_, fun b o q => ?_, by simp [S.len], fun j d q => ?_, fun j es q => ?_, fun j k b xs ys q1 q2 q3 q4 => ?_, S.rl, S.gp, S.nd, fun n b o q1 q2 => ?_⟩
  · rw [upd_ne (by rintro rfl; rw [g] at q; cases q)]; exact S.sub _ _ q
  · rw [upd_ne (by rintro rfl; rw [p] at q; cases q)]; exact S.prs _ _ q
  · have hj : i ≠ j := by rintro rfl; rw [List.getElem?_set_self hi] at q; cases q
    rw [List.getElem?_set_ne hj] at q
    exact S.val j d q
  · by_cases hj : i = j
    · subst hj
      rw [List.getElem?_set_self hi] at q; cases q
      exact ⟨a, vs', ea, upd_same, r', g, p, nr⟩
    · rw [List.getElem?_set_ne hj] at q
      obtain ⟨b, ws, e3, e4, r3⟩ := S.own j es q
      have : b ≠ a := by rintro rfl; exact hj (S.sep i j b ds es e q ea e3)
      exact ⟨b, ws, e3, by rw [upd_ne this]; exact e4, r3⟩
  · have f : ∀ (j : Nat) (xs : List D), (env.set i (.own ds'))[j]? = some (.own xs) → ∃ xs, env[j]? = some (.own xs) := fun j xs q => by
      by_cases hj : i = j
      · subst hj; exact ⟨_, e⟩
      · rw [List.getElem?_set_ne hj] at q; exact ⟨_, q⟩
    obtain ⟨xs', f1⟩ := f j xs q1
    obtain ⟨ys', f2⟩ := f k ys q2
    exact S.sep j k b xs' ys' f1 f2 q3 q4
  · have : b ≠ a := by rintro rfl; exact nr (List.mem_of_getElem? q1)
    rcases S.hq n b o q1 q2 with ⟨w, e3, r1, g1, p1⟩ | q
    · exact .inl ⟨w, by rw [upd_ne this]; exact e3, r1, g1, p1⟩
    · exact .inr q
theorem nodup_ixN {N : List Addr} (hN : N.Nodup) {i j : Nat} {x : Addr} (a : N[i]? = some x) (b : N[j]? = some x) : i = j := by
  obtain ⟨h1, e1⟩ := List.getElem?_eq_some_iff.mp a
  obtain ⟨h2, e2⟩ := List.getElem?_eq_some_iff.mp b
  exact (List.getElem_inj hN).mp (e1.trans e2.symm)
theorem SR.updRef (S : SR K Pr G H ρ σ env h) {n a u o o0} (e : ρ[n]? = some a) (r : RepO K G ρ u o) (e0 : h[n]? = some o0) (z : ∀ ds, o0 ≠ .fz ds := by intro _ z; cases z) : SR K Pr G (L2.upd H a u) ρ σ env (h.set n o) := by
  have hn : n < h.length := by rw [← S.rl]; exact (List.getElem?_eq_some_iff.mp e).1
  obtain ⟨w, _, _, g, p⟩ := S.hp n a _ e e0 z
  have am := List.mem_of_getElem? e
  refine ⟨fun b x q => ?_, fun b x q => ?_, S.len, S.val, fun j es q => ?_, S.sep, by simp [S.rl], S.gp, S.nd, fun m b x q1 q2 => ?_⟩
  · rw [upd_ne (by rintro rfl; rw [g] at q; cases q)]; exact S.sub _ _ q
  · rw [upd_ne (by rintro rfl; rw [p] at q; cases q)]; exact S.prs _ _ q
  · obtain ⟨b, ws, e3, e4, r3, g3, p3, n3⟩ := S.own j es q
    have : b ≠ a := by rintro rfl; exact n3 am
    exact ⟨b, ws, e3, by rw [upd_ne this]; exact e4, r3, g3, p3, n3⟩
  · by_cases hm : n = m
    · subst hm
      rw [List.getElem?_set_self hn] at q2; cases q2
      rw [e] at q1; cases q1
      exact .inl ⟨u, upd_same, r, g, p⟩
    · rw [List.getElem?_set_ne hm] at q2
      have : b ≠ a := by rintro rfl; exact hm (nodup_ixN S.nd e q1)
      rcases S.hq m b x q1 q2 with ⟨w', e3, r'⟩ | q
      · exact .inl ⟨w', by rw [upd_ne this]; exact e3, r'⟩
      · exact .inr q
theorem SR.share (S : SR K Pr G H ρ σ env h) {a u o} (L : Lone Pr G ρ σ env a) (e : H a = some u) (r : RepO K G ρ u o) : SR K Pr G H (ρ ++ [a]) σ env (h ++ [o]) := by
  have sg : Ext ρ (ρ ++ [a]) := Ext.app _ _
  have eq : Same G G := Same.refl _
  refine ⟨S.sub, S.prs, S.len, fun i d q => ?_, fun i ds q => ?_, S.sep, by simp [S.rl], S.gp, ?_, fun n b x q1 q2 => ?_⟩
  · obtain ⟨v, e1, r1⟩ := S.val i d q
    exact ⟨v, e1, r1.mono eq sg⟩
  · obtain ⟨b, ws, e3, e4, r3, g3, p3, n3⟩ := S.own i ds q
    refine ⟨b, ws, e3, e4, r3.mono eq sg, g3, p3, fun hm => ?_⟩
    rcases List.mem_append.mp hm with hm | hm
    · exact n3 hm
    · rw [List.mem_singleton] at hm; subst hm; exact L.o i ds q e3
  · rw [List.nodup_append]
    refine ⟨S.nd, by simp, fun x hx y hy => ?_⟩
    rw [List.mem_singleton] at hy; subst hy
    rintro rfl; exact L.r hx
  · by_cases hn : n < h.length
    · rw [List.getElem?_append_left (by rw [S.rl]; exact hn)] at q1
      rw [List.getElem?_append_left hn] at q2
      rcases S.hq n b x q1 q2 with ⟨w, e3, r1, g1⟩ | ⟨ds, ob, kvs, e, g, k, l⟩
      · exact .inl ⟨w, e3, r1.mono eq sg, g1⟩
      · exact .inr ⟨ds, ob, kvs, e, g, k, l.mono eq sg⟩
    · have hl := (List.getElem?_eq_some_iff.mp q2).1
      have en : n = h.length := by simp at hl; omega
      subst en
      rw [← S.rl, List.getElem?_append_right (Nat.le_refl _), Nat.sub_self] at q1
      rw [List.getElem?_append_right (Nat.le_refl _), Nat.sub_self] at q2
      simp at q1 q2
      subst q1; subst q2
      exact .inl ⟨u, e, r.mono eq sg, L.g, L.p⟩
theorem SR.freeze (S : SR K Pr G H ρ σ env h) {n a ds kvs ob} (e : ρ[n]? = some a) (eh : h[n]? = some (.dct ds)) (ea : H a = some (.dK kvs)) : SR K Pr (L2.upd G a (.frz ob (.dK kvs))) (L2.upd H a (.frz ob (.dK kvs))) ρ σ env (h.set n (.fz ds)) ∧ Same G (L2.upd G a (.frz ob (.dK kvs))) := by
  obtain ⟨w, q1, q2, g, p⟩ := S.hp n a _ e eh
  rw [ea] at q1; cases q1
  have sg := same_upd' (u := HO.frz ob (.dK kvs)) g
  have hn := (List.getElem?_eq_some_iff.mp eh).1
  have am := List.mem_of_getElem? e
  refine ⟨⟨fun b x q => ?_, fun b x q => ?_, S.len, fun i d q => ?_, fun i es q => ?_, S.sep, by simp [S.rl], fun b o q => by rw [upd_ne (by rintro rfl; rw [p] at q; cases q)]; exact S.gp b o q, S.nd, fun m b x q1 q2' => ?_⟩, sg⟩
  · by_cases hb : b = a
    · subst hb; rw [upd_same] at q ⊢; exact q
    · rw [upd_ne hb] at q ⊢; exact S.sub _ _ q
  · rw [upd_ne (by rintro rfl; rw [p] at q; cases q)]; exact S.prs _ _ q
  · obtain ⟨v, e1, r1⟩ := S.val i d q
    exact ⟨v, e1, r1.mono sg (Ext.refl _)⟩
  · obtain ⟨b, ws, e3, e4, r3, g3, p3, n3⟩ := S.own i es q
    have : b ≠ a := by rintro rfl; exact n3 am
    exact ⟨b, ws, e3, by rw [upd_ne this]; exact e4, r3.mono sg (Ext.refl _), by rw [upd_ne this]; exact g3, p3, n3⟩
  · by_cases hm : n = m
    · subst hm
      rw [List.getElem?_set_self hn] at q2'; cases q2'
      rw [e] at q1; cases q1
      exact .inr ⟨ds, ob, kvs, rfl, upd_same, q2.1, q2.2.mono sg (Ext.refl _)⟩
    · rw [List.getElem?_set_ne hm] at q2'
      have : b ≠ a := by rintro rfl; exact hm (nodup_ixN S.nd e q1)
      rcases S.hq m b x q1 q2' with ⟨w', e3, r', g', p'⟩ | ⟨ds', ob', kvs', e', g', k', l'⟩
      · exact .inl ⟨w', by rw [upd_ne this]; exact e3, r'.mono sg (Ext.refl _), by rw [upd_ne this]; exact g', p'⟩
      · exact .inr ⟨ds', ob', kvs', e', sg _ _ g', k', l'.mono sg (Ext.refl _)⟩
def guardH (H G : Hp) (ρ : List Addr) : Hp := fun a => if a ∈ ρ ∨ (G a).isSome then none else H a
theorem guardH_of {H G : Hp} {ρ : List Addr} {a o} (e : H a = some o) (g : G a = none) (r : a ∉ ρ) : guardH H G ρ a = some o := by
  unfold guardH; rw [if_neg (by rintro (q | q); exact r q; rw [g] at q; cases q)]; exact e
theorem of_guardH {H G : Hp} {ρ : List Addr} {a o} (e : guardH H G ρ a = some o) : H a = some o ∧ G a = none ∧ a ∉ ρ := by
  unfold guardH at e
  split at e
  · cases e
  · rename_i q
    refine ⟨e, ?_, fun m => q (.inl m)⟩
    cases z : G a with
    | none => rfl
    | some u => exact absurd (.inr (by rw [z]; rfl)) q
theorem SR.callIn (S : SR K Pr G H ρ σ env h) : SR K (guardH H G ρ) G H ρ [] [] h := by
  refine ⟨S.sub, fun b o e => (of_guardH e).1, rfl, fun i d e => by simp at e, fun i d e => by simp at e, fun i j a ds es e => by simp at e, S.rl, fun a o e => (of_guardH e).2.1, S.nd, fun n a o e1 e2 => ?_⟩
  rcases S.hq n a o e1 e2 with ⟨u, h1, h2, h3, _⟩ | q
  case inr => exact .inr q
  refine .inl ⟨u, h1, h2, h3, ?_⟩
  cases q : guardH H G ρ a with
  | none => rfl
  | some w => exact absurd (List.mem_of_getElem? e1) (of_guardH q).2.2
theorem SR.callOut (S : SR K Pr G H ρ σ env h) {G' H' : Hp} {ρ' : List Addr} {h' : AH} (sg : Same G G') (sr : Ext ρ ρ') (S' : SR K (guardH H G ρ) G' H' ρ' [] [] h') : SR K Pr G' H' ρ' σ env h' := by
  have prk : ∀ a o, Pr a = some o → guardH H G ρ a = some o := fun a o e => by
    refine guardH_of (S.prs _ _ e) (S.gp _ _ e) fun m => ?_
    have p := S.prn m
    rw [e] at p; cases p
  have nor : ∀ a o, guardH H G ρ a = some o → a ∉ ρ' := fun a o e m => by
    have p := S'.prn m
    rw [e] at p; cases p
  refine ⟨S'.sub, fun b o e => S'.prs _ _ (prk b o e), S.len, fun i d e => ?_, fun i ds e => ?_, S.sep, S'.rl, fun a o e => S'.gp a o (prk a o e), S'.nd, fun n a o e1 e2 => ?_⟩
  · obtain ⟨v, e1, r⟩ := S.val i d e
    exact ⟨v, e1, r.mono sg sr⟩
  · obtain ⟨a, vs, e1, e2, r, g, p, nr⟩ := S.own i ds e
    have q := guardH_of e2 g nr
    exact ⟨a, vs, e1, S'.prs _ _ q, r.mono sg sr, S'.gp _ _ q, p, nor _ _ q⟩
  · rcases S'.hq n a o e1 e2 with ⟨u, h1, h2, h3, h4⟩ | q
    case inr => exact .inr q
    refine .inl ⟨u, h1, h2, h3, ?_⟩
    cases q : Pr a with
    | none => rfl
    | some w => rw [prk _ _ q] at h4; cases h4
theorem SR.getL (S : SR K Pr G H ρ σ env h) {i xs} (e : EV.getL env i = .ok xs) : ∃ a vs, σ[i]? = some (some (.ref a)) ∧ H a = some (.lst vs) ∧ RepL K G ρ vs xs := by
  unfold EV.getL at e
  split at e
  · rename_i ys eo
    cases e
    obtain ⟨a, vs, e1, e2, r, _⟩ := S.own i _ eo
    exact ⟨a, vs, e1, e2, r⟩
  · rename_i ys eo
    cases e
    obtain ⟨v, e1, r⟩ := S.val i _ eo
    cases r with
    | lst hg r => exact ⟨_, _, e1, S.sub _ _ hg, r⟩
  · cases e
end
end EV
set_option maxRecDepth 100000
namespace EV
open PySem PySem.Spec PyProof.Rows L2
section
set_option maxHeartbeats 4000000
open PySem PySem.Spec PyProof.Rows L2
theorem mulSelf_walk (l : Addr) (its : Array Value) (n : Nat) (dd : Option Addr) (sl : Array (Option Value)) (x : Int) (u : Tok) (big : (decide (x < -(2 ^ 63)) || decide (x ≥ 2 ^ 63)) = false) (one : (its.isEmpty || x == 1) = true) :
    Meets (Builtin.«tuple.__mul__» ⟨[.ref l, .int x u], []⟩) (fun _ R s => s.heap.get? l = some { cls := .type "tuple", dict := dd, data := .seq its n, slots := sl } ∧ R (.ok (.ret (Value.ref l))) s) :=
  .of_wp fun prog w A R s h => by
    obtain ⟨hp, g, d, tk, os⟩ := s
    obtain ⟨hl, h⟩ := h
    have f1 := AutoSeq1.idx_int
    wp_walk using wpAny_loadPart' hl
    repeat (first
      | (refine wpAny_ite_false (decide_eq_false (by rw [big]; exact Bool.false_ne_true)) ?_; wp_walk using wpAny_loadPart' hl)
      | (refine wpAny_ite_true (decide_eq_true one) ?_; wp_walk using wpAny_loadPart' hl))
    exact ⟨_, rfl, h⟩
theorem op_mulSelf {X : Cx} : OpR X (binaryOp .Mult) (fun x y H Q => ∃ l k xs, x = .ref l ∧ y = .int k ∧ SqT X.K H l xs ∧ (xs = [] ∨ k = 1) ∧ -(2 ^ 62) ≤ k ∧ k < 2 ^ 62 ∧ Q (.ref l) H) := by
  intro pins s σ H x y v u Q I rx ry h
  obtain ⟨l, k, xs, rfl, rfl, hT, hone, h1, h2, q⟩ := h
  cases rx
  obtain ⟨t, rfl⟩ := ry
  obtain ⟨its, r, ⟨⟨cls, dd, data, sl⟩, ho, hc, n, hd⟩, hs⟩ := I.tuple hT
  simp only at hc hd
  subst hc hd
  have big : (decide (k < -(2 ^ 63)) || decide (k ≥ 2 ^ 63)) = false := by
    rw [decide_eq_false (by omega), decide_eq_false (by omega)] <;> rfl
  have one : (its.toArray.isEmpty || k == 1) = true := by
    rcases hone with rfl | rfl
    · have : its = [] := List.eq_nil_of_length_eq_zero (by rw [← r.length]; rfl)
      subst this
      rfl
    · simp
  exact wpAny_binaryOp_repeat_ref (T := "tuple") (U := "int") (by decide) ⟨_, ho, rfl⟩ (fun s' => typeIs_int s' k t) noFill_tuple_mul F.fills_int_mul F.slot_int_rmul repeat_tuple F.slot_int_index.lookup
    (call_meets F.slot_int_rmul (typeIs_int s k t) F.entry_int_rmul (F.args_int_rmul_2 _ _) (int_rmul_tuple k t l its.toArray n dd sl)
      ⟨ho, rfl, ⟨_, ho, rfl⟩, call_meets F.slot_tuple_mul ⟨_, ho, rfl⟩ F.entry_tuple_mul (F.args_tuple_mul_2 _ _) (mulSelf_walk l its.toArray n dd sl k t big one) ⟨ho, ⟨.ref l, H, I, rfl, q⟩⟩⟩)
end
section
variable (X : Cx)
def wE (e : Expr) : TE := fun σ H Q => ∀ pins s, Inv X pins σ H s → wpAny (model X.prog X.w) X.A (eval e X.env) (EP X pins σ Q) X.xe s
def wT (e : Expr) : TT := fun σ H Q => ∀ pins s, Inv X pins σ H s → wpAny (model X.prog X.w) X.A (isTrue e X.env (eval e X.env)) (TP X pins σ Q) X.xe s
def wW (e : Expr) : TT := fun σ H Q => ∀ whole pins s, Inv X pins σ H s → wpAny (model X.prog X.w) X.A (isTrue e X.env whole) (TP X pins σ Q) X.xe s
def wA (es : List Expr) : TA := fun σ H Q => ∀ pos pins s, Inv X pins σ H s → wpAny (model X.prog X.w) X.A (spliced (backTo pos (starEach es X.env))) (AP X pins σ Q) X.xe s
def wS (st : Stmt) : TS := fun D σ H => ∀ pins s, Inv X pins σ H s → wpAny (model X.prog X.w) X.A (exec st X.env) (SP X pins D) X.xe s
def wSs (st : List Stmt) : TS := fun D σ H => ∀ pins s, Inv X pins σ H s → wpAny (model X.prog X.w) X.A (execs st X.env) (SP X pins D) X.xe s
def wG (tg : Expr) : TG := fun v σ H Q => ∀ pins s u, Inv X pins σ H s → RelV v u → wpAny (model X.prog X.w) X.A (assign tg X.env u) (fun _ s' => ∃ σ' H', Inv X pins σ' H' s' ∧ Q σ' H') X.xe s
def wI (tg e : Expr) : TI := fun σ H R => ∀ pins s, Inv X pins σ H s → wpAny (model X.prog X.w) X.A (eval e X.env) (fun v s1 => wpAny (model X.prog X.w) X.A (pyIter v) (PIE X pins σ tg R) X.xe s1) X.xe s
def wTs (ifs : List Expr) : TT := fun σ H Q => ∀ pins s, Inv X pins σ H s → wpAny (model X.prog X.w) X.A (forIn ifs true fun c r => if r = true then do let ok ← isTrue c X.env (eval c X.env); pure (ForInStep.yield ok) else pure (ForInStep.yield r)) (TP X pins σ Q) X.xe s
def rW (f : Value → Value → Sem Value) : R2 := fun x y H Q => ∀ pins s σ v u, Inv X pins σ H s → RelV x v → RelV y u → wpAny (model X.prog X.w) X.A (f v u) (EP X pins σ Q) X.xe s
def cW (f : Value) : List V → Hp → VK → Prop := fun vs H Q => ∀ pins s σ us, Inv X pins σ H s → Vals vs us → wpAny (model X.prog X.w) X.A (call f us) (EP X pins σ Q) X.xe s
end
section
variable {X : Cx} {e : Expr} {σ : L2.St} {H : Hp}
theorem pe_w : PE X e (wE X e) := ⟨fun pins s _ _ _ I h => h pins s I⟩
theorem pt_w : PT X e (wT X e) := ⟨fun pins s _ _ _ I h => h pins s I⟩
theorem pw_w : PW X e (wW X e) := ⟨fun w pins s _ _ _ I h => h w pins s I⟩
theorem pa_w {es} : PA X es (wA X es) := ⟨fun pos pins s _ _ _ I h => h pos pins s I⟩
theorem ps_w {st} : PS X st (wS X st) := ⟨fun pins s _ _ _ I h => h pins s I⟩
theorem pss_w {st} : PSs X st (wSs X st) := ⟨fun pins s _ _ _ I h => h pins s I⟩
theorem pg_w {tg} : PG X tg (wG X tg) := ⟨fun pins s _ _ _ u _ I r h => h pins s u I r⟩
theorem pi_w {tg} : PI X tg e (wI X tg e) := ⟨fun pins s _ _ _ I h => h pins s I⟩
theorem PE_w {t : TE} (h : PE X e t) {Q} (q : t σ H Q) : wE X e σ H Q := fun pins s I => h.run pins s σ H Q I q
theorem PT_w {t : TT} (h : PT X e t) {Q} (q : t σ H Q) : wT X e σ H Q := fun pins s I => h.run pins s σ H Q I q
theorem PW_w {t : TT} (h : PW X e t) {Q} (q : t σ H Q) : wW X e σ H Q := fun w pins s I => h.run w pins s σ H Q I q
theorem wW_wT {Q} (q : wW X e σ H Q) : wT X e σ H Q := fun pins s I => q _ pins s I
theorem PA_w {es} {t : TA} (h : PA X es t) {Q} (q : t σ H Q) : wA X es σ H Q := fun pos pins s I => h.run pos pins s σ H Q I q
theorem PS_w {st} {t : TS} (h : PS X st t) {D} (q : t D σ H) : wS X st D σ H := fun pins s I => h.run pins s σ H D I q
theorem PSs_w {st} {t : TS} (h : PSs X st t) {D} (q : t D σ H) : wSs X st D σ H := fun pins s I => h.run pins s σ H D I q
theorem PG_w {tg} {t : TG} (h : PG X tg t) {v Q} (q : t v σ H Q) : wG X tg v σ H Q := fun pins s u I r => h.run pins s σ H v u Q I r q
theorem PI_w {tg} {t : TI} (h : PI X tg e t) {Q} (q : t σ H Q) : wI X tg e σ H Q := fun pins s I => h.run pins s σ H Q I q
theorem op_w {f} : OpR X f (rW X f) := fun pins s σ _ _ _ v u _ I rx ry h => h pins s σ v u I rx ry
theorem cr_w {f} : CallR X f (cW X f) := fun pins s σ _ _ us _ I r h => h pins s σ us I r
theorem OpR_w {f r} (h : OpR X f r) {x y Q} (q : r x y H Q) : rW X f x y H Q := fun pins s σ v u I rx ry => h pins s σ H x y v u Q I rx ry q
theorem wE_lock {Q} (h : wE X e σ H fun x H1 => ∃ d u, x = .ref d ∧ H1 d = some u ∧ Mut (some u) ∧ ∀ od, Q x (upd H1 d (.frz od u))) : wE X e σ H Q := fun pins s I => thn (h pins s I) fun v s1 ⟨x, H1, I1, r, d, u, _, hd, mu, q⟩ =>
  let ⟨od, I2⟩ := I1.lock hd mu
  ⟨x, _, I2, r, q od⟩
theorem cW_lock {f xs Q} (h : cW X f xs H fun x H1 => ∃ d u, x = .ref d ∧ H1 d = some u ∧ Mut (some u) ∧ ∀ od, Q x (upd H1 d (.frz od u))) : cW X f xs H Q := fun pins s σ us I rx => thn (h pins s σ us I rx) fun v s1 ⟨x, H1, I1, r, d, u, _, hd, mu, q⟩ =>
  let ⟨od, I2⟩ := I1.lock hd mu
  ⟨x, _, I2, r, q od⟩
theorem upd_upd (H : Hp) (a : Addr) (u v : HO) : upd (upd H a u) a v = upd H a v := by
  funext b
  by_cases hb : b = a
  · subst hb; rw [upd_same, upd_same]
  · rw [upd_ne hb, upd_ne hb, upd_ne hb]
theorem DGet.f {H : Hp} {a : Addr} {o : Obj} {kvs : List (Key × V)} {k : Key} (e : H a = some (.frz o (.dK kvs))) : DGet H a (kV k) (valV kvs k) := .inl ⟨kvs, k, .inr ⟨o, e⟩, rfl, rfl⟩
theorem CallR_w {f r} (h : CallR X f r) {xs Q} (q : r xs H Q) : cW X f xs H Q := fun pins s σ us I rx => h pins s σ H xs us Q I rx q
end
def RepX (K : PySem.W.Frag) (Pr G H : Hp) (ρ : List Addr) (σ : L2.St) (env : Env) (fr : Bool) (v : V) (d : D) : Prop :=
  match fr, d with
  | true, .lst ds => ∃ a vs, v = .ref a ∧ H a = some (.lst vs) ∧ RepL K G ρ vs ds ∧ Lone Pr G ρ σ env a
  | _, _ => RepV K G ρ v d
structure XOk (X : Cx) : Prop where
  calm : X.calm = true
  hu : X.A.units + 200 < cLine
  grd : X.A.guards = some []
def Pst (K : PySem.W.Frag) (Pr G : Hp) (ρ : List Addr) (σ : L2.St) (env' : Env) (h' : AH) (fr : Bool) (d : D) (Q : VK) : Prop :=
  ∀ G' ρ' H' v, Same G G' → Ext ρ ρ' → SR K Pr G' H' ρ' σ env' h' → RepX K Pr G' H' ρ' σ env' fr v d → Q v H'
section
variable {K : PySem.W.Frag} {Pr G H : Hp} {ρ : List Addr} {σ : L2.St} {env : Env} {h : AH} {fr : Bool} {d : D} {Q : VK}
theorem RepX.val (S : SR K Pr G H ρ σ env h) {v} (r : RepX K Pr G H ρ σ env fr v d) : ∃ G', Same G G' ∧ SR K Pr G' H ρ σ env h ∧ RepV K G' ρ v d := by
  have triv : RepV K G ρ v d → ∃ G', Same G G' ∧ SR K Pr G' H ρ σ env h ∧ RepV K G' ρ v d := fun r => ⟨G, Same.refl _, S, r⟩
  cases fr with
  | false => exact triv (by cases d <;> exact r)
  | true =>
    cases d with
    | lst ds =>
      obtain ⟨a, vs, rfl, e, rl, L⟩ := r
      have sg := same_upd' (u := HO.lst vs) L.g
      exact ⟨_, sg, S.frz L.g L.p L.r L.o e, .lst upd_same (rl.mono sg (Ext.refl _))⟩
    | _ => exact triv r
theorem Pst.false_of (P : ∀ G' ρ' H' v, Same G G' → Ext ρ ρ' → SR K Pr G' H' ρ' σ env h → RepV K G' ρ' v d → Q v H') : Pst K Pr G ρ σ env h fr d Q := fun G' ρ' H' v sg sr S r => by
  obtain ⟨G2, s2, S2, r2⟩ := r.val S
  exact P G2 ρ' H' v (sg.trans s2) sr S2 r2
theorem Pst.ofV {G' : Hp} {ρ' : List Addr} {H' : Hp} {v : V} (P : Pst K Pr G ρ σ env h fr d Q) (hd : fr = false ∨ ∀ ds, d ≠ .lst ds) (sg : Same G G') (sr : Ext ρ ρ') (S : SR K Pr G' H' ρ' σ env h) (r : RepV K G' ρ' v d) : Q v H' := by
  refine P G' ρ' H' v sg sr S ?_
  rcases hd with rfl | hd
  · cases d <;> exact r
  · cases fr <;> cases d <;> first | exact r | exact absurd rfl (hd _)
theorem Pst.ofL {ds : List D} {G' : Hp} {ρ' : List Addr} {H' : Hp} {a : Addr} {vs : List V} (P : Pst K Pr G ρ σ env h fr (.lst ds) Q) (sg : Same G G') (sr : Ext ρ ρ') (S : SR K Pr G' H' ρ' σ env h) (e : H' a = some (.lst vs)) (r : RepL K G' ρ' vs ds) (L : Lone Pr G' ρ' σ env a) : Q (.ref a) H' := by
  cases fr with
  | true => exact P G' ρ' H' _ sg sr S ⟨a, vs, rfl, e, r, L⟩
  | false =>
    have sg2 := same_upd' (u := HO.lst vs) L.g
    exact P _ ρ' H' _ (sg.trans sg2) sr (S.frz L.g L.p L.r L.o e) (.lst upd_same (r.mono sg2 (Ext.refl _)))
theorem Pst.newL {ds : List D} {G' : Hp} {ρ' : List Addr} {H' : Hp} {vs : List V} (P : Pst K Pr G ρ σ env h fr (.lst ds) Q) (sg : Same G G') (sr : Ext ρ ρ') (S : SR K Pr G' H' ρ' σ env h) (r : RepL K G' ρ' vs ds) : ∀ p, H' p = none → Q (.ref p) (upd H' p (.lst vs)) := fun p n =>
  have L := S.lone n
  P.ofL sg sr (S.setL L) upd_same r L
theorem Pst.newT {ds : List D} {G' : Hp} {ρ' : List Addr} {H' : Hp} {vs : List V} (P : Pst K Pr G ρ σ env h fr (.tup ds) Q) (sg : Same G G') (sr : Ext ρ ρ') (S : SR K Pr G' H' ρ' σ env h) (r : RepL K G' ρ' vs ds) : NewT Q H' vs := fun p o n d => by
  obtain ⟨S2, s2⟩ := S.lay (u := .frz o (.tup vs)) n
  exact P.ofV (.inr fun _ => nofun) (sg.trans s2) sr S2 (.tup (.inl ⟨o, upd_same, d⟩) (r.mono s2 (Ext.refl _)))
theorem SR.sqT (S : SR K Pr G H ρ σ env h) {a xs} (r : ClnT K G a xs) : SqT K H a xs := same_sqT S.sub r.sq
theorem SR.cln (S : SR K Pr G H ρ σ env h) {a xs} (r : ClnT K G a xs) : ClnT K H a xs := r.mono S.sub
theorem SR.sqL (S : SR K Pr G H ρ σ env h) {a xs} (r : SqL K G a xs) : SqL K H a xs := same_sqL S.sub r
end
def Op2.py : Op2 → Operator
  | .add => .Add | .sub => .Sub | .mul => .Mult | .fdiv => .FloorDiv | .mod => .Mod | .pow => .Pow
def Cm.py : Cm → CmpOp
  | .eqr => .Eq | .ner => .NotEq
  | .eq => .Eq | .ne => .NotEq | .lt => .Lt | .le => .LtE | .gt => .Gt | .ge => .GtE | .isin => .In | .notin => .NotIn | .is_ => .Is | .isnot => .IsNot
theorem ite_ok {α : Type} {c : Bool} {a b : α} (h : (if c then R.ok a else R.bad) = R.ok b) : c = true ∧ a = b := by
  cases c with
  | true => simp at h; exact ⟨rfl, h⟩
  | false => simp at h
theorem sizeLine_le {n : Nat} (h : lenOk n = true) : n ≤ sizeLine := of_decide_eq_true h
section
variable {X : Cx} {K : PySem.W.Frag} {Pr G H : Hp} {ρ : List Addr} {σ : L2.St} {env : Env} {h : AH} {fr : Bool} {d : D} {Q : VK}
theorem binD_ok (hK : X.K = K) {op dx dy} (e : binD op dx dy = .ok d) (S : SR K Pr G H ρ σ env h) {x y} (rx : RepV K G ρ x dx) (ry : RepV K G ρ y dy) (P : Pst K Pr G ρ σ env h fr d Q) :
    rW X (binaryOp op.py) x y H Q := by
  subst hK
  have eG := Same.refl G
  have eR := Ext.refl ρ
  cases op with
  | add =>
    cases rx with
    | int i =>
      cases ry <;> simp only [binD] at e <;> try (cases e; done)
      cases e
      exact OpR_w op_add ⟨_, _, rfl, rfl, P.ofV (.inr fun _ => nofun) eG eR S (.int _)⟩
    | str i =>
      cases ry <;> simp only [binD] at e <;> try (cases e; done)
      obtain ⟨h1, rfl⟩ := ite_ok e
      exact OpR_w op_add_str ⟨_, _, rfl, rfl, sizeLine_le h1, P.ofV (.inr fun _ => nofun) eG eR S (.str _)⟩
    | tup ha ra =>
      cases ry with
      | tup hb rb =>
        simp only [binD] at e
        obtain ⟨h1, rfl⟩ := ite_ok e
        have h2 := sizeLine_le h1
        rw [← ra.length, ← rb.length] at h2
        refine OpR_w op_catN ⟨_, _, _, _, rfl, rfl, S.sqT ha, S.sqT hb, h2, fun z => ?_, fun _ z => ?_, fun _ _ => ?_⟩
        · subst z
          cases ra
          exact P.ofV (.inr fun _ => nofun) eG eR S (.tup hb rb)
        · subst z
          cases rb
          exact P.ofV (.inr fun _ => nofun) eG eR S (by rw [List.append_nil]; exact .tup ha ra)
        · exact P.newT eG eR S (ra.app rb)
      | _ => simp only [binD] at e; (cases e; done)
    | lst ha ra =>
      cases ry with
      | lst hb rb =>
        simp only [binD] at e
        obtain ⟨h1, rfl⟩ := ite_ok e
        have h2 := sizeLine_le h1
        rw [← ra.length, ← rb.length] at h2
        exact OpR_w op_cat ⟨_, _, _, _, rfl, rfl, S.sub _ _ ha, S.sub _ _ hb, h2, P.newL eG eR S (ra.app rb)⟩
      | _ => simp only [binD] at e; (cases e; done)
    | non => cases ry <;> simp only [binD] at e <;> (cases e; done)
    | bl _ => cases ry <;> simp only [binD] at e <;> (cases e; done)
    | scr _ => cases ry <;> simp only [binD] at e <;> (cases e; done)
    | ref _ => cases ry <;> simp only [binD] at e <;> (cases e; done)
    | dct _ => cases ry <;> simp only [binD] at e <;> (cases e; done)
    | fn _ => cases ry <;> simp only [binD] at e <;> (cases e; done)
  | sub =>
    cases rx <;> cases ry <;> simp only [binD] at e <;> try (cases e; done)
    cases e
    exact OpR_w op_sub ⟨_, _, rfl, rfl, P.ofV (.inr fun _ => nofun) eG eR S (.int _)⟩
  | mul =>
    cases rx with
    | int i =>
      cases ry <;> simp only [binD] at e <;> try (cases e; done)
      obtain ⟨h1, rfl⟩ := ite_ok e
      refine OpR_w op_mul ⟨_, _, rfl, rfl, ?_, P.ofV (.inr fun _ => nofun) eG eR S (.int _)⟩
      simpa [CMul] using h1
    | lst ha ra =>
      cases ry <;> simp only [binD] at e <;> try (cases e; done)
      obtain ⟨h1, rfl⟩ := ite_ok e
      simp only [Bool.and_eq_true, decide_eq_true_eq] at h1
      obtain ⟨⟨h1, h2⟩, h3⟩ := h1
      have h3 := sizeLine_le h3
      rw [← ra.length] at h3
      exact OpR_w op_rep ⟨_, _, _, rfl, rfl, S.sub _ _ ha, h1, h2, h3, P.newL eG eR S (ra.rep _)⟩
    | tup ha ra =>
      cases ry <;> simp only [binD] at e <;> try (cases e; done)
      split at e
      · rename_i h1
        cases e
        simp only [Bool.or_eq_true, Bool.and_eq_true, decide_eq_true_eq] at h1
        rcases h1 with ⟨⟨h1, h2⟩, h3⟩ | rfl
        · have hx := List.isEmpty_iff.mp h1
          subst hx
          cases ra
          exact OpR_w op_mulSelf ⟨_, _, _, rfl, rfl, S.sqT ha, .inl rfl, h2, h3, P.ofV (.inr fun _ => nofun) eG eR S (.tup ha .nil)⟩
        · exact OpR_w op_mulSelf ⟨_, _, _, rfl, rfl, S.sqT ha, .inr rfl, by omega, by omega, P.ofV (.inr fun _ => nofun) eG eR S (.tup ha ra)⟩
      · obtain ⟨h1, rfl⟩ := ite_ok e
        simp only [Bool.and_eq_true, decide_eq_true_eq, Bool.not_eq_true'] at h1
        obtain ⟨⟨⟨h0, h1⟩, h2⟩, h3⟩ := h1
        refine OpR_w op_repN ⟨_, _, _, rfl, rfl, S.sqT ha, ?_, h1, h2, by rw [ra.length]; exact h3, P.newT eG eR S (ra.rep _)⟩
        rintro rfl
        cases ra
        cases h0
    | str z =>
      cases ry <;> simp only [binD] at e <;> try (cases e; done)
      obtain ⟨h1, rfl⟩ := ite_ok e
      simp only [Bool.and_eq_true, decide_eq_true_eq] at h1
      obtain ⟨⟨⟨h1, h2⟩, h3⟩, h4⟩ := h1
      exact OpR_w op_repS ⟨_, _, rfl, rfl, h1, h2, h3, h4, P.ofV (.inr fun _ => nofun) eG eR S (.str _)⟩
    | _ => cases ry <;> simp only [binD] at e <;> (cases e; done)
  | fdiv =>
    cases rx <;> cases ry <;> simp only [binD] at e <;> try (cases e; done)
    obtain ⟨h1, rfl⟩ := ite_ok e
    simp only [Bool.and_eq_true, decide_eq_true_eq] at h1
    exact OpR_w op_fdiv ⟨_, _, rfl, rfl, h1, P.ofV (.inr fun _ => nofun) eG eR S (.int _)⟩
  | mod =>
    cases rx <;> cases ry <;> simp only [binD] at e <;> try (cases e; done)
    obtain ⟨h1, rfl⟩ := ite_ok e
    exact OpR_w op_mod ⟨_, _, rfl, rfl, of_decide_eq_true h1, P.ofV (.inr fun _ => nofun) eG eR S (.int _)⟩
  | pow =>
    cases rx <;> cases ry <;> simp only [binD] at e <;> try (cases e; done)
    obtain ⟨h1, rfl⟩ := ite_ok e
    simp only [Bool.and_eq_true, decide_eq_true_eq] at h1
    exact OpR_w op_pow ⟨_, _, rfl, rfl, ⟨h1.1, h1.2.1, h1.2.2⟩, P.ofV (.inr fun _ => nofun) eG eR S (.int _)⟩

theorem okq_dp {K : PySem.W.Frag} (S : SR K Pr G H ρ σ env h) {v d} (r : RepV K G ρ v d) (q : d.okq = true) : Dp K H v d.py ∧ SeqAt.shaped d.py = true := by
  simp only [D.okq, Bool.and_eq_true] at q
  exact ⟨EV.Dp.mono S.sub (r.dp q.1), q.2⟩
mutual
theorem RepV.dpH {K : PySem.W.Frag} (S : SR K Pr G H ρ σ env h) : ∀ {v d}, RepV K G ρ v d → (d.res h).pure = true → Dp K H v (d.res h).py
  | _, _, .non, _ => .non
  | _, _, .bl b, _ => .bl b
  | _, _, .int i, _ => .int i
  | _, _, .str s, _ => .str s
  | _, _, .tup q r, p => .tup (same_sqT S.sub q.sq) (RepL.dpH S r (by simpa [D.res, D.pure] using p))
  | _, _, .lst q r, p => .lst (SqL.of (S.sub _ _ q)) (RepL.dpH S r (by simpa [D.res, D.pure] using p))
  | _, _, .scr q, p => by simp [D.res, D.pure] at p
  | _, _, @RepV.ref _ _ _ n a q, p => by
    unfold D.res at p ⊢
    split at p
    · rename_i xs eh
      obtain ⟨u, h1, h2, _⟩ := S.hp _ _ _ q eh
      cases u <;> simp only [RepO] at h2
      exact .lst (SqL.of h1) (EV.DpAll.mono S.sub (h2.dp (by simpa [D.pure] using p)))
    · simp [D.pure] at p
  | _, _, .dct q, p => by simp [D.res, D.pure] at p
  | _, _, .fn q, p => by simp [D.res, D.pure] at p
theorem RepL.dpH {K : PySem.W.Frag} (S : SR K Pr G H ρ σ env h) : ∀ {vs ds}, RepL K G ρ vs ds → D.pures (D.ress h ds) = true → DpAll K H vs (D.pys (D.ress h ds))
  | _, _, .nil, _ => .nil
  | _, _, .cons q r, p => by
    have z := (Bool.and_eq_true_iff.mp (show (D.pure (D.res h _) && D.pures (D.ress h _)) = true from p))
    exact .cons (RepV.dpH S q z.1) (RepL.dpH S r z.2)
end
theorem okq_res {K : PySem.W.Frag} (S : SR K Pr G H ρ σ env h) {v d} (r : RepV K G ρ v d) (q : (d.res h).okq = true) : Dp K H v (d.res h).py ∧ SeqAt.shaped (d.res h).py = true := by
  simp only [D.okq, Bool.and_eq_true] at q
  exact ⟨r.dpH S q.1, q.2⟩
theorem ress_nil {h : AH} {xs : List D} : (D.ress h xs).isEmpty = xs.isEmpty := by cases xs <;> rfl
theorem res_str {h : AH} {d : D} {s : Str} (e : d.res h = .str s) : d = .str s := by
  cases d <;> simp only [D.res] at e <;> first | exact e | (cases e; done) | (split at e <;> cases e)
theorem res_tup {h : AH} {d : D} {xs : List D} (e : d.res h = .tup xs) : ∃ ys, d = .tup ys ∧ xs = D.ress h ys := by
  cases d <;> simp only [D.res] at e <;> first | exact ⟨_, rfl, (D.tup.inj e).symm⟩ | (cases e; done) | (split at e <;> cases e)
theorem op_inDT (hu : X.A.units + 65 < cLine) : OpR X (compareOp .In) (fun x y H Q => ∃ d ds, Dp X.K H x d ∧ Dp X.K H y (.tuple ds) ∧ SeqAt.shaped d = true ∧ SeqAt.shaped (.tuple ds) = true ∧ Q (.bl (ds.any fun z => PyData.eqv z d)) H) := by
  intro pins s σ H x y v u Q I rx ry hh
  obtain ⟨d, ds, hd, he, sd, se, q⟩ := hh
  obtain ⟨as, r1⟩ := Dp.reads I d x v hd rx
  obtain ⟨bs, r2⟩ := Dp.reads I (.tuple ds) y u he ry
  exact SeqAt.in_tuple_reads r2 r1 (SeqAt.canLay_of_shaped se) (SeqAt.canLay_of_shaped sd) (room_in_shaped sd hu)
    ⟨.bl _, H, I, rfl, q⟩
theorem op_notInDT (hu : X.A.units + 65 < cLine) : OpR X (compareOp .NotIn) (fun x y H Q => ∃ d ds, Dp X.K H x d ∧ Dp X.K H y (.tuple ds) ∧ SeqAt.shaped d = true ∧ SeqAt.shaped (.tuple ds) = true ∧ Q (.bl (!ds.any fun z => PyData.eqv z d)) H) := by
  intro pins s σ H x y v u Q I rx ry hh
  obtain ⟨d, ds, hd, he, sd, se, q⟩ := hh
  obtain ⟨as, r1⟩ := Dp.reads I d x v hd rx
  obtain ⟨bs, r2⟩ := Dp.reads I (.tuple ds) y u he ry
  exact SeqAt.notIn_tuple_reads r2 r1 (SeqAt.canLay_of_shaped se) (SeqAt.canLay_of_shaped sd) (room_in_shaped sd hu)
    ⟨.bl _, H, I, rfl, q⟩
theorem any_py (x : D) (ys : List D) : ((D.pys ys).any fun z => PyData.eqv z x.py) = ys.any fun y => PyData.eqv y.py x.py := by
  rw [pys_map, List.any_map]; rfl
theorem shaped_swap (ys : List D) : (D.tup ys).okq = (D.lst ys).okq := by
  simp [D.okq, D.pure, D.py, SeqAt.shaped, PyData.canLay0, PyData.depth]
theorem op_isIB : OpR X (compareOp .Is) (fun x y H Q => ∃ (a : Int) (b : Bool), x = .int a ∧ y = .bl b ∧ Q (.bl false) H) := by
  intro pins s σ H x y v u Q I rx ry h
  obtain ⟨a, b, rfl, rfl, q⟩ := h
  obtain ⟨t, rfl⟩ := (show ∃ t, v = Value.int a t from rx)
  cases (show u = Value.bool b from ry)
  exact wpAny_is_other rfl (fun z => by cases z) ⟨.bl false, H, I, rfl, q⟩
theorem op_notIB : OpR X (compareOp .IsNot) (fun x y H Q => ∃ (a : Int) (b : Bool), x = .int a ∧ y = .bl b ∧ Q (.bl true) H) := by
  intro pins s σ H x y v u Q I rx ry h
  obtain ⟨a, b, rfl, rfl, q⟩ := h
  obtain ⟨t, rfl⟩ := (show ∃ t, v = Value.int a t from rx)
  cases (show u = Value.bool b from ry)
  exact wpAny_isNot_other rfl (fun z => by cases z) ⟨.bl true, H, I, rfl, q⟩
theorem isD_ok (hK : X.K = K) {dx dy b} (e : isD dx dy = .ok b) (S : SR K Pr G H ρ σ env h) {x y} (rx : RepV K G ρ x dx) (ry : RepV K G ρ y dy) :
    (Q (.bl b) H → rW X (compareOp .Is) x y H Q) ∧ (Q (.bl !b) H → rW X (compareOp .IsNot) x y H Q) := by
  subst hK
  have key : ∀ {x : V} {dx : D}, RepV X.K G ρ x dx → (decide (x = V.non)) = (match dx with | .non => true | _ => false) := fun r => by
    cases r <;> simp
  cases ry with
  | non =>
    have hb : b = decide (x = V.non) := by
      rw [key rx]
      cases rx <;> simp only [isD] at e <;> cases e <;> rfl
    subst hb
    exact ⟨fun q => OpR_w op_isN ⟨rfl, q⟩, fun q => OpR_w op_notN ⟨rfl, q⟩⟩
  | bl c =>
    cases rx <;> simp only [isD] at e <;> try (cases e; done)
    · cases e
      exact ⟨fun q => OpR_w op_isBl ⟨_, _, rfl, rfl, q⟩, fun q => OpR_w op_notBl ⟨_, _, rfl, rfl, q⟩⟩
    · cases e
      exact ⟨fun q => OpR_w op_isIB ⟨_, _, rfl, rfl, q⟩, fun q => OpR_w op_notIB ⟨_, _, rfl, rfl, q⟩⟩
  | _ => cases rx <;> simp only [isD] at e <;> (cases e; done)
theorem op_inKd (hu : X.A.units + 1 < cLine) : OpR X (compareOp .In) (fun x y H Q => ∃ a ov, y = .ref a ∧ DGet H a x ov ∧ Q (.bl ov.isSome) H) := by
  rintro pins s σ H x y v u Q I rx ry ⟨a, ov, rfl, g, q⟩
  obtain rfl : u = Value.ref a := ry
  exact d_in hu I g rx fun s3 I3 => ⟨.bl ov.isSome, H, I3, rfl, q⟩
theorem op_notInKd (hu : X.A.units + 1 < cLine) : OpR X (compareOp .NotIn) (fun x y H Q => ∃ a ov, y = .ref a ∧ DGet H a x ov ∧ Q (.bl (!ov.isSome)) H) := by
  rintro pins s σ H x y v u Q I rx ry ⟨a, ov, rfl, g, q⟩
  obtain rfl : u = Value.ref a := ry
  exact d_notIn hu I g rx fun s3 I3 => ⟨.bl (!ov.isSome), H, I3, rfl, q⟩
theorem key_rep0 {k : Key} {d : D} (e : keyD d = some k) {y} (r : RepV K G ρ y d) : y = kV k := by
  cases r <;> simp only [keyD] at e <;> cases e <;> rfl
theorem look_some (k : Key) : ∀ {ks : List (Key × V)} {ds : List (Key × D)}, ks.map (·.1) = ds.map (·.1) → (valV ks k).isSome = (lookK ds k).isSome
  | [], [], _ => rfl
  | [], _ :: _, h => by simp at h
  | _ :: _, [], h => by simp at h
  | (k1, v1) :: ks, (k2, d2) :: ds, h => by
    rw [List.map_cons, List.map_cons] at h
    injection h with h1 h2
    have h1 : k1 = k2 := h1
    subst h1
    have ih := look_some k h2
    unfold valV lookK at ih ⊢
    by_cases hk : k1 = k
    · simp [List.find?_cons, hk]
    · simp only [List.find?_cons, hk, decide_false]
      exact ih
theorem inD_ok (hK : X.K = K) (hX : XOk X) {dx dy b} (e : inD h dx dy = .ok b) (S : SR K Pr G H ρ σ env h) {x y} (rx : RepV K G ρ x dx) (ry : RepV K G ρ y dy) :
    (Q (.bl b) H → rW X (compareOp .In) x y H Q) ∧ (Q (.bl !b) H → rW X (compareOp .NotIn) x y H Q) := by
  subst hK
  have hu : X.A.units + 65 < cLine := by have := hX.hu; omega
  have seq : ∀ {ys}, anyD dx ys = .ok b → dx.okq = true ∧ (D.lst ys).okq = true ∧ b = ys.any fun y => PyData.eqv y.py dx.py := fun {ys} e => by
    unfold anyD at e
    obtain ⟨h1, h2⟩ := ite_ok e
    rw [Bool.and_eq_true] at h1
    exact ⟨h1.1, h1.2, h2.symm⟩
  cases ry with
  | @tup _ _ ds hb rb =>
    have e' : anyD dx ds = .ok b := by cases rx <;> exact e
    obtain ⟨q1, q2, rfl⟩ := seq e'
    rw [← shaped_swap] at q2
    obtain ⟨p1, p2⟩ := okq_dp S rx q1
    obtain ⟨p3, p4⟩ := okq_dp S (.tup hb rb) q2
    rw [← any_py]
    exact ⟨fun q => OpR_w (op_inDT hu) ⟨_, _, p1, p3, p2, p4, q⟩, fun q => OpR_w (op_notInDT hu) ⟨_, _, p1, p3, p2, p4, q⟩⟩
  | @lst _ _ ds hb rb =>
    have e' : anyD dx ds = .ok b := by cases rx <;> exact e
    obtain ⟨q1, q2, rfl⟩ := seq e'
    obtain ⟨p1, p2⟩ := okq_dp S rx q1
    obtain ⟨p3, p4⟩ := okq_dp S (.lst hb rb) q2
    rw [← any_py]
    exact ⟨fun q => OpR_w (op_inD hu) ⟨_, _, p1, p3, p2, p4, q⟩, fun q => OpR_w (op_notInD hu) ⟨_, _, p1, p3, p2, p4, q⟩⟩
  | str z =>
    cases rx <;> simp only [inD] at e <;> try (cases e; done)
    cases e
    exact ⟨fun q => OpR_w op_in_str ⟨_, _, rfl, rfl, q⟩, fun q => OpR_w op_notin_str ⟨_, _, rfl, rfl, q⟩⟩
  | @ref n a ha =>
    have e' : (match h[n]? with
      | some (.dct kvs) => (match keyD dx with
        | some k => R.ok (lookK kvs k).isSome
        | none => .bad)
      | some (.lst ys) => anyD dx ys
      | some (.fz kvs) => (match keyD dx with
        | some k => R.ok (lookK kvs k).isSome
        | none => .bad)
      | none => .bad) = .ok b := by cases rx <;> exact e
    split at e'
    · rename_i kvs eh
      split at e'
      case h_2 => cases e'
      rename_i k ek
      cases e'
      obtain ⟨u, h1, h2, _⟩ := S.hp _ _ _ ha eh
      cases u <;> simp only [RepO] at h2 <;> try (exact h2.elim)
      rename_i ks
      have hk : x = kV k := key_rep0 ek rx
      subst hk
      have hs := look_some k h2.1
      rw [← hs]
      have hu2 : X.A.units + 1 < cLine := by omega
      exact ⟨fun q => OpR_w (op_inKd hu2) ⟨_, _, rfl, DGet.k h1, q⟩, fun q => OpR_w (op_notInKd hu2) ⟨_, _, rfl, DGet.k h1, q⟩⟩
    · rename_i ys eh
      obtain ⟨q1, q2, rfl⟩ := seq e'
      obtain ⟨u, h1, h2, _⟩ := S.hp _ _ _ ha eh
      cases u <;> simp only [RepO] at h2 <;> try (exact h2.elim)
      obtain ⟨p1, p2⟩ := okq_dp S rx q1
      have q4 := q2
      simp only [D.okq, Bool.and_eq_true, D.pure] at q4
      have p3 : Dp X.K H (.ref a) (.list (D.pys ys)) := .lst (.inl (.inl h1)) (EV.DpAll.mono S.sub (h2.dp q4.1))
      rw [← any_py]
      exact ⟨fun q => OpR_w (op_inD hu) ⟨_, _, p1, p3, p2, q4.2, q⟩, fun q => OpR_w (op_notInD hu) ⟨_, _, p1, p3, p2, q4.2, q⟩⟩
    · rename_i kvs eh
      split at e'
      case h_2 => cases e'
      rename_i k ek
      cases e'
      obtain ⟨ob, ks, h1, h2, _⟩ := S.hz _ _ _ ha eh
      have hk : x = kV k := key_rep0 ek rx
      subst hk
      have hs := look_some k h2
      rw [← hs]
      have hu2 : X.A.units + 1 < cLine := by omega
      exact ⟨fun q => OpR_w (op_inKd hu2) ⟨_, _, rfl, DGet.f (S.sub _ _ h1), q⟩, fun q => OpR_w (op_notInKd hu2) ⟨_, _, rfl, DGet.f (S.sub _ _ h1), q⟩⟩
    · cases e'
  | @dct a o kvs ha =>
    have e' : (match keyD dx with
      | some k => R.ok (lookI kvs k).isSome
      | none => .bad) = .ok b := by cases rx <;> exact e
    split at e'
    · rename_i k ek
      cases e'
      have hk : x = kV k := key_rep0 ek rx
      subst hk
      have hs : (valV (kvs.map fun p => (p.1, V.int p.2)) k).isSome = (lookI kvs k).isSome := by
        unfold valV lookI
        rw [List.find?_map]
        simp [Function.comp_def]
      rw [← hs]
      have hu2 : X.A.units + 1 < cLine := by omega
      exact ⟨fun q => OpR_w (op_inKd hu2) ⟨_, _, rfl, DGet.f (S.sub _ _ ha), q⟩, fun q => OpR_w (op_notInKd hu2) ⟨_, _, rfl, DGet.f (S.sub _ _ ha), q⟩⟩
    · cases e'
  | _ => cases rx <;> simp only [inD] at e <;> (cases e; done)
theorem op_eqNil (hu : X.A.units + 64 < cLine) : OpR X (compareOp .Eq) (fun x y H Q => ∃ a b xs, x = .ref a ∧ y = .ref b ∧ SqT X.K H a xs ∧ SqT X.K H b [] ∧ Q (.bl xs.isEmpty) H) := by
  rintro pins s σ H x y v u Q I rx ry ⟨a, b, xs, rfl, rfl, ha, hb, q⟩
  cases rx
  cases ry
  obtain ⟨its, r1, t1, _⟩ := I.tuple ha
  obtain ⟨is2, r2, t2, _⟩ := I.tuple hb
  cases r2
  refine SeqAt.RcAt.tuples (e := fun _ => true) (l := a) (b := b) (items := its.toArray) (items2 := #[]) t1 t2 (by omega) (fun j _ h2 => absurd h2 (by simp)) X.prog X.w X.xe _ ?_
  refine ⟨.bl xs.isEmpty, H, I, ?_, q⟩
  cases r1 <;> rfl
theorem op_neNil (hu : X.A.units + 64 < cLine) : OpR X (compareOp .NotEq) (fun x y H Q => ∃ a b xs, x = .ref a ∧ y = .ref b ∧ SqT X.K H a xs ∧ SqT X.K H b [] ∧ Q (.bl !xs.isEmpty) H) := by
  rintro pins s σ H x y v u Q I rx ry ⟨a, b, xs, rfl, rfl, ha, hb, q⟩
  cases rx
  cases ry
  obtain ⟨its, r1, t1, _⟩ := I.tuple ha
  obtain ⟨is2, r2, t2, _⟩ := I.tuple hb
  cases r2
  refine SeqAt.RcNeAt.tuples (e := fun _ => true) (l := a) (b := b) (items := its.toArray) (items2 := #[]) t1 t2 (by omega) (fun j _ h2 => absurd h2 (by simp)) X.prog X.w X.xe _ ?_
  refine ⟨.bl !xs.isEmpty, H, I, ?_, q⟩
  cases r1 <;> rfl
theorem cmpD_ok (hK : X.K = K) (hX : XOk X) {op dx dy b} (e : cmpD h op dx dy = .ok b) (S : SR K Pr G H ρ σ env h) {x y} (rx : RepV K G ρ x dx) (ry : RepV K G ρ y dy) (q : Q (.bl b) H) :
    rW X (compareOp op.py) x y H Q := by
  have hu : X.A.units + 64 < cLine := by have := hX.hu; omega
  have eqs : ∀ {b}, eqD dx dy = .ok b → (∃ i j, dx = .str i ∧ dy = .str j ∧ b = (i == j)) ∨ (dx.okq = true ∧ dy.okq = true ∧ b = PyData.eqv dx.py dy.py) ∨ (∃ xs, dx = .tup xs ∧ dy = .tup [] ∧ b = xs.isEmpty) := fun {b} e => by
    unfold eqD at e
    split at e
    · cases e
      exact .inl ⟨_, _, rfl, rfl, rfl⟩
    · split at e
      · rename_i h1
        rw [Bool.and_eq_true] at h1
        exact .inr (.inl ⟨h1.1, h1.2, (R.ok.inj e).symm⟩)
      · split at e
        · exact .inr (.inr ⟨_, rfl, rfl, (R.ok.inj e).symm⟩)
        · cases e
  have isE : ∀ {vs : List V} {xs : List D}, RepL K G ρ vs xs → vs.isEmpty = xs.isEmpty := fun r => by cases r <;> rfl
  have eqs2 : ∀ {b}, eqD (dx.res h) (dy.res h) = .ok b → (∃ i j, dx = .str i ∧ dy = .str j ∧ b = (i == j)) ∨ (∃ p q, Dp K H x p ∧ Dp K H y q ∧ SeqAt.shaped p = true ∧ SeqAt.shaped q = true ∧ b = PyData.eqv p q) ∨ (∃ xs, dx = .tup xs ∧ dy = .tup [] ∧ b = xs.isEmpty) := fun {b} e => by
    · rcases (show (∃ i j, dx.res h = .str i ∧ dy.res h = .str j ∧ b = (i == j)) ∨ ((dx.res h).okq = true ∧ (dy.res h).okq = true ∧ b = PyData.eqv (dx.res h).py (dy.res h).py) ∨ (∃ xs, dx.res h = .tup xs ∧ dy.res h = .tup [] ∧ b = xs.isEmpty) by
        unfold eqD at e
        split at e
        · rename_i e1 e2
          cases e
          exact .inl ⟨_, _, e1, e2, rfl⟩
        · split at e
          · rename_i h1
            rw [Bool.and_eq_true] at h1
            exact .inr (.inl ⟨h1.1, h1.2, (R.ok.inj e).symm⟩)
          · split at e
            · rename_i e1 e2
              exact .inr (.inr ⟨_, e1, e2, (R.ok.inj e).symm⟩)
            · cases e) with ⟨i, j, e1, e2, e3⟩ | ⟨q1, q2, e3⟩ | ⟨xs, e1, e2, e3⟩
      · exact .inl ⟨i, j, res_str e1, res_str e2, e3⟩
      · obtain ⟨p1, p2⟩ := okq_res S rx q1
        obtain ⟨p3, p4⟩ := okq_res S ry q2
        exact .inr (.inl ⟨_, _, p1, p3, p2, p4, e3⟩)
      · obtain ⟨ys, e4, rfl⟩ := res_tup e1
        obtain ⟨zs, e5, e6⟩ := res_tup e2
        have : zs = [] := by cases zs with
          | nil => rfl
          | cons _ _ => cases e6
        subst this
        exact .inr (.inr ⟨ys, e4, e5, by rw [e3, ress_nil]⟩)
  have dstr : ∀ {i j : Str}, decide (V.str i = V.str j) = (i == j) := by
    intro i j
    rw [Bool.eq_iff_iff]
    simp
  have eqs3 : ∀ {b}, eqD dx dy = .ok b → (∃ i j, dx = .str i ∧ dy = .str j ∧ b = (i == j)) ∨ (∃ p q, Dp K H x p ∧ Dp K H y q ∧ SeqAt.shaped p = true ∧ SeqAt.shaped q = true ∧ b = PyData.eqv p q) ∨ (∃ xs, dx = .tup xs ∧ dy = .tup [] ∧ b = xs.isEmpty) := fun {b} e => by
    rcases eqs e with q | ⟨q1, q2, e3⟩ | q
    · exact .inl q
    · obtain ⟨p1, p2⟩ := okq_dp S rx q1
      obtain ⟨p3, p4⟩ := okq_dp S ry q2
      exact .inr (.inl ⟨_, _, p1, p3, p2, p4, e3⟩)
    · exact .inr (.inr q)
  cases op with
  | eqr =>
    subst hK
    rcases eqs2 e with ⟨i, j, rfl, rfl, rfl⟩ | ⟨p, q', p1, p3, p2, p4, rfl⟩ | ⟨xs, rfl, rfl, rfl⟩
    · cases rx
      cases ry
      exact OpR_w op_eq ⟨rfl, by rw [dstr]; exact q⟩
    exact OpR_w (op_eqD hu) ⟨_, _, p1, p3, p2, p4, q⟩
    cases rx with
    | tup ha ra =>
      cases ry with
      | tup hb rb =>
        cases rb
        exact OpR_w (op_eqNil hu) ⟨_, _, _, rfl, rfl, S.sqT ha, S.sqT hb, by rw [isE ra]; exact q⟩
  | ner =>
    subst hK
    obtain ⟨c, e1, e2⟩ := R.bind_inv (show (eqD (dx.res h) (dy.res h) >>= fun r => R.ok !r) = .ok b from e)
    cases e2
    rcases eqs2 e1 with ⟨i, j, rfl, rfl, rfl⟩ | ⟨p, q', p1, p3, p2, p4, rfl⟩ | ⟨xs, rfl, rfl, rfl⟩
    · cases rx
      cases ry
      exact OpR_w op_ne ⟨rfl, by rw [dstr]; exact q⟩
    exact OpR_w (op_neD hu) ⟨_, _, p1, p3, p2, p4, q⟩
    cases rx with
    | tup ha ra =>
      cases ry with
      | tup hb rb =>
        cases rb
        exact OpR_w (op_neNil hu) ⟨_, _, _, rfl, rfl, S.sqT ha, S.sqT hb, by rw [isE ra]; exact q⟩
  | eq =>
    subst hK
    rcases eqs3 e with ⟨i, j, rfl, rfl, rfl⟩ | ⟨p, q', p1, p3, p2, p4, rfl⟩ | ⟨xs, rfl, rfl, rfl⟩
    · cases rx
      cases ry
      exact OpR_w op_eq ⟨rfl, by rw [dstr]; exact q⟩
    exact OpR_w (op_eqD hu) ⟨_, _, p1, p3, p2, p4, q⟩
    cases rx with
    | tup ha ra =>
      cases ry with
      | tup hb rb =>
        cases rb
        exact OpR_w (op_eqNil hu) ⟨_, _, _, rfl, rfl, S.sqT ha, S.sqT hb, by rw [isE ra]; exact q⟩
  | ne =>
    subst hK
    obtain ⟨c, e1, e2⟩ := R.bind_inv (show (eqD dx dy >>= fun r => R.ok !r) = .ok b from e)
    cases e2
    rcases eqs3 e1 with ⟨i, j, rfl, rfl, rfl⟩ | ⟨p, q', p1, p3, p2, p4, rfl⟩ | ⟨xs, rfl, rfl, rfl⟩
    · cases rx
      cases ry
      exact OpR_w op_ne ⟨rfl, by rw [dstr]; exact q⟩
    exact OpR_w (op_neD hu) ⟨_, _, p1, p3, p2, p4, q⟩
    cases rx with
    | tup ha ra =>
      cases ry with
      | tup hb rb =>
        cases rb
        exact OpR_w (op_neNil hu) ⟨_, _, _, rfl, rfl, S.sqT ha, S.sqT hb, by rw [isE ra]; exact q⟩
  | lt =>
    simp only [cmpD] at e
    cases rx with
    | int i =>
      cases ry <;> simp only [ltD] at e <;> try (cases e; done)
      cases e
      exact OpR_w op_lt ⟨_, _, rfl, rfl, q⟩
    | str i =>
      cases ry <;> simp only [ltD] at e <;> try (cases e; done)
      cases e
      exact OpR_w op_lt_str ⟨_, _, rfl, rfl, q⟩
    | tup ha ra =>
      cases ry with
      | tup hb rb =>
        subst hK
        simp only [ltD] at e
        split at e
        · rename_i ns ms e1 e2
          cases e
          rw [intsOf_eq e1] at ra
          rw [intsOf_eq e2] at rb
          rw [ra.ints] at ha
          rw [rb.ints] at hb
          exact OpR_w (op_ltT (by omega)) ⟨_, _, _, _, rfl, rfl, S.sqT ha, S.sqT hb, q⟩
        · (cases e; done)
      | _ => simp only [ltD] at e; (cases e; done)
    | _ => cases ry <;> simp only [ltD] at e <;> (cases e; done)
  | le =>
    simp only [cmpD] at e
    cases rx <;> cases ry <;> simp only [leD] at e <;> try (cases e; done)
    · cases e
      exact OpR_w op_le ⟨_, _, rfl, rfl, q⟩
    · cases e
      exact OpR_w op_le_str ⟨_, _, rfl, rfl, q⟩
  | gt =>
    simp only [cmpD] at e
    cases rx <;> cases ry <;> simp only [gtD] at e <;> try (cases e; done)
    cases e
    exact OpR_w op_gt ⟨_, _, rfl, rfl, q⟩
  | ge =>
    simp only [cmpD] at e
    cases rx <;> cases ry <;> simp only [geD] at e <;> try (cases e; done)
    cases e
    exact OpR_w op_ge ⟨_, _, rfl, rfl, q⟩
  | isin => exact (inD_ok hK hX e S rx ry).1 q
  | notin =>
    obtain ⟨c, e1, e2⟩ := R.bind_inv (show (inD h dx dy >>= fun r => R.ok !r) = .ok b from e)
    cases e2
    exact (inD_ok hK hX e1 S rx ry).2 q
  | is_ => exact (isD_ok hK e S rx ry).1 q
  | isnot =>
    obtain ⟨c, e1, e2⟩ := R.bind_inv (show (isD dx dy >>= fun r => R.ok !r) = .ok b from e)
    cases e2
    exact (isD_ok hK e1 S rx ry).2 q
end
end EV
set_option maxRecDepth 100000
namespace EV
open PySem PySem.Spec PyProof.Rows L2
section
variable {X : Cx} {K : PySem.W.Frag} {Pr G H : Hp} {ρ : List Addr} {σ : L2.St} {env : Env} {h : AH} {fr : Bool} {d : D} {Q : VK}
theorem ofO_inv {α : Type} {o : Option α} {a : α} (e : ofO o = .ok a) : o = some a := by
  cases o <;> cases e; rfl
theorem RepL.atI {vs ds} (r : RepL K G ρ vs ds) {i : Int} {d} (e : L2.atI ds i = some d) : ∃ v, L2.atI vs i = some v ∧ RepV K G ρ v d := by
  unfold L2.atI at e ⊢
  rw [r.length]
  cases hi : ixN ds.length i with
  | none => rw [hi] at e; cases e
  | some j =>
    rw [hi] at e
    exact r.get e
theorem RepL.cut {vs ds} (r : RepL K G ρ vs ds) (lo hi : Option Int) : RepL K G ρ (cutV vs lo hi) (cutG ds lo hi) := by
  unfold cutV cutG
  rw [r.length]
  exact (r.drop _).take _

theorem truthy_ok (hK : X.K = K) {b} (e : truthy h d = .ok b) (S : SR K Pr G H ρ σ env h) {x} (r : RepV K G ρ x d) : TruV X.K x H b := by
  subst hK
  cases r with
  | non => cases e; rfl
  | bl _ => cases e; rfl
  | int _ => cases e; rfl
  | str s =>
    obtain ⟨h1, rfl⟩ := ite_ok (show (if decide (s.length ≤ sizeLine) then R.ok ((s.length : Int) != 0) else R.bad) = .ok b from e)
    exact ⟨of_decide_eq_true h1, rfl⟩
  | @tup a vs ds ha ra =>
    have e' : (!ds.isEmpty) = b := by cases e; rfl
    refine .inr (.inl ⟨vs, S.sqT ha, ?_⟩)
    rw [← e']
    cases ra <;> rfl
  | @lst a vs ds ha ra =>
    have e' : (!ds.isEmpty) = b := by cases e; rfl
    refine .inl ⟨vs, .inl (.inl (S.sub _ _ ha)), ?_⟩
    rw [← e']
    cases ra <;> rfl
  | scr _ => cases e
  | ref _ => cases e
  | dct _ => cases e
  | fn _ => cases e

theorem kit_table : ∀ k ∈ kinds, ∀ t ∈ tyNames, kitB k t = some (isSub k t) := by decide +kernel
theorem kitAny_table {K : PySem.W.Frag} {k : String} (hk : k ∈ kinds) : ∀ ts : List String, (∀ t ∈ ts, t ∈ tyNames) → PySem.W.kitAny K (.type k) (ts.map Value.type) = some (ts.any fun t => isSub k t)
  | [], _ => rfl
  | t :: ts, hm => by
    have h1 := kit_ty (K := K) (kit_table k hk t (hm t List.mem_cons_self))
    refine kitAny_cons h1 (fun e => ?_) fun e => ?_
    · rw [kitAny_table hk ts fun t ht => hm t (List.mem_cons_of_mem _ ht), List.any_cons, e, Bool.false_or]
    · rw [List.any_cons, e, Bool.true_or]
theorem tyx_of {k} (e : kindD h d = some k) (S : SR K Pr G H ρ σ env h) {x} (r : RepV K G ρ x d) : TyX K H x (.type k) ∧ k ∈ kinds := by
  cases r with
  | non => cases e; exact ⟨.base .non, by decide⟩
  | bl _ => cases e; exact ⟨.base (.bl _), by decide⟩
  | int _ => cases e; exact ⟨.base (.int _), by decide⟩
  | str s => cases e; exact ⟨.base (.str _), by decide⟩
  | tup ha ra =>
    cases e
    refine ⟨?_, by decide⟩
    rcases S.sqT ha with (q | ⟨o, q⟩) | ⟨o, its, n, q, c, _⟩
    · exact .base (.tup q)
    · exact .fTuple q
    · exact .kTuple q c
  | lst ha ra => cases e; exact ⟨.base (.lst (S.sub _ _ ha)), by decide⟩
  | scr ha =>
    cases e
    refine ⟨?_, by decide⟩
    rcases S.sqL ha with (q | ⟨o, q⟩) | ⟨o, its, n, q, c, _⟩
    · exact .base (.lst q)
    · exact .base (.frz q)
    · exact .kList q c
  | @ref n a hn =>
    simp only [kindD] at e
    split at e <;> cases e
    · rename_i xs ho
      obtain ⟨u, h1, h2, _⟩ := S.hp n a _ hn ho
      cases u <;> simp only [RepO] at h2
      exact ⟨.base (.lst h1), by decide⟩
    · rename_i xs ho
      obtain ⟨u, h1, h2, _⟩ := S.hp n a _ hn ho
      cases u <;> simp only [RepO] at h2
      exact ⟨.base (.dK h1), by decide⟩
    · rename_i xs ho
      obtain ⟨ob, ks, h1, _⟩ := S.hz n a _ hn ho
      exact ⟨.fDict (S.sub _ _ h1), by decide⟩
  | dct hg => cases e; exact ⟨.fDict (S.sub _ _ hg), by decide⟩
  | fn _ => cases e

theorem ix_ok_seq (hK : X.K = K) {dy} (e : ixD h d dy = .ok dr) (nr : ∀ n, d ≠ .ref n) (nd : ∀ kvs, d ≠ .dct kvs) (S : SR K Pr G H ρ σ env h) {x y} (rx : RepV K G ρ x d) (ry : RepV K G ρ y dy) (P : Pst K Pr G ρ σ env h false dr Q) :
    L2.rIx X.K x y H Q := by
  subst hK
  cases rx with
  | tup ha ra =>
    cases ry <;> simp only [ixD] at e <;> try (cases e; done)
    obtain ⟨v, e1, r1⟩ := ra.atI (ofO_inv e)
    exact .inr (.inl ⟨_, _, _, _, rfl, rfl, S.sqT ha, e1, P.ofV (.inl rfl) (Same.refl _) (Ext.refl _) S r1⟩)
  | lst ha ra =>
    cases ry <;> simp only [ixD] at e <;> try (cases e; done)
    obtain ⟨v, e1, r1⟩ := ra.atI (ofO_inv e)
    exact .inl ⟨_, _, _, _, rfl, rfl, .inl (.inl (S.sub _ _ ha)), e1, P.ofV (.inl rfl) (Same.refl _) (Ext.refl _) S r1⟩
  | str z =>
    cases ry <;> simp only [ixD] at e <;> try (cases e; done)
    split at e
    · rename_i hz
      have e2 := ofO_inv e
      simp only [Option.map_eq_some_iff] at e2
      obtain ⟨c, e3, rfl⟩ := e2
      exact .inr (.inr ⟨_, _, _, rfl, rfl, sizeLine_le hz, e3, P.ofV (.inl rfl) (Same.refl _) (Ext.refl _) S (.str _)⟩)
    · cases e
  | ref _ => exact absurd rfl (nr _)
  | dct _ => exact absurd rfl (nd _)
  | _ => cases ry <;> simp only [ixD] at e <;> (cases e; done)
theorem ix_ok_own (hK : X.K = K) {i : Nat} {ds : List D} {dy} (eo : getL env i = .ok ds) (e : ixD h (.lst ds) dy = .ok dr) (S : SR K Pr G H ρ σ env h) {x y} (ex : σ[i]? = some (some x)) (ry : RepV K G ρ y dy) (P : Pst K Pr G ρ σ env h false dr Q) :
    L2.rIx X.K x y H Q := by
  subst hK
  obtain ⟨a, vs, e1, e2, r⟩ := S.getL eo
  rw [ex] at e1; cases e1
  cases ry <;> simp only [ixD] at e <;> try (cases e; done)
  have e3 := ofO_inv e
  obtain ⟨v, e4, r1⟩ := r.atI e3
  exact .inl ⟨_, _, _, _, rfl, rfl, .inl (.inl e2), e4, P.ofV (.inl rfl) (Same.refl _) (Ext.refl _) S r1⟩
theorem key_rep {k : Key} (e : keyD d = some k) {y} (r : RepV K G ρ y d) : y = kV k := by
  cases r <;> simp only [keyD] at e <;> cases e <;> rfl
theorem find_rep (k : Key) : ∀ {ks : List (Key × V)} {ds : List (Key × D)}, ks.map (·.1) = ds.map (·.1) → RepL K G ρ (ks.map (·.2)) (ds.map (·.2)) → ∀ {dr}, lookK ds k = some dr → ∃ v, valV ks k = some v ∧ RepV K G ρ v dr
  | [], [], _, _, _, e => by simp [lookK] at e
  | [], _ :: _, h, _, _, _ => by simp at h
  | _ :: _, [], h, _, _, _ => by simp at h
  | (k1, v1) :: ks, (k2, d2) :: ds, h, r, dr, e => by
    rw [List.map_cons, List.map_cons] at h
    injection h with h1 h2
    have h1 : k1 = k2 := h1
    subst h1
    cases r with
    | cons q r =>
      by_cases hk : k1 = k
      · subst hk
        have e1 : d2 = dr := by simpa [lookK] using e
        subst e1
        exact ⟨v1, valV_pos rfl, q⟩
      · have e1 : lookK ds k = some dr := by
          simp only [lookK, List.find?_cons, hk, decide_false] at e
          exact e
        obtain ⟨v, e2, r2⟩ := find_rep k h2 r e1
        exact ⟨v, by rw [valV_neg hk]; exact e2, r2⟩
theorem put_map (k : Key) (v : V) (d : D) (rv : RepV K G ρ v d) : ∀ {ks : List (Key × V)} {ds : List (Key × D)}, ks.map (·.1) = ds.map (·.1) → RepL K G ρ (ks.map (·.2)) (ds.map (·.2)) →
    (ks.map fun kv => if kv.1 = k then (kv.1, v) else kv).map (·.1) = (ds.map fun p => if p.1 = k then (p.1, d) else p).map (·.1) ∧
    RepL K G ρ ((ks.map fun kv => if kv.1 = k then (kv.1, v) else kv).map (·.2)) ((ds.map fun p => if p.1 = k then (p.1, d) else p).map (·.2))
  | [], [], _, _ => ⟨rfl, .nil⟩
  | [], _ :: _, h, _ => by simp at h
  | _ :: _, [], h, _ => by simp at h
  | (k1, v1) :: ks, (k2, d2) :: ds, h, r => by
    rw [List.map_cons, List.map_cons] at h
    injection h with h1 h2
    have h1 : k1 = k2 := h1
    subst h1
    cases r with
    | cons q r =>
      obtain ⟨i1, i2⟩ := put_map k v d rv h2 r
      by_cases hk : k1 = k
      · simp only [List.map_cons, hk, if_true]
        exact ⟨by rw [← i1], .cons rv i2⟩
      · simp only [List.map_cons, hk, if_false]
        exact ⟨by rw [← i1], .cons q i2⟩
theorem put_keys (k : Key) (v : V) (d : D) {ks : List (Key × V)} {ds : List (Key × D)} (h : ks.map (·.1) = ds.map (·.1)) (r : RepL K G ρ (ks.map (·.2)) (ds.map (·.2))) (rv : RepV K G ρ v d) :
    (putK ks k v).map (·.1) = (putK' ds k d).map (·.1) ∧ RepL K G ρ ((putK ks k v).map (·.2)) ((putK' ds k d).map (·.2)) := by
  have hany : (ks.any fun p => decide (p.1 = k)) = (ds.any fun p => decide (p.1 = k)) := by
    have e1 : (ks.any fun p => decide (p.1 = k)) = (ks.map (·.1)).any fun q => decide (q = k) := by rw [List.any_map]; rfl
    have e2 : (ds.any fun p => decide (p.1 = k)) = (ds.map (·.1)).any fun q => decide (q = k) := by rw [List.any_map]; rfl
    rw [e1, e2, h]
  unfold putK putK'
  rw [hany]
  cases (ds.any fun p => decide (p.1 = k)) with
  | true =>
    simp only [if_true]
    exact put_map k v d rv h r
  | false =>
    simp only [Bool.false_eq_true, if_false, List.map_append, List.map_cons, List.map_nil]
    exact ⟨by rw [h], r.app (.cons rv .nil)⟩
theorem sl_ok (hK : X.K = K) {lo hi dr} (e : slD d lo hi = .ok dr) (S : SR K Pr G H ρ σ env h) {x} (rx : RepV K G ρ x d) (P : Pst K Pr G ρ σ env h fr dr Q) :
    (∃ ds, d = .tup ds ∧ rSlN X.K x lo hi H Q) ∨ (∃ ds, d = .lst ds ∧ rSlL X.K x lo hi H Q) ∨ (∃ z, d = .str z ∧ rSlS x lo hi H Q) := by
  subst hK
  have nl : ∀ {ds}, ∀ ds', D.tup ds ≠ .lst ds' := fun _ => nofun
  cases rx with
  | @tup a vs ds ha ra =>
    cases e
    refine .inl ⟨_, rfl, _, _, rfl, S.sqT ha, fun ⟨h1, h2⟩ => ?_, fun _ => P.newT (Same.refl _) (Ext.refl _) S (ra.cut lo hi)⟩
    have e3 : cutG ds lo hi = ds := by
      unfold cutG
      rw [← ra.length, h1, h2, List.drop_zero, Nat.sub_zero, ra.length]
      exact List.take_length
    refine P.ofV (.inr fun _ => nofun) (Same.refl _) (Ext.refl _) S ?_
    rw [e3]
    exact .tup ha ra
  | @lst a vs ds ha ra =>
    cases e
    exact .inr (.inl ⟨_, rfl, _, _, rfl, .inl (.inl (S.sub _ _ ha)), P.newL (Same.refl _) (Ext.refl _) S (ra.cut lo hi)⟩)
  | str z =>
    obtain ⟨h1, h2⟩ := ite_ok (show (if lenOk z.length then R.ok (D.str ⟨(cutG z.cps.toList lo hi).toArray⟩) else R.bad) = .ok dr from e)
    subst h2
    refine .inr (.inr ⟨z, rfl, z, rfl, sizeLine_le h1, ?_⟩)
    have e4 : cutS z lo hi = ⟨(cutG z.cps.toList lo hi).toArray⟩ := by
      unfold cutS cutG
      have : z.length = z.cps.toList.length := by simp [Str.length]
      rw [this]
    rw [e4]
    exact P.ofV (.inr fun _ => nofun) (Same.refl _) (Ext.refl _) S (.str _)
  | _ => cases e
theorem sl_ok_own (hK : X.K = K) {i : Nat} {ds : List D} {lo hi dr} (eo : getL env i = .ok ds) (e : slD (.lst ds) lo hi = .ok dr) (S : SR K Pr G H ρ σ env h) {x} (ex : σ[i]? = some (some x)) (P : Pst K Pr G ρ σ env h fr dr Q) :
    rSlL X.K x lo hi H Q := by
  subst hK
  obtain ⟨a, vs, e1, e2, r⟩ := S.getL eo
  rw [ex] at e1; cases e1
  cases e
  exact ⟨_, _, rfl, .inl (.inl e2), P.newL (Same.refl _) (Ext.refl _) S (r.cut lo hi)⟩

theorem foldl_max_mem : ∀ (xs : List Int) (x : Int), xs.foldl max x ∈ x :: xs ∧ ∀ y ∈ x :: xs, y ≤ xs.foldl max x
  | [], x => ⟨List.mem_cons_self, fun y hy => by rw [List.mem_singleton] at hy; subst hy; exact Int.le_refl _⟩
  | z :: xs, x => by
    obtain ⟨h1, h2⟩ := foldl_max_mem xs (max x z)
    rw [List.foldl_cons]
    refine ⟨?_, fun y hy => ?_⟩
    · rcases List.mem_cons.mp h1 with h | h
      · rw [h]
        rcases Int.le_total x z with q | q
        · rw [Int.max_eq_right q]; exact List.mem_cons_of_mem _ List.mem_cons_self
        · rw [Int.max_eq_left q]; exact List.mem_cons_self
      · exact List.mem_cons_of_mem _ (List.mem_cons_of_mem _ h)
    · have hm := h2 (max x z) List.mem_cons_self
      rcases List.mem_cons.mp hy with rfl | hy
      · exact Int.le_trans (Int.le_max_left _ _) hm
      · rcases List.mem_cons.mp hy with rfl | hy
        · exact Int.le_trans (Int.le_max_right _ _) hm
        · exact h2 y (List.mem_cons_of_mem _ hy)
theorem foldl_min_mem : ∀ (xs : List Int) (x : Int), xs.foldl min x ∈ x :: xs ∧ ∀ y ∈ x :: xs, xs.foldl min x ≤ y
  | [], x => ⟨List.mem_cons_self, fun y hy => by rw [List.mem_singleton] at hy; subst hy; exact Int.le_refl _⟩
  | z :: xs, x => by
    obtain ⟨h1, h2⟩ := foldl_min_mem xs (min x z)
    rw [List.foldl_cons]
    refine ⟨?_, fun y hy => ?_⟩
    · rcases List.mem_cons.mp h1 with h | h
      · rw [h]
        rcases Int.le_total x z with q | q
        · rw [Int.min_eq_left q]; exact List.mem_cons_self
        · rw [Int.min_eq_right q]; exact List.mem_cons_of_mem _ List.mem_cons_self
      · exact List.mem_cons_of_mem _ (List.mem_cons_of_mem _ h)
    · have hm := h2 (min x z) List.mem_cons_self
      rcases List.mem_cons.mp hy with rfl | hy
      · exact Int.le_trans hm (Int.min_le_left _ _)
      · rcases List.mem_cons.mp hy with rfl | hy
        · exact Int.le_trans hm (Int.min_le_right _ _)
        · exact h2 y (List.mem_cons_of_mem _ hy)
theorem maxL_uniq {ns : List Int} {m m'} (e : maxL ns = some m) (h1 : m' ∈ ns) (h2 : ∀ y ∈ ns, y ≤ m') : m' = m := by
  cases ns with
  | nil => cases e
  | cons x xs =>
    cases e
    obtain ⟨q1, q2⟩ := foldl_max_mem xs x
    exact Int.le_antisymm (q2 _ h1) (h2 _ q1)
theorem minL_uniq {ns : List Int} {m m'} (e : minL ns = some m) (h1 : m' ∈ ns) (h2 : ∀ y ∈ ns, m' ≤ y) : m' = m := by
  cases ns with
  | nil => cases e
  | cons x xs =>
    cases e
    obtain ⟨q1, q2⟩ := foldl_min_mem xs x
    exact Int.le_antisymm (h2 _ q1) (q2 _ h1)
theorem insI_perm (x : Int) : ∀ ys, (insI x ys).Perm (x :: ys)
  | [] => .refl _
  | y :: ys => by
    unfold insI
    split
    · exact .refl _
    · exact ((insI_perm x ys).cons y).trans (.swap _ _ _)
theorem sortI_perm : ∀ xs, (sortI xs).Perm xs
  | [] => .refl _
  | x :: xs => (insI_perm x _).trans ((sortI_perm xs).cons x)
theorem insI_sorted (x : Int) : ∀ ys, ys.Pairwise (· ≤ ·) → (insI x ys).Pairwise (· ≤ ·)
  | [], _ => by simp [insI]
  | y :: ys, h => by
    have h' := List.pairwise_cons.mp h
    unfold insI
    split
    · rename_i q
      exact List.pairwise_cons.mpr ⟨fun z hz => (List.mem_cons.mp hz).elim (fun e => e ▸ q) fun m => Int.le_trans q (h'.1 z m), h⟩
    · rename_i q
      refine List.pairwise_cons.mpr ⟨fun z hz => ?_, insI_sorted x ys h'.2⟩
      rcases List.mem_cons.mp ((insI_perm x ys).mem_iff.mp hz) with rfl | m
      · omega
      · exact h'.1 z m
theorem sortI_sorted : ∀ xs, (sortI xs).Pairwise (· ≤ ·)
  | [] => .nil
  | x :: xs => insI_sorted x _ (sortI_sorted xs)
theorem sorted_uniq : ∀ {as bs : List Int}, as.Perm bs → as.Pairwise (· ≤ ·) → bs.Pairwise (· ≤ ·) → as = bs
  | [], bs, p, _, _ => (List.Perm.nil_eq p)
  | a :: as, [], p, _, _ => by have := p.length_eq; simp at this
  | a :: as, b :: bs, p, h1, h2 => by
    have q1 := List.pairwise_cons.mp h1
    have q2 := List.pairwise_cons.mp h2
    have hab : a = b := by
      have m1 : a ∈ b :: bs := p.mem_iff.mp List.mem_cons_self
      have m2 : b ∈ a :: as := p.mem_iff.mpr List.mem_cons_self
      rcases List.mem_cons.mp m1 with e | m1
      · exact e
      · rcases List.mem_cons.mp m2 with e | m2
        · exact e.symm
        · exact Int.le_antisymm (q1.1 _ m2) (q2.1 _ m1)
    subst hab
    rw [sorted_uniq ((List.perm_cons a).mp p) q1.2 q2.2]
theorem call_reprD (hX : XOk X) : CallR X (.builtin "repr") (fun xs H Q => ∃ x d, xs = [x] ∧ Dp X.K H x d ∧ SeqAt.shaped d = true ∧ PyData.showable d = true ∧ (PyData.shown d).length ≤ sizeLine ∧ Q (.str (PyData.shown d)) H) := by
  intro pins s σ H xs us Q I r hh
  obtain ⟨x, d, rfl, dp, sh, sw, sz, q⟩ := hh
  obtain ⟨u, rfl, rx⟩ := vals1 r
  obtain ⟨as, rd⟩ := Dp.reads I d x u dp rx
  have hl := SeqAt.canLay_of_shaped sh
  have hdp := SeqAt.depth_of_shaped sh
  have hnd := PyData.hasDict_of_canLay d hl
  cases dp with
  | non =>
    cases rx
    exact P.repr_of_none ⟨.str _, H, I.tok _, ⟨_, rfl⟩, by simpa only [PyData.shown] using q⟩
  | bl b =>
    cases rx
    exact P.repr_of_bool ⟨.str _, H, I.tok _, ⟨_, rfl⟩, by simpa only [PyData.shown] using q⟩
  | int i =>
    obtain ⟨t, rfl⟩ := rx
    exact P.repr_of_int (by simpa [PyData.showable] using sw) ⟨.str _, H, I.tok _, ⟨_, rfl⟩, by simpa only [PyData.shown] using q⟩
  | str z =>
    obtain ⟨t, rfl⟩ := rx
    exact P.repr_of_str ⟨.str _, H, I.tok _, ⟨_, rfl⟩, by simpa only [PyData.shown] using q⟩ (by simpa only [PyData.shown] using sz)
  | lst h1 h2 =>
    cases rx
    exact repr_of_reads' rd sw (PyData.noDict_hsm hnd) hX.grd (by have := hX.hu; omega) (fun _ _ e => e) (fun h' t tk hk => ⟨.str _, H, I.kept (t' := tk) hk, ⟨_, rfl⟩, q⟩) sz
  | tup h1 h2 =>
    cases rx
    exact repr_of_reads' rd sw (PyData.noDict_hsm hnd) hX.grd (by have := hX.hu; omega) (fun _ _ e => e) (fun h' t tk hk => ⟨.str _, H, I.kept (t' := tk) hk, ⟨_, rfl⟩, q⟩) sz
theorem pairs_ints {h : Heap} {P : Program} {w : World} : ∀ {kvs : List (Key × Int)} {vs : List (Key × Value)}, KV (kvs.map fun p => (p.1, V.int p.2)) vs → ∃ bs, PyProof.V.PairsRead h keyP vs (kvs.map fun p => (keyP p.1, PyData.int p.2)) bs ∧ bs = []
  | [], [], _ => ⟨[], .nil, rfl⟩
  | [], _ :: _, r => nomatch r
  | _ :: _, [], r => nomatch r
  | (k, i) :: kvs, (k', v) :: vs, .cons ⟨e, r⟩ rest => by
    have e : k = k' := e
    subst e
    obtain ⟨bs, q, rfl⟩ := pairs_ints (P := P) (w := w) rest
    obtain ⟨t, rfl⟩ := (show ∃ t, v = Value.int i t from r)
    exact ⟨_, .cons (Reads.int i t) q, rfl⟩
mutual
theorem RepV.reads {X : Cx} {pins σ s} (I : Inv X pins σ H s) (sg : Same G H) : ∀ {v d}, RepV X.K G ρ v d → d.nolst = true → ∀ {u}, RelV v u → ∃ as, Reads s.heap u d.py as ∧ sysModules ∉ as
  | _, _, .non, _, _, r => by cases r; exact ⟨_, Reads.none, by simp⟩
  | _, _, .bl b, _, _, r => by cases r; exact ⟨_, Reads.bool b, by simp⟩
  | _, _, .int i, _, _, r => by obtain ⟨t, rfl⟩ := r; exact ⟨_, Reads.int i t, by simp⟩
  | _, _, .str x, _, _, r => by obtain ⟨t, rfl⟩ := r; exact ⟨_, Reads.str x t, by simp⟩
  | _, _, .tup h ra, p, _, r => by
    cases r
    obtain ⟨its, rv, ⟨o, ho, hc, n, hd⟩, _⟩ := I.tuple (same_sqT sg h.sq)
    obtain ⟨as, hr, hn⟩ := RepL.reads I sg ra (by simpa [D.nolst] using p) rv
    exact ⟨_, Reads.tuple ho hc hd hr, hn⟩
  | _, _, .lst _ _, p, _, _ => by simp [D.nolst] at p
  | _, _, .scr _, p, _, _ => by simp [D.nolst] at p
  | _, _, .ref _, p, _, _ => by simp [D.nolst] at p
  | _, _, @RepV.dct _ _ _ a o kvs h, _, _, r => by
    cases r
    obtain ⟨_, ne, vs, rel, dd⟩ := dk_rd I.hok (.inr ⟨_, sg _ _ h⟩)
    obtain ⟨bs, pr, rfl⟩ := pairs_ints (h := s.heap) (P := X.prog) (w := X.w) rel
    refine ⟨_, PyProof.V.reads_dictOf (enc := keyP) (fun k key hk => ?_) dd pr, ?_⟩
    · rcases keyIs_shape hk with ⟨i, t, rfl, rfl⟩ | ⟨x, t, rfl, rfl⟩
      · exact Reads.int i t
      · exact Reads.str x t
    · have := beq_eq_false_iff_ne.mp ne
      simpa using fun e => this e.symm
  | _, _, .fn _, p, _, _ => by simp [D.nolst] at p
theorem RepL.reads {X : Cx} {pins σ s} (I : Inv X pins σ H s) (sg : Same G H) : ∀ {vs ds}, RepL X.K G ρ vs ds → D.nolsts ds = true → ∀ {us}, Vals vs us → ∃ as, ReadsAll s.heap us (D.pys ds) as ∧ sysModules ∉ as
  | _, _, .nil, _, _, r => by cases r; exact ⟨_, ReadsAll.nil, by simp⟩
  | _, _, .cons h ra, p, _, r => by
    have q := (Bool.and_eq_true_iff.mp (show (D.nolst _ && D.nolsts _) = true from p))
    cases r with
    | cons r1 r2 =>
      obtain ⟨as, a1, a2⟩ := RepV.reads I sg h q.1 r1
      obtain ⟨bs, b1, b2⟩ := RepL.reads I sg ra q.2 r2
      exact ⟨_, ReadsAll.cons a1 b1, by simp [a2, b2]⟩
end
theorem repr_lst1 {P : Program} {w : World} {h0 : Heap} {a : Addr} {xs : List PyData} {as : List Addr} {o : Obj} {vs n} {A : Around} {s : Shared} {Q E : Value → Shared → Prop} (q1 : h0.get? a = some o) (q2 : o.cls = .type "list") (q3 : o.data = .seq vs n) (q4 : ReadsAll h0 vs.toList xs as)
    (sw : (PyData.list xs).showable = true) (nm : sysModules ∉ as) (gd : A.guards = some []) (un : A.units + ((PyData.list xs).depth + 1) < cLine) (kp : ∀ b o, h0.get? b = some o → s.heap.get? b = some o)
    (fin : ∀ h' u tk, (∀ b o, s.heap.get? b = some o → h'.get? b = some o) → Q (.str (PyData.list xs).shown u) { s with heap := h', toks := tk })
    (sz : (PyData.list xs).shown.length ≤ sizeLine) : wpAny (model P w) A (call (.builtin "repr") [.ref a]) Q E s := by
  have z : (listText (PyData.shownAll xs)).length ≤ sizeLine := by simpa only [PyData.shown] using sz
  obtain ⟨bs, hb, hk⟩ := ReprAllK.of_readsAll (prog := P) (w := w) q4 (by simpa [PyData.showable] using sw) (fun _ => nm) (fun t ht => Nat.le_trans (listText_mem_le ht) z)
  have na := not_mem_of_deeper (Reads.list q1 q2 q3 q4) (by simp only [PyData.depth]; omega) hb
  refine call_repr_slot (by omega) (show s.TypeIs (.ref a) "list" from ⟨o, kp _ _ q1, q2⟩) F.slot_list_repr.toG ?_
  obtain ⟨l⟩ := vs
  have un' : ({ A with units := A.units + 1 } : Around).units + (PyData.list xs).depth < cLine := by show A.units + 1 + _ < cLine; omega
  simp only [PyData.depth] at un'
  simp only [PyData.shown] at fin
  cases l with
  | nil =>
    have e : ReadsAll h0 [] xs _ := q4
    cases e
    simp only [PyData.shownAll, listText_nil] at fin
    exact call_list_repr_empty ⟨o, kp _ _ q1, q2⟩ (kp _ _ q1) q3 ⟨_, _, rfl, fin s.heap _ _ fun _ _ e => e⟩
  | cons x l =>
    exact call_list_reprK q1 q2 q3 na (by simpa using hk.length_eq) (fun i y e => hk.item i y (by simpa using e)) gd (fun b _ => Clear.nil b) un' kp (fun h' u tk hk => ⟨_, _, rfl, fin h' u tk hk⟩) z
theorem call_reprR (hX : XOk X) : CallR X (.builtin "repr") (fun xs H Q => ∃ x d G ρ, xs = [x] ∧ Same G H ∧ RepV X.K G ρ x d ∧ d.okr = true ∧ PyData.showable d.py = true ∧ (PyData.shown d.py).length ≤ sizeLine ∧ Q (.str (PyData.shown d.py)) H) := by
  intro pins s σ H xs us Q I r hh
  obtain ⟨x, d, G, ρ, rfl, sg, rv, ok, sw, sz, q⟩ := hh
  obtain ⟨u, rfl, rx⟩ := vals1 r
  simp only [D.okr, Bool.and_eq_true, Bool.or_eq_true, decide_eq_true_eq] at ok
  obtain ⟨ok | ok, dd⟩ := ok
  rotate_left
  · cases rv with
    | lst h ra =>
      cases rx
      obtain ⟨its, rv, ⟨o, n, ho, hc, _, hd⟩, _⟩ := I.list (SqL.of (sg _ _ h))
      obtain ⟨as, hr, nm⟩ := RepL.reads I sg ra (by simpa [D.lst1] using ok) rv
      exact repr_lst1 ho hc hd hr sw nm hX.grd (by have := hX.hu; have := dd; simp only [D.py] at this; omega) (fun _ _ e => e) (fun h' t tk hk => ⟨.str _, H, I.kept (t' := tk) hk, ⟨_, rfl⟩, q⟩) sz
    | _ => simp [D.lst1] at ok
  have ok : _ ∧ _ := ⟨ok, dd⟩
  obtain ⟨as, rd, nm⟩ := RepV.reads I sg rv ok.1 rx
  have hdp := ok.2
  cases rv with
  | non =>
    cases rx
    exact P.repr_of_none ⟨.str _, H, I.tok _, ⟨_, rfl⟩, by simpa only [D.py, PyData.shown] using q⟩
  | bl b =>
    cases rx
    exact P.repr_of_bool ⟨.str _, H, I.tok _, ⟨_, rfl⟩, by simpa only [D.py, PyData.shown] using q⟩
  | int i =>
    obtain ⟨t, rfl⟩ := rx
    exact P.repr_of_int (by simpa [D.py, PyData.showable] using sw) ⟨.str _, H, I.tok _, ⟨_, rfl⟩, by simpa only [D.py, PyData.shown] using q⟩
  | str z =>
    obtain ⟨t, rfl⟩ := rx
    exact P.repr_of_str ⟨.str _, H, I.tok _, ⟨_, rfl⟩, by simpa only [D.py, PyData.shown] using q⟩ (by simpa only [D.py, PyData.shown] using sz)
  | _ =>
    cases rx
    exact repr_of_reads' rd sw (fun _ => nm) hX.grd (by have := hX.hu; omega) (fun _ _ e => e) (fun h' t tk hk => ⟨.str _, H, I.kept (t' := tk) hk, ⟨_, rfl⟩, q⟩) sz
theorem signs_vals (z : Str) : ∀ {us : List Value}, us.length = z.cps.size → (∀ (j : Nat) (v : Value), us[j]? = some v → ∃ c u, z.cps[j]? = some c ∧ v = Value.str ⟨#[c]⟩ u) → Vals (z.cps.toList.map fun c => V.str ⟨#[c]⟩) us := by
  intro us hl hv
  have key : ∀ (cs : List Nat) (us : List Value), us.length = cs.length → (∀ (j : Nat) (v : Value), us[j]? = some v → ∃ c u, cs[j]? = some c ∧ v = Value.str ⟨#[c]⟩ u) → Vals (cs.map fun c => V.str ⟨#[c]⟩) us := by
    intro cs
    induction cs with
    | nil => intro us hl _; cases us with
      | nil => exact .nil
      | cons _ _ => simp at hl
    | cons c cs ih =>
      intro us hl hv
      cases us with
      | nil => simp at hl
      | cons v us =>
        obtain ⟨c', u, e1, e2⟩ := hv 0 v rfl
        cases e1
        exact .cons ⟨u, e2⟩ (ih us (by simpa using hl) fun j v e => hv (j + 1) v e)
  exact key _ us (by simpa using hl) fun j v e => by
    obtain ⟨c, u, e1, e2⟩ := hv j v e
    exact ⟨c, u, by simpa using e1, e2⟩
theorem call_listZ (hcalm : X.calm = true) : CallR X (.type "list") (fun xs H Q => ∃ z : Str, xs = [.str z] ∧ z.cps.size ≤ sizeLine ∧ ∀ p, H p = none → Q (.ref p) (upd H p (.lst (z.cps.toList.map fun c => V.str ⟨#[c]⟩)))) := by
  intro pins s σ H xs us Q I r q
  obtain ⟨z, rfl, hz, q⟩ := q
  obtain ⟨u, rfl, t, rfl⟩ := vals1 r
  refine call_list_str (hn := hz) (I.ok.hd hcalm) z t fun h' tk acc c' hk hg hi => ?_
  have hv := signs_vals z (us := acc.toList) (by simpa using hi.1) fun j v e => hi.2 j v (by simpa using e)
  refine ⟨.ref s.heap.objs.size, upd H s.heap.objs.size (.lst (z.cps.toList.map fun c => V.str ⟨#[c]⟩)), I.laid (t' := tk) hk (Nat.le_refl _) ⟨by simpa using hz, acc.toList, c', hv, by simpa using hg⟩, rfl, q _ (I.hok.fresh (Nat.le_refl _))⟩
theorem call_max2 (hcalm : X.calm = true) : CallR X (.builtin "max") (fun xs H Q => ∃ i j : Int, xs = [.int i, .int j] ∧ Q (.int (if i < j then j else i)) H) := by
  intro pins s σ H xs us Q I r q
  obtain ⟨i, j, rfl, q⟩ := q
  cases r with
  | cons r1 r2 =>
    cases r2 with
    | cons r2 r3 =>
      cases r3
      obtain ⟨t1, rfl⟩ := r1
      obtain ⟨t2, rfl⟩ := r2
      refine PySem.max_two_ints (I.ok.hd hcalm) fun h' tk hk => ⟨_, H, I.kept (t' := tk) hk, ?_, q⟩
      by_cases hij : i < j
      · rw [if_pos hij, if_pos hij]; exact ⟨_, rfl⟩
      · rw [if_neg hij, if_neg hij]; exact ⟨_, rfl⟩
theorem call_min2 (hcalm : X.calm = true) : CallR X (.builtin "min") (fun xs H Q => ∃ i j : Int, xs = [.int i, .int j] ∧ Q (.int (if j < i then j else i)) H) := by
  intro pins s σ H xs us Q I r q
  obtain ⟨i, j, rfl, q⟩ := q
  cases r with
  | cons r1 r2 =>
    cases r2 with
    | cons r2 r3 =>
      cases r3
      obtain ⟨t1, rfl⟩ := r1
      obtain ⟨t2, rfl⟩ := r2
      refine PySem.min_two_ints (I.ok.hd hcalm) fun h' tk hk => ⟨_, H, I.kept (t' := tk) hk, ?_, q⟩
      by_cases hij : j < i
      · rw [if_pos hij, if_pos hij]; exact ⟨_, rfl⟩
      · rw [if_neg hij, if_neg hij]; exact ⟨_, rfl⟩
theorem call_tupleZ (hcalm : X.calm = true) : CallR X (.type "tuple") (fun xs H Q => ∃ z : Str, xs = [.str z] ∧ z.cps.size ≤ sizeLine ∧ NewT Q H (z.cps.toList.map fun c => V.str ⟨#[c]⟩)) := by
  intro pins s σ H xs us Q I r q
  obtain ⟨z, rfl, hz, q⟩ := q
  obtain ⟨u, rfl, t, rfl⟩ := vals1 r
  refine call_tuple_str (hsz := hz) (I.ok.hd hcalm) z t fun h' tk acc hk hi => ?_
  have hv := signs_vals z (us := acc.toList) (by simpa using hi.1) fun j v e => hi.2 j v (by simpa using e)
  have I1 : Inv X pins σ H { s with heap := h', toks := tk } := I.kept (t' := tk) hk
  have e := IsTup.new h' acc
  exact ⟨.ref h'.objs.size, _, I1.laid (t' := tk) (o := .frz _ (.tup (z.cps.toList.map fun c => V.str ⟨#[c]⟩))) (fun b o e => Heap.get?_push_of_some _ e) (Nat.le_refl _) ⟨Heap.get?_push_size _ rfl, by simpa using hz, acc.toList, hv, by simpa using e⟩, rfl, q _ _ (I1.hok.fresh (Nat.le_refl _)) rfl⟩
theorem insS_perm (x : Str) : ∀ ys, (insS x ys).Perm (x :: ys)
  | [] => .refl _
  | y :: ys => by
    unfold insS
    split
    · exact ((insS_perm x ys).cons y).trans (.swap _ _ _)
    · exact .refl _
theorem sortS_perm : ∀ xs, (sortS xs).Perm xs
  | [] => .refl _
  | x :: xs => (insS_perm x _).trans ((sortS_perm xs).cons x)
theorem lt_irr : ∀ a : List Nat, ltCps a a = false
  | [] => rfl
  | a :: r => by simp [ltCps, lt_irr r]
theorem lt_tr : ∀ {a b c : List Nat}, ltCps a b = true → ltCps b c = true → ltCps a c = true
  | [], [], _, h, _ => by simp [ltCps] at h
  | [], _ :: _, [], _, h => by simp [ltCps] at h
  | [], _ :: _, _ :: _, _, _ => rfl
  | _ :: _, [], _, h, _ => by simp [ltCps] at h
  | _ :: _, _ :: _, [], _, h => by simp [ltCps] at h
  | a :: r, b :: s, c :: t, h, k => by
    simp only [ltCps, Bool.or_eq_true, decide_eq_true_eq, Bool.and_eq_true, beq_iff_eq] at h k ⊢
    rcases h with h | ⟨rfl, h⟩ <;> rcases k with k | ⟨rfl, k⟩
    · exact .inl (by omega)
    · exact .inl h
    · exact .inl k
    · exact .inr ⟨rfl, lt_tr h k⟩
theorem lt_tri : ∀ {a b : List Nat}, ltCps a b = false → ltCps b a = false → a = b
  | [], [], _, _ => rfl
  | [], _ :: _, h, _ => by simp [ltCps] at h
  | _ :: _, [], _, h => by simp [ltCps] at h
  | a :: r, b :: s, h, k => by
    simp only [ltCps, Bool.or_eq_false_iff, decide_eq_false_iff_not, Bool.and_eq_false_iff, beq_eq_false_iff_ne] at h k
    have e : a = b := by omega
    subst e
    rw [lt_tri (h.2.resolve_left (by simp)) (k.2.resolve_left (by simp))]
def leS (x y : Str) : Prop := ltCps y.cps.toList x.cps.toList = false
theorem leS_tr {x y z : Str} (h : leS x y) (k : leS y z) : leS x z := by
  unfold leS at *
  cases q : ltCps z.cps.toList x.cps.toList with
  | false => rfl
  | true =>
    cases p : ltCps x.cps.toList y.cps.toList with
    | true => rw [lt_tr q p] at k; cases k
    | false =>
      have := lt_tri p h
      rw [this] at q
      rw [q] at k; cases k
theorem leS_anti {x y : Str} (h : leS x y) (k : leS y x) : x = y := by
  have := lt_tri k h
  have e : x.cps = y.cps := Array.toList_inj.mp this
  cases x; cases y; cases e; rfl
theorem pw_rising : ∀ {p : Str} {xs : List Str}, risingS p xs = true → (p :: xs).Pairwise leS
  | p, [], _ => List.pairwise_singleton _ _
  | p, x :: xs, h => by
    simp only [risingS, Bool.and_eq_true, Bool.not_eq_true'] at h
    have ih := pw_rising h.2
    refine List.pairwise_cons.mpr ⟨fun z hz => ?_, ih⟩
    rcases List.mem_cons.mp hz with rfl | hz
    · exact h.1
    · exact leS_tr (show leS p x from h.1) ((List.pairwise_cons.mp ih).1 z hz)
theorem pw_sortedS : ∀ {xs : List Str}, sortedS xs = true → xs.Pairwise leS
  | [], _ => .nil
  | _ :: _, h => pw_rising h
theorem insS_sorted (x : Str) : ∀ ys, ys.Pairwise leS → (insS x ys).Pairwise leS
  | [], _ => List.pairwise_singleton _ _
  | y :: ys, h => by
    have h' := List.pairwise_cons.mp h
    unfold insS
    split
    · rename_i q
      refine List.pairwise_cons.mpr ⟨fun z hz => ?_, insS_sorted x ys h'.2⟩
      rcases List.mem_cons.mp ((insS_perm x ys).mem_iff.mp hz) with rfl | m
      · unfold leS
        cases p : ltCps z.cps.toList y.cps.toList with
        | false => rfl
        | true => have := lt_tr p q; rw [lt_irr] at this; cases this
      · exact h'.1 z m
    · rename_i q
      have q : leS x y := by simpa [leS] using q
      exact List.pairwise_cons.mpr ⟨fun z hz => (List.mem_cons.mp hz).elim (fun e => e ▸ q) fun m => leS_tr q (h'.1 z m), h⟩
theorem sortS_sorted : ∀ xs, (sortS xs).Pairwise leS
  | [] => .nil
  | x :: xs => insS_sorted x _ (sortS_sorted xs)
theorem sortedS_uniq : ∀ {as bs : List Str}, as.Perm bs → as.Pairwise leS → bs.Pairwise leS → as = bs
  | [], bs, p, _, _ => (List.Perm.nil_eq p)
  | a :: as, [], p, _, _ => by have := p.length_eq; simp at this
  | a :: as, b :: bs, p, h1, h2 => by
    have q1 := List.pairwise_cons.mp h1
    have q2 := List.pairwise_cons.mp h2
    have hab : a = b := by
      have m1 : a ∈ b :: bs := p.mem_iff.mp List.mem_cons_self
      have m2 : b ∈ a :: as := p.mem_iff.mpr List.mem_cons_self
      rcases List.mem_cons.mp m1 with e | m1
      · exact e
      · rcases List.mem_cons.mp m2 with e | m2
        · exact e.symm
        · exact leS_anti (q1.1 _ m2) (q2.1 _ m1)
    subst hab
    rw [sortedS_uniq ((List.perm_cons a).mp p) q1.2 q2.2]
theorem insU_mem (x : Int) : ∀ (ys : List Int) (k : Int), k ∈ insU x ys ↔ k = x ∨ k ∈ ys
  | [], k => by simp [insU]
  | y :: ys, k => by
    unfold insU
    split
    · simp
    · split
      · rename_i h; subst h; simp
      · simp only [List.mem_cons, insU_mem x ys k]
        constructor
        · rintro (h | h | h)
          · exact .inr (.inl h)
          · exact .inl h
          · exact .inr (.inr h)
        · rintro (h | h | h)
          · exact .inr (.inl h)
          · exact .inl h
          · exact .inr (.inr h)
theorem insU_sorted (x : Int) : ∀ ys : List Int, ys.Pairwise (· < ·) → (insU x ys).Pairwise (· < ·)
  | [], _ => List.pairwise_singleton _ _
  | y :: ys, h => by
    have h' := List.pairwise_cons.mp h
    unfold insU
    split
    · rename_i q
      exact List.pairwise_cons.mpr ⟨fun z hz => (List.mem_cons.mp hz).elim (fun e => e ▸ q) fun m => Int.lt_trans q (h'.1 z m), h⟩
    · split
      · exact h
      · refine List.pairwise_cons.mpr ⟨fun z hz => ?_, insU_sorted x ys h'.2⟩
        rcases (insU_mem x ys z).mp hz with rfl | m
        · omega
        · exact h'.1 z m
theorem setI_mem : ∀ (xs : List Int) (k : Int), k ∈ setI xs ↔ k ∈ xs
  | [], k => by simp [setI]
  | x :: xs, k => by rw [setI, insU_mem, setI_mem xs k, List.mem_cons]
theorem setI_sorted : ∀ xs : List Int, (setI xs).Pairwise (· < ·)
  | [] => .nil
  | x :: xs => insU_sorted x _ (setI_sorted xs)
theorem asc_uniq : ∀ {as bs : List Int}, as.Pairwise (· < ·) → bs.Pairwise (· < ·) → (∀ k, k ∈ as ↔ k ∈ bs) → as = bs
  | [], [], _, _, _ => rfl
  | [], b :: bs, _, _, h => by have := (h b).mpr List.mem_cons_self; simp at this
  | a :: as, [], _, _, h => by have := (h a).mp List.mem_cons_self; simp at this
  | a :: as, b :: bs, h1, h2, h => by
    have q1 := List.pairwise_cons.mp h1
    have q2 := List.pairwise_cons.mp h2
    have hab : a = b := by
      rcases List.mem_cons.mp ((h a).mp List.mem_cons_self) with e | m1
      · exact e
      · rcases List.mem_cons.mp ((h b).mpr List.mem_cons_self) with e | m2
        · exact e.symm
        · have := q1.1 _ m2; have := q2.1 _ m1; omega
    subst hab
    rw [asc_uniq q1.2 q2.2 fun k => ?_]
    constructor
    · intro hk
      rcases List.mem_cons.mp ((h k).mp (List.mem_cons_of_mem _ hk)) with e | m
      · subst e; have := q1.1 _ hk; omega
      · exact m
    · intro hk
      rcases List.mem_cons.mp ((h k).mpr (List.mem_cons_of_mem _ hk)) with e | m
      · subst e; have := q2.1 _ hk; omega
      · exact m
theorem setI_len (xs : List Int) : (setI xs).length ≤ xs.length :=
  List.Nodup.length_le_of_subset ((setI_sorted xs).imp fun h => by omega) fun k hk => (setI_mem xs k).mp hk
theorem strs_reads (h : Heap) : ∀ {vs : List Value} {xs : List Str}, StrsAre vs xs → ReadsAll h vs (xs.map PyData.str) []
  | _, _, .nil => .nil
  | _, _, .cons x t r => .cons (as := []) (bs := []) (.str x t) (strs_reads h r)
theorem call_minS (hX : XOk X) : CallR X (.builtin "min") (fun xs H Q => ∃ a z zs, xs = [.ref a] ∧ SqL X.K H a ((z :: zs).map V.str) ∧ Q (.str (minS z zs)) H) := by
  intro pins s σ H vs us Q I r h
  obtain ⟨a, z, zs, rfl, hs, q⟩ := h
  obtain ⟨its, rv, hl, _⟩ := I.list hs
  rw [Vals.ref1 r]
  have hi : StrsAre its (z :: zs) := rv.strs
  refine PySem.W.min_list_datum (α := Str) (x := z) (xs := zs) (I.ok.hd hX.calm) hl.isList ⟨[], by rw [show its.toArray.toList = its from rfl]; exact strs_reads s.heap hi⟩ (by have := hX.hu; show X.A.units + 1 + 0 < cLine; omega) fun i v h' tk hv hold hk => ?_
  obtain ⟨as, rd⟩ := hold
  have : ∃ t, v = .str (minS z zs) t := by
    change Reads h' v (.str (minS z zs)) as at rd
    cases rd with
    | str x t => exact ⟨t, rfl⟩
  obtain ⟨t, rfl⟩ := this
  exact ⟨.str _, H, I.kept hk, ⟨_, rfl⟩, q⟩
theorem pairC_eq {d : D} {c : Int} (h : pairC d = some c) : d = decC c ∧ 0 ≤ c / 64 ∧ c / 64 < 64 ∧ 0 ≤ c % 64 ∧ c % 64 < 64 := by
  unfold pairC at h
  split at h
  · rename_i i j
    split at h
    · rename_i q
      simp only [Bool.and_eq_true, decide_eq_true_eq] at q
      cases h
      have e1 : (i * 64 + j) / 64 = i := by omega
      have e2 : (i * 64 + j) % 64 = j := by omega
      rw [decC, e1, e2]
      exact ⟨rfl, q.1, q.2.1, q.2.2.1, q.2.2.2⟩
    · cases h
  · cases h
def CodeB (c : Int) : Prop := 0 ≤ c / 64 ∧ c / 64 < 64 ∧ 0 ≤ c % 64 ∧ c % 64 < 64
theorem pairsC_eq : ∀ {ds : List D} {cs}, pairsC ds = some cs → ds = cs.map decC ∧ ∀ c ∈ cs, CodeB c
  | [], cs, h => by cases h; exact ⟨rfl, by simp⟩
  | d :: ds, cs, h => by
    simp only [pairsC] at h
    split at h
    · rename_i c cs' e1 e2
      cases h
      obtain ⟨rfl, b⟩ := pairC_eq e1
      obtain ⟨e3, b2⟩ := pairsC_eq e2
      rw [e3]
      exact ⟨rfl, fun x hx => by rcases List.mem_cons.mp hx with rfl | hx; exact b; exact b2 x hx⟩
    · cases h
def nsC (c : Int) : List Int := [c / 64, c % 64]
theorem code_nsC (c : Int) : TS.code 64 (nsC c) = c := by
  unfold nsC
  rw [code_pair]
  omega
theorem RepL.codes {K : PySem.W.Frag} {G H : Hp} {ρ : List Addr} (sg : Same G H) : ∀ {vs : List V} {cs : List Int}, RepL K G ρ vs (cs.map decC) → ∀ x ∈ vs, ∃ c ∈ cs, RepV K G ρ x (decC c) ∧ TupI K H x (nsC c)
  | _, [], .nil, x, hx => by simp at hx
  | _, c :: cs, .cons r rs, x, hx => by
    rcases List.mem_cons.mp hx with rfl | hx
    · refine ⟨c, by simp, r, ?_⟩
      cases r with
      | tup ha ra =>
        cases ra with
        | cons r1 ra =>
          cases ra with
          | cons r2 ra =>
            cases ra
            cases r1
            cases r2
            exact ⟨_, rfl, same_sqT sg ha.sq⟩
    · obtain ⟨c', m, q⟩ := RepL.codes sg rs x hx
      exact ⟨c', List.mem_cons_of_mem _ m, q⟩
theorem RepL.perm {K : PySem.W.Frag} {G : Hp} {ρ : List Addr} {α : Type} {f : α → D} {xs ys : List V} (p : ys.Perm xs) : ∀ {cs : List α}, RepL K G ρ xs (cs.map f) → ∃ cs' : List α, cs'.Perm cs ∧ RepL K G ρ ys (cs'.map f) := by
  have key : ∀ {a b : List V}, a.Perm b → ∀ {cs : List α}, RepL K G ρ a (cs.map f) → ∃ cs' : List α, cs'.Perm cs ∧ RepL K G ρ b (cs'.map f) := by
    intro a b p
    induction p with
    | nil => intro cs r; exact ⟨cs, .refl _, r⟩
    | cons x _ ih =>
      intro cs r
      cases cs with
      | nil => cases r
      | cons c cs =>
        cases r with
        | cons r1 r2 =>
          obtain ⟨cs', q1, q2⟩ := ih r2
          exact ⟨c :: cs', q1.cons c, .cons r1 q2⟩
    | swap x y l =>
      intro cs r
      cases cs with
      | nil => cases r
      | cons c cs =>
        cases r with
        | cons r1 r2 =>
          cases cs with
          | nil => cases r2
          | cons d cs =>
            cases r2 with
            | cons r2 r3 => exact ⟨d :: c :: cs, .swap _ _ _, .cons r2 (.cons r1 r3)⟩
    | trans _ _ ih1 ih2 =>
      intro cs r
      obtain ⟨c1, q1, q2⟩ := ih1 r
      obtain ⟨c2, q3, q4⟩ := ih2 q2
      exact ⟨c2, q3.trans q1, q4⟩
  intro cs r
  exact key p.symm r
theorem RepL.pw {K : PySem.W.Frag} {G H : Hp} {ρ : List Addr} (sg : Same G H) : ∀ {ys : List V} {cs : List Int}, RepL K G ρ ys (cs.map decC) → ys.Pairwise (fun x y => ∀ n m, TupI K H x n → TupI K H y m → TS.code 64 n ≤ TS.code 64 m) → cs.Pairwise (· ≤ ·)
  | _, [], .nil, _ => .nil
  | _, c :: cs, @RepL.cons _ _ _ v _ vs _ r rs, h => by
    have h' := List.pairwise_cons.mp h
    have one : ∀ {v : V} {c : Int}, RepV K G ρ v (decC c) → TupI K H v (nsC c) := fun {v c} r => by
      obtain ⟨c', m, _, q⟩ := RepL.codes (cs := [c]) sg (.cons r .nil) v (by simp)
      rw [List.mem_singleton] at m
      subst m
      exact q
    refine List.pairwise_cons.mpr ⟨fun d hd => ?_, RepL.pw sg rs h'.2⟩
    obtain ⟨j, hj⟩ := List.getElem?_of_mem hd
    obtain ⟨y, e1, ry⟩ := rs.get (i := j) (d := decC d) (by rw [List.getElem?_map, hj]; rfl)
    have := h'.1 y (List.mem_of_getElem? e1) _ _ (one r) (one ry)
    rwa [code_nsC, code_nsC] at this
theorem sortP_ok (hK : X.K = K) (hX : XOk X) {xs : List D} {dr} (e : sortP xs = .ok dr) (S : SR K Pr G H ρ σ env h) {a : Addr} {vs : List V} (hs : SqL K H a vs) (r : RepL K G ρ vs xs) (P : Pst K Pr G ρ σ env h fr dr Q) : cW X (.builtin "sorted") [.ref a] H Q := by
  subst hK
  unfold sortP at e
  split at e
  · rename_i cs ec
    obtain ⟨h64, rfl⟩ := ite_ok e
    obtain ⟨rfl, hb⟩ := pairsC_eq ec
    refine CallR_w (cr_sortT (d := 2) (B := 64) (by decide)) ⟨a, vs, rfl, hs, by rw [r.length]; simpa using of_decide_eq_true h64, fun x hx => ?_, fun ys p pm pw hp => ?_⟩
    · obtain ⟨c, hc, _, q⟩ := RepL.codes S.sub r x hx
      have b := hb c hc
      refine ⟨nsC c, q, rfl, fun m hm => ?_⟩
      simp only [nsC, List.mem_cons, List.not_mem_nil, or_false] at hm
      rcases hm with rfl | rfl
      · exact ⟨b.1, b.2.1⟩
      · exact ⟨b.2.2.1, b.2.2.2⟩
    · obtain ⟨cs', q1, q2⟩ := RepL.perm pm r
      have q3 := RepL.pw S.sub q2 pw
      have : cs' = sortI cs := sorted_uniq (q1.trans (sortI_perm cs).symm) q3 (sortI_sorted cs)
      subst this
      exact P.newL (Same.refl _) (Ext.refl _) S q2 p hp
  · cases e
theorem setP_ok (hK : X.K = K) (hX : XOk X) {xs : List D} {dr} (e : setP xs = .ok dr) (S : SR K Pr G H ρ σ env h) {a : Addr} {vs : List V} (hs : SqL K H a vs) (r : RepL K G ρ vs xs) (P : Pst K Pr G ρ σ env h fr dr Q) :
    rSetOfT X.K X.prog X.w [.ref a] H fun x H1 => rSortedT X.K X.prog X.w [x] H1 Q := by
  subst hK
  unfold setP at e
  split at e
  · rename_i cs ec
    obtain ⟨h64, rfl⟩ := ite_ok e
    obtain ⟨rfl, hb⟩ := pairsC_eq ec
    have len := r.length
    rw [List.length_map] at len
    -- the addresses with their numbers
    have key : ∀ {vs : List V} {cs : List Int}, RepL X.K G ρ vs (cs.map decC) → ∃ ks : List (Addr × List Int), vs = ks.map (fun p => V.ref p.1) ∧ ks.map (·.2) = cs.map nsC ∧ ∀ p ∈ ks, ∃ c ∈ cs, p.2 = nsC c ∧ RepV X.K G ρ (.ref p.1) (decC c) ∧ SqT X.K H p.1 (p.2.map V.int) := by
      intro vs cs
      induction cs generalizing vs with
      | nil => intro r; cases r; exact ⟨[], rfl, rfl, by simp⟩
      | cons c cs ih =>
        intro r
        cases r with
        | @cons v _ _ _ r1 r2 =>
          obtain ⟨ks, e1, e2, e3⟩ := ih r2
          obtain ⟨c', m, rv, t, e4, q⟩ := RepL.codes (cs := [c]) S.sub (.cons r1 .nil) v (by simp)
          rw [List.mem_singleton] at m
          subst m
          subst e4
          refine ⟨(t, nsC c') :: ks, by rw [e1]; rfl, by rw [List.map_cons, e2]; rfl, fun p hp => ?_⟩
          rcases List.mem_cons.mp hp with rfl | hp
          · exact ⟨c', by simp, rfl, rv, q⟩
          · obtain ⟨c2, m2, z⟩ := e3 p hp
            exact ⟨c2, List.mem_cons_of_mem _ m2, z⟩
    obtain ⟨ks, rfl, e2, e3⟩ := key r
    refine ⟨a, ks, rfl, hs, fun p hp => (e3 p hp).choose_spec.2.2.2, by rw [List.length_map] at len; rw [len]; exact of_decide_eq_true h64, fun b L hn hL1 hL2 => ?_⟩
    have up : Same H (upd H b (SetTO X.prog X.w b L)) := same_upd' hn
    refine ⟨b, L, 2, 64, rfl, upd_same, fun p hp => ?_, by decide, fun p hp => ?_, fun L' p pm nd few pw hp => ?_⟩
    · exact same_sqT up (e3 p (hL1 p hp)).choose_spec.2.2.2
    · obtain ⟨c, hc, e4, _⟩ := e3 p (hL1 p hp)
      rw [e4]
      have bb := hb c hc
      refine ⟨rfl, fun m hm => ?_⟩
      simp only [nsC, List.mem_cons, List.not_mem_nil, or_false] at hm
      rcases hm with rfl | rfl
      · exact ⟨bb.1, bb.2.1⟩
      · exact ⟨bb.2.2.1, bb.2.2.2⟩
    · have mem : ∀ q ∈ L', q ∈ ks := fun q hq => hL1 q (pm.mem_iff.mp hq)
      -- the numbers of the sorted ones
      have rep : ∀ {L' : List (Addr × List Int)}, (∀ q ∈ L', q ∈ ks) → RepL X.K G ρ (L'.map fun q => V.ref q.1) ((L'.map fun q => TS.code 64 q.2).map decC) := by
        intro L'
        induction L' with
        | nil => intro _; exact .nil
        | cons q L' ih =>
          intro hm
          obtain ⟨c, hc, e4, rv, _⟩ := e3 q (hm q (by simp))
          refine .cons ?_ (ih fun z hz => hm z (List.mem_cons_of_mem _ hz))
          show RepV X.K G ρ (.ref q.1) (decC (TS.code 64 q.2))
          rw [e4, code_nsC]
          exact rv
      have asc : (L'.map fun q => TS.code 64 q.2).Pairwise (· < ·) := by
        rw [List.pairwise_map]
        rw [List.Nodup, List.pairwise_map] at nd
        refine (List.Pairwise.and_mem.mp (pw.and nd)).imp ?_
        rintro q z ⟨hq, hz, h1, h2⟩
        obtain ⟨c, _, e4, _⟩ := e3 q (mem q hq)
        obtain ⟨d, _, e5, _⟩ := e3 z (mem z hz)
        rw [e4, e5, code_nsC, code_nsC] at h1
        have : c ≠ d := fun z => h2 (by rw [e4, e5, z])
        show TS.code 64 q.2 < TS.code 64 z.2
        rw [e4, e5, code_nsC, code_nsC]
        omega
      have same : (L'.map fun q => TS.code 64 q.2) = setI cs := by
        refine asc_uniq asc (setI_sorted cs) fun k => ?_
        rw [setI_mem, List.mem_map]
        constructor
        · rintro ⟨q, hq, rfl⟩
          obtain ⟨c, hc, e4, _⟩ := e3 q (mem q hq)
          rw [e4, code_nsC]
          exact hc
        · intro hk
          have : nsC k ∈ ks.map (·.2) := by rw [e2]; exact List.mem_map.mpr ⟨k, hk, rfl⟩
          obtain ⟨q, hq, e4⟩ := List.mem_map.mp this
          obtain ⟨q', hq', e5⟩ := List.mem_map.mp (hL2 q hq)
          refine ⟨q', pm.mem_iff.mpr hq', ?_⟩
          rw [e5, e4, code_nsC]
      have S2 := S.setL (u := SetTO X.prog X.w b L) (S.lone hn)
      have r2 := rep mem
      rw [same] at r2
      exact P.newL (Same.refl _) (Ext.refl _) S2 r2 p hp
  · cases e
theorem call_len_dK : CallR X (.builtin "len") (fun xs H Q => ∃ a kvs, xs = [.ref a] ∧ H a = some (.dK kvs) ∧ Q (.int kvs.length) H) := by
  intro pins s σ H xs us Q I r hh
  obtain ⟨a, kvs, rfl, e, q⟩ := hh
  rw [Vals.ref1 r]
  exact d_len I (.inl e) fun t s' I' => ⟨.int _, H, I', ⟨_, rfl⟩, q⟩
theorem intKs_eq : ∀ {kvs : List (Key × D)} {ks : List Int}, intKs kvs = some ks → kvs.map (·.1) = ks.map Sum.inl
  | [], _, e => by cases e; rfl
  | (.inl i, d) :: r, ks, e => by
    unfold intKs at e
    cases e2 : intKs r with
    | none => rw [e2] at e; cases e
    | some q =>
      rw [e2] at e
      cases e
      rw [List.map_cons, List.map_cons, intKs_eq e2]
  | (.inr _, _) :: _, _, e => by cases e
def bltV (f : String) : Value := if f == "tuple" || f == "list" || f == "int" || f == "dict" then .type f else .builtin f
def bltNames : List String := ["len", "tuple", "list", "int", "abs", "sum", "all", "any", "max", "min", "sorted", "repr", "dict"]
theorem keys_rep : ∀ {ks : List (Key × V)} {ds : List (Key × D)}, ks.map (·.1) = ds.map (·.1) → RepL K G ρ (ks.map fun kv => kV kv.1) (ds.map fun kv => keyV kv.1)
  | [], [], _ => .nil
  | [], _ :: _, h => by simp at h
  | _ :: _, [], h => by simp at h
  | (k1, v1) :: ks, (k2, d2) :: ds, h => by
    rw [List.map_cons, List.map_cons] at h
    injection h with h1 h2
    have h1 : k1 = k2 := h1
    subst h1
    refine .cons ?_ (keys_rep h2)
    cases k1 with
    | inl i => exact .int i
    | inr x => exact .str x
theorem pairs_rep {H : Hp} : ∀ {ds : List D} {kvs : List (Key × Int)} {vs : List V}, pairsD ds = some kvs → RepL K G ρ vs ds → Same G H → ∃ ps : List Addr, vs = ps.map V.ref ∧ Paired (fun p (kv : Key × V) => SqT K H p [kV kv.1, kv.2]) ps (kvs.map fun p => (p.1, V.int p.2))
  | [], _, _, e, .nil, _ => by
    cases e
    exact ⟨[], rfl, .nil⟩
  | d :: ds, kvs, _, e, .cons r rs, sg => by
    simp only [pairsD] at e
    split at e
    · rename_i p ps e1 e2
      cases e
      obtain ⟨as, rfl, pa⟩ := pairs_rep e2 rs sg
      unfold pairD at e1
      split at e1
      · cases e1
        cases r with
        | tup ha ra =>
          cases ra with
          | cons r1 ra =>
            cases ra with
            | cons r2 ra =>
              cases ra
              cases r1
              cases r2
              exact ⟨_ :: as, rfl, .cons (same_sqT sg ha.sq) pa⟩
      · cases e1
        cases r with
        | tup ha ra =>
          cases ra with
          | cons r1 ra =>
            cases ra with
            | cons r2 ra =>
              cases ra
              cases r1
              cases r2
              exact ⟨_ :: as, rfl, .cons (same_sqT sg ha.sq) pa⟩
      · cases e1
    · cases e
theorem merge_nw : ∀ {kvs acc : List (Key × V)}, (∀ p ∈ kvs, (acc.any fun q => decide (q.1 = p.1)) = false) → nodupKs (kvs.map (·.1)) = true → mergeK acc kvs = acc ++ kvs
  | [], acc, _, _ => by simp [mergeK]
  | (k, v) :: kvs, acc, h, nd => by
    simp only [List.map_cons, nodupKs, Bool.and_eq_true, Bool.not_eq_true'] at nd
    have h0 := h (k, v) List.mem_cons_self
    have e : putK acc k v = acc ++ [(k, v)] := by
      unfold putK
      rw [if_neg (by rw [h0]; exact Bool.false_ne_true)]
    show mergeK (putK acc k v) kvs = _
    rw [e, merge_nw (acc := acc ++ [(k, v)]) (fun p hp => ?_) nd.2, List.append_assoc]
    · rfl
    · rw [List.any_append, h p (List.mem_cons_of_mem _ hp), Bool.false_or, List.any_cons, List.any_nil, Bool.or_false]
      have n := List.any_eq_false.mp nd.1 p.1 (List.mem_map_of_mem hp)
      simp only [decide_eq_true_eq] at n
      exact decide_eq_false fun z => n z.symm
theorem mkDct_ok {xs : List D} {dr} (e : mkDct xs = .ok dr) : ∃ kvs, pairsD xs = some kvs ∧ dr = .dct kvs ∧ mergeK [] (kvs.map fun p => (p.1, V.int p.2)) = kvs.map fun p => (p.1, V.int p.2) := by
  unfold mkDct at e
  split at e
  · rename_i kvs e1
    obtain ⟨h1, rfl⟩ := ite_ok e
    rw [Bool.and_eq_true] at h1
    refine ⟨kvs, e1, rfl, ?_⟩
    rw [merge_nw (by intro p hp; rfl) (by rw [List.map_map]; exact h1.1)]
    rfl
  · cases e
theorem look_val (k : Key) : ∀ {kvs : List (Key × Int)} {i : Int}, lookI kvs k = some i → valV (kvs.map fun p => (p.1, V.int p.2)) k = some (V.int i)
  | [], i, e => by simp [lookI] at e
  | (k1, j) :: kvs, i, e => by
    rw [List.map_cons]
    by_cases h : k1 = k
    · rw [valV_pos (by exact h)]
      simp [lookI, List.find?_cons, h] at e
      rw [e]
    · rw [valV_neg (by exact h)]
      refine look_val k ?_
      simpa [lookI, List.find?_cons, h] using e
theorem one_arg {vs : List V} {d} (r : RepL K G ρ vs [d]) : ∃ v, vs = [v] ∧ RepV K G ρ v d := by
  cases r with
  | cons q r => cases r; exact ⟨_, rfl, q⟩
set_option maxHeartbeats 4000000 in
theorem blt_ok (hK : X.K = K) (hX : XOk X) {f : String} {args dr} (e : bltD h f args = .ok dr) (S : SR K Pr G H ρ σ env h) {vs} (r : RepL K G ρ vs args) (P : Pst K Pr G ρ σ env h fr dr Q) :
    f ∈ bltNames ∧ cW X (bltV f) vs H Q := by
  subst hK
  have eG := Same.refl G
  have eR := Ext.refl ρ
  unfold bltD at e
  split at e
  · rename_i hf
    obtain rfl : f = "len" := hf
    refine ⟨by decide, ?_⟩
    unfold b_len at e
    split at e
    · obtain ⟨v, rfl, rv⟩ := one_arg r
      obtain ⟨h1, rfl⟩ := ite_ok e
      cases rv
      exact CallR_w call_len ⟨_, _, rfl, ⟨sizeLine_le h1, rfl⟩, P.ofV (.inr fun _ => nofun) eG eR S (.int _)⟩
    · obtain ⟨v, rfl, rv⟩ := one_arg r
      cases e
      cases rv with
      | tup ha ra =>
        refine CallR_w call_len ⟨_, _, rfl, .inr ⟨_, S.sqT ha, rfl⟩, ?_⟩
        rw [ra.length]
        exact P.ofV (.inr fun _ => nofun) eG eR S (.int _)
    · obtain ⟨v, rfl, rv⟩ := one_arg r
      cases e
      cases rv with
      | lst ha ra =>
        refine CallR_w call_len ⟨_, _, rfl, .inl ⟨_, .inl (.inl (S.sub _ _ ha)), rfl⟩, ?_⟩
        rw [ra.length]
        exact P.ofV (.inr fun _ => nofun) eG eR S (.int _)
    · obtain ⟨v, rfl, rv⟩ := one_arg r
      cases rv with
      | ref hn =>
        split at e
        · rename_i xs ho
          cases e
          obtain ⟨u, h1, h2, _⟩ := S.hp _ _ _ hn ho
          cases u <;> simp only [RepO] at h2
          refine CallR_w call_len ⟨_, _, rfl, .inl ⟨_, .inl (.inl h1), rfl⟩, ?_⟩
          rw [h2.length]
          exact P.ofV (.inr fun _ => nofun) eG eR S (.int _)
        · rename_i kvs ho
          cases e
          obtain ⟨u, h1, h2, _⟩ := S.hp _ _ _ hn ho
          cases u <;> simp only [RepO] at h2
          refine CallR_w call_len_dK ⟨_, _, rfl, h1, ?_⟩
          have hl := congrArg List.length h2.1
          rw [List.length_map, List.length_map] at hl
          rw [hl]
          exact P.ofV (.inr fun _ => nofun) eG eR S (.int _)
        · cases e
    · cases e
  split at e
  · rename_i hf
    obtain rfl : f = "tuple" := hf
    refine ⟨by decide, ?_⟩
    unfold b_tuple at e
    split at e
    · obtain ⟨v, rfl, rv⟩ := one_arg r
      cases e
      cases rv with
      | tup ha ra => exact CallR_w call_tupleN ⟨_, _, rfl, .inr ⟨S.sqT ha, P.ofV (.inr fun _ => nofun) eG eR S (.tup ha ra)⟩⟩
    · obtain ⟨v, rfl, rv⟩ := one_arg r
      cases e
      cases rv with
      | lst ha ra => exact CallR_w call_tupleN ⟨_, _, rfl, .inl ⟨.inl (.inl (S.sub _ _ ha)), P.newT eG eR S ra⟩⟩
    · obtain ⟨v, rfl, rv⟩ := one_arg r
      obtain ⟨h1, rfl⟩ := ite_ok e
      cases rv
      exact CallR_w (call_tupleZ hX.calm) ⟨_, rfl, sizeLine_le h1, P.newT eG eR S (RepL.signs _)⟩
    · obtain ⟨v, rfl, rv⟩ := one_arg r
      cases rv with
      | ref hn =>
        split at e
        · rename_i xs ho
          cases e
          obtain ⟨u, h1, h2, _⟩ := S.hp _ _ _ hn ho
          cases u <;> simp only [RepO] at h2
          exact CallR_w call_tupleN ⟨_, _, rfl, .inl ⟨.inl (.inl h1), P.newT eG eR S h2⟩⟩
        · cases e
    · cases e
  split at e
  · rename_i hf
    obtain rfl : f = "list" := hf
    refine ⟨by decide, ?_⟩
    unfold b_list at e
    split at e
    · obtain ⟨v, rfl, rv⟩ := one_arg r
      cases e
      cases rv with
      | tup ha ra => exact CallR_w call_list_of ⟨_, _, rfl, .inr (S.sqT ha), P.newL eG eR S ra⟩
    · obtain ⟨v, rfl, rv⟩ := one_arg r
      cases e
      cases rv with
      | lst ha ra => exact CallR_w call_list_of ⟨_, _, rfl, .inl (.inl (.inl (S.sub _ _ ha))), P.newL eG eR S ra⟩
    · obtain ⟨v, rfl, rv⟩ := one_arg r
      obtain ⟨h1, rfl⟩ := ite_ok e
      cases rv
      exact CallR_w (call_listZ hX.calm) ⟨_, rfl, sizeLine_le h1, P.newL eG eR S (RepL.signs _)⟩
    · obtain ⟨v, rfl, rv⟩ := one_arg r
      cases rv with
      | ref hn =>
        split at e
        · rename_i kvs ho
          cases e
          obtain ⟨u, h1, h2, _⟩ := S.hp _ _ _ hn ho
          cases u <;> simp only [RepO] at h2 <;> try (exact h2.elim)
          refine CallR_w (call_listD hX.calm) ⟨_, _, rfl, .inl h1, P.newL eG eR S ?_⟩
          exact keys_rep h2.1
        · cases e
    · obtain ⟨v, rfl, rv⟩ := one_arg r
      cases e
      cases rv with
      | dct ha =>
        rename_i kvs _ _
        refine CallR_w (call_listD hX.calm) ⟨_, _, rfl, .inr ⟨_, S.sub _ _ ha⟩, P.newL eG eR S ?_⟩
        have := keys_rep (K := X.K) (G := G) (ρ := ρ) (ks := kvs.map fun p => (p.1, V.int p.2)) (ds := kvs.map fun p => (p.1, D.int p.2)) (by simp)
        simpa [List.map_map, Function.comp_def] using this
    · cases e
  split at e
  · rename_i hf
    obtain rfl : f = "int" := hf
    refine ⟨by decide, ?_⟩
    unfold b_int at e
    split at e
    · obtain ⟨v, rfl, rv⟩ := one_arg r
      cases e
      cases rv
      exact CallR_w call_int1 (.inl ⟨_, rfl, P.ofV (.inr fun _ => nofun) eG eR S (.int _)⟩)
    · obtain ⟨v, rfl, rv⟩ := one_arg r
      cases e
      cases rv
      exact CallR_w call_int1 (.inr ⟨_, rfl, P.ofV (.inr fun _ => nofun) eG eR S (.int _)⟩)
    · cases e
  split at e
  · rename_i hf
    obtain rfl : f = "abs" := hf
    refine ⟨by decide, ?_⟩
    unfold b_abs at e
    split at e
    · obtain ⟨v, rfl, rv⟩ := one_arg r
      cases e
      cases rv
      exact CallR_w call_abs ⟨_, rfl, P.ofV (.inr fun _ => nofun) eG eR S (.int _)⟩
    · cases e
  split at e
  · rename_i hf
    obtain rfl : f = "sum" := hf
    refine ⟨by decide, ?_⟩
    unfold b_sum at e
    split at e
    · obtain ⟨v, rfl, rv⟩ := one_arg r
      split at e
      · rename_i ns en
        cases e
        rw [intsOf_eq en] at rv
        cases rv with
        | lst ha ra =>
          rw [ra.ints] at ha
          exact CallR_w (cr_sum hX.calm) ⟨_, _, rfl, .inl (.inl (S.sub _ _ ha)), P.ofV (.inr fun _ => nofun) eG eR S (.int _)⟩
      · cases e
    · cases e
  split at e
  · rename_i hf
    obtain rfl : f = "all" := hf
    refine ⟨by decide, ?_⟩
    unfold b_all at e
    split at e
    · obtain ⟨v, rfl, rv⟩ := one_arg r
      split at e
      · rename_i ns en
        cases e
        rw [blsOf_eq en] at rv
        cases rv with
        | lst ha ra =>
          rw [ra.bls] at ha
          exact CallR_w (cr_all hX.calm) ⟨_, _, rfl, .inl (.inl (S.sub _ _ ha)), P.ofV (.inr fun _ => nofun) eG eR S (.bl _)⟩
      · cases e
    · cases e
  split at e
  · rename_i hf
    obtain rfl : f = "any" := hf
    refine ⟨by decide, ?_⟩
    unfold b_any at e
    split at e
    · obtain ⟨v, rfl, rv⟩ := one_arg r
      split at e
      · rename_i ns en
        cases e
        rw [blsOf_eq en] at rv
        cases rv with
        | lst ha ra =>
          rw [ra.bls] at ha
          exact CallR_w (cr_any hX.calm) ⟨_, _, rfl, .inl (.inl (S.sub _ _ ha)), P.ofV (.inr fun _ => nofun) eG eR S (.bl _)⟩
      · cases e
    · cases e
  split at e
  · rename_i hf
    obtain rfl : f = "max" := hf
    refine ⟨by decide, ?_⟩
    unfold b_max at e
    split at e
    · obtain ⟨v, rfl, rv⟩ := one_arg r
      split at e
      · rename_i m em
        cases e
        obtain ⟨ns, en, em⟩ := Option.bind_eq_some_iff.mp em
        rw [intsOf_eq en] at rv
        cases rv with
        | lst ha ra =>
          rw [ra.ints] at ha
          refine CallR_w (cr_max hX.calm) ⟨_, ns, rfl, .inl (.inl (S.sub _ _ ha)), ?_, fun m' h1 h2 => ?_⟩
          · cases ns with
            | nil => cases em
            | cons _ _ => simp
          · rw [maxL_uniq em h1 h2]
            exact P.ofV (.inr fun _ => nofun) eG eR S (.int _)
      · cases e
    · obtain ⟨v, rfl, rv⟩ := one_arg r
      split at e
      · rename_i m em
        cases e
        obtain ⟨ns, en, em⟩ := Option.bind_eq_some_iff.mp em
        rw [intsOf_eq en] at rv
        cases rv with
        | tup ha ra =>
          rw [ra.ints] at ha
          refine CallR_w (call_maxTu hX.calm) ⟨_, ns, rfl, S.sqT ha, ?_, fun m' h1 h2 => ?_⟩
          · cases ns with
            | nil => cases em
            | cons _ _ => simp
          · rw [maxL_uniq em h1 h2]
            exact P.ofV (.inr fun _ => nofun) eG eR S (.int _)
      · cases e
    · cases r with
      | cons r1 r2 =>
        cases r2 with
        | cons r2 r3 =>
          cases r3
          cases e
          cases r1
          cases r2
          exact CallR_w (call_max2 hX.calm) ⟨_, _, rfl, P.ofV (.inr fun _ => nofun) eG eR S (.int _)⟩
    · cases e
  split at e
  · rename_i hf
    obtain rfl : f = "min" := hf
    refine ⟨by decide, ?_⟩
    unfold b_min at e
    split at e
    · obtain ⟨v, rfl, rv⟩ := one_arg r
      split at e
      · rename_i m em
        cases e
        obtain ⟨ns, en, em⟩ := Option.bind_eq_some_iff.mp em
        rw [intsOf_eq en] at rv
        cases rv with
        | lst ha ra =>
          rw [ra.ints] at ha
          refine CallR_w (cr_min hX.calm) ⟨_, ns, rfl, .inl (.inl (S.sub _ _ ha)), ?_, fun m' h1 h2 => ?_⟩
          · cases ns with
            | nil => cases em
            | cons _ _ => simp
          · rw [minL_uniq em h1 h2]
            exact P.ofV (.inr fun _ => nofun) eG eR S (.int _)
      · split at e
        · rename_i z zs en
          cases e
          rw [strsOf_eq en] at rv
          cases rv with
          | lst ha ra =>
            rw [ra.strs] at ha
            exact CallR_w (call_minS hX) ⟨_, z, zs, rfl, .inl (.inl (S.sub _ _ ha)), P.ofV (.inr fun _ => nofun) eG eR S (.str _)⟩
        · cases e
    · cases r with
      | cons r1 r2 =>
        cases r2 with
        | cons r2 r3 =>
          cases r3
          cases e
          cases r1
          cases r2
          exact CallR_w (call_min2 hX.calm) ⟨_, _, rfl, P.ofV (.inr fun _ => nofun) eG eR S (.int _)⟩
    · cases e
  split at e
  · rename_i hf
    obtain rfl : f = "sorted" := hf
    refine ⟨by decide, ?_⟩
    unfold b_sorted at e
    split at e
    · obtain ⟨v, rfl, rv⟩ := one_arg r
      cases rv with
      | ref hn =>
        split at e
        · rename_i kvs ho
          split at e
          · rename_i ks ek
            obtain ⟨h64, rfl⟩ := ite_ok e
            obtain ⟨u, h1, h2, _⟩ := S.hp _ _ _ hn ho
            cases u <;> simp only [RepO] at h2
            refine CallR_w (call_sortedDI hX.calm) ⟨_, _, ks, rfl, .inl h1, h2.1.trans (intKs_eq ek), of_decide_eq_true h64, fun ns' p hp hs => ?_⟩
            obtain rfl : ns' = sortI ks := sorted_uniq (hp.trans (sortI_perm ks).symm) hs (sortI_sorted ks)
            exact P.newL eG eR S (RepL.ofInts _) p
          · cases e
        · rename_i xs ho
          split at e
          · rename_i ns en
            cases e
            obtain ⟨u, h1, h2, _⟩ := S.hp _ _ _ hn ho
            cases u <;> simp only [RepO] at h2
            rw [intsOf_eq en] at h2
            rw [h2.ints] at h1
            refine CallR_w cr_sortedI ⟨_, _, rfl, .inl (.inl h1), fun ns' p hp hs => ?_⟩
            obtain rfl : ns' = sortI ns := sorted_uniq (hp.trans (sortI_perm ns).symm) hs (sortI_sorted ns)
            exact P.newL eG eR S (RepL.ofInts _) p
          · obtain ⟨u, h1, h2, _⟩ := S.hp _ _ _ hn ho
            cases u <;> simp only [RepO] at h2
            exact sortP_ok rfl hX e S (.inl (.inl h1)) h2 P
        · cases e
    · obtain ⟨v, rfl, rv⟩ := one_arg r
      split at e
      · rename_i ns en
        cases e
        rw [intsOf_eq en] at rv
        cases rv with
        | lst ha ra =>
          rw [ra.ints] at ha
          refine CallR_w cr_sortedI ⟨_, _, rfl, .inl (.inl (S.sub _ _ ha)), fun ns' p hp hs => ?_⟩
          obtain rfl : ns' = sortI ns := sorted_uniq (hp.trans (sortI_perm ns).symm) hs (sortI_sorted ns)
          exact P.newL eG eR S (RepL.ofInts _) p
      · split at e
        · rename_i ss en
          obtain ⟨h64, rfl⟩ := ite_ok e
          rw [strsOf_eq en] at rv
          cases rv with
          | lst ha ra =>
            rw [ra.strs] at ha
            refine CallR_w cr_sortedS ⟨_, _, rfl, .inl (.inl (S.sub _ _ ha)), of_decide_eq_true h64, fun ns' p hp hs => ?_⟩
            obtain rfl : ns' = sortS ss := sortedS_uniq (hp.trans (sortS_perm ss).symm) (pw_sortedS hs) (sortS_sorted ss)
            exact P.newL eG eR S (RepL.ofStrs _) p
        · cases rv with
          | lst ha ra => exact sortP_ok rfl hX e S (.inl (.inl (S.sub _ _ ha))) ra P
    · cases e
  split at e
  · rename_i hf
    obtain rfl : f = "repr" := hf
    refine ⟨by decide, ?_⟩
    unfold b_repr at e
    split at e
    · obtain ⟨v, rfl, rv⟩ := one_arg r
      split at e
      case isFalse =>
        obtain ⟨h1, rfl⟩ := ite_ok e
        simp only [Bool.and_eq_true] at h1
        obtain ⟨⟨h1, h2⟩, h3⟩ := h1
        obtain ⟨p1, p2⟩ := okq_res S rv h1
        exact CallR_w (call_reprD hX) ⟨_, _, rfl, p1, p2, h2, sizeLine_le h3, P.ofV (.inr fun _ => nofun) eG eR S (.str _)⟩
      rename_i h1
      cases e
      simp only [Bool.and_eq_true] at h1
      obtain ⟨⟨h1, h2⟩, h3⟩ := h1
      rcases Bool.or_eq_true_iff.mp h1 with h1 | h1
      case inr => exact CallR_w (call_reprR hX) ⟨_, _, _, _, rfl, S.sub, rv, h1, h2, sizeLine_le h3, P.ofV (.inr fun _ => nofun) eG eR S (.str _)⟩
      obtain ⟨p1, p2⟩ := okq_dp S rv h1
      exact CallR_w (call_reprD hX) ⟨_, _, rfl, p1, p2, h2, sizeLine_le h3, P.ofV (.inr fun _ => nofun) eG eR S (.str _)⟩
    · cases e
  unfold bltD2 at e
  split at e
  · rename_i hf
    obtain rfl : f = "dict" := hf
    refine ⟨by decide, ?_⟩
    unfold b_dict at e
    have fin : ∀ {kvs : List (Key × Int)}, dr = .dct kvs → ∀ p, H p = none → ∃ d u, (V.ref p : V) = .ref d ∧ (upd H p (.dK (kvs.map fun p => (p.1, V.int p.2)))) d = some u ∧ Mut (some u) ∧ ∀ od, Q (.ref p) (upd (upd H p (.dK (kvs.map fun p => (p.1, V.int p.2)))) d (.frz od u)) := fun {kvs} ed p n => by
      subst ed
      refine ⟨p, _, rfl, upd_same, trivial, fun od => ?_⟩
      rw [upd_upd]
      obtain ⟨S2, s2⟩ := S.lay (u := .frz od (.dK (kvs.map fun p => (p.1, V.int p.2)))) n
      exact P.ofV (.inr fun _ => nofun) s2 eR S2 (.dct upd_same)
    split at e
    · obtain ⟨v, rfl, rv⟩ := one_arg r
      obtain ⟨kvs, e1, e2, e3⟩ := mkDct_ok e
      cases rv with
      | tup ha ra =>
        obtain ⟨ps, rfl, pa⟩ := pairs_rep e1 ra S.sub
        exact cW_lock <| CallR_w (call_dictN hX.calm) ⟨_, ps, _, rfl, S.cln ha, pa, by rw [e3]; exact fin e2⟩
    · obtain ⟨v, rfl, rv⟩ := one_arg r
      obtain ⟨kvs, e1, e2, e3⟩ := mkDct_ok e
      cases rv with
      | lst ha ra =>
        obtain ⟨ps, rfl, pa⟩ := pairs_rep e1 ra S.sub
        exact cW_lock <| CallR_w (call_dictP hX.calm) ⟨_, ps, _, rfl, .inl (.inl (S.sub _ _ ha)), pa, by rw [e3]; exact fin e2⟩
    · cases e
  cases e
end
def tListVals (td : TE) : TE := fun σ H Q => td σ H fun x H1 => ∃ a kvs, x = V.ref a ∧ Rd H1 a (.dK kvs) ∧ ∀ q, H1 q = none → Q (.ref q) (upd H1 q (.lst (kvs.map (·.2))))
section
variable {X : Cx} {o : Expr} {p pos apos mpos : Pos} {td : TE}
theorem pe_listVals (hc : X.calm = true) (hg : Gl X "list") (hm : X.mg "list" = none) (hd : PE X o td) (hbase : attributeBase o "values" X.env (eval o X.env) = eval o X.env) (hline : (apos.endLine == mpos.line) = true)
    (hse : starEach [Expr.Call (.Attribute o "values" apos) [] [] mpos] X.env = [(false, eval (Expr.Call (.Attribute o "values" apos) [] [] mpos) X.env)] := by rfl) :
    PE X (.Call (.Name "list" p) [.Call (.Attribute o "values" apos) [] [] mpos] [] pos) (tListVals td) := by
  refine ⟨fun pins s σ H Q I h => ?_⟩
  refine wpAny_Call_Name_kw (ld_blt I hg hm (u := .type "list") (by first | rfl | decide +kernel) ?_ (by first | decide +kernel | decide) (by first | decide +kernel | decide))
  rw [hse]
  refine PySem.callWith_type1 (wpAny_Call_method0_late hbase hline (thn (hd.run pins s σ H _ I h) fun v s1 ⟨x, H1, I1, r1, a, kvs, ex, ha, q⟩ => ?_))
  subst ex
  obtain rfl : v = Value.ref a := r1
  obtain ⟨z, hsys, vs, rel, dof⟩ := dk_rd I1.hok ha
  obtain ⟨ep, dat⟩ := dof.dictAt
  have dat' := dat
  obtain ⟨ob, es, ho, ex, _⟩ := dat'
  refine ⟨"dict", "dict.values", F.plainAttrs_dict, F.slot_dict_values, F.type_dict_values, ⟨ob, ho, ex.1⟩, fun b e => ?_, Calls.callWith_builtin rfl (PySem.evalArgs_none ?_)⟩
  · cases e
    exact ⟨ob, ho, ex.2.1⟩
  refine call_meetsIn F.slot_dict_values ⟨ob, ho, ex.1⟩ F.entry_dict_values (F.args_dict_values_1 _) (meets_dict_values (mixKind X.prog X.w) a hsys) ⟨⟨vs, dof⟩, ?_⟩
  have k1 : ∀ b u, s1.heap.get? b = some u → (s1.heap.push { cls := .type "dict_values", data := .fields #[.ref a] }).get? b = some u := fun b u e => Heap.get?_push_of_some _ e
  have hl : kvs.length = vs.length := Paired.length rel
  have I2 : Inv X pins σ H1 { s1 with heap := s1.heap.push { cls := .type "dict_values", data := .fields #[.ref a] } } := I1.kept (t' := s1.toks) k1
  refine PySem.W.kdl_call (PySem.W.kdl_values (knd := mixKind X.prog X.w) (r := s1.heap.objs.size) (d := a) (kvs := vs) (ep := ep)) (I.ok.hd hc) ⟨⟨_, Heap.get?_push_size _ rfl, rfl, rfl⟩, dat.keep k1⟩ (by rw [← hl]; exact z) fun h' tk acc' c' kp hS it => ?_
  refine ⟨.ref _, _, I2.laid kp (Nat.le_refl _) (show ObjOk X.prog X.w _ _ _ (.lst (kvs.map (·.2))) from ⟨by rw [List.length_map]; exact z, acc'.toList, c', ?_, by rw [Array.toArray_toList]; exact hS⟩), rfl, q _ (I2.hok.fresh (Nat.le_refl _))⟩
  have el : acc'.toList.length = acc'.size := by simp
  refine vals_of_at (by rw [List.length_map, el, it.1, hl]) fun j x w h1 h2 => ?_
  obtain ⟨k, hk⟩ := it.2 j w (by rw [← Array.getElem?_toList]; exact h2)
  obtain ⟨y, e1, e2⟩ := KV.at' rel hk
  rw [List.getElem?_map, e1] at h1
  cases h1
  exact e2
end
end EV
set_option maxRecDepth 100000
namespace EV
open PySem PySem.Spec PyProof.Rows L2
def visB (sc : Scope) (x : Str) : Bool := match sc.names.lookup x with
  | some .local => true | some .cell => true | some .free => true | _ => false
def locB (sc : Scope) (x : Str) : Bool := match sc.names.lookup x with
  | some .local => true | some .cell => true | _ => false
def glB (sc : Scope) (x : Str) : Bool := match sc.names.lookup x with
  | some .globalImplicit => true | _ => false
def nameOk (x : Str) : Bool := !(x == "__debug__") && !(x == "__classdict__") && decide (x ≠ "__name__")
def slotB (sc : Scope) (N : List Str) (i : Nat) (x : Str) : Bool := decide (N[i]? = some x) && visB sc x && nameOk x
def opB : Op2 → Operator → Bool
  | .add, .Add => true | .sub, .Sub => true | .mul, .Mult => true | .fdiv, .FloorDiv => true | .mod, .Mod => true | .pow, .Pow => true | _, _ => false
def cmB : Cm → CmpOp → Bool
  | .eqr, .Eq => true | .ner, .NotEq => true
  | .eq, .Eq => true | .ne, .NotEq => true | .lt, .Lt => true | .le, .LtE => true | .gt, .Gt => true | .ge, .GtE => true
  | .isin, .In => true | .notin, .NotIn => true | .is_, .Is => true | .isnot, .IsNot => true | _, _ => false
def notSet : Expr → Bool | .Set _ _ _ => false | _ => true
def notSlice : Expr → Bool | .Slice _ _ _ _ => false | _ => true
def notStar : Expr → Bool | .Starred _ _ => false | _ => true
def plainT : Expr → Bool | .UnaryOp .Not _ _ => false | .BoolOp _ _ _ => false | .IfExp _ _ _ _ => false | .Compare _ _ _ _ => false | _ => true
def tysB (sc : Scope) : List String → List Expr → Bool
  | [], [] => true
  | t :: ts, .Name x _ :: ps => decide (x = Str.ofString t) && decide (t ∈ tyNames) && glB sc x && tysB sc ts ps
  | _, _ => false
def allPlain (l : List Expr) : Bool := l.all notStar
def tgB (scope : Scope) (N : List Str) : Tg → Expr → Bool
  | .name i, .Name x _ => decide (N[i]? = some x) && locB scope x
  | .tup is, .Tuple ps _ _ => go is ps
  | _, _ => false
where go : List Nat → List Expr → Bool
  | [], [] => true
  | i :: is, .Name x _ :: ps => decide (N[i]? = some x) && locB scope x && go is ps
  | _, _ => false
def ownOf (N : List Str) (own : List Nat) : List (Str × Nat) := own.map fun i => (N.getD i "", i)
def nodupK : List Str → Bool
  | [] => true
  | k :: ks => !(ks.any fun j => decide (j = k)) && nodupK ks
def tgIn : Tg → List Nat → Bool
  | .name i, own => decide (i ∈ own)
  | .tup is, own => is.all fun i => decide (i ∈ own)
def kvNames : Kvs → List Str
  | .nil => []
  | .cons k _ _ r => k :: kvNames r
def needTup : I → Bool
  | .enum _ => true
  | .zip _ _ => true
  | .items _ => true
  | _ => false
def isTup : Expr → Bool
  | .Tuple _ _ _ => true
  | _ => false
def notSup : Expr → Bool
  | .Call _ _ _ _ => false
  | _ => true
def nodupK' : List Key → Bool
  | [] => true
  | k :: ks => !(ks.any fun j => decide (j = k)) && nodupK' ks
def mDl : List (Key × Int) → List (Option Expr) → List Expr → Bool
  | [], [], [] => true
  | (.inr k, i) :: r, some (.Constant (.str t) _ _) :: ks, .Constant (.int j) _ _ :: vs => decide (k = t) && decide (i = j) && mDl r ks vs
  | _, _, _ => false
def isZ : E → Bool
  | .int i => decide (i = 0)
  | _ => false
theorem isZ_eq {a : E} (h : isZ a = true) : a = .int 0 := by
  cases a <;> simp [isZ] at h
  rw [h]
section
variable (NB : List String) (N : List Str)
mutual
def mE : E → Scope → Expr → Bool
  | .non, sc, p => match p with | .Constant .none _ _ => true | _ => false
  | .bl b, sc, p => match p with | .Constant (.bool c) _ _ => b == c | _ => false
  | .int i, sc, p => match p with | .Constant (.int j) _ _ => i == j | _ => false
  | .str s, sc, p => match p with | .Constant (.str t) _ _ => decide (s = t) | _ => false
  | .var i, sc, p => match p with | .Name x _ => slotB sc N i x | _ => false
  | .glob x, sc, p => match p with | .Name y _ => decide (x = y) && glB sc y && nameOk y | _ => false
  | .ixb i b, sc, p => match p with | .Subscript (.Name x _) pb _ => slotB sc N i x && notSlice pb && mE b sc pb | _ => false
  | .slb i lo hi, sc, p => match p with | .Subscript (.Name x _) (.Slice pl pu none _) _ => slotB sc N i x && mEo lo sc pl && mEo hi sc pu | _ => false
  | .lstb i, sc, p => match p with | .Call (.Name f _) [.Name x _] [] _ => decide (f = "list") && glB sc f && decide ("list" ∈ NB) && slotB sc N i x | _ => false
  | .repb i, sc, p => match p with | .Call (.Name f _) [.Name x _] [] _ => decide (f = "repr") && glB sc f && decide ("repr" ∈ NB) && slotB sc N i x | _ => false
  | .lenb i, sc, p => match p with | .Call (.Name f _) [.Name x _] [] _ => decide (f = "len") && glB sc f && decide ("len" ∈ NB) && slotB sc N i x | _ => false
  | .inb neg a i, sc, p => match p with
    | .Compare pa [pop] [.Name x _] _ => cmB (if neg then .notin else .isin) pop && mE a sc pa && slotB sc N i x
    | _ => false
  | .tup es, sc, p => match p with | .Tuple ps _ _ => mEs es sc ps | _ => false
  | .lst es, sc, p => match p with | .List ps _ => mEs es sc ps | _ => false
  | .bin op a b, sc, p => match p with | .BinOp pa pop pb _ => opB op pop && mE a sc pa && mE b sc pb | _ => false
  | .neg a, sc, p => match p with | .UnaryOp .USub pa _ => mE a sc pa | _ => false
  | .not a, sc, p => match p with | .UnaryOp .Not pa _ => mE a sc pa | _ => false
  | .cmp op a b, sc, p => match p with | .Compare pa [pop] [pb] _ => cmB op pop && mE a sc pa && mE b sc pb && notSet pb | _ => false
  | .chain o1 o2 a b c, sc, p => match p with
    | .Compare pa [p1, p2] [pb, pc] _ => cmB o1 p1 && cmB o2 p2 && mE a sc pa && mE b sc pb && mE c sc pc && notSet pc
    | _ => false
  | .and es, sc, p => match p with | .BoolOp .And ps _ => mEs es sc ps && allPlain ps | _ => false
  | .or es, sc, p => match p with | .BoolOp .Or ps _ => mEs es sc ps && allPlain ps | _ => false
  | .ite c a b, sc, p => match p with | .IfExp pc pa pb _ => mT c sc pc && mE a sc pa && mE b sc pb | _ => false
  | .call f es, sc, p => match p with | .Call (.Name x _) ps [] _ => decide (f = x) && glB sc x && nameOk x && mEs es sc ps && allPlain ps | _ => false
  | .callv i es, sc, p => match p with | .Call (.Name x _) (q :: ps) [] _ => slotB sc N i x && mEs es sc (q :: ps) && allPlain (q :: ps) | _ => false
  | .blt f es, sc, p => match p with
    | .Call (.Name x _) (q :: ps) [] _ => decide (Str.ofString f = x) && glB sc x && decide (f ∈ NB) && decide (f ∈ bltNames) && mEs es sc (q :: ps) && allPlain (q :: ps)
    | _ => false
  | .isi a tys, sc, p => match p with
    | .Call (.Name x _) [pa, pt] [] _ => decide (x = "isinstance") && glB sc x && decide ("isinstance" ∈ NB) && mE a sc pa && notStar pa && (match pt with
      | .Name y _ => tysB sc tys [.Name y ⟨0, 0, 0, 0⟩]
      | .Tuple ts _ _ => tysB sc tys ts
      | _ => false) && tys.all (fun t => decide (t ∈ NB)) && decide (tys.length ≤ 8)
    | _ => false
  | .meth _ _ _, _, _ => false
  | .pop0 i, sc, p => match p with
    | .Call (.Attribute (.Name x _) m ap) [] [] cp => decide (m = "pop") && slotB sc N i x && (ap.endLine == cp.line)
    | _ => false
  | .popA i e, sc, p => match p with
    | .Call (.Attribute (.Name x _) m ap) [q] [] cp => decide (m = "pop") && slotB sc N i x && mE e sc q && notStar q && (ap.endLine == cp.line)
    | _ => false
  | .ix a b, sc, p => match p with | .Subscript pa pb _ => mE a sc pa && mE b sc pb && notSlice pb | _ => false
  | .sl a lo hi, sc, p => match p with | .Subscript pa (.Slice pl pu none _) _ => mE a sc pa && mEo lo sc pl && mEo hi sc pu | _ => false
  | .rev a, sc, p => match p with
    | .Subscript pa (.Slice none none (some (.UnaryOp .USub (.Constant (.int 1) _ _) _)) _) _ => mE a sc pa
    | _ => false
  | .bits a, sc, p => match p with
    | .Call (.Attribute pa m ap) [] [] cp => decide (m = "bit_length") && mE a sc pa && notSup pa && (ap.endLine == cp.line)
    | _ => false
  | .idx o a, sc, p => match p with
    | .Call (.Attribute po m ap) [q] [] cp => decide (m = "index") && mE o sc po && notSup po && mE a sc q && notStar q && (ap.endLine == cp.line)
    | _ => false
  | .idxr o a, sc, p => match p with
    | .Call (.Attribute po m ap) [q] [] cp => decide (m = "index") && mE o sc po && notSup po && mE a sc q && notStar q && (ap.endLine == cp.line)
    | _ => false
  | .lvals e, sc, p => match p with
    | .Call (.Name x _) [.Call (.Attribute po m ap) [] [] cp] [] _ => decide (x = "list") && glB sc x && decide ("list" ∈ NB) && decide (m = "values") && mE e sc po && notSup po && (ap.endLine == cp.line)
    | _ => false
  | .slr a lo hi, sc, p => match p with | .Subscript pa (.Slice pl pu none _) _ => mE a sc pa && mEo lo sc pl && mEo hi sc pu | _ => false
  | .idxb i a, sc, p => match p with
    | .Call (.Attribute (.Name x _) m ap) [q] [] cp => decide (m = "index") && slotB sc N i x && mE a sc q && notStar q && (ap.endLine == cp.line)
    | _ => false
  | .join o a, sc, p => match p with
    | .Call (.Attribute po m ap) [q] [] cp => decide (m = "join") && mE o sc po && notSup po && mE a sc q && notStar q && (ap.endLine == cp.line)
    | _ => false
  | .lrng t a b, sc, p => match p with
    | .Call (.Name f _) [.Call (.Name g _) ps [] _] [] _ => decide (f = (if t then "tuple" else "list")) && glB sc f && decide ((if t then "tuple" else "list") ∈ NB) && decide (g = "range") && glB sc g && decide ("range" ∈ NB) && (match ps with
      | [q] => isZ a && mE b sc q && notStar q
      | [q, r] => mE a sc q && notStar q && mE b sc r && notStar r
      | _ => false)
    | _ => false
  | .comp elt tg it ifs own, sc, p => match p with
    | .ListComp pe [⟨pt, pi, pf, pa⟩] scope _ => decide (pa = 0) && (!needTup it || isTup pt) && blkC N sc scope (ownOf N own) && mI it sc pi && tgB scope N tg pt && mTf ifs (relS scope sc) pf && mE elt (relS scope sc) pe && (tgIn tg own) && notSet pi
    | _ => false
  | .comp2 elt tg it ifs tg1 it1 ifs1 own own1, sc, p => match p with
    | .ListComp pe [⟨pt, pi, pf, pa⟩, ⟨pt1, pi1, pf1, pa1⟩] scope _ => decide (pa = 0) && decide (pa1 = 0) && (!needTup it || isTup pt) && (!needTup it1 || isTup pt1) && blkC N sc scope (ownOf N own) && (own1.all fun i => decide (i ∈ own)) && mI it sc pi && tgB scope N tg pt && mTf ifs (relS scope sc) pf && mI it1 (relS scope sc) pi1 && tgB scope N tg1 pt1 && mTf ifs1 (relS scope sc) pf1 && mE elt (relS scope sc) pe && tgIn tg own && tgIn tg1 own1 && notSet pi && notSet pi1
    | _ => false
  | .fstr es, sc, p => match p with | .JoinedStr (q1 :: q2 :: qs) _ => mFs es sc (q1 :: q2 :: qs) | _ => false
  | .upper a, sc, p => match p with
    | .Call (.Attribute pa m ap) [] [] cp => decide (m = "upper") && mE a sc pa && notSup pa && (ap.endLine == cp.line)
    | _ => false
  | .never, _, _ => true
  | .dlit kvs, sc, p => match p with | .Dict ks vs _ => mDl kvs ks vs && nodupK' (kvs.map (·.1)) && decide (ks.length ≤ 15) | _ => false
  | .sset e, sc, p => match p with
    | .Call (.Name f _) [.Call (.Name g _) [q] [] _] [] _ => decide (f = "sorted") && glB sc f && decide ("sorted" ∈ NB) && decide (g = "set") && glB sc g && decide ("set" ∈ NB) && mE e sc q && notStar q
    | _ => false
  | .new1 a b, sc, p => match p with | .Dict [some pk] [pv] _ => mE a sc pk && mE b sc pv | _ => false
  | .newl e, sc, p => mE e sc p && fr e
  | .newd es, sc, p => match p with | .Dict ks vs _ => mKv es sc ks vs && nodupK (kvNames es) && decide (ks.length ≤ 15) | _ => false
def mFs : Es → Scope → List Expr → Bool
  | .nil, _, ps => match ps with | [] => true | _ => false
  | .cons star e r, sc, ps => match ps with
    | [] => false
    | p :: ps => (match star, p with
      | true, .FormattedValue q cv fm _ => decide (cv = -1) && fm.isNone && mE e sc q
      | false, .Constant (.str t) _ _ => (match e with | .str s => decide (s = t) | _ => false)
      | _, _ => false) && mFs r sc ps
def mEo : Eo → Scope → Option Expr → Bool
  | .no, _, p => match p with | none => true | _ => false
  | .so e, sc, p => match p with | some q => mE e sc q | _ => false
def mEs : Es → Scope → List Expr → Bool
  | .nil, _, ps => match ps with | [] => true | _ => false
  | .cons star e r, sc, ps => match ps with
    | [] => false
    | p :: ps => (match star, p with
      | true, .Starred q _ => mE e sc q
      | true, _ => false
      | false, p => notStar p && mE e sc p) && mEs r sc ps
def mKv : Kvs → Scope → List (Option Expr) → List Expr → Bool
  | .nil, _, ks, vs => match ks, vs with | [], [] => true | _, _ => false
  | .cons k sh e r, sc, ks, vs => match ks, vs with
    | some (.Constant (.str t) _ _) :: ks, v :: vs => decide (k = t) && mE e sc v && (!sh || fr e) && mKv r sc ks vs
    | _, _ => false
def mT : T → Scope → Expr → Bool
  | .tru e, sc, p => plainT p && mE e sc p
  | .inb neg a i, sc, p => match p with
    | .Compare pa [pop] [.Name x _] _ => cmB (if neg then .notin else .isin) pop && mE a sc pa && slotB sc N i x
    | _ => false
  | .not t, sc, p => match p with | .UnaryOp .Not q _ => mT t sc q | _ => false
  | .and ts, sc, p => match p with | .BoolOp .And (q :: ps) _ => mTs ts sc (q :: ps) | _ => false
  | .or ts, sc, p => match p with | .BoolOp .Or (q :: ps) _ => mTs ts sc (q :: ps) | _ => false
  | .ite _ _ _, _, _ => false
  | .cmp op a b, sc, p => match p with | .Compare pa [pop] [pb] _ => cmB op pop && mE a sc pa && mE b sc pb && notSet pb | _ => false
  | .chain o1 o2 a b c, sc, p => match p with
    | .Compare pa [p1, p2] [pb, pc] _ => cmB o1 p1 && cmB o2 p2 && mE a sc pa && mE b sc pb && mE c sc pc && notSet pc
    | _ => false
def mTs : Ts → Scope → List Expr → Bool
  | .nil, _, ps => match ps with | [] => true | _ => false
  | .cons t r, sc, ps => match ps with | p :: ps => mT t sc p && mTs r sc ps | [] => false
def mTf : Ts → Scope → List Expr → Bool
  | .nil, _, ps => match ps with | [] => true | _ => false
  | .cons t .nil, sc, ps => match ps with | [p] => mT t sc p | _ => false
  | .cons _ (.cons _ _), _, _ => false
def mI : I → Scope → Expr → Bool
  | .val e, sc, p => mE e sc p
  | .rng1 a, sc, p => match p with
    | .Call (.Name x _) [pa] [] _ => decide (x = "range") && glB sc x && decide ("range" ∈ NB) && mE a sc pa && notStar pa
    | _ => false
  | .rng2 a b, sc, p => match p with
    | .Call (.Name x _) [pa, pb] [] _ => decide (x = "range") && glB sc x && decide ("range" ∈ NB) && mE a sc pa && notStar pa && mE b sc pb && notStar pb
    | _ => false
  | .rng3 a b c, sc, p => match p with
    | .Call (.Name x _) [pa, pb, pc] [] _ => decide (x = "range") && glB sc x && decide ("range" ∈ NB) && mE a sc pa && notStar pa && mE b sc pb && notStar pb && mE c sc pc && notStar pc
    | _ => false
  | .enum a, sc, p => match p with
    | .Call (.Name x _) [pa] [] _ => decide (x = "enumerate") && glB sc x && decide ("enumerate" ∈ NB) && mE a sc pa && notStar pa
    | _ => false
  | .zip a b, sc, p => match p with
    | .Call (.Name x _) [pa, pb] [] _ => decide (x = "zip") && glB sc x && decide ("zip" ∈ NB) && mE a sc pa && notStar pa && mE b sc pb && notStar pb
    | _ => false
  | .keys e, sc, p => mE e sc p
  | .vals e, sc, p => match p with
    | .Call (.Attribute po m ap) [] [] cp => decide (m = "values") && mE e sc po && notSup po && (ap.endLine == cp.line)
    | _ => false
  | .items e, sc, p => match p with
    | .Call (.Attribute po m ap) [] [] cp => decide (m = "items") && mE e sc po && notSup po && (ap.endLine == cp.line)
    | _ => false
end
end
end EV
set_option maxRecDepth 100000
namespace EV
open PySem PySem.Spec PyProof.Rows L2
theorem killS_length (σ : Env) : ∀ l : List Nat, (killS σ l).length = σ.length
  | [] => rfl
  | i :: r => by unfold killS; rw [List.length_set, killS_length σ r]
theorem killS_out {σ : Env} {j : Nat} : ∀ {l : List Nat}, j ∉ l → (killS σ l)[j]? = σ[j]?
  | [], _ => rfl
  | i :: r, h => by
    unfold killS
    rw [List.getElem?_set_ne (show i ≠ j by rintro rfl; exact h List.mem_cons_self), killS_out fun m => h (List.mem_cons_of_mem _ m)]
theorem killS_in {σ : Env} {j : Nat} {s : Slot} : ∀ {l : List Nat}, j ∈ l → (killS σ l)[j]? = some s → s = .no
  | [], h, _ => by simp at h
  | i :: r, h, e => by
    unfold killS at e
    by_cases hi : i = j
    · subst hi
      by_cases hl : i < (killS σ r).length
      · rw [List.getElem?_set_self hl] at e; cases e; rfl
      · rw [List.getElem?_eq_none (by simpa using hl)] at e; cases e
    · rw [List.getElem?_set_ne hi] at e
      rcases List.mem_cons.mp h with q | q
      · exact absurd q.symm hi
      · exact killS_in q e
theorem backS_length (σ0 σ : Env) : ∀ l : List Nat, (backS σ0 σ l).length = σ.length
  | [] => rfl
  | i :: r => by unfold backS; rw [List.length_set, backS_length σ0 σ r]
theorem backS_out {σ0 σ : Env} {j : Nat} : ∀ {l : List Nat}, j ∉ l → (backS σ0 σ l)[j]? = σ[j]?
  | [], _ => rfl
  | i :: r, h => by
    unfold backS
    rw [List.getElem?_set_ne (show i ≠ j by rintro rfl; exact h List.mem_cons_self), backS_out fun m => h (List.mem_cons_of_mem _ m)]
theorem backS_in {σ0 σ : Env} {j : Nat} {s : Slot} : ∀ {l : List Nat}, j ∈ l → (backS σ0 σ l)[j]? = some s → s = .no ∨ ∃ d, s = .val d ∧ σ0[j]? = some (.val d)
  | [], h, _ => by simp at h
  | i :: r, h, e => by
    unfold backS at e
    by_cases hi : i = j
    · subst hi
      by_cases hl : i < (backS σ0 σ r).length
      · rw [List.getElem?_set_self hl] at e
        split at e
        · rename_i d q
          cases e
          exact .inr ⟨_, rfl, q⟩
        · cases e; exact .inl rfl
      · rw [List.getElem?_eq_none (by simpa using hl)] at e; cases e
    · rw [List.getElem?_set_ne hi] at e
      rcases List.mem_cons.mp h with q | q
      · exact absurd q.symm hi
      · exact backS_in q e
theorem wipe_set {σ : L2.St} {i : Nat} {v : Option V} : ∀ {vs : List Nat}, i ∈ vs → wipe (σ.set i v) vs = wipe σ vs
  | [], h => by simp at h
  | j :: vs, h => by
    unfold wipe
    by_cases hm : i ∈ vs
    · rw [wipe_set hm]
    · have e : i = j := by
        rcases List.mem_cons.mp h with e | e
        · exact e
        · exact absurd e hm
      subst e
      have : wipe (σ.set i v) vs = (wipe σ vs).set i v := by
        clear h
        induction vs with
        | nil => rfl
        | cons k vs ih =>
          have hk : i ≠ k := fun e => hm (e ▸ List.mem_cons_self)
          show (wipe (σ.set i v) vs).set k none = ((wipe σ vs).set k none).set i v
          rw [ih fun m => hm (List.mem_cons_of_mem _ m)]
          rw [List.set_comm _ _ hk]
      rw [this, List.set_set]
theorem wipe_wipe (σ : L2.St) : ∀ vs : List Nat, wipe (wipe σ vs) vs = wipe σ vs := fun vs => by
  have key : ∀ us : List Nat, (∀ i ∈ us, i ∈ vs) → wipe (wipe σ us) vs = wipe σ vs := fun us => by
    induction us with
    | nil => intro _; rfl
    | cons i us ih =>
      intro h
      show wipe ((wipe σ us).set i none) vs = _
      rw [wipe_set (h i List.mem_cons_self)]
      exact ih fun j hj => h j (List.mem_cons_of_mem _ hj)
  exact key vs fun _ h => h
section
variable {K : PySem.W.Frag} {Pr G H : Hp} {ρ : List Addr} {σ : L2.St} {env : Env} {h : AH}
theorem SR.kill (S : SR K Pr G H ρ σ env h) (l : List Nat) : SR K Pr G H ρ (wipe σ l) (killS env l) h := by
  refine S.forget (by rw [wipe_length, killS_length, S.len]) fun i s e ns => ?_
  have hi : i ∉ l := fun m => ns (killS_in m e)
  rw [killS_out hi] at e
  exact ⟨e, wipe_out hi⟩
theorem SR.kill' (S : SR K Pr G H ρ σ env h) (l : List Nat) : SR K Pr G H ρ σ (killS env l) h := by
  refine S.forget (by rw [killS_length, S.len]) fun i s e ns => ?_
  have hi : i ∉ l := fun m => ns (killS_in m e)
  rw [killS_out hi] at e
  exact ⟨e, rfl⟩
end
def HLen (K : PySem.W.Frag) (H : Hp) : Prop := (∀ a xs, SqL K H a xs → xs.length ≤ sizeLine) ∧ ∀ a xs, SqT K H a xs → xs.length ≤ sizeLine
theorem HLen_of {X : Cx} {pins : List (Addr × Obj)} {σ : L2.St} {H : Hp} {s : Shared} (I : Inv X pins σ H s) : HLen X.K H :=
  ⟨fun _ _ q => let ⟨_, _, _, z⟩ := I.list q; z, fun _ _ q => let ⟨_, _, _, z⟩ := I.tuple q; z⟩
theorem wI_len {X : Cx} {tg e : Expr} {σ : L2.St} {H : Hp} {R : It → Hp → Prop} (q : wI X tg e σ H fun J H1 => HLen X.K H1 → R J H1) : wI X tg e σ H R := fun pins s I =>
  thn (q pins s I) fun v s1 h1 => thn h1 fun itv s2 ⟨it, fp, tn, J, H', e1, I2, T, t0, f, r⟩ => ⟨it, fp, tn, J, H', e1, I2, T, t0, f, r (HLen_of I2)⟩
structure ItOk (nt : Bool) (K : PySem.W.Frag) (G : Hp) (ρ : List Addr) (J : It) (xs : List D) : Prop where
  len : xs.length ≤ sizeLine
  stop : ∀ i H, Same G H → xs.length ≤ i → J.stop i H
  go : ∀ (i : Nat) (d : D) (H : Hp), Same G H → xs[i]? = some d → J.go i H
  yld : ∀ (i : Nat) (d : D) (H H' : Hp) (x : V), Same G H → xs[i]? = some d → J.yld i H x H' →
    (H' = H ∧ RepV K G ρ x d) ∨ nt = true ∧ ∃ (t : Addr) (vs : List V) (ds : List D), H t = none ∧ H' = upd H t (.tup vs) ∧ x = .ref t ∧ d = .tup ds ∧ RepL K G ρ vs ds
theorem ItOk.mono {nt : Bool} {K : PySem.W.Frag} {G G' : Hp} {ρ ρ' : List Addr} {J : It} {xs : List D} (h : ItOk nt K G ρ J xs) (sg : Same G G') (sr : Ext ρ ρ') : ItOk nt K G' ρ' J xs :=
  ⟨h.len, fun i H s => h.stop i H (sg.trans s), fun i d H s => h.go i d H (sg.trans s), fun i d H H' x s e y => by
    rcases h.yld i d H H' x (sg.trans s) e y with ⟨e1, r⟩ | ⟨hn, t, vs, ds, e1, e2, e3, e4, r⟩
    · exact .inl ⟨e1, r.mono sg sr⟩
    · exact .inr ⟨hn, t, vs, ds, e1, e2, e3, e4, r.mono sg sr⟩⟩
theorem itL_ok {nt : Bool} {K : PySem.W.Frag} {G : Hp} {ρ : List Addr} {a : Addr} {vs : List V} {ds : List D} (hs : SqL K G a vs) (r : RepL K G ρ vs ds) (hl : ds.length ≤ sizeLine) : ItOk nt K G ρ (Itl K a) ds := by
  refine ⟨hl, fun i H s hi => ⟨vs, same_sqL s hs, by rw [r.length]; exact hi⟩, fun i d H s e => ?_, fun i d H H' x s e y => ?_⟩
  · obtain ⟨v, e1, _⟩ := r.get e
    exact ⟨vs, v, same_sqL s hs, e1⟩
  · obtain ⟨v, e1, r1⟩ := r.get e
    obtain ⟨e2, y⟩ := y
    have := y vs (same_sqL s hs)
    rw [e1] at this; cases this
    exact .inl ⟨e2, r1⟩
theorem itT_ok {nt : Bool} {K : PySem.W.Frag} {G : Hp} {ρ : List Addr} {a : Addr} {vs : List V} {ds : List D} (hs : SqT K G a vs) (r : RepL K G ρ vs ds) (hl : ds.length ≤ sizeLine) : ItOk nt K G ρ (Itt K a) ds := by
  refine ⟨hl, fun i H s hi => ⟨vs, same_sqT s hs, by rw [r.length]; exact hi⟩, fun i d H s e => ?_, fun i d H H' x s e y => ?_⟩
  · obtain ⟨v, e1, _⟩ := r.get e
    exact ⟨vs, v, same_sqT s hs, e1⟩
  · obtain ⟨v, e1, r1⟩ := r.get e
    obtain ⟨e2, y⟩ := y
    have := y vs (same_sqT s hs)
    rw [e1] at this; cases this
    exact .inl ⟨e2, r1⟩
theorem itR_ok {nt : Bool} {K : PySem.W.Frag} {G : Hp} {ρ : List Addr} {lo : Int} {n : Nat} (hl : n ≤ sizeLine) : ItOk nt K G ρ (Itr lo n) ((List.range n).map fun (k : Nat) => D.int (lo + (k : Int))) := by
  have key : ∀ (i : Nat) (d : D), ((List.range n).map fun (k : Nat) => D.int (lo + (k : Int)))[i]? = some d → i < n ∧ d = .int (lo + (i : Int)) := fun i d e => by
    rw [List.getElem?_map] at e
    by_cases hi : i < n
    · rw [List.getElem?_range hi] at e
      cases e
      exact ⟨hi, rfl⟩
    · rw [List.getElem?_eq_none (by simpa using hi)] at e; cases e
  refine ⟨by simpa using hl, fun i H s hi => (show n ≤ i by simpa using hi), fun i d H s e => (key i d e).1, fun i d H H' x s e y => ?_⟩
  obtain ⟨e2, y⟩ := y
  obtain ⟨_, rfl⟩ := key i d e
  subst y
  exact .inl ⟨e2, .int _⟩
theorem itS_ok {nt : Bool} {K : PySem.W.Frag} {G : Hp} {ρ : List Addr} {z : Str} (hl : z.cps.size ≤ sizeLine) : ItOk nt K G ρ (Its z) (z.cps.toList.map fun c => D.str ⟨#[c]⟩) := by
  refine ⟨by simpa using hl, fun i H s hi => (show z.cps.size ≤ i by simpa using hi), fun i d H s e => (show i < z.cps.size from ?_), fun i d H H' x s e y => ?_⟩
  · have hi := (List.getElem?_eq_some_iff.mp e).1
    rw [List.length_map] at hi
    simpa using hi
  · obtain ⟨e2, c, e3, rfl⟩ := y
    rw [List.getElem?_map, Array.getElem?_toList, e3] at e
    cases e
    exact .inl ⟨e2, .str _⟩

theorem starEach_cons {e : Expr} {es : List Expr} {env : PySem.Env} (h : notStar e = true) : starEach (e :: es) env = (false, eval e env) :: starEach es env := by
  cases e <;> first | rfl | cases h
theorem plain_any {pos : Pos} {env : PySem.Env} : ∀ {es : List Expr}, allPlain es = true → (backTo pos (starEach es env)).any (·.1) = false
  | [], _ => rfl
  | e :: es, h => by
    simp only [allPlain, List.all_cons, Bool.and_eq_true] at h
    rw [starEach_cons h.1]
    exact plain_any (es := es) h.2
theorem plain_all {pos : Pos} {env : PySem.Env} : ∀ {es : List Expr}, allPlain es = true → (backTo pos (starEach es env)).all (fun x => !x.1) = true
  | [], _ => rfl
  | e :: es, h => by
    simp only [allPlain, List.all_cons, Bool.and_eq_true] at h
    rw [starEach_cons h.1]
    exact plain_all (es := es) h.2
theorem notSet_marks {op : CmpOp} {e : Expr} (h : notSet e = true) : behindInMarks op e = false := by
  cases e <;> first | rfl | cases h
theorem notSet_marks2 {o1 o2 : CmpOp} {b c : Expr} (h : notSet c = true) : lastMarks [o1, o2] [b, c] = false := by
  show behindInMarks o2 c = false
  exact notSet_marks h
theorem notSet_fold {e : Expr} {env : PySem.Env} (h : notSet e = true) : ∀ x, foldedSetIterable e env x = pure x := by
  intro x
  cases e <;> first | rfl | cases h
theorem notSlice_plain {b : Expr} (h : notSlice b = true) : PlainIx b := by
  intro o i
  cases b <;> first | rfl | cases h
theorem notSlice_nosl {b : Expr} (h : notSlice b = true) : NoSl b := by
  intro o i
  cases b <;> first | rfl | cases h
theorem plainT_true {e : Expr} {env : PySem.Env} (h : plainT e = true) : ∀ whole, PySem.isTrue e env whole = (do let v ← whole; standAt e.pos; holding [v] (PySem.truthy v)) := by
  intro whole
  cases e with
  | UnaryOp op _ _ => cases op <;> first | rfl | cases h
  | _ => first | rfl | cases h

section
variable (P : Program) (w : World) (KK : PySem.W.Frag) (mg : Str → Option Value) (base : Heap) (GG : Glob) (T : Tab) (NB : List String)
structure OkX (k : Nat) (sc : Scope) (N : List Str) (X : Cx) : Prop where
  hN : X.N = N
  nd : N.Nodup
  hsc : X.env.scope = sc
  x : XOk X
  room : Room k X.A
  hP : X.prog = P
  hw : X.w = w
  hK : X.K = KK
  hmg : X.mg = mg
  hb : X.base = base
  xe : X.xe = fun _ _ => False
structure ModOk : Prop where
  gl : ∀ x d, GG x = some d → ∃ u v, mg x = some u ∧ RelV v u ∧ RepV KK (fun _ => none) [] v d
  nb : ∀ f ∈ NB, mg (Str.ofString f) = none
  nm : ∀ f a, PySem.W.nsIn KK mainGlobals f = some (some (.ref a)) → mg f = some (.ref a)
structure CallOk (k : Nat) (f : Str) (fa : Addr) (fdat : FuncData) (ps : List Str) : Prop where
  m : mg f = some (.ref fa)
  kp : PySem.W.keepIn KK (.ref fa) = true
  bd : Binds KK fdat ps []
  ar : ∀ ds h r, callN GG T k f ds h = .ok r → ds.length = ps.length
  run : ∀ (A : Around) (outer : List PySem.Env) (s : Shared) (H : Hp) (args : Args) (us : List Value) (vs : List V), Room k A → A.guards = some [] → Env0 P w KK mg base A outer s H → BindsTo s fdat args (ps.zip us) → Vals vs us →
    ∀ (G : Hp) (ρ : List Addr) (h : AH) (ds : List D) (d : D) (h' : AH), SR KK (guardH H G ρ) G H ρ [] [] h → RepL KK G ρ vs ds → callN GG T k f ds h = .ok (d, h') →
      ∀ Q : VK, (∀ G' ρ' H' v, Same G G' → Ext ρ ρ' → SR KK (guardH H G ρ) G' H' ρ' [] [] h' → RepX KK (guardH H G ρ) G' H' ρ' [] [] (frNm f) v d → Q v H') → codeAny (model P w) A (.call (.ref fa) args) (CR CX0 outer P w H s Q E0) s
end
section
variable {P : Program} {w : World} {KK : PySem.W.Frag} {mg : Str → Option Value} {base : Heap} {GG : Glob} {T : Tab} {NB : List String} {k : Nat} {sc : Scope} {N : List Str} {X : Cx}
variable {Pr G H : Hp} {ρ : List Addr} {σ : L2.St} {env : Env} {h : AH} {fr : Bool} {d : D} {Q : VK}
theorem OkX.gl (O : OkX P w KK mg base k sc N X) {x} (hg : glB sc x = true) : Gl X x := by
  unfold glB at hg
  show X.env.scope.names.lookup x = some .globalImplicit
  rw [O.hsc]
  split at hg <;> first | assumption | cases hg
theorem OkX.vis (O : OkX P w KK mg base k sc N X) {x} (hg : visB sc x = true) : Vis X.env.scope x := by
  unfold visB at hg
  unfold Vis
  rw [O.hsc]
  split at hg <;> first | exact .inl (by assumption) | exact .inr (.inl (by assumption)) | exact .inr (.inr (by assumption)) | cases hg
theorem OkX.blk (O : OkX P w KK mg base k sc N X) (s : Shared) (H : Hp) (scope : Scope) (C : Addr) (cl : List (Str × Addr)) (fp : List Addr) : OkX P w KK mg base k (relS scope sc) N (X.blk s H scope (compEnvC scope cl C X.env) fp) := by
  refine ⟨O.hN, O.nd, ?_, ⟨O.x.calm, O.x.hu, O.x.grd⟩, O.room, O.hP, O.hw, O.hK, O.hmg, O.hb, rfl⟩
  show relS scope X.env.scope = _
  rw [O.hsc]
theorem SR.backX (S : SR KK Pr G H ρ σ env h) {G' H' : Hp} {ρ' : List Addr} {h' : AH} (sg : Same G G') (sr : Ext ρ ρ') (S' : SR KK (guardH H G ρ) G' H' ρ' [] [] h') {v : V} (r : RepX KK (guardH H G ρ) G' H' ρ' [] [] fr v d) : RepX KK Pr G' H' ρ' σ env fr v d := by
  cases fr with
  | false => cases d <;> exact r
  | true =>
    cases d with
    | lst ds =>
      obtain ⟨a, vs, rfl, e, rl, L⟩ := r
      refine ⟨a, vs, rfl, e, rl, L.g, ?_, L.r, fun i ds ei es => ?_⟩
      · cases q : Pr a with
        | none => rfl
        | some o =>
          have : guardH H G ρ a = some o := guardH_of (S.prs _ _ q) (S.gp _ _ q) fun m => by
            have p := S.prn m
            rw [q] at p; cases p
          rw [L.p] at this
          cases this
      · obtain ⟨b, us, e1, e2, _, g, p, nr⟩ := S.own i ds ei
        rw [es] at e1
        cases e1
        have := guardH_of e2 g nr
        rw [L.p] at this
        cases this
    | _ => exact r
theorem call_w (O : OkX P w KK mg base k sc N X) {f fa fdat ps} (C : CallOk P w KK mg base GG T k f fa fdat ps) (S : SR KK Pr G H ρ σ env h) {vs ds d h'} (r : RepL KK G ρ vs ds) (e : callN GG T k f ds h = .ok (d, h')) (Ps : Pst KK Pr G ρ σ env h' (frNm f) d Q) :
    cW X (.ref fa) vs H Q := by
  intro pins s σc us I rv
  have hl : us.length = ps.length := by rw [← rv.length, r.length]; exact C.ar _ _ _ e
  have I' := I.env0
  rw [O.hP, O.hw, O.hK, O.hmg, O.hb] at I'
  have kin := I.kIn
  rw [O.hK] at kin
  have hb := C.bd s us kin (by simpa using hl)
  rw [List.append_nil] at hb
  have run := C.run X.A X.stack s H ⟨us, []⟩ us vs O.room O.x.grd I' hb rv G ρ h ds d h' S.callIn r e Q fun G' ρ' H' v sg sr S' rv' =>
    Ps G' ρ' H' v sg sr (S.callOut sg sr S') (S.backX sg sr S' rv')
  rw [← O.hP, ← O.hw] at run
  refine wpAny_call (codeAny_mono run fun res s' hq => ?_)
  cases res with
  | error e => exact hq.elim
  | ok fl =>
    cases fl with
    | ret u => exact I.after hq
    | next => exact False.elim hq
    | brk => exact False.elim hq
    | cont => exact False.elim hq
theorem locB_relS {scope sc : Scope} {x : Str} (h : locB scope x = true) : Loc (relS scope sc) x ∧ ((fun x => scope.names.lookup x == some NameKind.cell) x = true ∨ (relS scope sc).names.lookup x = some .local) := by
  unfold locB at h
  split at h
  · rename_i q
    have := lookup_relS_keep (sc := sc) (by decide) q
    exact ⟨.inl this, .inr this⟩
  · rename_i q
    have := lookup_relS_keep (sc := sc) (by decide) q
    exact ⟨.inr this, .inl (by simp [q])⟩
  · cases h
def setMany (σ : L2.St) : List (Nat × V) → L2.St
  | [] => σ
  | p :: r => setMany (σ.set p.1 (some p.2)) r
theorem wG_name (O : OkX P w KK mg base k sc N X) {i x pos v} (hi : N[i]? = some x) (hx : Loc X.env.scope x) (hf : X.fn x = true ∨ X.env.scope.names.lookup x = some .local) {R : L2.St → Hp → Prop} (q : R (σ.set i (some v)) H) : wG X (.Name x pos) v σ H R :=
  PG_w (pg_name (by rw [O.hN]; exact O.nd) (by rw [O.hN]; exact hi) hx hf) q
theorem wGs_names (O : OkX P w KK mg base k sc N X) {scope : Scope} (hx : ∀ x, locB scope x = true → Loc X.env.scope x ∧ (X.fn x = true ∨ X.env.scope.names.lookup x = some .local)) : ∀ {is : List Nat} {ps : List Expr}, tgB.go scope N is ps = true →
    PGs X ps (fun vs σ H R => vs.length = is.length ∧ R (setMany σ (is.zip vs)) H) ∧ (assignEach ps X.env).length = is.length ∧ (assignEach ps X.env).findIdx? (·.1) = none
  | [], [], _ => by
    refine ⟨⟨fun pins s σ H vs us R I r h => ?_⟩, rfl, rfl⟩
    obtain ⟨hl, q⟩ := h
    have : vs = [] := List.length_eq_zero_iff.mp hl
    subst this
    exact pgs_nil.run pins s σ H [] us R I r ⟨rfl, q⟩
  | [], _ :: _, h => by simp [tgB.go] at h
  | _ :: _, [], h => by simp [tgB.go] at h
  | i :: is, p :: ps, h => by
    cases p with
    | Name x pos =>
      simp only [tgB.go, Bool.and_eq_true, decide_eq_true_eq] at h
      obtain ⟨⟨h1, h2⟩, h3⟩ := h
      obtain ⟨a, b⟩ := hx x h2
      obtain ⟨g, l, f⟩ := wGs_names O hx h3
      have gn : PG X (.Name x pos) (gName i) := pg_name (by rw [O.hN]; exact O.nd) (by rw [O.hN]; exact h1) a b
      refine ⟨⟨fun pins s σ H vs us R I r hq => ?_⟩, by show _ + 1 = _ + 1; rw [l], ?_⟩
      · obtain ⟨hl, q⟩ := hq
        cases vs with
        | nil => simp at hl
        | cons v vs => exact (pgs_cons gn g rfl).run pins s σ H (v :: vs) us R I r ⟨v, vs, rfl, by simpa using hl, q⟩
      · show List.findIdx? _ ((false, assign (.Name x pos) X.env) :: assignEach ps X.env) = none
        rw [List.findIdx?_cons]
        simp [f]
    | _ => simp [tgB.go] at h
theorem putMany : ∀ {is : List Nat} {vs : List V} {ds : List D} {σ : L2.St} {env : Env}, SR KK Pr G H ρ σ env h → is.length = ds.length → (∀ i ∈ is, i < env.length) → RepL KK G ρ vs ds →
    SR KK Pr G H ρ (setMany σ (is.zip vs)) ((is.zip ds).foldl (fun s p => s.set p.1 (.val p.2)) env) h
  | [], _, _, σ, env, S, hl, _, r => by
    have : (_ : List D) = [] := List.length_eq_zero_iff.mp hl.symm
    subst this
    exact S
  | i :: is, _, [], _, _, _, hl, _, _ => by simp at hl
  | i :: is, _, d :: ds, σ, env, S, hl, hi, r => by
    cases r with
    | cons q r =>
      have S1 := S.put (hi i List.mem_cons_self) q
      have z := putMany S1 (by simpa using hl) (fun j hj => by rw [List.length_set]; exact hi j (List.mem_cons_of_mem _ hj)) r
      exact z
theorem go_lt {scope : Scope} : ∀ {is : List Nat} {ps : List Expr}, tgB.go scope N is ps = true → ∀ i ∈ is, i < N.length
  | [], _, _, i, hi => by simp at hi
  | _ :: _, [], h, _, _ => by simp [tgB.go] at h
  | j :: is, p :: ps, h, i, hi => by
    cases p with
    | Name x pos =>
      simp only [tgB.go, Bool.and_eq_true, decide_eq_true_eq] at h
      rcases List.mem_cons.mp hi with rfl | hi
      · exact (List.getElem?_eq_some_iff.mp h.1.1).1
      · exact go_lt h.2 i hi
    | _ => simp [tgB.go] at h
theorem setMany_wipe {vs : List Nat} : ∀ {ps : List (Nat × V)} {σ : L2.St}, (∀ p ∈ ps, p.1 ∈ vs) → wipe (setMany σ ps) vs = wipe σ vs
  | [], _, _ => rfl
  | p :: ps, σ, h => by
    show wipe (setMany (σ.set p.1 (some p.2)) ps) vs = _
    rw [setMany_wipe fun q hq => h q (List.mem_cons_of_mem _ hq), wipe_set (h p List.mem_cons_self)]
section
variable {prog : Program} {w : World} {A : Around} {E : Value → Shared → Prop} {s : Shared}
theorem listBut {h h' : Heap} {l it : Addr} {items : Array Value} (hl : h.IsList l items) (x : Heap.ExtBut it h h') (ne : l ≠ it) : h'.IsList l items := let ⟨o, e, r⟩ := hl; ⟨o, x l o ne e, r⟩
theorem drawL {it l : Addr} {its : Array Value} (ne : l ≠ it) : ∀ (m j : Nat) (g : Shared) (R : List Value → Shared → Prop), g.heap.IsListIter it l j → g.heap.IsList l its → j + m ≤ its.size →
    (∀ h2, h2.IsListIter it l (j + m) → Heap.SameBut it g.heap h2 → R ((its.toList.drop j).take m) { g with heap := h2 }) → wpAny (model prog w) A (draw (.ref it) m) R E g
  | 0, j, g, R, hit, _, _, fin => by
    show wpAny (model prog w) A (pure []) R E g
    refine wpAny_pure ?_
    have z := fin g.heap hit (Heap.SameBut.refl ..)
    rwa [List.take_zero] at z
  | m + 1, j, g, R, hit, hl, le, fin => by
    have lt : j < its.size := Nat.lt_of_lt_of_le (Nat.lt_add_of_pos_right (Nat.succ_pos m)) le
    show wpAny (model prog w) A (pyNext (.ref it) >>= _) R E g
    refine wpAny_bind (wpAny_pyNext_list_item hit hl (Array.getElem?_eq_getElem lt) fun h1 hit1 b1 => ?_)
    refine wpAny_bind (wpAny_holding (drawL ne m (j + 1) _ _ hit1 (listBut hl b1.extBut ne) (by omega) fun h2 hit2 b2 => wpAny_pure ?_))
    have z := fin h2 (by rw [show j + (m + 1) = j + 1 + m by omega]; exact hit2) (b1.trans b2)
    have cut : its.toList.drop j = its[j] :: its.toList.drop (j + 1) := by
      rw [List.drop_eq_getElem_cons (by simpa using lt)]; simp
    rw [cut, List.take_succ_cons] at z
    exact z
theorem unpackL {l : Addr} {its : Array Value} {R : List Value → Shared → Prop} (hh : A.handled = none) (hl : s.heap.IsList l its)
    (fin : ∀ h2, Heap.ExtBut s.heap.objs.size s.heap h2 → R its.toList { s with heap := h2 }) : wpAny (model prog w) A (unpackItems (.ref l) its.size none) R E s := by
  have ne : l ≠ s.heap.objs.size := by
    obtain ⟨o, e, _⟩ := hl
    exact Nat.ne_of_lt (Heap.lt_size e)
  unfold unpackItems notIterableAtAll
  refine wpAny_bind (wpAny_bind (wpAny_specialOf hl.typeIs slot_list_iter.lookup (wpAny_pure ?_)))
  simp only [Bool.false_eq_true, if_false]
  refine wpAny_bind (wpAny_holding (wpAny_pyIter_list hl ?_))
  refine wpAny_bind (wpAny_holding (drawL ne its.size 0 _ _ ⟨_, Heap.get?_push_size _ rfl, rfl, rfl⟩ (hl.push _) (by omega) fun h1 hit1 b1 => ?_))
  have whole : List.take its.size (List.drop 0 its.toList) = its.toList := by rw [List.drop_zero]; exact List.take_of_length_le (by simp)
  rw [whole, if_neg (by simp)]
  have hl1 : h1.IsList l its := listBut (hl.push _) b1.extBut ne
  refine wpAny_bind (wpAny_holding (wpAny_pyNext_list_end hh hit1 hl1 (by simp) fun h2 b2 => ?_))
  simp only [Option.isSome_none, Bool.false_eq_true, if_false]
  exact wpAny_pure (fin h2 fun b o hb e => b2 b o hb (b1.extBut b o hb (Heap.get?_push_of_some _ e)))
end
section
variable {X : Cx}
def gLst (K : PySem.W.Frag) (n : Nat) (t : TGs) : TG := fun v σ H Q => ∃ a xs, v = .ref a ∧ SqL K H a xs ∧ xs.length = n ∧ t xs σ H Q
theorem pg_lst {es : List Expr} {k : Nat} {t : TGs} {n : Nat} (hc : X.calm = true) (hs : PGs X es t) (hn : (assignEach es X.env).length = n) (hst : (assignEach es X.env).findIdx? (·.1) = none) : PG X (.Tuple es k pos) (gLst X.K n t) := by
  refine ⟨fun pins s σ H v u Q I r hw => ?_⟩
  obtain ⟨a, xs, rfl, hq, hl, hw⟩ := hw
  cases r
  obtain ⟨its, rv, pl, hz⟩ := I.list hq
  have hsz : (assignEach es X.env).length = its.toArray.size := by rw [hn, ← hl, rv.length]; simp
  rw [assign_Tuple]
  refine wpAny_bind (wpAny_standAt ?_)
  unfold unpack
  rw [hst, hsz]
  refine wpAny_bind (wpAny_holding (unpackL (I.ok.hd hc) pl.isList fun h2 x => ?_))
  have I1 : Inv X pins σ H { s with heap := h2 } := I.kept (t' := s.toks) fun b o e => x b o (Nat.ne_of_lt (Heap.lt_size e)) e
  exact hs.run pins _ σ H xs _ Q I1 (by simpa using rv) hw
end
def isTupTg : Tg → Bool
  | .tup _ => true
  | _ => false
theorem tg_tup {scope : Scope} {N : List Str} {tg : Tg} {p : Expr} (hm : tgB scope N tg p = true) (h : isTup p = true) : isTupTg tg = true := by
  cases tg with
  | tup is => rfl
  | name i =>
    cases p with
    | Tuple _ _ _ => simp [tgB] at hm
    | _ => cases h
def RepI (b : Bool) (K : PySem.W.Frag) (G : Hp) (ρ : List Addr) (v : V) (d : D) : Prop := RepV K G ρ v d ∨ (b = true ∧ ∃ a vs ds, v = .ref a ∧ d = .tup ds ∧ SqT K G a vs ∧ RepL K G ρ vs ds)
theorem tg_ok (O : OkX P w KK mg base k sc N X) (hlen : env.length = N.length) {scope : Scope} (hx : ∀ x, locB scope x = true → Loc X.env.scope x ∧ (X.fn x = true ∨ X.env.scope.names.lookup x = some .local)) {tg : Tg} {p : Expr} (hm : tgB scope N tg p = true) {d : D} {env2 : Env}
    (e : putTg tg d env = .ok env2) (S : SR KK Pr G H ρ σ env h) {v : V} {nb : Bool} (hnb : nb = true → isTupTg tg = true) (r : RepI nb KK G ρ v d) {R : L2.St → Hp → Prop}
    (q : ∀ σ2, SR KK Pr G H ρ σ2 env2 h → env2.length = N.length → (∀ own : List Nat, tgIn tg own = true → wipe σ2 own = wipe σ own) → R σ2 H) : wG X p v σ H R := by
  cases tg with
  | name i =>
    cases p <;> simp only [tgB] at hm <;> try (cases hm; done)
    simp only [Bool.and_eq_true, decide_eq_true_eq] at hm
    cases e
    obtain ⟨a, b⟩ := hx _ hm.2
    have hi : i < env.length := by rw [hlen]; exact (List.getElem?_eq_some_iff.mp hm.1).1
    have r : RepV KK G ρ v d := by
      rcases r with r | ⟨hb, _⟩
      · exact r
      · exact absurd (hnb hb) (by simp [isTupTg])
    exact wG_name O hm.1 a b (q _ (S.put hi r) (by simpa using hlen) fun own ho => wipe_set (by simpa [tgIn] using ho))
  | tup is =>
    cases p <;> simp only [tgB] at hm <;> try (cases hm; done)
    rcases r with r | ⟨_, a, vs, ds, rfl, rfl, ha, ra⟩
    case' inr =>
      simp only [putTg] at e
      split at e
      case isFalse => cases e
      rename_i hl
      cases e
      obtain ⟨g, l, f⟩ := wGs_names O hx hm
      have hvl : vs.length = is.length := by rw [ra.length, hl]
      refine PG_w (pg_tup O.x.calm g l f) ⟨a, vs, rfl, by rw [O.hK]; exact same_sqT S.sub ha, hvl, hvl, ?_⟩
      refine q _ (putMany S hl (fun i hi => by rw [hlen]; exact go_lt hm i hi) ra) ?_ fun own ho => setMany_wipe fun z hz => ?_
      · have : ∀ (l : List (Nat × D)) (e : Env), (l.foldl (fun s p => s.set p.1 (.val p.2)) e).length = e.length := fun l => by
          induction l with
          | nil => intro _; rfl
          | cons _ _ ih => intro e; rw [List.foldl_cons, ih]; simp
        rw [this]; exact hlen
      · have := (List.of_mem_zip (a := z.1) (b := z.2) hz).1
        simp only [tgIn, List.all_eq_true, decide_eq_true_eq] at ho
        exact ho _ this
    cases r <;> simp only [putTg] at e <;> try (cases e; done)
    case' lst a vs ds ha ra =>
      split at e
      case isFalse => cases e
      rename_i hl
      cases e
      obtain ⟨g, l, f⟩ := wGs_names O hx hm
      have hvl : vs.length = is.length := by rw [ra.length, hl]
      refine PG_w (pg_lst O.x.calm g l f) ⟨a, vs, rfl, .inl (.inl (S.sub _ _ ha)), hvl, hvl, ?_⟩
      refine q _ (putMany S hl (fun i hi => by rw [hlen]; exact go_lt hm i hi) ra) ?_ fun own ho => setMany_wipe fun z hz => ?_
      · have : ∀ (l : List (Nat × D)) (e : Env), (l.foldl (fun s p => s.set p.1 (.val p.2)) e).length = e.length := fun l => by
          induction l with
          | nil => intro _; rfl
          | cons _ _ ih => intro e; rw [List.foldl_cons, ih]; simp
        rw [this]; exact hlen
      · have := (List.of_mem_zip (a := z.1) (b := z.2) hz).1
        simp only [tgIn, List.all_eq_true, decide_eq_true_eq] at ho
        exact ho _ this
    rename_i a vs ds ha ra
    split at e
    · rename_i hl
      cases e
      obtain ⟨g, l, f⟩ := wGs_names O hx hm
      have hvl : vs.length = is.length := by rw [ra.length, hl]
      refine PG_w (pg_tup O.x.calm g l f) ⟨a, vs, rfl, by rw [O.hK]; exact S.sqT ha, hvl, hvl, ?_⟩
      refine q _ (putMany S hl (fun i hi => by rw [hlen]; exact go_lt hm i hi) ra) ?_ fun own ho => setMany_wipe fun z hz => ?_
      · have : ∀ (l : List (Nat × D)) (e : Env), (l.foldl (fun s p => s.set p.1 (.val p.2)) e).length = e.length := fun l => by
          induction l with
          | nil => intro _; rfl
          | cons _ _ ih => intro e; rw [List.foldl_cons, ih]; simp
        rw [this]; exact hlen
      · have := (List.of_mem_zip (a := z.1) (b := z.2) hz).1
        simp only [tgIn, List.all_eq_true, decide_eq_true_eq] at ho
        exact ho _ this
    · cases e
end
end EV
set_option maxRecDepth 100000
namespace EV
open PySem PySem.Spec PyProof.Rows L2
theorem boot_names : ∀ f ∈ bltNames, bootBuiltins (Str.ofString f) = some (bltV f) := by decide +kernel
theorem boot_tys : ∀ f ∈ tyNames, bootBuiltins (Str.ofString f) = some (.type f) := by decide +kernel
theorem boot_isi : bootBuiltins "isinstance" = some (.builtin "isinstance") := by decide +kernel
theorem blt_plain : ∀ f ∈ bltNames, Str.ofString f ≠ "__name__" ∧ (Str.ofString f == ("__debug__" : Str)) = false := by decide +kernel
theorem ty_plain : ∀ f ∈ tyNames, Str.ofString f ≠ "__name__" ∧ (Str.ofString f == ("__debug__" : Str)) = false := by decide +kernel
theorem nameOk_of {x : Str} (h : nameOk x = true) : (x == ("__debug__" : Str)) = false ∧ (x == ("__classdict__" : Str)) = false ∧ x ≠ "__name__" := by
  simp only [nameOk, Bool.and_eq_true, Bool.not_eq_true', decide_eq_true_eq] at h
  exact ⟨h.1.1, h.1.2, h.2⟩
theorem slotB_of {sc N i x} (h : slotB sc N i x = true) : N[i]? = some x ∧ visB sc x = true ∧ nameOk x = true := by
  simp only [slotB, Bool.and_eq_true, decide_eq_true_eq] at h
  exact ⟨h.1.1, h.1.2, h.2⟩
theorem opB_eq {o p} (h : opB o p = true) : p = o.py := by cases o <;> cases p <;> first | rfl | cases h
theorem cmB_eq {o p} (h : cmB o p = true) : p = o.py := by cases o <;> cases p <;> first | rfl | cases h
theorem getO_inv {σ : Env} {i xs} (e : getO σ i = .ok xs) : σ[i]? = some (.own xs) := by
  unfold getO at e
  split at e
  · cases e; assumption
  · cases e
def wO (X : Cx) : Option Expr → TO
  | none => tNoPart
  | some e => tPart (wE X e)
theorem po_w {X : Cx} : ∀ {e : Option Expr}, PO X e (wO X e)
  | none => po_none
  | some _ => po_some pe_w

section
variable {X : Cx} {K : PySem.W.Frag} {Pr G H : Hp} {ρ : List Addr} {σ : L2.St} {env : Env} {h : AH} {fr' : Bool} {d : D} {Q : VK}
theorem Pst.any (P : Pst K Pr G ρ σ env h false d Q) : Pst K Pr G ρ σ env h fr' d Q := Pst.false_of fun G' ρ' H' v sg sr S r => P.ofV (.inl rfl) sg sr S r
theorem wE_blt {x : Str} {p pos : Pos} {q : Expr} {es : List Expr} {f : String} (hg : Gl X x) (hm : X.mg x = none) (hv : bootBuiltins x = some (bltV f)) (hn : x ≠ "__name__") (hdb : (x == ("__debug__" : Str)) = false) (hp : allPlain (q :: es) = true)
    (hq : wA X (q :: es) σ H fun vs H1 => cW X (bltV f) vs H1 Q) : wE X (.Call (.Name x p) (q :: es) [] pos) σ H Q := by
  have h1 : notStar q = true := by simp only [allPlain, List.all_cons, Bool.and_eq_true] at hp; exact hp.1
  have h2 : allPlain es = true := by simp only [allPlain, List.all_cons, Bool.and_eq_true] at hp; exact hp.2
  unfold bltV at hv hq
  split at hv
  · rename_i hc
    rw [if_pos hc] at hq
    exact PE_w (pe_callTy cr_w hg hm hv pa_w hn hdb (starEach_cons h1) (plain_any h2)) hq
  · rename_i hc
    rw [if_neg hc] at hq
    exact PE_w (pe_callB cr_w hg hm hv pa_w hn hdb (starEach_cons h1) (plain_any h2)) hq
theorem wE_own {x : Str} {p pos : Pos} {q : Expr} {es : List Expr} {f : Addr} (hg : Gl X x) (hm : X.mg x = some (.ref f)) (hk : PySem.W.keepIn X.K (.ref f) = true) (hdb : (x == ("__debug__" : Str)) = false) (hp : allPlain (q :: es) = true)
    (hq : wA X (q :: es) σ H fun vs H1 => cW X (.ref f) vs H1 Q) : wE X (.Call (.Name x p) (q :: es) [] pos) σ H Q := by
  have h1 : notStar q = true := by simp only [allPlain, List.all_cons, Bool.and_eq_true] at hp; exact hp.1
  have h2 : allPlain es = true := by simp only [allPlain, List.all_cons, Bool.and_eq_true] at hp; exact hp.2
  intro pins s I
  refine wpAny_Call_Name_kw (ld_glob I hg hm ?_ hdb)
  exact PySem.W.callWith_K (h₀ := X.base) I.ok.mod.kin hk (thn (hq pos pins s I) fun us s1 ⟨vs, H1, I1, r, q⟩ => ⟨I1.kIn, q pins s1 σ us I1 r⟩) (starEach_cons h1) (plain_any h2)
theorem wE_loc {x : Str} {p pos : Pos} {q : Expr} {es : List Expr} {f : Addr} {i : Nat} (hv : PE X (.Name x p) (tVar i)) (hs : σ[i]? = some (some (.ref f))) (hk : PySem.W.keepIn X.K (.ref f) = true) (hp : allPlain (q :: es) = true)
    (hq : wA X (q :: es) σ H fun vs H1 => cW X (.ref f) vs H1 Q) : wE X (.Call (.Name x p) (q :: es) [] pos) σ H Q := by
  have h1 : notStar q = true := by simp only [allPlain, List.all_cons, Bool.and_eq_true] at hp; exact hp.1
  have h2 : allPlain es = true := by simp only [allPlain, List.all_cons, Bool.and_eq_true] at hp; exact hp.2
  intro pins s I
  refine wpAny_Call_Name_kw (thn (hv.run pins s σ H (fun v H1 => v = .ref f ∧ H1 = H) I ⟨.ref f, hs, rfl, rfl⟩) fun u s1 ⟨v, H1, I1, r1, e1, e2⟩ => ?_)
  subst e1
  subst e2
  cases r1
  exact PySem.W.callWith_K (h₀ := X.base) I.ok.mod.kin hk (thn (hq pos pins s1 I1) fun us s2 ⟨vs, H2, I2, r, q⟩ => ⟨I2.kIn, q pins s2 σ us I2 r⟩) (starEach_cons h1) (plain_any h2)
theorem wE_own0 {x : Str} {p pos : Pos} {f : Addr} (hg : Gl X x) (hm : X.mg x = some (.ref f)) (hk : PySem.W.keepIn X.K (.ref f) = true) (hdb : (x == ("__debug__" : Str)) = false)
    (hq : cW X (.ref f) [] H Q) : wE X (.Call (.Name x p) [] [] pos) σ H Q := by
  intro pins s I
  refine wpAny_Call_Name_kw (ld_glob I hg hm ?_ hdb)
  exact PySem.W.callWith_K0 I.kIn hk (hq pins s σ [] I .nil)
end
section
variable {P : Program} {w : World} {KK : PySem.W.Frag} {mg : Str → Option Value} {base : Heap} {GG : Glob} {T : Tab} {NB : List String} {k : Nat} {N : List Str}
variable (M : ModOk KK mg GG NB) (hC : ∀ f fd, T f = some fd → ∃ fa fdat ps, CallOk P w KK mg base GG T k f fa fdat ps)
theorem callN_T {f ds h r} (e : callN GG T k f ds h = .ok r) : ∃ fd, T f = some fd := by
  cases k with
  | zero => cases e
  | succ n =>
    unfold callN at e
    split at e
    · cases e
    · exact ⟨_, by assumption⟩
theorem tys_pa {sc : Scope} {X : Cx} (M : ModOk KK mg GG NB) (O : OkX P w KK mg base k sc N X) : ∀ {tys : List String} {ps : List Expr}, tysB sc tys ps = true → (∀ t ∈ tys, t ∈ NB) → PA X ps (fun σ H Q => Q (tys.map V.ty) H)
  | [], [], _, _ => pa_nil
  | [], _ :: _, h, _ => by simp [tysB] at h
  | _ :: _, [], h, _ => by simp [tysB] at h
  | t :: ts, p :: ps, h, hn => by
    cases p with
    | Name x pos =>
      simp only [tysB, Bool.and_eq_true, decide_eq_true_eq] at h
      obtain ⟨⟨⟨rfl, h2⟩, h3⟩, h4⟩ := h
      have hm : X.mg (Str.ofString t) = none := by rw [O.hmg]; exact M.nb t (hn t List.mem_cons_self)
      have a : PE X (.Name (Str.ofString t) pos) (tC (.ty t)) := pe_bltn (O.gl h3) hm (boot_tys t h2) rfl (ty_plain t h2).1 (ty_plain t h2).2
      have b := tys_pa M O h4 fun u hu => hn u (List.mem_cons_of_mem _ hu)
      exact pa_cons a b rfl
    | _ => simp [tysB] at h
theorem tysB_pos {sc : Scope} {tys : List String} {x : Str} {p p' : Pos} (h : tysB sc tys [.Name x p] = true) : tysB sc tys [.Name x p'] = true := by
  cases tys with
  | nil => exact h
  | cons t ts => cases ts <;> exact h
theorem clsV_tys : ∀ tys : List String, Paired ClsV (tys.map V.ty) (tys.map Value.type)
  | [] => .nil
  | t :: ts => .cons (.ty t) (clsV_tys ts)

section
variable (P w KK mg base GG T k N)
def SndE (e : E) (sc : Scope) (p : Expr) : Prop := ∀ X, OkX P w KK mg base k sc N X → ∀ Pr G H ρ σ env h, SR KK Pr G H ρ σ env h → env.length = N.length →
  ∀ d env' h', ev GG (callN GG T k) e env h = .ok (d, env', h') → ∀ Q, Pst KK Pr G ρ σ env' h' (fr e) d Q → wE X p σ H Q
def SndO (e : Eo) (sc : Scope) (p : Option Expr) : Prop := ∀ X, OkX P w KK mg base k sc N X → ∀ Pr G H ρ σ env h, SR KK Pr G H ρ σ env h → env.length = N.length →
  ∀ o env' h', evo GG (callN GG T k) e env h = .ok (o, env', h') → ∀ Q : Option Int → Hp → Prop, (∀ G' ρ' H', Same G G' → Ext ρ ρ' → SR KK Pr G' H' ρ' σ env' h' → Q o H') → wO X p σ H Q
def SndEs (e : Es) (sc : Scope) (ps : List Expr) : Prop := ∀ X, OkX P w KK mg base k sc N X → ∀ Pr G H ρ σ env h, SR KK Pr G H ρ σ env h → env.length = N.length →
  ∀ ds env' h', evs GG (callN GG T k) e env h = .ok (ds, env', h') → ∀ Q : List V → Hp → Prop, (∀ G' ρ' H' vs, Same G G' → Ext ρ ρ' → SR KK Pr G' H' ρ' σ env' h' → RepL KK G' ρ' vs ds → Q vs H') → wA X ps σ H Q
def SndAnd (e : Es) (sc : Scope) (ps : List Expr) : Prop := ∀ X pos, OkX P w KK mg base k sc N X → ∀ Pr G H ρ σ env h, SR KK Pr G H ρ σ env h → env.length = N.length →
  ∀ d env' h', evand GG (callN GG T k) e env h = .ok (d, env', h') → ∀ Q, Pst KK Pr G ρ σ env' h' false d Q → wE X (.BoolOp .And ps pos) σ H Q
def SndOr (e : Es) (sc : Scope) (ps : List Expr) : Prop := ∀ X pos, OkX P w KK mg base k sc N X → ∀ Pr G H ρ σ env h, SR KK Pr G H ρ σ env h → env.length = N.length →
  ∀ d env' h', evor GG (callN GG T k) e env h = .ok (d, env', h') → ∀ Q, Pst KK Pr G ρ σ env' h' false d Q → wE X (.BoolOp .Or ps pos) σ H Q
def SndT (e : EV.T) (sc : Scope) (p : Expr) : Prop := ∀ X, OkX P w KK mg base k sc N X → ∀ Pr G H ρ σ env h, SR KK Pr G H ρ σ env h → env.length = N.length →
  ∀ b env' h', evt GG (callN GG T k) e env h = .ok (b, env', h') → ∀ Q : Bool → Hp → Prop, (∀ G' ρ' H', Same G G' → Ext ρ ρ' → SR KK Pr G' H' ρ' σ env' h' → Q b H') → wT X p σ H Q
def SndTa (e : Ts) (sc : Scope) (ps : List Expr) : Prop := ∀ X pos, OkX P w KK mg base k sc N X → ∀ Pr G H ρ σ env h, SR KK Pr G H ρ σ env h → env.length = N.length → ps ≠ [] →
  ∀ b env' h', evts GG (callN GG T k) e env h = .ok (b, env', h') → ∀ Q : Bool → Hp → Prop, (∀ G' ρ' H', Same G G' → Ext ρ ρ' → SR KK Pr G' H' ρ' σ env' h' → Q b H') → wW X (.BoolOp .And ps pos) σ H Q
def SndTo (e : Ts) (sc : Scope) (ps : List Expr) : Prop := ∀ X pos, OkX P w KK mg base k sc N X → ∀ Pr G H ρ σ env h, SR KK Pr G H ρ σ env h → env.length = N.length → ps ≠ [] →
  ∀ b env' h', evto GG (callN GG T k) e env h = .ok (b, env', h') → ∀ Q : Bool → Hp → Prop, (∀ G' ρ' H', Same G G' → Ext ρ ρ' → SR KK Pr G' H' ρ' σ env' h' → Q b H') → wW X (.BoolOp .Or ps pos) σ H Q
def SndTf (e : Ts) (sc : Scope) (ps : List Expr) : Prop := ∀ X, OkX P w KK mg base k sc N X → ∀ Pr G H ρ σ env h, SR KK Pr G H ρ σ env h → env.length = N.length →
  ∀ b env' h', evts GG (callN GG T k) e env h = .ok (b, env', h') → ∀ Q : Bool → Hp → Prop, (∀ G' ρ' H', Same G G' → Ext ρ ρ' → SR KK Pr G' H' ρ' σ env' h' → Q b H') → wTs X ps σ H Q
def SndI (e : I) (sc : Scope) (p : Expr) : Prop := ∀ X tg, (needTup e = true → isTup tg = true) → OkX P w KK mg base k sc N X → ∀ Pr G H ρ σ env h, SR KK Pr G H ρ σ env h → env.length = N.length →
  ∀ xs env' h', evi GG (callN GG T k) e env h = .ok (xs, env', h') → ∀ R : It → Hp → Prop, (∀ G' ρ' H' J, Same G G' → Ext ρ ρ' → SR KK Pr G' H' ρ' σ env' h' → ItOk (needTup e) KK G' ρ' J xs → R J H') → wI X tg p σ H R
end
theorem SndE.v {e sc p} (hS : SndE P w KK mg base GG T k N e sc p) {X} (O : OkX P w KK mg base k sc N X) {Pr G H ρ σ env h} (S : SR KK Pr G H ρ σ env h) (hl : env.length = N.length) {d env' h'}
    (he : ev GG (callN GG T k) e env h = .ok (d, env', h')) {Q : VK} (q : ∀ G' ρ' H' v, Same G G' → Ext ρ ρ' → SR KK Pr G' H' ρ' σ env' h' → env'.length = N.length → RepV KK G' ρ' v d → Q v H') : wE X p σ H Q :=
  hS X O Pr G H ρ σ env h S hl d env' h' he Q (Pst.false_of fun G' ρ' H' v sg sr S' r => q G' ρ' H' v sg sr S' (by rw [← S'.len, S.len]; exact hl) r)
end
end EV
set_option maxRecDepth 100000
set_option maxHeartbeats 1000000
namespace EV
open PySem PySem.Spec PyProof.Rows L2
section
variable {prog : Program} {w : World} {A : Around} {E : Value → Shared → Prop} {s : Shared}
theorem adjust_rev (n : Nat) : Builtin.Slice.sliceAdjust none none (-1) (n : Int) = ((n : Int) - 1, -1) := by
  unfold Builtin.Slice.sliceAdjust
  simp
theorem places_rev (n : Nat) : Builtin.Slice.slicePlaces ((n : Int) - 1) (-1) (-1) = n := by
  unfold Builtin.Slice.slicePlaces
  simp
  omega
theorem fm_map {α β : Type} {f : α → Option β} {g : α → β} : ∀ (l : List α), (∀ x ∈ l, f x = some (g x)) → l.filterMap f = l.map g
  | [], _ => rfl
  | x :: l, h => by rw [List.filterMap_cons, h x List.mem_cons_self, fm_map l fun y hy => h y (List.mem_cons_of_mem _ hy)]; rfl
theorem pick_rev (xs : Array Value) : ((List.range xs.size).filterMap fun (k : Nat) => xs[(((xs.size : Int) - 1) + (k : Int) * (-1)).toNat]?).toArray = xs.toList.reverse.toArray := by
  congr 1
  apply List.ext_getElem?
  intro i
  have e : (List.range xs.size).filterMap (fun (k : Nat) => xs[(((xs.size : Int) - 1) + (k : Int) * (-1)).toNat]?) = (List.range xs.size).map (fun k => xs.toList.reverse[k]?.getD default) := by
    refine fm_map _ fun k hk => ?_
    have hk := List.mem_range.mp hk
    have h2 : (((xs.size : Int) - 1) + (k : Int) * (-1)).toNat = xs.size - 1 - k := by omega
    simp only [h2, Function.comp]
    rw [List.getElem?_reverse (by simpa using hk)]
    simp
    rw [Array.getElem?_eq_getElem (by omega)]
    simp
  rw [e, List.getElem?_map]
  by_cases h : i < xs.size
  · rw [List.getElem?_range h]
    simp only [Option.map_some]
    rw [List.getElem?_eq_getElem (by simpa using h)]
    rfl
  · rw [List.getElem?_eq_none (by simpa using h), List.getElem?_eq_none (by simpa using h)]
    rfl
theorem getItem_tuple_rev {t sl : Addr} {items : Array Value} {vl vu vs : Value} {Q : Value → Shared → Prop} (ht : IsTup s.heap t items) (hs : s.heap.IsSliceOf sl vl vu vs) (pl : IsPart vl none) (pu : IsPart vu none) (ps : IsPart vs (some (-1)))
    (h : Q (.ref s.heap.objs.size) { s with heap := s.heap.push { cls := .type "tuple", data := .seq items.toList.reverse.toArray } }) (hsz : items.size ≤ sizeLine) : wpAny (model prog w) A (getItem (.ref t) (.ref sl)) Q E s := by
  have hsize : sizeOk (.seq items.toList.reverse.toArray) := by
    show items.toList.reverse.toArray.size ≤ sizeLine
    simpa using hsz
  obtain ⟨os, hos, hcs, hds⟩ := id hs
  have hTs : s.TypeIs (.ref sl) "slice" := ⟨os, hos, hcs⟩
  unfold getItem
  try with_reducible refine wpAny_holding ?_
  first | refine wpAny_bind (wpAny_pure ?_) | skip
  refine wpAny_bind (wpAny_sequenceKey ht.typeIs (by decide) ?_)
  refine wpAny_bind (wpAny_callSpecial?_slot (name := Str.ofString "__getitem__") ht.typeIs PyProof.Rows.slot_tuple_getitem
    (wpAny_call_entry PyProof.Rows.slot_tuple_getitem ht.typeIs entry_tuple_getitem ?_ (args_tuple_getitem _ _)))
  show wpAny _ _ (Builtin.Tuple.tupleItemsOf (.ref t) >>= _) _ _ s
  refine wpAny_bind (tupleItemsOf_ ht ?_)
  refine wpAny_bind (wpAny_typeOf hTs ?_)
  rw [if_pos (by decide)]
  refine wpAny_bind ?_
  · unfold Builtin.Slice.sliceApplied Builtin.Slice.sliceFields
    refine wpAny_bind (wpAny_bind (wpAny_field hos hds (x := vl) rfl (wpAny_bind (wpAny_field hos hds (x := vu) rfl (wpAny_bind (wpAny_field hos hds (x := vs) rfl (wpAny_pure ?_)))))))
    refine wpAny_bind (HT.slicePart_ ps ?_)
    show wpAny _ _ (if ((-1 : Int) == 0) = true then _ else _) _ _ s
    rw [if_neg (by decide)]
    refine wpAny_bind (HT.slicePart_ pl (wpAny_bind (HT.slicePart_ pu (wpAny_bind (wpAny_pure ?_)))))
    show wpAny _ _ (match Builtin.Slice.sliceAdjust none none (-1) (items.size : Int) with | (lo, hi) => pure (lo, (-1 : Int), Builtin.Slice.slicePlaces lo hi (-1))) _ _ s
    rw [adjust_rev]
    show wpAny _ _ (pure (((items.size : Int) - 1), (-1 : Int), Builtin.Slice.slicePlaces ((items.size : Int) - 1) (-1) (-1))) _ _ s
    rw [places_rev]
    refine wpAny_pure ?_
    show wpAny _ _ (if ((((items.size : Int) - 1) == 0) && ((-1 : Int) == 1) && (items.size == items.size)) = true then _ else _) _ _ s
    rw [if_neg (by simp), pick_rev]
    first
      | exact wpAny_bind (m := Builtin.Tuple.tupleExact _) (wpAny_newObj_type (wpAny_pure ⟨_, rfl, wpAny_pure h⟩) hsize)
      | exact wpAny_bind (m := Builtin.Tuple.tupleExact _) (wpAny_newObj_type (wpAny_bind (wpAny_pure (wpAny_pure ⟨_, rfl, wpAny_pure h⟩))) hsize)
      | exact wpAny_bind (wpAny_bind (m := Builtin.Tuple.tupleExact _) (wpAny_newObj_type (wpAny_pure (wpAny_pure ⟨_, rfl, wpAny_pure h⟩)) hsize))
      | exact wpAny_bind (wpAny_bind (m := Builtin.Tuple.tupleExact _) (wpAny_newObj_type (wpAny_pure ⟨_, rfl, wpAny_pure h⟩) hsize))
end
section
variable {X : Cx}
def tRev (K : PySem.W.Frag) (te : TE) : TE := fun σ H Q => te σ H fun x H1 => ∃ a xs, x = .ref a ∧ ((SqL K H1 a xs ∧ ∀ p, H1 p = none → Q (.ref p) (upd H1 p (.lst xs.reverse))) ∨ (SqT K H1 a xs ∧ NewT Q H1 xs.reverse))
theorem pe_rev {e : Expr} {te : TE} {k : Nat} {p1 p2 p3 pos : Pos} (he : PE X e te) : PE X (.Subscript e (.Slice none none (some (.UnaryOp .USub (.Constant (.int 1) k p1) p2)) p3) pos) (tRev X.K te) := by
  refine ⟨fun pins s σ H Q I h => ?_⟩
  refine Subscript_ (thn (he.run pins s σ H _ I h) fun v s1 ⟨x, H1, I1, r1, q1⟩ => ?_)
  obtain ⟨a, xs, ex, q1⟩ := q1
  subst ex
  cases r1
  have hst : PO X (some (.UnaryOp .USub (.Constant (.int 1) k p1) p2)) (tPart (tUn (rU fun i => .int (-i)) (tC (.int 1)))) := po_some (pe_un un_neg pe_int)
  refine wpAny_Slice (thn (po_none.run pins s1 σ H1 (fun o H2 => o = none ∧ H2 = H1) I1 ⟨rfl, rfl⟩) fun vl s2 ⟨l, H2, I2, pl, el, e2⟩ => ?_)
  subst el e2
  refine thn (po_none.run pins s2 σ H2 (fun o H3 => o = none ∧ H3 = H2) I2 ⟨rfl, rfl⟩) fun vu s3 ⟨u, H3, I3, pu, eu, e3⟩ => ?_
  subst eu e3
  refine thn (hst.run pins s3 σ H3 (fun o H4 => o = some (-1) ∧ H4 = H3) I3 ⟨1, rfl, -1, rfl, rfl, rfl⟩) fun vs s4 ⟨o, H4, I4, ps, eo, e4⟩ => ?_
  subst eo e4
  have I5 : Inv X pins σ H4 { s4 with heap := s4.heap.push { cls := .type "slice", data := .fields #[vl, vu, vs] } } := I4.kept (t' := s4.toks) fun b ob q => Heap.get?_push_of_some _ q
  show wpAny (model X.prog X.w) X.A (subscriptTail e (.Slice none none (some (.UnaryOp .USub (.Constant (.int 1) k p1) p2)) p3) (.ref a) (.ref s4.heap.objs.size)) (EP X pins σ Q) X.xe { s4 with heap := s4.heap.push { cls := .type "slice", data := .fields #[vl, vu, vs] } }
  rcases q1 with ⟨hx, q⟩ | ⟨hx, q⟩
  · obtain ⟨its, r, ht, hz⟩ := I5.list hx
    have hlen := r.length
    refine tail_any (ops := [.ref a, .ref s4.heap.objs.size]) ht.isList.typeIs (PySem.slot_list_getitem.lookup) ?_ (by with_unfolding_all rfl)
    refine wpAny_getItem_list_slice ht.isList (Heap.IsSliceOf.new _ vl vu vs) pl pu ps (by decide) ?_ (by rw [List.size_toArray]; omega)
    rw [PySem.W.krv_pick]
    refine ⟨.ref _, _, I5.laid (t' := s4.toks) (o := .lst xs.reverse) (fun b ob q => Heap.get?_push_of_some _ q) (Nat.le_refl _) ?_, rfl, q _ (I5.hok.fresh (Nat.le_refl _))⟩
    exact ⟨by rw [List.length_reverse]; exact hz, _, 0, r.reverse, Heap.get?_push_size _ rfl⟩
  · obtain ⟨its, r, ht, hz⟩ := I5.tuple hx
    have hlen := r.length
    refine tail_any (ops := [.ref a, .ref s4.heap.objs.size]) ht.typeIs (PyProof.Rows.slot_tuple_getitem.lookup) ?_ (by with_unfolding_all rfl)
    refine getItem_tuple_rev ht (Heap.IsSliceOf.new _ vl vu vs) pl pu ps ?_ (by rw [List.size_toArray]; omega)
    refine ⟨.ref _, _, I5.laid (t' := s4.toks) (o := .frz _ (.tup xs.reverse)) (fun b ob q => Heap.get?_push_of_some _ q) (Nat.le_refl _) ⟨Heap.get?_push_size _ rfl, ?_⟩, rfl, q _ _ (I5.hok.fresh (Nat.le_refl _)) rfl⟩
    exact ⟨by rw [List.length_reverse]; exact hz, _, r.reverse, IsTup.new _ _⟩
end
end EV
set_option maxRecDepth 100000
set_option maxHeartbeats 3200000
namespace EV
open PySem PySem.Spec PyProof.Rows L2
abbrev sob (w : World) : Obj := { cls := .type "set", dict := none, data := .set #[] 0 (.fresh 0 0 (!w.params.followText "set-order")) }
section
variable {P : Program} {w : World} {A : Around} {E : Value → Shared → Prop} {s : Shared}
theorem setOfL {l : Addr} {xs : Array Value} (ns : List Int) {Q : Value → Shared → Prop} (hh : A.handled = none) (hl : s.heap.IsList l xs)
    (hi : IntsAre xs.toList ns) (hb : ns.length + 1 < scanBound)
    (hq : ∀ (g : Heap) (tk c : Nat), SetR w g s.heap.objs.size (fun j => decide (j ∈ ns)) c → c ≤ ns.length →
      (∀ b o, s.heap.get? b = some o → g.get? b = some o) → Q (.ref s.heap.objs.size) { s with heap := g, toks := tk }) :
    wpAny (model P w) A (call (.type "set") [.ref l]) Q E s := by
  have hn : xs.size = ns.length := by have e := IntsAre.length hi; simpa using e
  have tc := F.called_set
  obtain ⟨c, tl, m1⟩ := tc.mro
  have m2 := tc.made
  have m3 := tc.sub
  have m4 := tc.notType
  have m5 := tc.canCreate
  have m6 := F.typeCall_set_1 (.ref l)
  refine wpAny_call (codeAny_of_tree ?_)
  show wpAny _ _ (callAny (.type "set") _) _ _ _
  refine wpAny_pure ⟨Code.quiet_builtin _ (by decide +kernel), ?_⟩
  refine codeAny_builtin F.entry_type_call ?_
  rw [Around.under_plain (weight_type_call_type "set" [.ref l] []) rfl]
  repeat any_goals first | assumption | wp_step
  have mk := code_set_led1 (P := P) (w := w) (A := A.in1) (s := s) (.ref l) (E := E)
    (Q₁ := fun obj t => obj = .ref s.heap.objs.size ∧ t = { s with heap := s.heap.push (sob w) }) ⟨rfl, rfl⟩
  refine codeAny_mono mk fun r t hr => ?_
  match r, hr with
  | .error _, hr => exact hr
  | .ok (.ret obj), hr =>
    obtain ⟨rfl, rfl⟩ := hr
    have g0 : (s.heap.push (sob w)).get? s.heap.objs.size = some (sob w) := Heap.get?_push_size _ rfl
    have t0 : Shared.TypeIs { s with heap := s.heap.push (sob w) } (.ref s.heap.objs.size) "set" := ⟨_, g0, rfl⟩
    have i1 := tc.init.lookup
    have i2 := tc.init.bind (.ref s.heap.objs.size)
    repeat any_goals first | assumption | wp_step
    refine codeAny_mono (codeAny_call_builtin (R := wants (fun r t => r = .none ∧ ∃ g tk c, t = { s with heap := g, toks := tk } ∧
      SetR w g s.heap.objs.size (fun j => decide (j ∈ ns)) c ∧ c ≤ ns.length ∧ (∀ b o, s.heap.get? b = some o → g.get? b = some o)) E)
      tc.init.plain F.entry_set_init (check_set_init_1 t0 ?_)) fun r2 t2 hr2 => ?_
    · obtain ⟨⟨oc, od, oda, osl⟩, ho, hc, nl, hd⟩ := hl
      simp only at hc hd
      subst hc
      subst hd
      have ho1 := Heap.get?_push_of_some (sob w) ho
      have hl1 : (s.heap.push (sob w)).IsList l xs := ⟨_, ho1, rfl, nl, rfl⟩
      have k1 := F.sub_list_set
      have k2 := F.sub_list_frozenset
      have k3 : (Value.type "list" == Value.type "dict") = false := by decide
      unfold Builtin.«set.__init__» noKeywords
      unfold Builtin.Frozenset.updateFrom
      generalize hPI : pyIter = PI
      wp_walk
      subst hPI
      have below := Heap.lt_size ho
      have hs1 : (s.heap.push (sob w)).objs.size = s.heap.objs.size + 1 := Heap.size_push ..
      refine wpAny_pyIter_list hl1 (wpAny_bind (wpAny_runValue ?_))
      have w1 := (Walks.list (prog := P) (w := w) (A := A.in1.in1.in1) (by simp [hh]) (s.heap.push (sob w)).objs.size l (Nat.ne_of_lt (by rw [hs1]; exact Nat.lt_succ_of_lt below)) xs).toS
      refine set_update_ints w1 s.heap.objs.size (by rw [hs1]; simp; exact Nat.ne_of_gt below) ns hn hb (fun i v hv => ?_) xs.size 0 _ (by omega) (Nat.zero_le _)
        ?_ ?_ fun t c hm hc hS => ?_
      · have hi2 : i < ns.length := by rw [← hn]; exact (Array.getElem?_eq_some_iff.mp hv).1
        obtain ⟨tk, e⟩ := IntsAre.int_at hi i v (by rw [Array.getElem?_toList]; exact hv)
        exact ⟨ns[i], tk, List.getElem?_eq_getElem hi2, by rw [e, List.getD_eq_getElem?_getD, List.getElem?_eq_getElem hi2]; rfl⟩
      · exact ⟨⟨_, Heap.get?_push_size _ rfl, rfl, rfl⟩, hl1.push _⟩
      · exact ⟨0, Nat.le_refl 0, setR_new_at (Heap.get?_push_of_some _ g0)⟩
      · obtain ⟨g, gg, dd, tk, oo⟩ := t
        obtain rfl : gg = s.gens := hm.gens
        obtain rfl : dd = s.drawn := hm.drawn
        obtain rfl : oo = s.os := hm.os
        show wpAny _ _ _ _ _ _
        refine wpAny_pure ?_
        show wpAny _ _ (ret Value.none) _ _ _
        refine wpAny_pure ⟨rfl, g, tk, c, rfl, hS, by omega, fun b o e => ?_⟩
        have hb1 := Heap.lt_size e
        exact hm.heap b o (by rw [hs1]; simp; exact ⟨Nat.ne_of_lt hb1, Nat.ne_of_lt (Nat.lt_succ_of_lt hb1)⟩) (Heap.get?_push_of_some _ (Heap.get?_push_of_some _ e))
    · match r2, hr2 with
      | .error _, hr2 => exact hr2
      | .ok (.ret _), hr2 =>
        obtain ⟨rfl, g, tk, c, rfl, a1, a2, a3⟩ := hr2
        repeat any_goals first | assumption | wp_step
        exact hq _ _ _ a1 a2 a3
end
section
variable {X : Cx}
def tSset (K : PySem.W.Frag) (ta : TE) : TE := fun σ H Q => ta σ H fun x H1 => ∃ (l : Addr) (ns : List Int), x = .ref l ∧
  (SqL K H1 l (ns.map V.int) ∨ SqT K H1 l (ns.map V.int)) ∧ (setI ns).length < 64 ∧ ns.length ≤ 4000 ∧ ∀ p, H1 p = none → Q (.ref p) (upd H1 p (.lst ((setI ns).map V.int)))
theorem pe_sset {a : Expr} {ta : TE} {p p2 q pos : Pos} (hg : Gl X "sorted") (hm : X.mg "sorted" = none) (hg2 : Gl X "set") (hm2 : X.mg "set" = none)
    (ha : PE X a ta) (hc : X.calm = true) (na : starEach [a] X.env = (false, eval a X.env) :: starEach [] X.env) :
    PE X (.Call (.Name "sorted" p) [.Call (.Name "set" p2) [a] [] q] [] pos) (tSset X.K ta) := by
  refine ⟨fun pins s σ H Q I h => ?_⟩
  refine Call_ (ld_blt I hg hm PyProof.Rows.boot_sorted (callWith_builtin1 (args_cons ?_ rfl) rfl rfl))
  refine Call_ (ld_blt I hg2 hm2 PyProof.Rows.boot_set (callWith_type1 (args_cons (thn (ha.run pins s σ H _ I h) fun v s1 ⟨x, H1, I1, r1, q1⟩ => args_nil ?_) na) na rfl))
  obtain ⟨l, ns, rfl, hq, h64, h4, q1⟩ := q1
  cases r1
  have hd := I1.ok.hd hc
  have fin : ∀ (g : Heap) (tk c : Nat), SetR X.w g s1.heap.objs.size (fun j => decide (j ∈ ns)) c → c ≤ ns.length → (∀ b o, s1.heap.get? b = some o → g.get? b = some o) →
      wpAny (model X.prog X.w) X.A (call (.builtin "sorted") [.ref s1.heap.objs.size]) (EP X pins σ Q) X.xe { s1 with heap := g, toks := tk } := fun g tk c hS hc' hk => by
    have I2 : Inv X pins σ H1 { s1 with heap := g, toks := tk } := I1.kept hk
    have hc2 : c ≤ (setI ns).length := by
      obtain ⟨o, es, ep, t, _, _, _, _, nd, mm, _, _, sz, _⟩ := hS
      rw [← sz, show es.size = (es.toList.map keyOf).length by rw [List.length_map, Array.length_toList]]
      exact nd.length_le_of_subset fun j hj => by
        rw [setI_mem]
        simpa using (mm j).mpr hj
    refine sorted_set hS hd (by omega) fun t p out c2 ms k gg oo hp hgp hi hsrt hmm hlen => ?_
    have em : ms = setI ns := asc_uniq hsrt (setI_sorted ns) fun j => by rw [hmm, setI_mem, decide_eq_true_eq]
    have hlen : (ms.map V.int).length ≤ sizeLine := by rw [List.length_map, sizeLine_eq]; omega
    have hn : H1 p = none := I2.hok.fresh hp
    have J := I2.call' (s' := t) (ch := []) oo (Un.laid k hp hn) (I2.hok.laid k hp (show ObjOk X.prog X.w _ _ _ (.lst (ms.map V.int)) from ⟨hlen, out.toList, c2, vals_of_ints hi, hgp⟩)) (by rw [gg]; exact I2.bare) (fun _ z => nomatch z)
    subst em
    exact ⟨.ref p, _, J, rfl, q1 p hn⟩
  have its : ∀ {vs : List Value}, Vals (ns.map V.int) vs → IntsAre vs.toArray.toList ns := fun r => by simpa using r.ints
  have hbd : ns.length + 1 < scanBound := by unfold scanBound; omega
  rcases hq with hq | hq
  · obtain ⟨vs, r, pl, hz⟩ := I1.list hq
    exact setOfL ns hd pl.isList (its r) hbd fun g tk c hS hc' hk => args_nil (fin g tk c hS hc' hk)
  · obtain ⟨vs, r, pl, hz⟩ := I1.tuple hq
    exact call_set_tupI ns hd pl (its r) hbd fun g tk c hS hc' hk => args_nil (fin g tk c hS hc' hk)
end
end EV
set_option maxRecDepth 100000
set_option maxHeartbeats 3200000
namespace EV
open PySem PySem.Spec PyProof.Rows L2
def IteT (K : PySem.W.Frag) (a : Addr) : It :=
  ⟨fun i H => ∃ (xs : List V) (x : V), SqT K H a xs ∧ xs[i]? = some x, fun i H v H' => ∃ T x, v = .ref T ∧ H T = none ∧ H' = upd H T (.tup [.int (i : Nat), x]) ∧ ∀ xs, SqT K H a xs → xs[i]? = some x, fun i H => ∃ xs : List V, SqT K H a xs ∧ xs.length ≤ i⟩
theorem turn_enumT {P : Program} {w : World} {K : PySem.W.Frag} {elts : List Expr} {kk : Nat} {tpos : Pos} (a e it : Addr) (hea : e ≠ a) (hai : a ≠ it) :
    Turn P w K (.Tuple elts kk tpos) (IteT K a) [e, it] e (fun i h => (∃ old, IsEnum h e it ((i : Nat) : Int) old) ∧ h.IsTupleIter it a i ∧ e ≠ it) where
  mem := by simp
  obj := fun i h st b hb => by
    obtain ⟨⟨old, he⟩, ⟨o, ho, hc, hd⟩, _⟩ := st
    have e' : b = e ∨ b = it := by simpa using hb
    rcases e' with z | z
    · rw [z]; exact ⟨_, he, fun v q => nomatch q⟩
    · rw [z]; exact ⟨o, ho, fun v q => by rw [hd] at q; cases q⟩
  keep := fun i h h' st k => let ⟨⟨old, he⟩, hi, hne⟩ := st; ⟨⟨old, k e (by simp) _ he⟩, hi.at fun o q => k it (by simp) o q, hne⟩
  item := by
    intro X hP hw hK hc i pins s σ H E I hf st hg
    subst hP hw hK
    obtain ⟨⟨old, he⟩, hit, hne⟩ := st
    obtain ⟨xs, x, hq, hx⟩ := hg
    obtain ⟨its, rv, p, hz⟩ := I.tuple hq
    obtain ⟨u, hu, ru⟩ := rv.get hx
    have hel : e < s.heap.objs.size := Heap.lt_size he
    have hil : it < s.heap.objs.size := by obtain ⟨_, q, _⟩ := hit; exact Heap.lt_size q
    have hlt : i < its.toArray.size := by
      have := (List.getElem?_eq_some_iff.mp hu).1
      simpa using this
    refine wpAny_pyNext_enum_itemD (Draws.tuple (A := X.A.in1) (show X.A.in1.handled = none from I.ok.hd hc) it a hai its.toArray) he ⟨hit, p⟩ hlt hne (by simp [hne, hea]) fun y h' tk hy ho hit' hT hsz hk => ?_
    have hyu : y = u := by
      have a1 : its[i]? = some y := by simpa using hy
      have a2 : its[i]? = some u := hu
      rw [a1] at a2
      exact Option.some.inj a2
    subst hyu
    refine ⟨_, rfl, wpAny_letOwnedTupleGo_enum (s := { s with heap := h', toks := tk + 1 }) ho fun h'' he' sb => ?_⟩
    have hT2 : h''.get? s.heap.objs.size = some { cls := .type "tuple", data := .seq #[.int i tk, y] } := (sb.2 _ (Nat.ne_of_gt hel)).trans hT
    have new : ObjOk X.prog X.w (upd H s.heap.objs.size (.tup [.int (i : Nat), x])) h'' s.heap.objs.size (.tup [.int (i : Nat), x]) :=
      ⟨by show 2 ≤ sizeLine; decide, [.int i tk, y], .cons ⟨_, rfl⟩ (.cons ru .nil), ⟨_, hT2, rfl, _, rfl⟩⟩
    have I1 : Inv X pins σ (upd H s.heap.objs.size (.tup [.int (i : Nat), x])) { s with heap := h'', toks := tk + 1 } :=
      I.turnedNew (ch := [e, it]) (fun b ob hb q => (sb.2 b (fun z => hb (by simp [z]))).trans (hk b ob (fun z => hb (by simp [z])) (fun z => hb (by simp [z])) q)) hf (Nat.le_refl _) new
    refine ⟨.ref s.heap.objs.size, _, I1, rfl, ⟨_, x, rfl, I.hok.fresh (Nat.le_refl _), rfl, fun ys hy => by rw [I.tuple_inj hy hq]; exact hx⟩, ⟨⟨y, ?_⟩, hit'.1.at fun o q => (sb.2 it (Ne.symm hne)).trans q, hne⟩, fun b hb => ?_⟩
    · have e1 : ((i + 1 : Nat) : Int) = (i : Int) + 1 := by omega
      rw [e1]; exact he'
    · have hb' : b < s.heap.objs.size := by
        have e' : b = e ∨ b = it := by simpa using hb
        rcases e' with z | z
        · rw [z]; exact hel
        · rw [z]; exact hil
      rw [upd_ne (Nat.ne_of_lt hb')]
      exact (hf b hb).1
  done := by
    intro X hP hw hK hc i pins s σ H E I hf st hg
    subst hP hw hK
    obtain ⟨⟨old, he⟩, hit, hne⟩ := st
    obtain ⟨xs, hq, hx⟩ := hg
    obtain ⟨its, rv, p, hz⟩ := I.tuple hq
    obtain ⟨f0, f1, f2, f3, f4, f5⟩ := hf it (by simp)
    have hl := rv.length
    have hT : s.TypeIs (.ref e) "enumerate" := ⟨_, he, rfl⟩
    unfold pyNext
    refine wpAny_bind (wpAny_attempt (wpAny_callSpecial?_slot (name := Str.ofString "__next__") hT F.slot_enumerate_next
      (wpAny_call_entry F.slot_enumerate_next hT F.entry_enumerate_next ?_ (F.args_enumerate_next_1 _))))
    show wpAny _ _ (field (.ref e) 2 >>= _) _ _ _
    refine wpAny_bind (wpAny_field he rfl (x := .ref it) rfl ?_)
    refine wpAny_bind (wpAny_nextOf_tuple_end (I.ok.hd hc) hit p (Array.getElem?_eq_none (by simp; omega)) fun h' x he' hx' => ?_)
    obtain ⟨o, ho, hc⟩ := hx'
    refine wpAny_bind (wpAny_isInstance (T := "StopIteration") (b := true) ⟨o, ho, hc⟩ isSubtype_stop ?_)
    exact wpAny_pure ⟨rfl, I.turned (t' := s.toks) (fun b o hb q => he' b o hb q) f0 f1 f3 f4 f5⟩
  self := fun A i s Q E st h => let ⟨⟨_, he⟩, _⟩ := st; wpAny_pyIter_enum he h
theorem meets_enumerate_newT {v : Value} {o : Obj} {H : Heap → Prop} (B : Begins v o H) :
    Meets (Builtin.«enumerate.__new__» ⟨[.type "enumerate", v], []⟩) (fun _ R s => H s.heap ∧
      R (.ok (.ret (.ref (s.heap.push o).objs.size))) { s with heap := (s.heap.push o).push { cls := .type "enumerate", data := .fields #[.none, .bool false, .ref s.heap.objs.size, rawInt 0, .none, .none] } }) :=
  .of_wp fun prog w A R s h => by
    obtain ⟨hp, g, d, tk, os⟩ := s; obtain ⟨h1, h⟩ := h
    have hsub := sub_enumerate
    have q1 : ∀ {A' : Around} {E : Value → Shared → Prop} {Q : Value → Shared → Prop}, Q (.ref hp.objs.size) ⟨hp.push o, g, d, tk, os⟩ → wpAny (model prog w) A' (pyIter v) Q E ⟨hp, g, d, tk, os⟩ :=
      fun q => B.iter prog w _ _ ⟨hp, g, d, tk, os⟩ _ h1 q
    wp_walk using q1
    refine wpAny_stack_any fun st => wpAny_pure ?_
    split
    · rename_i c _ _ _ _ _
      cases (c == Value.type "enumerate")
      · wp_walk using q1
        exact ⟨_, rfl, h⟩
      · wp_walk using q1
        exact ⟨_, rfl, h⟩
    · wp_walk using q1
      exact ⟨_, rfl, h⟩
theorem call_enumerate_tuple {prog : Program} {w : World} {A : Around} {E : Value → Shared → Prop} {s : Shared} {l : Addr} {items : Array Value} {Q : Value → Shared → Prop} (hL : s.heap.IsTuple l items)
    (h : ∀ h', IsEnum h' (s.heap.objs.size + 1) s.heap.objs.size 0 .none → h'.IsTupleIter s.heap.objs.size l 0 → h'.objs.size = s.heap.objs.size + 2 →
      (∀ b o, s.heap.get? b = some o → h'.get? b = some o) → Q (.ref (s.heap.objs.size + 1)) { s with heap := h' }) :
    wpAny (model prog w) A (call (.type "enumerate") [.ref l]) Q E s := by
  refine callType_new F.called_enumerate (by decide) (F.typeCall_enumerate_1 _) (F.newCall_enumerate_1 _) (fun obj => F.args_object_init_2 obj _) F.entry_enumerate_new
    (meets_enumerate_newT (begins_tuple l items)) ⟨hL, ?_⟩
  have hz : (s.heap.push { cls := .type "tuple_iterator", data := .fields #[.ref l, .int 0 0] }).objs.size = s.heap.objs.size + 1 := Heap.size_push ..
  show _ ∧ _
  rw [hz]
  have he : IsEnum ((s.heap.push { cls := .type "tuple_iterator", data := .fields #[.ref l, .int 0 0] }).push
      { cls := .type "enumerate", data := .fields #[.none, .bool false, .ref s.heap.objs.size, rawInt 0, .none, .none] }) (s.heap.objs.size + 1) s.heap.objs.size 0 .none := by
    have := Heap.get?_push_size (s.heap.push { cls := .type "tuple_iterator", data := .fields #[.ref l, .int 0 0] })
      (o := { cls := .type "enumerate", data := .fields #[.none, .bool false, .ref s.heap.objs.size, rawInt 0, .none, .none] }) rfl
    rw [hz] at this; exact this
  exact ⟨⟨_, he, rfl⟩, h _ he ⟨_, Heap.get?_push_of_some _ (Heap.get?_push_size _ rfl), rfl, rfl⟩ (by rw [Heap.size_push, hz]) fun b o x => Heap.get?_push_of_some _ (Heap.get?_push_of_some _ x)⟩
def iEnumT (K : PySem.W.Frag) (ta : TA) : TI := fun σ H R => ta σ H fun vs H1 => ∃ a xs, vs = [.ref a] ∧ SqT K H1 a xs ∧ R (IteT K a) H1
theorem pi_enumT {X : Cx} {e : Expr} {ta : TA} {p pos tpos : Pos} {elts : List Expr} {kk : Nat} (hg : Gl X "enumerate") (hm : X.mg "enumerate" = none) (ha : PA X [e] ta) (hs : starEach [e] X.env = [(false, eval e X.env)] := by rfl) :
    PI X (.Tuple elts kk tpos) (.Call (.Name "enumerate" p) [e] [] pos) (iEnumT X.K ta) := by
  refine ⟨fun pins s σ H R I h => ?_⟩
  refine Call_ (ld_blt I hg hm boot_enumerate (PyProof.Rows.callWith_type1 (thn (ha.run pos pins s σ H _ I h) fun us s1 ⟨vs, H1, I1, r1, q1⟩ => ?_) hs rfl))
  obtain ⟨a, xs, ex, hq, q⟩ := q1
  subst ex
  cases r1 with
  | cons r rr =>
    cases rr
    cases r
    obtain ⟨its, rv, p', hz⟩ := I1.tuple hq
    have hal : a < s1.heap.objs.size := by obtain ⟨_, q, _⟩ := p'; exact Heap.lt_size q
    refine call_enumerate_tuple p' fun h' he hit hsz hk => wpAny_pyIter_enum he ?_
    have I2 : Inv X pins σ H1 { s1 with heap := h' } := I1.kept (t' := s1.toks) hk
    refine ⟨s1.heap.objs.size + 1, [s1.heap.objs.size + 1, s1.heap.objs.size], _, _, H1, rfl, I2, turn_enumT a (s1.heap.objs.size + 1) s1.heap.objs.size (Nat.ne_of_gt (Nat.lt_succ_of_lt hal)) (Nat.ne_of_lt hal), ⟨⟨.none, he⟩, hit, Nat.succ_ne_self _⟩, fun b hb => ?_, q⟩
    have e' : b = s1.heap.objs.size + 1 ∨ b = s1.heap.objs.size := by simpa using hb
    have hle : s1.heap.objs.size ≤ b := by
      rcases e' with z | z
      · rw [z]; exact Nat.le_add_right _ _
      · rw [z]; exact Nat.le_refl _
    exact I1.fpOk hle (I1.hok.fresh hle)
end EV
set_option maxRecDepth 100000
set_option maxHeartbeats 3200000
namespace EV
open PySem PySem.Spec PyProof.Rows L2
def IteS (x : Str) : It :=
  ⟨fun i _ => i < x.cps.size, fun i H v H' => ∃ T c, v = .ref T ∧ H T = none ∧ H' = upd H T (.tup [.int (i : Nat), .str ⟨#[c]⟩]) ∧ x.cps[i]? = some c, fun i _ => x.cps.size ≤ i⟩
theorem drawsS {prog : Program} {w : World} {A : Around} (hh : A.handled = none) (it : Addr) (x : Str) (t : Tok) {ty : String} (hty : ty = "str_ascii_iterator" ∨ ty = "str_iterator") :
    Draws prog w A it [it] x.cps.size (fun i v => ∃ c u, x.cps[i]? = some c ∧ v = .str ⟨#[c]⟩ u) (fun i h => h.IsStrIter it ty x t i) := by
  rcases hty with e | e
  · rw [e]; exact Draws.strAscii hh it x t
  · rw [e]; exact Draws.strWide hh it x t
theorem nextOf_endS {prog : Program} {w : World} {A : Around} {E : Value → Shared → Prop} {s : Shared} {it : Addr} {x : Str} {t : Tok} {i : Nat} {Q : Value → Shared → Prop} (hh : A.handled = none) {ty : String} (hty : ty = "str_ascii_iterator" ∨ ty = "str_iterator")
    (hit : s.heap.IsStrIter it ty x t i) (hx : x.cps[i]? = none)
    (hE : ∀ h' e, Heap.ExtBut it s.heap h' → (∃ o, h'.get? e = some o ∧ o.cls = .type "StopIteration") → E (.ref e) { s with heap := h' }) :
    wpAny (model prog w) A (Builtin.SmallTypes.nextOf (.ref it)) Q E s := by
  rcases hty with e | e
  · rw [e] at hit; exact wpAny_nextOf_ascii_end hh hit hx hE
  · rw [e] at hit; exact wpAny_nextOf_wide_end hh hit hx hE
theorem turn_enumS {P : Program} {w : World} {K : PySem.W.Frag} {elts : List Expr} {kk : Nat} {tpos : Pos} (z : Str) (t : Tok) (ty : String) (hty : ty = "str_ascii_iterator" ∨ ty = "str_iterator") (e it : Addr) :
    Turn P w K (.Tuple elts kk tpos) (IteS z) [e, it] e (fun i h => (∃ old, IsEnum h e it ((i : Nat) : Int) old) ∧ h.IsStrIter it ty z t i ∧ e ≠ it) where
  mem := by simp
  obj := fun i h st b hb => by
    obtain ⟨⟨old, he⟩, ⟨o, ho, hc, hd⟩, _⟩ := st
    have e' : b = e ∨ b = it := by simpa using hb
    rcases e' with y | y
    · rw [y]; exact ⟨_, he, fun v q => nomatch q⟩
    · rw [y]; exact ⟨o, ho, fun v q => by rw [hd] at q; cases q⟩
  keep := fun i h h' st k => let ⟨⟨old, he⟩, hi, hne⟩ := st; ⟨⟨old, k e (by simp) _ he⟩, (let ⟨o, ho, r⟩ := hi; ⟨o, k it (by simp) o ho, r⟩), hne⟩
  item := by
    intro X hP hw hK hc i pins s σ H E I hf st hg
    subst hP hw hK
    obtain ⟨⟨old, he⟩, hit, hne⟩ := st
    have hel : e < s.heap.objs.size := Heap.lt_size he
    have hil : it < s.heap.objs.size := by obtain ⟨_, q, _⟩ := hit; exact Heap.lt_size q
    refine wpAny_pyNext_enum_itemD (drawsS (A := X.A.in1) (show X.A.in1.handled = none from I.ok.hd hc) it z t hty) he hit hg hne (by simp [hne]) fun y h' tk hy ho hit' hT hsz hk => ?_
    obtain ⟨c, u, hcx, rfl⟩ := hy
    refine ⟨_, rfl, wpAny_letOwnedTupleGo_enum (s := { s with heap := h', toks := tk + 1 }) ho fun h'' he' sb => ?_⟩
    have hT2 : h''.get? s.heap.objs.size = some { cls := .type "tuple", data := .seq #[.int i tk, .str ⟨#[c]⟩ u] } := (sb.2 _ (Nat.ne_of_gt hel)).trans hT
    have new : ObjOk X.prog X.w (upd H s.heap.objs.size (.tup [.int (i : Nat), .str ⟨#[c]⟩])) h'' s.heap.objs.size (.tup [.int (i : Nat), .str ⟨#[c]⟩]) :=
      ⟨by show 2 ≤ sizeLine; decide, [.int i tk, .str ⟨#[c]⟩ u], .cons ⟨_, rfl⟩ (.cons ⟨_, rfl⟩ .nil), ⟨_, hT2, rfl, _, rfl⟩⟩
    have I1 : Inv X pins σ (upd H s.heap.objs.size (.tup [.int (i : Nat), .str ⟨#[c]⟩])) { s with heap := h'', toks := tk + 1 } :=
      I.turnedNew (ch := [e, it]) (fun b ob hb q => (sb.2 b (fun y => hb (by simp [y]))).trans (hk b ob (fun y => hb (by simp [y])) (fun y => hb (by simp [y])) q)) hf (Nat.le_refl _) new
    refine ⟨.ref s.heap.objs.size, _, I1, rfl, ⟨_, c, rfl, I.hok.fresh (Nat.le_refl _), rfl, hcx⟩, ⟨⟨.str ⟨#[c]⟩ u, ?_⟩, (let ⟨o, ho, r⟩ := hit'; ⟨o, (sb.2 it (Ne.symm hne)).trans ho, r⟩), hne⟩, fun b hb => ?_⟩
    · have e1 : ((i + 1 : Nat) : Int) = (i : Int) + 1 := by omega
      rw [e1]; exact he'
    · have hb' : b < s.heap.objs.size := by
        have e' : b = e ∨ b = it := by simpa using hb
        rcases e' with y | y
        · rw [y]; exact hel
        · rw [y]; exact hil
      rw [upd_ne (Nat.ne_of_lt hb')]
      exact (hf b hb).1
  done := by
    intro X hP hw hK hc i pins s σ H E I hf st hg
    subst hP hw hK
    obtain ⟨⟨old, he⟩, hit, hne⟩ := st
    obtain ⟨f0, f1, f2, f3, f4, f5⟩ := hf it (by simp)
    have hT : s.TypeIs (.ref e) "enumerate" := ⟨_, he, rfl⟩
    unfold pyNext
    refine wpAny_bind (wpAny_attempt (wpAny_callSpecial?_slot (name := Str.ofString "__next__") hT F.slot_enumerate_next
      (wpAny_call_entry F.slot_enumerate_next hT F.entry_enumerate_next ?_ (F.args_enumerate_next_1 _))))
    show wpAny _ _ (field (.ref e) 2 >>= _) _ _ _
    refine wpAny_bind (wpAny_field he rfl (x := .ref it) rfl ?_)
    refine wpAny_bind (nextOf_endS (I.ok.hd hc) hty hit (Array.getElem?_eq_none hg) fun h' x he' hx' => ?_)
    obtain ⟨o, ho, hc⟩ := hx'
    refine wpAny_bind (wpAny_isInstance (T := "StopIteration") (b := true) ⟨o, ho, hc⟩ isSubtype_stop ?_)
    exact wpAny_pure ⟨rfl, I.turned (t' := s.toks) (fun b o hb q => he' b o hb q) f0 f1 f3 f4 f5⟩
  self := fun A i s Q E st h => let ⟨⟨_, he⟩, _⟩ := st; wpAny_pyIter_enum he h
def iEnumS (ta : TA) : TI := fun σ H R => ta σ H fun vs H1 => ∃ x, vs = [.str x] ∧ R (IteS x) H1
theorem pi_enumS {X : Cx} {e : Expr} {ta : TA} {p pos tpos : Pos} {elts : List Expr} {kk : Nat} (hg : Gl X "enumerate") (hm : X.mg "enumerate" = none) (ha : PA X [e] ta) (hs : starEach [e] X.env = [(false, eval e X.env)] := by rfl) :
    PI X (.Tuple elts kk tpos) (.Call (.Name "enumerate" p) [e] [] pos) (iEnumS ta) := by
  refine ⟨fun pins s σ H R I h => ?_⟩
  refine Call_ (ld_blt I hg hm boot_enumerate (PyProof.Rows.callWith_type1 (thn (ha.run pos pins s σ H _ I h) fun us s1 ⟨vs, H1, I1, r1, q1⟩ => ?_) hs rfl))
  obtain ⟨x, ex, q⟩ := q1
  subst ex
  cases r1 with
  | cons r rr =>
    cases rr
    obtain ⟨t, rfl⟩ := r
    refine call_enumerate_str fun h' he hit hsz hk => wpAny_pyIter_enum he ?_
    have I2 : Inv X pins σ H1 { s1 with heap := h' } := I1.kept (t' := s1.toks) hk
    have hty : strIterType x = "str_ascii_iterator" ∨ strIterType x = "str_iterator" := by
      unfold strIterType
      split
      · exact .inl rfl
      · exact .inr rfl
    refine ⟨s1.heap.objs.size + 1, [s1.heap.objs.size + 1, s1.heap.objs.size], _, _, H1, rfl, I2, turn_enumS x t _ hty (s1.heap.objs.size + 1) s1.heap.objs.size, ⟨⟨.none, he⟩, hit, Nat.succ_ne_self _⟩, fun b hb => ?_, q⟩
    have e' : b = s1.heap.objs.size + 1 ∨ b = s1.heap.objs.size := by simpa using hb
    have hle : s1.heap.objs.size ≤ b := by
      rcases e' with z | z
      · rw [z]; exact Nat.le_add_right _ _
      · rw [z]; exact Nat.le_refl _
    exact I1.fpOk hle (I1.hok.fresh hle)
end EV
set_option maxRecDepth 100000
namespace EV
open PySem PySem.Spec PyProof.Rows L2
section
variable {P : Program} {w : World} {KK : PySem.W.Frag} {mg : Str → Option Value} {base : Heap} {GG : Glob} {T : Tab} {NB : List String} {k : Nat} {N : List Str} {sc : Scope}
theorem len_of {K : PySem.W.Frag} {Pr G G' H H' : Hp} {ρ ρ' : List Addr} {σ : L2.St} {env env' : Env} {h h' : AH} (S : SR K Pr G H ρ σ env h) (hl : env.length = N.length) (S' : SR K Pr G' H' ρ' σ env' h') : env'.length = N.length := by
  rw [← S'.len, S.len]; exact hl

theorem l_non {x pos} : SndE P w KK mg base GG T k N .non sc (.Constant .none x pos) := fun X O Pr G H ρ σ env h S hl d env' h' he Q q => by
  cases he
  exact PE_w pe_non (q.ofV (.inl rfl) (Same.refl _) (Ext.refl _) S .non)
theorem l_bl {b x pos} : SndE P w KK mg base GG T k N (.bl b) sc (.Constant (.bool b) x pos) := fun X O Pr G H ρ σ env h S hl d env' h' he Q q => by
  cases he
  exact PE_w pe_bl (q.ofV (.inl rfl) (Same.refl _) (Ext.refl _) S (.bl b))
theorem l_int {b x pos} : SndE P w KK mg base GG T k N (.int b) sc (.Constant (.int b) x pos) := fun X O Pr G H ρ σ env h S hl d env' h' he Q q => by
  cases he
  exact PE_w pe_int (q.ofV (.inl rfl) (Same.refl _) (Ext.refl _) S (.int b))
theorem l_str {b x pos} : SndE P w KK mg base GG T k N (.str b) sc (.Constant (.str b) x pos) := fun X O Pr G H ρ σ env h S hl d env' h' he Q q => by
  cases he
  exact PE_w pe_str (q.ofV (.inl rfl) (Same.refl _) (Ext.refl _) S (.str b))
theorem pe_slot {X : Cx} (O : OkX P w KK mg base k sc N X) {i x pos} (hm : slotB sc N i x = true) : PE X (.Name x pos) (tVar i) := by
  obtain ⟨h1, h2, h3⟩ := slotB_of hm
  obtain ⟨h4, h5, _⟩ := nameOk_of h3
  exact pe_var (by rw [O.hN]; exact h1) (O.vis h2) h4 h5
theorem l_var {i x pos} (hm : slotB sc N i x = true) : SndE P w KK mg base GG T k N (.var i) sc (.Name x pos) := fun X O Pr G H ρ σ env h S hl d env' h' he Q q => by
  have he : (getS env i >>= fun d => R.ok (d, frzS env i, h)) = .ok (d, env', h') := he
  obtain ⟨d1, e1, e2⟩ := R.bind_inv he
  cases e2
  unfold getS at e1
  split at e1
  · rename_i d2 eo
    cases e1
    obtain ⟨v, ev, r⟩ := S.val i _ eo
    have ef : frzS env i = env := by unfold frzS; rw [eo]
    rw [ef] at q
    exact PE_w (pe_slot O hm) ⟨v, ev, q.ofV (.inl rfl) (Same.refl _) (Ext.refl _) S r⟩
  · rename_i xs eo
    cases e1
    obtain ⟨a, vs, ev, r, S', sg⟩ := S.frzOwn eo
    have ef : frzS env i = env.set i (.val (.lst xs)) := by unfold frzS; rw [eo]
    rw [ef] at q
    obtain ⟨v, ev', r'⟩ := S'.val i (.lst xs) (List.getElem?_set_self (List.getElem?_eq_some_iff.mp eo).1)
    rw [ev] at ev'; cases ev'
    exact PE_w (pe_slot O hm) ⟨_, ev, q.ofV (.inl rfl) sg (Ext.refl _) S' r'⟩
  · cases e1
theorem l_glob (M : ModOk KK mg GG NB) {x pos} (hg : glB sc x = true) (hn : nameOk x = true) : SndE P w KK mg base GG T k N (.glob x) sc (.Name x pos) := fun X O Pr G H ρ σ env h S hl d env' h' he Q q => by
  have he : (ofO (GG x) >>= fun d => R.ok (d, env, h)) = .ok (d, env', h') := he
  obtain ⟨d1, e1, e2⟩ := R.bind_inv he
  cases e2
  obtain ⟨u, v, h1, h2, h3⟩ := M.gl x _ (ofO_inv e1)
  exact PE_w (pe_glob (O.gl hg) (by rw [O.hmg]; exact h1) h2 (nameOk_of hn).1) (q.ofV (.inl rfl) (Same.refl _) (Ext.refl _) S (h3.mono (fun _ _ z => by cases z) fun _ _ z => by simp at z))
theorem l_tup {es ps kk pos} (ih : SndEs P w KK mg base GG T k N es sc ps) : SndE P w KK mg base GG T k N (.tup es) sc (.Tuple ps kk pos) := fun X O Pr G H ρ σ env h S hl d env' h' he Q q => by
  have he : (evs GG (callN GG T k) es env h >>= fun z => if lenOk z.1.length then R.ok (.tup z.1, z.2.1, z.2.2) else .bad) = .ok (d, env', h') := he
  obtain ⟨⟨ds, env1, h1⟩, e1, e2⟩ := R.bind_inv he
  obtain ⟨z, e3⟩ := ite_ok e2
  cases e3
  refine PE_w (pe_tupN pa_w) (ih X O Pr G H ρ σ env h S hl _ _ _ e1 _ fun G1 ρ1 H1 vs sg sr S1 r => ⟨by rw [r.length]; exact sizeLine_le z, q.newT sg sr S1 r⟩)
theorem l_newl {e p} (ih : SndE P w KK mg base GG T k N e sc p) (hf : fr e = true) : SndE P w KK mg base GG T k N (.newl e) sc p := fun X O Pr G H ρ σ env h S hl d env' h' he Q q => by
  have he : (ev GG (callN GG T k) e env h >>= fun z => lstD z.1 >>= fun xs => R.ok (.ref z.2.2.length, z.2.1, z.2.2 ++ [.lst xs])) = .ok (d, env', h') := he
  obtain ⟨⟨x, env1, h1⟩, e1, he⟩ := R.bind_inv he
  obtain ⟨xs, e2, he⟩ := R.bind_inv he
  cases he
  cases x <;> simp only [lstD] at e2 <;> try (cases e2; done)
  cases e2
  refine ih X O Pr G H ρ σ env h S hl _ _ _ e1 _ ?_
  rw [hf]
  rintro G1 ρ1 H1 v1 g1 p1 S1 ⟨a, ws, rfl, ea, ra, La⟩
  have S2 := S1.share (o := .lst xs) La ea (show RepO KK G1 ρ1 (.lst ws) (.lst xs) from ra)
  have hr : (ρ1 ++ [a])[h1.length]? = some a := by
    rw [← S1.rl, List.getElem?_append_right (Nat.le_refl _), Nat.sub_self]; rfl
  exact q.ofV (.inl rfl) g1 (p1.trans (Ext.app _ _)) S2 (.ref hr)
theorem l_lst {es ps pos} (ih : SndEs P w KK mg base GG T k N es sc ps) : SndE P w KK mg base GG T k N (.lst es) sc (.List ps pos) := fun X O Pr G H ρ σ env h S hl d env' h' he Q q => by
  have he : (evs GG (callN GG T k) es env h >>= fun z => if lenOk z.1.length then R.ok (.lst z.1, z.2.1, z.2.2) else .bad) = .ok (d, env', h') := he
  obtain ⟨⟨ds, env1, h1⟩, e1, e2⟩ := R.bind_inv he
  obtain ⟨z, e3⟩ := ite_ok e2
  cases e3
  refine PE_w (pe_lst pa_w) (ih X O Pr G H ρ σ env h S hl _ _ _ e1 _ fun G1 ρ1 H1 vs sg sr S1 r => ⟨by rw [r.length]; exact sizeLine_le z, q.newL sg sr S1 r⟩)
theorem Pst.step {K : PySem.W.Frag} {Pr G G' : Hp} {ρ ρ' : List Addr} {σ : L2.St} {env : Env} {h : AH} {f : Bool} {d : D} {Q : VK} (q : Pst K Pr G ρ σ env h f d Q) (sg : Same G G') (sr : Ext ρ ρ') : Pst K Pr G' ρ' σ env h f d Q :=
  fun G2 ρ2 H2 v s2 r2 => q G2 ρ2 H2 v (sg.trans s2) (sr.trans r2)
theorem l_bin {op a b pa pb pos} (iha : SndE P w KK mg base GG T k N a sc pa) (ihb : SndE P w KK mg base GG T k N b sc pb) : SndE P w KK mg base GG T k N (.bin op a b) sc (.BinOp pa op.py pb pos) := fun X O Pr G H ρ σ env h S hl d env' h' he Q q => by
  have he : (ev GG (callN GG T k) a env h >>= fun z => ev GG (callN GG T k) b z.2.1 z.2.2 >>= fun y => binD op z.1 y.1 >>= fun d => R.ok (d, y.2.1, y.2.2)) = .ok (d, env', h') := he
  obtain ⟨⟨x, env1, h1⟩, e1, he⟩ := R.bind_inv he
  obtain ⟨⟨y, env2, h2⟩, e2, he⟩ := R.bind_inv he
  obtain ⟨dr, e3, he⟩ := R.bind_inv he
  cases he
  refine PE_w (pe_op op_w pe_w pe_w) (iha.v O S hl e1 fun G1 ρ1 H1 v1 g1 p1 S1 l1 r1 => ihb.v O S1 l1 e2 fun G2 ρ2 H2 v2 g2 p2 S2 l2 r2 => ?_)
  exact binD_ok O.hK e3 S2 (r1.mono g2 p2) r2 (q.step (g1.trans g2) (p1.trans p2))
theorem l_neg {a pa pos} (iha : SndE P w KK mg base GG T k N a sc pa) : SndE P w KK mg base GG T k N (.neg a) sc (.UnaryOp .USub pa pos) := fun X O Pr G H ρ σ env h S hl d env' h' he Q q => by
  have he : (ev GG (callN GG T k) a env h >>= fun z => intD z.1 >>= fun i => R.ok (.int (-i), z.2.1, z.2.2)) = .ok (d, env', h') := he
  obtain ⟨⟨x, env1, h1⟩, e1, he⟩ := R.bind_inv he
  obtain ⟨i, e2, he⟩ := R.bind_inv he
  cases he
  refine PE_w (pe_un un_neg pe_w) (iha.v O S hl e1 fun G1 ρ1 H1 v1 g1 p1 S1 l1 r1 => ?_)
  cases r1 <;> simp only [intD] at e2 <;> cases e2
  exact ⟨_, rfl, q.ofV (.inl rfl) g1 p1 S1 (.int _)⟩
theorem l_not {a pa pos} (iha : SndE P w KK mg base GG T k N a sc pa) : SndE P w KK mg base GG T k N (.not a) sc (.UnaryOp .Not pa pos) := fun X O Pr G H ρ σ env h S hl d env' h' he Q q => by
  have he : (ev GG (callN GG T k) a env h >>= fun z => EV.truthy z.2.2 z.1 >>= fun i => R.ok (.bl !i, z.2.1, z.2.2)) = .ok (d, env', h') := he
  obtain ⟨⟨x, env1, h1⟩, e1, he⟩ := R.bind_inv he
  obtain ⟨i, e2, he⟩ := R.bind_inv he
  cases he
  refine PE_w (pe_notT pe_w) (iha.v O S hl e1 fun G1 ρ1 H1 v1 g1 p1 S1 l1 r1 => ?_)
  exact ⟨_, truthy_ok O.hK e2 S1 r1, q.ofV (.inl rfl) g1 p1 S1 (.bl _)⟩
theorem l_cmp {op a b pa pb pos} (iha : SndE P w KK mg base GG T k N a sc pa) (ihb : SndE P w KK mg base GG T k N b sc pb) (hs : notSet pb = true) : SndE P w KK mg base GG T k N (.cmp op a b) sc (.Compare pa [op.py] [pb] pos) := fun X O Pr G H ρ σ env h S hl d env' h' he Q q => by
  have he : (ev GG (callN GG T k) a env h >>= fun z => ev GG (callN GG T k) b z.2.1 z.2.2 >>= fun y => cmpD y.2.2 op z.1 y.1 >>= fun d => R.ok (.bl d, y.2.1, y.2.2)) = .ok (d, env', h') := he
  obtain ⟨⟨x, env1, h1⟩, e1, he⟩ := R.bind_inv he
  obtain ⟨⟨y, env2, h2⟩, e2, he⟩ := R.bind_inv he
  obtain ⟨dr, e3, he⟩ := R.bind_inv he
  cases he
  refine PE_w (pe_cmpR op_w pe_w pe_w (notSet_marks hs)) (iha.v O S hl e1 fun G1 ρ1 H1 v1 g1 p1 S1 l1 r1 => ihb.v O S1 l1 e2 fun G2 ρ2 H2 v2 g2 p2 S2 l2 r2 => ?_)
  exact cmpD_ok O.hK O.x e3 S2 (r1.mono g2 p2) r2 (q.ofV (.inl rfl) (g1.trans g2) (p1.trans p2) S2 (.bl _))
theorem l_tcmp {op a b pa pb pos} (iha : SndE P w KK mg base GG T k N a sc pa) (ihb : SndE P w KK mg base GG T k N b sc pb) (hs : notSet pb = true) : SndT P w KK mg base GG T k N (.cmp op a b) sc (.Compare pa [op.py] [pb] pos) := fun X O Pr G H ρ σ env h S hl d env' h' he Q q => by
  have he : (ev GG (callN GG T k) a env h >>= fun z => ev GG (callN GG T k) b z.2.1 z.2.2 >>= fun y => cmpD y.2.2 op z.1 y.1 >>= fun d => R.ok (d, y.2.1, y.2.2)) = .ok (d, env', h') := he
  obtain ⟨⟨x, env1, h1⟩, e1, he⟩ := R.bind_inv he
  obtain ⟨⟨y, env2, h2⟩, e2, he⟩ := R.bind_inv he
  obtain ⟨dr, e3, he⟩ := R.bind_inv he
  cases he
  refine PT_w (pt_cmpR op_w pe_w pe_w (notSet_marks hs)) (iha.v O S hl e1 fun G1 ρ1 H1 v1 g1 p1 S1 l1 r1 => ihb.v O S1 l1 e2 fun G2 ρ2 H2 v2 g2 p2 S2 l2 r2 => ?_)
  exact cmpD_ok O.hK O.x e3 S2 (r1.mono g2 p2) r2 ⟨_, rfl, q _ _ _ (g1.trans g2) (p1.trans p2) S2⟩
theorem l_chain {o1 o2 a b c pa pb pc pos} (iha : SndE P w KK mg base GG T k N a sc pa) (ihb : SndE P w KK mg base GG T k N b sc pb) (ihc : SndE P w KK mg base GG T k N c sc pc) (hs : notSet pc = true) : SndE P w KK mg base GG T k N (.chain o1 o2 a b c) sc (.Compare pa [o1.py, o2.py] [pb, pc] pos) := fun X O Pr G H ρ σ env h S hl d env' h' he Q q => by
  have he : (ev GG (callN GG T k) a env h >>= fun z => ev GG (callN GG T k) b z.2.1 z.2.2 >>= fun y => cmpD y.2.2 o1 z.1 y.1 >>= fun r => if r then (ev GG (callN GG T k) c y.2.1 y.2.2 >>= fun u => cmpD u.2.2 o2 y.1 u.1 >>= fun d => R.ok (.bl d, u.2.1, u.2.2)) else .ok (.bl false, y.2.1, y.2.2)) = .ok (d, env', h') := he
  obtain ⟨⟨x, env1, h1⟩, e1, he⟩ := R.bind_inv he
  obtain ⟨⟨y, env2, h2⟩, e2, he⟩ := R.bind_inv he
  obtain ⟨r, e3, he⟩ := R.bind_inv he
  refine PE_w (pe_chain op_w op_w pe_w pe_w pe_w (notSet_marks2 hs)) (iha.v O S hl e1 fun G1 ρ1 H1 v1 g1 p1 S1 l1 r1 => ihb.v O S1 l1 e2 fun G2 ρ2 H2 v2 g2 p2 S2 l2 r2 => ?_)
  refine cmpD_ok O.hK O.x e3 S2 (r1.mono g2 p2) r2 ⟨r, rfl, ?_⟩
  cases r with
  | false =>
    cases he
    exact iteF (q.ofV (.inl rfl) (g1.trans g2) (p1.trans p2) S2 (.bl _))
  | true =>
    obtain ⟨⟨z, env3, h3⟩, e4, he⟩ := R.bind_inv (show (ev GG (callN GG T k) c env2 h2 >>= fun u => cmpD u.2.2 o2 y u.1 >>= fun d => R.ok (.bl d, u.2.1, u.2.2)) = .ok (d, env', h') from he)
    obtain ⟨r', e5, he⟩ := R.bind_inv he
    cases he
    refine iteT (ihc.v O S2 l2 e4 fun G3 ρ3 H3 v3 g3 p3 S3 l3 r3 => ?_)
    exact cmpD_ok O.hK O.x e5 S3 (r2.mono g3 p3) r3 (q.ofV (.inl rfl) ((g1.trans g2).trans g3) ((p1.trans p2).trans p3) S3 (.bl _))
theorem l_tchain {o1 o2 a b c pa pb pc pos} (iha : SndE P w KK mg base GG T k N a sc pa) (ihb : SndE P w KK mg base GG T k N b sc pb) (ihc : SndE P w KK mg base GG T k N c sc pc) (hs : notSet pc = true) : SndT P w KK mg base GG T k N (.chain o1 o2 a b c) sc (.Compare pa [o1.py, o2.py] [pb, pc] pos) := fun X O Pr G H ρ σ env h S hl d env' h' he Q q => by
  have he : (ev GG (callN GG T k) a env h >>= fun z => ev GG (callN GG T k) b z.2.1 z.2.2 >>= fun y => cmpD y.2.2 o1 z.1 y.1 >>= fun r => if r then (ev GG (callN GG T k) c y.2.1 y.2.2 >>= fun u => cmpD u.2.2 o2 y.1 u.1 >>= fun d => R.ok (d, u.2.1, u.2.2)) else .ok (false, y.2.1, y.2.2)) = .ok (d, env', h') := he
  obtain ⟨⟨x, env1, h1⟩, e1, he⟩ := R.bind_inv he
  obtain ⟨⟨y, env2, h2⟩, e2, he⟩ := R.bind_inv he
  obtain ⟨r, e3, he⟩ := R.bind_inv he
  refine PT_w (pt_chain op_w op_w pe_w pe_w pe_w (notSet_marks2 hs)) (iha.v O S hl e1 fun G1 ρ1 H1 v1 g1 p1 S1 l1 r1 => ihb.v O S1 l1 e2 fun G2 ρ2 H2 v2 g2 p2 S2 l2 r2 => ?_)
  refine cmpD_ok O.hK O.x e3 S2 (r1.mono g2 p2) r2 ⟨r, rfl, ?_⟩
  cases r with
  | false =>
    cases he
    exact iteF ⟨_, rfl, q _ _ _ (g1.trans g2) (p1.trans p2) S2⟩
  | true =>
    obtain ⟨⟨z, env3, h3⟩, e4, he⟩ := R.bind_inv (show (ev GG (callN GG T k) c env2 h2 >>= fun u => cmpD u.2.2 o2 y u.1 >>= fun d => R.ok (d, u.2.1, u.2.2)) = .ok (d, env', h') from he)
    obtain ⟨r', e5, he⟩ := R.bind_inv he
    cases he
    refine iteT (ihc.v O S2 l2 e4 fun G3 ρ3 H3 v3 g3 p3 S3 l3 r3 => ?_)
    exact cmpD_ok O.hK O.x e5 S3 (r2.mono g3 p3) r3 ⟨_, rfl, q _ _ _ ((g1.trans g2).trans g3) ((p1.trans p2).trans p3) S3⟩
theorem l_ite {c a b pc pa pb pos} (ihc : SndT P w KK mg base GG T k N c sc pc) (iha : SndE P w KK mg base GG T k N a sc pa) (ihb : SndE P w KK mg base GG T k N b sc pb) : SndE P w KK mg base GG T k N (.ite c a b) sc (.IfExp pc pa pb pos) := fun X O Pr G H ρ σ env h S hl d env' h' he Q q => by
  have he : (evt GG (callN GG T k) c env h >>= fun z => if z.1 then ev GG (callN GG T k) a z.2.1 z.2.2 else ev GG (callN GG T k) b z.2.1 z.2.2) = .ok (d, env', h') := he
  obtain ⟨⟨r, env1, h1⟩, e1, he⟩ := R.bind_inv he
  refine PE_w (pe_ifExp pt_w pe_w pe_w) (ihc X O Pr G H ρ σ env h S hl _ _ _ e1 _ fun G1 ρ1 H1 g1 p1 S1 => ?_)
  have l1 := len_of S hl S1
  have q' := q.step g1 p1
  cases r with
  | true =>
    refine iteT (iha X O Pr G1 H1 ρ1 σ env1 h1 S1 l1 _ _ _ he Q ?_)
    cases hf : fr a && fr b with
    | true =>
      have : fr (.ite c a b) = fr a := by rw [Bool.and_eq_true] at hf; show (fr a && fr b) = _; rw [hf.1, hf.2]; rfl
      rw [this] at q'; exact q'
    | false =>
      have : fr (.ite c a b) = false := hf
      rw [this] at q'; exact q'.any
  | false =>
    refine iteF (ihb X O Pr G1 H1 ρ1 σ env1 h1 S1 l1 _ _ _ he Q ?_)
    cases hf : fr a && fr b with
    | true =>
      have : fr (.ite c a b) = fr b := by rw [Bool.and_eq_true] at hf; show (fr a && fr b) = _; rw [hf.1, hf.2]; rfl
      rw [this] at q'; exact q'
    | false =>
      have : fr (.ite c a b) = false := hf
      rw [this] at q'; exact q'.any
theorem l_call (hC : ∀ f fd, T f = some fd → ∃ fa fdat ps, CallOk P w KK mg base GG T k f fa fdat ps) {f es ps p pos} (hg : glB sc f = true) (hn : nameOk f = true) (ih : SndEs P w KK mg base GG T k N es sc ps) (hp : allPlain ps = true) (hz : ps = [] → es = .nil) :
    SndE P w KK mg base GG T k N (.call f es) sc (.Call (.Name f p) ps [] pos) := fun X O Pr G H ρ σ env h S hl d env' h' he Q q => by
  have he : (evs GG (callN GG T k) es env h >>= fun z => callN GG T k f z.1 z.2.2 >>= fun y => R.ok (y.1, z.2.1, y.2)) = .ok (d, env', h') := he
  obtain ⟨⟨ds, env1, h1⟩, e1, he⟩ := R.bind_inv he
  obtain ⟨⟨dr, h2⟩, e2, he⟩ := R.bind_inv he
  cases he
  obtain ⟨fd, hT⟩ := callN_T e2
  obtain ⟨fa, fdat, pn, C⟩ := hC f fd hT
  have hm : X.mg f = some (.ref fa) := by rw [O.hmg]; exact C.m
  have hk : PySem.W.keepIn X.K (.ref fa) = true := by rw [O.hK]; exact C.kp
  cases ps with
  | nil =>
    obtain rfl := hz rfl
    cases e1
    exact wE_own0 (O.gl hg) hm hk (nameOk_of hn).1 (call_w O C S .nil e2 q)
  | cons a as =>
    exact wE_own (O.gl hg) hm hk (nameOk_of hn).1 hp (ih X O Pr G H ρ σ env h S hl _ _ _ e1 _ fun G1 ρ1 H1 vs sg sr S1 r => call_w O C S1 r e2 (q.step sg sr))

theorem l_callv (M : ModOk KK mg GG NB) (hC : ∀ f fd, T f = some fd → ∃ fa fdat ps, CallOk P w KK mg base GG T k f fa fdat ps) {i es x a ps p pos} (hs : slotB sc N i x = true) (ih : SndEs P w KK mg base GG T k N es sc (a :: ps)) (hp : allPlain (a :: ps) = true) :
    SndE P w KK mg base GG T k N (.callv i es) sc (.Call (.Name x p) (a :: ps) [] pos) := fun X O Pr G H ρ σ env h S hl d env' h' he Q q => by
  have he : (fnS env i >>= fun f => evs GG (callN GG T k) es env h >>= fun z => callN GG T k f z.1 z.2.2 >>= fun y => R.ok (y.1, z.2.1, y.2)) = .ok (d, env', h') := he
  obtain ⟨f, e0, he⟩ := R.bind_inv he
  obtain ⟨⟨ds, env1, h1⟩, e1, he⟩ := R.bind_inv he
  obtain ⟨⟨dr, h2⟩, e2, he⟩ := R.bind_inv he
  cases he
  obtain ⟨fd, hT⟩ := callN_T e2
  obtain ⟨fa, fdat, pn, C⟩ := hC f fd hT
  unfold fnS at e0
  split at e0
  · rename_i f' eo
    cases e0
    obtain ⟨v, ev, rv⟩ := S.val i _ eo
    cases rv with
    | @fn b _ hn =>
      have hm := M.nm _ _ hn
      rw [C.m] at hm
      cases hm
      have hk : PySem.W.keepIn X.K (.ref fa) = true := by rw [O.hK]; exact C.kp
      exact wE_loc (pe_slot O hs) ev hk hp (ih X O Pr G H ρ σ env h S hl _ _ _ e1 _ fun G1 ρ1 H1 vs sg sr S1 r => (call_w O C S1 r e2 (by
        refine Pst.false_of fun G2 ρ2 H2 v2 g2 p2 S2 r2 => ?_
        exact q.ofV (.inl rfl) (sg.trans g2) (sr.trans p2) S2 r2)))
  · cases e0
theorem l_blt (M : ModOk KK mg GG NB) {f : String} {es a ps p pos} (hg : glB sc (Str.ofString f) = true) (hf : f ∈ NB) (hb : f ∈ bltNames) (ih : SndEs P w KK mg base GG T k N es sc (a :: ps)) (hp : allPlain (a :: ps) = true) :
    SndE P w KK mg base GG T k N (.blt f es) sc (.Call (.Name (Str.ofString f) p) (a :: ps) [] pos) := fun X O Pr G H ρ σ env h S hl d env' h' he Q q => by
  have he : (evs GG (callN GG T k) es env h >>= fun z => bltD z.2.2 f z.1 >>= fun y => R.ok (y, z.2.1, z.2.2)) = .ok (d, env', h') := he
  obtain ⟨⟨ds, env1, h1⟩, e1, he⟩ := R.bind_inv he
  obtain ⟨dr, e2, he⟩ := R.bind_inv he
  cases he
  have hm : X.mg (Str.ofString f) = none := by rw [O.hmg]; exact M.nb f hf
  exact wE_blt (O.gl hg) hm (boot_names f hb) (blt_plain f hb).1 (blt_plain f hb).2 hp (ih X O Pr G H ρ σ env h S hl _ _ _ e1 _ fun G1 ρ1 H1 vs sg sr S1 r => (blt_ok O.hK O.x e2 S1 r (q.step sg sr)).2)
theorem l_lenb (M : ModOk KK mg GG NB) {i x p p2 pos} (hg : glB sc "len" = true) (hf : "len" ∈ NB) (hs : slotB sc N i x = true) : SndE P w KK mg base GG T k N (.lenb i) sc (.Call (.Name "len" p) [.Name x p2] [] pos) := fun X O Pr G H ρ σ env h S hl d env' h' he Q q => by
  have he : (getL env i >>= fun xs => R.ok (.int xs.length, env, h)) = .ok (d, env', h') := he
  obtain ⟨xs, e1, he⟩ := R.bind_inv he
  cases he
  obtain ⟨a, vs, ea, eh, r⟩ := S.getL e1
  have hm : X.mg "len" = none := by rw [O.hmg]; exact M.nb "len" hf
  refine wE_blt (f := "len") (O.gl hg) hm (boot_names "len" (by decide)) (blt_plain "len" (by decide)).1 (blt_plain "len" (by decide)).2 rfl ?_
  refine PA_w (pa_cons (pe_slot O hs) pa_nil rfl) ⟨_, ea, ?_⟩
  refine CallR_w call_len ⟨_, _, rfl, .inl ⟨_, .inl (.inl eh), rfl⟩, ?_⟩
  rw [r.length]
  exact q.ofV (.inl rfl) (Same.refl _) (Ext.refl _) S (.int _)
theorem l_lstb (M : ModOk KK mg GG NB) {i x p p2 pos} (hg : glB sc "list" = true) (hf : "list" ∈ NB) (hs : slotB sc N i x = true) : SndE P w KK mg base GG T k N (.lstb i) sc (.Call (.Name "list" p) [.Name x p2] [] pos) := fun X O Pr G H ρ σ env h S hl d env' h' he Q q => by
  have he : (getL env i >>= fun xs => R.ok (.lst xs, env, h)) = .ok (d, env', h') := he
  obtain ⟨xs, e1, he⟩ := R.bind_inv he
  cases he
  obtain ⟨a, vs, ea, eh, r⟩ := S.getL e1
  have hm : X.mg "list" = none := by rw [O.hmg]; exact M.nb "list" hf
  refine wE_blt (f := "list") (O.gl hg) hm (boot_names "list" (by decide)) (blt_plain "list" (by decide)).1 (blt_plain "list" (by decide)).2 rfl ?_
  refine PA_w (pa_cons (pe_slot O hs) pa_nil rfl) ⟨_, ea, ?_⟩
  exact CallR_w call_list_of ⟨_, _, rfl, .inl (.inl (.inl eh)), q.newL (Same.refl _) (Ext.refl _) S r⟩
theorem l_repb (M : ModOk KK mg GG NB) {i x p p2 pos} (hg : glB sc "repr" = true) (hf : "repr" ∈ NB) (hs : slotB sc N i x = true) : SndE P w KK mg base GG T k N (.repb i) sc (.Call (.Name "repr" p) [.Name x p2] [] pos) := fun X O Pr G H ρ σ env h S hl d env' h' he Q q => by
  have he : (getL env i >>= fun xs => if ((D.lst xs).okq && PyData.showable (D.lst xs).py && lenOk (PyData.shown (D.lst xs).py).length) = true then R.ok (D.str (PyData.shown (D.lst xs).py), env, h) else .bad) = .ok (d, env', h') := he
  obtain ⟨xs, e1, he⟩ := R.bind_inv he
  obtain ⟨h1, e2⟩ := ite_ok he
  cases e2
  simp only [Bool.and_eq_true] at h1
  obtain ⟨⟨ok, sw⟩, hz⟩ := h1
  obtain ⟨a, vs, ea, eh, r⟩ := S.getL e1
  simp only [D.okq, Bool.and_eq_true] at ok
  have dp : Dp X.K H (.ref a) (D.lst xs).py := by
    rw [O.hK]
    exact .lst (SqL.of eh) (DpAll.mono S.sub (RepL.dp r (by simpa [D.pure] using ok.1)))
  have hm : X.mg "repr" = none := by rw [O.hmg]; exact M.nb "repr" hf
  refine wE_blt (f := "repr") (O.gl hg) hm (boot_names "repr" (by decide)) (blt_plain "repr" (by decide)).1 (blt_plain "repr" (by decide)).2 rfl ?_
  refine PA_w (pa_cons (pe_slot O hs) pa_nil rfl) ⟨_, ea, ?_⟩
  exact CallR_w (call_reprD O.x) ⟨_, _, rfl, dp, ok.2, sw, sizeLine_le hz, q.ofV (.inl rfl) (Same.refl _) (Ext.refl _) S (.str _)⟩
theorem l_inb {neg a i pa x p pos} (iha : SndE P w KK mg base GG T k N a sc pa) (hs : slotB sc N i x = true) : SndE P w KK mg base GG T k N (.inb neg a i) sc (.Compare pa [(if neg then Cm.notin else Cm.isin).py] [.Name x p] pos) := fun X O Pr G H ρ σ env h S hl d env' h' he Q q => by
  have he : (ev GG (callN GG T k) a env h >>= fun z => getL z.2.1 i >>= fun xs => anyD z.1 xs >>= fun r => R.ok (.bl (r != neg), z.2.1, z.2.2)) = .ok (d, env', h') := he
  obtain ⟨⟨y, env1, h1⟩, e1, he⟩ := R.bind_inv he
  obtain ⟨xs, e2, he⟩ := R.bind_inv he
  obtain ⟨b, e3, he⟩ := R.bind_inv he
  cases he
  refine PE_w (pe_cmpR op_w pe_w (pe_slot O hs) rfl) (iha.v O S hl e1 fun G1 ρ1 H1 v1 g1 p1 S1 l1 r1 => ?_)
  obtain ⟨c, vs, ea, eh, r⟩ := S1.getL e2
  refine ⟨_, ea, ?_⟩
  unfold anyD at e3
  obtain ⟨q1, rfl⟩ := ite_ok e3
  rw [Bool.and_eq_true] at q1
  obtain ⟨p2, p3⟩ := okq_dp S1 r1 q1.1
  have q4 := q1.2
  simp only [D.okq, Bool.and_eq_true, D.pure] at q4
  have dp : Dp KK H1 (.ref c) (.list (D.pys xs)) := .lst (.inl (.inl eh)) (EV.DpAll.mono S1.sub (r.dp q4.1))
  have hu : X.A.units + 65 < cLine := by have := O.x.hu; omega
  have hK := O.hK
  rw [← hK] at p2 dp
  have fin := q.ofV (.inl rfl) g1 p1 S1 (.bl _)
  cases neg with
  | false =>
    refine OpR_w (op_inD hu) ⟨_, _, p2, dp, p3, q4.2, ?_⟩
    rw [any_py]
    simpa using fin
  | true =>
    refine OpR_w (op_notInD hu) ⟨_, _, p2, dp, p3, q4.2, ?_⟩
    rw [any_py]
    simpa using fin
theorem t_inb {neg a i pa x p pos} (iha : SndE P w KK mg base GG T k N a sc pa) (hs : slotB sc N i x = true) : SndT P w KK mg base GG T k N (.inb neg a i) sc (.Compare pa [(if neg then Cm.notin else Cm.isin).py] [.Name x p] pos) := fun X O Pr G H ρ σ env h S hl d env' h' he Q q => by
  have he : (ev GG (callN GG T k) a env h >>= fun z => getL z.2.1 i >>= fun xs => anyD z.1 xs >>= fun r => R.ok (r != neg, z.2.1, z.2.2)) = .ok (d, env', h') := he
  obtain ⟨⟨y, env1, h1⟩, e1, he⟩ := R.bind_inv he
  obtain ⟨xs, e2, he⟩ := R.bind_inv he
  obtain ⟨b, e3, he⟩ := R.bind_inv he
  cases he
  refine PT_w (pt_cmpR op_w pe_w (pe_slot O hs) rfl) (iha.v O S hl e1 fun G1 ρ1 H1 v1 g1 p1 S1 l1 r1 => ?_)
  obtain ⟨c, vs, ea, eh, r⟩ := S1.getL e2
  refine ⟨_, ea, ?_⟩
  unfold anyD at e3
  obtain ⟨q1, rfl⟩ := ite_ok e3
  rw [Bool.and_eq_true] at q1
  obtain ⟨p2, p3⟩ := okq_dp S1 r1 q1.1
  have q4 := q1.2
  simp only [D.okq, Bool.and_eq_true, D.pure] at q4
  have dp : Dp KK H1 (.ref c) (.list (D.pys xs)) := .lst (.inl (.inl eh)) (EV.DpAll.mono S1.sub (r.dp q4.1))
  have hu : X.A.units + 65 < cLine := by have := O.x.hu; omega
  have hK := O.hK
  rw [← hK] at p2 dp
  have fin := q _ _ _ g1 p1 S1
  cases neg with
  | false =>
    refine OpR_w (op_inD hu) ⟨_, _, p2, dp, p3, q4.2, _, rfl, ?_⟩
    rw [any_py]
    simpa using fin
  | true =>
    refine OpR_w (op_notInD hu) ⟨_, _, p2, dp, p3, q4.2, _, rfl, ?_⟩
    rw [any_py]
    simpa using fin
theorem l_isi (M : ModOk KK mg GG NB) {a tys pa pt p pos} (hg : glB sc "isinstance" = true) (hf : "isinstance" ∈ NB) (iha : SndE P w KK mg base GG T k N a sc pa) (hpa : notStar pa = true) (hts : ∀ t ∈ tys, t ∈ NB) (hl8 : tys.length ≤ 8)
    (hpt : (∃ y pp, pt = .Name y pp ∧ tysB sc tys [.Name y pp] = true) ∨ ∃ ts kk pp, pt = .Tuple ts kk pp ∧ tysB sc tys ts = true) : SndE P w KK mg base GG T k N (.isi a tys) sc (.Call (.Name "isinstance" p) [pa, pt] [] pos) := fun X O Pr G H ρ σ env h S hl d env' h' he Q q => by
  have he : (ev GG (callN GG T k) a env h >>= fun z => isTys z.2.2 z.1 tys >>= fun r => R.ok (.bl r, z.2.1, z.2.2)) = .ok (d, env', h') := he
  obtain ⟨⟨y, env1, h1⟩, e1, he⟩ := R.bind_inv he
  obtain ⟨b, e2, he⟩ := R.bind_inv he
  cases he
  unfold isTys at e2
  split at e2
  · rename_i kd ek
    cases e2
    have hm : X.mg "isinstance" = none := by rw [O.hmg]; exact M.nb "isinstance" hf
    have hK := O.hK
    have tyn : ∀ {ps}, tysB sc tys ps = true → ∀ t ∈ tys, t ∈ tyNames := fun {ps} => by
      have key : ∀ (tys : List String) (ps : List Expr), tysB sc tys ps = true → ∀ t ∈ tys, t ∈ tyNames := fun tys => by
        induction tys with
        | nil => intro _ _ t ht; simp at ht
        | cons t ts ih =>
          intro ps hh u hu
          cases ps with
          | nil => simp [tysB] at hh
          | cons p ps =>
            cases p with
            | Name x pos =>
              simp only [tysB, Bool.and_eq_true, decide_eq_true_eq] at hh
              rcases List.mem_cons.mp hu with rfl | hu
              · exact hh.1.1.2
              · exact ih ps hh.2 u hu
            | _ => simp [tysB] at hh
      exact key tys ps
    rcases hpt with ⟨z, pp, rfl, ht⟩ | ⟨ts, kk, pp, rfl, ht⟩
    · -- one type
      have pt := tys_pa M O ht hts
      have hn := tyn ht
      cases tys with
      | nil => simp [tysB] at ht
      | cons t ts =>
        cases ts with
        | cons t2 ts => simp [tysB] at ht
        | nil =>
          refine PE_w (pe_callB call_isi (O.gl hg) hm boot_isi (pa_cons pe_w pt (starEach_cons hpa)) (by decide) (by decide) (starEach_cons hpa) rfl) (iha.v O S hl e1 fun G1 ρ1 H1 v1 g1 p1 S1 l1 r1 => ?_)
          obtain ⟨ty, hk⟩ := tyx_of ek S1 r1
          refine ⟨_, _, _, _, _, rfl, .ty t, by rw [hK]; exact ty, kit_ty (kit_table _ hk t (hn t List.mem_cons_self)), ?_⟩
          have := q.ofV (.inl rfl) g1 p1 S1 (.bl _)
          simpa using this
    · -- several
      have pt := tys_pa M O ht hts
      have hn := tyn ht
      refine PE_w (pe_callB call_isiT (O.gl hg) hm boot_isi (pa_cons pe_w (pa_cons (pe_tup pt) pa_nil rfl) (starEach_cons hpa)) (by decide) (by decide) (starEach_cons hpa) rfl) (iha.v O S hl e1 fun G1 ρ1 H1 v1 g1 p1 S1 l1 r1 => ?_)
      refine ⟨by rw [List.length_map, sizeLine_eq]; omega, fun t np => ?_⟩
      have S2 := S1.setL (u := .tup (tys.map V.ty)) (S1.lone np)
      obtain ⟨ty, hk⟩ := tyx_of ek S2 r1
      exact ⟨_, _, _, _, _, _, rfl, upd_same, clsV_tys tys, by rw [hK]; exact ty, kitAny_table hk tys hn, q.ofV (.inl rfl) g1 p1 S2 (.bl _)⟩
  · cases e2
theorem l_ix {a b pa pb pos} (iha : SndE P w KK mg base GG T k N a sc pa) (ihb : SndE P w KK mg base GG T k N b sc pb) (hb : notSlice pb = true) : SndE P w KK mg base GG T k N (.ix a b) sc (.Subscript pa pb pos) := fun X O Pr G H ρ σ env h S hl d env' h' he Q q => by
  have he : (ev GG (callN GG T k) a env h >>= fun z => ev GG (callN GG T k) b z.2.1 z.2.2 >>= fun y => ixD y.2.2 z.1 y.1 >>= fun d => R.ok (d, y.2.1, y.2.2)) = .ok (d, env', h') := he
  obtain ⟨⟨x, env1, h1⟩, e1, he⟩ := R.bind_inv he
  obtain ⟨⟨y, env2, h2⟩, e2, he⟩ := R.bind_inv he
  obtain ⟨dr, e3, he⟩ := R.bind_inv he
  cases he
  by_cases hr : ∃ n kvs, x = .ref n ∧ h2[n]? = some (.dct kvs)
  · obtain ⟨n, kvs, rfl, ho⟩ := hr
    have hu : X.A.units + 1 < cLine := by have := O.x.hu; omega
    refine PE_w (pe_dget hu pe_w pe_w (notSlice_nosl hb)) (iha.v O S hl e1 fun G1 ρ1 H1 v1 g1 p1 S1 l1 r1 => ihb.v O S1 l1 e2 fun G2 ρ2 H2 v2 g2 p2 S2 l2 r2 => ?_)
    simp only [ixD, ho] at e3
    split at e3
    · rename_i ky hk
      have r1' := r1.mono g2 p2
      cases r1' with
      | ref hn =>
        obtain ⟨u, h3, h4, _⟩ := S2.hp _ _ _ hn ho
        cases u <;> simp only [RepO] at h4
        obtain ⟨v, e4, r3⟩ := find_rep ky h4.1 h4.2 (ofO_inv e3)
        have := key_rep hk r2
        subst this
        refine ⟨_, v, rfl, ?_, q.ofV (.inl rfl) (g1.trans g2) (p1.trans p2) S2 r3⟩
        rw [← e4]
        exact DGet.k h3
    · cases e3
  · by_cases hz : ∃ n kvs, x = .ref n ∧ h2[n]? = some (.fz kvs)
    · obtain ⟨n, kvs, rfl, ho⟩ := hz
      have hu : X.A.units + 1 < cLine := by have := O.x.hu; omega
      refine PE_w (pe_dget hu pe_w pe_w (notSlice_nosl hb)) (iha.v O S hl e1 fun G1 ρ1 H1 v1 g1 p1 S1 l1 r1 => ihb.v O S1 l1 e2 fun G2 ρ2 H2 v2 g2 p2 S2 l2 r2 => ?_)
      simp only [ixD, ho] at e3
      split at e3
      · rename_i ky hk
        have r1' := r1.mono g2 p2
        cases r1' with
        | ref hn =>
          obtain ⟨ob, ks, h3, h4, h5⟩ := S2.hz _ _ _ hn ho
          obtain ⟨v, e4, r3⟩ := find_rep ky h4 h5 (ofO_inv e3)
          have := key_rep hk r2
          subst this
          refine ⟨_, v, rfl, ?_, q.ofV (.inl rfl) (g1.trans g2) (p1.trans p2) S2 r3⟩
          rw [← e4]
          exact DGet.f (S2.sub _ _ h3)
      · cases e3
    by_cases hd : ∃ kvs, x = .dct kvs
    · obtain ⟨kvs, rfl⟩ := hd
      have hu : X.A.units + 1 < cLine := by have := O.x.hu; omega
      refine PE_w (pe_dget hu pe_w pe_w (notSlice_nosl hb)) (iha.v O S hl e1 fun G1 ρ1 H1 v1 g1 p1 S1 l1 r1 => ihb.v O S1 l1 e2 fun G2 ρ2 H2 v2 g2 p2 S2 l2 r2 => ?_)
      simp only [ixD] at e3
      split at e3
      · rename_i ky hk
        obtain ⟨i, e4, rfl⟩ := Option.map_eq_some_iff.mp (ofO_inv e3)
        have r1' := r1.mono g2 p2
        cases r1' with
        | dct hg =>
          have := key_rep hk r2
          subst this
          refine ⟨_, V.int i, rfl, ?_, q.ofV (.inl rfl) (g1.trans g2) (p1.trans p2) S2 (.int _)⟩
          rw [← look_val ky e4]
          exact DGet.f (S2.sub _ _ hg)
      · cases e3
    refine PE_w (pe_ix ix_seq pe_w pe_w (notSlice_plain hb)) (iha.v O S hl e1 fun G1 ρ1 H1 v1 g1 p1 S1 l1 r1 => ihb.v O S1 l1 e2 fun G2 ρ2 H2 v2 g2 p2 S2 l2 r2 => ?_)
    by_cases hl2 : ∃ n, x = .ref n
    · obtain ⟨n, rfl⟩ := hl2
      simp only [ixD] at e3
      split at e3
      · rename_i kvs ho
        exact absurd ⟨n, kvs, rfl, ho⟩ hr
      · rename_i xs ho
        split at e3
        · have r1' := r1.mono g2 p2
          cases r1' with
          | ref hn =>
            obtain ⟨u, h3, h4, _⟩ := S2.hp _ _ _ hn ho
            cases u <;> simp only [RepO] at h4
            cases r2
            obtain ⟨v, e4, r3⟩ := RepL.atI h4 (ofO_inv e3)
            exact .inl ⟨_, _, _, _, rfl, rfl, .inl (.inl h3), e4, q.ofV (.inl rfl) (g1.trans g2) (p1.trans p2) S2 r3⟩
        · cases e3
      · rename_i kvs ho
        exact absurd ⟨n, kvs, rfl, ho⟩ hz
      · cases e3
    have z := ix_ok_seq O.hK e3 (fun n e => hl2 ⟨n, e⟩) (fun n e => hd ⟨n, e⟩) S2 (r1.mono g2 p2) r2 (q.step (g1.trans g2) (p1.trans p2))
    rw [O.hK] at z ⊢
    exact z
theorem l_ixb {i b x p pb pos} (hs : slotB sc N i x = true) (ihb : SndE P w KK mg base GG T k N b sc pb) (hb : notSlice pb = true) : SndE P w KK mg base GG T k N (.ixb i b) sc (.Subscript (.Name x p) pb pos) := fun X O Pr G H ρ σ env h S hl d env' h' he Q q => by
  have he : (getL env i >>= fun _ => ev GG (callN GG T k) b env h >>= fun y => getL y.2.1 i >>= fun xs => ixD y.2.2 (.lst xs) y.1 >>= fun d => R.ok (d, y.2.1, y.2.2)) = .ok (d, env', h') := he
  obtain ⟨xs0, e0, he⟩ := R.bind_inv he
  obtain ⟨⟨y, env2, h2⟩, e2, he⟩ := R.bind_inv he
  obtain ⟨xs, e1, he⟩ := R.bind_inv he
  obtain ⟨dr, e3, he⟩ := R.bind_inv he
  cases he
  obtain ⟨a, vs, ea, _⟩ := S.getL e0
  refine PE_w (pe_ix ix_seq (pe_slot O hs) pe_w (notSlice_plain hb)) ⟨_, ea, ihb.v O S hl e2 fun G2 ρ2 H2 v2 g2 p2 S2 l2 r2 => ?_⟩
  have z := ix_ok_own O.hK e1 e3 S2 ea r2 (q.step g2 p2)
  rw [O.hK] at z ⊢
  exact z
theorem l_sl {a lo hi pa pl pu pos p2} (iha : SndE P w KK mg base GG T k N a sc pa) (ihl : SndO P w KK mg base GG T k N lo sc pl) (ihu : SndO P w KK mg base GG T k N hi sc pu) : SndE P w KK mg base GG T k N (.sl a lo hi) sc (.Subscript pa (.Slice pl pu none p2) pos) := fun X O Pr G H ρ σ env h S hl d env' h' he Q q => by
  have he : (ev GG (callN GG T k) a env h >>= fun z => evo GG (callN GG T k) lo z.2.1 z.2.2 >>= fun y => evo GG (callN GG T k) hi y.2.1 y.2.2 >>= fun u => slD z.1 y.1 u.1 >>= fun d => R.ok (d, u.2.1, u.2.2)) = .ok (d, env', h') := he
  obtain ⟨⟨x, env1, h1⟩, e1, he⟩ := R.bind_inv he
  obtain ⟨⟨l, env2, h2⟩, e2, he⟩ := R.bind_inv he
  obtain ⟨⟨u, env3, h3⟩, e3, he⟩ := R.bind_inv he
  obtain ⟨dr, e4, he⟩ := R.bind_inv he
  cases he
  have go : ∀ {r}, SlR X r → (∀ G3 ρ3 H3 v, Same G G3 → Ext ρ ρ3 → SR KK Pr G3 H3 ρ3 σ env3 h3 → RepV KK G3 ρ3 v x → r v l u H3 Q) → wE X (.Subscript pa (.Slice pl pu none p2) pos) σ H Q := fun {r} hr hh =>
    PE_w (pe_slice hr pe_w po_w po_w) (iha.v O S hl e1 fun G1 ρ1 H1 v1 g1 p1 S1 l1 r1 => ihl X O Pr G1 H1 ρ1 σ env1 h1 S1 l1 _ _ _ e2 _ fun G2 ρ2 H2 g2 p2 S2 =>
      ihu X O Pr G2 H2 ρ2 σ env2 h2 S2 (len_of S hl S2) _ _ _ e3 _ fun G3 ρ3 H3 g3 p3 S3 => hh G3 ρ3 H3 v1 ((g1.trans g2).trans g3) ((p1.trans p2).trans p3) S3 ((r1.mono g2 p2).mono g3 p3))
  have key : ∀ G3 ρ3 H3 v, Same G G3 → Ext ρ ρ3 → SR KK Pr G3 H3 ρ3 σ env3 h3 → RepV KK G3 ρ3 v x → _ := fun G3 ρ3 H3 v g3 p3 S3 r3 => sl_ok O.hK e4 S3 r3 (q.step g3 p3)
  cases x with
  | tup ds =>
    refine go sl_tupN fun G3 ρ3 H3 v g3 p3 S3 r3 => ?_
    rcases key G3 ρ3 H3 v g3 p3 S3 r3 with ⟨_, e, z⟩ | ⟨_, e, z⟩ | ⟨_, e, z⟩ <;> first | exact z | (cases e; done)
  | lst ds =>
    refine go sl_list fun G3 ρ3 H3 v g3 p3 S3 r3 => ?_
    rcases key G3 ρ3 H3 v g3 p3 S3 r3 with ⟨_, e, z⟩ | ⟨_, e, z⟩ | ⟨_, e, z⟩ <;> first | exact z | (cases e; done)
  | str ds =>
    refine go sl_str fun G3 ρ3 H3 v g3 p3 S3 r3 => ?_
    rcases key G3 ρ3 H3 v g3 p3 S3 r3 with ⟨_, e, z⟩ | ⟨_, e, z⟩ | ⟨_, e, z⟩ <;> first | exact z | (cases e; done)
  | _ => cases e4
theorem l_slb {i lo hi x p pl pu pos p2} (hs : slotB sc N i x = true) (ihl : SndO P w KK mg base GG T k N lo sc pl) (ihu : SndO P w KK mg base GG T k N hi sc pu) : SndE P w KK mg base GG T k N (.slb i lo hi) sc (.Subscript (.Name x p) (.Slice pl pu none p2) pos) := fun X O Pr G H ρ σ env h S hl d env' h' he Q q => by
  have he : (getL env i >>= fun _ => evo GG (callN GG T k) lo env h >>= fun y => evo GG (callN GG T k) hi y.2.1 y.2.2 >>= fun u => getL u.2.1 i >>= fun xs => slD (.lst xs) y.1 u.1 >>= fun d => R.ok (d, u.2.1, u.2.2)) = .ok (d, env', h') := he
  obtain ⟨xs0, e0, he⟩ := R.bind_inv he
  obtain ⟨⟨l, env2, h2⟩, e2, he⟩ := R.bind_inv he
  obtain ⟨⟨u, env3, h3⟩, e3, he⟩ := R.bind_inv he
  obtain ⟨xs, e1, he⟩ := R.bind_inv he
  obtain ⟨dr, e4, he⟩ := R.bind_inv he
  cases he
  obtain ⟨a, vs, ea, _⟩ := S.getL e0
  refine PE_w (pe_slice sl_list (pe_slot O hs) po_w po_w) ⟨_, ea, ihl X O Pr G H ρ σ env h S hl _ _ _ e2 _ fun G2 ρ2 H2 g2 p2 S2 =>
    ihu X O Pr G2 H2 ρ2 σ env2 h2 S2 (len_of S hl S2) _ _ _ e3 _ fun G3 ρ3 H3 g3 p3 S3 => ?_⟩
  exact sl_ok_own O.hK e1 e4 S3 ea (q.step (g2.trans g3) (p2.trans p3))
theorem l_rev {a pa kk q1 q2 q3 pos} (iha : SndE P w KK mg base GG T k N a sc pa) : SndE P w KK mg base GG T k N (.rev a) sc (.Subscript pa (.Slice none none (some (.UnaryOp .USub (.Constant (.int 1) kk q1) q2)) q3) pos) := fun X O Pr G H ρ σ env h S hl d env' h' he Q q => by
  have he : (ev GG (callN GG T k) a env h >>= fun z => revD z.1 >>= fun d => R.ok (d, z.2.1, z.2.2)) = .ok (d, env', h') := he
  obtain ⟨⟨x, env1, h1⟩, e1, he⟩ := R.bind_inv he
  obtain ⟨dr, e2, he⟩ := R.bind_inv he
  cases he
  refine PE_w (pe_rev pe_w) (iha.v O S hl e1 fun G1 ρ1 H1 v1 g1 p1 S1 l1 r1 => ?_)
  cases r1 with
  | lst ha ra =>
    cases e2
    exact ⟨_, _, rfl, .inl ⟨.inl (.inl (S1.sub _ _ ha)), q.newL g1 p1 S1 ra.reverse⟩⟩
  | tup ha ra =>
    cases e2
    exact ⟨_, _, rfl, .inr ⟨by rw [O.hK]; exact S1.sqT ha, q.newT g1 p1 S1 ra.reverse⟩⟩
  | _ => cases e2
theorem o_no : SndO P w KK mg base GG T k N .no sc none := fun X O Pr G H ρ σ env h S hl o env' h' he Q q => by
  cases he
  exact q _ _ _ (Same.refl _) (Ext.refl _) S
theorem o_so {e p} (ih : SndE P w KK mg base GG T k N e sc p) : SndO P w KK mg base GG T k N (.so e) sc (some p) := fun X O Pr G H ρ σ env h S hl o env' h' he Q q => by
  have he : (ev GG (callN GG T k) e env h >>= fun z => intD z.1 >>= fun i => R.ok (some i, z.2.1, z.2.2)) = .ok (o, env', h') := he
  obtain ⟨⟨x, env1, h1⟩, e1, he⟩ := R.bind_inv he
  obtain ⟨i, e2, he⟩ := R.bind_inv he
  cases he
  refine ih.v O S hl e1 fun G1 ρ1 H1 v1 g1 p1 S1 l1 r1 => ?_
  cases r1 <;> simp only [intD] at e2 <;> cases e2
  exact ⟨_, rfl, q _ _ _ g1 p1 S1⟩
theorem s_nil : SndEs P w KK mg base GG T k N .nil sc [] := fun X O Pr G H ρ σ env h S hl o env' h' he Q q => by
  cases he
  exact PA_w pa_nil (q _ _ _ _ (Same.refl _) (Ext.refl _) S .nil)
theorem s_cons {e r p ps} (ih : SndE P w KK mg base GG T k N e sc p) (ihr : SndEs P w KK mg base GG T k N r sc ps) (hp : notStar p = true) : SndEs P w KK mg base GG T k N (.cons false e r) sc (p :: ps) := fun X O Pr G H ρ σ env h S hl o env' h' he Q q => by
  have he : (ev GG (callN GG T k) e env h >>= fun z => evs GG (callN GG T k) r z.2.1 z.2.2 >>= fun y => R.ok (z.1 :: y.1, y.2.1, y.2.2)) = .ok (o, env', h') := he
  obtain ⟨⟨x, env1, h1⟩, e1, he⟩ := R.bind_inv he
  obtain ⟨⟨xs, env2, h2⟩, e2, he⟩ := R.bind_inv he
  cases he
  refine PA_w (pa_cons pe_w pa_w (starEach_cons hp)) (ih.v O S hl e1 fun G1 ρ1 H1 v1 g1 p1 S1 l1 r1 => ihr X O Pr G1 H1 ρ1 σ env1 h1 S1 l1 _ _ _ e2 _ fun G2 ρ2 H2 vs g2 p2 S2 r2 => ?_)
  exact q _ _ _ _ (g1.trans g2) (p1.trans p2) S2 (.cons (r1.mono g2 p2) r2)
theorem s_star {e r p pp ps} (ih : SndE P w KK mg base GG T k N e sc p) (ihr : SndEs P w KK mg base GG T k N r sc ps) : SndEs P w KK mg base GG T k N (.cons true e r) sc (.Starred p pp :: ps) := fun X O Pr G H ρ σ env h S hl o env' h' he Q q => by
  have he : (ev GG (callN GG T k) e env h >>= fun z => match z.1 with
    | .tup ys => (evs GG (callN GG T k) r z.2.1 z.2.2 >>= fun y => R.ok (ys ++ y.1, y.2.1, y.2.2))
    | .lst ys => (evs GG (callN GG T k) r z.2.1 z.2.2 >>= fun y => R.ok (ys ++ y.1, y.2.1, y.2.2))
    | _ => .bad) = .ok (o, env', h') := he
  obtain ⟨⟨x, env1, h1⟩, e1, he⟩ := R.bind_inv he
  refine PA_w (StX.pa_star pe_w pa_w rfl) (ih.v O S hl e1 fun G1 ρ1 H1 v1 g1 p1 S1 l1 r1 => ?_)
  have hK := O.hK
  cases r1 with
  | tup ha ra =>
    obtain ⟨⟨xs, env2, h2⟩, e2, he⟩ := R.bind_inv (show (evs GG (callN GG T k) r env1 h1 >>= fun y => R.ok (_ ++ y.1, y.2.1, y.2.2)) = .ok (o, env', h') from he)
    cases he
    refine ⟨_, _, rfl, .inl (by rw [hK]; exact S1.sqT ha), ihr X O Pr G1 H1 ρ1 σ env1 h1 S1 l1 _ _ _ e2 _ fun G2 ρ2 H2 vs g2 p2 S2 r2 => ?_⟩
    exact q _ _ _ _ (g1.trans g2) (p1.trans p2) S2 ((ra.mono g2 p2).app r2)
  | lst ha ra =>
    obtain ⟨⟨xs, env2, h2⟩, e2, he⟩ := R.bind_inv (show (evs GG (callN GG T k) r env1 h1 >>= fun y => R.ok (_ ++ y.1, y.2.1, y.2.2)) = .ok (o, env', h') from he)
    cases he
    refine ⟨_, _, rfl, .inr (.inl (.inl (S1.sub _ _ ha))), ihr X O Pr G1 H1 ρ1 σ env1 h1 S1 l1 _ _ _ e2 _ fun G2 ρ2 H2 vs g2 p2 S2 r2 => ?_⟩
    exact q _ _ _ _ (g1.trans g2) (p1.trans p2) S2 ((ra.mono g2 p2).app r2)
  | _ => cases he
theorem and_one {st e p} (ih : SndE P w KK mg base GG T k N e sc p) : SndAnd P w KK mg base GG T k N (.cons st e .nil) sc [p] := fun X pos O Pr G H ρ σ env h S hl d env' h' he Q q => by
  have he : ev GG (callN GG T k) e env h = .ok (d, env', h') := he
  exact PE_w (pe_one pe_w) (ih X O Pr G H ρ σ env h S hl _ _ _ he Q q.any)
theorem and_cons {st e p st2 e2 r p2 ps} (ih : SndE P w KK mg base GG T k N e sc p) (ihr : SndAnd P w KK mg base GG T k N (.cons st2 e2 r) sc (p2 :: ps)) : SndAnd P w KK mg base GG T k N (.cons st e (.cons st2 e2 r)) sc (p :: p2 :: ps) := fun X pos O Pr G H ρ σ env h S hl d env' h' he Q q => by
  have he : (ev GG (callN GG T k) e env h >>= fun z => EV.truthy z.2.2 z.1 >>= fun b => if b then evand GG (callN GG T k) (.cons st2 e2 r) z.2.1 z.2.2 else .ok (z.1, z.2.1, z.2.2)) = .ok (d, env', h') := he
  obtain ⟨⟨x, env1, h1⟩, e1, he⟩ := R.bind_inv he
  obtain ⟨b, e3, he⟩ := R.bind_inv he
  refine PE_w (pe_andT pe_w pe_w) (ih.v O S hl e1 fun G1 ρ1 H1 v1 g1 p1 S1 l1 r1 => ⟨b, truthy_ok O.hK e3 S1 r1, ?_⟩)
  cases b with
  | true => exact iteT (ihr X pos O Pr G1 H1 ρ1 σ env1 h1 S1 l1 _ _ _ he Q (q.step g1 p1))
  | false => cases he; exact iteF (q.ofV (.inl rfl) g1 p1 S1 r1)
theorem or_one {st e p} (ih : SndE P w KK mg base GG T k N e sc p) : SndOr P w KK mg base GG T k N (.cons st e .nil) sc [p] := fun X pos O Pr G H ρ σ env h S hl d env' h' he Q q => by
  have he : ev GG (callN GG T k) e env h = .ok (d, env', h') := he
  exact PE_w (pe_one pe_w) (ih X O Pr G H ρ σ env h S hl _ _ _ he Q q.any)
theorem or_cons {st e p st2 e2 r p2 ps} (ih : SndE P w KK mg base GG T k N e sc p) (ihr : SndOr P w KK mg base GG T k N (.cons st2 e2 r) sc (p2 :: ps)) : SndOr P w KK mg base GG T k N (.cons st e (.cons st2 e2 r)) sc (p :: p2 :: ps) := fun X pos O Pr G H ρ σ env h S hl d env' h' he Q q => by
  have he : (ev GG (callN GG T k) e env h >>= fun z => EV.truthy z.2.2 z.1 >>= fun b => if b then .ok (z.1, z.2.1, z.2.2) else evor GG (callN GG T k) (.cons st2 e2 r) z.2.1 z.2.2) = .ok (d, env', h') := he
  obtain ⟨⟨x, env1, h1⟩, e1, he⟩ := R.bind_inv he
  obtain ⟨b, e3, he⟩ := R.bind_inv he
  refine PE_w (pe_orT pe_w pe_w) (ih.v O S hl e1 fun G1 ρ1 H1 v1 g1 p1 S1 l1 r1 => ⟨b, truthy_ok O.hK e3 S1 r1, ?_⟩)
  cases b with
  | true => cases he; exact iteT (q.ofV (.inl rfl) g1 p1 S1 r1)
  | false => exact iteF (ihr X pos O Pr G1 H1 ρ1 σ env1 h1 S1 l1 _ _ _ he Q (q.step g1 p1))
theorem t_tru {e p} (ih : SndE P w KK mg base GG T k N e sc p) (hp : plainT p = true) : SndT P w KK mg base GG T k N (.tru e) sc p := fun X O Pr G H ρ σ env h S hl d env' h' he Q q => by
  have he : (ev GG (callN GG T k) e env h >>= fun z => EV.truthy z.2.2 z.1 >>= fun b => R.ok (b, z.2.1, z.2.2)) = .ok (d, env', h') := he
  obtain ⟨⟨x, env1, h1⟩, e1, he⟩ := R.bind_inv he
  obtain ⟨b, e3, he⟩ := R.bind_inv he
  cases he
  exact PT_w (pt_truth pe_w (plainT_true hp)) (ih.v O S hl e1 fun G1 ρ1 H1 v1 g1 p1 S1 l1 r1 => ⟨_, truthy_ok O.hK e3 S1 r1, q _ _ _ g1 p1 S1⟩)
theorem t_not {t p pos} (ih : SndT P w KK mg base GG T k N t sc p) : SndT P w KK mg base GG T k N (.not t) sc (.UnaryOp .Not p pos) := fun X O Pr G H ρ σ env h S hl d env' h' he Q q => by
  have he : (evt GG (callN GG T k) t env h >>= fun z => R.ok (!z.1, z.2.1, z.2.2)) = .ok (d, env', h') := he
  obtain ⟨⟨x, env1, h1⟩, e1, he⟩ := R.bind_inv he
  cases he
  exact PT_w (pt_not pt_w) (ih X O Pr G H ρ σ env h S hl _ _ _ e1 _ fun G1 ρ1 H1 g1 p1 S1 => q _ _ _ g1 p1 S1)
theorem ta_nil : SndTa P w KK mg base GG T k N .nil sc [] := fun X pos O Pr G H ρ σ env h S hl hne => absurd rfl hne
theorem ta_cons {t r p ps} (ih : SndT P w KK mg base GG T k N t sc p) (ihr : SndTa P w KK mg base GG T k N r sc ps) (hz : ps = [] → r = .nil) : SndTa P w KK mg base GG T k N (.cons t r) sc (p :: ps) := fun X pos O Pr G H ρ σ env h S hl hne d env' h' he Q q => by
  have he : (evt GG (callN GG T k) t env h >>= fun z => if z.1 then evts GG (callN GG T k) r z.2.1 z.2.2 else .ok (false, z.2.1, z.2.2)) = .ok (d, env', h') := he
  obtain ⟨⟨b, env1, h1⟩, e1, he⟩ := R.bind_inv he
  cases ps with
  | nil =>
    obtain rfl := hz rfl
    have hd : d = b ∧ env' = env1 ∧ h' = h1 := by cases b <;> cases he <;> exact ⟨rfl, rfl, rfl⟩
    obtain ⟨rfl, rfl, rfl⟩ := hd
    exact PW_w (pw_and1 pt_w) (ih X O Pr G H ρ σ env h S hl _ _ _ e1 _ fun G1 ρ1 H1 g1 p1 S1 => q _ _ _ g1 p1 S1)
  | cons p2 ps =>
    refine PW_w (pw_and pt_w pw_w) (ih X O Pr G H ρ σ env h S hl _ _ _ e1 _ fun G1 ρ1 H1 g1 p1 S1 => ?_)
    cases b with
    | true => exact iteT (ihr X pos O Pr G1 H1 ρ1 σ env1 h1 S1 (len_of S hl S1) (by simp) _ _ _ he Q fun G2 ρ2 H2 g2 p2 S2 => q _ _ _ (g1.trans g2) (p1.trans p2) S2)
    | false => cases he; exact iteF (q _ _ _ g1 p1 S1)
theorem to_nil : SndTo P w KK mg base GG T k N .nil sc [] := fun X pos O Pr G H ρ σ env h S hl hne => absurd rfl hne
theorem to_cons {t r p ps} (ih : SndT P w KK mg base GG T k N t sc p) (ihr : SndTo P w KK mg base GG T k N r sc ps) (hz : ps = [] → r = .nil) : SndTo P w KK mg base GG T k N (.cons t r) sc (p :: ps) := fun X pos O Pr G H ρ σ env h S hl hne d env' h' he Q q => by
  have he : (evt GG (callN GG T k) t env h >>= fun z => if z.1 then .ok (true, z.2.1, z.2.2) else evto GG (callN GG T k) r z.2.1 z.2.2) = .ok (d, env', h') := he
  obtain ⟨⟨b, env1, h1⟩, e1, he⟩ := R.bind_inv he
  cases ps with
  | nil =>
    obtain rfl := hz rfl
    have hd : d = b ∧ env' = env1 ∧ h' = h1 := by cases b <;> cases he <;> exact ⟨rfl, rfl, rfl⟩
    obtain ⟨rfl, rfl, rfl⟩ := hd
    exact PW_w (pw_or1 pt_w) (ih X O Pr G H ρ σ env h S hl _ _ _ e1 _ fun G1 ρ1 H1 g1 p1 S1 => q _ _ _ g1 p1 S1)
  | cons p2 ps =>
    refine PW_w (pw_or pt_w pw_w) (ih X O Pr G H ρ σ env h S hl _ _ _ e1 _ fun G1 ρ1 H1 g1 p1 S1 => ?_)
    cases b with
    | true => cases he; exact iteT (q _ _ _ g1 p1 S1)
    | false => exact iteF (ihr X pos O Pr G1 H1 ρ1 σ env1 h1 S1 (len_of S hl S1) (by simp) _ _ _ he Q fun G2 ρ2 H2 g2 p2 S2 => q _ _ _ (g1.trans g2) (p1.trans p2) S2)
theorem tf_nil : SndTf P w KK mg base GG T k N .nil sc [] := fun X O Pr G H ρ σ env h S hl d env' h' he Q q => by
  cases he
  exact fun pins s I => pts_nil.run pins s σ H Q I (q _ _ _ (Same.refl _) (Ext.refl _) S)
theorem tf_one {t p} (ih : SndT P w KK mg base GG T k N t sc p) : SndTf P w KK mg base GG T k N (.cons t .nil) sc [p] := fun X O Pr G H ρ σ env h S hl d env' h' he Q q => by
  have he : (evt GG (callN GG T k) t env h >>= fun z => if z.1 then .ok (true, z.2.1, z.2.2) else .ok (false, z.2.1, z.2.2)) = .ok (d, env', h') := he
  obtain ⟨⟨b, env1, h1⟩, e1, he⟩ := R.bind_inv he
  have hd : d = b ∧ env' = env1 ∧ h' = h1 := by cases b <;> cases he <;> exact ⟨rfl, rfl, rfl⟩
  obtain ⟨rfl, rfl, rfl⟩ := hd
  exact fun pins s I => (pts_one pt_w).run pins s σ H Q I (ih X O Pr G H ρ σ env h S hl _ _ _ e1 _ fun G1 ρ1 H1 g1 p1 S1 => q _ _ _ g1 p1 S1)

theorem i_val {e p} (ih : SndE P w KK mg base GG T k N e sc p) : SndI P w KK mg base GG T k N (.val e) sc p := fun X tg _ O Pr G H ρ σ env h S hl xs env' h' he W q => by
  have he : (ev GG (callN GG T k) e env h >>= fun z => itemsD z.1 >>= fun xs => R.ok (xs, z.2.1, z.2.2)) = .ok (xs, env', h') := he
  obtain ⟨⟨x, env1, h1⟩, e1, he⟩ := R.bind_inv he
  obtain ⟨ys, e2, he⟩ := R.bind_inv he
  cases he
  have hK := O.hK
  cases x with
  | tup ds =>
    cases e2
    refine wI_len (PI_w (pi_tup pe_w) (ih.v O S hl e1 fun G1 ρ1 H1 v1 g1 p1 S1 l1 r1 => ?_))
    cases r1 with
    | tup ha ra =>
      refine ⟨_, rfl, ⟨_, by rw [hK]; exact S1.sqT ha⟩, fun hlen => ?_⟩
      rw [hK]
      rw [hK] at hlen
      exact q _ _ _ _ g1 p1 S1 (itT_ok ha.sq ra (by rw [← ra.length]; exact hlen.2 _ _ (S1.sqT ha)))
  | lst ds =>
    cases e2
    refine wI_len (PI_w (pi_list pe_w) (ih.v O S hl e1 fun G1 ρ1 H1 v1 g1 p1 S1 l1 r1 => ?_))
    cases r1 with
    | lst ha ra =>
      refine ⟨_, rfl, ⟨_, .inl (.inl (S1.sub _ _ ha))⟩, fun hlen => ?_⟩
      rw [hK]
      rw [hK] at hlen
      exact q _ _ _ _ g1 p1 S1 (itL_ok (.inl (.inl ha)) ra (by rw [← ra.length]; exact hlen.1 _ _ (.inl (.inl (S1.sub _ _ ha)))))
  | scr ns =>
    cases e2
    refine wI_len (PI_w (pi_list pe_w) (ih.v O S hl e1 fun G1 ρ1 H1 v1 g1 p1 S1 l1 r1 => ?_))
    cases r1 with
    | scr ha =>
      refine ⟨_, rfl, ⟨_, by rw [hK]; exact S1.sqL ha⟩, fun hlen => ?_⟩
      rw [hK]
      rw [hK] at hlen
      have := hlen.1 _ _ (S1.sqL ha)
      exact q _ _ _ _ g1 p1 S1 (itL_ok ha (RepL.ofInts ns) (by simpa using this))
  | str z =>
    obtain ⟨z1, rfl⟩ := ite_ok (show (if lenOk z.cps.size then R.ok (z.cps.toList.map fun c => D.str ⟨#[c]⟩) else R.bad) = .ok _ from e2)
    refine PI_w (pi_str pe_w) (ih.v O S hl e1 fun G1 ρ1 H1 v1 g1 p1 S1 l1 r1 => ?_)
    cases r1
    exact ⟨_, rfl, q _ _ _ _ g1 p1 S1 (itS_ok (sizeLine_le z1))⟩
  | _ => cases e2
theorem smallR_of {i j : Int} (h : smallR i j = true) : (-(2 ^ 62) ≤ i ∧ i < 2 ^ 62 ∧ -(2 ^ 62) ≤ j ∧ j < 2 ^ 62) ∧ (j - i).toNat ≤ sizeLine := by
  simp only [smallR, smallI, Bool.and_eq_true, decide_eq_true_eq] at h
  refine ⟨⟨h.1.1.1, h.1.1.2, h.1.2.1, h.1.2.2⟩, ?_⟩
  rw [sizeLine_eq]; omega
theorem i_rng1 (M : ModOk KK mg GG NB) {e p pp pos} (hg : glB sc "range" = true) (hf : "range" ∈ NB) (hp : notStar p = true) (ih : SndE P w KK mg base GG T k N e sc p) : SndI P w KK mg base GG T k N (.rng1 e) sc (.Call (.Name "range" pp) [p] [] pos) := fun X tg _ O Pr G H ρ σ env h S hl xs env' h' he W q => by
  have he : (ev GG (callN GG T k) e env h >>= fun z => intD z.1 >>= fun j => if smallR 0 j then R.ok ((List.range j.toNat).map fun (n : Nat) => D.int (0 + (n : Int)), z.2.1, z.2.2) else .bad) = .ok (xs, env', h') := he
  obtain ⟨⟨x, env1, h1⟩, e1, he⟩ := R.bind_inv he
  obtain ⟨j, e2, he⟩ := R.bind_inv he
  obtain ⟨hs, he⟩ := ite_ok he
  cases he
  have hm : X.mg "range" = none := by rw [O.hmg]; exact M.nb "range" hf
  refine PI_w (pi_range1 (O.gl hg) hm (pa_cons pe_w pa_nil (starEach_cons hp)) (starEach_cons hp)) (ih.v O S hl e1 fun G1 ρ1 H1 v1 g1 p1 S1 l1 r1 => ?_)
  cases r1 <;> simp only [intD] at e2 <;> cases e2
  obtain ⟨⟨_, _, b1, b2⟩, b3⟩ := smallR_of hs
  exact ⟨_, rfl, b1, b2, q _ _ _ _ g1 p1 S1 (itR_ok (by simpa using b3))⟩
theorem i_rng2 (M : ModOk KK mg GG NB) {e e2 p p2 pp pos} (hg : glB sc "range" = true) (hf : "range" ∈ NB) (hp : notStar p = true) (hp2 : notStar p2 = true) (ih : SndE P w KK mg base GG T k N e sc p) (ih2 : SndE P w KK mg base GG T k N e2 sc p2) :
    SndI P w KK mg base GG T k N (.rng2 e e2) sc (.Call (.Name "range" pp) [p, p2] [] pos) := fun X tg _ O Pr G H ρ σ env h S hl xs env' h' he W q => by
  have he : (ev GG (callN GG T k) e env h >>= fun z => ev GG (callN GG T k) e2 z.2.1 z.2.2 >>= fun y => intD z.1 >>= fun i => intD y.1 >>= fun j => if smallR i j then R.ok ((List.range (j - i).toNat).map fun (n : Nat) => D.int (i + (n : Int)), y.2.1, y.2.2) else .bad) = .ok (xs, env', h') := he
  obtain ⟨⟨x, env1, h1⟩, e1, he⟩ := R.bind_inv he
  obtain ⟨⟨y, env2, h2⟩, e3, he⟩ := R.bind_inv he
  obtain ⟨i, e4, he⟩ := R.bind_inv he
  obtain ⟨j, e5, he⟩ := R.bind_inv he
  obtain ⟨hs, he⟩ := ite_ok he
  cases he
  have hm : X.mg "range" = none := by rw [O.hmg]; exact M.nb "range" hf
  refine PI_w (pi_range2 (O.gl hg) hm (pa_cons pe_w (pa_cons pe_w pa_nil (starEach_cons hp2)) (starEach_cons hp)) (by rw [starEach_cons hp, starEach_cons hp2]; rfl) (starEach_cons hp2))
    (ih.v O S hl e1 fun G1 ρ1 H1 v1 g1 p1 S1 l1 r1 => ih2.v O S1 l1 e3 fun G2 ρ2 H2 v2 g2 q2 S2 l2 r2 => ?_)
  cases r1 <;> simp only [intD] at e4 <;> cases e4
  cases r2 <;> simp only [intD] at e5 <;> cases e5
  obtain ⟨b1, b3⟩ := smallR_of hs
  exact ⟨_, _, rfl, b1, q _ _ _ _ (g1.trans g2) (p1.trans q2) S2 (itR_ok b3)⟩

theorem l_pop0 {i x p ap cp} (hs : slotB sc N i x = true) (hline : (ap.endLine == cp.line) = true) :
    SndE P w KK mg base GG T k N (.pop0 i) sc (.Call (.Attribute (.Name x p) "pop" ap) [] [] cp) := fun X O Pr G H ρ σ env h S hl d env' h' he Q q => by
  have he : pop0D env h i = .ok (d, env', h') := he
  have hK := O.hK
  unfold pop0D at he
  split at he
  · rename_i xs eo
    obtain ⟨a, vs0, ea, eh, r0, _⟩ := S.own i _ eo
    have ty : tyV X.K "list" (.ref a) H := .inl ⟨rfl, _, .inl (.inl eh)⟩
    split at he
    · rename_i dl el
      cases he
      refine PE_w (pe_bm0 PySem.F.plainAttrs_list PySem.F.slot_list_pop PySem.F.type_list_pop mt_pop (pe_slot O hs) rfl hline) ⟨_, ea, ty, ?_⟩
      obtain ⟨y, ey, ry⟩ := r0.get el
      refine ⟨a, vs0, y, rfl, rfl, eh, by rw [r0.length]; exact ey, ?_⟩
      exact q.ofV (.inl rfl) (Same.refl _) (Ext.refl _) (S.updOwn eo ea r0.dropLast) ry
    · cases he
  · rename_i n eo
    obtain ⟨v, ea, rv⟩ := S.val i _ eo
    split at he
    · rename_i xs ho
      split at he
      · rename_i dl el
        cases he
        cases rv with
        | ref hn =>
          obtain ⟨u, h3, h4, _⟩ := S.hp _ _ _ hn ho
          cases u <;> simp only [RepO] at h4
          rename_i vs
          have ty : tyV X.K "list" (.ref _) H := .inl ⟨rfl, _, .inl (.inl h3)⟩
          refine PE_w (pe_bm0 PySem.F.plainAttrs_list PySem.F.slot_list_pop PySem.F.type_list_pop mt_pop (pe_slot O hs) rfl hline) ⟨_, ea, ty, ?_⟩
          obtain ⟨y, ey, ry⟩ := h4.get el
          refine ⟨_, vs, y, rfl, rfl, h3, by rw [h4.length]; exact ey, ?_⟩
          exact q.ofV (.inl rfl) (Same.refl _) (Ext.refl _) (S.updRef (u := .lst vs.dropLast) (o := .lst _) hn (show RepO _ _ _ (.lst _) (.lst _) from h4.dropLast) ho) ry
      · cases he
    · cases he
  · cases he
theorem l_popA {i e x p ap cp p1} (hs : slotB sc N i x = true) (ih : SndE P w KK mg base GG T k N e sc p1) (hp1 : notStar p1 = true) (hline : (ap.endLine == cp.line) = true) :
    SndE P w KK mg base GG T k N (.popA i e) sc (.Call (.Attribute (.Name x p) "pop" ap) [p1] [] cp) := fun X O Pr G H ρ σ env h S hl d env' h' he Q q => by
  have he : (getO env i >>= fun _ => ev GG (callN GG T k) e env h >>= fun z => intD z.1 >>= fun j => getO z.2.1 i >>= fun xs => popAD z.2.1 i xs j >>= fun y => R.ok (y.1, y.2, z.2.2)) = .ok (d, env', h') := he
  obtain ⟨_, e0, he⟩ := R.bind_inv he
  obtain ⟨⟨y, env1, h1⟩, e1, he⟩ := R.bind_inv he
  obtain ⟨j, e2, he⟩ := R.bind_inv he
  obtain ⟨xs, e3, he⟩ := R.bind_inv he
  obtain ⟨⟨dr, env2⟩, e4, he⟩ := R.bind_inv he
  cases he
  obtain ⟨a, vs0, ea, eh, r0, _⟩ := S.own i _ (getO_inv e0)
  have ty : tyV X.K "list" (.ref a) H := .inl ⟨rfl, _, .inl (.inl eh)⟩
  have hp : allPlain [p1] = true := by simp [allPlain, hp1]
  refine PE_w (pe_bm PySem.F.plainAttrs_list PySem.F.slot_list_pop PySem.F.type_list_pop mt_popAt (pe_slot O hs) (pa_cons pe_w pa_nil (starEach_cons hp1)) rfl (by rw [plain_all hp]; rfl) hline (starEach_cons hp1) rfl) ⟨_, ea, ty, ?_⟩
  refine ih.v O S hl e1 fun G1 ρ1 H1 v1 g1 p1 S1 l1 r1 => ?_
  cases r1 <;> simp only [intD] at e2 <;> cases e2
  obtain ⟨a2, vs2, ea2, eh2, r2, _⟩ := S1.own i _ (getO_inv e3)
  rw [ea] at ea2; cases ea2
  unfold popAD at e4
  split at e4
  · rename_i n en
    split at e4
    · rename_i dl el
      obtain ⟨hj, e5⟩ := ite_ok e4
      cases e5
      obtain ⟨u, eu, ru⟩ := r2.get el
      simp only [smallI, Bool.and_eq_true, decide_eq_true_eq] at hj
      obtain ⟨s1, _⟩ := ixN_seq en
      refine ⟨a, vs2, j, n, u, rfl, rfl, eh2, by omega, by omega, by rw [r2.length]; exact s1, eu, ?_⟩
      exact q.ofV (.inl rfl) g1 p1 (S1.updOwn (getO_inv e3) ea (r2.erase n)) ru
    · cases e4
  · cases e4

section
variable (X : Cx) (scope : Scope)
abbrev gC (pt : Expr) : TG := fun v σ H R => ∀ s0 H0 C cl fp, wG (X.blk s0 H0 scope (compEnvC scope cl C X.env) fp) pt v σ H R
abbrev ttC (pf : List Expr) : TT := fun σ H R => ∀ s0 H0 C cl fp, wTs (X.blk s0 H0 scope (compEnvC scope cl C X.env) fp) pf σ H R
abbrev teC (pe : Expr) : TE := fun σ H R => ∀ s0 H0 C cl fp, wE (X.blk s0 H0 scope (compEnvC scope cl C X.env) fp) pe σ H R
end
theorem own2 {own : List Nat} : (ownOf N own).map (·.2) = own := by
  unfold ownOf
  rw [List.map_map]
  have : ((fun x : Str × Nat => x.2) ∘ fun i => (N.getD i "", i)) = id := by funext i; rfl
  rw [this, List.map_id]
theorem comp_core {elt tg it ifs own pe pt pi pf scope} (ihi : SndI P w KK mg base GG T k N it sc pi) (htg : tgB scope N tg pt = true) (ihf : SndTf P w KK mg base GG T k N ifs (relS scope sc) pf) (ihe : SndE P w KK mg base GG T k N elt (relS scope sc) pe)
    (hnt : needTup it = true → isTup pt = true) (hin : tgIn tg own = true) {X : Cx} (O : OkX P w KK mg base k sc N X) {Pr G H : Hp} {ρ : List Addr} {σ : L2.St} {env : Env} {h : AH} (S : SR KK Pr G H ρ σ env h) (hl : env.length = N.length) {d : D} {env' : Env} {h' : AH}
    (he : ev GG (callN GG T k) (.comp elt tg it ifs own) env h = .ok (d, env', h')) {Q : VK} (q : Pst KK Pr G ρ σ env' h' true d Q) : tLc (wI X pt pi) (gC X scope pt) (ttC X scope pf) (teC X scope pe) own σ H Q := by
  obtain ⟨turn, hturn⟩ : ∃ turn : D → Env → AH → R (Option D × Env × AH), turn = (fun x σ1 h => putTg tg x σ1 >>= fun σ2 => evts GG (callN GG T k) ifs σ2 h >>= fun z =>
    if z.1 then (ev GG (callN GG T k) elt z.2.1 z.2.2 >>= fun y => R.ok (some y.1, killS y.2.1 own, y.2.2)) else R.ok (none, killS z.2.1 own, z.2.2)) := ⟨_, rfl⟩
  have he : (evi GG (callN GG T k) it env h >>= fun z => compL turn z.1 [] (killS z.2.1 own) z.2.2 >>= fun y => R.ok (.lst y.1, backS z.2.1 y.2.1 own, y.2.2)) = .ok (d, env', h') := by rw [hturn]; exact he
  obtain ⟨⟨xs, env1, h1⟩, e1, he⟩ := R.bind_inv he
  obtain ⟨⟨ds, envE, hE⟩, e2, he⟩ := R.bind_inv he
  cases he
  have hK := O.hK
  have OB := fun s H C cl fp => O.blk (sc := sc) s H scope C cl fp
  have hx : ∀ s H C cl fp x, locB scope x = true → Loc (X.blk s H scope (compEnvC scope cl C X.env) fp).env.scope x ∧ ((X.blk s H scope (compEnvC scope cl C X.env) fp).fn x = true ∨ (X.blk s H scope (compEnvC scope cl C X.env) fp).env.scope.names.lookup x = some .local) := fun s H C cl fp x hx =>
    locB_relS (sc := X.env.scope) hx
  refine ihi X pt hnt O Pr G H ρ σ env h S hl _ _ _ e1 _ fun G1 ρ1 H1 J g1 p1 S1 hJ => fun A hA => ?_
  have l1 := len_of S hl S1
  have L1 := S1.lone hA
  -- the state at a turn
  refine ⟨fun i m Hc => m = xs.length - i ∧ i ≤ xs.length ∧ ∃ G' ρ' envc hc acc accv, Same G1 G' ∧ Ext ρ1 ρ' ∧ SR KK Pr G' Hc ρ' (wipe σ own) envc hc ∧ Lone Pr G' ρ' (wipe σ own) envc A ∧ envc.length = N.length ∧ acc.length ≤ i ∧ Hc A = some (.lst accv) ∧
      RepL KK G' ρ' accv acc ∧ compL turn (xs.drop i) acc envc hc = .ok (ds, envE, hE), ⟨xs.length, rfl, Nat.zero_le _, G1, ρ1, killS env1 own, h1, [], [], Same.refl _, Ext.refl _, ?_, ?_, by rw [killS_length]; exact l1, Nat.le_refl _, upd_same, .nil, e2⟩, ?_⟩
  · exact (S1.setL L1).kill own
  · refine ⟨L1.g, L1.p, L1.r, fun i ds e z => ?_⟩
    have hi : i ∉ own := fun m => by have := killS_in m e; cases this
    rw [killS_out hi] at e
    rw [wipe_out hi] at z
    exact L1.o i ds e z
  rintro i m Hc ⟨rfl, hi, G', ρ', envc, hc, acc, accv, sg, sr, Sc, Lc, lc, hacc, eA, ra, ec⟩
  have J' := hJ.mono sg sr
  by_cases hlt : i < xs.length
  · refine .inr ⟨J'.go i _ Hc Sc.sub (List.getElem?_eq_getElem hlt), ?_⟩
    rw [List.drop_eq_getElem_cons hlt] at ec
    have ec : (turn xs[i] envc hc >>= fun z => compL turn (xs.drop (i + 1)) (match z.1 with | some d => acc ++ [d] | none => acc) z.2.1 z.2.2) = .ok (ds, envE, hE) := ec
    obtain ⟨⟨o, envn, hn⟩, et, ec⟩ := R.bind_inv ec
    refine ⟨fun H' => i + 1 ≤ xs.length ∧ ∃ G' ρ' envc hc acc accv, Same G1 G' ∧ Ext ρ1 ρ' ∧ SR KK Pr G' H' ρ' (wipe σ own) envc hc ∧ Lone Pr G' ρ' (wipe σ own) envc A ∧ envc.length = N.length ∧ acc.length ≤ i + 1 ∧ H' A = some (.lst accv) ∧
      RepL KK G' ρ' accv acc ∧ compL turn (xs.drop (i + 1)) acc envc hc = .ok (ds, envE, hE), fun H' hq => ⟨xs.length - (i + 1), by omega, rfl, hq⟩, fun x H' hy => ?_⟩
    -- the item
    obtain ⟨G2, sg2, S2, L2', eA2, rx⟩ : ∃ G2, Same G' G2 ∧ SR KK Pr G2 H' ρ' (wipe σ own) envc hc ∧ Lone Pr G2 ρ' (wipe σ own) envc A ∧ H' A = some (.lst accv) ∧ RepI (needTup it) KK G2 ρ' x xs[i] := by
      rcases J'.yld i _ Hc H' x Sc.sub (List.getElem?_eq_getElem hlt) hy with ⟨rfl, rx⟩ | ⟨hnt', t, vs, es, nt, rfl, rfl, ex, rx⟩
      · exact ⟨G', Same.refl _, Sc, Lc, eA, .inl rx⟩
      · obtain ⟨S3, s3⟩ := Sc.lay (u := .tup vs) nt
        have hne : A ≠ t := fun z => by rw [z, nt] at eA; cases eA
        refine ⟨_, s3, S3, ⟨by rw [upd_ne hne]; exact Lc.g, Lc.p, Lc.r, Lc.o⟩, by rw [upd_ne hne]; exact eA, ?_⟩
        rw [ex]
        exact .inr ⟨hnt', _, _, _, rfl, rfl, SqT.of upd_same, rx.mono s3 (Ext.refl _)⟩
    have et : (putTg tg xs[i] envc >>= fun σ2 => evts GG (callN GG T k) ifs σ2 hc >>= fun z =>
      if z.1 then (ev GG (callN GG T k) elt z.2.1 z.2.2 >>= fun y => R.ok (some y.1, killS y.2.1 own, y.2.2)) else R.ok (none, killS z.2.1 own, z.2.2)) = .ok (o, envn, hn) := by rw [hturn] at et; exact et
    obtain ⟨env2, e3, et⟩ := R.bind_inv et
    obtain ⟨⟨b, env3, h3⟩, e4, et⟩ := R.bind_inv et
    -- the new list is kept meanwhile
    have S2k := S2.keep (u := .lst accv) eA2 L2'.g L2'.r L2'.o
    have prs : Same Pr (upd Pr A (.lst accv)) := same_upd' L2'.p
    intro s0 H0 C cl fp
    refine tg_ok (OB s0 H0 C cl fp) lc (hx s0 H0 C cl fp) htg e3 S2k (fun hb => tg_tup htg (hnt hb)) rx fun σ2 S3 l3 hw => ⟨?_, ?_⟩
    · rw [hw own hin, wipe_wipe]
    intro s0 H0 C cl fp
    refine ihf _ (OB s0 H0 C cl fp) _ _ _ _ _ _ _ S3 l3 _ _ _ e4 _ fun G4 ρ4 H4 g4 p4 S4 => ?_
    have l4 := len_of S3 l3 S4
    -- back to the block's slots
    have back : ∀ {G5 ρ5 H5 env5 h5}, SR KK (upd Pr A (.lst accv)) G5 H5 ρ5 σ2 env5 h5 → SR KK Pr G5 H5 ρ5 (wipe σ own) (killS env5 own) h5 ∧ Lone Pr G5 ρ5 (wipe σ own) (killS env5 own) A ∧ H5 A = some (.lst accv) := fun {G5 ρ5 H5 env5 h5} S5 => by
      have eA5 : H5 A = some (.lst accv) := S5.prs _ _ upd_same
      have g5 : G5 A = none := S5.gp _ _ upd_same
      have r5 : A ∉ ρ5 := fun m => by
        have p := S5.prn m
        rw [upd_same] at p; cases p
      have o5 : ∀ (i : Nat) (ds : List D), env5[i]? = some (.own ds) → σ2[i]? ≠ some (some (.ref A)) := fun i ds z y => by
        obtain ⟨a, vs, z1, _, _, _, z2, _⟩ := S5.own i ds z
        rw [y] at z1; cases z1
        rw [upd_same] at z2; cases z2
      have S6 := (S5.pr prs).kill own
      have ew : wipe σ2 own = wipe σ own := by rw [hw own hin, wipe_wipe]
      rw [ew] at S6
      refine ⟨S6, ⟨g5, L2'.p, r5, fun i ds e z => ?_⟩, eA5⟩
      have hi : i ∉ own := fun m => by have := killS_in m e; cases this
      rw [killS_out hi] at e
      rw [← ew, wipe_out hi] at z
      exact o5 i ds e z
    cases b with
    | false =>
      rw [if_neg Bool.false_ne_true]
      cases et
      obtain ⟨S5, L5, eA5⟩ := back S4
      exact ⟨hlt, G4, ρ4, _, _, acc, accv, (sg.trans sg2).trans g4, sr.trans p4, S5, L5, by rw [killS_length]; exact l4, by omega, eA5, (ra.mono sg2 (Ext.refl _)).mono g4 p4, ec⟩
    | true =>
      rw [if_pos rfl]
      obtain ⟨⟨dy, env5, h5⟩, e5, et⟩ := R.bind_inv (show (ev GG (callN GG T k) elt env3 h3 >>= fun y => R.ok (some y.1, killS y.2.1 own, y.2.2)) = .ok (o, envn, hn) from et)
      cases et
      intro s0 H0 C cl fp
      refine ihe.v (OB s0 H0 C cl fp) S4 l4 e5 fun G5 ρ5 H5 v5 g5 p5 S5 l5 r5 => ?_
      obtain ⟨S6, L6, eA6⟩ := back S5
      have hlen : accv.length ≤ i := by rw [ra.length]; exact hacc
      refine ⟨accv, eA6, by have := hJ.len; omega, hlt, G5, ρ5, _, _, acc ++ [dy], accv ++ [v5], ((sg.trans sg2).trans g4).trans g5, (sr.trans p4).trans p5, S6.setL L6, L6, by rw [killS_length]; exact l5, by simp; omega, upd_same,
        (((ra.mono sg2 (Ext.refl _)).mono g4 p4).mono g5 p5).app (.cons r5 .nil), ec⟩
  · -- the end
    have ei : i = xs.length := by omega
    subst ei
    rw [List.drop_length] at ec
    cases ec
    refine .inl ⟨J'.stop _ Hc Sc.sub (Nat.le_refl _), ?_⟩
    have Sf : SR KK Pr G' Hc ρ' σ (backS env1 envE own) hE := by
      refine ⟨Sc.sub, Sc.prs, by rw [backS_length, ← Sc.len, wipe_length], fun j d e => ?_, fun j es e => ?_, fun a b c es fs q1 q2 q3 q4 => ?_, Sc.rl, Sc.gp, Sc.nd, Sc.hq⟩
      · by_cases hj : j ∈ own
        · rcases backS_in hj e with z | ⟨d', z, z2⟩
          · cases z
          · cases z
            obtain ⟨v, e5, r5⟩ := S1.val j _ z2
            exact ⟨v, e5, r5.mono sg sr⟩
        · rw [backS_out hj] at e
          obtain ⟨v, e5, r5⟩ := Sc.val j d e
          rw [wipe_out hj] at e5
          exact ⟨v, e5, r5⟩
      · have hj : j ∉ own := fun m => by
          rcases backS_in m e with z | ⟨d', z, _⟩ <;> cases z
        rw [backS_out hj] at e
        obtain ⟨a, vs, e5, r5⟩ := Sc.own j es e
        rw [wipe_out hj] at e5
        exact ⟨a, vs, e5, r5⟩
      · have ha : a ∉ own := fun m => by
          rcases backS_in m q1 with z | ⟨d', z, _⟩ <;> cases z
        have hb : b ∉ own := fun m => by
          rcases backS_in m q2 with z | ⟨d', z, _⟩ <;> cases z
        rw [backS_out ha] at q1
        rw [backS_out hb] at q2
        exact Sc.sep a b c es fs q1 q2 (by rw [wipe_out ha]; exact q3) (by rw [wipe_out hb]; exact q4)
    refine q.ofL (g1.trans sg) (p1.trans sr) Sf eA ra ⟨Lc.g, Lc.p, Lc.r, fun j es e z => ?_⟩
    have hj : j ∉ own := fun m => by
      rcases backS_in m e with z | ⟨d', z, _⟩ <;> cases z
    rw [backS_out hj] at e
    exact Lc.o j es e (by rw [wipe_out hj]; exact z)
theorem l_comp {elt tg it ifs own pe pt pi pf scope pos} (ihi : SndI P w KK mg base GG T k N it sc pi) (hb : blkC N sc scope (ownOf N own) = true) (htg : tgB scope N tg pt = true) (ihf : SndTf P w KK mg base GG T k N ifs (relS scope sc) pf) (ihe : SndE P w KK mg base GG T k N elt (relS scope sc) pe)
    (hnt : needTup it = true → isTup pt = true) (hin : tgIn tg own = true) (hs : notSet pi = true) : SndE P w KK mg base GG T k N (.comp elt tg it ifs own) sc (.ListComp pe [⟨pt, pi, pf, 0⟩] scope pos) := fun X O Pr G H ρ σ env h S hl d env' h' he Q q => by
  have blk : BlkOk X.N X.env.scope scope (ownOf N own) := by rw [O.hN, O.hsc]; exact blkOk_by hb
  have pe := pe_lc (X := X) (elt := pe) (tg := pt) (iter := pi) (ifs := pf) (pos := pos) (wi := wI X pt pi) (g := gC X scope pt) (tt := ttC X scope pf) (te := teC X scope pe)
    O.x.calm (by rw [O.hN]; exact O.nd) pi_w blk (fun s H C cl fp => ⟨fun pins s' σ' H' v u R I r hq => hq s H C cl fp pins s' u I r⟩) (fun s H C cl fp => ⟨fun pins s' σ' H' R I hq => hq s H C cl fp pins s' I⟩)
    (fun s H C cl fp => ⟨fun pins s' σ' H' R I hq => hq s H C cl fp pins s' I⟩) (notSet_fold hs)
  refine PE_w pe ?_
  rw [own2]
  exact comp_core ihi htg ihf ihe hnt hin O S hl he q
end
end EV
set_option maxRecDepth 100000
set_option maxHeartbeats 1000000
namespace EV
open PySem PySem.Spec PyProof.Rows L2
theorem wipe_sub (σ : L2.St) {us vs : List Nat} (h : ∀ i ∈ us, i ∈ vs) : wipe (wipe σ us) vs = wipe σ vs := by
  induction us with
  | nil => rfl
  | cons i us ih =>
    show wipe ((wipe σ us).set i none) vs = _
    rw [wipe_set (h i List.mem_cons_self)]
    exact ih fun j hj => h j (List.mem_cons_of_mem _ hj)
theorem compL_le {turn : D → Env → AH → R (Option D × Env × AH)} : ∀ {xs : List D} {acc : List D} {σ : Env} {h : AH} {ds σ' h'}, compL turn xs acc σ h = .ok (ds, σ', h') → acc.length ≤ ds.length
  | [], acc, σ, h, ds, σ', h', e => by cases e; exact Nat.le_refl _
  | x :: xs, acc, σ, h, ds, σ', h', e => by
    have e : (turn x σ h >>= fun z => compL turn xs (match z.1 with | some d => acc ++ [d] | none => acc) z.2.1 z.2.2) = .ok (ds, σ', h') := e
    obtain ⟨⟨o, σ1, h1⟩, _, e⟩ := R.bind_inv e
    have := compL_le e
    cases o with
    | none => exact this
    | some d => rw [List.length_append] at this; exact Nat.le_trans (Nat.le_add_right _ _) this
theorem compO_le {turn : D → List D → Env → AH → R (List D × Env × AH)} (hm : ∀ x acc σ h acc' σ' h', turn x acc σ h = .ok (acc', σ', h') → acc.length ≤ acc'.length) :
    ∀ {xs : List D} {acc : List D} {σ : Env} {h : AH} {ds σ' h'}, compO turn xs acc σ h = .ok (ds, σ', h') → acc.length ≤ ds.length
  | [], acc, σ, h, ds, σ', h', e => by cases e; exact Nat.le_refl _
  | x :: xs, acc, σ, h, ds, σ', h', e => by
    have e : (turn x acc σ h >>= fun z => compO turn xs z.1 z.2.1 z.2.2) = .ok (ds, σ', h') := e
    obtain ⟨⟨acc1, σ1, h1⟩, e1, e⟩ := R.bind_inv e
    exact Nat.le_trans (hm _ _ _ _ _ _ _ e1) (compO_le hm e)
section
variable {K : PySem.W.Frag} {Pr G H : Hp} {ρ : List Addr} {σ : L2.St} {env : Env} {h : AH}
theorem Lone.kill {a : Addr} (L : Lone Pr G ρ σ env a) (own : List Nat) : Lone Pr G ρ (wipe σ own) (killS env own) a := by
  refine ⟨L.g, L.p, L.r, fun i ds e z => ?_⟩
  have hi : i ∉ own := fun m => by have := killS_in m e; cases this
  rw [killS_out hi] at e
  rw [wipe_out hi] at z
  exact L.o i ds e z
theorem SR.unkeep {A : Addr} {ws : List V} (S : SR K (upd Pr A (.lst ws)) G H ρ σ env h) (p : Pr A = none) : SR K Pr G H ρ σ env h ∧ Lone Pr G ρ σ env A ∧ H A = some (.lst ws) := by
  have prs : Same Pr (upd Pr A (.lst ws)) := same_upd' p
  refine ⟨S.pr prs, ⟨S.gp _ _ upd_same, p, fun m => ?_, fun i ds z y => ?_⟩, S.prs _ _ upd_same⟩
  · have p := S.prn m
    rw [upd_same] at p; cases p
  · obtain ⟨a, vs, z1, _, _, _, z2, _⟩ := S.own i ds z
    rw [y] at z1; cases z1
    rw [upd_same] at z2; cases z2
theorem item_at {nt : Bool} {J : It} {xs : List D} {i : Nat} {H' : Hp} {x : V} {A : Addr} {accv : List V} {d : D} (S : SR K Pr G H ρ σ env h) (J' : ItOk nt K G ρ J xs) (hd : xs[i]? = some d) (L : Lone Pr G ρ σ env A) (eA : H A = some (.lst accv)) (hy : J.yld i H x H') :
    ∃ G2, Same G G2 ∧ SR K Pr G2 H' ρ σ env h ∧ Lone Pr G2 ρ σ env A ∧ H' A = some (.lst accv) ∧ RepI nt K G2 ρ x d := by
  rcases J'.yld i _ H H' x S.sub hd hy with ⟨rfl, rx⟩ | ⟨hnt', t, vs, es, nt, rfl, rfl, ex, rx⟩
  · exact ⟨G, Same.refl _, S, L, eA, .inl rx⟩
  · obtain ⟨S3, s3⟩ := S.lay (u := .tup vs) nt
    have hne : A ≠ t := fun z => by rw [z, nt] at eA; cases eA
    refine ⟨_, s3, S3, ⟨by rw [upd_ne hne]; exact L.g, L.p, L.r, L.o⟩, by rw [upd_ne hne]; exact eA, ?_⟩
    rw [ex]
    exact .inr ⟨hnt', _, _, _, rfl, rfl, SqT.of upd_same, rx.mono s3 (Ext.refl _)⟩
theorem SR.backS {σ : L2.St} {env1 envE : Env} {own : List Nat} {G1 H1 : Hp} {ρ1 : List Addr} {h1 : AH} (S1 : SR K Pr G1 H1 ρ1 σ env1 h1) (sg : Same G1 G) (sr : Ext ρ1 ρ) (Sc : SR K Pr G H ρ (wipe σ own) envE h) : SR K Pr G H ρ σ (backS env1 envE own) h := by
  refine ⟨Sc.sub, Sc.prs, by rw [backS_length, ← Sc.len, wipe_length], fun j d e => ?_, fun j es e => ?_, fun a b c es fs q1 q2 q3 q4 => ?_, Sc.rl, Sc.gp, Sc.nd, Sc.hq⟩
  · by_cases hj : j ∈ own
    · rcases backS_in hj e with z | ⟨d', z, z2⟩
      · cases z
      · cases z
        obtain ⟨v, e5, r5⟩ := S1.val j _ z2
        exact ⟨v, e5, r5.mono sg sr⟩
    · rw [backS_out hj] at e
      obtain ⟨v, e5, r5⟩ := Sc.val j d e
      rw [wipe_out hj] at e5
      exact ⟨v, e5, r5⟩
  · have hj : j ∉ own := fun m => by
      rcases backS_in m e with z | ⟨d', z, _⟩ <;> cases z
    rw [backS_out hj] at e
    obtain ⟨a, vs, e5, r5⟩ := Sc.own j es e
    rw [wipe_out hj] at e5
    exact ⟨a, vs, e5, r5⟩
  · have ha : a ∉ own := fun m => by
      rcases backS_in m q1 with z | ⟨d', z, _⟩ <;> cases z
    have hb : b ∉ own := fun m => by
      rcases backS_in m q2 with z | ⟨d', z, _⟩ <;> cases z
    rw [backS_out ha] at q1
    rw [backS_out hb] at q2
    exact Sc.sep a b c es fs q1 q2 (by rw [wipe_out ha]; exact q3) (by rw [wipe_out hb]; exact q4)
theorem Lone.backS {env1 envE : Env} {own : List Nat} {A : Addr} (L : Lone Pr G ρ (wipe σ own) envE A) : Lone Pr G ρ σ (EV.backS env1 envE own) A := by
  refine ⟨L.g, L.p, L.r, fun j es e z => ?_⟩
  have hj : j ∉ own := fun m => by
    rcases backS_in m e with z | ⟨d', z, _⟩ <;> cases z
  rw [backS_out hj] at e
  exact L.o j es e (by rw [wipe_out hj]; exact z)
end
section
variable {P : Program} {w : World} {KK : PySem.W.Frag} {mg : Str → Option Value} {base : Heap} {GG : Glob} {T : Tab} {NB : List String} {k : Nat} {N : List Str} {sc : Scope}
section
variable (X : Cx) (scope : Scope)
abbrev wiC (pt pi : Expr) : TI := fun σ H R => ∀ s0 H0 C cl fp, wI (X.blk s0 H0 scope (compEnvC scope cl C X.env) fp) pt pi σ H R
end
theorem comp2_core {elt tg it ifs tg1 it1 ifs1 own own1 pe pt pi pf pt1 pi1 pf1 scope} (ihi : SndI P w KK mg base GG T k N it sc pi) (htg : tgB scope N tg pt = true) (ihf : SndTf P w KK mg base GG T k N ifs (relS scope sc) pf)
    (ihi1 : SndI P w KK mg base GG T k N it1 (relS scope sc) pi1) (htg1 : tgB scope N tg1 pt1 = true) (ihf1 : SndTf P w KK mg base GG T k N ifs1 (relS scope sc) pf1) (ihe : SndE P w KK mg base GG T k N elt (relS scope sc) pe)
    (hnt : needTup it = true → isTup pt = true) (hnt1 : needTup it1 = true → isTup pt1 = true) (hin : tgIn tg own = true) (hin1 : tgIn tg1 own1 = true) (hsub : ∀ i ∈ own1, i ∈ own)
    {X : Cx} (O : OkX P w KK mg base k sc N X) {Pr G H : Hp} {ρ : List Addr} {σ : L2.St} {env : Env} {h : AH} (S : SR KK Pr G H ρ σ env h) (hl : env.length = N.length) {d : D} {env' : Env} {h' : AH}
    (he : ev GG (callN GG T k) (.comp2 elt tg it ifs tg1 it1 ifs1 own own1) env h = .ok (d, env', h')) {Q : VK} (q : Pst KK Pr G ρ σ env' h' true d Q) :
    tLc2 (wI X pt pi) (gC X scope pt) (ttC X scope pf) (wiC X scope pt1 pi1) (gC X scope pt1) (ttC X scope pf1) (teC X scope pe) own own1 σ H Q := by
  obtain ⟨turn1, hturn1⟩ : ∃ turn1 : D → Env → AH → R (Option D × Env × AH), turn1 = (fun x σ1 h => putTg tg1 x σ1 >>= fun σ2 => evts GG (callN GG T k) ifs1 σ2 h >>= fun z =>
    if z.1 then (ev GG (callN GG T k) elt z.2.1 z.2.2 >>= fun y => R.ok (some y.1, killS y.2.1 own1, y.2.2)) else R.ok (none, killS z.2.1 own1, z.2.2)) := ⟨_, rfl⟩
  obtain ⟨turn, hturn⟩ : ∃ turn : D → List D → Env → AH → R (List D × Env × AH), turn = (fun x acc σ1 h => putTg tg x σ1 >>= fun σ2 => evts GG (callN GG T k) ifs σ2 h >>= fun z =>
    if z.1 then (evi GG (callN GG T k) it1 z.2.1 z.2.2 >>= fun y => compL turn1 y.1 acc (killS y.2.1 own1) y.2.2 >>= fun u => R.ok (u.1, killS u.2.1 own, u.2.2)) else R.ok (acc, killS z.2.1 own, z.2.2)) := ⟨_, rfl⟩
  have hmono : ∀ x acc σ h acc' σ' h', turn x acc σ h = .ok (acc', σ', h') → acc.length ≤ acc'.length := fun x acc σ h acc' σ' h' e => by
    rw [hturn] at e
    obtain ⟨σ2, _, e⟩ := R.bind_inv e
    obtain ⟨⟨b, σ3, h3⟩, _, e⟩ := R.bind_inv e
    cases b with
    | false => cases e; exact Nat.le_refl _
    | true =>
      obtain ⟨⟨ys, σ4, h4⟩, _, e⟩ := R.bind_inv (show (evi GG (callN GG T k) it1 σ3 h3 >>= fun y => compL turn1 y.1 acc (killS y.2.1 own1) y.2.2 >>= fun u => R.ok (u.1, killS u.2.1 own, u.2.2)) = .ok (acc', σ', h') from e)
      obtain ⟨⟨a5, σ5, h5⟩, e5, e⟩ := R.bind_inv e
      cases e
      exact compL_le e5
  have he : (evi GG (callN GG T k) it env h >>= fun z => compO turn z.1 [] (killS z.2.1 own) z.2.2 >>= fun y => if lenOk y.1.length then R.ok (.lst y.1, backS z.2.1 y.2.1 own, y.2.2) else .bad) = .ok (d, env', h') := by rw [hturn, hturn1]; exact he
  obtain ⟨⟨xs, env1, h1⟩, e1, he⟩ := R.bind_inv he
  obtain ⟨⟨ds, envE, hE⟩, e2, he⟩ := R.bind_inv he
  obtain ⟨hz, he⟩ := ite_ok he
  have hz := sizeLine_le hz
  cases he
  have hK := O.hK
  have OB := fun s H C cl fp => O.blk (sc := sc) s H scope C cl fp
  have hx : ∀ s H C cl fp x, locB scope x = true → Loc (X.blk s H scope (compEnvC scope cl C X.env) fp).env.scope x ∧ ((X.blk s H scope (compEnvC scope cl C X.env) fp).fn x = true ∨ (X.blk s H scope (compEnvC scope cl C X.env) fp).env.scope.names.lookup x = some .local) := fun s H C cl fp x hx =>
    locB_relS (sc := X.env.scope) hx
  refine ihi X pt hnt O Pr G H ρ σ env h S hl _ _ _ e1 _ fun G1 ρ1 H1 J g1 p1 S1 hJ => fun A hA => ?_
  have l1 := len_of S hl S1
  have L1 := S1.lone hA
  refine ⟨fun i m Hc => m = xs.length - i ∧ i ≤ xs.length ∧ ∃ G' ρ' envc hc acc accv, Same G1 G' ∧ Ext ρ1 ρ' ∧ SR KK Pr G' Hc ρ' (wipe σ own) envc hc ∧ Lone Pr G' ρ' (wipe σ own) envc A ∧ envc.length = N.length ∧ Hc A = some (.lst accv) ∧
      RepL KK G' ρ' accv acc ∧ compO turn (xs.drop i) acc envc hc = .ok (ds, envE, hE), ⟨xs.length, rfl, Nat.zero_le _, G1, ρ1, killS env1 own, h1, [], [], Same.refl _, Ext.refl _, (S1.setL L1).kill own, L1.kill own, by rw [killS_length]; exact l1, upd_same, .nil, e2⟩, ?_⟩
  rintro i m Hc ⟨rfl, hi, G', ρ', envc, hc, acc, accv, sg, sr, Sc, Lc, lc, eA, ra, ec⟩
  have J' := hJ.mono sg sr
  by_cases hlt : i < xs.length
  · refine .inr ⟨J'.go i _ Hc Sc.sub (List.getElem?_eq_getElem hlt), ?_⟩
    rw [List.drop_eq_getElem_cons hlt] at ec
    have ec : (turn xs[i] acc envc hc >>= fun z => compO turn (xs.drop (i + 1)) z.1 z.2.1 z.2.2) = .ok (ds, envE, hE) := ec
    obtain ⟨⟨accn, envn, hn⟩, et, ec⟩ := R.bind_inv ec
    refine ⟨fun H' => i + 1 ≤ xs.length ∧ ∃ G' ρ' envc hc acc accv, Same G1 G' ∧ Ext ρ1 ρ' ∧ SR KK Pr G' H' ρ' (wipe σ own) envc hc ∧ Lone Pr G' ρ' (wipe σ own) envc A ∧ envc.length = N.length ∧ H' A = some (.lst accv) ∧
      RepL KK G' ρ' accv acc ∧ compO turn (xs.drop (i + 1)) acc envc hc = .ok (ds, envE, hE), fun H' hq => ⟨xs.length - (i + 1), by omega, rfl, hq⟩, fun x H' hy => ?_⟩
    obtain ⟨G2, sg2, S2, L2', eA2, rx⟩ := item_at Sc J' (List.getElem?_eq_getElem hlt) Lc eA hy
    rw [hturn] at et
    obtain ⟨env2, e3, et⟩ := R.bind_inv et
    obtain ⟨⟨b, env3, h3⟩, e4, et⟩ := R.bind_inv et
    have S2k := S2.keep (u := .lst accv) eA2 L2'.g L2'.r L2'.o
    intro s0 H0 C cl fp
    refine tg_ok (OB s0 H0 C cl fp) lc (hx s0 H0 C cl fp) htg e3 S2k (fun hb => tg_tup htg (hnt hb)) rx fun σ2 S3 l3 hw => ⟨?_, ?_⟩
    · rw [hw own hin, wipe_wipe]
    have ew : wipe σ2 own = wipe σ own := by rw [hw own hin, wipe_wipe]
    intro s0 H0 C cl fp
    refine ihf _ (OB s0 H0 C cl fp) _ _ _ _ _ _ _ S3 l3 _ _ _ e4 _ fun G4 ρ4 H4 g4 p4 S4 => ?_
    have l4 := len_of S3 l3 S4
    cases b with
    | false =>
      rw [if_neg Bool.false_ne_true]
      cases et
      obtain ⟨S5, L5, eA5⟩ := S4.unkeep L2'.p
      have S6 := S5.kill own
      have L6 := L5.kill own
      rw [ew] at S6 L6
      exact ⟨hlt, G4, ρ4, _, _, acc, accv, (sg.trans sg2).trans g4, sr.trans p4, S6, L6, by rw [killS_length]; exact l4, eA5, (ra.mono sg2 (Ext.refl _)).mono g4 p4, ec⟩
    | true =>
      rw [if_pos rfl]
      obtain ⟨⟨ys, env5, h5⟩, e5, et⟩ := R.bind_inv (show (evi GG (callN GG T k) it1 env3 h3 >>= fun y => compL turn1 y.1 acc (killS y.2.1 own1) y.2.2 >>= fun u => R.ok (u.1, killS u.2.1 own, u.2.2)) = .ok (accn, envn, hn) from et)
      obtain ⟨⟨acc6, env6, h6⟩, e6, et⟩ := R.bind_inv et
      cases et
      have hz6 : acc6.length ≤ sizeLine := Nat.le_trans (compO_le hmono ec) hz
      intro s0 H0 C cl fp
      refine ihi1 _ pt1 hnt1 (OB s0 H0 C cl fp) _ _ _ _ _ _ _ S4 l4 _ _ _ e5 _ fun G5 ρ5 H5 J1 g5 p5 S5 hJ1 => ?_
      have l5 := len_of S4 l4 S5
      obtain ⟨S5', L5, eA5⟩ := S5.unkeep L2'.p
      have ra5 := ((ra.mono sg2 (Ext.refl _)).mono g4 p4).mono g5 p5
      refine ⟨fun j m Hc => m = ys.length - j ∧ j ≤ ys.length ∧ ∃ G' ρ' envc hc acc accv, Same G5 G' ∧ Ext ρ5 ρ' ∧ SR KK Pr G' Hc ρ' (wipe σ2 own1) envc hc ∧ Lone Pr G' ρ' (wipe σ2 own1) envc A ∧ envc.length = N.length ∧ Hc A = some (.lst accv) ∧
        RepL KK G' ρ' accv acc ∧ compL turn1 (ys.drop j) acc envc hc = .ok (acc6, env6, h6), ⟨ys.length, rfl, Nat.zero_le _, G5, ρ5, killS env5 own1, h5, acc, accv, Same.refl _, Ext.refl _, S5'.kill own1, L5.kill own1, by rw [killS_length]; exact l5, eA5, ra5, e6⟩, ?_⟩
      rintro j m Hd ⟨rfl, hj, G', ρ', envd, hd, accd, accvd, sg6, sr6, Sd, Ld, ld, eAd, rad, ed⟩
      have J1' := hJ1.mono sg6 sr6
      by_cases hlt1 : j < ys.length
      · refine .inr ⟨J1'.go j _ Hd Sd.sub (List.getElem?_eq_getElem hlt1), ?_⟩
        rw [List.drop_eq_getElem_cons hlt1] at ed
        have ed : (turn1 ys[j] envd hd >>= fun z => compL turn1 (ys.drop (j + 1)) (match z.1 with | some d => accd ++ [d] | none => accd) z.2.1 z.2.2) = .ok (acc6, env6, h6) := ed
        obtain ⟨⟨o, envo, ho⟩, et, ed⟩ := R.bind_inv ed
        refine ⟨fun H' => j + 1 ≤ ys.length ∧ ∃ G' ρ' envc hc acc accv, Same G5 G' ∧ Ext ρ5 ρ' ∧ SR KK Pr G' H' ρ' (wipe σ2 own1) envc hc ∧ Lone Pr G' ρ' (wipe σ2 own1) envc A ∧ envc.length = N.length ∧ H' A = some (.lst accv) ∧
          RepL KK G' ρ' accv acc ∧ compL turn1 (ys.drop (j + 1)) acc envc hc = .ok (acc6, env6, h6), fun H' hq => ⟨ys.length - (j + 1), by omega, rfl, hq⟩, fun x H' hy => ?_⟩
        obtain ⟨G7, sg7, S7, L7, eA7, rx7⟩ := item_at Sd J1' (List.getElem?_eq_getElem hlt1) Ld eAd hy
        rw [hturn1] at et
        obtain ⟨env8, e8, et⟩ := R.bind_inv et
        obtain ⟨⟨b, env9, h9⟩, e9, et⟩ := R.bind_inv et
        have S7k := S7.keep (u := .lst accvd) eA7 L7.g L7.r L7.o
        intro s0 H0 C cl fp
        refine tg_ok (OB s0 H0 C cl fp) ld (hx s0 H0 C cl fp) htg1 e8 S7k (fun hb => tg_tup htg1 (hnt1 hb)) rx7 fun σ3 S8 l8 hw1 => ⟨?_, ?_⟩
        · rw [hw1 own1 hin1, wipe_wipe]
        have ew1 : wipe σ3 own1 = wipe σ2 own1 := by rw [hw1 own1 hin1, wipe_wipe]
        intro s0 H0 C cl fp
        refine ihf1 _ (OB s0 H0 C cl fp) _ _ _ _ _ _ _ S8 l8 _ _ _ e9 _ fun G9 ρ9 H9 g9 p9 S9 => ?_
        have l9 := len_of S8 l8 S9
        cases b with
        | false =>
          rw [if_neg Bool.false_ne_true]
          cases et
          obtain ⟨Sa, La, eAa⟩ := S9.unkeep L7.p
          have Sb := Sa.kill own1
          have Lb := La.kill own1
          rw [ew1] at Sb Lb
          exact ⟨hlt1, G9, ρ9, _, _, accd, accvd, (sg6.trans sg7).trans g9, sr6.trans p9, Sb, Lb, by rw [killS_length]; exact l9, eAa, (rad.mono sg7 (Ext.refl _)).mono g9 p9, ed⟩
        | true =>
          rw [if_pos rfl]
          obtain ⟨⟨dy, enva, ha⟩, ea, et⟩ := R.bind_inv (show (ev GG (callN GG T k) elt env9 h9 >>= fun y => R.ok (some y.1, killS y.2.1 own1, y.2.2)) = .ok (o, envo, ho) from et)
          cases et
          intro s0 H0 C cl fp
          refine ihe.v (OB s0 H0 C cl fp) S9 l9 ea fun Ga ρa Ha va ga pa Sa la rva => ?_
          obtain ⟨Sb, Lb, eAb⟩ := Sa.unkeep L7.p
          have Sc' := Sb.kill own1
          have Lc' := Lb.kill own1
          rw [ew1] at Sc' Lc'
          have hlen : accvd.length < sizeLine := by
            have h1 : (accd ++ [dy]).length ≤ acc6.length := compL_le ed
            rw [List.length_append] at h1
            rw [rad.length]
            exact Nat.lt_of_lt_of_le (Nat.lt_of_succ_le h1) hz6
          refine ⟨accvd, eAb, hlen, hlt1, Ga, ρa, _, _, accd ++ [dy], accvd ++ [va], ((sg6.trans sg7).trans g9).trans ga, (sr6.trans p9).trans pa, Sc'.setL Lc', Lc', by rw [killS_length]; exact la, upd_same,
            (((rad.mono sg7 (Ext.refl _)).mono g9 p9).mono ga pa).app (.cons rva .nil), ed⟩
      · have ej : j = ys.length := by omega
        subst ej
        rw [List.drop_length] at ed
        cases ed
        refine .inl ⟨J1'.stop _ Hd Sd.sub (Nat.le_refl _), hlt, G', ρ', _, _, _, accvd, (((sg.trans sg2).trans g4).trans g5).trans sg6, ((sr.trans p4).trans p5).trans sr6, ?_, ?_, by rw [killS_length]; exact ld, eAd, rad, ec⟩
        · have := Sd.kill own
          rw [wipe_sub _ hsub, ew] at this
          exact this
        · have := Ld.kill own
          rw [wipe_sub _ hsub, ew] at this
          exact this
  · have ei : i = xs.length := by omega
    subst ei
    rw [List.drop_length] at ec
    cases ec
    exact .inl ⟨J'.stop _ Hc Sc.sub (Nat.le_refl _), q.ofL (g1.trans sg) (p1.trans sr) (S1.backS sg sr Sc) eA ra Lc.backS⟩
theorem l_comp2 {elt tg it ifs tg1 it1 ifs1 own own1 pe pt pi pf pt1 pi1 pf1 scope pos} (ihi : SndI P w KK mg base GG T k N it sc pi) (hb : blkC N sc scope (ownOf N own) = true) (htg : tgB scope N tg pt = true) (ihf : SndTf P w KK mg base GG T k N ifs (relS scope sc) pf)
    (ihi1 : SndI P w KK mg base GG T k N it1 (relS scope sc) pi1) (htg1 : tgB scope N tg1 pt1 = true) (ihf1 : SndTf P w KK mg base GG T k N ifs1 (relS scope sc) pf1) (ihe : SndE P w KK mg base GG T k N elt (relS scope sc) pe)
    (hnt : needTup it = true → isTup pt = true) (hnt1 : needTup it1 = true → isTup pt1 = true) (hin : tgIn tg own = true) (hin1 : tgIn tg1 own1 = true) (hsub : ∀ i ∈ own1, i ∈ own) (hs : notSet pi = true) (hs1 : notSet pi1 = true) :
    SndE P w KK mg base GG T k N (.comp2 elt tg it ifs tg1 it1 ifs1 own own1) sc (.ListComp pe [⟨pt, pi, pf, 0⟩, ⟨pt1, pi1, pf1, 0⟩] scope pos) := fun X O Pr G H ρ σ env h S hl d env' h' he Q q => by
  have blk : BlkOk X.N X.env.scope scope (ownOf N own) := by rw [O.hN, O.hsc]; exact blkOk_by hb
  have pe := pe_lc2 (X := X) (elt := pe) (tg := pt) (iter := pi) (ifs := pf) (tg1 := pt1) (iter1 := pi1) (ifs1 := pf1) (vs1 := own1) (pos := pos) (wi := wI X pt pi) (g := gC X scope pt) (tt := ttC X scope pf) (wi1 := wiC X scope pt1 pi1) (g1 := gC X scope pt1) (tt1 := ttC X scope pf1) (te := teC X scope pe)
    O.x.calm (by rw [O.hN]; exact O.nd) pi_w blk (by rw [own2]; exact hsub) (fun s H C cl fp => ⟨fun pins s' σ' H' v u R I r hq => hq s H C cl fp pins s' u I r⟩) (fun s H C cl fp => ⟨fun pins s' σ' H' R I hq => hq s H C cl fp pins s' I⟩)
    (fun s H C cl fp => ⟨fun pins s' σ' H' R I hq => hq s H C cl fp pins s' I⟩)
    (fun s H C cl fp => ⟨fun pins s' σ' H' v u R I r hq => hq s H C cl fp pins s' u I r⟩) (fun s H C cl fp => ⟨fun pins s' σ' H' R I hq => hq s H C cl fp pins s' I⟩)
    (fun s H C cl fp => ⟨fun pins s' σ' H' R I hq => hq s H C cl fp pins s' I⟩) (notSet_fold hs) (fun env => notSet_fold hs1)
  refine PE_w pe ?_
  rw [own2]
  exact comp2_core ihi htg ihf ihi1 htg1 ihf1 ihe hnt hnt1 hin hin1 hsub O S hl he q

theorem l_never {p} : SndE P w KK mg base GG T k N .never sc p := fun X O Pr G H ρ σ env h S hl d env' h' he Q q => nomatch he

def tF (X : Cx) : Expr → TE
  | .FormattedValue q (-1) none _ => tFmt (wE X q)
  | p => wE X p
theorem pj_tF {X : Cx} : ∀ ps : List Expr, PJ X ps (ps.map (tF X))
  | [] => .nil
  | p :: ps => by
    refine .cons ?_ (pj_tF ps)
    unfold tF
    split
    · exact pe_fmt pe_w
    · exact pe_w
variable (P w KK mg base GG T k N) in
def SndF (e : Es) (sc : Scope) (ps : List Expr) : Prop := ∀ X, OkX P w KK mg base k sc N X → ∀ Pr G H ρ σ env h, SR KK Pr G H ρ σ env h → env.length = N.length →
  ∀ acc z env' h', evf GG (callN GG T k) e acc env h = .ok (z, env', h') → ∀ Q : Str → Hp → Prop, (∀ G' ρ' H', Same G G' → Ext ρ ρ' → SR KK Pr G' H' ρ' σ env' h' → Q z H') → tJs (ps.map (tF X)) acc σ H Q
theorem f_nil : SndF P w KK mg base GG T k N .nil sc [] := fun X O Pr G H ρ σ env h S hl acc z env' h' he Q q => by
  cases he
  exact q _ _ _ (Same.refl _) (Ext.refl _) S
theorem f_fmt {e r p pos ps} (ih : SndE P w KK mg base GG T k N e sc p) (ihr : SndF P w KK mg base GG T k N r sc ps) : SndF P w KK mg base GG T k N (.cons true e r) sc (.FormattedValue p (-1) none pos :: ps) := fun X O Pr G H ρ σ env h S hl acc z env' h' he Q q => by
  have he : (ev GG (callN GG T k) e env h >>= fun x => fmtD x.1 >>= fun y => if lenOk (acc ++ y).length then evf GG (callN GG T k) r (acc ++ y) x.2.1 x.2.2 else R.bad) = .ok (z, env', h') := he
  obtain ⟨⟨x, env1, h1⟩, e1, he⟩ := R.bind_inv he
  obtain ⟨y, e2, he⟩ := R.bind_inv he
  have hz : lenOk (acc ++ y).length = true := by
    cases c : lenOk (acc ++ y).length with
    | true => rfl
    | false => rw [c] at he; cases he
  rw [hz] at he
  have hz := sizeLine_le hz
  have et : tF X (.FormattedValue p (-1) none pos) = tFmt (wE X p) := by simp [tF]
  show tF X (.FormattedValue p (-1) none pos) σ H _
  rw [et]
  refine ih.v O S hl e1 fun G1 ρ1 H1 v1 g1 p1 S1 l1 r1 => ?_
  have fin : tJs (ps.map (tF X)) (acc ++ y) σ H1 Q := ihr X O Pr G1 H1 ρ1 σ env1 h1 S1 l1 _ _ _ _ he Q fun G2 ρ2 H2 g2 p2 S2 => q _ _ _ (g1.trans g2) (p1.trans p2) S2
  cases r1 <;> simp only [fmtD] at e2 <;> try (cases e2; done)
  · obtain ⟨c, e3⟩ := ite_ok e2
    cases e3
    exact .inr ⟨_, rfl, of_decide_eq_true c, _, rfl, hz, fin⟩
  · obtain ⟨c, e3⟩ := ite_ok e2
    cases e3
    exact .inl ⟨_, rfl, sizeLine_le c, _, rfl, hz, fin⟩
theorem f_str {s : Str} {r x pos ps} (ihr : SndF P w KK mg base GG T k N r sc ps) : SndF P w KK mg base GG T k N (.cons false (.str s) r) sc (.Constant (.str s) x pos :: ps) := fun X O Pr G H ρ σ env h S hl acc z env' h' he Q q => by
  have he : (fmtD (.str s) >>= fun y => if lenOk (acc ++ y).length then evf GG (callN GG T k) r (acc ++ y) env h else R.bad) = .ok (z, env', h') := he
  obtain ⟨y, e2, he⟩ := R.bind_inv he
  simp only [fmtD] at e2
  obtain ⟨c, e3⟩ := ite_ok e2
  cases e3
  have hz : lenOk (acc ++ s).length = true := by
    cases c : lenOk (acc ++ s).length with
    | true => rfl
    | false => rw [c] at he; cases he
  rw [hz] at he
  show tF X (.Constant (.str s) x pos) σ H _
  rw [show tF X (.Constant (.str s) x pos) = wE X (.Constant (.str s) x pos) from rfl]
  refine PE_w pe_str ⟨_, rfl, sizeLine_le hz, ?_⟩
  exact ihr X O Pr G H ρ σ env h S hl _ _ _ _ he Q q
theorem l_fstr {es p1 p2 ps pos} (ih : SndF P w KK mg base GG T k N es sc (p1 :: p2 :: ps)) : SndE P w KK mg base GG T k N (.fstr es) sc (.JoinedStr (p1 :: p2 :: ps) pos) := fun X O Pr G H ρ σ env h S hl d env' h' he Q q => by
  have he : (evf GG (callN GG T k) es Str.empty env h >>= fun z => R.ok (D.str z.1, z.2.1, z.2.2)) = .ok (d, env', h') := he
  obtain ⟨⟨z, env1, h1⟩, e1, he⟩ := R.bind_inv he
  cases he
  exact PE_w (pe_joined (pj_tF _)) (ih X O Pr G H ρ σ env h S hl _ _ _ _ e1 _ fun G1 ρ1 H1 g1 p1 S1 => q.ofV (.inl rfl) g1 p1 S1 (.str z))
end
end EV
set_option maxRecDepth 100000
namespace EV
open PySem PySem.Spec PyProof.Rows L2
theorem any_key {κ : Type} [DecidableEq κ] (k : κ) : ∀ kvs : List (κ × V), (∀ p ∈ kvs, p.1 ≠ k) → (kvs.any fun p => decide (p.1 = k)) = false
  | [], _ => rfl
  | p :: r, h => by
    rw [List.any_cons, any_key k r fun q hq => h q (List.mem_cons_of_mem _ hq)]
    simp [h p List.mem_cons_self]
theorem merge_new : ∀ (more acc : List (Key × V)), (more.map (·.1)).Nodup → (∀ p ∈ acc, ∀ q ∈ more, p.1 ≠ q.1) → mergeK acc more = acc ++ more
  | [], acc, _, _ => by simp [mergeK]
  | p :: r, acc, hn, hd => by
    have hn' := List.nodup_cons.mp (show (p.1 :: r.map (·.1)).Nodup from hn)
    have e1 : putK acc p.1 p.2 = acc ++ [p] := by
      unfold putK
      rw [any_key p.1 acc fun q hq => hd q hq p List.mem_cons_self]
      rfl
    show mergeK (putK acc p.1 p.2) r = _
    rw [e1, merge_new r (acc ++ [p]) hn'.2 fun a ha b hb => ?_, List.append_assoc]
    · rfl
    · rcases List.mem_append.mp ha with ha | ha
      · exact hd a ha b (List.mem_cons_of_mem _ hb)
      · rw [List.mem_singleton] at ha
        subst ha
        exact fun e => hn'.1 (e ▸ List.mem_map_of_mem hb)
theorem nodupK_of : ∀ {ks : List Str}, nodupK ks = true → (ks.map (Sum.inr : Str → Key)).Nodup
  | [], _ => .nil
  | k :: ks, h => by
    simp only [nodupK, Bool.and_eq_true, Bool.not_eq_true'] at h
    rw [List.map_cons, List.nodup_cons]
    refine ⟨fun m => ?_, nodupK_of h.2⟩
    obtain ⟨j, hj, e⟩ := List.mem_map.mp m
    have : (ks.any fun j => decide (j = k)) = true := List.any_eq_true.mpr ⟨j, hj, by rw [decide_eq_true_eq]; exact Sum.inr.inj e⟩
    rw [this] at h; exact absurd h.1 (by decide)
theorem evk_names {GG : Glob} {C : Call} : ∀ {es : Kvs} {env : Env} {h : AH} {kvs env' h'}, evk GG C es env h = .ok (kvs, env', h') → kvs.map (·.1) = (kvNames es).map Sum.inr
  | .nil, env, h, kvs, env', h', he => by cases he; rfl
  | .cons kk false e r, env, h, kvs, env', h', he => by
    have he : (ev GG C e env h >>= fun z => evk GG C r z.2.1 z.2.2 >>= fun y => R.ok ((.inr kk, z.1) :: y.1, y.2.1, y.2.2)) = .ok (kvs, env', h') := he
    obtain ⟨⟨x1, env1, h1⟩, e1, he⟩ := R.bind_inv he
    obtain ⟨⟨kv2, env2, h2⟩, e2, he⟩ := R.bind_inv he
    cases he
    rw [List.map_cons, kvNames, List.map_cons, evk_names e2]
  | .cons kk true e r, env, h, kvs, env', h', he => by
    have he : (ev GG C e env h >>= fun z => match z.1 with
      | .lst xs => (evk GG C r z.2.1 (z.2.2 ++ [.lst xs]) >>= fun y => R.ok ((.inr kk, .ref z.2.2.length) :: y.1, y.2.1, y.2.2))
      | _ => .bad) = .ok (kvs, env', h') := he
    obtain ⟨⟨x1, env1, h1⟩, e1, he⟩ := R.bind_inv he
    cases x1 with
    | lst xs =>
      obtain ⟨⟨kv2, env2, h2⟩, e2, he⟩ := R.bind_inv (show (evk GG C r env1 (h1 ++ [.lst xs]) >>= fun y => R.ok ((.inr kk, .ref h1.length) :: y.1, y.2.1, y.2.2)) = .ok (kvs, env', h') from he)
      cases he
      rw [List.map_cons, kvNames, List.map_cons, evk_names e2]
    | _ => cases he
def trsOf (X : Cx) : List (Option Expr) → List Expr → List (TE × TE)
  | some k :: ks, v :: vs => (wE X k, wE X v) :: trsOf X ks vs
  | _, _ => []
theorem pps_w {X : Cx} {pos : Pos} : ∀ {ks : List (Option Expr)} {vs : List Expr}, ks.all (·.isSome) = true → ks.length = vs.length → PPs X pos ks vs (trsOf X ks vs)
  | [], [], _, _ => pps_nil
  | [], _ :: _, _, h => by simp at h
  | _ :: _, [], _, h => by simp at h
  | none :: _, _ :: _, h, _ => by simp at h
  | some k :: ks, v :: vs, h, hl => pps_cons pe_w pe_w (pps_w (by simpa using h) (by simpa using hl))
section
variable {P : Program} {w : World} {KK : PySem.W.Frag} {mg : Str → Option Value} {base : Heap} {GG : Glob} {T : Tab} {NB : List String} {k : Nat} {N : List Str} {sc : Scope}
variable (P w KK mg base GG T k N) in
def SndKv (e : Kvs) (sc : Scope) (ks : List (Option Expr)) (vs : List Expr) : Prop := ks.all (·.isSome) = true ∧ ks.length = vs.length ∧ (kvNames e).length = ks.length ∧ ∀ X, OkX P w KK mg base k sc N X → ∀ Pr G H ρ σ env h, SR KK Pr G H ρ σ env h → env.length = N.length →
  ∀ kvs env' h', evk GG (callN GG T k) e env h = .ok (kvs, env', h') → ∀ Q : List (V × V) → Hp → Prop, (∀ G' ρ' H' (us : List (Key × V)), Same G G' → Ext ρ ρ' → SR KK Pr G' H' ρ' σ env' h' → us.map (·.1) = kvs.map (·.1) → RepL KK G' ρ' (us.map (·.2)) (kvs.map (·.2)) →
    Q (us.map fun kv => (kV kv.1, kv.2)) H') → tPairs (trsOf X ks vs) σ H Q
theorem k_nil : SndKv P w KK mg base GG T k N .nil sc [] [] := ⟨rfl, rfl, rfl, fun X O Pr G H ρ σ env h S hl kvs env' h' he Q q => by
  cases he
  exact q _ _ _ [] (Same.refl _) (Ext.refl _) S rfl .nil⟩
theorem k_cons {kk : Str} {sh e r x pos v ks vs} (ih : SndE P w KK mg base GG T k N e sc v) (ihr : SndKv P w KK mg base GG T k N r sc ks vs) (hf : sh = true → fr e = true) : SndKv P w KK mg base GG T k N (.cons kk sh e r) sc (some (.Constant (.str kk) x pos) :: ks) (v :: vs) := by
  obtain ⟨a1, a2, a3, ihr⟩ := ihr
  refine ⟨by simpa using a1, by simpa using a2, by simpa [kvNames] using a3, fun X O Pr G H ρ σ env h S hl kvs env' h' he Q q => ?_⟩
  cases sh with
  | false =>
    have he : (ev GG (callN GG T k) e env h >>= fun z => evk GG (callN GG T k) r z.2.1 z.2.2 >>= fun y => R.ok ((.inr kk, z.1) :: y.1, y.2.1, y.2.2)) = .ok (kvs, env', h') := he
    obtain ⟨⟨x1, env1, h1⟩, e1, he⟩ := R.bind_inv he
    obtain ⟨⟨kv2, env2, h2⟩, e2, he⟩ := R.bind_inv he
    cases he
    refine PE_w pe_str (ih.v O S hl e1 fun G1 ρ1 H1 v1 g1 p1 S1 l1 r1 => ihr X O Pr G1 H1 ρ1 σ env1 h1 S1 l1 _ _ _ e2 _ fun G2 ρ2 H2 us g2 p2 S2 eu ru => ?_)
    exact q _ _ _ ((.inr kk, v1) :: us) (g1.trans g2) (p1.trans p2) S2 (by rw [List.map_cons, List.map_cons, eu]) (.cons (r1.mono g2 p2) ru)
  | true =>
    have he : (ev GG (callN GG T k) e env h >>= fun z => match z.1 with
      | .lst xs => (evk GG (callN GG T k) r z.2.1 (z.2.2 ++ [.lst xs]) >>= fun y => R.ok ((.inr kk, .ref z.2.2.length) :: y.1, y.2.1, y.2.2))
      | _ => .bad) = .ok (kvs, env', h') := he
    obtain ⟨⟨x1, env1, h1⟩, e1, he⟩ := R.bind_inv he
    cases x1 with
    | lst xs =>
      obtain ⟨⟨kv2, env2, h2⟩, e2, he⟩ := R.bind_inv (show (evk GG (callN GG T k) r env1 (h1 ++ [.lst xs]) >>= fun y => R.ok ((.inr kk, .ref h1.length) :: y.1, y.2.1, y.2.2)) = .ok (kvs, env', h') from he)
      cases he
      refine PE_w pe_str (ih X O Pr G H ρ σ env h S hl _ _ _ e1 _ ?_)
      rw [hf rfl]
      rintro G1 ρ1 H1 v1 g1 p1 S1 ⟨a, ws, rfl, ea, ra, La⟩
      have l1 := len_of S hl S1
      have S2 := S1.share (o := .lst xs) La ea (show RepO KK G1 ρ1 (.lst ws) (.lst xs) from ra)
      refine ihr X O Pr G1 H1 (ρ1 ++ [a]) σ env1 _ S2 l1 _ _ _ e2 _ fun G2 ρ2 H2 us g2 p2 S3 eu ru => ?_
      have hr : (ρ1 ++ [a])[h1.length]? = some a := by
        rw [← S1.rl, List.getElem?_append_right (Nat.le_refl _), Nat.sub_self]; rfl
      exact q _ _ _ ((.inr kk, .ref a) :: us) (g1.trans g2) ((p1.trans (Ext.app _ _)).trans p2) S3 (by rw [List.map_cons, List.map_cons, eu]) (.cons (.ref (p2 _ _ hr)) ru)
    | _ => cases he
theorem l_newd {es ks vs pos} (ih : SndKv P w KK mg base GG T k N es sc ks vs) (hn : nodupK (kvNames es) = true) (h15 : ks.length ≤ 15) : SndE P w KK mg base GG T k N (.newd es) sc (.Dict ks vs pos) := fun X O Pr G H ρ σ env h S hl d env' h' he Q q => by
  obtain ⟨a1, a2, a3, ih⟩ := ih
  have he : (evk GG (callN GG T k) es env h >>= fun z => R.ok (.ref z.2.2.length, z.2.1, z.2.2 ++ [.dct z.1])) = .ok (d, env', h') := he
  obtain ⟨⟨kvs, env1, h1⟩, e1, he⟩ := R.bind_inv he
  cases he
  -- what comes of the whole
  have fin : ∀ {G1 ρ1 H1 p} {us : List (Key × V)}, Same G G1 → Ext ρ ρ1 → SR KK Pr G1 H1 ρ1 σ env1 h1 → Lone Pr G1 ρ1 σ env1 p → us.map (·.1) = kvs.map (·.1) → RepL KK G1 ρ1 (us.map (·.2)) (kvs.map (·.2)) → Q (.ref p) (upd H1 p (.dK us)) := fun {G1 ρ1 H1 p us} g1 p1 S1 L1 eu ru => by
    have S2 := (S1.setL (u := .dK us) L1).share (o := .dct kvs) L1 upd_same (show RepO KK G1 ρ1 (.dK us) (.dct kvs) from ⟨eu, ru⟩)
    have hr : (ρ1 ++ [p])[h1.length]? = some p := by
      rw [← S1.rl, List.getElem?_append_right (Nat.le_refl _), Nat.sub_self]; rfl
    exact q.ofV (.inl rfl) g1 (p1.trans (Ext.app _ _)) S2 (.ref hr)
  cases ks with
  | nil =>
    cases vs with
    | cons _ _ => simp at a2
    | nil =>
      refine PE_w pe_dnewK fun p np => ?_
      have hk : es = .nil := by
        cases es with
        | nil => rfl
        | cons _ _ _ _ => simp [kvNames] at a3
      subst hk
      cases e1
      exact fin (us := []) (Same.refl _) (Ext.refl _) S (S.lone np) rfl .nil
  | cons k0 ks =>
    refine PE_w (pe_disp (pps_w a1 a2) a1 a2 (by simp) h15) fun p np => ?_
    have L0 := S.lone np
    have S0 := S.setL (u := .dK []) L0
    have S1 := S0.keep (u := .dK []) upd_same L0.g L0.r L0.o
    have hnm := evk_names e1
    refine ih X O _ _ _ _ _ _ _ S1 hl _ _ _ e1 _ fun G1 ρ1 H1 us g1 p1 S2 eu ru => ⟨S2.prs _ _ upd_same, us, rfl, ?_, ?_⟩
    · have e5 : us.length = kvs.length := by have := congrArg List.length eu; simpa using this
      have e6 : kvs.length = (kvNames es).length := by have := congrArg List.length hnm; simpa using this
      rw [e5, e6, a3]; exact h15
    · rw [merge_new us [] (by rw [eu, hnm]; exact nodupK_of hn) (fun _ hm => by simp at hm), List.nil_append]
      have prs : Same Pr (upd Pr p (.dK [])) := same_upd' L0.p
      refine fin g1 p1 (S2.pr prs) ⟨S2.gp _ _ upd_same, L0.p, fun m => ?_, fun i ds e y => ?_⟩ eu ru
      · have pp := S2.prn m
        rw [upd_same] at pp; cases pp
      · obtain ⟨a, ws, z1, _, _, _, z2, _⟩ := S2.own i ds e
        rw [y] at z1; cases z1
        rw [upd_same] at z2; cases z2

theorem l_new1 {a b pk pv pos} (iha : SndE P w KK mg base GG T k N a sc pk) (ihb : SndE P w KK mg base GG T k N b sc pv) : SndE P w KK mg base GG T k N (.new1 a b) sc (.Dict [some pk] [pv] pos) := fun X O Pr G H ρ σ env h S hl d env' h' he Q q => by
  have he : (ev GG (callN GG T k) a env h >>= fun z => ev GG (callN GG T k) b z.2.1 z.2.2 >>= fun y => ofO (keyD z.1) >>= fun kk => R.ok (.ref y.2.2.length, y.2.1, y.2.2 ++ [.dct [(kk, y.1)]])) = .ok (d, env', h') := he
  obtain ⟨⟨x, env1, h1⟩, e1, he⟩ := R.bind_inv he
  obtain ⟨⟨y, env2, h2⟩, e2, he⟩ := R.bind_inv he
  obtain ⟨kk, ek, he⟩ := R.bind_inv he
  cases he
  have fin : ∀ {G1 ρ1 H1 p} {us : List (Key × V)}, Same G G1 → Ext ρ ρ1 → SR KK Pr G1 H1 ρ1 σ env2 h2 → Lone Pr G1 ρ1 σ env2 p → us.map (·.1) = [(kk, y)].map (·.1) → RepL KK G1 ρ1 (us.map (·.2)) ([(kk, y)].map (·.2)) → Q (.ref p) (upd H1 p (.dK us)) := fun {G1 ρ1 H1 p us} g1 p1 S1 L1 eu ru => by
    have S2 := (S1.setL (u := .dK us) L1).share (o := .dct [(kk, y)]) L1 upd_same (show RepO KK G1 ρ1 (.dK us) (.dct [(kk, y)]) from ⟨eu, ru⟩)
    have hr : (ρ1 ++ [p])[h2.length]? = some p := by
      rw [← S1.rl, List.getElem?_append_right (Nat.le_refl _), Nat.sub_self]; rfl
    exact q.ofV (.inl rfl) g1 (p1.trans (Ext.app _ _)) S2 (.ref hr)
  refine PE_w (pe_disp (pps_w (ks := [some pk]) (vs := [pv]) rfl rfl) rfl rfl (by simp) (by simp)) fun p np => ?_
  have L0 := S.lone np
  have S0 := S.setL (u := .dK []) L0
  have S1 := S0.keep (u := .dK []) upd_same L0.g L0.r L0.o
  refine iha.v O S1 hl e1 fun G1 ρ1 H1 v1 g1 p1 S2 l2 r1 => ihb.v O S2 l2 e2 fun G2 ρ2 H2 v2 g2 p2 S3 l3 r2 => ?_
  have hkv : v1 = kV kk := by
    cases r1 <;> simp only [keyD, ofO] at ek <;> cases ek <;> rfl
  subst hkv
  refine ⟨S3.prs _ _ upd_same, [(kk, v2)], rfl, by simp, ?_⟩
  rw [merge_new [(kk, v2)] [] (by simp) (fun _ hm => by simp at hm), List.nil_append]
  have prs : Same Pr (upd Pr p (.dK [])) := same_upd' L0.p
  refine fin (g1.trans g2) (p1.trans p2) (S3.pr prs) ⟨S3.gp _ _ upd_same, L0.p, fun m => ?_, fun i ds e y => ?_⟩ rfl (.cons r2 .nil)
  · have pp := S3.prn m
    rw [upd_same] at pp; cases pp
  · obtain ⟨a, ws, z1, _, _, _, z2, _⟩ := S3.own i ds e
    rw [y] at z1; cases z1
    rw [upd_same] at z2; cases z2

theorem notSup_base {o : Expr} {m : Str} {env : PySem.Env} {x : Sem Value} (h : notSup o = true) : attributeBase o m env x = x := by
  cases o <;> first | rfl | (rename_i f a k p; cases f <;> first | rfl | (cases a <;> first | (cases k <;> first | rfl | cases h) | rfl))
theorem l_bits {a pa ap cp} (ih : SndE P w KK mg base GG T k N a sc pa) (hs : notSup pa = true) (hline : (ap.endLine == cp.line) = true) : SndE P w KK mg base GG T k N (.bits a) sc (.Call (.Attribute pa "bit_length" ap) [] [] cp) := fun X O Pr G H ρ σ env h S hl d env' h' he Q q => by
  have he : (ev GG (callN GG T k) a env h >>= fun z => bitsD z.1 >>= fun d => R.ok (d, z.2.1, z.2.2)) = .ok (d, env', h') := he
  obtain ⟨⟨x, env1, h1⟩, e1, he⟩ := R.bind_inv he
  obtain ⟨dr, e2, he⟩ := R.bind_inv he
  cases he
  refine PE_w (pe_bits pe_w (notSup_base hs) hline) (ih.v O S hl e1 fun G1 ρ1 H1 v1 g1 p1 S1 l1 r1 => ?_)
  cases r1 <;> simp only [bitsD] at e2 <;> cases e2
  exact ⟨_, rfl, q.ofV (.inl rfl) g1 p1 S1 (.int _)⟩
theorem l_upper {a pa ap cp} (ih : SndE P w KK mg base GG T k N a sc pa) (hs : notSup pa = true) (hline : (ap.endLine == cp.line) = true) : SndE P w KK mg base GG T k N (.upper a) sc (.Call (.Attribute pa "upper" ap) [] [] cp) := fun X O Pr G H ρ σ env h S hl d env' h' he Q q => by
  have he : (ev GG (callN GG T k) a env h >>= fun z => upperD z.1 >>= fun d => R.ok (d, z.2.1, z.2.2)) = .ok (d, env', h') := he
  obtain ⟨⟨x, env1, h1⟩, e1, he⟩ := R.bind_inv he
  obtain ⟨dr, e2, he⟩ := R.bind_inv he
  cases he
  refine PE_w (pe_upper pe_w (notSup_base hs) hline) (ih.v O S hl e1 fun G1 ρ1 H1 v1 g1 p1 S1 l1 r1 => ?_)
  cases r1 <;> simp only [upperD] at e2 <;> try (cases e2; done)
  obtain ⟨c, e3⟩ := ite_ok e2
  cases e3
  exact ⟨⟨_, rfl⟩, _, rfl, rfl, of_decide_eq_true c, q.ofV (.inl rfl) g1 p1 S1 (.str _)⟩
theorem l_idx {o a po ap cp p1} (iho : SndE P w KK mg base GG T k N o sc po) (hso : notSup po = true) (ih : SndE P w KK mg base GG T k N a sc p1) (hp1 : notStar p1 = true) (hline : (ap.endLine == cp.line) = true) :
    SndE P w KK mg base GG T k N (.idx o a) sc (.Call (.Attribute po "index" ap) [p1] [] cp) := fun X O Pr G H ρ σ env h S hl d env' h' he Q q => by
  have he : (ev GG (callN GG T k) o env h >>= fun z => ev GG (callN GG T k) a z.2.1 z.2.2 >>= fun y => idxD z.1 y.1 >>= fun d => R.ok (d, y.2.1, y.2.2)) = .ok (d, env', h') := he
  obtain ⟨⟨x, env1, h1⟩, e1, he⟩ := R.bind_inv he
  obtain ⟨⟨y, env2, h2⟩, e2, he⟩ := R.bind_inv he
  obtain ⟨dr, e3, he⟩ := R.bind_inv he
  cases he
  obtain ⟨xs, rfl⟩ : ∃ xs, x = .lst xs := by cases x <;> first | exact ⟨_, rfl⟩ | cases e3
  have hp : allPlain [p1] = true := by simp [allPlain, hp1]
  have hu : X.A.units + 65 < cLine := by have := O.x.hu; omega
  refine PE_w (pe_bm PySem.F.plainAttrs_list PySem.F.slot_list_index PySem.F.type_list_index (mt_indexD hu) pe_w (pa_cons pe_w pa_nil (starEach_cons hp1)) (notSup_base hso) (by rw [plain_all hp]; rfl) hline (starEach_cons hp1) rfl)
    (iho.v O S hl e1 fun G1 ρ1 H1 v1 g1 p1 S1 l1 r1 => ?_)
  cases r1 with
  | lst hg rl =>
    refine ⟨.inl ⟨rfl, _, .inl (.inl (S1.sub _ _ hg))⟩, ?_⟩
    refine ih.v O S1 l1 e2 fun G2 ρ2 H2 v2 g2 p2 S2 l2 r2 => ?_
    unfold idxD at e3
    obtain ⟨q1, e4⟩ : (y.okq && (D.lst xs).okq) = true ∧ (match xs.findIdx? (fun z => PyData.eqv z.py y.py) with
      | some j => R.ok (D.int (j : Nat))
      | none => .bad) = .ok d := by
      by_cases c : (y.okq && (D.lst xs).okq) = true
      · simp only [c, if_true] at e3; exact ⟨c, e3⟩
      · simp only [c, if_false] at e3; cases e3
    rw [Bool.and_eq_true] at q1
    split at e4
    · rename_i j ej
      cases e4
      obtain ⟨hj, hz, hm⟩ := List.findIdx?_eq_some_iff_getElem.mp ej
      obtain ⟨d1, s1⟩ := okq_dp S2 r2 q1.1
      obtain ⟨d2, s2⟩ := okq_dp S2 (RepV.lst (g2 _ _ hg) (rl.mono g2 p2)) q1.2
      have hK := O.hK
      rw [← hK] at d1 d2
      refine ⟨_, _, y.py, D.pys xs, j, xs[j].py, rfl, rfl, d2, d1, s2, s1, ?_, hz, fun m z' hmj hz' => ?_, q.ofV (.inl rfl) (g1.trans g2) (p1.trans p2) S2 (.int _)⟩
      · rw [pys_map, List.getElem?_map, List.getElem?_eq_getElem hj]; rfl
      · rw [pys_map, List.getElem?_map] at hz'
        have hml : m < xs.length := Nat.lt_trans hmj hj
        rw [List.getElem?_eq_getElem hml] at hz'
        cases hz'
        have := hm m hmj
        simpa using this
    · cases e4
theorem refL_at {K : PySem.W.Frag} {Pr G H : Hp} {ρ : List Addr} {σ : L2.St} {env : Env} {h : AH} {x : D} {xs : List D} (S : SR K Pr G H ρ σ env h) (e : refL h x = .ok xs) {v : V} (r : RepV K G ρ v x) : ∃ (n : Nat) (a : Addr) (vs : List V), x = .ref n ∧ v = .ref a ∧ H a = some (.lst vs) ∧ RepL K G ρ vs xs := by
  cases r <;> simp only [refL] at e <;> try (cases e; done)
  rename_i n a ha
  split at e
  · rename_i ys eh
    cases e
    obtain ⟨u, h1, h2, _⟩ := S.hp _ _ _ ha eh
    cases u <;> simp only [RepO] at h2
    exact ⟨n, a, _, rfl, rfl, h1, h2⟩
  · cases e
theorem l_slr {a lo hi pa pl pu pos p2} (iha : SndE P w KK mg base GG T k N a sc pa) (ihl : SndO P w KK mg base GG T k N lo sc pl) (ihu : SndO P w KK mg base GG T k N hi sc pu) : SndE P w KK mg base GG T k N (.slr a lo hi) sc (.Subscript pa (.Slice pl pu none p2) pos) := fun X O Pr G H ρ σ env h S hl d env' h' he Q q => by
  have he : (ev GG (callN GG T k) a env h >>= fun z => refL z.2.2 z.1 >>= fun _ => evo GG (callN GG T k) lo z.2.1 z.2.2 >>= fun y => evo GG (callN GG T k) hi y.2.1 y.2.2 >>= fun u => refL u.2.2 z.1 >>= fun xs => slD (.lst xs) y.1 u.1 >>= fun d => R.ok (d, u.2.1, u.2.2)) = .ok (d, env', h') := he
  obtain ⟨⟨x, env1, h1⟩, e1, he⟩ := R.bind_inv he
  obtain ⟨xs0, e0, he⟩ := R.bind_inv he
  obtain ⟨⟨l, env2, h2⟩, e2, he⟩ := R.bind_inv he
  obtain ⟨⟨u, env3, h3⟩, e3, he⟩ := R.bind_inv he
  obtain ⟨xs, e5, he⟩ := R.bind_inv he
  obtain ⟨dr, e4, he⟩ := R.bind_inv he
  cases he
  refine PE_w (pe_slice sl_list pe_w po_w po_w) (iha.v O S hl e1 fun G1 ρ1 H1 v1 g1 p1 S1 l1 r1 => ihl X O Pr G1 H1 ρ1 σ env1 h1 S1 l1 _ _ _ e2 _ fun G2 ρ2 H2 g2 p2 S2 =>
      ihu X O Pr G2 H2 ρ2 σ env2 h2 S2 (len_of S hl S2) _ _ _ e3 _ fun G3 ρ3 H3 g3 p3 S3 => ?_)
  obtain ⟨n, a, vs, rfl, rfl, ea, rl⟩ := refL_at S3 e5 ((r1.mono g2 p2).mono g3 p3)
  cases e4
  exact ⟨_, _, rfl, .inl (.inl ea), (q.step ((g1.trans g2).trans g3) ((p1.trans p2).trans p3)).newL (Same.refl _) (Ext.refl _) S3 (rl.cut l u)⟩
theorem l_idxr {o a po ap cp p1} (iho : SndE P w KK mg base GG T k N o sc po) (hso : notSup po = true) (ih : SndE P w KK mg base GG T k N a sc p1) (hp1 : notStar p1 = true) (hline : (ap.endLine == cp.line) = true) :
    SndE P w KK mg base GG T k N (.idxr o a) sc (.Call (.Attribute po "index" ap) [p1] [] cp) := fun X O Pr G H ρ σ env h S hl d env' h' he Q q => by
  have he : (ev GG (callN GG T k) o env h >>= fun z => refL z.2.2 z.1 >>= fun _ => ev GG (callN GG T k) a z.2.1 z.2.2 >>= fun y => refL y.2.2 z.1 >>= fun xs => idxD (.lst xs) y.1 >>= fun d => R.ok (d, y.2.1, y.2.2)) = .ok (d, env', h') := he
  obtain ⟨⟨x, env1, h1⟩, e1, he⟩ := R.bind_inv he
  obtain ⟨xs0, e0, he⟩ := R.bind_inv he
  obtain ⟨⟨y, env2, h2⟩, e2, he⟩ := R.bind_inv he
  obtain ⟨xs, e5, he⟩ := R.bind_inv he
  obtain ⟨dr, e3, he⟩ := R.bind_inv he
  cases he
  have hp : allPlain [p1] = true := by simp [allPlain, hp1]
  have hu : X.A.units + 65 < cLine := by have := O.x.hu; omega
  refine PE_w (pe_bm PySem.F.plainAttrs_list PySem.F.slot_list_index PySem.F.type_list_index (mt_indexD hu) pe_w (pa_cons pe_w pa_nil (starEach_cons hp1)) (notSup_base hso) (by rw [plain_all hp]; rfl) hline (starEach_cons hp1) rfl)
    (iho.v O S hl e1 fun G1 ρ1 H1 v1 g1 p1 S1 l1 r1 => ?_)
  obtain ⟨n, c, vs0, rfl, rfl, ea0, rl0⟩ := refL_at S1 e0 r1
  refine ⟨.inl ⟨rfl, _, .inl (.inl ea0)⟩, ?_⟩
  refine ih.v O S1 l1 e2 fun G2 ρ2 H2 v2 g2 p2 S2 l2 r2 => ?_
  obtain ⟨_, c', vs, e6, e7, ea, rl⟩ := refL_at S2 e5 (r1.mono g2 p2)
  cases e6
  cases e7
  unfold idxD at e3
  obtain ⟨q1, e4⟩ : (y.okq && (D.lst xs).okq) = true ∧ (match xs.findIdx? (fun z => PyData.eqv z.py y.py) with
    | some j => R.ok (D.int (j : Nat))
    | none => .bad) = .ok d := by
    by_cases c : (y.okq && (D.lst xs).okq) = true
    · simp only [c, if_true] at e3; exact ⟨c, e3⟩
    · simp only [c, if_false] at e3; cases e3
  rw [Bool.and_eq_true] at q1
  split at e4
  · rename_i j ej
    cases e4
    obtain ⟨hj, hz, hm⟩ := List.findIdx?_eq_some_iff_getElem.mp ej
    obtain ⟨d1, s1⟩ := okq_dp S2 r2 q1.1
    have q4 := q1.2
    simp only [D.okq, Bool.and_eq_true, D.pure] at q4
    have d2 : Dp KK H2 (.ref c) (.list (D.pys xs)) := .lst (.inl (.inl ea)) (EV.DpAll.mono S2.sub (rl.dp q4.1))
    have hK := O.hK
    rw [← hK] at d1 d2
    refine ⟨_, _, y.py, D.pys xs, j, xs[j].py, rfl, rfl, d2, d1, q4.2, s1, ?_, hz, fun m z' hmj hz' => ?_, q.ofV (.inl rfl) (g1.trans g2) (p1.trans p2) S2 (.int _)⟩
    · rw [pys_map, List.getElem?_map, List.getElem?_eq_getElem hj]; rfl
    · rw [pys_map, List.getElem?_map] at hz'
      have hml : m < xs.length := Nat.lt_trans hmj hj
      rw [List.getElem?_eq_getElem hml] at hz'
      cases hz'
      have := hm m hmj
      simpa using this
  · cases e4
theorem l_idxb {i a x xp ap cp p1} (hs : slotB sc N i x = true) (ih : SndE P w KK mg base GG T k N a sc p1) (hp1 : notStar p1 = true) (hline : (ap.endLine == cp.line) = true) :
    SndE P w KK mg base GG T k N (.idxb i a) sc (.Call (.Attribute (.Name x xp) "index" ap) [p1] [] cp) := fun X O Pr G H ρ σ env h S hl d env' h' he Q q => by
  have he : (getL env i >>= fun _ => ev GG (callN GG T k) a env h >>= fun y => getL y.2.1 i >>= fun xs => idxD (.lst xs) y.1 >>= fun d => R.ok (d, y.2.1, y.2.2)) = .ok (d, env', h') := he
  obtain ⟨xs0, e0, he⟩ := R.bind_inv he
  obtain ⟨⟨y, env2, h2⟩, e2, he⟩ := R.bind_inv he
  obtain ⟨xs, e1, he⟩ := R.bind_inv he
  obtain ⟨dr, e3, he⟩ := R.bind_inv he
  cases he
  have hp : allPlain [p1] = true := by simp [allPlain, hp1]
  have hu : X.A.units + 65 < cLine := by have := O.x.hu; omega
  obtain ⟨c, vs0, ea, eh0, _⟩ := S.getL e0
  refine PE_w (pe_bm PySem.F.plainAttrs_list PySem.F.slot_list_index PySem.F.type_list_index (mt_indexD hu) (pe_slot O hs) (pa_cons pe_w pa_nil (starEach_cons hp1)) rfl (by rw [plain_all hp]; rfl) hline (starEach_cons hp1) rfl) ⟨_, ea, .inl ⟨rfl, _, .inl (.inl eh0)⟩, ?_⟩
  refine ih.v O S hl e2 fun G2 ρ2 H2 v2 g2 p2 S2 l2 r2 => ?_
  obtain ⟨c2, vs, ea2, eh, rl⟩ := S2.getL e1
  rw [ea] at ea2
  cases ea2
  unfold idxD at e3
  obtain ⟨q1, e4⟩ : (y.okq && (D.lst xs).okq) = true ∧ (match xs.findIdx? (fun z => PyData.eqv z.py y.py) with
    | some j => R.ok (D.int (j : Nat))
    | none => .bad) = .ok d := by
    by_cases c : (y.okq && (D.lst xs).okq) = true
    · simp only [c, if_true] at e3; exact ⟨c, e3⟩
    · simp only [c, if_false] at e3; cases e3
  rw [Bool.and_eq_true] at q1
  split at e4
  · rename_i j ej
    cases e4
    obtain ⟨hj, hz, hm⟩ := List.findIdx?_eq_some_iff_getElem.mp ej
    obtain ⟨d1, s1⟩ := okq_dp S2 r2 q1.1
    have q4 := q1.2
    simp only [D.okq, Bool.and_eq_true, D.pure] at q4
    have d2 : Dp KK H2 (.ref c) (.list (D.pys xs)) := .lst (.inl (.inl eh)) (EV.DpAll.mono S2.sub (rl.dp q4.1))
    have hK := O.hK
    rw [← hK] at d1 d2
    refine ⟨_, _, y.py, D.pys xs, j, xs[j].py, rfl, rfl, d2, d1, q4.2, s1, ?_, hz, fun m z' hmj hz' => ?_, q.ofV (.inl rfl) g2 p2 S2 (.int _)⟩
    · rw [pys_map, List.getElem?_map, List.getElem?_eq_getElem hj]; rfl
    · rw [pys_map, List.getElem?_map] at hz'
      have hml : m < xs.length := Nat.lt_trans hmj hj
      rw [List.getElem?_eq_getElem hml] at hz'
      cases hz'
      have := hm m hmj
      simpa using this
  · cases e4
theorem l_join {o a po ap cp p1} (iho : SndE P w KK mg base GG T k N o sc po) (hso : notSup po = true) (ih : SndE P w KK mg base GG T k N a sc p1) (hp1 : notStar p1 = true) (hline : (ap.endLine == cp.line) = true) :
    SndE P w KK mg base GG T k N (.join o a) sc (.Call (.Attribute po "join" ap) [p1] [] cp) := fun X O Pr G H ρ σ env h S hl d env' h' he Q q => by
  have he : (ev GG (callN GG T k) o env h >>= fun z => ev GG (callN GG T k) a z.2.1 z.2.2 >>= fun y => joinD z.1 y.1 >>= fun d => R.ok (d, y.2.1, y.2.2)) = .ok (d, env', h') := he
  obtain ⟨⟨x, env1, h1⟩, e1, he⟩ := R.bind_inv he
  obtain ⟨⟨y, env2, h2⟩, e2, he⟩ := R.bind_inv he
  obtain ⟨dr, e3, he⟩ := R.bind_inv he
  cases he
  obtain ⟨s, rfl⟩ : ∃ s, x = .str s := by cases x <;> first | exact ⟨_, rfl⟩ | cases e3
  obtain ⟨ys, rfl⟩ : ∃ s, y = .lst s := by cases y <;> first | exact ⟨_, rfl⟩ | cases e3
  have hp : allPlain [p1] = true := by simp [allPlain, hp1]
  refine PE_w (pe_bm PySem.F.plainAttrs_str PySem.F.slot_str_join PySem.F.type_str_join mt_join pe_w (pa_cons pe_w pa_nil (starEach_cons hp1)) (notSup_base hso) (by rw [plain_all hp]; rfl) hline (starEach_cons hp1) rfl)
    (iho.v O S hl e1 fun G1 ρ1 H1 v1 g1 p1 S1 l1 r1 => ?_)
  cases r1
  refine ⟨rfl, ?_⟩
  refine ih.v O S1 l1 e2 fun G2 ρ2 H2 v2 g2 p2 S2 l2 r2 => ?_
  unfold joinD at e3
  simp only at e3
  split at e3
  · rename_i ss es
    obtain ⟨hl3, e4⟩ := ite_ok e3
    cases e4
    rw [strsOf_eq es] at r2
    cases r2 with
    | lst hg rl =>
      rw [rl.strs] at hg
      have h4 : (ss.map (·.length)).sum + ss.length * s.length ≤ 16777216 := of_decide_eq_true hl3
      exact ⟨_, _, ss, rfl, rfl, .inl (.inl (.inl (S2.sub _ _ hg))), h4, q.ofV (.inl rfl) (g1.trans g2) (p1.trans p2) S2 (.str _)⟩
  · cases e3
theorem rngOk_of {i j : Int} (h : rngOk i j = true) : RgOk i j := by
  simp only [rngOk, Bool.and_eq_true, decide_eq_true_eq] at h
  exact ⟨h.1, h.2.1, h.2.2.1, h.2.2.2.1, by have := h.2.2.2.2; omega⟩
theorem rngD_rep {K : PySem.W.Frag} {G : Hp} {ρ : List Addr} (i j : Int) : RepL K G ρ (rgV i j) (rngD i j) := by
  unfold rgV rngD
  induction (List.range (j - i).toNat) with
  | nil => exact .nil
  | cons x xs ih => exact .cons (.int _) ih
theorem mDl_names : ∀ {kvs : List (Key × Int)} {ks vs}, mDl kvs ks vs = true → ∃ es : Kvs, SndKv P w KK mg base GG T k N es sc ks vs ∧ (kvNames es).map Sum.inr = kvs.map (·.1) ∧ ∀ (env : Env) (h : AH), evk GG (callN GG T k) es env h = .ok (kvs.map fun p => (p.1, D.int p.2), env, h)
  | [], [], [], _ => ⟨.nil, k_nil, rfl, fun _ _ => rfl⟩
  | [], _ :: _, [], h => by simp [mDl] at h
  | [], [], _ :: _, h => by simp [mDl] at h
  | [], _ :: _, _ :: _, h => by simp [mDl] at h
  | (kk, i) :: r, ks, vs, h => by
    unfold mDl at h
    split at h
    · rename_i e3
      cases e3
    · rename_i kk2 i2 r2 t p1 p2 ks2 j p3 p4 vs2 e1
      cases e1
      simp only [Bool.and_eq_true, decide_eq_true_eq] at h
      obtain ⟨⟨rfl, rfl⟩, h3⟩ := h
      obtain ⟨es, a1, a2, a3⟩ := mDl_names h3
      refine ⟨.cons kk2 false (.int i) es, k_cons l_int a1 (fun z => nomatch z), by simp [kvNames, a2], fun env h => ?_⟩
      show (ev GG (callN GG T k) (.int i) env h >>= fun z => evk GG (callN GG T k) es z.2.1 z.2.2 >>= fun y => R.ok ((.inr kk2, z.1) :: y.1, y.2.1, y.2.2)) = _
      show (evk GG (callN GG T k) es env h >>= fun y => R.ok ((.inr kk2, D.int i) :: y.1, y.2.1, y.2.2)) = _
      rw [a3]
      rfl
    · cases h
theorem nodupK'_of : ∀ {ks : List Key}, nodupK' ks = true → ks.Nodup
  | [], _ => .nil
  | k :: ks, h => by
    simp only [nodupK', Bool.and_eq_true, Bool.not_eq_true'] at h
    rw [List.nodup_cons]
    refine ⟨fun m => ?_, nodupK'_of h.2⟩
    have : (ks.any fun j => decide (j = k)) = true := List.any_eq_true.mpr ⟨k, m, by simp⟩
    rw [this] at h; exact absurd h.1 (by decide)
theorem ints_us : ∀ {us : List (Key × V)} {kvs : List (Key × Int)} {G : Hp} {ρ : List Addr}, us.map (·.1) = (kvs.map fun p => (p.1, D.int p.2)).map (·.1) → RepL KK G ρ (us.map (·.2)) ((kvs.map fun p => (p.1, D.int p.2)).map (·.2)) → us = kvs.map fun p => (p.1, V.int p.2)
  | [], [], _, _, _, _ => rfl
  | [], _ :: _, _, _, h, _ => by simp at h
  | _ :: _, [], _, _, h, _ => by simp at h
  | (k1, v1) :: us, (k2, i) :: kvs, _, _, h, r => by
    rw [List.map_cons, List.map_cons, List.map_cons] at h
    injection h with h1 h2
    have h1 : k1 = k2 := h1
    subst h1
    cases r with
    | cons r1 r2 =>
      cases r1
      rw [ints_us h2 r2]
      rfl
theorem l_dlit {kvs : List (Key × Int)} {ks vs pos} (hm : mDl kvs ks vs = true) (hn : nodupK' (kvs.map (·.1)) = true) (h15 : ks.length ≤ 15) : SndE P w KK mg base GG T k N (.dlit kvs) sc (.Dict ks vs pos) := fun X O Pr G H ρ σ env h S hl d env' h' he Q q => by
  obtain ⟨es, ⟨a1, a2, a3, ih⟩, a4, a5⟩ := mDl_names (P := P) (w := w) (KK := KK) (mg := mg) (base := base) (GG := GG) (T := T) (k := k) (N := N) (sc := sc) hm
  cases he
  have fin : ∀ {G1 ρ1 H1 p}, Same G G1 → Ext ρ ρ1 → SR KK Pr G1 H1 ρ1 σ env h → Lone Pr G1 ρ1 σ env p → ∃ d u, (V.ref p : V) = .ref d ∧ (upd H1 p (.dK (kvs.map fun p => (p.1, V.int p.2)))) d = some u ∧ Mut (some u) ∧ ∀ od, Q (.ref p) (upd (upd H1 p (.dK (kvs.map fun p => (p.1, V.int p.2)))) d (.frz od u)) := fun {G1 ρ1 H1 p} g1 p1 S1 L1 => by
    refine ⟨p, _, rfl, upd_same, trivial, fun od => ?_⟩
    rw [upd_upd]
    have S2 := (S1.setL (u := .frz od (.dK (kvs.map fun p => (p.1, V.int p.2)))) L1).frz L1.g L1.p L1.r L1.o upd_same
    exact q.ofV (.inl rfl) (g1.trans (same_upd' L1.g)) p1 S2 (.dct upd_same)
  cases ks with
  | nil =>
    cases vs with
    | cons _ _ => simp at a2
    | nil =>
      refine wE_lock <| PE_w pe_dnewK fun p np => ?_
      cases kvs with
      | nil => exact fin (Same.refl _) (Ext.refl _) S (S.lone np)
      | cons z r => obtain ⟨kk, i⟩ := z; cases kk <;> simp [mDl] at hm
  | cons k0 ks =>
    refine wE_lock <| PE_w (pe_disp (pps_w a1 a2) a1 a2 (by simp) h15) fun p np => ?_
    have L0 := S.lone np
    have S0 := S.setL (u := .dK []) L0
    have S1 := S0.keep (u := .dK []) upd_same L0.g L0.r L0.o
    refine ih X O _ _ _ _ _ _ _ S1 hl _ _ _ (a5 env h) _ fun G1 ρ1 H1 us g1 p1 S2 eu ru => ⟨S2.prs _ _ upd_same, us, rfl, ?_, ?_⟩
    · have e5 : us.length = kvs.length := by have := congrArg List.length eu; simpa using this
      have e6 : (kvNames es).length = kvs.length := by have := congrArg List.length a4; simpa using this
      rw [e5, ← e6, a3]; exact h15
    · have eus := ints_us eu ru
      have ek : us.map (·.1) = kvs.map (·.1) := by rw [eu, List.map_map]; rfl
      rw [merge_new us [] (by rw [ek]; exact nodupK'_of hn) (fun _ hm => by simp at hm), List.nil_append, eus]
      have prs : Same Pr (upd Pr p (.dK [])) := same_upd' L0.p
      refine fin g1 p1 (S2.pr prs) ⟨S2.gp _ _ upd_same, L0.p, fun m => ?_, fun i ds e y => ?_⟩
      · have pp := S2.prn m
        rw [upd_same] at pp; cases pp
      · obtain ⟨a, ws, z1, _, _, _, z2, _⟩ := S2.own i ds e
        rw [y] at z1; cases z1
        rw [upd_same] at z2; cases z2
theorem RepL.ofVals {K : PySem.W.Frag} {G : Hp} {ρ : List Addr} : ∀ kvs : List (Key × Int), RepL K G ρ (kvs.map ((·.2) ∘ fun p => (p.1, V.int p.2))) (kvs.map ((·.2) ∘ fun p => (p.1, D.int p.2)))
  | [] => .nil
  | _ :: r => .cons (.int _) (RepL.ofVals r)
theorem l_lvals (M : ModOk KK mg GG NB) {e po p ap cp pos} (hg : glB sc "list" = true) (hf : "list" ∈ NB) (ih : SndE P w KK mg base GG T k N e sc po) (hso : notSup po = true) (hline : (ap.endLine == cp.line) = true) :
    SndE P w KK mg base GG T k N (.lvals e) sc (.Call (.Name "list" p) [.Call (.Attribute po "values" ap) [] [] cp] [] pos) := fun X O Pr G H ρ σ env h S hl d env' h' he Q q => by
  have he : (ev GG (callN GG T k) e env h >>= fun z => valsD z.1 >>= fun xs => R.ok (.lst xs, z.2.1, z.2.2)) = .ok (d, env', h') := he
  obtain ⟨⟨x, env1, h1⟩, e1, he⟩ := R.bind_inv he
  obtain ⟨ys, e2, he⟩ := R.bind_inv he
  cases he
  have hm : X.mg "list" = none := by rw [O.hmg]; exact M.nb "list" hf
  refine PE_w (pe_listVals O.x.calm (O.gl hg) hm pe_w (notSup_base hso) hline) (ih.v O S hl e1 fun G1 ρ1 H1 v1 g1 p1 S1 l1 r1 => ?_)
  cases r1 with
  | @dct a o kvs hd =>
    obtain ⟨_, rfl⟩ := ite_ok e2
    refine ⟨_, _, rfl, .inr ⟨_, S1.sub _ _ hd⟩, (q.step g1 p1).newL (Same.refl _) (Ext.refl _) S1 ?_⟩
    rw [List.map_map]
    exact RepL.ofVals kvs
  | _ => cases e2
theorem itk_ok {nt : Bool} {K : PySem.W.Frag} {G : Hp} {ρ : List Addr} {a : Addr} {o : Obj} {us : List (Key × V)} {ds : List (Key × D)} (hg : G a = some (.frz o (.dK us))) (hk : us.map (·.1) = ds.map (·.1)) (hl : ds.length ≤ sizeLine) : ItOk nt K G ρ (Itk a o us) (ds.map fun kv => keyV kv.1) := by
  have len : us.length = ds.length := by simpa using congrArg List.length hk
  refine ⟨by simpa using hl, fun i H s hi => ⟨s _ _ hg, by rw [len]; simpa using hi⟩, fun i d H s e => ⟨s _ _ hg, ?_⟩, fun i d H H' x s e y => ?_⟩
  · rw [len]
    have := (List.getElem?_eq_some_iff.mp e).1
    simpa using this
  · obtain ⟨rfl, k, v, hkv, rfl⟩ := y
    have := congrArg (fun l => l[i]?) hk
    simp only [List.getElem?_map, hkv, Option.map_some] at this
    rw [List.getElem?_map] at e
    cases ed : ds[i]? with
    | none => rw [ed] at e; cases e
    | some kv =>
      rw [ed] at this e
      obtain ⟨kk, dd⟩ := kv
      cases e
      cases this
      refine .inl ⟨rfl, ?_⟩
      cases kk with
      | inl i => exact .int _
      | inr x => exact .str _
theorem itd_ok {nt : Bool} {K : PySem.W.Frag} {G : Hp} {ρ : List Addr} {a : Addr} {o : Obj} {us : List (Key × V)} {ds : List (Key × D)} (hg : G a = some (.frz o (.dK us))) (hk : us.map (·.1) = ds.map (·.1)) (hr : RepL K G ρ (us.map (·.2)) (ds.map (·.2))) (hl : ds.length ≤ sizeLine) : ItOk nt K G ρ (Itd a o us) (ds.map (·.2)) := by
  have len : us.length = ds.length := by simpa using congrArg List.length hk
  refine ⟨by simpa using hl, fun i H s hi => ⟨s _ _ hg, by rw [len]; simpa using hi⟩, fun i d H s e => ⟨s _ _ hg, ?_⟩, fun i d H H' x s e y => ?_⟩
  · rw [len]
    have := (List.getElem?_eq_some_iff.mp e).1
    simpa using this
  · obtain ⟨rfl, k, hkv⟩ := y
    obtain ⟨v, ev, rv⟩ := hr.get e
    rw [List.getElem?_map, hkv] at ev
    cases ev
    exact .inl ⟨rfl, rv⟩
theorem iti_ok {K : PySem.W.Frag} {G : Hp} {ρ : List Addr} {a : Addr} {o : Obj} {us : List (Key × V)} {ds : List (Key × D)} (hg : G a = some (.frz o (.dK us))) (hk : us.map (·.1) = ds.map (·.1)) (hr : RepL K G ρ (us.map (·.2)) (ds.map (·.2))) (hl : ds.length ≤ sizeLine) : ItOk true K G ρ (Iti a o us) (ds.map entryD) := by
  have len : us.length = ds.length := by simpa using congrArg List.length hk
  refine ⟨by simpa using hl, fun i H s hi => ⟨s _ _ hg, by rw [len]; simpa using hi⟩, fun i d H s e => ⟨s _ _ hg, ?_⟩, fun i d H H' x s e y => ?_⟩
  · rw [len]
    have := (List.getElem?_eq_some_iff.mp e).1
    simpa using this
  · obtain ⟨T, k, v, hkv, rfl, hT, rfl⟩ := y
    have := congrArg (fun l => l[i]?) hk
    simp only [List.getElem?_map, hkv, Option.map_some] at this
    rw [List.getElem?_map] at e
    cases ed : ds[i]? with
    | none => rw [ed] at e; cases e
    | some kv =>
      rw [ed] at this e
      obtain ⟨kk, dd⟩ := kv
      cases e
      cases this
      obtain ⟨v', ev, rv⟩ := hr.get (i := i) (d := dd) (by rw [List.getElem?_map, ed]; rfl)
      rw [List.getElem?_map, hkv] at ev
      cases ev
      refine .inr ⟨rfl, T, _, _, hT, rfl, rfl, rfl, .cons ?_ (.cons rv .nil)⟩
      cases kk with
      | inl i => exact .int _
      | inr x => exact .str _
theorem walk_old {K : PySem.W.Frag} {Pr G H : Hp} {ρ : List Addr} {σ : L2.St} {env : Env} {h h' : AH} {f : Key × D → D} {x : D} {xs : List D} {v : V} (e : walkH f h x = .ok (xs, h')) (hn : ¬∃ n ds, x = .ref n ∧ h[n]? = some (.dct ds)) (S : SR K Pr G H ρ σ env h) (r : RepV K G ρ v x) :
    ∃ (a : Addr) (o : Obj) (us : List (Key × V)) (ds : List (Key × D)), v = .ref a ∧ G a = some (.frz o (.dK us)) ∧ us.map (·.1) = ds.map (·.1) ∧ RepL K G ρ (us.map (·.2)) (ds.map (·.2)) ∧ ds.length ≤ sizeLine ∧ xs = ds.map f ∧ h' = h := by
  cases r with
  | @ref n a ha =>
    simp only [walkH] at e
    split at e
    · rename_i ds eh
      exact absurd ⟨n, ds, rfl, eh⟩ hn
    · rename_i ds eh
      obtain ⟨hl, e2⟩ := ite_ok e
      cases e2
      obtain ⟨o, us, h1, h2, h3⟩ := S.hz _ _ _ ha eh
      exact ⟨a, o, us, ds, rfl, h1, h2, h3, sizeLine_le hl, rfl, rfl⟩
    · cases e
  | @dct a o kvs ha =>
    obtain ⟨hl, e2⟩ := ite_ok e
    cases e2
    refine ⟨a, o, _, kvs.map fun p => (p.1, D.int p.2), rfl, ha, by simp, ?_, by simpa using sizeLine_le hl, by simp, rfl⟩
    rw [List.map_map, List.map_map]
    exact RepL.ofVals kvs
  | _ => cases e
theorem walk_new {K : PySem.W.Frag} {Pr G H : Hp} {ρ : List Addr} {σ : L2.St} {env : Env} {h h' : AH} {f : Key × D → D} {n : Nat} {ds : List (Key × D)} {xs : List D} {v : V} (e : walkH f h (.ref n) = .ok (xs, h')) (hn : h[n]? = some (.dct ds)) (S : SR K Pr G H ρ σ env h) (r : RepV K G ρ v (.ref n)) :
    ∃ (a : Addr) (us : List (Key × V)), v = .ref a ∧ H a = some (.dK us) ∧ us.map (·.1) = ds.map (·.1) ∧ ds.length ≤ sizeLine ∧ xs = ds.map f ∧ ∀ od, ∃ G2, Same G G2 ∧ SR K Pr G2 (upd H a (.frz od (.dK us))) ρ σ env h' ∧ G2 a = some (.frz od (.dK us)) ∧ RepL K G2 ρ (us.map (·.2)) (ds.map (·.2)) := by
  cases r with
  | @ref _ a ha =>
    simp only [walkH, hn] at e
    obtain ⟨hl, e2⟩ := ite_ok e
    cases e2
    obtain ⟨u, h1, h2, _⟩ := S.hp _ _ _ ha hn
    cases u <;> simp only [RepO] at h2
    rename_i us
    refine ⟨a, us, rfl, h1, h2.1, sizeLine_le hl, rfl, fun od => ?_⟩
    obtain ⟨S2, sg⟩ := S.freeze (ob := od) ha hn h1
    exact ⟨_, sg, S2, upd_same, h2.2.mono sg (Ext.refl _)⟩
theorem i_vals {e po ap cp} (ih : SndE P w KK mg base GG T k N e sc po) (hso : notSup po = true) (hline : (ap.endLine == cp.line) = true) : SndI P w KK mg base GG T k N (.vals e) sc (.Call (.Attribute po "values" ap) [] [] cp) := fun X tg _ O Pr G H ρ σ env h S hl xs env' h' he W q => by
  have he : (ev GG (callN GG T k) e env h >>= fun z => walkH (·.2) z.2.2 z.1 >>= fun y => R.ok (y.1, z.2.1, y.2)) = .ok (xs, env', h') := he
  obtain ⟨⟨x, env1, h1⟩, e1, he⟩ := R.bind_inv he
  obtain ⟨⟨ys, h2⟩, e2, he⟩ := R.bind_inv he
  cases he
  by_cases hn : ∃ n ds, x = .ref n ∧ h1[n]? = some (.dct ds)
  · obtain ⟨n, ds, rfl, hn⟩ := hn
    refine PI_w (pi_values pe_w (notSup_base hso) hline) (wE_lock (ih.v O S hl e1 fun G1 ρ1 H1 v1 g1 p1 S1 l1 r1 => ?_))
    obtain ⟨a, us, rfl, ha, hk, hlen, rfl, fin⟩ := walk_new e2 hn S1 r1
    refine ⟨a, _, rfl, ha, trivial, fun od => ⟨a, od, us, rfl, upd_same, ?_⟩⟩
    obtain ⟨G2, sg, S2, g2, r2⟩ := fin od
    exact q _ _ _ _ (g1.trans sg) p1 S2 (itd_ok g2 hk r2 hlen)
  · refine PI_w (pi_values pe_w (notSup_base hso) hline) (ih.v O S hl e1 fun G1 ρ1 H1 v1 g1 p1 S1 l1 r1 => ?_)
    obtain ⟨a, o, us, ds, rfl, ha, hk, hr, hlen, rfl, rfl⟩ := walk_old e2 hn S1 r1
    exact ⟨a, o, us, rfl, S1.sub _ _ ha, q _ _ _ _ g1 p1 S1 (itd_ok ha hk hr hlen)⟩
theorem i_keys {e p} (ih : SndE P w KK mg base GG T k N e sc p) : SndI P w KK mg base GG T k N (.keys e) sc p := fun X tg _ O Pr G H ρ σ env h S hl xs env' h' he W q => by
  have he : (ev GG (callN GG T k) e env h >>= fun z => walkH (fun kv => keyV kv.1) z.2.2 z.1 >>= fun y => R.ok (y.1, z.2.1, y.2)) = .ok (xs, env', h') := he
  obtain ⟨⟨x, env1, h1⟩, e1, he⟩ := R.bind_inv he
  obtain ⟨⟨ys, h2⟩, e2, he⟩ := R.bind_inv he
  cases he
  by_cases hn : ∃ n ds, x = .ref n ∧ h1[n]? = some (.dct ds)
  · obtain ⟨n, ds, rfl, hn⟩ := hn
    refine PI_w (pi_keys pe_w) (wE_lock (ih.v O S hl e1 fun G1 ρ1 H1 v1 g1 p1 S1 l1 r1 => ?_))
    obtain ⟨a, us, rfl, ha, hk, hlen, rfl, fin⟩ := walk_new e2 hn S1 r1
    refine ⟨a, _, rfl, ha, trivial, fun od => ⟨a, od, rfl, .inl ⟨us, upd_same, ?_⟩⟩⟩
    obtain ⟨G2, sg, S2, g2, r2⟩ := fin od
    exact q _ _ _ _ (g1.trans sg) p1 S2 (itk_ok g2 hk hlen)
  · refine PI_w (pi_keys pe_w) (ih.v O S hl e1 fun G1 ρ1 H1 v1 g1 p1 S1 l1 r1 => ?_)
    obtain ⟨a, o, us, ds, rfl, ha, hk, hr, hlen, rfl, rfl⟩ := walk_old e2 hn S1 r1
    exact ⟨a, o, rfl, .inl ⟨us, S1.sub _ _ ha, q _ _ _ _ g1 p1 S1 (itk_ok ha hk hlen)⟩⟩
theorem i_items {e po ap cp} (ih : SndE P w KK mg base GG T k N e sc po) (hso : notSup po = true) (hline : (ap.endLine == cp.line) = true) : SndI P w KK mg base GG T k N (.items e) sc (.Call (.Attribute po "items" ap) [] [] cp) := fun X tg ht O Pr G H ρ σ env h S hl xs env' h' he W q => by
  have he : (ev GG (callN GG T k) e env h >>= fun z => walkH entryD z.2.2 z.1 >>= fun y => R.ok (y.1, z.2.1, y.2)) = .ok (xs, env', h') := he
  obtain ⟨⟨x, env1, h1⟩, e1, he⟩ := R.bind_inv he
  obtain ⟨⟨ys, h2⟩, e2, he⟩ := R.bind_inv he
  cases he
  have ht := ht rfl
  cases tg <;> first | cases ht | skip
  by_cases hn : ∃ n ds, x = .ref n ∧ h1[n]? = some (.dct ds)
  · obtain ⟨n, ds, rfl, hn⟩ := hn
    refine PI_w (pi_items pe_w (notSup_base hso) hline) (wE_lock (ih.v O S hl e1 fun G1 ρ1 H1 v1 g1 p1 S1 l1 r1 => ?_))
    obtain ⟨a, us, rfl, ha, hk, hlen, rfl, fin⟩ := walk_new e2 hn S1 r1
    refine ⟨a, _, rfl, ha, trivial, fun od => ⟨a, od, us, rfl, upd_same, ?_⟩⟩
    obtain ⟨G2, sg, S2, g2, r2⟩ := fin od
    exact q _ _ _ _ (g1.trans sg) p1 S2 (iti_ok g2 hk r2 hlen)
  · refine PI_w (pi_items pe_w (notSup_base hso) hline) (ih.v O S hl e1 fun G1 ρ1 H1 v1 g1 p1 S1 l1 r1 => ?_)
    obtain ⟨a, o, us, ds, rfl, ha, hk, hr, hlen, rfl, rfl⟩ := walk_old e2 hn S1 r1
    exact ⟨a, o, us, rfl, S1.sub _ _ ha, q _ _ _ _ g1 p1 S1 (iti_ok ha hk hr hlen)⟩
theorem sset_len {ns : List Int} (h : (decide (ns.length < 64) || (decide ((setI ns).length < 64) && decide (ns.length ≤ 4000))) = true) : (setI ns).length < 64 ∧ ns.length ≤ 4000 := by
  have := setI_len ns
  simp only [Bool.or_eq_true, Bool.and_eq_true, decide_eq_true_eq] at h
  omega
theorem l_sset (M : ModOk KK mg GG NB) {a pa p p2 q pos} (hg : glB sc "sorted" = true) (hf : "sorted" ∈ NB) (hg2 : glB sc "set" = true) (hf2 : "set" ∈ NB) (iha : SndE P w KK mg base GG T k N a sc pa) (hpa : notStar pa = true) :
    SndE P w KK mg base GG T k N (.sset a) sc (.Call (.Name "sorted" p) [.Call (.Name "set" p2) [pa] [] q] [] pos) := fun X O Pr G H ρ σ env h S hl d env' h' he Q q => by
  have he : (ev GG (callN GG T k) a env h >>= fun z => ssetD z.1 >>= fun d => R.ok (d, z.2.1, z.2.2)) = .ok (d, env', h') := he
  obtain ⟨⟨x, env1, h1⟩, e1, he⟩ := R.bind_inv he
  obtain ⟨dr, e2, he⟩ := R.bind_inv he
  cases he
  have hm : X.mg "sorted" = none := by rw [O.hmg]; exact M.nb "sorted" hf
  have hm2 : X.mg "set" = none := by rw [O.hmg]; exact M.nb "set" hf2
  by_cases pr : ∃ xs, x = .lst xs ∧ intsOf xs = none
  · obtain ⟨xs, rfl, en⟩ := pr
    have hu : X.A.units + 64 < cLine := by have := O.x.hu; omega
    refine PE_w (pe_callB (cr_sortedT O.x.calm) (O.gl hg) hm PyProof.Rows.boot_sorted (pa_cons (pe_callTy (cr_setOfT O.x.calm hu) (O.gl hg2) hm2 PyProof.Rows.boot_set (pa_cons pe_w pa_nil (starEach_cons hpa)) (by decide) (by decide) (starEach_cons hpa) rfl) pa_nil rfl) (by decide) (by decide) rfl rfl) ?_
    refine iha.v O S hl e1 fun G1 ρ1 H1 v1 g1 p1 S1 l1 r1 => ?_
    cases r1 with
    | lst ha ra =>
      simp only [ssetD, en] at e2
      exact setP_ok O.hK O.x e2 S1 (.inl (.inl (S1.sub _ _ ha))) ra fun G2 ρ2 H2 v2 g2 p2 S2 r2 => q G2 ρ2 H2 v2 (g1.trans g2) (p1.trans p2) S2 r2
  refine PE_w (pe_sset (O.gl hg) hm (O.gl hg2) hm2 pe_w O.x.calm (starEach_cons hpa)) (iha.v O S hl e1 fun G1 ρ1 H1 v1 g1 p1 S1 l1 r1 => ?_)
  cases r1 with
  | lst ha ra =>
    simp only [ssetD] at e2
    split at e2
    · rename_i ns en
      obtain ⟨h64, e4⟩ := ite_ok e2
      cases e4
      rw [intsOf_eq en] at ra
      rw [ra.ints] at ha
      exact ⟨_, _, rfl, .inl (.inl (.inl (S1.sub _ _ ha))), (sset_len h64).1, (sset_len h64).2, q.newL g1 p1 S1 (RepL.ofInts _)⟩
    · rename_i en
      exact absurd ⟨_, rfl, en⟩ pr
  | tup ha ra =>
    simp only [ssetD] at e2
    split at e2
    · rename_i ns en
      obtain ⟨h64, e4⟩ := ite_ok e2
      cases e4
      rw [intsOf_eq en] at ra
      rw [ra.ints] at ha
      exact ⟨_, _, rfl, .inr (by rw [O.hK]; exact S1.sqT ha), (sset_len h64).1, (sset_len h64).2, q.newL g1 p1 S1 (RepL.ofInts _)⟩
    · cases e2
  | _ => simp [ssetD] at e2
theorem l_lrng (M : ModOk KK mg GG NB) {t : Bool} {a b ps f fp rp p1 p2} (hg : glB sc f = true) (hf : f = (if t then "tuple" else "list")) (hfn : (if t then "tuple" else "list") ∈ NB) (hr : glB sc "range" = true) (hrn : "range" ∈ NB)
    (hps : (∃ q, a = .int 0 ∧ ps = [q] ∧ SndE P w KK mg base GG T k N b sc q ∧ notStar q = true) ∨ ∃ q r, ps = [q, r] ∧ SndE P w KK mg base GG T k N a sc q ∧ notStar q = true ∧ SndE P w KK mg base GG T k N b sc r ∧ notStar r = true) :
    SndE P w KK mg base GG T k N (.lrng t a b) sc (.Call (.Name f fp) [.Call (.Name "range" rp) ps [] p1] [] p2) := fun X O Pr G H ρ σ env h S hl d env' h' he Q q => by
  have he : (ev GG (callN GG T k) a env h >>= fun z => ev GG (callN GG T k) b z.2.1 z.2.2 >>= fun y => intD z.1 >>= fun i => intD y.1 >>= fun j => if rngOk i j then R.ok (if t then D.tup (rngD i j) else .lst (rngD i j), y.2.1, y.2.2) else .bad) = .ok (d, env', h') := he
  obtain ⟨⟨x, env1, h1⟩, e1, he⟩ := R.bind_inv he
  obtain ⟨⟨y, env2, h2⟩, e2, he⟩ := R.bind_inv he
  obtain ⟨i, e3, he⟩ := R.bind_inv he
  obtain ⟨j, e4, he⟩ := R.bind_inv he
  obtain ⟨hok, he⟩ := ite_ok he
  cases he
  have hm : X.mg "range" = none := by rw [O.hmg]; exact M.nb "range" hrn
  have ok := rngOk_of hok
  have args : ∀ {te}, PRg X (.Call (.Name "range" rp) ps [] p1) te → (te = te) → True := fun _ _ => trivial
  have fin : ∃ te : L2.St → Hp → (Int → Int → Hp → Prop) → Prop, PRg X (.Call (.Name "range" rp) ps [] p1) te ∧ ∀ R : Int → Int → Hp → Prop, (∀ G' ρ' H', Same G G' → Ext ρ ρ' → SR KK Pr G' H' ρ' σ env2 h2 → R i j H') → te σ H R := by
    rcases hps with ⟨q1, rfl, rfl, ih, np⟩ | ⟨q1, q2, rfl, iha, na, ihb, nb⟩
    · cases e1
      cases e3
      refine ⟨_, prg_1 (O.gl hr) hm pe_w (starEach_cons np), fun R hR => ?_⟩
      refine ih.v O S hl e2 fun G1 ρ1 H1 v1 g1 p1 S1 l1 r1 => ?_
      cases r1 <;> simp only [intD] at e4 <;> cases e4
      exact ⟨_, rfl, hR _ _ _ g1 p1 S1⟩
    · refine ⟨_, prg_2 (O.gl hr) hm pe_w pe_w (starEach_cons na) (starEach_cons nb) (by rw [starEach_cons nb]; rfl), fun R hR => ?_⟩
      refine iha.v O S hl e1 fun G1 ρ1 H1 v1 g1 p1 S1 l1 r1 => ihb.v O S1 l1 e2 fun G2 ρ2 H2 v2 g2 p2 S2 l2 r2 => ?_
      cases r1 <;> simp only [intD] at e3 <;> cases e3
      cases r2 <;> simp only [intD] at e4 <;> cases e4
      exact ⟨_, _, rfl, rfl, hR _ _ _ (g1.trans g2) (p1.trans p2) S2⟩
  obtain ⟨te, hp, hte⟩ := fin
  cases t with
  | false =>
    simp only [Bool.false_eq_true, if_false] at hf hfn q ⊢
    subst hf
    have hml : X.mg "list" = none := by rw [O.hmg]; exact M.nb "list" hfn
    refine PE_w (pe_listRg O.x.calm (O.gl hg) hml hp) (hte _ fun G1 ρ1 H1 g1 p1 S1 => ⟨ok, ?_⟩)
    exact q.newL g1 p1 S1 (rngD_rep i j)
  | true =>
    simp only [if_true] at hf hfn q ⊢
    subst hf
    have hml : X.mg "tuple" = none := by rw [O.hmg]; exact M.nb "tuple" hfn
    refine PE_w (pe_tupRgN O.x.calm (O.gl hg) hml hp) (hte _ fun G1 ρ1 H1 g1 p1 S1 => ⟨ok, ?_⟩)
    exact q.newT g1 p1 S1 (rngD_rep i j)

theorem itC_ok {nt : Bool} {K : PySem.W.Frag} {G : Hp} {ρ : List Addr} {lo c : Int} {n : Nat} (hl : n ≤ sizeLine) : ItOk nt K G ρ (Itc lo c n) ((List.range n).map fun (k : Nat) => D.int (lo + (k : Int) * c)) := by
  have key : ∀ (i : Nat) (d : D), ((List.range n).map fun (k : Nat) => D.int (lo + (k : Int) * c))[i]? = some d → i < n ∧ d = .int (lo + (i : Int) * c) := fun i d e => by
    rw [List.getElem?_map] at e
    by_cases hi : i < n
    · rw [List.getElem?_range hi] at e
      cases e
      exact ⟨hi, rfl⟩
    · rw [List.getElem?_eq_none (by simpa using hi)] at e; cases e
  refine ⟨by simpa using hl, fun i H s hi => (show n ≤ i by simpa using hi), fun i d H s e => (key i d e).1, fun i d H H' x s e y => ?_⟩
  obtain ⟨e2, y⟩ := y
  obtain ⟨_, rfl⟩ := key i d e
  subst y
  exact .inl ⟨e2, .int _⟩
theorem i_rng3 (M : ModOk KK mg GG NB) {a b c pa pb pc pp pos} (hg : glB sc "range" = true) (hf : "range" ∈ NB) (na : notStar pa = true) (nb : notStar pb = true) (nc : notStar pc = true) (iha : SndE P w KK mg base GG T k N a sc pa) (ihb : SndE P w KK mg base GG T k N b sc pb) (ihc : SndE P w KK mg base GG T k N c sc pc) :
    SndI P w KK mg base GG T k N (.rng3 a b c) sc (.Call (.Name "range" pp) [pa, pb, pc] [] pos) := fun X tg _ O Pr G H ρ σ env h S hl xs env' h' he W q => by
  have he : (ev GG (callN GG T k) a env h >>= fun z => ev GG (callN GG T k) b z.2.1 z.2.2 >>= fun y => ev GG (callN GG T k) c y.2.1 y.2.2 >>= fun u => intD z.1 >>= fun i => intD y.1 >>= fun j => intD u.1 >>= fun c => rng3D i j c >>= fun xs => R.ok (xs, u.2.1, u.2.2)) = .ok (xs, env', h') := he
  obtain ⟨⟨x, env1, h1⟩, e1, he⟩ := R.bind_inv he
  obtain ⟨⟨y, env2, h2⟩, e2, he⟩ := R.bind_inv he
  obtain ⟨⟨z, env3, h3⟩, e3, he⟩ := R.bind_inv he
  obtain ⟨i, e4, he⟩ := R.bind_inv he
  obtain ⟨j, e5, he⟩ := R.bind_inv he
  obtain ⟨c', e6, he⟩ := R.bind_inv he
  obtain ⟨ys, e7, he⟩ := R.bind_inv he
  cases he
  unfold rng3D at e7
  obtain ⟨hc, e8⟩ := ite_ok e7
  cases e8
  simp only [Bool.and_eq_true, decide_eq_true_eq] at hc
  have hm : X.mg "range" = none := by rw [O.hmg]; exact M.nb "range" hf
  refine PI_w (pi_range3 (O.gl hg) hm (pa_cons pe_w (pa_cons pe_w (pa_cons pe_w pa_nil (starEach_cons nc)) (starEach_cons nb)) (starEach_cons na)) (by rw [starEach_cons na]) (plain_any (by simp [allPlain, nb, nc])))
    (iha.v O S hl e1 fun G1 ρ1 H1 v1 g1 p1 S1 l1 r1 => ihb.v O S1 l1 e2 fun G2 ρ2 H2 v2 g2 q2 S2 l2 r2 => ihc.v O S2 l2 e3 fun G3 ρ3 H3 v3 g3 q3 S3 l3 r3 => ?_)
  cases r1 <;> simp only [intD] at e4 <;> cases e4
  cases r2 <;> simp only [intD] at e5 <;> cases e5
  cases r3 <;> simp only [intD] at e6 <;> cases e6
  exact ⟨_, _, _, rng3N i j c', rfl, ⟨hc.1, hc.2.1, hc.2.2.1, hc.2.2.2.1⟩, q _ _ _ _ ((g1.trans g2).trans g3) ((p1.trans q2).trans q3) S3 (itC_ok (sizeLine_le hc.2.2.2.2))⟩
theorem i_enum (M : ModOk KK mg GG NB) {e p pp pos} (hg : glB sc "enumerate" = true) (hf : "enumerate" ∈ NB) (hp : notStar p = true) (ih : SndE P w KK mg base GG T k N e sc p) : SndI P w KK mg base GG T k N (.enum e) sc (.Call (.Name "enumerate" pp) [p] [] pos) := fun X tg ht O Pr G H ρ σ env h S hl xs env' h' he W q => by
  have he : (ev GG (callN GG T k) e env h >>= fun z => enumD z.1 >>= fun xs => R.ok (xs, z.2.1, z.2.2)) = .ok (xs, env', h') := he
  obtain ⟨⟨x, env1, h1⟩, e1, he⟩ := R.bind_inv he
  obtain ⟨ys, e2, he⟩ := R.bind_inv he
  cases he
  have hm : X.mg "enumerate" = none := by rw [O.hmg]; exact M.nb "enumerate" hf
  have ht := ht rfl
  cases tg <;> first | cases ht | skip
  have hx : (∃ zs, x = .lst zs) ∨ (∃ zs, x = .tup zs) ∨ (∃ z, x = .str z) := by cases x <;> first | exact .inl ⟨_, rfl⟩ | exact .inr (.inl ⟨_, rfl⟩) | exact .inr (.inr ⟨_, rfl⟩) | cases e2
  rcases hx with ⟨zs, rfl⟩ | ⟨zs, rfl⟩ | ⟨z, rfl⟩
  · refine PI_w (pi_enum (O.gl hg) hm (pa_cons pe_w pa_nil (starEach_cons hp)) (by rw [starEach_cons hp]; rfl)) (ih.v O S hl e1 fun G1 ρ1 H1 v1 g1 p1 S1 l1 r1 => ?_)
    obtain ⟨hlen, e3⟩ := ite_ok e2
    cases e3
    have hK := O.hK
    cases r1 with
    | @lst a vs _ hgg rl =>
      refine ⟨a, vs, rfl, by rw [hK]; exact .inl (.inl (S1.sub _ _ hgg)), ?_⟩
      rw [hK]
      have sq : ∀ {H}, Same G1 H → SqL KK H a vs := fun s => .inl (.inl (s _ _ hgg))
      have key : ∀ (i : Nat) (d : D), (zs.zipIdx.map fun p => D.tup [.int (p.2 : Nat), p.1])[i]? = some d → ∃ z, zs[i]? = some z ∧ d = .tup [.int (i : Nat), z] := fun i d e => by
        rw [List.getElem?_map, List.getElem?_zipIdx] at e
        cases ez : zs[i]? with
        | none => rw [ez] at e; cases e
        | some z => rw [ez] at e; cases e; exact ⟨z, rfl, by simp⟩
      refine q _ _ _ _ g1 p1 S1 ⟨by simpa using sizeLine_le hlen, fun i H s hi => ⟨vs, sq s, by rw [rl.length]; simpa using hi⟩, fun i d H s e => ?_, fun i d H H' x s e y => ?_⟩
      · obtain ⟨z, ez, _⟩ := key i d e
        obtain ⟨v, ev, _⟩ := rl.get ez
        exact ⟨vs, v, sq s, ev⟩
      · obtain ⟨z, ez, rfl⟩ := key i d e
        obtain ⟨v, ev, rv⟩ := rl.get ez
        obtain ⟨T, u, rfl, hT, rfl, hu⟩ := y
        have := hu vs (sq s)
        rw [ev] at this
        cases this
        exact .inr ⟨rfl, T, _, _, hT, rfl, rfl, rfl, .cons (.int _) (.cons rv .nil)⟩
  · refine PI_w (pi_enumT (O.gl hg) hm (pa_cons pe_w pa_nil (starEach_cons hp)) (by rw [starEach_cons hp]; rfl)) (ih.v O S hl e1 fun G1 ρ1 H1 v1 g1 p1 S1 l1 r1 => ?_)
    obtain ⟨hlen, e3⟩ := ite_ok e2
    cases e3
    have hK := O.hK
    cases r1 with
    | @tup a vs _ hsq rl =>
      refine ⟨a, vs, rfl, by rw [hK]; exact S1.sqT hsq, ?_⟩
      rw [hK]
      have sq : ∀ {H}, Same G1 H → SqT KK H a vs := fun s => same_sqT s hsq.sq
      have key : ∀ (i : Nat) (d : D), (zs.zipIdx.map fun p => D.tup [.int (p.2 : Nat), p.1])[i]? = some d → ∃ z, zs[i]? = some z ∧ d = .tup [.int (i : Nat), z] := fun i d e => by
        rw [List.getElem?_map, List.getElem?_zipIdx] at e
        cases ez : zs[i]? with
        | none => rw [ez] at e; cases e
        | some z => rw [ez] at e; cases e; exact ⟨z, rfl, by simp⟩
      refine q _ _ _ _ g1 p1 S1 ⟨by simpa using sizeLine_le hlen, fun i H s hi => ⟨vs, sq s, by rw [rl.length]; simpa using hi⟩, fun i d H s e => ?_, fun i d H H' x s e y => ?_⟩
      · obtain ⟨z, ez, _⟩ := key i d e
        obtain ⟨v, ev, _⟩ := rl.get ez
        exact ⟨vs, v, sq s, ev⟩
      · obtain ⟨z, ez, rfl⟩ := key i d e
        obtain ⟨v, ev, rv⟩ := rl.get ez
        obtain ⟨T, u, rfl, hT, rfl, hu⟩ := y
        have := hu vs (sq s)
        rw [ev] at this
        cases this
        exact .inr ⟨rfl, T, _, _, hT, rfl, rfl, rfl, .cons (.int _) (.cons rv .nil)⟩
  · refine PI_w (pi_enumS (O.gl hg) hm (pa_cons pe_w pa_nil (starEach_cons hp)) (by rw [starEach_cons hp]; rfl)) (ih.v O S hl e1 fun G1 ρ1 H1 v1 g1 p1 S1 l1 r1 => ?_)
    obtain ⟨hlen, e3⟩ := ite_ok e2
    cases e3
    cases r1
    refine ⟨z, rfl, q _ _ _ _ g1 p1 S1 ⟨by simpa using sizeLine_le hlen, fun i H s hi => (show z.cps.size ≤ i by simpa using hi), fun i d H s e => (show i < z.cps.size from ?_), fun i d H H' x s e y => ?_⟩⟩
    · have hi := (List.getElem?_eq_some_iff.mp e).1
      simpa using hi
    · obtain ⟨T, c, rfl, hT, rfl, hu⟩ := y
      have hi : i < z.cps.size := (Array.getElem?_eq_some_iff.mp hu).1
      have ed : d = .tup [.int (i : Nat), .str ⟨#[c]⟩] := by
        rw [List.getElem?_map, List.getElem?_zipIdx, List.getElem?_map, Array.getElem?_toList, hu] at e
        cases e
        simp
      subst ed
      exact .inr ⟨rfl, T, _, _, hT, rfl, rfl, rfl, .cons (.int _) (.cons (.str _) .nil)⟩
theorem i_zip (M : ModOk KK mg GG NB) {a b pa pb pp pos} (hg : glB sc "zip" = true) (hf : "zip" ∈ NB) (na : notStar pa = true) (nb : notStar pb = true) (iha : SndE P w KK mg base GG T k N a sc pa) (ihb : SndE P w KK mg base GG T k N b sc pb) :
    SndI P w KK mg base GG T k N (.zip a b) sc (.Call (.Name "zip" pp) [pa, pb] [] pos) := fun X tg ht O Pr G H ρ σ env h S hl xs env' h' he W q => by
  have he : (ev GG (callN GG T k) a env h >>= fun z => ev GG (callN GG T k) b z.2.1 z.2.2 >>= fun y => zipD z.1 y.1 >>= fun xs => R.ok (xs, y.2.1, y.2.2)) = .ok (xs, env', h') := he
  obtain ⟨⟨x, env1, h1⟩, e1, he⟩ := R.bind_inv he
  obtain ⟨⟨y, env2, h2⟩, e2, he⟩ := R.bind_inv he
  obtain ⟨ys, e3, he⟩ := R.bind_inv he
  cases he
  have hm : X.mg "zip" = none := by rw [O.hmg]; exact M.nb "zip" hf
  have ht := ht rfl
  have hK := O.hK
  have key : ∀ (xs ys : List D) (i : Nat) (d : D), ((xs.zip ys).map fun p => D.tup [p.1, p.2])[i]? = some d → ∃ z u, xs[i]? = some z ∧ ys[i]? = some u ∧ d = .tup [z, u] := fun xs ys i d e => by
    rw [List.getElem?_map] at e
    cases ez : (xs.zip ys)[i]? with
    | none => rw [ez] at e; cases e
    | some z =>
      rw [ez] at e
      cases e
      obtain ⟨h1, h2⟩ := List.getElem?_zip_eq_some.mp ez
      exact ⟨z.1, z.2, h1, h2, rfl⟩
  cases tg <;> first | cases ht | skip
  refine PI_w (RZ.pi_zipA (O.gl hg) hm (pa_cons pe_w (pa_cons pe_w pa_nil (starEach_cons nb)) (starEach_cons na)) (by rw [starEach_cons na]) (plain_any (by simp [allPlain, nb])))
    (iha.v O S hl e1 fun G1 ρ1 H1 v1 g1 p1 S1 l1 r1 => ihb.v O S1 l1 e2 fun G2 ρ2 H2 v2 g2 p2 S2 l2 r2 => ?_)
  cases r1 <;> cases r2 <;> simp only [zipD] at e3 <;> try (cases e3; done)
  · rename_i a1 vs1 xs1 ha1 ra1 a2 vs2 xs2 ha2 ra2 _ _ _
    obtain ⟨hlen, e4⟩ := ite_ok e3
    cases e4
    have s1 : ∀ {H}, Same G2 H → SqT KK H a1 vs1 := fun s => same_sqT s (same_sqT g2 ha1.sq)
    have s2 : ∀ {H}, Same G2 H → SqT KK H a2 vs2 := fun s => same_sqT s ha2.sq
    have ra1 := ra1.mono g2 p2
    refine ⟨a1, a2, vs1, vs2, rfl, .inr ⟨by rw [hK]; exact same_sqT S2.sub (s1 (Same.refl _)), by rw [hK]; exact S2.sqT ha2, ?_⟩⟩
    rw [hK]
    refine q _ _ _ _ (g1.trans g2) (p1.trans p2) S2 ⟨by have := sizeLine_le hlen; simp; omega, fun i H s hi => ⟨vs1, vs2, s1 s, s2 s, by rw [ra1.length, ra2.length]; simp at hi; omega⟩, fun i d H s e => ?_, fun i d H H' x s e y => ?_⟩
    · obtain ⟨z, u, ez, eu, _⟩ := key _ _ i d e
      obtain ⟨v, ev, _⟩ := ra1.get ez
      obtain ⟨v', ev', _⟩ := ra2.get eu
      exact ⟨vs1, vs2, v, v', s1 s, s2 s, ev, ev'⟩
    · obtain ⟨z, u, ez, eu, rfl⟩ := key _ _ i d e
      obtain ⟨v, ev, rv⟩ := ra1.get ez
      obtain ⟨v', ev', rv'⟩ := ra2.get eu
      obtain ⟨T, a, b, rfl, hT, rfl, h1, h2⟩ := y
      have q1 := h1 vs1 (s1 s)
      have q2 := h2 vs2 (s2 s)
      rw [ev] at q1; cases q1
      rw [ev'] at q2; cases q2
      exact .inr ⟨rfl, T, _, _, hT, rfl, rfl, rfl, .cons rv (.cons rv' .nil)⟩
  · rename_i a1 vs1 xs1 ha1 ra1 a2 vs2 xs2 ha2 ra2 _ _ _
    obtain ⟨hlen, e4⟩ := ite_ok e3
    cases e4
    have s1 : ∀ {H}, Same G2 H → SqL KK H a1 vs1 := fun s => .inl (.inl (s _ _ (g2 _ _ ha1)))
    have s2 : ∀ {H}, Same G2 H → SqL KK H a2 vs2 := fun s => .inl (.inl (s _ _ ha2))
    have ra1 := ra1.mono g2 p2
    refine ⟨a1, a2, vs1, vs2, rfl, .inl ⟨by rw [hK]; exact S2.sqL (s1 (Same.refl _)), by rw [hK]; exact S2.sqL (s2 (Same.refl _)), ?_⟩⟩
    rw [hK]
    refine q _ _ _ _ (g1.trans g2) (p1.trans p2) S2 ⟨by have := sizeLine_le hlen; simp; omega, fun i H s hi => ⟨vs1, vs2, s1 s, s2 s, by rw [ra1.length, ra2.length]; simp at hi; omega⟩, fun i d H s e => ?_, fun i d H H' x s e y => ?_⟩
    · obtain ⟨z, u, ez, eu, _⟩ := key _ _ i d e
      obtain ⟨v, ev, _⟩ := ra1.get ez
      obtain ⟨v', ev', _⟩ := ra2.get eu
      exact ⟨vs1, vs2, v, v', s1 s, s2 s, ev, ev'⟩
    · obtain ⟨z, u, ez, eu, rfl⟩ := key _ _ i d e
      obtain ⟨v, ev, rv⟩ := ra1.get ez
      obtain ⟨v', ev', rv'⟩ := ra2.get eu
      obtain ⟨T, a, b, rfl, hT, rfl, h1, h2⟩ := y
      have q1 := h1 vs1 (s1 s)
      have q2 := h2 vs2 (s2 s)
      rw [ev] at q1; cases q1
      rw [ev'] at q2; cases q2
      exact .inr ⟨rfl, T, _, _, hT, rfl, rfl, rfl, .cons rv (.cons rv' .nil)⟩
end
end EV
set_option maxRecDepth 100000
set_option maxHeartbeats 1000000
namespace EV
open PySem PySem.Spec PyProof.Rows L2
theorem mEs_nil {NB N es sc} (h : mEs NB N es sc [] = true) : es = .nil := by
  cases es with
  | nil => rfl
  | cons _ _ _ => simp [mEs] at h
theorem mEs_tail {NB N st e r sc p ps} (hm : mEs NB N (.cons st e r) sc (p :: ps) = true) : mEs NB N r sc ps = true ∧ (notStar p = true → mE NB N e sc p = true) := by
  simp only [mEs, Bool.and_eq_true] at hm
  obtain ⟨h1, h2⟩ := hm
  refine ⟨h2, fun hp => ?_⟩
  split at h1
  · cases hp
  · cases h1
  · rw [Bool.and_eq_true] at h1; exact h1.2
theorem mTs_nil {NB N es sc} (h : mTs NB N es sc [] = true) : es = .nil := by
  cases es with
  | nil => rfl
  | cons _ _ => simp [mTs] at h
theorem nt_of {it : I} {p : Expr} (h : (!needTup it || isTup p) = true) : needTup it = true → isTup p = true := fun z => by
  rw [z] at h
  simpa using h
section
variable {P : Program} {w : World} {KK : PySem.W.Frag} {mg : Str → Option Value} {base : Heap} {GG : Glob} {T : Tab} {NB : List String} {k : Nat} {N : List Str}
mutual
theorem sE (M : ModOk KK mg GG NB) (hC : ∀ f fd, T f = some fd → ∃ fa fdat ps, CallOk P w KK mg base GG T k f fa fdat ps) : ∀ (e : E) (sc : Scope) (p : Expr), mE NB N e sc p = true → SndE P w KK mg base GG T k N e sc p
  | .non, sc, p, hm => by
    simp only [mE] at hm
    split at hm
    · exact l_non
    · cases hm
  | .bl b, sc, p, hm => by
    simp only [mE] at hm
    split at hm
    · rw [beq_iff_eq] at hm; subst hm; exact l_bl
    · cases hm
  | .int i, sc, p, hm => by
    simp only [mE] at hm
    split at hm
    · rw [beq_iff_eq] at hm; subst hm; exact l_int
    · cases hm
  | .str s, sc, p, hm => by
    simp only [mE] at hm
    split at hm
    · rw [decide_eq_true_eq] at hm; subst hm; exact l_str
    · cases hm
  | .var i, sc, p, hm => by
    simp only [mE] at hm
    split at hm
    · exact l_var hm
    · cases hm
  | .glob x, sc, p, hm => by
    simp only [mE] at hm
    split at hm
    · simp only [Bool.and_eq_true, decide_eq_true_eq] at hm
      obtain ⟨⟨rfl, h2⟩, h3⟩ := hm
      exact l_glob M h2 h3
    · cases hm
  | .ixb i b, sc, p, hm => by
    simp only [mE] at hm
    split at hm
    · simp only [Bool.and_eq_true] at hm
      exact l_ixb hm.1.1 (sE M hC b sc _ hm.2) hm.1.2
    · cases hm
  | .slb i lo hi, sc, p, hm => by
    simp only [mE] at hm
    split at hm
    · simp only [Bool.and_eq_true] at hm
      exact l_slb hm.1.1 (sO M hC lo sc _ hm.1.2) (sO M hC hi sc _ hm.2)
    · cases hm
  | .lenb i, sc, p, hm => by
    simp only [mE] at hm
    split at hm
    · simp only [Bool.and_eq_true, decide_eq_true_eq] at hm
      obtain ⟨⟨⟨rfl, h2⟩, h3⟩, h4⟩ := hm
      exact l_lenb M h2 h3 h4
    · cases hm
  | .lstb i, sc, p, hm => by
    simp only [mE] at hm
    split at hm
    · simp only [Bool.and_eq_true, decide_eq_true_eq] at hm
      obtain ⟨⟨⟨rfl, h2⟩, h3⟩, h4⟩ := hm
      exact l_lstb M h2 h3 h4
    · cases hm
  | .repb i, sc, p, hm => by
    simp only [mE] at hm
    split at hm
    · simp only [Bool.and_eq_true, decide_eq_true_eq] at hm
      obtain ⟨⟨⟨rfl, h2⟩, h3⟩, h4⟩ := hm
      exact l_repb M h2 h3 h4
    · cases hm
  | .inb neg a i, sc, p, hm => by
    simp only [mE] at hm
    split at hm
    · simp only [Bool.and_eq_true] at hm
      obtain ⟨⟨h1, h2⟩, h3⟩ := hm
      have := cmB_eq h1
      subst this
      exact l_inb (sE M hC a sc _ h2) h3
    · cases hm
  | .tup es, sc, p, hm => by
    simp only [mE] at hm
    split at hm
    · exact l_tup (sEs M hC es sc _ hm)
    · cases hm
  | .lst es, sc, p, hm => by
    simp only [mE] at hm
    split at hm
    · exact l_lst (sEs M hC es sc _ hm)
    · cases hm
  | .bin op a b, sc, p, hm => by
    simp only [mE] at hm
    split at hm
    · simp only [Bool.and_eq_true] at hm
      have := opB_eq hm.1.1
      subst this
      exact l_bin (sE M hC a sc _ hm.1.2) (sE M hC b sc _ hm.2)
    · cases hm
  | .neg a, sc, p, hm => by
    simp only [mE] at hm
    split at hm
    · exact l_neg (sE M hC a sc _ hm)
    · cases hm
  | .not a, sc, p, hm => by
    simp only [mE] at hm
    split at hm
    · exact l_not (sE M hC a sc _ hm)
    · cases hm
  | .cmp op a b, sc, p, hm => by
    simp only [mE] at hm
    split at hm
    · simp only [Bool.and_eq_true] at hm
      have := cmB_eq hm.1.1.1
      subst this
      exact l_cmp (sE M hC a sc _ hm.1.1.2) (sE M hC b sc _ hm.1.2) hm.2
    · cases hm
  | .chain o1 o2 a b c, sc, p, hm => by
    simp only [mE] at hm
    split at hm
    · simp only [Bool.and_eq_true] at hm
      obtain ⟨⟨⟨⟨⟨h1, h2⟩, h3⟩, h4⟩, h5⟩, h6⟩ := hm
      have := cmB_eq h1
      subst this
      have := cmB_eq h2
      subst this
      exact l_chain (sE M hC a sc _ h3) (sE M hC b sc _ h4) (sE M hC c sc _ h5) h6
    · cases hm
  | .and es, sc, p, hm => by
    simp only [mE] at hm
    split at hm
    · simp only [Bool.and_eq_true] at hm
      have := sAnd M hC es sc _ hm.1 hm.2
      exact fun X O Pr G H ρ σ env h S hl d env' h' he Q q => this X _ O Pr G H ρ σ env h S hl d env' h' he Q q
    · cases hm
  | .or es, sc, p, hm => by
    simp only [mE] at hm
    split at hm
    · simp only [Bool.and_eq_true] at hm
      have := sOr M hC es sc _ hm.1 hm.2
      exact fun X O Pr G H ρ σ env h S hl d env' h' he Q q => this X _ O Pr G H ρ σ env h S hl d env' h' he Q q
    · cases hm
  | .ite c a b, sc, p, hm => by
    simp only [mE] at hm
    split at hm
    · simp only [Bool.and_eq_true] at hm
      exact l_ite (sT M hC c sc _ hm.1.1) (sE M hC a sc _ hm.1.2) (sE M hC b sc _ hm.2)
    · cases hm
  | .call f es, sc, p, hm => by
    simp only [mE] at hm
    split at hm
    · simp only [Bool.and_eq_true, decide_eq_true_eq] at hm
      obtain ⟨⟨⟨⟨rfl, h2⟩, h3⟩, h4⟩, h5⟩ := hm
      exact l_call hC h2 h3 (sEs M hC es sc _ h4) h5 (fun e => by rw [e] at h4; exact mEs_nil h4)
    · cases hm
  | .callv i es, sc, p, hm => by
    simp only [mE] at hm
    split at hm
    · simp only [Bool.and_eq_true] at hm
      exact l_callv M hC hm.1.1 (sEs M hC es sc _ hm.1.2) hm.2
    · cases hm
  | .blt f es, sc, p, hm => by
    simp only [mE] at hm
    split at hm
    · simp only [Bool.and_eq_true, decide_eq_true_eq] at hm
      obtain ⟨⟨⟨⟨⟨rfl, h2⟩, h3⟩, h4⟩, h5⟩, h6⟩ := hm
      exact l_blt M h2 h3 h4 (sEs M hC es sc _ h5) h6
    · cases hm
  | .isi a tys, sc, p, hm => by
    simp only [mE] at hm
    split at hm
    · rename_i x pp pa pt pos
      simp only [Bool.and_eq_true, decide_eq_true_eq, List.all_eq_true] at hm
      obtain ⟨⟨⟨⟨⟨⟨⟨rfl, h2⟩, h3⟩, h4⟩, h5⟩, h6⟩, h7⟩, h8⟩ := hm
      refine l_isi M h2 h3 (sE M hC a sc _ h4) h5 h7 h8 ?_
      split at h6
      · exact .inl ⟨_, _, rfl, tysB_pos h6⟩
      · exact .inr ⟨_, _, _, rfl, h6⟩
      · cases h6
    · cases hm
  | .meth _ _ _, sc, p, hm => by simp [mE] at hm
  | .pop0 i, sc, p, hm => by
    simp only [mE] at hm
    split at hm
    · simp only [Bool.and_eq_true, decide_eq_true_eq] at hm
      obtain ⟨⟨rfl, h2⟩, h3⟩ := hm
      exact l_pop0 h2 h3
    · cases hm
  | .popA i e, sc, p, hm => by
    simp only [mE] at hm
    split at hm
    · simp only [Bool.and_eq_true, decide_eq_true_eq] at hm
      obtain ⟨⟨⟨⟨rfl, h2⟩, h3⟩, h4⟩, h5⟩ := hm
      exact l_popA h2 (sE M hC e sc _ h3) h4 h5
    · cases hm
  | .ix a b, sc, p, hm => by
    simp only [mE] at hm
    split at hm
    · simp only [Bool.and_eq_true] at hm
      exact l_ix (sE M hC a sc _ hm.1.1) (sE M hC b sc _ hm.1.2) hm.2
    · cases hm
  | .sl a lo hi, sc, p, hm => by
    simp only [mE] at hm
    split at hm
    · simp only [Bool.and_eq_true] at hm
      exact l_sl (sE M hC a sc _ hm.1.1) (sO M hC lo sc _ hm.1.2) (sO M hC hi sc _ hm.2)
    · cases hm
  | .rev a, sc, p, hm => by
    simp only [mE] at hm
    split at hm
    · exact l_rev (sE M hC a sc _ hm)
    · cases hm
  | .bits a, sc, p, hm => by
    simp only [mE] at hm
    split at hm
    · simp only [Bool.and_eq_true, decide_eq_true_eq] at hm
      obtain ⟨⟨⟨rfl, h2⟩, h3⟩, h4⟩ := hm
      exact l_bits (sE M hC a sc _ h2) h3 h4
    · cases hm
  | .idx o a, sc, p, hm => by
    simp only [mE] at hm
    split at hm
    · simp only [Bool.and_eq_true, decide_eq_true_eq] at hm
      obtain ⟨⟨⟨⟨⟨rfl, h2⟩, h3⟩, h4⟩, h5⟩, h6⟩ := hm
      exact l_idx (sE M hC o sc _ h2) h3 (sE M hC a sc _ h4) h5 h6
    · cases hm
  | .idxr o a, sc, p, hm => by
    simp only [mE] at hm
    split at hm
    · simp only [Bool.and_eq_true, decide_eq_true_eq] at hm
      obtain ⟨⟨⟨⟨⟨rfl, h2⟩, h3⟩, h4⟩, h5⟩, h6⟩ := hm
      exact l_idxr (sE M hC o sc _ h2) h3 (sE M hC a sc _ h4) h5 h6
    · cases hm
  | .lvals e, sc, p, hm => by
    simp only [mE] at hm
    split at hm
    · simp only [Bool.and_eq_true, decide_eq_true_eq] at hm
      obtain ⟨⟨⟨⟨⟨⟨rfl, h2⟩, h3⟩, rfl⟩, h5⟩, h6⟩, h7⟩ := hm
      exact l_lvals M h2 h3 (sE M hC e sc _ h5) h6 h7
    · cases hm
  | .slr a lo hi, sc, p, hm => by
    simp only [mE] at hm
    split at hm
    · simp only [Bool.and_eq_true] at hm
      exact l_slr (sE M hC a sc _ hm.1.1) (sO M hC lo sc _ hm.1.2) (sO M hC hi sc _ hm.2)
    · cases hm
  | .idxb i a, sc, p, hm => by
    simp only [mE] at hm
    split at hm
    · simp only [Bool.and_eq_true, decide_eq_true_eq] at hm
      obtain ⟨⟨⟨⟨rfl, h2⟩, h3⟩, h4⟩, h5⟩ := hm
      exact l_idxb h2 (sE M hC a sc _ h3) h4 h5
    · cases hm
  | .join o a, sc, p, hm => by
    simp only [mE] at hm
    split at hm
    · simp only [Bool.and_eq_true, decide_eq_true_eq] at hm
      obtain ⟨⟨⟨⟨⟨rfl, h2⟩, h3⟩, h4⟩, h5⟩, h6⟩ := hm
      exact l_join (sE M hC o sc _ h2) h3 (sE M hC a sc _ h4) h5 h6
    · cases hm
  | .lrng t a b, sc, p, hm => by
    simp only [mE] at hm
    split at hm
    · rename_i f fp g gp ps p1 p2
      simp only [Bool.and_eq_true, decide_eq_true_eq] at hm
      obtain ⟨⟨⟨⟨⟨⟨h1, h2⟩, h3⟩, rfl⟩, h5⟩, h6⟩, h7⟩ := hm
      refine l_lrng M h2 h1 h3 h5 h6 ?_
      split at h7
      · simp only [Bool.and_eq_true] at h7
        exact .inl ⟨_, isZ_eq h7.1.1, rfl, sE M hC b sc _ h7.1.2, h7.2⟩
      · simp only [Bool.and_eq_true] at h7
        exact .inr ⟨_, _, rfl, sE M hC a sc _ h7.1.1.1, h7.1.1.2, sE M hC b sc _ h7.1.2, h7.2⟩
      · cases h7
    · cases hm
  | .comp elt tg it ifs own, sc, p, hm => by
    simp only [mE] at hm
    split at hm
    · simp only [Bool.and_eq_true, decide_eq_true_eq] at hm
      obtain ⟨⟨⟨⟨⟨⟨⟨⟨rfl, h0⟩, h2⟩, h3⟩, h4⟩, h5⟩, h6⟩, h7⟩, h8⟩ := hm
      exact l_comp (sI M hC it sc _ h3) h2 h4 (sTf M hC ifs _ _ h5) (sE M hC elt _ _ h6) (nt_of h0) h7 h8
    · cases hm
  | .comp2 elt tg it ifs tg1 it1 ifs1 own own1, sc, p, hm => by
    simp only [mE] at hm
    split at hm
    · simp only [Bool.and_eq_true, decide_eq_true_eq, List.all_eq_true] at hm
      obtain ⟨⟨⟨⟨⟨⟨⟨⟨⟨⟨⟨⟨⟨⟨⟨⟨rfl, rfl⟩, h0⟩, h01⟩, h2⟩, hsub⟩, h3⟩, h4⟩, h5⟩, h31⟩, h41⟩, h51⟩, h6⟩, h7⟩, h71⟩, h8⟩, h81⟩ := hm
      exact l_comp2 (sI M hC it sc _ h3) h2 h4 (sTf M hC ifs _ _ h5) (sI M hC it1 _ _ h31) h41 (sTf M hC ifs1 _ _ h51) (sE M hC elt _ _ h6) (nt_of h0) (nt_of h01) h7 h71 hsub h8 h81
    · cases hm
  | .fstr es, sc, p, hm => by
    simp only [mE] at hm
    split at hm
    · exact l_fstr (sF M hC es sc _ hm)
    · cases hm
  | .upper a, sc, p, hm => by
    simp only [mE] at hm
    split at hm
    · simp only [Bool.and_eq_true, decide_eq_true_eq] at hm
      obtain ⟨⟨⟨rfl, h2⟩, h3⟩, h4⟩ := hm
      exact l_upper (sE M hC a sc _ h2) h3 h4
    · cases hm
  | .never, sc, p, hm => l_never
  | .dlit kvs, sc, p, hm => by
    simp only [mE] at hm
    split at hm
    · simp only [Bool.and_eq_true, decide_eq_true_eq] at hm
      exact l_dlit hm.1.1 hm.1.2 hm.2
    · cases hm
  | .sset a, sc, p, hm => by
    simp only [mE] at hm
    split at hm
    · simp only [Bool.and_eq_true, decide_eq_true_eq] at hm
      obtain ⟨⟨⟨⟨⟨⟨⟨rfl, h2⟩, h3⟩, rfl⟩, h5⟩, h6⟩, h7⟩, h8⟩ := hm
      exact l_sset M h2 h3 h5 h6 (sE M hC a sc _ h7) h8
    · cases hm
  | .new1 a b, sc, p, hm => by
    simp only [mE] at hm
    split at hm
    · simp only [Bool.and_eq_true] at hm
      exact l_new1 (sE M hC a sc _ hm.1) (sE M hC b sc _ hm.2)
    · cases hm
  | .newl e, sc, p, hm => by
    simp only [mE, Bool.and_eq_true] at hm
    exact l_newl (sE M hC e sc p hm.1) hm.2
  | .newd es, sc, p, hm => by
    simp only [mE] at hm
    split at hm
    · simp only [Bool.and_eq_true, decide_eq_true_eq] at hm
      exact l_newd (sKv M hC es sc _ _ hm.1.1) hm.1.2 hm.2
    · cases hm
theorem sF (M : ModOk KK mg GG NB) (hC : ∀ f fd, T f = some fd → ∃ fa fdat ps, CallOk P w KK mg base GG T k f fa fdat ps) : ∀ (e : Es) (sc : Scope) (ps : List Expr), mFs NB N e sc ps = true → SndF P w KK mg base GG T k N e sc ps
  | .nil, sc, ps, hm => by
    simp only [mFs] at hm
    split at hm
    · exact f_nil
    · cases hm
  | .cons star e r, sc, ps, hm => by
    simp only [mFs] at hm
    split at hm
    · cases hm
    · rename_i p ps
      simp only [Bool.and_eq_true] at hm
      obtain ⟨h1, h2⟩ := hm
      split at h1
      · simp only [Bool.and_eq_true, decide_eq_true_eq, Option.isNone_iff_eq_none] at h1
        obtain ⟨⟨rfl, rfl⟩, h3⟩ := h1
        exact f_fmt (sE M hC e sc _ h3) (sF M hC r sc _ h2)
      · split at h1
        · rw [decide_eq_true_eq] at h1
          subst h1
          exact f_str (sF M hC r sc _ h2)
        · cases h1
      · cases h1
theorem sO (M : ModOk KK mg GG NB) (hC : ∀ f fd, T f = some fd → ∃ fa fdat ps, CallOk P w KK mg base GG T k f fa fdat ps) : ∀ (e : Eo) (sc : Scope) (p : Option Expr), mEo NB N e sc p = true → SndO P w KK mg base GG T k N e sc p
  | .no, sc, p, hm => by
    simp only [mEo] at hm
    split at hm
    · exact o_no
    · cases hm
  | .so e, sc, p, hm => by
    simp only [mEo] at hm
    split at hm
    · exact o_so (sE M hC e sc _ hm)
    · cases hm
theorem sEs (M : ModOk KK mg GG NB) (hC : ∀ f fd, T f = some fd → ∃ fa fdat ps, CallOk P w KK mg base GG T k f fa fdat ps) : ∀ (e : Es) (sc : Scope) (ps : List Expr), mEs NB N e sc ps = true → SndEs P w KK mg base GG T k N e sc ps
  | .nil, sc, ps, hm => by
    cases ps with
    | nil => exact s_nil
    | cons _ _ => simp [mEs] at hm
  | .cons false e r, sc, ps, hm => by
    cases ps with
    | nil => simp [mEs] at hm
    | cons p ps =>
      simp only [mEs, Bool.and_eq_true] at hm
      exact s_cons (sE M hC e sc _ hm.1.2) (sEs M hC r sc _ hm.2) hm.1.1
  | .cons true e r, sc, ps, hm => by
    cases ps with
    | nil => simp [mEs] at hm
    | cons p ps =>
      simp only [mEs, Bool.and_eq_true] at hm
      obtain ⟨h1, h2⟩ := hm
      split at h1
      · exact s_star (sE M hC e sc _ h1) (sEs M hC r sc _ h2)
      · cases h1
      · rename_i q; cases q
theorem sAnd (M : ModOk KK mg GG NB) (hC : ∀ f fd, T f = some fd → ∃ fa fdat ps, CallOk P w KK mg base GG T k f fa fdat ps) : ∀ (e : Es) (sc : Scope) (ps : List Expr), mEs NB N e sc ps = true → allPlain ps = true → SndAnd P w KK mg base GG T k N e sc ps
  | .nil, sc, ps, hm, hp => fun X pos O Pr G H ρ σ env h S hl d env' h' he Q q => nomatch he
  | .cons st e .nil, sc, ps, hm, hp => by
    cases ps with
    | nil => simp [mEs] at hm
    | cons p ps =>
      obtain ⟨h2, h1⟩ := mEs_tail hm
      cases ps with
      | nil =>
        have hp1 : notStar p = true := by simpa [allPlain] using hp
        exact and_one (sE M hC e sc _ (h1 hp1))
      | cons _ _ => simp [mEs] at h2
  | .cons st e (.cons st2 e2 r), sc, ps, hm, hp => by
    cases ps with
    | nil => simp [mEs] at hm
    | cons p ps =>
      obtain ⟨h2, h1⟩ := mEs_tail hm
      cases ps with
      | nil => simp [mEs] at h2
      | cons p2 ps =>
        simp only [allPlain, List.all_cons, Bool.and_eq_true] at hp
        have ih := sAnd M hC (.cons st2 e2 r) sc (p2 :: ps) h2 (by simp only [allPlain, List.all_cons, Bool.and_eq_true]; exact hp.2)
        exact and_cons (sE M hC e sc _ (h1 hp.1)) ih
theorem sOr (M : ModOk KK mg GG NB) (hC : ∀ f fd, T f = some fd → ∃ fa fdat ps, CallOk P w KK mg base GG T k f fa fdat ps) : ∀ (e : Es) (sc : Scope) (ps : List Expr), mEs NB N e sc ps = true → allPlain ps = true → SndOr P w KK mg base GG T k N e sc ps
  | .nil, sc, ps, hm, hp => fun X pos O Pr G H ρ σ env h S hl d env' h' he Q q => nomatch he
  | .cons st e .nil, sc, ps, hm, hp => by
    cases ps with
    | nil => simp [mEs] at hm
    | cons p ps =>
      obtain ⟨h2, h1⟩ := mEs_tail hm
      cases ps with
      | nil =>
        have hp1 : notStar p = true := by simpa [allPlain] using hp
        exact or_one (sE M hC e sc _ (h1 hp1))
      | cons _ _ => simp [mEs] at h2
  | .cons st e (.cons st2 e2 r), sc, ps, hm, hp => by
    cases ps with
    | nil => simp [mEs] at hm
    | cons p ps =>
      obtain ⟨h2, h1⟩ := mEs_tail hm
      cases ps with
      | nil => simp [mEs] at h2
      | cons p2 ps =>
        simp only [allPlain, List.all_cons, Bool.and_eq_true] at hp
        have ih := sOr M hC (.cons st2 e2 r) sc (p2 :: ps) h2 (by simp only [allPlain, List.all_cons, Bool.and_eq_true]; exact hp.2)
        exact or_cons (sE M hC e sc _ (h1 hp.1)) ih
theorem sKv (M : ModOk KK mg GG NB) (hC : ∀ f fd, T f = some fd → ∃ fa fdat ps, CallOk P w KK mg base GG T k f fa fdat ps) : ∀ (e : Kvs) (sc : Scope) (ks : List (Option Expr)) (vs : List Expr), mKv NB N e sc ks vs = true → SndKv P w KK mg base GG T k N e sc ks vs
  | .nil, sc, ks, vs, hm => by
    simp only [mKv] at hm
    split at hm
    · exact k_nil
    · cases hm
  | .cons kk sh e r, sc, ks, vs, hm => by
    simp only [mKv] at hm
    split at hm
    · simp only [Bool.and_eq_true, decide_eq_true_eq, Bool.or_eq_true, Bool.not_eq_true'] at hm
      obtain ⟨⟨⟨rfl, h2⟩, h3⟩, h4⟩ := hm
      refine k_cons (sE M hC e sc _ h2) (sKv M hC r sc _ _ h4) fun e => ?_
      rcases h3 with h3 | h3
      · rw [e] at h3; cases h3
      · exact h3
    · cases hm
theorem sT (M : ModOk KK mg GG NB) (hC : ∀ f fd, T f = some fd → ∃ fa fdat ps, CallOk P w KK mg base GG T k f fa fdat ps) : ∀ (e : EV.T) (sc : Scope) (p : Expr), mT NB N e sc p = true → SndT P w KK mg base GG T k N e sc p
  | .tru e, sc, p, hm => by
    simp only [mT, Bool.and_eq_true] at hm
    exact t_tru (sE M hC e sc _ hm.2) hm.1
  | .inb neg a i, sc, p, hm => by
    simp only [mT] at hm
    split at hm
    · simp only [Bool.and_eq_true] at hm
      obtain ⟨⟨h1, h2⟩, h3⟩ := hm
      have := cmB_eq h1
      subst this
      exact t_inb (sE M hC a sc _ h2) h3
    · cases hm
  | .not t, sc, p, hm => by
    simp only [mT] at hm
    split at hm
    · exact t_not (sT M hC t sc _ hm)
    · cases hm
  | .and ts, sc, p, hm => by
    simp only [mT] at hm
    split at hm
    · have := sTa M hC ts sc _ hm
      exact fun X O Pr G H ρ σ env h S hl d env' h' he Q q => wW_wT (this X _ O Pr G H ρ σ env h S hl (by simp) d env' h' he Q q)
    · cases hm
  | .or ts, sc, p, hm => by
    simp only [mT] at hm
    split at hm
    · have := sTo M hC ts sc _ hm
      exact fun X O Pr G H ρ σ env h S hl d env' h' he Q q => wW_wT (this X _ O Pr G H ρ σ env h S hl (by simp) d env' h' he Q q)
    · cases hm
  | .ite _ _ _, sc, p, hm => by simp [mT] at hm
  | .cmp op a b, sc, p, hm => by
    simp only [mT] at hm
    split at hm
    · simp only [Bool.and_eq_true] at hm
      have := cmB_eq hm.1.1.1
      subst this
      exact l_tcmp (sE M hC a sc _ hm.1.1.2) (sE M hC b sc _ hm.1.2) hm.2
    · cases hm
  | .chain o1 o2 a b c, sc, p, hm => by
    simp only [mT] at hm
    split at hm
    · simp only [Bool.and_eq_true] at hm
      obtain ⟨⟨⟨⟨⟨h1, h2⟩, h3⟩, h4⟩, h5⟩, h6⟩ := hm
      have := cmB_eq h1
      subst this
      have := cmB_eq h2
      subst this
      exact l_tchain (sE M hC a sc _ h3) (sE M hC b sc _ h4) (sE M hC c sc _ h5) h6
    · cases hm
theorem sTa (M : ModOk KK mg GG NB) (hC : ∀ f fd, T f = some fd → ∃ fa fdat ps, CallOk P w KK mg base GG T k f fa fdat ps) : ∀ (e : Ts) (sc : Scope) (ps : List Expr), mTs NB N e sc ps = true → SndTa P w KK mg base GG T k N e sc ps
  | .nil, sc, ps, hm => by
    cases ps with
    | nil => exact ta_nil
    | cons _ _ => simp [mTs] at hm
  | .cons t r, sc, ps, hm => by
    cases ps with
    | nil => simp [mTs] at hm
    | cons p ps =>
      simp only [mTs, Bool.and_eq_true] at hm
      exact ta_cons (sT M hC t sc _ hm.1) (sTa M hC r sc _ hm.2) (fun e => by rw [e] at hm; exact mTs_nil hm.2)
theorem sTo (M : ModOk KK mg GG NB) (hC : ∀ f fd, T f = some fd → ∃ fa fdat ps, CallOk P w KK mg base GG T k f fa fdat ps) : ∀ (e : Ts) (sc : Scope) (ps : List Expr), mTs NB N e sc ps = true → SndTo P w KK mg base GG T k N e sc ps
  | .nil, sc, ps, hm => by
    cases ps with
    | nil => exact to_nil
    | cons _ _ => simp [mTs] at hm
  | .cons t r, sc, ps, hm => by
    cases ps with
    | nil => simp [mTs] at hm
    | cons p ps =>
      simp only [mTs, Bool.and_eq_true] at hm
      exact to_cons (sT M hC t sc _ hm.1) (sTo M hC r sc _ hm.2) (fun e => by rw [e] at hm; exact mTs_nil hm.2)
theorem sTf (M : ModOk KK mg GG NB) (hC : ∀ f fd, T f = some fd → ∃ fa fdat ps, CallOk P w KK mg base GG T k f fa fdat ps) : ∀ (e : Ts) (sc : Scope) (ps : List Expr), mTf NB N e sc ps = true → SndTf P w KK mg base GG T k N e sc ps
  | .nil, sc, ps, hm => by
    cases ps with
    | nil => exact tf_nil
    | cons _ _ => simp [mTf] at hm
  | .cons t .nil, sc, ps, hm => by
    simp only [mTf] at hm
    split at hm
    · exact tf_one (sT M hC t sc _ hm)
    · cases hm
  | .cons _ (.cons _ _), sc, ps, hm => by simp [mTf] at hm
theorem sI (M : ModOk KK mg GG NB) (hC : ∀ f fd, T f = some fd → ∃ fa fdat ps, CallOk P w KK mg base GG T k f fa fdat ps) : ∀ (e : I) (sc : Scope) (p : Expr), mI NB N e sc p = true → SndI P w KK mg base GG T k N e sc p
  | .val e, sc, p, hm => i_val (sE M hC e sc _ (by simpa only [mI] using hm))
  | .rng1 a, sc, p, hm => by
    simp only [mI] at hm
    split at hm
    · simp only [Bool.and_eq_true, decide_eq_true_eq] at hm
      obtain ⟨⟨⟨⟨rfl, h2⟩, h3⟩, h4⟩, h5⟩ := hm
      exact i_rng1 M h2 h3 h5 (sE M hC a sc _ h4)
    · cases hm
  | .rng2 a b, sc, p, hm => by
    simp only [mI] at hm
    split at hm
    · simp only [Bool.and_eq_true, decide_eq_true_eq] at hm
      obtain ⟨⟨⟨⟨⟨⟨rfl, h2⟩, h3⟩, h4⟩, h5⟩, h6⟩, h7⟩ := hm
      exact i_rng2 M h2 h3 h5 h7 (sE M hC a sc _ h4) (sE M hC b sc _ h6)
    · cases hm
  | .rng3 a b c, sc, p, hm => by
    simp only [mI] at hm
    split at hm
    · simp only [Bool.and_eq_true, decide_eq_true_eq] at hm
      obtain ⟨⟨⟨⟨⟨⟨⟨⟨rfl, h2⟩, h3⟩, h4⟩, h5⟩, h6⟩, h7⟩, h8⟩, h9⟩ := hm
      exact i_rng3 M h2 h3 h5 h7 h9 (sE M hC a sc _ h4) (sE M hC b sc _ h6) (sE M hC c sc _ h8)
    · cases hm
  | .enum a, sc, p, hm => by
    simp only [mI] at hm
    split at hm
    · simp only [Bool.and_eq_true, decide_eq_true_eq] at hm
      obtain ⟨⟨⟨⟨rfl, h2⟩, h3⟩, h4⟩, h5⟩ := hm
      exact i_enum M h2 h3 h5 (sE M hC a sc _ h4)
    · cases hm
  | .zip a b, sc, p, hm => by
    simp only [mI] at hm
    split at hm
    · simp only [Bool.and_eq_true, decide_eq_true_eq] at hm
      obtain ⟨⟨⟨⟨⟨⟨rfl, h2⟩, h3⟩, h4⟩, h5⟩, h6⟩, h7⟩ := hm
      exact i_zip M h2 h3 h5 h7 (sE M hC a sc _ h4) (sE M hC b sc _ h6)
    · cases hm
  | .keys e, sc, p, hm => i_keys (sE M hC e sc _ (by simpa only [mI] using hm))
  | .vals e, sc, p, hm => by
    simp only [mI] at hm
    split at hm
    · simp only [Bool.and_eq_true, decide_eq_true_eq] at hm
      obtain ⟨⟨⟨rfl, h2⟩, h3⟩, h4⟩ := hm
      exact i_vals (sE M hC e sc _ h2) h3 h4
    · cases hm
  | .items e, sc, p, hm => by
    simp only [mI] at hm
    split at hm
    · simp only [Bool.and_eq_true, decide_eq_true_eq] at hm
      obtain ⟨⟨⟨rfl, h2⟩, h3⟩, h4⟩ := hm
      exact i_items (sE M hC e sc _ h2) h3 h4
    · cases hm
end
end
end EV
set_option maxRecDepth 100000
set_option maxHeartbeats 1000000
namespace EV
open PySem PySem.Spec PyProof.Rows L2
def compScope : Expr → Option Scope
  | .ListComp _ _ s _ => some s
  | .SetComp _ _ s _ => some s
  | .DictComp _ _ _ s _ => some s
  | _ => none
def swB (sc : Scope) (y : Str) (py : Pos) (s : Scope) (pos : Pos) : Bool :=
  decide (sc.names.lookup y = some .local) && (py.line == pos.line) && !(s.names.any fun z => z.1 == y && (z.2 == .local || z.2 == .cell))
def noSw (sc : Scope) (y : Str) (py : Pos) (e : Expr) : Bool := match compScope e with
  | none => true
  | some s => !swB sc y py s e.pos
theorem swaps_plain {e : Expr} (h : compScope e = none) (t l env) : swapsWith e t l env = pure false := by
  cases e <;> first | rfl | cases h
theorem swaps_other {e : Expr} {t : Expr} (h : ∀ x p, t ≠ .Name x p) (l env) : swapsWith e (some t) l env = pure false := by
  cases e <;> first | rfl | (cases t <;> first | rfl | exact absurd rfl (h _ _))
theorem sw_name {e : Expr} {s : Scope} {y : Str} {py : Pos} {l : Nat} {env : PySem.Env} (hs : compScope e = some s) (hb : swB env.scope y py s e.pos = false) : swapsWith e (some (.Name y py)) l env = pure false := by
  have key : ∀ b : Bool, (b && env.kindOf y == some .local && py.line == e.pos.line && !(s.names.any fun (n, k) => n == y && (k == .local || k == .cell))) = false := fun b => by
    have : swB env.scope y py s e.pos = (decide (env.kindOf y = some .local) && (py.line == e.pos.line) && !(s.names.any fun (n, k) => n == y && (k == .local || k == .cell))) := rfl
    rw [this] at hb
    cases b
    · rfl
    · rw [Bool.true_and]
      by_cases hk : env.kindOf y = some .local
      · simp only [hk, decide_true, Bool.true_and, beq_self_eq_true] at hb ⊢
        exact hb
      · have : (env.kindOf y == some .local) = false := by simpa using hk
        rw [this]; rfl
  cases e <;> cases hs <;> exact congrArg pure (key _)
theorem noSw_eq {sc : Scope} {e : Expr} {y : Str} {py : Pos} {l : Nat} {env : PySem.Env} (hsc : env.scope = sc) (h : noSw sc y py e = true) : swapsWith e (some (.Name y py)) l env = pure false := by
  unfold noSw at h
  split at h
  · exact swaps_plain (by assumption) _ _ _
  · rename_i s hs
    rw [Bool.not_eq_true'] at h
    exact sw_name hs (by rw [hsc]; exact h)

def nmS (sc : Scope) (ts : List Expr) : List Str := ts.filterMap fun
  | .Name x q => if sc.names.lookup x == some .local && q.line == (ts.head?.map (·.pos.line)).getD 0 then some x else none
  | _ => none
def swS (sc : Scope) (ts vs : List Expr) : Option (Option (List Str)) :=
  if (!(ts.length == 2 || ts.length == 3) || vs.length != ts.length) then some none
  else if (vs.any fun | .Starred .. => true | _ => false) then some none
  else
    if (nmS sc ts).length != ts.length || (nmS sc ts).eraseDups.length != (nmS sc ts).length then some none
    else if (vs.all (foldedForSure 8)) then some none
    else if (vs.all (constantsAlone 8)) then none else some (some (nmS sc ts))
theorem swS_eq {sc : Scope} {ts vs : List Expr} {o} {env : PySem.Env} (hsc : env.scope = sc) (hk : sc.kind = .function) (h : swS sc ts vs = some o) (kt pt k2 p2) : swappedStores [.Tuple ts kt pt] (.Tuple vs k2 p2) env = pure o := by
  subst hsc
  have hb : (env.blockKind != .function) = false := by unfold Env.blockKind; rw [hk]; rfl
  unfold swS at h
  unfold swappedStores
  rw [hb]
  simp only [Bool.or_false]
  split at h
  · rename_i c
    cases h
    refine if_pos ?_
    exact c
  · rename_i c
    refine (if_neg ?_).trans ?_
    · exact c
    split at h
    · rename_i c2
      cases h
      refine if_pos ?_
      exact c2
    · rename_i c2
      refine (if_neg ?_).trans ?_
      · exact c2
      split at h
      · rename_i c3
        cases h
        refine if_pos ?_
        exact c3
      · rename_i c3
        refine (if_neg ?_).trans ?_
        · exact c3
        split at h
        · rename_i c4
          cases h
          refine if_pos ?_
          exact c4
        · rename_i c4
          refine (if_neg ?_).trans ?_
          · exact c4
          split at h
          · cases h
          · rename_i c5
            refine (if_neg ?_).trans ?_
            · exact c5
            cases h
            rfl
def notTup : Expr → Bool | .Tuple _ _ _ => false | _ => true
theorem swS_tup {e : Expr} (h : notTup e = true) (ts kt pt env) : swappedStores [.Tuple ts kt pt] e env = pure none := by
  cases e <;> first | rfl | cases h

section
variable (fb : Bool) (NB : List String) (N : List Str) (sc : Scope)
def ownsOk : List Bool → Es → Bool
  | [], .nil => true
  | o :: os, .cons st e r => !st && (!o || fr e) && ownsOk os r
  | _, _ => false
mutual
def mS : S → Stmt → Bool
  | .set i own e, st => match st with
    | .Assign [.Name x px] pe pos => decide (N[i]? = some x) && locB sc x && mE NB N e sc pe && (!own || fr e) && (noSw sc x px pe || (match pe with
      | .ListComp _ [⟨_, _, _, _⟩] s q => swB sc x px s q && (sc.kind == .function) && (match e with | .comp _ _ _ _ _ => true | _ => false)
      | .ListComp _ [⟨_, _, _, _⟩, ⟨_, _, _, _⟩] s q => swB sc x px s q && (sc.kind == .function) && (match e with | .comp2 _ _ _ _ _ _ _ _ _ => true | _ => false)
      | _ => false))
    | _ => false
  | .sett is e, st => match st with
    | .Assign [.Tuple ps kt pt] pe pos => tgB sc N (.tup is) (.Tuple ps kt pt) && mE NB N e sc pe && notTup pe
    | _ => false
  | .par is os es, st => match st with
    | .Assign [.Tuple ps kt pt] (.Tuple vs k2 p2) pos => tgB sc N (.tup is) (.Tuple ps kt pt) && mEs NB N es sc vs && allPlain vs && ownsOk os es && (sc.kind == .function) && decide (is.length ≤ 15) && (match ps, swS sc ps vs with
      | _, some none => true
      | [.Name x _, .Name y _], some (some ns) => decide (ns = [x, y]) && decide (x ≠ y) && decide (sc.names.lookup x = some .local) && decide (sc.names.lookup y = some .local)
      | [.Name x _, .Name y _, .Name z _], some (some ns) => decide (ns = [x, y, z]) && decide (x ≠ y ∧ x ≠ z ∧ y ≠ z) && decide (sc.names.lookup x = some .local) && decide (sc.names.lookup y = some .local) && decide (sc.names.lookup z = some .local)
      | _, _ => false)
    | _ => false
  | .setsub i ke e, st => match st with
    | .Assign [.Subscript (.Name x _) pk _] pe pos => slotB sc N i x && mE NB N ke sc pk && mE NB N e sc pe && notSlice pk
    | _ => false
  | .app i e, st => match st with
    | .Expr (.Call (.Attribute (.Name x _) m ap) [q] [] cp) pos => decide (m = "append") && slotB sc N i x && mE NB N e sc q && notStar q && (ap.endLine == cp.line)
    | _ => false
  | .ext i e, st => match st with
    | .Expr (.Call (.Attribute (.Name x _) m ap) [q] [] cp) pos => decide (m = "extend") && slotB sc N i x && mE NB N e sc q && notStar q && (ap.endLine == cp.line)
    | _ => false
  | .appx o e, st => match st with
    | .Expr (.Call (.Attribute po m ap) [q] [] cp) pos => decide (m = "append") && mE NB N o sc po && notSup po && mE NB N e sc q && notStar q && (ap.endLine == cp.line)
    | _ => false
  | .expr e, st => match st with | .Expr p pos => mE NB N e sc p && decide (compScope p = none) | _ => false
  | .ret e, st => match st with | .Return (some p) _ => mE NB N e sc p && (!fb || fr e) | _ => false
  | .retO i, st => match st with | .Return (some (.Name x _)) _ => slotB sc N i x | _ => false
  | .retN, st => match st with | .Return none _ => true | _ => false
  | .ite c a b, st => match st with | .If pc pa pb _ => mT NB N c sc pc && mSs a pa && mSs b pb | _ => false
  | .for_ tg it body kill, st => match st with | .For ptg pit pb [] _ => mI NB N it sc pit && tgB sc N tg ptg && mSs body pb && notSet pit && (!needTup it || isTup ptg) | _ => false
  | .while_ c body kill, st => match st with | .While pc pb [] _ => mT NB N c sc pc && mSs body pb | _ => false
  | .brk, st => match st with | .Break _ => true | _ => false
  | .cont, st => match st with | .Continue _ => true | _ => false
  | .pass, st => match st with | .Pass _ => true | _ => false
  | .raise _ _, _ => true
def mSs : Ss → List Stmt → Bool
  | .nil, sts => match sts with | [] => true | _ => false
  | .cons s r, sts => match sts with | st :: sts => mS s st && mSs r sts | [] => false
end
end
def OutQ (fb : Bool) (K : PySem.W.Frag) (Pr G : Hp) (ρ : List Addr) (n : Nat) (out : Out) (D : Ends) : Prop := match out with
  | .nx env' h' => ∀ G' ρ' H' σ', Same G G' → Ext ρ ρ' → SR K Pr G' H' ρ' σ' env' h' → env'.length = n → D.nx σ' H'
  | .bk env' h' => ∀ G' ρ' H' σ', Same G G' → Ext ρ ρ' → SR K Pr G' H' ρ' σ' env' h' → env'.length = n → D.bk σ' H'
  | .ct env' h' => ∀ G' ρ' H' σ', Same G G' → Ext ρ ρ' → SR K Pr G' H' ρ' σ' env' h' → env'.length = n → D.ct σ' H'
  | .rt d h' => ∀ G' ρ' H' v, Same G G' → Ext ρ ρ' → SR K Pr G' H' ρ' [] [] h' → RepX K Pr G' H' ρ' [] [] fb v d → D.rt v H'
theorem OutQ.mono {fb : Bool} {K : PySem.W.Frag} {Pr G G1 : Hp} {ρ ρ1 : List Addr} {n : Nat} {out : Out} {D : Ends} (sg : Same G G1) (sr : Ext ρ ρ1) (q : OutQ fb K Pr G ρ n out D) : OutQ fb K Pr G1 ρ1 n out D := by
  cases out <;> exact fun G' ρ' H' x s1 s2 => q G' ρ' H' x (sg.trans s1) (sr.trans s2)
theorem SR.drop0 {K : PySem.W.Frag} {Pr G H : Hp} {ρ : List Addr} {σ : L2.St} {env : Env} {h : AH} (S : SR K Pr G H ρ σ env h) : SR K Pr G H ρ [] [] h :=
  S.forget rfl fun i s e => by simp at e

section
variable {fb : Bool} {P : Program} {w : World} {KK : PySem.W.Frag} {mg : Str → Option Value} {base : Heap} {GG : Glob} {T : Tab} {NB : List String} {k : Nat} {N : List Str} {sc : Scope}
section
variable (fb P w KK mg base GG T k N)
def SndS (s : S) (sc : Scope) (st : Stmt) : Prop := ∀ X, OkX P w KK mg base k sc N X → (∀ x, X.fn x = true) → ∀ Pr G H ρ σ env h, SR KK Pr G H ρ σ env h → env.length = N.length →
  ∀ out, ex GG (callN GG T k) s env h = .ok out → ∀ D, OutQ fb KK Pr G ρ N.length out D → wS X st D σ H
def SndSs (s : Ss) (sc : Scope) (sts : List Stmt) : Prop := ∀ X, OkX P w KK mg base k sc N X → (∀ x, X.fn x = true) → ∀ Pr G H ρ σ env h, SR KK Pr G H ρ σ env h → env.length = N.length →
  ∀ out, exs GG (callN GG T k) s env h = .ok out → ∀ D, OutQ fb KK Pr G ρ N.length out D → wSs X sts D σ H
end
theorem OkX.loc {X : Cx} (O : OkX P w KK mg base k sc N X) {x} (h : locB sc x = true) : Loc X.env.scope x := by
  rw [O.hsc]
  unfold locB at h
  split at h <;> first | exact .inl (by assumption) | exact .inr (by assumption) | cases h
theorem OkX.hx {X : Cx} (O : OkX P w KK mg base k sc N X) (hfn : ∀ x, X.fn x = true) : ∀ x, locB sc x = true → Loc X.env.scope x ∧ (X.fn x = true ∨ X.env.scope.names.lookup x = some .local) := fun x h => ⟨O.loc h, .inl (hfn x)⟩
theorem set_end {Pr G : Hp} {ρ : List Addr} {σ : L2.St} {env1 : Env} {h1 : AH} {f own : Bool} {d : D} {s : Slot} {i : Nat} {De : Ends} (hf : own = true → f = true) (hi : i < N.length) (hl : env1.length = N.length) (e : slotOf own d = .ok s)
    (q : OutQ fb KK Pr G ρ N.length (.nx (env1.set i s) h1) De) : Pst KK Pr G ρ σ env1 h1 f d (fun x H1 => gName i x σ H1 De.nx) := fun G' ρ' H' v sg sr S' r => by
  have hi' : i < env1.length := by rw [hl]; exact hi
  cases own with
  | false =>
    cases e
    obtain ⟨G2, s2, S2, r2⟩ := r.val S'
    exact q G2 ρ' H' _ (sg.trans s2) sr (S2.put hi' r2) (by simpa using hl)
  | true =>
    cases d with
    | lst ds =>
      cases e
      rw [hf rfl] at r
      obtain ⟨a, vs, rfl, ea, rl, L⟩ := r
      exact q G' ρ' H' _ sg sr (S'.putOwn hi' ea rl L) (by simpa using hl)
    | _ =>
      cases e
      obtain ⟨G2, s2, S2, r2⟩ := r.val S'
      exact q G2 ρ' H' _ (sg.trans s2) sr (S2.put hi' r2) (by simpa using hl)
theorem s_set {i own e x px pe pos} (hi : N[i]? = some x) (hx : locB sc x = true) (ih : SndE P w KK mg base GG T k N e sc pe) (hf : own = true → fr e = true) (hs : noSw sc x px pe = true) :
    SndS fb P w KK mg base GG T k N (.set i own e) sc (.Assign [.Name x px] pe pos) := fun X O hfn Pr G H ρ σ env h S hl out he De q => by
  have he : (ev GG (callN GG T k) e env h >>= fun z => slotOf own z.1 >>= fun s => R.ok (Out.nx (z.2.1.set i s) z.2.2)) = .ok out := he
  obtain ⟨⟨d, env1, h1⟩, e1, he⟩ := R.bind_inv he
  obtain ⟨s, e2, he⟩ := R.bind_inv he
  cases he
  refine PS_w (ps_set (i := i) (by rw [O.hN]; exact O.nd) (by rw [O.hN]; exact hi) (O.loc hx) pe_w (noSw_eq O.hsc hs) (.inl (hfn x))) ?_
  refine ih X O Pr G H ρ σ env h S hl _ _ _ e1 _ fun G' ρ' H' v sg sr S' r => ?_
  exact set_end hf (List.getElem?_eq_some_iff.mp hi).1 (len_of S hl S') e2 q G' ρ' H' v sg sr S' r
theorem s_setc {i ow elt tg it ifs own x px pe pt pi pf scope cpos pos} (hi : N[i]? = some x) (ihi : SndI P w KK mg base GG T k N it sc pi) (hb : blkC N sc scope (ownOf N own) = true) (htg : tgB scope N tg pt = true) (ihf : SndTf P w KK mg base GG T k N ifs (relS scope sc) pf) (ihe : SndE P w KK mg base GG T k N elt (relS scope sc) pe)
    (hnt : needTup it = true → isTup pt = true) (hin : tgIn tg own = true) (hn : notSet pi = true) (hs : swB sc x px scope cpos = true) (hk : sc.kind = .function) :
    SndS fb P w KK mg base GG T k N (.set i ow (.comp elt tg it ifs own)) sc (.Assign [.Name x px] (.ListComp pe [⟨pt, pi, pf, 0⟩] scope cpos) pos) := fun X O hfn Pr G H ρ σ env h S hl out he De q => by
  have he : (ev GG (callN GG T k) (.comp elt tg it ifs own) env h >>= fun z => slotOf ow z.1 >>= fun s => R.ok (Out.nx (z.2.1.set i s) z.2.2)) = .ok out := he
  obtain ⟨⟨d, env1, h1⟩, e1, he⟩ := R.bind_inv he
  obtain ⟨s, e2, he⟩ := R.bind_inv he
  cases he
  have blk : BlkOk X.N X.env.scope scope (ownOf N own) := by rw [O.hN, O.hsc]; exact blkOk_by hb
  simp only [swB, Bool.and_eq_true, decide_eq_true_eq, Bool.not_eq_true'] at hs
  obtain ⟨⟨h1', h2'⟩, h3'⟩ := hs
  have p := ps_setLc (X := X) (i := i) (y := x) (py := px) (spos := pos) (elt := pe) (tg := pt) (iter := pi) (ifs := pf) (pos := cpos) (wi := wI X pt pi) (g := gC X scope pt) (tt := ttC X scope pf) (te := teC X scope pe)
    O.x.calm (by rw [O.hN]; exact O.nd) (by rw [O.hN]; exact hi) (by rw [O.hsc]; exact h1') (sw_true (by rw [O.hsc]; exact hk) (by rw [O.hsc]; exact h1') h2' h3') pi_w blk (fun s H C cl fp => ⟨fun pins s' σ' H' v u R I r hq => hq s H C cl fp pins s' u I r⟩) (fun s H C cl fp => ⟨fun pins s' σ' H' R I hq => hq s H C cl fp pins s' I⟩)
    (fun s H C cl fp => ⟨fun pins s' σ' H' R I hq => hq s H C cl fp pins s' I⟩) (notSet_fold hn)
  refine PS_w p ?_
  rw [own2]
  refine comp_core ihi htg ihf ihe hnt hin O S hl e1 fun G' ρ' H' v sg sr S' r => ?_
  exact set_end (fun _ => rfl) (List.getElem?_eq_some_iff.mp hi).1 (len_of S hl S') e2 q G' ρ' H' v sg sr S' r
theorem s_setc2 {i ow elt tg it ifs tg1 it1 ifs1 own own1 x px pe pt pi pf pt1 pi1 pf1 scope cpos pos} (hi : N[i]? = some x) (ihi : SndI P w KK mg base GG T k N it sc pi) (hb : blkC N sc scope (ownOf N own) = true) (htg : tgB scope N tg pt = true) (ihf : SndTf P w KK mg base GG T k N ifs (relS scope sc) pf)
    (ihi1 : SndI P w KK mg base GG T k N it1 (relS scope sc) pi1) (htg1 : tgB scope N tg1 pt1 = true) (ihf1 : SndTf P w KK mg base GG T k N ifs1 (relS scope sc) pf1) (ihe : SndE P w KK mg base GG T k N elt (relS scope sc) pe)
    (hnt : needTup it = true → isTup pt = true) (hnt1 : needTup it1 = true → isTup pt1 = true) (hin : tgIn tg own = true) (hin1 : tgIn tg1 own1 = true) (hsub : ∀ i ∈ own1, i ∈ own) (hn : notSet pi = true) (hn1 : notSet pi1 = true) (hs : swB sc x px scope cpos = true) (hk : sc.kind = .function) :
    SndS fb P w KK mg base GG T k N (.set i ow (.comp2 elt tg it ifs tg1 it1 ifs1 own own1)) sc (.Assign [.Name x px] (.ListComp pe [⟨pt, pi, pf, 0⟩, ⟨pt1, pi1, pf1, 0⟩] scope cpos) pos) := fun X O hfn Pr G H ρ σ env h S hl out he De q => by
  have he : (ev GG (callN GG T k) (.comp2 elt tg it ifs tg1 it1 ifs1 own own1) env h >>= fun z => slotOf ow z.1 >>= fun s => R.ok (Out.nx (z.2.1.set i s) z.2.2)) = .ok out := he
  obtain ⟨⟨d, env1, h1⟩, e1, he⟩ := R.bind_inv he
  obtain ⟨s, e2, he⟩ := R.bind_inv he
  cases he
  have blk : BlkOk X.N X.env.scope scope (ownOf N own) := by rw [O.hN, O.hsc]; exact blkOk_by hb
  simp only [swB, Bool.and_eq_true, decide_eq_true_eq, Bool.not_eq_true'] at hs
  obtain ⟨⟨h1', h2'⟩, h3'⟩ := hs
  have p := ps_setLc2 (X := X) (i := i) (y := x) (py := px) (spos := pos) (elt := pe) (tg := pt) (iter := pi) (ifs := pf) (tg1 := pt1) (iter1 := pi1) (ifs1 := pf1) (vs1 := own1) (pos := cpos) (wi := wI X pt pi) (g := gC X scope pt) (tt := ttC X scope pf) (wi1 := wiC X scope pt1 pi1) (g1 := gC X scope pt1) (tt1 := ttC X scope pf1) (te := teC X scope pe)
    O.x.calm (by rw [O.hN]; exact O.nd) (by rw [O.hN]; exact hi) (by rw [O.hsc]; exact h1') (sw_true (by rw [O.hsc]; exact hk) (by rw [O.hsc]; exact h1') h2' h3') pi_w blk (by rw [own2]; exact hsub)
    (fun s H C cl fp => ⟨fun pins s' σ' H' v u R I r hq => hq s H C cl fp pins s' u I r⟩) (fun s H C cl fp => ⟨fun pins s' σ' H' R I hq => hq s H C cl fp pins s' I⟩)
    (fun s H C cl fp => ⟨fun pins s' σ' H' R I hq => hq s H C cl fp pins s' I⟩)
    (fun s H C cl fp => ⟨fun pins s' σ' H' v u R I r hq => hq s H C cl fp pins s' u I r⟩) (fun s H C cl fp => ⟨fun pins s' σ' H' R I hq => hq s H C cl fp pins s' I⟩)
    (fun s H C cl fp => ⟨fun pins s' σ' H' R I hq => hq s H C cl fp pins s' I⟩) (notSet_fold hn) (fun env => notSet_fold hn1)
  refine PS_w p ?_
  rw [own2]
  refine comp2_core ihi htg ihf ihi1 htg1 ihf1 ihe hnt hnt1 hin hin1 hsub O S hl e1 fun G' ρ' H' v sg sr S' r => ?_
  exact set_end (fun _ => rfl) (List.getElem?_eq_some_iff.mp hi).1 (len_of S hl S') e2 q G' ρ' H' v sg sr S' r
theorem s_sett {is e ps kt pt pe pos} (ht : tgB sc N (.tup is) (.Tuple ps kt pt) = true) (ih : SndE P w KK mg base GG T k N e sc pe) (hn : notTup pe = true) :
    SndS fb P w KK mg base GG T k N (.sett is e) sc (.Assign [.Tuple ps kt pt] pe pos) := fun X O hfn Pr G H ρ σ env h S hl out he De q => by
  have he : (ev GG (callN GG T k) e env h >>= fun z => putTg (.tup is) z.1 z.2.1 >>= fun s => R.ok (Out.nx s z.2.2)) = .ok out := he
  obtain ⟨⟨d, env1, h1⟩, e1, he⟩ := R.bind_inv he
  obtain ⟨env2, e2, he⟩ := R.bind_inv he
  cases he
  refine PS_w (ps_asg pe_w pg_w (swaps_other (by intro x p z; cases z) _ _) (swS_tup hn _ _ _ _)) ?_
  refine ih.v O S hl e1 fun G1 ρ1 H1 v g1 p1 S1 l1 r1 => ?_
  exact tg_ok O l1 (O.hx hfn) ht e2 S1 (nb := false) (fun h => nomatch h) (.inl r1) fun σ2 S2 l2 _ => q G1 ρ1 H1 σ2 g1 p1 S2 l2
theorem RepX.drop0 {K : PySem.W.Frag} {Pr G H : Hp} {ρ : List Addr} {σ : L2.St} {env : Env} {v : V} {d : D} {f : Bool} (r : RepX K Pr G H ρ σ env f v d) : RepX K Pr G H ρ [] [] f v d := by
  cases f with
  | false => cases d <;> exact r
  | true =>
    cases d with
    | lst ds =>
      obtain ⟨a, vs, rfl, e, rl, L⟩ := r
      exact ⟨a, vs, rfl, e, rl, L.g, L.p, L.r, fun i ds e => by simp at e⟩
    | _ => exact r
theorem RepX.weak {K : PySem.W.Frag} {Pr G H : Hp} {ρ : List Addr} {v : V} {d : D} {f g : Bool} {h : AH} (S : SR K Pr G H ρ [] [] h) (r : RepX K Pr G H ρ [] [] f v d) (hf : (!g || f) = true) : ∃ G', Same G G' ∧ SR K Pr G' H ρ [] [] h ∧ RepX K Pr G' H ρ [] [] g v d := by
  cases g with
  | false =>
    obtain ⟨G2, s2, S2, r2⟩ := r.val S
    exact ⟨G2, s2, S2, by cases d <;> exact r2⟩
  | true =>
    simp at hf
    subst hf
    exact ⟨G, Same.refl _, S, r⟩
theorem s_ret {e pe pos} (hf : (!fb || fr e) = true) (ih : SndE P w KK mg base GG T k N e sc pe) : SndS fb P w KK mg base GG T k N (.ret e) sc (.Return (some pe) pos) := fun X O hfn Pr G H ρ σ env h S hl out he De q => by
  have he : (ev GG (callN GG T k) e env h >>= fun z => R.ok (Out.rt z.1 z.2.2)) = .ok out := he
  obtain ⟨⟨d, env1, h1⟩, e1, he⟩ := R.bind_inv he
  cases he
  refine PS_w (ps_ret pe_w) ?_
  refine ih X O Pr G H ρ σ env h S hl _ _ _ e1 _ fun G1 ρ1 H1 v g1 p1 S1 r1 => ?_
  obtain ⟨G2, g2, S2, r2⟩ := r1.drop0.weak S1.drop0 hf
  exact q G2 ρ1 H1 v (g1.trans g2) p1 S2 r2
theorem s_retO {i x p pos} (hm : slotB sc N i x = true) : SndS fb P w KK mg base GG T k N (.retO i) sc (.Return (some (.Name x p)) pos) := fun X O hfn Pr G H ρ σ env h S hl out he De q => by
  have he : (getO env i >>= fun xs => R.ok (Out.rt (.lst xs) h)) = .ok out := he
  obtain ⟨xs, e1, he⟩ := R.bind_inv he
  cases he
  unfold getO at e1
  split at e1
  · rename_i ys eo
    cases e1
    obtain ⟨a, vs, ev, eh, r, g, p, nr⟩ := S.own i _ eo
    obtain ⟨G2, g2, S2, r2⟩ := RepX.weak (f := true) (g := fb) (d := .lst xs) (v := .ref a) S.drop0 ⟨a, vs, rfl, eh, r, g, p, nr, fun i ds e => by simp at e⟩ (by cases fb <;> rfl)
    exact PS_w (ps_ret (pe_slot O hm)) ⟨.ref a, ev, q G2 ρ H _ g2 (Ext.refl _) S2 r2⟩
  · cases e1
theorem s_retN {pos} : SndS fb P w KK mg base GG T k N .retN sc (.Return none pos) := fun X O hfn Pr G H ρ σ env h S hl out he De q => by
  cases he
  exact PS_w ps_retN (q G ρ H .non (Same.refl _) (Ext.refl _) S.drop0 (by cases fb <;> exact .non))
theorem s_expr {e pe pos} (ih : SndE P w KK mg base GG T k N e sc pe) (hc : compScope pe = none) : SndS fb P w KK mg base GG T k N (.expr e) sc (.Expr pe pos) := fun X O hfn Pr G H ρ σ env h S hl out he De q => by
  have he : (ev GG (callN GG T k) e env h >>= fun z => R.ok (Out.nx z.2.1 z.2.2)) = .ok out := he
  obtain ⟨⟨d, env1, h1⟩, e1, he⟩ := R.bind_inv he
  cases he
  refine PS_w (ps_expr pe_w (swaps_plain hc _ _ _)) ?_
  exact ih.v O S hl e1 fun G1 ρ1 H1 v g1 p1 S1 l1 r1 => q G1 ρ1 H1 σ g1 p1 S1 l1
theorem s_pass {pos} : SndS fb P w KK mg base GG T k N .pass sc (.Pass pos) := fun X O hfn Pr G H ρ σ env h S hl out he De q => by
  cases he
  exact PS_w ps_pass (q G ρ H σ (Same.refl _) (Ext.refl _) S hl)
theorem s_brk {pos} : SndS fb P w KK mg base GG T k N .brk sc (.Break pos) := fun X O hfn Pr G H ρ σ env h S hl out he De q => by
  cases he
  exact PS_w ps_break (q G ρ H σ (Same.refl _) (Ext.refl _) S hl)
theorem s_cont {pos} : SndS fb P w KK mg base GG T k N .cont sc (.Continue pos) := fun X O hfn Pr G H ρ σ env h S hl out he De q => by
  cases he
  exact PS_w ps_continue (q G ρ H σ (Same.refl _) (Ext.refl _) S hl)
theorem s_ite {c a b pc pa pb pos} (ihc : SndT P w KK mg base GG T k N c sc pc) (iha : SndSs fb P w KK mg base GG T k N a sc pa) (ihb : SndSs fb P w KK mg base GG T k N b sc pb) :
    SndS fb P w KK mg base GG T k N (.ite c a b) sc (.If pc pa pb pos) := fun X O hfn Pr G H ρ σ env h S hl out he De q => by
  have he : (evt GG (callN GG T k) c env h >>= fun z => if z.1 then exs GG (callN GG T k) a z.2.1 z.2.2 else exs GG (callN GG T k) b z.2.1 z.2.2) = .ok out := he
  obtain ⟨⟨r, env1, h1⟩, e1, he⟩ := R.bind_inv he
  refine PS_w (ps_if pt_w pss_w pss_w) ?_
  refine ihc X O Pr G H ρ σ env h S hl _ _ _ e1 _ fun G1 ρ1 H1 g1 p1 S1 => ?_
  have l1 := len_of S hl S1
  cases r with
  | true => exact iha X O hfn Pr G1 H1 ρ1 σ env1 h1 S1 l1 out he De (q.mono g1 p1)
  | false => exact ihb X O hfn Pr G1 H1 ρ1 σ env1 h1 S1 l1 out he De (q.mono g1 p1)
theorem ss_nil : SndSs fb P w KK mg base GG T k N .nil sc [] := fun X O hfn Pr G H ρ σ env h S hl out he De q => by
  cases he
  exact PSs_w pss_nil (q G ρ H σ (Same.refl _) (Ext.refl _) S hl)
theorem ss_cons {s r st sts} (ih : SndS fb P w KK mg base GG T k N s sc st) (ihr : SndSs fb P w KK mg base GG T k N r sc sts) : SndSs fb P w KK mg base GG T k N (.cons s r) sc (st :: sts) := fun X O hfn Pr G H ρ σ env h S hl out he De q => by
  have he : (ex GG (callN GG T k) s env h >>= fun o => match o with
    | .nx σ h => exs GG (callN GG T k) r σ h
    | .rt d h => .ok (.rt d h)
    | .bk σ h => .ok (.bk σ h)
    | .ct σ h => .ok (.ct σ h)) = .ok out := he
  obtain ⟨o, e1, he⟩ := R.bind_inv he
  refine PSs_w (pss_cons ps_w pss_w) ?_
  refine ih X O hfn Pr G H ρ σ env h S hl o e1 _ ?_
  cases o with
  | nx env1 h1 => exact fun G1 ρ1 H1 σ1 g1 p1 S1 l1 => ihr X O hfn Pr G1 H1 ρ1 σ1 env1 h1 S1 l1 out he De (q.mono g1 p1)
  | rt d h1 => cases he; exact q
  | bk env1 h1 => cases he; exact q
  | ct env1 h1 => cases he; exact q
end
end EV
set_option maxRecDepth 100000
set_option maxHeartbeats 1000000
namespace EV
open PySem PySem.Spec PyProof.Rows L2
section
variable {fb : Bool} {P : Program} {w : World} {KK : PySem.W.Frag} {mg : Str → Option Value} {base : Heap} {GG : Glob} {T : Tab} {NB : List String} {k : Nat} {N : List Str} {sc : Scope}
theorem preL_inv {Pr G H : Hp} {ρ : List Addr} {σ : L2.St} {env : Env} {h : AH} {i : Nat} (S : SR KK Pr G H ρ σ env h) (e : preL env h i = .ok ()) : ∃ a vs, σ[i]? = some (some (.ref a)) ∧ H a = some (.lst vs) := by
  unfold preL at e
  split at e
  · rename_i xs eo
    obtain ⟨a, vs, ea, eh, _⟩ := S.own i _ eo
    exact ⟨a, vs, ea, eh⟩
  · rename_i n eo
    split at e
    · rename_i xs eh
      obtain ⟨v, ev, r⟩ := S.val i _ eo
      cases r with
      | ref ha =>
        obtain ⟨u, hu, ru, _⟩ := S.hp n _ _ ha eh
        cases u <;> simp only [RepO] at ru <;> try (exact ru.elim)
        exact ⟨_, _, ev, hu⟩
    · cases e
  · cases e
theorem appD_ok {Pr G H : Hp} {ρ : List Addr} {σ : L2.St} {env env2 : Env} {h h2 : AH} {i : Nat} {a : Addr} (S : SR KK Pr G H ρ σ env h) (ea : σ[i]? = some (some (.ref a))) {ds : List D} {ws : List V} (r : RepL KK G ρ ws ds) (e : appD env h i ds = .ok (env2, h2)) :
    ∃ vs, H a = some (.lst vs) ∧ vs.length + ws.length ≤ sizeLine ∧ SR KK Pr G (upd H a (.lst (vs ++ ws))) ρ σ env2 h2 := by
  unfold appD at e
  split at e
  · rename_i xs eo
    obtain ⟨hl, e2⟩ := ite_ok e
    cases e2
    obtain ⟨a', vs, ea', eh, r0, _⟩ := S.own i _ eo
    rw [ea] at ea'; cases ea'
    have := sizeLine_le hl
    rw [← r0.length, ← r.length] at this
    exact ⟨vs, eh, this, S.updOwn eo ea (r0.app r)⟩
  · rename_i n eo
    split at e
    · rename_i xs eh
      obtain ⟨hl, e2⟩ := ite_ok e
      cases e2
      obtain ⟨v, ev, rv⟩ := S.val i _ eo
      rw [ea] at ev; cases ev
      cases rv with
      | ref ha =>
        obtain ⟨u, hu, ru, _⟩ := S.hp n _ _ ha eh
        cases u <;> simp only [RepO] at ru <;> try (exact ru.elim)
        rename_i vs
        have := sizeLine_le hl
        rw [← ru.length, ← r.length] at this
        exact ⟨vs, hu, this, S.updRef (u := .lst (vs ++ ws)) (o := .lst (xs ++ ds)) ha (show RepL _ _ _ _ _ from ru.app r) eh⟩
    · cases e
  · cases e
theorem s_app {i e x p ap cp p1 pos} (hs : slotB sc N i x = true) (ih : SndE P w KK mg base GG T k N e sc p1) (hp1 : notStar p1 = true) (hline : (ap.endLine == cp.line) = true) :
    SndS fb P w KK mg base GG T k N (.app i e) sc (.Expr (.Call (.Attribute (.Name x p) "append" ap) [p1] [] cp) pos) := fun X O hfn Pr G H ρ σ env h S hl out he De q => by
  have he : (preL env h i >>= fun _ => ev GG (callN GG T k) e env h >>= fun z => appD z.2.1 z.2.2 i [z.1] >>= fun y => R.ok (Out.nx y.1 y.2)) = .ok out := he
  obtain ⟨_, e0, he⟩ := R.bind_inv he
  obtain ⟨⟨d, env1, h1⟩, e1, he⟩ := R.bind_inv he
  obtain ⟨⟨env2, h2⟩, e2, he⟩ := R.bind_inv he
  cases he
  obtain ⟨a, vs0, ea, eh⟩ := preL_inv S e0
  have ty : tyV X.K "list" (.ref a) H := .inl ⟨rfl, _, .inl (.inl eh)⟩
  have hp : allPlain [p1] = true := by simp [allPlain, hp1]
  refine PS_w (ps_expr (pe_bm PySem.F.plainAttrs_list PySem.F.slot_list_append PySem.F.type_list_append mt_append (pe_slot O hs) (pa_cons pe_w pa_nil (starEach_cons hp1)) rfl (by rw [plain_all hp]; rfl) hline (starEach_cons hp1) rfl) (swaps_plain rfl _ _ _)) ⟨_, ea, ty, ?_⟩
  refine ih.v O S hl e1 fun G1 ρ1 H1 v1 g1 p1 S1 l1 r1 => ?_
  obtain ⟨vs, eh2, hl2, S2⟩ := appD_ok S1 ea (.cons r1 .nil) e2
  exact ⟨a, vs, v1, rfl, rfl, eh2, Nat.lt_of_succ_le (by simpa using hl2), q G1 ρ1 _ σ g1 p1 S2 (len_of S hl S2)⟩
theorem s_appx {o e po ap cp p1 pos} (iho : SndE P w KK mg base GG T k N o sc po) (hso : notSup po = true) (ih : SndE P w KK mg base GG T k N e sc p1) (hp1 : notStar p1 = true) (hline : (ap.endLine == cp.line) = true) :
    SndS fb P w KK mg base GG T k N (.appx o e) sc (.Expr (.Call (.Attribute po "append" ap) [p1] [] cp) pos) := fun X O hfn Pr G H ρ σ env h S hl out he De q => by
  have he : (ev GG (callN GG T k) o env h >>= fun u => refL u.2.2 u.1 >>= fun _ => ev GG (callN GG T k) e u.2.1 u.2.2 >>= fun z => addR z.2.2 u.1 z.1 >>= fun y => R.ok (Out.nx z.2.1 y)) = .ok out := he
  obtain ⟨⟨x, env0, h0⟩, e9, he⟩ := R.bind_inv he
  obtain ⟨_, e0, he⟩ := R.bind_inv he
  obtain ⟨⟨d, env1, h1⟩, e1, he⟩ := R.bind_inv he
  obtain ⟨h2, e2, he⟩ := R.bind_inv he
  cases he
  have hp : allPlain [p1] = true := by simp [allPlain, hp1]
  refine PS_w (ps_expr (pe_bm PySem.F.plainAttrs_list PySem.F.slot_list_append PySem.F.type_list_append mt_append pe_w (pa_cons pe_w pa_nil (starEach_cons hp1)) (notSup_base hso) (by rw [plain_all hp]; rfl) hline (starEach_cons hp1) rfl) (swaps_plain rfl _ _ _)) ?_
  refine iho.v O S hl e9 fun G0 ρ0 H0 v0 g0 p0 S0 l0 r0 => ?_
  obtain ⟨n, c, vs0, rfl, rfl, ea0, rl0⟩ := refL_at S0 e0 r0
  refine ⟨.inl ⟨rfl, _, .inl (.inl ea0)⟩, ?_⟩
  refine ih.v O S0 l0 e1 fun G1 ρ1 H1 v1 g1 p1 S1 l1 r1 => ?_
  have e2' : (match h1[n]? with
    | some (.lst xs) => if lenOk (xs.length + 1) then R.ok (h1.set n (.lst (xs ++ [d]))) else .bad
    | _ => .bad) = .ok h2 := e2
  split at e2'
  · rename_i xs eh
    obtain ⟨hl2, e3⟩ := ite_ok e2'
    cases e3
    have rn := r0.mono g1 p1
    cases rn with
    | ref hn =>
      obtain ⟨u, hu, ru, _⟩ := S1.hp _ _ _ hn eh
      cases u <;> simp only [RepO] at ru
      rename_i vs
      have := sizeLine_le hl2
      rw [← ru.length] at this
      exact ⟨c, vs, v1, rfl, rfl, hu, this, q G1 ρ1 _ σ (g0.trans g1) (p0.trans p1) (S1.updRef (u := .lst (vs ++ [v1])) (o := .lst (xs ++ [d])) hn (show RepL _ _ _ _ _ from ru.app (.cons r1 .nil)) eh) l1⟩
  · cases e2'
theorem s_ext {i e x p ap cp p1 pos} (hs : slotB sc N i x = true) (ih : SndE P w KK mg base GG T k N e sc p1) (hp1 : notStar p1 = true) (hline : (ap.endLine == cp.line) = true) :
    SndS fb P w KK mg base GG T k N (.ext i e) sc (.Expr (.Call (.Attribute (.Name x p) "extend" ap) [p1] [] cp) pos) := fun X O hfn Pr G H ρ σ env h S hl out he De q => by
  have he : (preL env h i >>= fun _ => ev GG (callN GG T k) e env h >>= fun z => lstD z.1 >>= fun ys => appD z.2.1 z.2.2 i ys >>= fun y => R.ok (Out.nx y.1 y.2)) = .ok out := he
  obtain ⟨_, e0, he⟩ := R.bind_inv he
  obtain ⟨⟨d, env1, h1⟩, e1, he⟩ := R.bind_inv he
  obtain ⟨ys, e3, he⟩ := R.bind_inv he
  obtain ⟨⟨env2, h2⟩, e2, he⟩ := R.bind_inv he
  cases he
  obtain ⟨a, vs0, ea, eh⟩ := preL_inv S e0
  have ty : tyV X.K "list" (.ref a) H := .inl ⟨rfl, _, .inl (.inl eh)⟩
  have hp : allPlain [p1] = true := by simp [allPlain, hp1]
  refine PS_w (ps_expr (pe_bm PySem.F.plainAttrs_list PySem.F.slot_list_extend PySem.F.type_list_extend mt_extend (pe_slot O hs) (pa_cons pe_w pa_nil (starEach_cons hp1)) rfl (by rw [plain_all hp]; rfl) hline (starEach_cons hp1) rfl) (swaps_plain rfl _ _ _)) ⟨_, ea, ty, ?_⟩
  refine ih.v O S hl e1 fun G1 ρ1 H1 v1 g1 p1 S1 l1 r1 => ?_
  cases r1 with
  | lst hb rb =>
    cases e3
    obtain ⟨vs, eh2, hl2, S2⟩ := appD_ok S1 ea rb e2
    exact ⟨a, _, vs, _, rfl, rfl, eh2, S1.sub _ _ hb, hl2, q G1 ρ1 _ σ g1 p1 S2 (len_of S hl S2)⟩
  | _ => cases e3

theorem preV_inv {Pr G H : Hp} {ρ : List Addr} {σ : L2.St} {env : Env} {h : AH} {i : Nat} (S : SR KK Pr G H ρ σ env h) (e : preV env i = .ok ()) : ∃ v, σ[i]? = some (some v) := by
  unfold preV at e
  split at e
  · rename_i xs eo
    obtain ⟨a, vs, ea, _⟩ := S.own i _ eo
    exact ⟨_, ea⟩
  · rename_i d eo
    obtain ⟨v, ev, _⟩ := S.val i _ eo
    exact ⟨_, ev⟩
  · cases e
theorem s_setsub {i ke e x xp sp pk pe pos} (hs : slotB sc N i x = true) (ihk : SndE P w KK mg base GG T k N ke sc pk) (ih : SndE P w KK mg base GG T k N e sc pe) (hp : notSlice pk = true) :
    SndS fb P w KK mg base GG T k N (.setsub i ke e) sc (.Assign [.Subscript (.Name x xp) pk sp] pe pos) := fun X O hfn Pr G H ρ σ env h S hl out he De q => by
  have he : (preV env i >>= fun _ => ev GG (callN GG T k) e env h >>= fun z => ev GG (callN GG T k) ke z.2.1 z.2.2 >>= fun y => setD y.2.1 y.2.2 i y.1 z.1 >>= fun u => R.ok (Out.nx u.1 u.2)) = .ok out := he
  obtain ⟨_, e0, he⟩ := R.bind_inv he
  obtain ⟨⟨d, env1, h1⟩, e1, he⟩ := R.bind_inv he
  obtain ⟨⟨kd, env2, h2⟩, e2, he⟩ := R.bind_inv he
  obtain ⟨⟨env3, h3⟩, e3, he⟩ := R.bind_inv he
  cases he
  have hK := O.hK
  have st : ∀ {t : TSet}, PSet X t → PS X (.Assign [.Subscript (.Name x xp) pk sp] pe pos) (tAsg (wE X pe) (gSub (tVar i) (wE X pk) t)) := fun hset =>
    ps_asg pe_w (pg_sub (pe_slot O hs) pe_w hset (fun v => by cases pk <;> first | rfl | cases hp)) (swaps_other (e := pe) (t := .Subscript (.Name x xp) pk sp) (by intro x p z; cases z) pos.line X.env) (by cases pe <;> rfl)
  obtain ⟨v0, ev0⟩ := preV_inv S e0
  unfold setD at e3
  split at e3
  · rename_i xs eo
    obtain ⟨j, rfl⟩ : ∃ j, kd = .int j := by
      cases kd <;> first | exact ⟨_, rfl⟩ | cases e3
    obtain ⟨n, en, e4⟩ : ∃ n, ixN xs.length j = some n ∧ R.ok (env2.set i (.own (xs.set n d)), h2) = .ok (env3, h3) := by
      cases en : ixN xs.length j with
      | some n => simp only [en] at e3; exact ⟨n, rfl, e3⟩
      | none => simp only [en] at e3; cases e3
    · cases e4
      refine PS_w (st set_list) ?_
      refine ih.v O S hl e1 fun G1 ρ1 H1 v1 g1 p1 S1 l1 r1 => ?_
      refine ⟨v0, ev0, ?_⟩
      refine ihk.v O S1 l1 e2 fun G2 ρ2 H2 v2 g2 p2 S2 l2 r2 => ?_
      obtain ⟨a, vs, ea, eh, r0, _⟩ := S2.own i _ eo
      rw [ev0] at ea; cases ea
      cases r2
      exact ⟨a, vs, j, n, rfl, rfl, eh, by rw [r0.length]; exact en, q G2 ρ2 _ σ (g1.trans g2) (p1.trans p2) (S2.updOwn eo ev0 (r0.set (r1.mono g2 p2) n)) (by simpa using l2)⟩
  · rename_i n eo
    split at e3
    · rename_i kvs key eh ek
      obtain ⟨hl3, e4⟩ := ite_ok e3
      cases e4
      refine PS_w (st (set_dict (by have := O.x.hu; omega))) ?_
      refine ih.v O S hl e1 fun G1 ρ1 H1 v1 g1 p1 S1 l1 r1 => ?_
      refine ⟨v0, ev0, ?_⟩
      refine ihk.v O S1 l1 e2 fun G2 ρ2 H2 v2 g2 p2 S2 l2 r2 => ?_
      obtain ⟨v, ev, rv⟩ := S2.val i _ eo
      rw [ev0] at ev; cases ev
      cases rv with
      | ref ha =>
        rename_i a
        obtain ⟨u, hu, ru, _⟩ := S2.hp n _ _ ha eh
        cases u <;> simp only [RepO] at ru <;> try (exact ru.elim)
        rename_i ks
        have hlen : ks.length = kvs.length := by simpa using congrArg List.length ru.1
        have hk := key_rep ek r2
        rw [hk]
        have := put_keys key v1 d ru.1 ru.2 (r1.mono g2 p2)
        refine ⟨a, _, rfl, DPut.k hu (by rw [hlen]; exact of_decide_eq_true hl3), ?_⟩
        exact q G2 ρ2 _ σ (g1.trans g2) (p1.trans p2) (S2.updRef (u := .dK (putK ks key v1)) (o := .dct (putK' kvs key d)) ha this eh) l2
    · rename_i xs j eh ek
      obtain ⟨m, en, e4⟩ : ∃ m, ixN xs.length j = some m ∧ R.ok (env2, h2.set n (.lst (xs.set m d))) = .ok (env3, h3) := by
        cases en : ixN xs.length j with
        | some n => simp only [en] at e3; exact ⟨n, rfl, e3⟩
        | none => simp only [en] at e3; cases e3
      cases e4
      have ej : kd = .int j := by
        cases kd <;> simp only [keyD] at ek <;> cases ek <;> rfl
      subst ej
      refine PS_w (st set_list) ?_
      refine ih.v O S hl e1 fun G1 ρ1 H1 v1 g1 p1 S1 l1 r1 => ?_
      refine ⟨v0, ev0, ?_⟩
      refine ihk.v O S1 l1 e2 fun G2 ρ2 H2 v2 g2 p2 S2 l2 r2 => ?_
      obtain ⟨v, ev, rv⟩ := S2.val i _ eo
      rw [ev0] at ev; cases ev
      cases rv with
      | ref ha =>
        rename_i a
        obtain ⟨u, hu, ru, _⟩ := S2.hp n _ _ ha eh
        cases u <;> simp only [RepO] at ru <;> try (exact ru.elim)
        rename_i vs
        cases r2
        exact ⟨a, vs, j, m, rfl, rfl, hu, by rw [ru.length]; exact en, q G2 ρ2 _ σ (g1.trans g2) (p1.trans p2) (S2.updRef (u := .lst (vs.set m v1)) (o := .lst (xs.set m d)) ha (show RepO KK G2 ρ2 (.lst _) (.lst _) from ru.set (r1.mono g2 p2) m) eh) l2⟩
    · cases e3
  · cases e3

theorem passes0 {X : Cx} (O : OkX P w KK mg base k sc N X) : PassesOwn (model X.prog X.w) X.A X.env X.xe := by
  rw [O.xe]; exact PassesOwn.never
theorem item_ok {Pr G Hc H' : Hp} {ρ : List Addr} {σ : L2.St} {env : Env} {h : AH} {J : It} {xs : List D} {i : Nat} {d : D} {x : V} {nb : Bool} (S : SR KK Pr G Hc ρ σ env h) (J' : ItOk nb KK G ρ J xs) (e : xs[i]? = some d) (hy : J.yld i Hc x H') :
    ∃ G2, Same G G2 ∧ SR KK Pr G2 H' ρ σ env h ∧ RepI nb KK G2 ρ x d := by
  rcases J'.yld i _ Hc H' x S.sub e hy with ⟨rfl, rx⟩ | ⟨hb, t, vs, es, nt, rfl, rfl, rfl, rx⟩
  · exact ⟨G, Same.refl _, S, .inl rx⟩
  · obtain ⟨S3, s3⟩ := S.lay (u := .tup vs) nt
    exact ⟨_, s3, S3, .inr ⟨hb, _, _, _, rfl, rfl, SqT.of upd_same, rx.mono s3 (Ext.refl _)⟩⟩
theorem s_for {tg it body kill ptg pit pb pos} (ihi : SndI P w KK mg base GG T k N it sc pit) (htg : tgB sc N tg ptg = true) (ihb : SndSs fb P w KK mg base GG T k N body sc pb) (hs : notSet pit = true) (hnt : needTup it = true → isTup ptg = true) :
    SndS fb P w KK mg base GG T k N (.for_ tg it body kill) sc (.For ptg pit pb [] pos) := fun X O hfn Pr G H ρ σ env h S hl out he De q => by
  have he : (evi GG (callN GG T k) it env h >>= fun z => forL tg kill (exs GG (callN GG T k) body) z.1 (killS z.2.1 kill) z.2.2) = .ok out := he
  obtain ⟨⟨xs, env1, h1⟩, e1, e2⟩ := R.bind_inv he
  have e2 : forL tg kill (exs GG (callN GG T k) body) xs (killS env1 kill) h1 = .ok out := e2
  refine PS_w (ps_for (passes0 O) O.x.calm pi_w pg_w pss_w (notSet_fold hs)) ?_
  refine ihi X ptg hnt O Pr G H ρ σ env h S hl _ _ _ e1 _ fun G1 ρ1 H1 J g1 p1 S1 hJ => ?_
  have l1 := len_of S hl S1
  refine ⟨fun i m σ' Hc => m = xs.length - i ∧ i ≤ xs.length ∧ ∃ G' ρ' envc hc, Same G1 G' ∧ Ext ρ1 ρ' ∧ SR KK Pr G' Hc ρ' σ' envc hc ∧ envc.length = N.length ∧ forL tg kill (exs GG (callN GG T k) body) (xs.drop i) envc hc = .ok out,
    ⟨xs.length, rfl, Nat.zero_le _, G1, ρ1, killS env1 kill, h1, Same.refl _, Ext.refl _, S1.kill' kill, by rw [killS_length]; exact l1, e2⟩, ?_⟩
  rintro i m σ' Hc ⟨rfl, hi, G', ρ', envc, hc, sg, sr, Sc, lc, ec⟩
  have J' := hJ.mono sg sr
  by_cases hlt : i < xs.length
  · refine .inr ⟨J'.go i _ Hc Sc.sub (List.getElem?_eq_getElem hlt), ?_⟩
    rw [List.drop_eq_getElem_cons hlt] at ec
    have ec : (putTg tg xs[i] envc >>= fun σ => exs GG (callN GG T k) body σ hc >>= fun o => match o with
      | .nx σ h => forL tg kill (exs GG (callN GG T k) body) (xs.drop (i + 1)) (killS σ kill) h
      | .ct σ h => forL tg kill (exs GG (callN GG T k) body) (xs.drop (i + 1)) (killS σ kill) h
      | .bk σ h => .ok (.nx (killS σ kill) h)
      | .rt d h => .ok (.rt d h)) = .ok out := ec
    obtain ⟨env2, e3, ec⟩ := R.bind_inv ec
    obtain ⟨o, e4, ec⟩ := R.bind_inv ec
    refine ⟨fun σ' H' => i + 1 ≤ xs.length ∧ ∃ G' ρ' envc hc, Same G1 G' ∧ Ext ρ1 ρ' ∧ SR KK Pr G' H' ρ' σ' envc hc ∧ envc.length = N.length ∧ forL tg kill (exs GG (callN GG T k) body) (xs.drop (i + 1)) envc hc = .ok out,
      fun σ' H' hq => ⟨xs.length - (i + 1), by omega, rfl, hq⟩, fun x H' hy => ?_⟩
    obtain ⟨G2, sg2, S2, rx⟩ := item_ok Sc J' (List.getElem?_eq_getElem hlt) hy
    refine tg_ok O lc (O.hx hfn) htg e3 S2 (fun hb => tg_tup htg (hnt hb)) rx fun σ2 S3 l3 _ => ?_
    refine ihb X O hfn Pr G2 H' ρ' σ2 env2 hc S3 l3 o e4 _ ?_
    cases o with
    | nx env3 h3 => exact fun G4 ρ4 H4 σ4 g4 p4 S4 l4 => ⟨hlt, G4, ρ4, _, _, (sg.trans sg2).trans g4, sr.trans p4, S4.kill' kill, by rw [killS_length]; exact l4, ec⟩
    | ct env3 h3 => exact fun G4 ρ4 H4 σ4 g4 p4 S4 l4 => ⟨hlt, G4, ρ4, _, _, (sg.trans sg2).trans g4, sr.trans p4, S4.kill' kill, by rw [killS_length]; exact l4, ec⟩
    | bk env3 h3 =>
      cases ec
      exact fun G4 ρ4 H4 σ4 g4 p4 S4 l4 => q G4 ρ4 H4 σ4 (((g1.trans sg).trans sg2).trans g4) ((p1.trans sr).trans p4) (S4.kill' kill) (by rw [killS_length]; exact l4)
    | rt d h3 =>
      cases ec
      exact fun G4 ρ4 H4 v g4 p4 S4 r4 => q G4 ρ4 H4 v (((g1.trans sg).trans sg2).trans g4) ((p1.trans sr).trans p4) S4 r4
  · have ei : i = xs.length := by omega
    subst ei
    rw [List.drop_length] at ec
    cases ec
    exact .inl ⟨J'.stop _ Hc Sc.sub (Nat.le_refl _), q G' ρ' Hc σ' (g1.trans sg) (p1.trans sr) Sc lc⟩
theorem s_while {c body kill pc pb pos} (ihc : SndT P w KK mg base GG T k N c sc pc) (ihb : SndSs fb P w KK mg base GG T k N body sc pb) :
    SndS fb P w KK mg base GG T k N (.while_ c body kill) sc (.While pc pb [] pos) := fun X O hfn Pr G H ρ σ env h S hl out he De q => by
  have he : whileL (evt GG (callN GG T k) c) kill (exs GG (callN GG T k) body) wfuel (killS env kill) h = .ok out := he
  refine PS_w (ps_while (passes0 O) pt_w pss_w) ?_
  refine ⟨fun m σ' Hc => ∃ G' ρ' envc hc, Same G G' ∧ Ext ρ ρ' ∧ SR KK Pr G' Hc ρ' σ' envc hc ∧ envc.length = N.length ∧ whileL (evt GG (callN GG T k) c) kill (exs GG (callN GG T k) body) m envc hc = .ok out,
    ⟨wfuel, G, ρ, killS env kill, h, Same.refl _, Ext.refl _, S.kill' kill, by rw [killS_length]; exact hl, he⟩, ?_⟩
  rintro m σ' Hc ⟨G', ρ', envc, hc, sg, sr, Sc, lc, ec⟩
  cases m with
  | zero => cases ec
  | succ n =>
    have ec : (evt GG (callN GG T k) c envc hc >>= fun z => if z.1 then (exs GG (callN GG T k) body z.2.1 z.2.2 >>= fun o => match o with
      | .nx σ h => whileL (evt GG (callN GG T k) c) kill (exs GG (callN GG T k) body) n (killS σ kill) h
      | .ct σ h => whileL (evt GG (callN GG T k) c) kill (exs GG (callN GG T k) body) n (killS σ kill) h
      | .bk σ h => .ok (.nx (killS σ kill) h)
      | .rt d h => .ok (.rt d h)) else .ok (.nx z.2.1 z.2.2)) = .ok out := ec
    obtain ⟨⟨b, env1, h1⟩, e1, ec⟩ := R.bind_inv ec
    refine ihc X O Pr G' Hc ρ' σ' envc hc Sc lc _ _ _ e1 _ fun G1 ρ1 H1 g1 p1 S1 => ?_
    have l1 := len_of Sc lc S1
    cases b with
    | false =>
      rw [if_neg Bool.false_ne_true]
      cases ec
      exact q G1 ρ1 H1 σ' (sg.trans g1) (sr.trans p1) S1 l1
    | true =>
      rw [if_pos rfl]
      obtain ⟨o, e2, ec⟩ := R.bind_inv (show (exs GG (callN GG T k) body env1 h1 >>= fun o => match o with
        | .nx σ h => whileL (evt GG (callN GG T k) c) kill (exs GG (callN GG T k) body) n (killS σ kill) h
        | .ct σ h => whileL (evt GG (callN GG T k) c) kill (exs GG (callN GG T k) body) n (killS σ kill) h
        | .bk σ h => .ok (.nx (killS σ kill) h)
        | .rt d h => .ok (.rt d h)) = .ok out from ec)
      refine ⟨fun σ' H' => ∃ G' ρ' envc hc, Same G G' ∧ Ext ρ ρ' ∧ SR KK Pr G' H' ρ' σ' envc hc ∧ envc.length = N.length ∧ whileL (evt GG (callN GG T k) c) kill (exs GG (callN GG T k) body) n envc hc = .ok out,
        fun σ' H' hq => ⟨n, Nat.lt_succ_self n, hq⟩, ?_⟩
      refine ihb X O hfn Pr G1 H1 ρ1 σ' env1 h1 S1 l1 o e2 _ ?_
      cases o with
      | nx env3 h3 => exact fun G4 ρ4 H4 σ4 g4 p4 S4 l4 => ⟨G4, ρ4, _, _, (sg.trans g1).trans g4, (sr.trans p1).trans p4, S4.kill' kill, by rw [killS_length]; exact l4, ec⟩
      | ct env3 h3 => exact fun G4 ρ4 H4 σ4 g4 p4 S4 l4 => ⟨G4, ρ4, _, _, (sg.trans g1).trans g4, (sr.trans p1).trans p4, S4.kill' kill, by rw [killS_length]; exact l4, ec⟩
      | bk env3 h3 =>
        cases ec
        exact fun G4 ρ4 H4 σ4 g4 p4 S4 l4 => q G4 ρ4 H4 σ4 ((sg.trans g1).trans g4) ((sr.trans p1).trans p4) (S4.kill' kill) (by rw [killS_length]; exact l4)
      | rt d h3 =>
        cases ec
        exact fun G4 ρ4 H4 v g4 p4 S4 r4 => q G4 ρ4 H4 v ((sg.trans g1).trans g4) ((sr.trans p1).trans p4) S4 r4

def RepFs (K : PySem.W.Frag) (Pr G H : Hp) (ρ : List Addr) (σ : L2.St) (env : Env) : List V → List D → List Bool → Prop
  | [], [], [] => True
  | v :: vs, d :: ds, o :: os => RepX K Pr G H ρ σ env o v d ∧ (o = true → ∀ a, v = .ref a → (∃ xs, d = .lst xs) → ∀ j : Nat, os[j]? = some true → (∃ ys, ds[j]? = some (.lst ys)) → vs[j]? ≠ some (.ref a)) ∧ RepFs K Pr G H ρ σ env vs ds os
  | _, _, _ => False
theorem RepX.ofV {Pr G H : Hp} {ρ : List Addr} {σ : L2.St} {env : Env} {o : Bool} {v : V} {d : D} (h : o = false ∨ ∀ xs, d ≠ .lst xs) (r : RepV KK G ρ v d) : RepX KK Pr G H ρ σ env o v d := by
  rcases h with rfl | h
  · cases d <;> exact r
  · cases o <;> cases d <;> first | exact r | exact absurd rfl (h _)
theorem RepX.toV {Pr G H : Hp} {ρ : List Addr} {σ : L2.St} {env : Env} {o : Bool} {v : V} {d : D} (h : o = false ∨ ∀ xs, d ≠ .lst xs) (r : RepX KK Pr G H ρ σ env o v d) : RepV KK G ρ v d := by
  rcases h with rfl | h
  · cases d <;> exact r
  · cases o <;> cases d <;> first | exact r | exact absurd rfl (h _)
theorem RepX.to {Pr Pr' G G' H H' : Hp} {ρ ρ' : List Addr} {σ σ' : L2.St} {env env' : Env} {o : Bool} {v : V} {d : D} (r : RepX KK Pr G H ρ σ env o v d) (sg : Same G G') (sr : Ext ρ ρ')
    (w : o = true → ∀ a vs, v = .ref a → (∃ xs, d = .lst xs) → H a = some (.lst vs) → Lone Pr G ρ σ env a → H' a = some (.lst vs) ∧ Lone Pr' G' ρ' σ' env' a) : RepX KK Pr' G' H' ρ' σ' env' o v d := by
  by_cases h : o = false ∨ ∀ xs, d ≠ .lst xs
  · exact .ofV h ((r.toV h).mono sg sr)
  · have ho : o = true := by cases o with
      | true => rfl
      | false => exact absurd (.inl rfl) h
    subst ho
    cases d with
    | lst xs =>
      obtain ⟨a, vs, rfl, ea, rl, L⟩ := r
      obtain ⟨e2, L2⟩ := w rfl a vs rfl ⟨xs, rfl⟩ ea L
      exact ⟨a, vs, rfl, e2, rl.mono sg sr, L2⟩
    | _ => exact absurd (.inr fun _ => nofun) h
theorem RepFs.to {Pr Pr' G G' H H' : Hp} {ρ ρ' : List Addr} {σ σ' : L2.St} {env env' : Env} (sg : Same G G') (sr : Ext ρ ρ') : ∀ {vs : List V} {ds : List D} {os : List Bool}, RepFs KK Pr G H ρ σ env vs ds os →
    (∀ j : Nat, os[j]? = some true → (∃ ys, ds[j]? = some (.lst ys)) → ∀ a ws, vs[j]? = some (.ref a) → H a = some (.lst ws) → Lone Pr G ρ σ env a → H' a = some (.lst ws) ∧ Lone Pr' G' ρ' σ' env' a) → RepFs KK Pr' G' H' ρ' σ' env' vs ds os
  | [], [], [], _, _ => trivial
  | [], [], _ :: _, h, _ => h.elim
  | [], _ :: _, _, h, _ => by simp [RepFs] at h
  | _ :: _, [], _, h, _ => by simp [RepFs] at h
  | _ :: _, _ :: _, [], h, _ => h.elim
  | v :: vs, d :: ds, o :: os, ⟨h1, h2, h3⟩, w => ⟨h1.to sg sr fun ho a us ev ex => w 0 (by rw [ho]; rfl) (by obtain ⟨xs, rfl⟩ := ex; exact ⟨xs, rfl⟩) a us (by rw [ev]; rfl), h2, RepFs.to sg sr h3 fun j hj hd a us hv => w (j + 1) hj hd a us hv⟩
theorem RepFs.length {Pr G H : Hp} {ρ : List Addr} {σ : L2.St} {env : Env} : ∀ {vs : List V} {ds : List D} {os : List Bool}, RepFs KK Pr G H ρ σ env vs ds os → vs.length = ds.length ∧ os.length = ds.length
  | [], [], [], _ => ⟨rfl, rfl⟩
  | [], [], _ :: _, h => h.elim
  | [], _ :: _, _, h => by simp [RepFs] at h
  | _ :: _, [], _, h => by simp [RepFs] at h
  | _ :: _, _ :: _, [], h => h.elim
  | v :: vs, d :: ds, o :: os, ⟨_, _, h3⟩ => by
    have := RepFs.length h3
    exact ⟨by simp [this.1], by simp [this.2]⟩
theorem RepFs.lone {Pr G H : Hp} {ρ : List Addr} {σ : L2.St} {env : Env} : ∀ {vs : List V} {ds : List D} {os : List Bool}, RepFs KK Pr G H ρ σ env vs ds os → ∀ j : Nat, os[j]? = some true → (∃ ys, ds[j]? = some (.lst ys)) → ∃ a ws, vs[j]? = some (.ref a) ∧ H a = some (.lst ws) ∧ Lone Pr G ρ σ env a
  | [], [], [], _, j, hj, _ => by simp at hj
  | [], [], _ :: _, h, _, _, _ => h.elim
  | [], _ :: _, _, h, _, _, _ => by simp [RepFs] at h
  | _ :: _, [], _, h, _, _, _ => by simp [RepFs] at h
  | _ :: _, _ :: _, [], h, _, _, _ => h.elim
  | v :: vs, d :: ds, o :: os, ⟨h1, _, h3⟩, j, hj, ⟨ys, hd⟩ => by
    cases j with
    | zero =>
      cases hj
      cases hd
      obtain ⟨a, ws, rfl, ea, _, L⟩ := h1
      exact ⟨a, ws, rfl, ea, L⟩
    | succ j =>
      obtain ⟨a, ws, z⟩ := RepFs.lone h3 j hj ⟨ys, hd⟩
      exact ⟨a, ws, z⟩
theorem args_ok (M : ModOk KK mg GG NB) (hC : ∀ f fd, T f = some fd → ∃ fa fdat ps, CallOk P w KK mg base GG T k f fa fdat ps) {X : Cx} (O : OkX P w KK mg base k sc N X) :
    ∀ (es : Es) (ps : List Expr) (os : List Bool), mEs NB N es sc ps = true → allPlain ps = true → ownsOk os es = true → ∀ Pr G H ρ σ env h, SR KK Pr G H ρ σ env h → env.length = N.length → ∀ ds env' h', evs GG (callN GG T k) es env h = .ok (ds, env', h') →
      ∀ Q : List V → Hp → Prop, (∀ G' ρ' H' vs, Same G G' → Ext ρ ρ' → SR KK Pr G' H' ρ' σ env' h' → RepFs KK Pr G' H' ρ' σ env' vs ds os → Q vs H') → wA X ps σ H Q
  | .nil, ps, os, hm, hp, ho, Pr, G, H, ρ, σ, env, h, S, hl, ds, env', h', he, Q, q => by
    cases ps with
    | cons _ _ => simp [mEs] at hm
    | nil =>
      cases os with
      | cons _ _ => simp [ownsOk] at ho
      | nil =>
        cases he
        exact PA_w pa_nil (q G ρ H [] (Same.refl _) (Ext.refl _) S trivial)
  | .cons st e r, ps, os, hm, hp, ho, Pr, G, H, ρ, σ, env, h, S, hl, ds, env', h', he, Q, q => by
    cases ps with
    | nil => simp [mEs] at hm
    | cons p ps =>
      cases os with
      | nil => simp [ownsOk] at ho
      | cons o os =>
        obtain ⟨hmr, hme⟩ := mEs_tail hm
        simp only [allPlain, List.all_cons, Bool.and_eq_true] at hp
        simp only [ownsOk, Bool.and_eq_true, Bool.not_eq_true', Bool.or_eq_true] at ho
        obtain ⟨⟨rfl, ho1⟩, ho2⟩ := ho
        have he : (ev GG (callN GG T k) e env h >>= fun z => evs GG (callN GG T k) r z.2.1 z.2.2 >>= fun y => R.ok (z.1 :: y.1, y.2.1, y.2.2)) = .ok (ds, env', h') := he
        obtain ⟨⟨d, env1, h1⟩, e1, he⟩ := R.bind_inv he
        obtain ⟨⟨ds2, env2, h2⟩, e2, he⟩ := R.bind_inv he
        cases he
        refine PA_w (pa_cons pe_w pa_w (starEach_cons hp.1)) ?_
        by_cases hc : o = false ∨ ∀ xs, d ≠ .lst xs
        · refine (sE M hC e sc p (hme hp.1)).v O S hl e1 fun G1 ρ1 H1 v1 g1 p1 S1 l1 r1 => ?_
          refine args_ok M hC O r ps os hmr hp.2 ho2 Pr G1 H1 ρ1 σ env1 h1 S1 l1 _ _ _ e2 _ fun G2 ρ2 H2 vs g2 p2 S2 rs => ?_
          refine q G2 ρ2 H2 (v1 :: vs) (g1.trans g2) (p1.trans p2) S2 ⟨.ofV hc (r1.mono g2 p2), fun z a _ ⟨xs, z2⟩ => ?_, rs⟩
          rcases hc with hc | hc
          · rw [hc] at z; cases z
          · exact absurd z2 (hc xs)
        · have ho : o = true := by cases o with
            | true => rfl
            | false => exact absurd (.inl rfl) hc
          subst ho
          cases d with
          | lst xs =>
            have hf : fr e = true := by rcases ho1 with z | z; cases z; exact z
            refine (sE M hC e sc p (hme hp.1)) X O Pr G H ρ σ env h S hl _ _ _ e1 _ ?_
            rw [hf]
            rintro G1 ρ1 H1 v1 g1 p1 S1 ⟨a, ws, rfl, ea, rl, L⟩
            have l1 := len_of S hl S1
            have S1k := S1.keep (u := .lst ws) ea L.g L.r L.o
            have prs : Same Pr (upd Pr a (.lst ws)) := same_upd' L.p
            refine args_ok M hC O r ps os hmr hp.2 ho2 _ G1 H1 ρ1 σ env1 h1 S1k l1 _ _ _ e2 _ fun G2 ρ2 H2 vs g2 p2 S2 rs => ?_
            have ea2 : H2 a = some (.lst ws) := S2.prs _ _ upd_same
            have La : Lone Pr G2 ρ2 σ env2 a := by
              refine ⟨S2.gp _ _ upd_same, L.p, fun m => ?_, fun i ds z y => ?_⟩
              · obtain ⟨n, z⟩ := List.getElem?_of_mem m
                have hn : n < h2.length := by rw [← S2.rl]; exact (List.getElem?_eq_some_iff.mp z).1
                have p := S2.prn m
                rw [upd_same] at p; cases p
              · obtain ⟨b, vs, z1, _, _, _, z2, _⟩ := S2.own i ds z
                rw [y] at z1; cases z1
                rw [upd_same] at z2; cases z2
            refine q G2 ρ2 H2 (.ref a :: vs) (g1.trans g2) (p1.trans p2) (S2.pr prs) ⟨⟨a, ws, rfl, ea2, rl.mono g2 p2, La⟩, fun _ b eb _ j hj hd z => ?_, ?_⟩
            · cases eb
              obtain ⟨b, us, z1, _, Lb⟩ := rs.lone j hj hd
              rw [z] at z1; cases z1
              have := Lb.p
              rw [upd_same] at this; cases this
            · exact rs.to (Same.refl _) (Ext.refl _) fun j _ _ b us _ eb Lb => ⟨eb, Lb.g, prs.free Lb.p, Lb.r, Lb.o⟩
          | _ => exact absurd (.inr fun _ => nofun) hc
theorem par_store {Pr G H : Hp} {ρ : List Addr} {h : AH} : ∀ {is : List Nat} {os : List Bool} {ds : List D} {vs : List V} {σ : L2.St} {env env2 : Env}, RepFs KK Pr G H ρ σ env vs ds os → SR KK Pr G H ρ σ env h → parS is os ds env = .ok env2 → (∀ i ∈ is, i < env.length) →
    SR KK Pr G H ρ (setMany σ (is.zip vs)) env2 h ∧ env2.length = env.length ∧ is.length = ds.length
  | [], [], [], _, σ, env, env2, _, S, e, _ => by cases e; exact ⟨S, rfl, rfl⟩
  | [], [], _ :: _, _, _, _, _, _, _, e, _ => by cases e
  | [], _ :: _, _, _, _, _, _, _, _, e, _ => by cases e
  | _ :: _, [], _, _, _, _, _, _, _, e, _ => by cases e
  | _ :: _, _ :: _, [], _, _, _, _, _, _, e, _ => by cases e
  | _ :: _, _ :: _, _ :: _, [], _, _, _, r, _, _, _ => by simp [RepFs] at r
  | i :: is, o :: os, d :: ds, v :: vs, σ, env, env2, ⟨r1, r2, r3⟩, S, e, hi => by
    have e : (slotOf o d >>= fun s => parS is os ds (env.set i s)) = .ok env2 := e
    obtain ⟨s, e1, e2⟩ := R.bind_inv e
    have hi0 := hi i List.mem_cons_self
    have hi1 : ∀ s, ∀ j ∈ is, j < (env.set i s).length := fun s j hj => by rw [List.length_set]; exact hi j (List.mem_cons_of_mem _ hj)
    have hs : (s = .val d ∧ (o = false ∨ ∀ xs, d ≠ .lst xs)) ∨ ∃ xs, o = true ∧ d = .lst xs ∧ s = .own xs := by
      cases o with
      | false => cases e1; exact .inl ⟨rfl, .inl rfl⟩
      | true => cases d <;> cases e1 <;> first | exact .inr ⟨_, rfl, rfl, rfl⟩ | exact .inl ⟨rfl, .inr fun _ => nofun⟩
    rcases hs with ⟨rfl, hc⟩ | ⟨xs, rfl, rfl, rfl⟩
    · have S1 := S.put hi0 (r1.toV hc)
      have := par_store (r3.to (σ' := σ.set i (some v)) (env' := env.set i (.val d)) (Same.refl _) (Ext.refl _) fun j _ _ b us _ eb Lb => ⟨eb, Lb.g, Lb.p, Lb.r, fun m es z1 z2 => ?_⟩) S1 e2 (hi1 _)
      · exact ⟨this.1, by rw [this.2.1, List.length_set], by simp [this.2.2]⟩
      · have hm : i ≠ m := by rintro rfl; rw [List.getElem?_set_self hi0] at z1; cases z1
        rw [List.getElem?_set_ne hm] at z1 z2
        exact Lb.o m es z1 z2
    · obtain ⟨a, ws, rfl, ea, rl, L⟩ := r1
      have S1 := S.putOwn hi0 ea rl L
      have := par_store (r3.to (σ' := σ.set i (some (.ref a))) (env' := env.set i (.own xs)) (Same.refl _) (Ext.refl _) fun j hj hd b us hv eb Lb => ⟨eb, Lb.g, Lb.p, Lb.r, fun m es z1 z2 => ?_⟩) S1 e2 (hi1 _)
      · exact ⟨this.1, by rw [this.2.1, List.length_set], by simp [this.2.2]⟩
      · by_cases hm : i = m
        · subst hm
          rw [List.getElem?_set_self (by rw [S.len]; exact hi0)] at z2
          cases z2
          exact r2 rfl a rfl ⟨_, rfl⟩ j hj hd hv
        · rw [List.getElem?_set_ne hm] at z1 z2
          exact Lb.o m es z1 z2
end
end EV
set_option maxRecDepth 100000
set_option maxHeartbeats 1000000
namespace EV
open PySem PySem.Spec PyProof.Rows L2
section
variable {fb : Bool} {P : Program} {w : World} {KK : PySem.W.Frag} {mg : Str → Option Value} {base : Heap} {GG : Glob} {T : Tab} {NB : List String} {k : Nat} {N : List Str} {sc : Scope}
theorem par_end {Pr G : Hp} {ρ : List Addr} {σ : L2.St} {env1 env2 : Env} {h1 : AH} {is : List Nat} {os : List Bool} {ds : List D} {De : Ends} (e : parS is os ds env1 = .ok env2) (hi : ∀ i ∈ is, i < N.length)
    (q : OutQ fb KK Pr G ρ N.length (.nx env2 h1) De) {G' H' : Hp} {ρ' : List Addr} {vs : List V} (sg : Same G G') (sr : Ext ρ ρ') (S : SR KK Pr G' H' ρ' σ env1 h1) (l : env1.length = N.length) (r : RepFs KK Pr G' H' ρ' σ env1 vs ds os) : De.nx (setMany σ (is.zip vs)) H' := by
  have := par_store r S e (fun i z => by rw [l]; exact hi i z)
  exact q G' ρ' H' _ sg sr this.1 (by rw [this.2.1]; exact l)
theorem s_par (M : ModOk KK mg GG NB) (hC : ∀ f fd, T f = some fd → ∃ fa fdat ps, CallOk P w KK mg base GG T k f fa fdat ps) {is os es ps kt pt vs k2 p2 pos} (ht : tgB.go sc N is ps = true) (hm : mEs NB N es sc vs = true) (hp : allPlain vs = true) (ho : ownsOk os es = true)
    (hk : sc.kind = .function) (h15 : is.length ≤ 15)
    (hw : swS sc ps vs = some none ∨ (∃ x px y py, ps = [.Name x px, .Name y py] ∧ swS sc ps vs = some (some [x, y]) ∧ x ≠ y ∧ sc.names.lookup x = some .local ∧ sc.names.lookup y = some .local) ∨
      ∃ x px y py z pz, ps = [.Name x px, .Name y py, .Name z pz] ∧ swS sc ps vs = some (some [x, y, z]) ∧ (x ≠ y ∧ x ≠ z ∧ y ≠ z) ∧ sc.names.lookup x = some .local ∧ sc.names.lookup y = some .local ∧ sc.names.lookup z = some .local) :
    SndS fb P w KK mg base GG T k N (.par is os es) sc (.Assign [.Tuple ps kt pt] (.Tuple vs k2 p2) pos) := fun X O hfn Pr G H ρ σ env h S hl out he De q => by
  have he : (evs GG (callN GG T k) es env h >>= fun z => parS is os z.1 z.2.1 >>= fun s => R.ok (Out.nx s z.2.2)) = .ok out := he
  obtain ⟨⟨ds, env1, h1⟩, e1, he⟩ := R.bind_inv he
  obtain ⟨env2, e2, he⟩ := R.bind_inv he
  cases he
  have hlt := go_lt ht
  have args := fun Q q => args_ok M hC O es vs os hm hp ho Pr G H ρ σ env h S hl ds env1 h1 e1 Q q
  have hsw : swapsWithSole [.Tuple ps kt pt] (.Tuple vs k2 p2) pos.line X.env = pure false := rfl
  rcases hw with hw | ⟨x, px, y, py, rfl, hw, hxy, hx, hy⟩ | ⟨x, px, y, py, z, pz, rfl, hw, hdup, hx, hy, hz⟩
  · obtain ⟨g, l, f⟩ := wGs_names O (O.hx hfn) ht
    refine PS_w (ps_asg (pe_tup pa_w) (pg_tup O.x.calm g l f) hsw (swS_eq O.hsc hk hw _ _ _ _)) ?_
    refine args _ fun G1 ρ1 H1 us g1 p1 S1 r1 => ?_
    have l1 := len_of S hl S1
    have len2 := (par_store r1 S1 e2 (fun i z => by rw [l1]; exact hlt i z)).2.2
    have lu : us.length = is.length := by rw [r1.length.1, len2]
    refine ⟨by rw [lu]; exact Nat.le_trans h15 (by decide), fun p hn => ?_⟩
    obtain ⟨S2, s2⟩ := S1.lay (u := .tup us) hn
    refine ⟨p, us, rfl, SqT.of upd_same, lu, lu, ?_⟩
    refine par_end e2 hlt q (g1.trans s2) p1 S2 l1 (r1.to s2 (Ext.refl _) fun j _ _ a ws _ ea L => ?_)
    have hne : a ≠ p := by rintro rfl; rw [hn] at ea; cases ea
    exact ⟨by rw [upd_ne hne]; exact ea, by rw [upd_ne hne]; exact L.g, L.p, L.r, L.o⟩
  · match is, ht with
    | [i, j], ht =>
      simp only [tgB.go, Bool.and_eq_true, decide_eq_true_eq] at ht
      have hl2 : vs.length = 2 := by
        have := hw
        unfold swS at this
        split at this
        · cases this
        · rename_i c
          simp at c
          exact c
      match vs, hl2 with
      | [a, b], _ =>
        have hij : i ≠ j := fun e => by subst e; exact hxy (Option.some.inj (ht.1.1.symm.trans ht.2.1.1))
        refine PS_w (ps_par (i := i) (j := j) O.x.calm (by rw [O.hN]; exact O.nd) (by rw [O.hN]; exact ht.1.1) (by rw [O.hN]; exact ht.2.1.1) hij (by rw [O.hsc]; exact hx) (by rw [O.hsc]; exact hy) pa_w (swS_eq O.hsc hk hw _ _ _ _) hsw) ?_
        refine args _ fun G1 ρ1 H1 us g1 p1 S1 r1 => ?_
        have l1 := len_of S hl S1
        have len2 := (par_store r1 S1 e2 (fun i z => by rw [l1]; exact hlt i z)).2.2
        have lu : us.length = 2 := by rw [r1.length.1, ← len2]; rfl
        match us, lu with
        | [u, v], _ => exact ⟨u, v, rfl, par_end e2 hlt q g1 p1 S1 l1 r1⟩
    | [], ht => simp [tgB.go] at ht
    | [_], ht => simp [tgB.go] at ht
    | _ :: _ :: _ :: _, ht => simp [tgB.go] at ht
  · match is, ht with
    | [i, j, l], ht =>
      simp only [tgB.go, Bool.and_eq_true, decide_eq_true_eq] at ht
      have hl2 : vs.length = 3 := by
        have := hw
        unfold swS at this
        split at this
        · cases this
        · rename_i c
          simp at c
          exact c
      match vs, hl2 with
      | [a, b, c], _ =>
        have inj : ∀ {a b : Nat} {u v : Str}, N[a]? = some u → N[b]? = some v → u ≠ v → a ≠ b := fun h1 h2 hn e => by
          subst e; exact hn (Option.some.inj (h1.symm.trans h2))
        refine PS_w (ps_par3 (i := i) (j := j) (l := l) O.x.calm (by rw [O.hN]; exact O.nd) (by rw [O.hN]; exact ht.1.1) (by rw [O.hN]; exact ht.2.1.1) (by rw [O.hN]; exact ht.2.2.1.1) (inj ht.1.1 ht.2.1.1 hdup.1) (inj ht.1.1 ht.2.2.1.1 hdup.2.1) (inj ht.2.1.1 ht.2.2.1.1 hdup.2.2)
          (by rw [O.hsc]; exact hx) (by rw [O.hsc]; exact hy) (by rw [O.hsc]; exact hz) pa_w (swS_eq O.hsc hk hw _ _ _ _) hsw) ?_
        refine args _ fun G1 ρ1 H1 us g1 p1 S1 r1 => ?_
        have l1 := len_of S hl S1
        have len2 := (par_store r1 S1 e2 (fun i z => by rw [l1]; exact hlt i z)).2.2
        have lu : us.length = 3 := by rw [r1.length.1, ← len2]; rfl
        match us, lu with
        | [u, v, w], _ => exact ⟨u, v, w, rfl, par_end e2 hlt q g1 p1 S1 l1 r1⟩
    | [], ht => simp [tgB.go] at ht
    | [_], ht => simp [tgB.go] at ht
    | [_, _], ht => simp [tgB.go] at ht
    | _ :: _ :: _ :: _ :: _, ht => simp [tgB.go] at ht

mutual
theorem sS (M : ModOk KK mg GG NB) (hC : ∀ f fd, T f = some fd → ∃ fa fdat ps, CallOk P w KK mg base GG T k f fa fdat ps) : ∀ (s : S) (st : Stmt), mS fb NB N sc s st = true → SndS fb P w KK mg base GG T k N s sc st
  | .set i own e, st, hm => by
    simp only [mS] at hm
    split at hm
    · rename_i x px pe pos
      simp only [Bool.and_eq_true, decide_eq_true_eq, Bool.or_eq_true, Bool.not_eq_true'] at hm
      obtain ⟨⟨⟨⟨h1, h2⟩, h3⟩, h4⟩, h5⟩ := hm
      rcases h5 with h5 | h5
      · refine s_set h1 h2 (sE M hC e sc _ h3) (fun z => ?_) h5
        rcases h4 with h4 | h4
        · rw [z] at h4; cases h4
        · exact h4
      · split at h5
        · simp only [Bool.and_eq_true] at h5
          obtain ⟨⟨h6, h7⟩, h8⟩ := h5
          split at h8
          · simp only [mE, Bool.and_eq_true, decide_eq_true_eq] at h3
            obtain ⟨⟨⟨⟨⟨⟨⟨⟨rfl, g0⟩, g2⟩, g3⟩, g4⟩, g5⟩, g6⟩, g7⟩, g8⟩ := h3
            exact s_setc h1 (sI M hC _ sc _ g3) g2 g4 (sTf M hC _ _ _ g5) (sE M hC _ _ _ g6) (nt_of g0) g7 g8 h6 (by simpa using h7)
          · cases h8
        · simp only [Bool.and_eq_true] at h5
          obtain ⟨⟨h6, h7⟩, h8⟩ := h5
          split at h8
          · simp only [mE, Bool.and_eq_true, decide_eq_true_eq, List.all_eq_true] at h3
            obtain ⟨⟨⟨⟨⟨⟨⟨⟨⟨⟨⟨⟨⟨⟨⟨⟨rfl, rfl⟩, g0⟩, g01⟩, g2⟩, gsub⟩, g3⟩, g4⟩, g5⟩, g31⟩, g41⟩, g51⟩, g6⟩, g7⟩, g71⟩, g8⟩, g81⟩ := h3
            exact s_setc2 h1 (sI M hC _ sc _ g3) g2 g4 (sTf M hC _ _ _ g5) (sI M hC _ _ _ g31) g41 (sTf M hC _ _ _ g51) (sE M hC _ _ _ g6) (nt_of g0) (nt_of g01) g7 g71 gsub g8 g81 h6 (by simpa using h7)
          · cases h8
        · cases h5
    · cases hm
  | .sett is e, st, hm => by
    simp only [mS] at hm
    split at hm
    · simp only [Bool.and_eq_true] at hm
      exact s_sett hm.1.1 (sE M hC e sc _ hm.1.2) hm.2
    · cases hm
  | .par is os es, st, hm => by
    simp only [mS] at hm
    split at hm
    · rename_i ps kt pt vs k2 p2 pos
      simp only [Bool.and_eq_true, decide_eq_true_eq] at hm
      obtain ⟨⟨⟨⟨⟨⟨h1, h2⟩, h3⟩, h4⟩, h5⟩, h6⟩, h7⟩ := hm
      refine s_par M hC h1 h2 h3 h4 (by simpa using h5) h6 ?_
      split at h7
      · exact .inl (by assumption)
      · simp only [Bool.and_eq_true, decide_eq_true_eq] at h7
        obtain ⟨⟨⟨rfl, z0⟩, z1⟩, z2⟩ := h7
        exact .inr (.inl ⟨_, _, _, _, rfl, by assumption, z0, z1, z2⟩)
      · simp only [Bool.and_eq_true, decide_eq_true_eq] at h7
        obtain ⟨⟨⟨⟨rfl, z0⟩, z1⟩, z2⟩, z3⟩ := h7
        exact .inr (.inr ⟨_, _, _, _, _, _, rfl, by assumption, z0, z1, z2, z3⟩)
      · cases h7
    · cases hm
  | .setsub i ke e, st, hm => by
    simp only [mS] at hm
    split at hm
    · simp only [Bool.and_eq_true] at hm
      exact s_setsub hm.1.1.1 (sE M hC ke sc _ hm.1.1.2) (sE M hC e sc _ hm.1.2) hm.2
    · cases hm
  | .app i e, st, hm => by
    simp only [mS] at hm
    split at hm
    · simp only [Bool.and_eq_true, decide_eq_true_eq] at hm
      obtain ⟨⟨⟨⟨rfl, h2⟩, h3⟩, h4⟩, h5⟩ := hm
      exact s_app h2 (sE M hC e sc _ h3) h4 h5
    · cases hm
  | .appx o e, st, hm => by
    simp only [mS] at hm
    split at hm
    · simp only [Bool.and_eq_true, decide_eq_true_eq] at hm
      obtain ⟨⟨⟨⟨⟨rfl, h2⟩, h3⟩, h4⟩, h5⟩, h6⟩ := hm
      exact s_appx (sE M hC o sc _ h2) h3 (sE M hC e sc _ h4) h5 h6
    · cases hm
  | .ext i e, st, hm => by
    simp only [mS] at hm
    split at hm
    · simp only [Bool.and_eq_true, decide_eq_true_eq] at hm
      obtain ⟨⟨⟨⟨rfl, h2⟩, h3⟩, h4⟩, h5⟩ := hm
      exact s_ext h2 (sE M hC e sc _ h3) h4 h5
    · cases hm
  | .expr e, st, hm => by
    simp only [mS] at hm
    split at hm
    · simp only [Bool.and_eq_true, decide_eq_true_eq] at hm
      exact s_expr (sE M hC e sc _ hm.1) hm.2
    · cases hm
  | .ret e, st, hm => by
    simp only [mS] at hm
    split at hm
    · simp only [Bool.and_eq_true] at hm
      exact s_ret hm.2 (sE M hC e sc _ hm.1)
    · cases hm
  | .retO i, st, hm => by
    simp only [mS] at hm
    split at hm
    · exact s_retO hm
    · cases hm
  | .retN, st, hm => by
    simp only [mS] at hm
    split at hm
    · exact s_retN
    · cases hm
  | .ite c a b, st, hm => by
    simp only [mS] at hm
    split at hm
    · simp only [Bool.and_eq_true] at hm
      exact s_ite (sT M hC c sc _ hm.1.1) (sSs M hC a _ hm.1.2) (sSs M hC b _ hm.2)
    · cases hm
  | .for_ tg it body kill, st, hm => by
    simp only [mS] at hm
    split at hm
    · simp only [Bool.and_eq_true] at hm
      exact s_for (sI M hC it sc _ hm.1.1.1.1) hm.1.1.1.2 (sSs M hC body _ hm.1.1.2) hm.1.2 (nt_of hm.2)
    · cases hm
  | .while_ c body kill, st, hm => by
    simp only [mS] at hm
    split at hm
    · simp only [Bool.and_eq_true] at hm
      exact s_while (sT M hC c sc _ hm.1) (sSs M hC body _ hm.2)
    · cases hm
  | .brk, st, hm => by
    simp only [mS] at hm
    split at hm
    · exact s_brk
    · cases hm
  | .cont, st, hm => by
    simp only [mS] at hm
    split at hm
    · exact s_cont
    · cases hm
  | .pass, st, hm => by
    simp only [mS] at hm
    split at hm
    · exact s_pass
    · cases hm
  | .raise _ _, st, hm => fun X O hfn Pr G H ρ σ env h S hl out he De q => nomatch he
theorem sSs (M : ModOk KK mg GG NB) (hC : ∀ f fd, T f = some fd → ∃ fa fdat ps, CallOk P w KK mg base GG T k f fa fdat ps) : ∀ (s : Ss) (sts : List Stmt), mSs fb NB N sc s sts = true → SndSs fb P w KK mg base GG T k N s sc sts
  | .nil, sts, hm => by
    simp only [mSs] at hm
    split at hm
    · exact ss_nil
    · cases hm
  | .cons s r, sts, hm => by
    simp only [mSs] at hm
    split at hm
    · simp only [Bool.and_eq_true] at hm
      exact ss_cons (sS M hC s _ hm.1) (sSs M hC r _ hm.2)
    · cases hm
end
end
end EV
set_option maxRecDepth 100000
set_option maxHeartbeats 1000000
namespace EV
open PySem PySem.Spec PyProof.Rows L2
section
variable {P : Program} {w : World} {KK : PySem.W.Frag} {mg : Str → Option Value} {base : Heap} {GG : Glob} {T : Tab} {NB : List String} {k : Nat}
theorem fn_run {f : Addr} {name qual : Str} {params : Arguments} {body : List Stmt} {scope : Scope} {dV kV doc pm cdv ct oc : Value} {an od : Option Addr} {osl : Array (Option Value)} {N ps : List Str}
    (lk : KK.lookup f = some ⟨oc, od, .func (PySem.W.fnOf name qual params body scope dV kV doc pm an cdv ct), osl⟩) (hcd : PySem.W.codeIn KK cdv qual = true) (S : FnScope N ps scope)
    {A : Around} {outer : List PySem.Env} {s : Shared} {H : Hp} {args : Args} {us : List Value} {vs : List V} {Q : VK} (hr : Room (k + 1) A) (e0 : Env0 P w KK mg base A outer s H)
    (hb : BindsTo s (PySem.W.fnOf name qual params body scope dV kV doc pm an cdv ct) args (ps.zip us)) (r : Vals vs us) (hl : vs.length = ps.length)
    (hbody : wSs (cxOf CX0 P w KK mg base N qual scope f cdv A outer s H E0).nox body { nx := fun _ H' => Q .non H', rt := Q } (start N vs) H) :
    codeAny (model P w) A (.call (.ref f) args) (CR CX0 outer P w H s Q E0) s := by
  have kin : KK.In s.heap := e0.mod.kin.keeps fun b o e =>
    (e0.bs b o e).1
  have nl : s.heap.NoLimit := e0.mod.nolimit.keeps fun b o e =>
    (e0.bs b o e).1
  have kinds : ∀ y ∈ ps.zip us, scope.names.lookup y.1 = some .local ∨
      (scope.names.lookup y.1 = some .cell ∧ ((cellsFrom (s.heap.objs.size + 1) scope.names []).lookup y.1).isSome = true) := by
    rintro ⟨n, v⟩ hy
    cases S.par n (List.of_mem_zip hy).1 with
    | inl q => exact .inl q
    | inr q => exact .inr ⟨q, PySem.W.cellsFrom_some _ _ _ (.inl q)⟩
  have cr := PySem.W.codeRec_of kin hcd
  refine codeAny_call_function hr.depth (kin _ _ lk) rfl S.co S.gen rfl cr (hb _ _ _ _ ?_)
  refine wpAny_newFunctionEnv_cells S.kind kinds fun env he s1 x => ?_
  subst he
  refine ⟨nl.keeps x.toInCall.keep, codeAny_func ?_⟩
  have I0 : Inv (cxOf CX0 P w KK mg base N qual scope f cdv A outer s H E0) [] (start N vs) H s1 :=
    inv_start S hr.hd e0 hl r x
  have go := (pss_w (st := body)).nox.run [] s1 _ H _ I0 hbody
  refine wpAny_mono go ?_ fun e s' hs => hs
  have fin : ∀ {σ' : L2.St} {H' : Hp} {v : V} {u : Value} {s' : Shared}, Inv (cxOf CX0 P w KK mg base N qual scope f cdv A outer s H E0) [] σ' H' s' → RelV v u → Q v H' → CE outer P w H s Q u s' := by
    intro σ' H' v u s' J rv q
    exact ⟨v, H', J.os, J.bare, J.base, J.hok, rv, q⟩
  intro fl s' hs
  cases fl with
  | ret u => exact let ⟨_, _, _, J, rv, q⟩ := hs; fin J rv q
  | next => exact let ⟨_, _, J, q⟩ := hs; fin (v := .non) (u := Value.none) J rfl q
  | brk => exact let ⟨_, _, _, q⟩ := hs; False.elim q
  | cont => exact let ⟨_, _, _, q⟩ := hs; False.elim q

structure DefOk (KK : PySem.W.Frag) (mg : Str → Option Value) (NB : List String) (f : Str) (fd : Fn) : Prop where
  ex : ∃ (fa : Addr) (fdat : FuncData) (params : Arguments) (body : List Stmt) (scope : Scope) (N : List Str), mg f = some (.ref fa) ∧ FunD KK f f params body scope [] [] fa fdat ∧ Binds KK fdat (N.take fd.ar) [] ∧
    FnScope N (N.take fd.ar) scope ∧ mSs (frNm f) NB N scope fd.body body = true ∧ fd.n = N.length ∧ fd.ar ≤ N.length

theorem start_env {K : PySem.W.Frag} {Pr G H : Hp} {ρ : List Addr} {h : AH} {N : List Str} {vs : List V} {ds : List D} (S : SR K Pr G H ρ [] [] h) (r : RepL K G ρ vs ds) (hl : ds.length ≤ N.length) :
    SR K Pr G H ρ (L2.start N vs) (ds.map .val ++ List.replicate (N.length - ds.length) .no) h := by
  have hv := r.length
  refine ⟨S.sub, S.prs, ?_, fun i d e => ?_, fun i d e => ?_, fun i j a d e e1 => ?_, S.rl, S.gp, S.nd, S.hq⟩
  · simp [L2.start, hv]
  · by_cases hi : i < ds.length
    · rw [List.getElem?_append_left (by simpa using hi), List.getElem?_map] at e
      cases ed : ds[i]? with
      | none => rw [ed] at e; cases e
      | some d' =>
        rw [ed] at e; cases e
        obtain ⟨v, ev, rv⟩ := r.get ed
        refine ⟨v, ?_, rv⟩
        unfold L2.start
        rw [List.getElem?_append_left (by rw [List.length_map, hv]; exact hi), List.getElem?_map, ev]
        rfl
    · rw [List.getElem?_append_right (by simpa using hi), List.getElem?_replicate] at e
      split at e <;> cases e
  · by_cases hi : i < ds.length
    · rw [List.getElem?_append_left (by simpa using hi), List.getElem?_map] at e
      cases ed : ds[i]? with
      | none => rw [ed] at e; cases e
      | some d' => rw [ed] at e; cases e
    · rw [List.getElem?_append_right (by simpa using hi), List.getElem?_replicate] at e
      split at e <;> cases e
  · by_cases hi : i < ds.length
    · rw [List.getElem?_append_left (by simpa using hi), List.getElem?_map] at e1
      cases ed : ds[i]? with
      | none => rw [ed] at e1; cases e1
      | some d' => rw [ed] at e1; cases e1
    · rw [List.getElem?_append_right (by simpa using hi), List.getElem?_replicate] at e1
      split at e1 <;> cases e1

theorem calls_ok (M : ModOk KK mg GG NB) (hD : ∀ f fd, T f = some fd → DefOk KK mg NB f fd) : ∀ (k : Nat) (f : Str) (fd : Fn), T f = some fd → ∃ fa fdat ps, CallOk P w KK mg base GG T k f fa fdat ps
  | 0, f, fd, hT => by
    obtain ⟨fa, fdat, params, body, scope, N, h1, F, hb, S, hm, hn, ha⟩ := (hD f fd hT).ex
    exact ⟨fa, fdat, _, h1, F.kp, hb, fun ds h r e => (nomatch e), fun A outer s H args us vs _ _ _ _ _ G ρ h ds d h' _ _ e => nomatch e⟩
  | k + 1, f, fd, hT => by
    have ih := calls_ok M hD k
    obtain ⟨fa, fdat, params, body, scope, N, h1, F, hb, S, hm, hn, ha⟩ := (hD f fd hT).ex
    have hlen : ∀ ds h r, callN GG T (k + 1) f ds h = .ok r → ds.length = (N.take fd.ar).length := fun ds h r e => by
      unfold callN at e
      rw [hT] at e
      simp only at e
      split at e
      · rename_i q
        rw [List.length_take, ← q]
        omega
      · cases e
    refine ⟨fa, fdat, _, h1, F.kp, hb, hlen, fun A outer s H args us vs hr hg e0 hbt hv G ρ h ds d h' Sr r e Q q => ?_⟩
    have hl := hlen ds h _ e
    obtain ⟨oc, od, dV, kV, doc, pm, an, cdv, ct, osl, rfl, lk, hcd, _, _⟩ := F.ex
    refine fn_run lk hcd S hr e0 hbt hv (by rw [r.length, hl]) ?_
    unfold callN at e
    rw [hT] at e
    simp only at e
    split at e
    · rename_i hq
      have e : (exs GG (callN GG T k) fd.body (ds.map .val ++ List.replicate (fd.n - fd.ar) .no) h >>= fun o => match o with
        | .rt d h => R.ok (d, h)
        | .nx _ h => .ok (.non, h)
        | _ => .bad) = .ok (d, h') := e
      obtain ⟨out, e1, e2⟩ := R.bind_inv e
      rw [hn, hq] at e1
      have hd := hr.deeper (envOfC f scope s.heap.objs.size fa cdv)
      have S0 := start_env Sr r (N := N) (by omega)
      refine sSs M ih fd.body body hm _ ⟨rfl, S.nd, rfl, ⟨rfl, ?_, hg⟩, hd, rfl, rfl, rfl, rfl, rfl, rfl⟩ (fun _ => rfl) _ G H ρ _ _ h S0 (by simp; omega) out e1 _ ?_
      · have := hd.un
        show (A.deeper (envOfC f scope s.heap.objs.size fa cdv)).units + 200 < cLine
        omega
      · cases out with
        | nx env2 h2 =>
          cases e2
          exact fun G' ρ' H' σ' sg sr S' _ => q G' ρ' H' .non sg sr S'.drop0 (by generalize frNm f = b; cases b <;> exact .non)
        | rt d2 h2 =>
          cases e2
          exact fun G' ρ' H' v sg sr S' r' => q G' ρ' H' v sg sr S' r'
        | bk _ _ => cases e2
        | ct _ _ => cases e2
    · cases e
end
end EV
set_option maxRecDepth 100000
set_option maxHeartbeats 1000000
namespace EV
open PySem PySem.Spec PyProof.Rows L2
theorem law_run {P : Program} {w : World} {K : PySem.W.Frag} {mg mb : Str → Option Value} {fa a : Addr} {s₁ : Shared} {vs : List Value} {ns : List Int} (KX : K.In s₁.heap) (hns : s₁.heap.Ns mainGlobals mg) (hb : s₁.heap.Ns builtinsNs mb)
    (hbb : ∀ x : Str, x ≠ "__name__" → mb x = bootBuiltins x) (hlim : s₁.heap.NoLimit) (hg : s₁.gens = #[])
    (ha : s₁.heap.get? a = some { cls := .type "list", data := .seq vs.toArray }) (hi : IntsAre vs ns) (hl : ns.length ≤ sizeLine)
    (run : ∀ (base : Heap) (H : Hp), Mod K mg base → SqL K H a (ns.map V.int) → Env0 P w K mg base callerA [] s₁ H → codeAny (model P w) callerA (.call (.ref fa) ⟨[.ref a], []⟩) (CR CX0 [] P w H s₁ (fun v _ => v = .bl true) E0) s₁) :
    codeAny (model P w) callerA (.call (.ref fa) ⟨[.ref a], []⟩) (fun r s' => r = .ok (.ret (.bool true)) ∧ OldK s₁.heap s'.heap ∧ s'.os = s₁.os ∧ AllBare s'.gens) s₁ := by
  have lv : vs.length = ns.length := hi.length
  obtain ⟨H, frozen, seq, laid, at_a, out⟩ : ∃ H : Hp, (∀ b u, H b = some u → ∃ o xs, u = .frz o (.lst xs)) ∧ SqL K H a (ns.map V.int) ∧ HOk P w H s₁.heap ∧ (∀ b u, H b = some u → b = a) ∧ (∀ u, H a = some u → K.lookup a = none) := by
    by_cases hk : K.lookup a = none
    · refine ⟨fun b => if b = a then some (.frz { cls := .type "list", data := .seq vs.toArray } (.lst (ns.map V.int))) else none, fun b u e => ?_, ?_, fun b u e => ?_, fun b u e => ?_, fun _ _ => hk⟩
      · by_cases q : b = a
        · simp only [q, if_true] at e; exact ⟨_, _, (Option.some.inj e).symm⟩
        · simp only [q, if_false] at e; cases e
      · exact .inl (.inr ⟨_, if_pos rfl⟩)
      · by_cases q : b = a
        · subst q
          simp only [if_true] at e
          cases e
          exact ⟨ha, by simpa using hl, vs, _, vals_ints hi, ha⟩
        · simp only [q, if_false] at e; cases e
      · by_cases q : b = a
        · exact q
        · simp only [q, if_false] at e; cases e
    · obtain ⟨o, ho⟩ := Option.ne_none_iff_exists'.mp hk
      have e := (KX a o ho).symm.trans ha
      cases e
      have no : ∀ {u : HO}, (none : Option HO) = some u → False := fun e => by cases e
      exact ⟨fun _ => none, fun _ _ e => (no e).elim, .inr ⟨_, vs.toArray, _, ho, rfl, rfl, rfl, by simpa [lv] using hl, by simpa using vals_ints hi⟩, (fun _ _ e => (no e).elim), (fun _ _ e => (no e).elim), fun _ e => (no e).elim⟩
  -- the part of the heap that stays
  have stay : ∀ {b o}, s₁.heap.get? b = some o → H b = none → (hidT s₁.heap H).get? b = some o := fun e n => hidT_get e n
  have dict_free : ∀ {b o es ep}, s₁.heap.get? b = some o → o.data = .dict es ep → H b = none := by
    intro b o es ep e d
    cases q : H b with
    | none => rfl
    | some u =>
      have := at_a b u q
      subst this
      rw [ha] at e
      cases e
      cases d
  have ns_stay : ∀ {b : Addr} {m : Str → Option Value}, s₁.heap.Ns b m → (hidT s₁.heap H).Ns b m := by
    rintro b m ⟨o, es, ep, e, d, r⟩
    exact ⟨o, es, ep, stay e (dict_free e d), d, r⟩
  have kin : K.In (hidT s₁.heap H) := by
    intro b o e
    refine stay (KX b o e) ?_
    cases q : H b with
    | none => rfl
    | some u =>
      have := at_a b u q
      subst this
      rw [out u q] at e
      cases e
  have mod : Mod K mg (hidT s₁.heap H) := ⟨kin, ns_stay hns, ⟨mb, ns_stay hb, hbb⟩, by
    obtain ⟨mc, h1, h2⟩ := hlim
    exact ⟨mc, ns_stay h1, h2⟩⟩
  have env0 : Env0 P w K mg (hidT s₁.heap H) callerA [] s₁ H :=
    { frames := rfl, mod := mod, bs := fun b o e => of_hidT e, bsz := Nat.le_of_eq (hidT_size _ _), funs := trivial, frf := (fun b hb => absurd hb (by simp [frs])), hok := laid, bare := .of_eq hg }
  refine codeAny_mono (run _ H mod seq env0) fun r s' h => ?_
  match r, h with
  | .error e, h => exact h.elim
  | .ok .next, h => exact False.elim h
  | .ok .brk, h => exact False.elim h
  | .ok .cont, h => exact False.elim h
  | .ok (.ret u), h =>
    obtain ⟨v, H', os, bare, un, laid', rv, q⟩ := h
    have q : v = .bl true := q
    subst q
    have rv : u = .bool true := rv
    subst rv
    refine ⟨rfl, OldK.of_keep fun b o e => ?_, os, bare⟩
    cases q : H b with
    | none => exact un.keep b o e q (fun z => by cases z) (by simp)
    | some v =>
      obtain ⟨ob, xs, rfl⟩ := frozen b v q
      have e1 := (laid b _ q).1
      have e2 := (laid' b _ (un.frzs b ob _ q)).1
      rw [e] at e1
      cases e1
      exact e2

mutual
def relD (K : PySem.W.Frag) : D → Value → Bool
  | .non, u => (match u with | .none => true | _ => false)
  | .bl b, u => (match u with | .bool c => b == c | _ => false)
  | .int i, u => (match u with | .int j _ => decide (i = j) | _ => false)
  | .str x, u => (match u with | .str y _ => decide (x = y) | _ => false)
  | .tup ds, u => (match u with
    | .ref a => (match K.lookup a with
      | some ⟨.type c, dd, .seq its _, _⟩ => decide (c = "tuple") && dd.isNone && (decide (its.size ≤ sizeLine) && relDs K ds its.toList)
      | _ => false)
    | _ => false)
  | .lst _, _ => false
  | .dct _, _ => false
  | .fn f, u => (match PySem.W.nsIn K mainGlobals f with
    | some (some (.ref a)) => (match u with | .ref b => decide (a = b) | _ => false)
    | _ => false)
  | .scr _, _ => false
  | .ref _, _ => false
def relDs (K : PySem.W.Frag) : List D → List Value → Bool
  | [], us => (match us with | [] => true | _ => false)
  | d :: ds, us => (match us with | u :: us => relD K d u && relDs K ds us | [] => false)
end
section
variable {K : PySem.W.Frag} {G : Hp} {ρ : List Addr}
mutual
theorem relD_ok : ∀ (d : D) (u : Value), relD K d u = true → ∃ v, RelV v u ∧ RepV K G ρ v d
  | .non, u, h => by
    simp only [relD] at h
    split at h
    · exact ⟨.non, rfl, .non⟩
    · cases h
  | .bl b, u, h => by
    simp only [relD] at h
    split at h
    · rw [beq_iff_eq] at h; subst h; exact ⟨.bl b, rfl, .bl b⟩
    · cases h
  | .int i, u, h => by
    simp only [relD] at h
    split at h
    · rename_i t; rw [decide_eq_true_eq] at h; subst h; exact ⟨.int i, ⟨t, rfl⟩, .int i⟩
    · cases h
  | .str x, u, h => by
    simp only [relD] at h
    split at h
    · rename_i t; rw [decide_eq_true_eq] at h; subst h; exact ⟨.str x, ⟨t, rfl⟩, .str x⟩
    · cases h
  | .tup ds, u, h => by
    simp only [relD] at h
    split at h
    · rename_i a
      split at h
      · rename_i c od its n osl q
        simp only [Bool.and_eq_true, decide_eq_true_eq] at h
        obtain ⟨⟨h1, hd⟩, h2, h3⟩ := h
        obtain ⟨vs, rv, rp⟩ := relDs_ok ds its.toList h3
        exact ⟨.ref a, rfl, .tup (.inr ⟨_, its, n, q, congrArg Value.type h1, Option.isNone_iff_eq_none.mp hd, rfl, h2, rv⟩) rp⟩
      · cases h
    · cases h
  | .lst _, u, h => by simp [relD] at h
  | .dct _, u, h => by simp [relD] at h
  | .fn f, u, h => by
    simp only [relD] at h
    split at h
    · rename_i a e
      split at h
      · rename_i b
        rw [decide_eq_true_eq] at h
        subst h
        exact ⟨.ref a, rfl, .fn e⟩
      · cases h
    · cases h
  | .scr _, u, h => by simp [relD] at h
  | .ref _, u, h => by simp [relD] at h
theorem relDs_ok : ∀ (ds : List D) (us : List Value), relDs K ds us = true → ∃ vs, Vals vs us ∧ RepL K G ρ vs ds
  | [], us, h => by
    simp only [relDs] at h
    split at h
    · exact ⟨[], .nil, .nil⟩
    · cases h
  | d :: ds, us, h => by
    simp only [relDs] at h
    split at h
    · rename_i u us
      simp only [Bool.and_eq_true] at h
      obtain ⟨v, r1, p1⟩ := relD_ok d u h.1
      obtain ⟨vs, r2, p2⟩ := relDs_ok ds us h.2
      exact ⟨v :: vs, .cons r1 r2, .cons p1 p2⟩
    · cases h
end
end
def gloB (K : PySem.W.Frag) (p : Str × D) : Bool := match PySem.W.nsIn K mainGlobals p.1 with
  | some (some u) => relD K p.2 u
  | _ => false
theorem gloB_ok {K : PySem.W.Frag} {h : Heap} {mg : Str → Option Value} (X : K.In h) (G : h.Ns mainGlobals mg) {x : Str} {d : D} (c : gloB K (x, d) = true) : ∃ u v, mg x = some u ∧ RelV v u ∧ RepV K (fun _ => none) [] v d := by
  unfold gloB at c
  cases e : PySem.W.nsIn K mainGlobals x with
  | none => simp only [e] at c; cases c
  | some o =>
    cases o with
    | none => simp only [e] at c; cases c
    | some u =>
      simp only [e] at c
      obtain ⟨v, r, p⟩ := relD_ok d u c
      exact ⟨u, v, PySem.W.mg_of X G e, r, p⟩

def obG (n : Nat) (gs : List (Str × D)) (fa : List He.Fa) (fn : List He.DefD) (g : Addr → Option Obj) : Bool × He.AlD :=
  (gs.all (gloB (He.frG g (He.asD g n))), He.obsD fa fn (He.frG g (He.asD g n)))
def hookV (n : Nat) (gs : List (Str × D)) (fa : List He.Fa) (fn : List He.DefD) : PySem.W.Hook where
  α := Bool × He.AlD
  obs := fun s => obG n gs fa fn s.heap.get?
  val := fun _ => (true, He.valD fn)
  says := fun _ h => ∃ K : PySem.W.Frag, K.In h ∧ gs.all (gloB K) = true ∧ He.SaysD fa fn K
  of := fun _ _ e => ⟨_, He.frG_in, (Prod.mk.inj e).1, (Prod.mk.inj e).2⟩
  keeps := fun _ _ _ ⟨K, hK, c⟩ k => ⟨K, PySem.W.Frag.In.keeps hK k, c⟩
theorem obG_eq {n : Nat} {gs : List (Str × D)} {fa : List He.Fa} {fn : List He.DefD} {g : Addr → Option Obj} {s : Shared} (h : ∀ a, g a = s.heap.get? a) : obG n gs fa fn g = (hookV n gs fa fn).obs s := by
  have e : g = s.heap.get? := funext h
  rw [e]
  rfl

structure DefS where
  name : Str
  st : Stmt
  N : List Str
  fn : Fn
def DefS.d (s : DefS) : He.DefD := ⟨(s.name, none), s.name, s.name, defArgs s.st, defBody s.st, defScope s.st, [], []⟩
def DefS.ps (s : DefS) : List Str := s.N.take s.fn.ar
def scopeB (N ps : List Str) (sc : Scope) : Bool := (sc.kind == .function) && (sc.isCoroutine == false) && (sc.isGenerator == false) && decide N.Nodup && decide (N.take ps.length = ps) && (ps.all fun x => sc.names.lookup x == some .local || sc.names.lookup x == some .cell) && (sc.names.all fun y => y.2 != .free)
theorem scopeB_ok {N ps : List Str} {sc : Scope} (h : scopeB N ps sc = true) : FnScope N ps sc := by
  simp only [scopeB, Bool.and_eq_true, List.all_eq_true, decide_eq_true_eq] at h
  obtain ⟨⟨⟨⟨⟨⟨h1, h2⟩, h3⟩, h4⟩, h5⟩, h6⟩, h7⟩ := h
  refine ⟨by simpa using h1, by simpa using h2, by simpa using h3, h4, h5, fun x hx => ?_, fun y hy => ?_⟩
  · have := h6 x hx
    simp only [Bool.or_eq_true, beq_iff_eq] at this
    exact this
  · have := h7 y hy
    simpa using this
def DefS.ok (NB : List String) (s : DefS) : Bool := mSs (frNm s.name) NB s.N (defScope s.st) s.fn.body (defBody s.st) && scopeB s.N s.ps (defScope s.st) && decide (s.fn.n = s.N.length) && decide (s.fn.ar ≤ s.N.length)
def DefS.bindOk (s : DefS) : Prop := ∀ (kV doc pm : Value) (an : Option Addr) (cdv ct : Value) (us : List Value), us.length = s.ps.length → bindArgs (PySem.W.fnOf s.name s.name (defArgs s.st) (defBody s.st) (defScope s.st) .none kV doc pm an cdv ct) ⟨us, []⟩ = pure (s.ps.zip us)
def faOf (defs : List DefS) (NB : List String) : List He.Fa := defs.map (fun s => .glo s.name) ++ NB.map fun n => .free (Str.ofString n)
def tabOf (defs : List DefS) : Tab := fun f => (defs.find? fun s => decide (s.name = f)).map (·.fn)
def gloOf (gs : List (Str × D)) : Glob := fun x => (gs.find? fun p => decide (p.1 = x)).map (·.2)
section
variable {K : PySem.W.Frag} {h : Heap} {mg : Str → Option Value} {gs : List (Str × D)} {defs : List DefS} {NB : List String}
theorem says_fact {fa : List He.Fa} {fn : List He.DefD} (c : He.SaysD fa fn K) {f : He.Fa} (hf : f ∈ fa) : f.ok K = true := by
  obtain ⟨i, e⟩ := List.getElem?_of_mem hf
  exact c.fact i e
theorem mod_ok (X : K.In h) (G : h.Ns mainGlobals mg) (hg : gs.all (gloB K) = true) (c : He.SaysD (faOf defs NB) (defs.map DefS.d) K) : ModOk K mg (gloOf gs) NB := by
  refine ⟨fun x d e => ?_, fun f hf => ?_, fun f a e => PySem.W.mg_of X G e⟩
  · unfold gloOf at e
    obtain ⟨⟨y, d'⟩, e1, rfl⟩ := Option.map_eq_some_iff.mp e
    have hy : y = x := by simpa using List.find?_some e1
    subst hy
    exact gloB_ok X G (List.all_eq_true.mp hg _ (List.mem_of_find?_eq_some e1))
  · exact He.free_ok X G (says_fact c (List.mem_append_right _ (List.mem_map_of_mem hf)))
theorem def_ok (X : K.In h) (G : h.Ns mainGlobals mg) (c : He.SaysD (faOf defs NB) (defs.map DefS.d) K) (hok : (defs.all (DefS.ok NB)) = true) (hb : ∀ s ∈ defs, s.bindOk) {s : DefS} (hs : s ∈ defs) :
    ∃ fdat, mg s.name = some (.ref (He.ga K s.name)) ∧ FunD K s.name s.name (defArgs s.st) (defBody s.st) (defScope s.st) [] [] (He.ga K s.name) fdat ∧ DefOk K mg NB s.name s.fn := by
  obtain ⟨i, e⟩ := List.getElem?_of_mem hs
  obtain ⟨fdat, F⟩ := c.def_ i (d := s.d) (by rw [List.getElem?_map, e]; rfl)
  have F : FunD K s.name s.name (defArgs s.st) (defBody s.st) (defScope s.st) [] [] (He.ga K s.name) fdat := F
  have m := He.glo_ok X G (says_fact c (List.mem_append_left _ (List.mem_map_of_mem (f := fun s : DefS => He.Fa.glo s.name) hs)))
  have ok := List.all_eq_true.mp hok s hs
  simp only [DefS.ok, Bool.and_eq_true, decide_eq_true_eq] at ok
  obtain ⟨⟨⟨o1, o2⟩, o3⟩, o4⟩ := ok
  exact ⟨fdat, m, F, ⟨_, fdat, _, _, _, s.N, m, F, F.bindsN (hb s hs), scopeB_ok o2, o1, o3, o4⟩⟩
theorem tab_mem {f : Str} {fd : Fn} (e : tabOf defs f = some fd) : ∃ s ∈ defs, s.name = f ∧ s.fn = fd := by
  unfold tabOf at e
  obtain ⟨s, e1, rfl⟩ := Option.map_eq_some_iff.mp e
  exact ⟨s, List.mem_of_find?_eq_some e1, by simpa using List.find?_some e1, rfl⟩
end
theorem walk_av {l : PySem.W.OpenLaw} {n m k : Nat} {q : Program} {loose : List Str} {XP : (Str → Option Value) → Heap → Prop} {d : DefRec} {x : Str} {gs : List (Str × D)} {defs : List DefS} {NB : List String}
    (hn : l.most = some n) (hn2 : n ≤ sizeLine) (hdf : d.params.defaults = []) (hr : Room k callerA) (hd : d.name = "law") (hok : (defs.all (DefS.ok NB)) = true) (hb : ∀ s ∈ defs, s.bindOk) {s : DefS} (hs : s ∈ defs) (hsn : s.name = "law") (hsf : tabOf defs "law" = some s.fn) (hps : s.ps = [x])
    (main : ∀ ns : List Int, ns.length ≤ n → ∃ h', callN (gloOf gs) (tabOf defs) k "law" [.scr ns] [] = .ok (.bl true, h')) :
    PySem.W.WalkO q loose XP (hookV m gs (faOf defs NB) (defs.map DefS.d)).says l.row.toRowW d [] (fun f vs => PySem.call f vs) := by
  refine Att.attach_call hn hdf fun w s₀ s₁ mg mb fa o pm cd doc a vs ns G Y ho hdd hcd hmg hobj hints hlen hg => ?_
  obtain ⟨K, KX, c1, c2⟩ := Y
  have Ns := G.T.g
  have M := mod_ok KX Ns c1 c2
  have hD : ∀ f fd, tabOf defs f = some fd → DefOk K mg NB f fd := fun f fd e => by
    obtain ⟨s, hs, rfl, rfl⟩ := tab_mem e
    obtain ⟨_, _, _, z⟩ := def_ok KX Ns c2 hok hb hs
    exact z
  refine law_run KX Ns G.T.b G.T.builtins G.T.nolimit hg hobj hints (Nat.le_trans hlen hn2) fun base H md seq e0 => ?_
  obtain ⟨fa', fdat, ps, C⟩ := calls_ok (P := l.prog) (w := w) (base := base) (T := tabOf defs) M hD k "law" s.fn hsf
  have hfa : fa' = fa := by
    have := C.m
    rw [hd] at hmg
    rw [hmg] at this
    cases this
    rfl
  subst hfa
  obtain ⟨h', e⟩ := main ns hlen
  have lp := C.ar _ _ _ e
  have kin : K.In s₁.heap := KX
  have hbt := C.bd s₁ [.ref a] kin (by simpa using lp)
  rw [List.append_nil] at hbt
  have S : SR K (guardH H H []) H H [] [] [] [] := by
    have no : ∀ b, guardH H H [] b = none := fun b => by
      unfold guardH
      split
      · rfl
      · rename_i q
        cases z : H b with
        | none => rfl
        | some u => exact absurd (.inr (by rw [z]; rfl)) q
    exact ⟨Same.refl _, fun b o z => (by rw [no] at z; cases z), rfl, fun i d z => (by simp at z), fun i d z => (by simp at z), fun i j a ds es z => (by simp at z), rfl, fun b o z => (by rw [no] at z; cases z), .nil, fun n b o z => (by simp at z)⟩
  exact C.run callerA [] s₁ H ⟨[.ref a], []⟩ [.ref a] [.ref a] hr rfl e0 hbt (.cons rfl .nil) H [] [] [.scr ns] (.bl true) h' S (.cons (.scr seq) .nil) e _ fun G' ρ' H' v _ _ _ r => by
    have r2 : RepV K G' ρ' v (.bl true) := by
      revert r
      generalize frNm _ = b
      cases b <;> exact id
    cases r2; rfl
end EV
set_option maxRecDepth 100000
namespace EV
open PySem L2
def W {α : Type} (x : R α) (Q : α → Prop) : Prop := ∃ a, x = .ok a ∧ Q a
class Kont (α : Type) where
  q : α → Prop
def Wk {α : Type} (x : R α) [K : Kont α] : Prop := ∃ a, x = .ok a ∧ K.q a
@[simp ↓] theorem W_k {α : Type} (x : R α) (Q : α → Prop) : W x Q = @Wk α x ⟨Q⟩ := rfl
@[simp] theorem Wk_ok {α : Type} (a : α) (q : α → Prop) : @Wk α (.ok a) ⟨q⟩ = q a := propext ⟨fun ⟨_, e, h⟩ => by cases e; exact h, fun h => ⟨a, rfl, h⟩⟩
@[simp ↓] theorem Wk_bind {α β : Type} (x : R α) (f : α → R β) {K : Kont β} : @Wk β (x >>= f) K = @Wk α x ⟨fun a => @Wk β (f a) K⟩ := by
  unfold Wk
  refine propext ⟨fun ⟨b, e, q⟩ => ?_, fun ⟨a, e, b, e2, q⟩ => ⟨b, by rw [e]; exact e2, q⟩⟩
  obtain ⟨a, e1, e2⟩ := R.bind_inv e
  exact ⟨a, e1, b, e2, q⟩
theorem W_ok {α : Type} (a : α) (Q : α → Prop) : W (.ok a) Q = Q a := Wk_ok a Q
theorem W_bind {α β : Type} (x : R α) (f : α → R β) (Q : β → Prop) : W (x >>= f) Q = W x fun a => W (f a) Q := Wk_bind x f (K := ⟨Q⟩)
theorem W.mono {α : Type} {x : R α} {P Q : α → Prop} (h : W x P) (q : ∀ a, P a → Q a) : W x Q := let ⟨a, e, p⟩ := h; ⟨a, e, q a p⟩
theorem W.of_eq {α : Type} {x : R α} {a : α} {Q : α → Prop} (e : x = .ok a) (q : Q a) : W x Q := ⟨a, e, q⟩
theorem Wk.of {α : Type} {x : R α} {P Q : α → Prop} (h : W x P) (q : ∀ a, P a → Q a) : @Wk α x ⟨Q⟩ := h.mono q
theorem Wk.w {α : Type} {x : R α} {Q : α → Prop} (h : W x Q) : @Wk α x ⟨Q⟩ := h
@[simp] theorem ite_bt {α : Type} (a b : α) : (if (true : Bool) = true then a else b) = a := rfl
@[simp] theorem ite_bf {α : Type} (a b : α) : (if (false : Bool) = true then a else b) = b := rfl

section
variable (G : Glob) (C : Call) (σ : Env) (h : AH)
theorem ev_non : ev G C .non σ h = .ok (.non, σ, h) := rfl
@[simp ↓] theorem ev_non_w {K} : @Wk _ (ev G C .non σ h) K = @Wk _ (.ok (.non, σ, h)) K := by rw [ev_non]
theorem ev_bl (b) : ev G C (.bl b) σ h = .ok (.bl b, σ, h) := rfl
@[simp ↓] theorem ev_bl_w (b) {K} : @Wk _ (ev G C (.bl b) σ h) K = @Wk _ (.ok (.bl b, σ, h)) K := by rw [ev_bl]
theorem ev_int (b) : ev G C (.int b) σ h = .ok (.int b, σ, h) := rfl
@[simp ↓] theorem ev_int_w (b) {K} : @Wk _ (ev G C (.int b) σ h) K = @Wk _ (.ok (.int b, σ, h)) K := by rw [ev_int]
theorem ev_str (b) : ev G C (.str b) σ h = .ok (.str b, σ, h) := rfl
@[simp ↓] theorem ev_str_w (b) {K} : @Wk _ (ev G C (.str b) σ h) K = @Wk _ (.ok (.str b, σ, h)) K := by rw [ev_str]
theorem ev_var (i) : ev G C (.var i) σ h = (getS σ i >>= fun d => .ok (d, frzS σ i, h)) := rfl
@[simp ↓] theorem ev_var_w (i) {K} : @Wk _ (ev G C (.var i) σ h) K = @Wk _ ((getS σ i >>= fun d => .ok (d, frzS σ i, h))) K := by rw [ev_var]
theorem ev_ixb (i b) : ev G C (.ixb i b) σ h = (getL σ i >>= fun _ => ev G C b σ h >>= fun z => getL z.2.1 i >>= fun xs => ixD z.2.2 (.lst xs) z.1 >>= fun d => .ok (d, z.2.1, z.2.2)) := rfl
@[simp ↓] theorem ev_ixb_w (i b) {K} : @Wk _ (ev G C (.ixb i b) σ h) K = @Wk _ ((getL σ i >>= fun _ => ev G C b σ h >>= fun z => getL z.2.1 i >>= fun xs => ixD z.2.2 (.lst xs) z.1 >>= fun d => .ok (d, z.2.1, z.2.2))) K := by rw [ev_ixb]
theorem ev_slb (i lo hi) : ev G C (.slb i lo hi) σ h = (getL σ i >>= fun _ => evo G C lo σ h >>= fun z => evo G C hi z.2.1 z.2.2 >>= fun y => getL y.2.1 i >>= fun xs => slD (.lst xs) z.1 y.1 >>= fun d => .ok (d, y.2.1, y.2.2)) := rfl
@[simp ↓] theorem ev_slb_w (i lo hi) {K} : @Wk _ (ev G C (.slb i lo hi) σ h) K = @Wk _ ((getL σ i >>= fun _ => evo G C lo σ h >>= fun z => evo G C hi z.2.1 z.2.2 >>= fun y => getL y.2.1 i >>= fun xs => slD (.lst xs) z.1 y.1 >>= fun d => .ok (d, y.2.1, y.2.2))) K := by rw [ev_slb]
theorem ev_lenb (i) : ev G C (.lenb i) σ h = (getL σ i >>= fun xs => .ok (.int xs.length, σ, h)) := rfl
@[simp ↓] theorem ev_lenb_w (i) {K} : @Wk _ (ev G C (.lenb i) σ h) K = @Wk _ ((getL σ i >>= fun xs => .ok (.int xs.length, σ, h))) K := by rw [ev_lenb]
theorem ev_inb (neg a i) : ev G C (.inb neg a i) σ h = (ev G C a σ h >>= fun z => getL z.2.1 i >>= fun xs => anyD z.1 xs >>= fun r => .ok (.bl (r != neg), z.2.1, z.2.2)) := rfl
@[simp ↓] theorem ev_inb_w (neg a i) {K} : @Wk _ (ev G C (.inb neg a i) σ h) K = @Wk _ ((ev G C a σ h >>= fun z => getL z.2.1 i >>= fun xs => anyD z.1 xs >>= fun r => .ok (.bl (r != neg), z.2.1, z.2.2))) K := by rw [ev_inb]
theorem ev_glob (x) : ev G C (.glob x) σ h = (ofO (G x) >>= fun d => .ok (d, σ, h)) := rfl
@[simp ↓] theorem ev_glob_w (x) {K} : @Wk _ (ev G C (.glob x) σ h) K = @Wk _ ((ofO (G x) >>= fun d => .ok (d, σ, h))) K := by rw [ev_glob]
theorem ev_tup (es) : ev G C (.tup es) σ h = (evs G C es σ h >>= fun z => if lenOk z.1.length then .ok (.tup z.1, z.2.1, z.2.2) else .bad) := rfl
@[simp ↓] theorem ev_tup_w (es) {K} : @Wk _ (ev G C (.tup es) σ h) K = @Wk _ ((evs G C es σ h >>= fun z => if lenOk z.1.length then .ok (.tup z.1, z.2.1, z.2.2) else .bad)) K := by rw [ev_tup]
theorem ev_lst (es) : ev G C (.lst es) σ h = (evs G C es σ h >>= fun z => if lenOk z.1.length then .ok (.lst z.1, z.2.1, z.2.2) else .bad) := rfl
@[simp ↓] theorem ev_lst_w (es) {K} : @Wk _ (ev G C (.lst es) σ h) K = @Wk _ ((evs G C es σ h >>= fun z => if lenOk z.1.length then .ok (.lst z.1, z.2.1, z.2.2) else .bad)) K := by rw [ev_lst]
theorem ev_bin (op a b) : ev G C (.bin op a b) σ h = (ev G C a σ h >>= fun z => ev G C b z.2.1 z.2.2 >>= fun y => binD op z.1 y.1 >>= fun d => .ok (d, y.2.1, y.2.2)) := rfl
@[simp ↓] theorem ev_bin_w (op a b) {K} : @Wk _ (ev G C (.bin op a b) σ h) K = @Wk _ ((ev G C a σ h >>= fun z => ev G C b z.2.1 z.2.2 >>= fun y => binD op z.1 y.1 >>= fun d => .ok (d, y.2.1, y.2.2))) K := by rw [ev_bin]
theorem ev_neg (a) : ev G C (.neg a) σ h = (ev G C a σ h >>= fun z => intD z.1 >>= fun i => .ok (.int (-i), z.2.1, z.2.2)) := rfl
@[simp ↓] theorem ev_neg_w (a) {K} : @Wk _ (ev G C (.neg a) σ h) K = @Wk _ ((ev G C a σ h >>= fun z => intD z.1 >>= fun i => .ok (.int (-i), z.2.1, z.2.2))) K := by rw [ev_neg]
theorem ev_not (a) : ev G C (.not a) σ h = (ev G C a σ h >>= fun z => truthy z.2.2 z.1 >>= fun b => .ok (.bl !b, z.2.1, z.2.2)) := rfl
@[simp ↓] theorem ev_not_w (a) {K} : @Wk _ (ev G C (.not a) σ h) K = @Wk _ ((ev G C a σ h >>= fun z => truthy z.2.2 z.1 >>= fun b => .ok (.bl !b, z.2.1, z.2.2))) K := by rw [ev_not]
theorem ev_cmp (op a b) : ev G C (.cmp op a b) σ h = (ev G C a σ h >>= fun z => ev G C b z.2.1 z.2.2 >>= fun y => cmpD y.2.2 op z.1 y.1 >>= fun r => .ok (.bl r, y.2.1, y.2.2)) := rfl
@[simp ↓] theorem ev_cmp_w (op a b) {K} : @Wk _ (ev G C (.cmp op a b) σ h) K = @Wk _ ((ev G C a σ h >>= fun z => ev G C b z.2.1 z.2.2 >>= fun y => cmpD y.2.2 op z.1 y.1 >>= fun r => .ok (.bl r, y.2.1, y.2.2))) K := by rw [ev_cmp]
theorem ev_chain (o1 o2 a b c) : ev G C (.chain o1 o2 a b c) σ h = (ev G C a σ h >>= fun z => ev G C b z.2.1 z.2.2 >>= fun y => cmpD y.2.2 o1 z.1 y.1 >>= fun r =>
    if r then (ev G C c y.2.1 y.2.2 >>= fun u => cmpD u.2.2 o2 y.1 u.1 >>= fun r => .ok (.bl r, u.2.1, u.2.2)) else .ok (.bl false, y.2.1, y.2.2)) := rfl
@[simp ↓] theorem ev_chain_w (o1 o2 a b c) {K} : @Wk _ (ev G C (.chain o1 o2 a b c) σ h) K = @Wk _ ((ev G C a σ h >>= fun z => ev G C b z.2.1 z.2.2 >>= fun y => cmpD y.2.2 o1 z.1 y.1 >>= fun r =>
    if r then (ev G C c y.2.1 y.2.2 >>= fun u => cmpD u.2.2 o2 y.1 u.1 >>= fun r => .ok (.bl r, u.2.1, u.2.2)) else .ok (.bl false, y.2.1, y.2.2))) K := by rw [ev_chain]
theorem ev_and (es) : ev G C (.and es) σ h = evand G C es σ h := rfl
@[simp ↓] theorem ev_and_w (es) {K} : @Wk _ (ev G C (.and es) σ h) K = @Wk _ (evand G C es σ h) K := by rw [ev_and]
theorem ev_or (es) : ev G C (.or es) σ h = evor G C es σ h := rfl
@[simp ↓] theorem ev_or_w (es) {K} : @Wk _ (ev G C (.or es) σ h) K = @Wk _ (evor G C es σ h) K := by rw [ev_or]
theorem ev_ite (c a b) : ev G C (.ite c a b) σ h = (evt G C c σ h >>= fun z => if z.1 then ev G C a z.2.1 z.2.2 else ev G C b z.2.1 z.2.2) := rfl
@[simp ↓] theorem ev_ite_w (c a b) {K} : @Wk _ (ev G C (.ite c a b) σ h) K = @Wk _ ((evt G C c σ h >>= fun z => if z.1 then ev G C a z.2.1 z.2.2 else ev G C b z.2.1 z.2.2)) K := by rw [ev_ite]
theorem ev_call (f es) : ev G C (.call f es) σ h = (evs G C es σ h >>= fun z => C f z.1 z.2.2 >>= fun y => .ok (y.1, z.2.1, y.2)) := rfl
@[simp ↓] theorem ev_call_w (f es) {K} : @Wk _ (ev G C (.call f es) σ h) K = @Wk _ ((evs G C es σ h >>= fun z => C f z.1 z.2.2 >>= fun y => .ok (y.1, z.2.1, y.2))) K := by rw [ev_call]
theorem ev_callv (i es) : ev G C (.callv i es) σ h = (fnS σ i >>= fun f => evs G C es σ h >>= fun z => C f z.1 z.2.2 >>= fun y => .ok (y.1, z.2.1, y.2)) := rfl
@[simp ↓] theorem ev_callv_w (i es) {K} : @Wk _ (ev G C (.callv i es) σ h) K = @Wk _ ((fnS σ i >>= fun f => evs G C es σ h >>= fun z => C f z.1 z.2.2 >>= fun y => .ok (y.1, z.2.1, y.2))) K := by rw [ev_callv]
theorem ev_lvals (e) : ev G C (.lvals e) σ h = (ev G C e σ h >>= fun z => valsD z.1 >>= fun xs => .ok (.lst xs, z.2.1, z.2.2)) := rfl
@[simp ↓] theorem ev_lvals_w (e) {K} : @Wk _ (ev G C (.lvals e) σ h) K = @Wk _ ((ev G C e σ h >>= fun z => valsD z.1 >>= fun xs => .ok (D.lst xs, z.2.1, z.2.2))) K := by rw [ev_lvals]
theorem evi_keys (e) : evi G C (.keys e) σ h = (ev G C e σ h >>= fun z => walkH (fun kv => keyV kv.1) z.2.2 z.1 >>= fun y => .ok (y.1, z.2.1, y.2)) := rfl
@[simp ↓] theorem evi_keys_w (e) {K} : @Wk _ (evi G C (.keys e) σ h) K = @Wk _ ((ev G C e σ h >>= fun z => walkH (fun kv => keyV kv.1) z.2.2 z.1 >>= fun y => .ok (y.1, z.2.1, y.2))) K := by rw [evi_keys]
theorem evi_vals (e) : evi G C (.vals e) σ h = (ev G C e σ h >>= fun z => walkH (·.2) z.2.2 z.1 >>= fun y => .ok (y.1, z.2.1, y.2)) := rfl
@[simp ↓] theorem evi_vals_w (e) {K} : @Wk _ (evi G C (.vals e) σ h) K = @Wk _ ((ev G C e σ h >>= fun z => walkH (·.2) z.2.2 z.1 >>= fun y => .ok (y.1, z.2.1, y.2))) K := by rw [evi_vals]
theorem evi_items (e) : evi G C (.items e) σ h = (ev G C e σ h >>= fun z => walkH entryD z.2.2 z.1 >>= fun y => .ok (y.1, z.2.1, y.2)) := rfl
@[simp ↓] theorem evi_items_w (e) {K} : @Wk _ (evi G C (.items e) σ h) K = @Wk _ ((ev G C e σ h >>= fun z => walkH entryD z.2.2 z.1 >>= fun y => .ok (y.1, z.2.1, y.2))) K := by rw [evi_items]
theorem ex_appx (o e) : ex G C (.appx o e) σ h = (ev G C o σ h >>= fun u => refL u.2.2 u.1 >>= fun _ => ev G C e u.2.1 u.2.2 >>= fun z => addR z.2.2 u.1 z.1 >>= fun y => .ok (.nx z.2.1 y)) := rfl
@[simp ↓] theorem ex_appx_w (o e) {K} : @Wk _ (ex G C (.appx o e) σ h) K = @Wk _ ((ev G C o σ h >>= fun u => refL u.2.2 u.1 >>= fun _ => ev G C e u.2.1 u.2.2 >>= fun z => addR z.2.2 u.1 z.1 >>= fun y => .ok (Out.nx z.2.1 y))) K := by rw [ex_appx]
theorem ev_blt (f es) : ev G C (.blt f es) σ h = (evs G C es σ h >>= fun z => bltD z.2.2 f z.1 >>= fun d => .ok (d, z.2.1, z.2.2)) := rfl
@[simp ↓] theorem ev_blt_w (f es) {K} : @Wk _ (ev G C (.blt f es) σ h) K = @Wk _ ((evs G C es σ h >>= fun z => bltD z.2.2 f z.1 >>= fun d => .ok (d, z.2.1, z.2.2))) K := by rw [ev_blt]
theorem ev_isi (a tys) : ev G C (.isi a tys) σ h = (ev G C a σ h >>= fun z => isTys z.2.2 z.1 tys >>= fun b => .ok (.bl b, z.2.1, z.2.2)) := rfl
@[simp ↓] theorem ev_isi_w (a tys) {K} : @Wk _ (ev G C (.isi a tys) σ h) K = @Wk _ ((ev G C a σ h >>= fun z => isTys z.2.2 z.1 tys >>= fun b => .ok (.bl b, z.2.1, z.2.2))) K := by rw [ev_isi]
theorem ev_pop0 (i) : ev G C (.pop0 i) σ h = pop0D σ h i := rfl
@[simp ↓] theorem ev_pop0_w (i) {K} : @Wk _ (ev G C (.pop0 i) σ h) K = @Wk _ (pop0D σ h i) K := by rw [ev_pop0]
theorem ev_popA (i e) : ev G C (.popA i e) σ h = (getO σ i >>= fun _ => ev G C e σ h >>= fun z => intD z.1 >>= fun j => getO z.2.1 i >>= fun xs => popAD z.2.1 i xs j >>= fun y => .ok (y.1, y.2, z.2.2)) := rfl
@[simp ↓] theorem ev_popA_w (i e) {K} : @Wk _ (ev G C (.popA i e) σ h) K = @Wk _ ((getO σ i >>= fun _ => ev G C e σ h >>= fun z => intD z.1 >>= fun j => getO z.2.1 i >>= fun xs => popAD z.2.1 i xs j >>= fun y => .ok (y.1, y.2, z.2.2))) K := by rw [ev_popA]
theorem ev_ix (a b) : ev G C (.ix a b) σ h = (ev G C a σ h >>= fun z => ev G C b z.2.1 z.2.2 >>= fun y => ixD y.2.2 z.1 y.1 >>= fun d => .ok (d, y.2.1, y.2.2)) := rfl
@[simp ↓] theorem ev_ix_w (a b) {K} : @Wk _ (ev G C (.ix a b) σ h) K = @Wk _ ((ev G C a σ h >>= fun z => ev G C b z.2.1 z.2.2 >>= fun y => ixD y.2.2 z.1 y.1 >>= fun d => .ok (d, y.2.1, y.2.2))) K := by rw [ev_ix]
theorem ev_sl (a lo hi) : ev G C (.sl a lo hi) σ h = (ev G C a σ h >>= fun z => evo G C lo z.2.1 z.2.2 >>= fun y => evo G C hi y.2.1 y.2.2 >>= fun u => slD z.1 y.1 u.1 >>= fun d => .ok (d, u.2.1, u.2.2)) := rfl
@[simp ↓] theorem ev_sl_w (a lo hi) {K} : @Wk _ (ev G C (.sl a lo hi) σ h) K = @Wk _ ((ev G C a σ h >>= fun z => evo G C lo z.2.1 z.2.2 >>= fun y => evo G C hi y.2.1 y.2.2 >>= fun u => slD z.1 y.1 u.1 >>= fun d => .ok (d, u.2.1, u.2.2))) K := by rw [ev_sl]
theorem ev_rev (a) : ev G C (.rev a) σ h = (ev G C a σ h >>= fun z => revD z.1 >>= fun d => .ok (d, z.2.1, z.2.2)) := rfl
@[simp ↓] theorem ev_rev_w (a) {K} : @Wk _ (ev G C (.rev a) σ h) K = @Wk _ ((ev G C a σ h >>= fun z => revD z.1 >>= fun d => .ok (d, z.2.1, z.2.2))) K := by rw [ev_rev]
def turnC (elt : E) (tg : Tg) (ifs : Ts) (own : List Nat) : D → Env → AH → R (Option D × Env × AH) := fun x σ1 h => putTg tg x σ1 >>= fun σ2 => evts G C ifs σ2 h >>= fun z =>
  if z.1 then (ev G C elt z.2.1 z.2.2 >>= fun y => .ok (some y.1, killS y.2.1 own, y.2.2)) else .ok (none, killS z.2.1 own, z.2.2)
theorem ev_comp (elt tg it ifs own) : ev G C (.comp elt tg it ifs own) σ h = (evi G C it σ h >>= fun z => compL (turnC G C elt tg ifs own) z.1 [] (killS z.2.1 own) z.2.2 >>= fun y => .ok (.lst y.1, backS z.2.1 y.2.1 own, y.2.2)) := rfl
@[simp ↓] theorem ev_comp_w (elt tg it ifs own) {K} : @Wk _ (ev G C (.comp elt tg it ifs own) σ h) K = @Wk _ ((evi G C it σ h >>= fun z => compL (turnC G C elt tg ifs own) z.1 [] (killS z.2.1 own) z.2.2 >>= fun y => .ok (.lst y.1, backS z.2.1 y.2.1 own, y.2.2))) K := by rw [ev_comp]
def turnO (elt : E) (tg : Tg) (ifs : Ts) (tg1 : Tg) (it1 : I) (ifs1 : Ts) (own own1 : List Nat) : D → List D → Env → AH → R (List D × Env × AH) := fun x acc σ1 h => putTg tg x σ1 >>= fun σ2 => evts G C ifs σ2 h >>= fun z =>
  if z.1 then (evi G C it1 z.2.1 z.2.2 >>= fun y => compL (turnC G C elt tg1 ifs1 own1) y.1 acc (killS y.2.1 own1) y.2.2 >>= fun u => .ok (u.1, killS u.2.1 own, u.2.2)) else .ok (acc, killS z.2.1 own, z.2.2)
def lenL (ds : List D) : R D := if lenOk ds.length then .ok (.lst ds) else .bad
theorem ev_comp2 (elt tg it ifs tg1 it1 ifs1 own own1) : ev G C (.comp2 elt tg it ifs tg1 it1 ifs1 own own1) σ h = (evi G C it σ h >>= fun z => compO (turnO G C elt tg ifs tg1 it1 ifs1 own own1) z.1 [] (killS z.2.1 own) z.2.2 >>= fun y => lenL y.1 >>= fun d => .ok (d, backS z.2.1 y.2.1 own, y.2.2)) := by
  show (evi G C it σ h >>= fun z => compO (turnO G C elt tg ifs tg1 it1 ifs1 own own1) z.1 [] (killS z.2.1 own) z.2.2 >>= fun y => if lenOk y.1.length then R.ok (D.lst y.1, backS z.2.1 y.2.1 own, y.2.2) else .bad) = _
  congr 1
  funext z
  congr 1
  funext y
  unfold lenL
  split <;> rfl
@[simp ↓] theorem ev_comp2_w (elt tg it ifs tg1 it1 ifs1 own own1) {K} : @Wk _ (ev G C (.comp2 elt tg it ifs tg1 it1 ifs1 own own1) σ h) K = @Wk _ ((evi G C it σ h >>= fun z => compO (turnO G C elt tg ifs tg1 it1 ifs1 own own1) z.1 [] (killS z.2.1 own) z.2.2 >>= fun y => lenL y.1 >>= fun d => .ok (d, backS z.2.1 y.2.1 own, y.2.2))) K := by rw [ev_comp2]
@[simp ↓] theorem turnO_w (elt tg ifs tg1 it1 ifs1 own own1) (x : D) (acc : List D) (σ1 : Env) {K} : @Wk _ (turnO G C elt tg ifs tg1 it1 ifs1 own own1 x acc σ1 h) K = @Wk _ (putTg tg x σ1 >>= fun σ2 => evts G C ifs σ2 h >>= fun z =>
  if z.1 then (evi G C it1 z.2.1 z.2.2 >>= fun y => compL (turnC G C elt tg1 ifs1 own1) y.1 acc (killS y.2.1 own1) y.2.2 >>= fun u => .ok (u.1, killS u.2.1 own, u.2.2)) else .ok (acc, killS z.2.1 own, z.2.2)) K := by unfold turnO; rfl
theorem ev_idxr (o a) : ev G C (.idxr o a) σ h = (ev G C o σ h >>= fun z => refL z.2.2 z.1 >>= fun _ => ev G C a z.2.1 z.2.2 >>= fun y => refL y.2.2 z.1 >>= fun xs => idxD (.lst xs) y.1 >>= fun d => .ok (d, y.2.1, y.2.2)) := rfl
@[simp ↓] theorem ev_idxr_w (o a) {K} : @Wk _ (ev G C (.idxr o a) σ h) K = @Wk _ ((ev G C o σ h >>= fun z => refL z.2.2 z.1 >>= fun _ => ev G C a z.2.1 z.2.2 >>= fun y => refL y.2.2 z.1 >>= fun xs => idxD (.lst xs) y.1 >>= fun d => .ok (d, y.2.1, y.2.2))) K := by rw [ev_idxr]
theorem ev_slr (a lo hi) : ev G C (.slr a lo hi) σ h = (ev G C a σ h >>= fun z => refL z.2.2 z.1 >>= fun _ => evo G C lo z.2.1 z.2.2 >>= fun y => evo G C hi y.2.1 y.2.2 >>= fun u => refL u.2.2 z.1 >>= fun xs => slD (.lst xs) y.1 u.1 >>= fun d => .ok (d, u.2.1, u.2.2)) := rfl
@[simp ↓] theorem ev_slr_w (a lo hi) {K} : @Wk _ (ev G C (.slr a lo hi) σ h) K = @Wk _ ((ev G C a σ h >>= fun z => refL z.2.2 z.1 >>= fun _ => evo G C lo z.2.1 z.2.2 >>= fun y => evo G C hi y.2.1 y.2.2 >>= fun u => refL u.2.2 z.1 >>= fun xs => slD (.lst xs) y.1 u.1 >>= fun d => .ok (d, u.2.1, u.2.2))) K := by rw [ev_slr]
theorem ev_upper (e) : ev G C (.upper e) σ h = (ev G C e σ h >>= fun z => upperD z.1 >>= fun d => .ok (d, z.2.1, z.2.2)) := rfl
@[simp ↓] theorem ev_upper_w (e) {K} : @Wk _ (ev G C (.upper e) σ h) K = @Wk _ ((ev G C e σ h >>= fun z => upperD z.1 >>= fun d => .ok (d, z.2.1, z.2.2))) K := by rw [ev_upper]
theorem ev_fstr (es) : ev G C (.fstr es) σ h = (evf G C es Str.empty σ h >>= fun z => .ok (.str z.1, z.2.1, z.2.2)) := rfl
@[simp ↓] theorem ev_fstr_w (es) {K} : @Wk _ (ev G C (.fstr es) σ h) K = @Wk _ ((evf G C es Str.empty σ h >>= fun z => .ok (D.str z.1, z.2.1, z.2.2))) K := by rw [ev_fstr]
theorem evf_nil (acc) : evf G C .nil acc σ h = .ok (acc, σ, h) := rfl
@[simp ↓] theorem evf_nil_w (acc) {K} : @Wk _ (evf G C .nil acc σ h) K = @Wk _ (.ok (acc, σ, h)) K := by rw [evf_nil]
def catZ (acc y : Str) : R Str := if lenOk (acc ++ y).length then .ok (acc ++ y) else .bad
theorem evf_cons (st e r acc) : evf G C (.cons st e r) acc σ h = (ev G C e σ h >>= fun z => fmtD z.1 >>= fun y => catZ acc y >>= fun a => evf G C r a z.2.1 z.2.2) := by
  show (ev G C e σ h >>= fun z => fmtD z.1 >>= fun y => if lenOk (acc ++ y).length then evf G C r (acc ++ y) z.2.1 z.2.2 else .bad) = _
  congr 1
  funext z
  congr 1
  funext y
  unfold catZ
  split <;> rfl
@[simp ↓] theorem evf_cons_w (st e r acc) {K} : @Wk _ (evf G C (.cons st e r) acc σ h) K = @Wk _ ((ev G C e σ h >>= fun z => fmtD z.1 >>= fun y => catZ acc y >>= fun a => evf G C r a z.2.1 z.2.2)) K := by rw [evf_cons]
theorem ev_lstb (i) : ev G C (.lstb i) σ h = (getL σ i >>= fun xs => .ok (.lst xs, σ, h)) := rfl
@[simp ↓] theorem ev_lstb_w (i) {K} : @Wk _ (ev G C (.lstb i) σ h) K = @Wk _ ((getL σ i >>= fun xs => .ok (.lst xs, σ, h))) K := by rw [ev_lstb]
def repbD (xs : List D) : R D := if ((D.lst xs).okq && PyData.showable (D.lst xs).py && lenOk (PyData.shown (D.lst xs).py).length) = true then R.ok (D.str (PyData.shown (D.lst xs).py)) else .bad
theorem ev_repb (i) : ev G C (.repb i) σ h = (getL σ i >>= fun xs => repbD xs >>= fun d => .ok (d, σ, h)) := by
  show (getL σ i >>= fun xs => if ((D.lst xs).okq && PyData.showable (D.lst xs).py && lenOk (PyData.shown (D.lst xs).py).length) = true then R.ok (D.str (PyData.shown (D.lst xs).py), σ, h) else .bad) = _
  congr 1
  funext xs
  unfold repbD
  split <;> rfl
@[simp ↓] theorem ev_repb_w (i) {K} : @Wk _ (ev G C (.repb i) σ h) K = @Wk _ ((getL σ i >>= fun xs => repbD xs >>= fun d => .ok (d, σ, h))) K := by rw [ev_repb]
theorem ev_dlit (kvs) : ev G C (.dlit kvs) σ h = .ok (.dct kvs, σ, h) := rfl
@[simp ↓] theorem ev_dlit_w (kvs) {K} : @Wk _ (ev G C (.dlit kvs) σ h) K = @Wk _ (R.ok (D.dct kvs, σ, h)) K := by rw [ev_dlit]
theorem ev_sset (a) : ev G C (.sset a) σ h = (ev G C a σ h >>= fun z => ssetD z.1 >>= fun d => .ok (d, z.2.1, z.2.2)) := rfl
@[simp ↓] theorem ev_sset_w (a) {K} : @Wk _ (ev G C (.sset a) σ h) K = @Wk _ ((ev G C a σ h >>= fun z => ssetD z.1 >>= fun d => .ok (d, z.2.1, z.2.2))) K := by rw [ev_sset]
theorem ev_newl (a) : ev G C (.newl a) σ h = (ev G C a σ h >>= fun z => lstD z.1 >>= fun xs => .ok (.ref z.2.2.length, z.2.1, z.2.2 ++ [.lst xs])) := rfl
@[simp ↓] theorem ev_newl_w (a) {K} : @Wk _ (ev G C (.newl a) σ h) K = @Wk _ ((ev G C a σ h >>= fun z => lstD z.1 >>= fun xs => .ok (.ref z.2.2.length, z.2.1, z.2.2 ++ [.lst xs]))) K := by rw [ev_newl]
theorem ev_new1 (a b) : ev G C (.new1 a b) σ h = (ev G C a σ h >>= fun z => ev G C b z.2.1 z.2.2 >>= fun y => ofO (keyD z.1) >>= fun k => .ok (.ref y.2.2.length, y.2.1, y.2.2 ++ [.dct [(k, y.1)]])) := rfl
@[simp ↓] theorem ev_new1_w (a b) {K} : @Wk _ (ev G C (.new1 a b) σ h) K = @Wk _ ((ev G C a σ h >>= fun z => ev G C b z.2.1 z.2.2 >>= fun y => ofO (keyD z.1) >>= fun k => .ok (.ref y.2.2.length, y.2.1, y.2.2 ++ [.dct [(k, y.1)]]))) K := by rw [ev_new1]
theorem ev_newd (es) : ev G C (.newd es) σ h = (evk G C es σ h >>= fun z => .ok (.ref z.2.2.length, z.2.1, z.2.2 ++ [.dct z.1])) := rfl
@[simp ↓] theorem ev_newd_w (es) {K} : @Wk _ (ev G C (.newd es) σ h) K = @Wk _ ((evk G C es σ h >>= fun z => .ok (.ref z.2.2.length, z.2.1, z.2.2 ++ [.dct z.1]))) K := by rw [ev_newd]
theorem evo_no : evo G C .no σ h = .ok (none, σ, h) := rfl
@[simp ↓] theorem evo_no_w {K} : @Wk _ (evo G C .no σ h) K = @Wk _ (.ok (none, σ, h)) K := by rw [evo_no]
theorem evo_so (e) : evo G C (.so e) σ h = (ev G C e σ h >>= fun z => intD z.1 >>= fun i => .ok (some i, z.2.1, z.2.2)) := rfl
@[simp ↓] theorem evo_so_w (e) {K} : @Wk _ (evo G C (.so e) σ h) K = @Wk _ ((ev G C e σ h >>= fun z => intD z.1 >>= fun i => .ok (some i, z.2.1, z.2.2))) K := by rw [evo_so]
theorem evs_nil : evs G C .nil σ h = .ok ([], σ, h) := rfl
@[simp ↓] theorem evs_nil_w {K} : @Wk _ (evs G C .nil σ h) K = @Wk _ (.ok ([], σ, h)) K := by rw [evs_nil]
theorem evs_cons (e r) : evs G C (.cons false e r) σ h = (ev G C e σ h >>= fun z => evs G C r z.2.1 z.2.2 >>= fun y => .ok (z.1 :: y.1, y.2.1, y.2.2)) := rfl
@[simp ↓] theorem evs_cons_w (e r) {K} : @Wk _ (evs G C (.cons false e r) σ h) K = @Wk _ ((ev G C e σ h >>= fun z => evs G C r z.2.1 z.2.2 >>= fun y => .ok (z.1 :: y.1, y.2.1, y.2.2))) K := by rw [evs_cons]
def starD : D → R (List D)
  | .tup ys => .ok ys
  | .lst ys => .ok ys
  | _ => .bad
theorem evs_star (e r) : evs G C (.cons true e r) σ h = (ev G C e σ h >>= fun z => starD z.1 >>= fun ys => evs G C r z.2.1 z.2.2 >>= fun y => .ok (ys ++ y.1, y.2.1, y.2.2)) := by
  show (ev G C e σ h >>= _) = _
  congr
  funext ⟨d, σ, h⟩
  cases d <;> rfl
@[simp ↓] theorem evs_star_w (e r) {K} : @Wk _ (evs G C (.cons true e r) σ h) K = @Wk _ ((ev G C e σ h >>= fun z => starD z.1 >>= fun ys => evs G C r z.2.1 z.2.2 >>= fun y => .ok (ys ++ y.1, y.2.1, y.2.2))) K := by rw [evs_star]
theorem evand_one (s e) : evand G C (.cons s e .nil) σ h = ev G C e σ h := rfl
@[simp ↓] theorem evand_one_w (s e) {K} : @Wk _ (evand G C (.cons s e .nil) σ h) K = @Wk _ (ev G C e σ h) K := by rw [evand_one]
theorem evand_cons (s e s2 e2 r) : evand G C (.cons s e (.cons s2 e2 r)) σ h = (ev G C e σ h >>= fun z => truthy z.2.2 z.1 >>= fun b => if b then evand G C (.cons s2 e2 r) z.2.1 z.2.2 else .ok (z.1, z.2.1, z.2.2)) := rfl
@[simp ↓] theorem evand_cons_w (s e s2 e2 r) {K} : @Wk _ (evand G C (.cons s e (.cons s2 e2 r)) σ h) K = @Wk _ ((ev G C e σ h >>= fun z => truthy z.2.2 z.1 >>= fun b => if b then evand G C (.cons s2 e2 r) z.2.1 z.2.2 else .ok (z.1, z.2.1, z.2.2))) K := by rw [evand_cons]
theorem evor_one (s e) : evor G C (.cons s e .nil) σ h = ev G C e σ h := rfl
@[simp ↓] theorem evor_one_w (s e) {K} : @Wk _ (evor G C (.cons s e .nil) σ h) K = @Wk _ (ev G C e σ h) K := by rw [evor_one]
theorem evor_cons (s e s2 e2 r) : evor G C (.cons s e (.cons s2 e2 r)) σ h = (ev G C e σ h >>= fun z => truthy z.2.2 z.1 >>= fun b => if b then .ok (z.1, z.2.1, z.2.2) else evor G C (.cons s2 e2 r) z.2.1 z.2.2) := rfl
@[simp ↓] theorem evor_cons_w (s e s2 e2 r) {K} : @Wk _ (evor G C (.cons s e (.cons s2 e2 r)) σ h) K = @Wk _ ((ev G C e σ h >>= fun z => truthy z.2.2 z.1 >>= fun b => if b then .ok (z.1, z.2.1, z.2.2) else evor G C (.cons s2 e2 r) z.2.1 z.2.2)) K := by rw [evor_cons]
theorem evk_nil : evk G C .nil σ h = .ok ([], σ, h) := rfl
@[simp ↓] theorem evk_nil_w {K} : @Wk _ (evk G C .nil σ h) K = @Wk _ (.ok ([], σ, h)) K := by rw [evk_nil]
theorem evk_consF (k e r) : evk G C (.cons k false e r) σ h = (ev G C e σ h >>= fun z => evk G C r z.2.1 z.2.2 >>= fun y => .ok ((.inr k, z.1) :: y.1, y.2.1, y.2.2)) := rfl
@[simp ↓] theorem evk_consF_w (k e r) {K} : @Wk _ (evk G C (.cons k false e r) σ h) K = @Wk _ ((ev G C e σ h >>= fun z => evk G C r z.2.1 z.2.2 >>= fun y => .ok ((.inr k, z.1) :: y.1, y.2.1, y.2.2))) K := by rw [evk_consF]
theorem evk_consT (k e r) : evk G C (.cons k true e r) σ h = (ev G C e σ h >>= fun z => lstD z.1 >>= fun xs => evk G C r z.2.1 (z.2.2 ++ [.lst xs]) >>= fun y => .ok ((.inr k, .ref z.2.2.length) :: y.1, y.2.1, y.2.2)) := by
  show (ev G C e σ h >>= _) = _
  congr
  funext ⟨d, σ, h⟩
  cases d <;> rfl
@[simp ↓] theorem evk_consT_w (k e r) {K} : @Wk _ (evk G C (.cons k true e r) σ h) K = @Wk _ ((ev G C e σ h >>= fun z => lstD z.1 >>= fun xs => evk G C r z.2.1 (z.2.2 ++ [.lst xs]) >>= fun y => .ok ((.inr k, .ref z.2.2.length) :: y.1, y.2.1, y.2.2))) K := by rw [evk_consT]
theorem evt_tru (e) : evt G C (.tru e) σ h = (ev G C e σ h >>= fun z => truthy z.2.2 z.1 >>= fun b => .ok (b, z.2.1, z.2.2)) := rfl
@[simp ↓] theorem evt_tru_w (e) {K} : @Wk _ (evt G C (.tru e) σ h) K = @Wk _ ((ev G C e σ h >>= fun z => truthy z.2.2 z.1 >>= fun b => .ok (b, z.2.1, z.2.2))) K := by rw [evt_tru]
theorem evt_inb (neg a i) : evt G C (.inb neg a i) σ h = (ev G C a σ h >>= fun z => getL z.2.1 i >>= fun xs => anyD z.1 xs >>= fun r => .ok (r != neg, z.2.1, z.2.2)) := rfl
@[simp ↓] theorem evt_inb_w (neg a i) {K} : @Wk _ (evt G C (.inb neg a i) σ h) K = @Wk _ (ev G C a σ h >>= fun z => getL z.2.1 i >>= fun xs => anyD z.1 xs >>= fun r => .ok (r != neg, z.2.1, z.2.2)) K := by rw [evt_inb]
theorem evt_not (t) : evt G C (.not t) σ h = (evt G C t σ h >>= fun z => .ok (!z.1, z.2.1, z.2.2)) := rfl
@[simp ↓] theorem evt_not_w (t) {K} : @Wk _ (evt G C (.not t) σ h) K = @Wk _ ((evt G C t σ h >>= fun z => .ok (!z.1, z.2.1, z.2.2))) K := by rw [evt_not]
theorem evt_and (ts) : evt G C (.and ts) σ h = evts G C ts σ h := rfl
@[simp ↓] theorem evt_and_w (ts) {K} : @Wk _ (evt G C (.and ts) σ h) K = @Wk _ (evts G C ts σ h) K := by rw [evt_and]
theorem evt_or (ts) : evt G C (.or ts) σ h = evto G C ts σ h := rfl
@[simp ↓] theorem evt_or_w (ts) {K} : @Wk _ (evt G C (.or ts) σ h) K = @Wk _ (evto G C ts σ h) K := by rw [evt_or]
theorem evt_cmp (op a b) : evt G C (.cmp op a b) σ h = (ev G C a σ h >>= fun z => ev G C b z.2.1 z.2.2 >>= fun y => cmpD y.2.2 op z.1 y.1 >>= fun r => .ok (r, y.2.1, y.2.2)) := rfl
@[simp ↓] theorem evt_cmp_w (op a b) {K} : @Wk _ (evt G C (.cmp op a b) σ h) K = @Wk _ ((ev G C a σ h >>= fun z => ev G C b z.2.1 z.2.2 >>= fun y => cmpD y.2.2 op z.1 y.1 >>= fun r => .ok (r, y.2.1, y.2.2))) K := by rw [evt_cmp]
theorem evt_chain (o1 o2 a b c) : evt G C (.chain o1 o2 a b c) σ h = (ev G C a σ h >>= fun z => ev G C b z.2.1 z.2.2 >>= fun y => cmpD y.2.2 o1 z.1 y.1 >>= fun r =>
    if r then (ev G C c y.2.1 y.2.2 >>= fun u => cmpD u.2.2 o2 y.1 u.1 >>= fun r => .ok (r, u.2.1, u.2.2)) else .ok (false, y.2.1, y.2.2)) := rfl
@[simp ↓] theorem evt_chain_w (o1 o2 a b c) {K} : @Wk _ (evt G C (.chain o1 o2 a b c) σ h) K = @Wk _ ((ev G C a σ h >>= fun z => ev G C b z.2.1 z.2.2 >>= fun y => cmpD y.2.2 o1 z.1 y.1 >>= fun r =>
    if r then (ev G C c y.2.1 y.2.2 >>= fun u => cmpD u.2.2 o2 y.1 u.1 >>= fun r => .ok (r, u.2.1, u.2.2)) else .ok (false, y.2.1, y.2.2))) K := by rw [evt_chain]
theorem evts_nil : evts G C .nil σ h = .ok (true, σ, h) := rfl
@[simp ↓] theorem evts_nil_w {K} : @Wk _ (evts G C .nil σ h) K = @Wk _ (.ok (true, σ, h)) K := by rw [evts_nil]
theorem evts_cons (t r) : evts G C (.cons t r) σ h = (evt G C t σ h >>= fun z => if z.1 then evts G C r z.2.1 z.2.2 else .ok (false, z.2.1, z.2.2)) := rfl
@[simp ↓] theorem evts_cons_w (t r) {K} : @Wk _ (evts G C (.cons t r) σ h) K = @Wk _ ((evt G C t σ h >>= fun z => if z.1 then evts G C r z.2.1 z.2.2 else .ok (false, z.2.1, z.2.2))) K := by rw [evts_cons]
theorem evto_nil : evto G C .nil σ h = .ok (false, σ, h) := rfl
@[simp ↓] theorem evto_nil_w {K} : @Wk _ (evto G C .nil σ h) K = @Wk _ (.ok (false, σ, h)) K := by rw [evto_nil]
theorem evto_cons (t r) : evto G C (.cons t r) σ h = (evt G C t σ h >>= fun z => if z.1 then .ok (true, z.2.1, z.2.2) else evto G C r z.2.1 z.2.2) := rfl
@[simp ↓] theorem evto_cons_w (t r) {K} : @Wk _ (evto G C (.cons t r) σ h) K = @Wk _ ((evt G C t σ h >>= fun z => if z.1 then .ok (true, z.2.1, z.2.2) else evto G C r z.2.1 z.2.2)) K := by rw [evto_cons]
theorem evi_val (e) : evi G C (.val e) σ h = (ev G C e σ h >>= fun z => itemsD z.1 >>= fun xs => .ok (xs, z.2.1, z.2.2)) := rfl
@[simp ↓] theorem evi_val_w (e) {K} : @Wk _ (evi G C (.val e) σ h) K = @Wk _ ((ev G C e σ h >>= fun z => itemsD z.1 >>= fun xs => .ok (xs, z.2.1, z.2.2))) K := by rw [evi_val]
theorem evi_rng1 (a) : evi G C (.rng1 a) σ h = (ev G C a σ h >>= fun z => intD z.1 >>= fun j => if smallR 0 j then .ok ((List.range j.toNat).map fun (k : Nat) => D.int (0 + (k : Int)), z.2.1, z.2.2) else .bad) := rfl
@[simp ↓] theorem evi_rng1_w (a) {K} : @Wk _ (evi G C (.rng1 a) σ h) K = @Wk _ ((ev G C a σ h >>= fun z => intD z.1 >>= fun j => if smallR 0 j then .ok ((List.range j.toNat).map fun (k : Nat) => D.int (0 + (k : Int)), z.2.1, z.2.2) else .bad)) K := by rw [evi_rng1]
theorem evi_rng2 (a b) : evi G C (.rng2 a b) σ h = (ev G C a σ h >>= fun z => ev G C b z.2.1 z.2.2 >>= fun y => intD z.1 >>= fun i => intD y.1 >>= fun j => if smallR i j then .ok ((List.range (j - i).toNat).map fun (k : Nat) => D.int (i + (k : Int)), y.2.1, y.2.2) else .bad) := rfl
@[simp ↓] theorem evi_rng2_w (a b) {K} : @Wk _ (evi G C (.rng2 a b) σ h) K = @Wk _ ((ev G C a σ h >>= fun z => ev G C b z.2.1 z.2.2 >>= fun y => intD z.1 >>= fun i => intD y.1 >>= fun j => if smallR i j then .ok ((List.range (j - i).toNat).map fun (k : Nat) => D.int (i + (k : Int)), y.2.1, y.2.2) else .bad)) K := by rw [evi_rng2]
theorem ev_bits (a) : ev G C (.bits a) σ h = (ev G C a σ h >>= fun z => bitsD z.1 >>= fun d => .ok (d, z.2.1, z.2.2)) := rfl
@[simp ↓] theorem ev_bits_w (a) {K} : @Wk _ (ev G C (.bits a) σ h) K = @Wk _ ((ev G C a σ h >>= fun z => bitsD z.1 >>= fun d => .ok (d, z.2.1, z.2.2))) K := by rw [ev_bits]
theorem ev_idxb (i a) : ev G C (.idxb i a) σ h = (getL σ i >>= fun _ => ev G C a σ h >>= fun z => getL z.2.1 i >>= fun xs => idxD (.lst xs) z.1 >>= fun d => .ok (d, z.2.1, z.2.2)) := rfl
@[simp ↓] theorem ev_idxb_w (i a) {K} : @Wk _ (ev G C (.idxb i a) σ h) K = @Wk _ ((getL σ i >>= fun _ => ev G C a σ h >>= fun z => getL z.2.1 i >>= fun xs => idxD (.lst xs) z.1 >>= fun d => .ok (d, z.2.1, z.2.2))) K := by rw [ev_idxb]
theorem ev_idx (o a) : ev G C (.idx o a) σ h = (ev G C o σ h >>= fun z => ev G C a z.2.1 z.2.2 >>= fun y => idxD z.1 y.1 >>= fun d => .ok (d, y.2.1, y.2.2)) := rfl
@[simp ↓] theorem ev_idx_w (o a) {K} : @Wk _ (ev G C (.idx o a) σ h) K = @Wk _ ((ev G C o σ h >>= fun z => ev G C a z.2.1 z.2.2 >>= fun y => idxD z.1 y.1 >>= fun d => .ok (d, y.2.1, y.2.2))) K := by rw [ev_idx]
theorem ev_join (o a) : ev G C (.join o a) σ h = (ev G C o σ h >>= fun z => ev G C a z.2.1 z.2.2 >>= fun y => joinD z.1 y.1 >>= fun d => .ok (d, y.2.1, y.2.2)) := rfl
@[simp ↓] theorem ev_join_w (o a) {K} : @Wk _ (ev G C (.join o a) σ h) K = @Wk _ ((ev G C o σ h >>= fun z => ev G C a z.2.1 z.2.2 >>= fun y => joinD z.1 y.1 >>= fun d => .ok (d, y.2.1, y.2.2))) K := by rw [ev_join]
def lrngD (t : Bool) (i j : Int) : R D := if rngOk i j then .ok (if t then D.tup (rngD i j) else .lst (rngD i j)) else .bad
theorem ev_lrng (t a b) : ev G C (.lrng t a b) σ h = (ev G C a σ h >>= fun z => ev G C b z.2.1 z.2.2 >>= fun y => intD z.1 >>= fun i => intD y.1 >>= fun j => lrngD t i j >>= fun d => .ok (d, y.2.1, y.2.2)) := by
  show (ev G C a σ h >>= fun z => ev G C b z.2.1 z.2.2 >>= fun y => intD z.1 >>= fun i => intD y.1 >>= fun j => if rngOk i j then R.ok (if t then D.tup (rngD i j) else .lst (rngD i j), y.2.1, y.2.2) else .bad) = _
  congr
  funext z
  congr
  funext y
  congr
  funext i
  congr
  funext j
  unfold lrngD
  split <;> rfl
@[simp ↓] theorem ev_lrng_w (t a b) {K} : @Wk _ (ev G C (.lrng t a b) σ h) K = @Wk _ ((ev G C a σ h >>= fun z => ev G C b z.2.1 z.2.2 >>= fun y => intD z.1 >>= fun i => intD y.1 >>= fun j => lrngD t i j >>= fun d => .ok (d, y.2.1, y.2.2))) K := by rw [ev_lrng]
theorem evi_rng3 (a b c) : evi G C (.rng3 a b c) σ h = (ev G C a σ h >>= fun z => ev G C b z.2.1 z.2.2 >>= fun y => ev G C c y.2.1 y.2.2 >>= fun u => intD z.1 >>= fun i => intD y.1 >>= fun j => intD u.1 >>= fun c => rng3D i j c >>= fun xs => .ok (xs, u.2.1, u.2.2)) := rfl
@[simp ↓] theorem evi_rng3_w (a b c) {K} : @Wk _ (evi G C (.rng3 a b c) σ h) K = @Wk _ ((ev G C a σ h >>= fun z => ev G C b z.2.1 z.2.2 >>= fun y => ev G C c y.2.1 y.2.2 >>= fun u => intD z.1 >>= fun i => intD y.1 >>= fun j => intD u.1 >>= fun c => rng3D i j c >>= fun xs => .ok (xs, u.2.1, u.2.2))) K := by rw [evi_rng3]
theorem evi_enum (a) : evi G C (.enum a) σ h = (ev G C a σ h >>= fun z => enumD z.1 >>= fun xs => .ok (xs, z.2.1, z.2.2)) := rfl
@[simp ↓] theorem evi_enum_w (a) {K} : @Wk _ (evi G C (.enum a) σ h) K = @Wk _ ((ev G C a σ h >>= fun z => enumD z.1 >>= fun xs => .ok (xs, z.2.1, z.2.2))) K := by rw [evi_enum]
theorem evi_zip (a b) : evi G C (.zip a b) σ h = (ev G C a σ h >>= fun z => ev G C b z.2.1 z.2.2 >>= fun y => zipD z.1 y.1 >>= fun xs => .ok (xs, y.2.1, y.2.2)) := rfl
@[simp ↓] theorem evi_zip_w (a b) {K} : @Wk _ (evi G C (.zip a b) σ h) K = @Wk _ ((ev G C a σ h >>= fun z => ev G C b z.2.1 z.2.2 >>= fun y => zipD z.1 y.1 >>= fun xs => .ok (xs, y.2.1, y.2.2))) K := by rw [evi_zip]
def nxO (f : Env → AH → R Out) : Out → R Out
  | .nx σ h => f σ h
  | .rt d h => .ok (.rt d h)
  | .bk σ h => .ok (.bk σ h)
  | .ct σ h => .ok (.ct σ h)
theorem nxO_nx (f) : nxO f (.nx σ h) = f σ h := rfl
@[simp ↓] theorem nxO_nx_w (f) {K} : @Wk _ (nxO f (.nx σ h)) K = @Wk _ (f σ h) K := by rw [nxO_nx]
theorem nxO_rt (f d) : nxO f (.rt d h) = .ok (.rt d h) := rfl
@[simp ↓] theorem nxO_rt_w (f d) {K} : @Wk _ (nxO f (.rt d h)) K = @Wk _ (.ok (.rt d h)) K := by rw [nxO_rt]
theorem nxO_bk (f) : nxO f (.bk σ h) = .ok (.bk σ h) := rfl
@[simp ↓] theorem nxO_bk_w (f) {K} : @Wk _ (nxO f (.bk σ h)) K = @Wk _ (.ok (.bk σ h)) K := by rw [nxO_bk]
theorem nxO_ct (f) : nxO f (.ct σ h) = .ok (.ct σ h) := rfl
@[simp ↓] theorem nxO_ct_w (f) {K} : @Wk _ (nxO f (.ct σ h)) K = @Wk _ (.ok (.ct σ h)) K := by rw [nxO_ct]
theorem exs_nil : exs G C .nil σ h = .ok (.nx σ h) := rfl
@[simp ↓] theorem exs_nil_w {K} : @Wk _ (exs G C .nil σ h) K = @Wk _ (.ok (.nx σ h)) K := by rw [exs_nil]
theorem exs_cons (s r) : exs G C (.cons s r) σ h = (ex G C s σ h >>= nxO (exs G C r)) := by
  show (ex G C s σ h >>= _) = _
  congr
@[simp ↓] theorem exs_cons_w (s r) {K} : @Wk _ (exs G C (.cons s r) σ h) K = @Wk _ ((ex G C s σ h >>= nxO (exs G C r))) K := by rw [exs_cons]
theorem ex_set (i own e) : ex G C (.set i own e) σ h = (ev G C e σ h >>= fun z => slotOf own z.1 >>= fun s => .ok (.nx (z.2.1.set i s) z.2.2)) := rfl
@[simp ↓] theorem ex_set_w (i own e) {K} : @Wk _ (ex G C (.set i own e) σ h) K = @Wk _ ((ev G C e σ h >>= fun z => slotOf own z.1 >>= fun s => .ok (.nx (z.2.1.set i s) z.2.2))) K := by rw [ex_set]
theorem ex_sett (is e) : ex G C (.sett is e) σ h = (ev G C e σ h >>= fun z => putTg (.tup is) z.1 z.2.1 >>= fun s => .ok (.nx s z.2.2)) := rfl
@[simp ↓] theorem ex_sett_w (is e) {K} : @Wk _ (ex G C (.sett is e) σ h) K = @Wk _ ((ev G C e σ h >>= fun z => putTg (.tup is) z.1 z.2.1 >>= fun s => .ok (.nx s z.2.2))) K := by rw [ex_sett]
theorem ex_par (is os es) : ex G C (.par is os es) σ h = (evs G C es σ h >>= fun z => parS is os z.1 z.2.1 >>= fun s => .ok (.nx s z.2.2)) := rfl
@[simp ↓] theorem ex_par_w (is os es) {K} : @Wk _ (ex G C (.par is os es) σ h) K = @Wk _ ((evs G C es σ h >>= fun z => parS is os z.1 z.2.1 >>= fun s => .ok (.nx s z.2.2))) K := by rw [ex_par]
theorem ex_setsub (i ke e) : ex G C (.setsub i ke e) σ h = (preV σ i >>= fun _ => ev G C e σ h >>= fun z => ev G C ke z.2.1 z.2.2 >>= fun y => setD y.2.1 y.2.2 i y.1 z.1 >>= fun u => .ok (.nx u.1 u.2)) := rfl
@[simp ↓] theorem ex_setsub_w (i ke e) {K} : @Wk _ (ex G C (.setsub i ke e) σ h) K = @Wk _ ((preV σ i >>= fun _ => ev G C e σ h >>= fun z => ev G C ke z.2.1 z.2.2 >>= fun y => setD y.2.1 y.2.2 i y.1 z.1 >>= fun u => .ok (.nx u.1 u.2))) K := by rw [ex_setsub]
theorem ex_app (i e) : ex G C (.app i e) σ h = (preL σ h i >>= fun _ => ev G C e σ h >>= fun z => appD z.2.1 z.2.2 i [z.1] >>= fun u => .ok (.nx u.1 u.2)) := rfl
@[simp ↓] theorem ex_app_w (i e) {K} : @Wk _ (ex G C (.app i e) σ h) K = @Wk _ ((preL σ h i >>= fun _ => ev G C e σ h >>= fun z => appD z.2.1 z.2.2 i [z.1] >>= fun u => .ok (.nx u.1 u.2))) K := by rw [ex_app]
theorem ex_ext (i e) : ex G C (.ext i e) σ h = (preL σ h i >>= fun _ => ev G C e σ h >>= fun z => lstD z.1 >>= fun ys => appD z.2.1 z.2.2 i ys >>= fun u => .ok (.nx u.1 u.2)) := rfl
@[simp ↓] theorem ex_ext_w (i e) {K} : @Wk _ (ex G C (.ext i e) σ h) K = @Wk _ ((preL σ h i >>= fun _ => ev G C e σ h >>= fun z => lstD z.1 >>= fun ys => appD z.2.1 z.2.2 i ys >>= fun u => .ok (.nx u.1 u.2))) K := by rw [ex_ext]
theorem ex_expr (e) : ex G C (.expr e) σ h = (ev G C e σ h >>= fun z => .ok (.nx z.2.1 z.2.2)) := rfl
@[simp ↓] theorem ex_expr_w (e) {K} : @Wk _ (ex G C (.expr e) σ h) K = @Wk _ ((ev G C e σ h >>= fun z => .ok (.nx z.2.1 z.2.2))) K := by rw [ex_expr]
theorem ex_ret (e) : ex G C (.ret e) σ h = (ev G C e σ h >>= fun z => .ok (.rt z.1 z.2.2)) := rfl
@[simp ↓] theorem ex_ret_w (e) {K} : @Wk _ (ex G C (.ret e) σ h) K = @Wk _ ((ev G C e σ h >>= fun z => .ok (.rt z.1 z.2.2))) K := by rw [ex_ret]
theorem ex_retO (i) : ex G C (.retO i) σ h = (getO σ i >>= fun xs => .ok (.rt (.lst xs) h)) := rfl
@[simp ↓] theorem ex_retO_w (i) {K} : @Wk _ (ex G C (.retO i) σ h) K = @Wk _ ((getO σ i >>= fun xs => .ok (.rt (.lst xs) h))) K := by rw [ex_retO]
theorem ex_retN : ex G C .retN σ h = .ok (.rt .non h) := rfl
@[simp ↓] theorem ex_retN_w {K} : @Wk _ (ex G C .retN σ h) K = @Wk _ (.ok (.rt .non h)) K := by rw [ex_retN]
theorem ex_ite (c a b) : ex G C (.ite c a b) σ h = (evt G C c σ h >>= fun z => if z.1 then exs G C a z.2.1 z.2.2 else exs G C b z.2.1 z.2.2) := rfl
@[simp ↓] theorem ex_ite_w (c a b) {K} : @Wk _ (ex G C (.ite c a b) σ h) K = @Wk _ ((evt G C c σ h >>= fun z => if z.1 then exs G C a z.2.1 z.2.2 else exs G C b z.2.1 z.2.2)) K := by rw [ex_ite]
theorem ex_for (tg it body kill) : ex G C (.for_ tg it body kill) σ h = (evi G C it σ h >>= fun z => forL tg kill (exs G C body) z.1 (killS z.2.1 kill) z.2.2) := rfl
@[simp ↓] theorem ex_for_w (tg it body kill) {K} : @Wk _ (ex G C (.for_ tg it body kill) σ h) K = @Wk _ ((evi G C it σ h >>= fun z => forL tg kill (exs G C body) z.1 (killS z.2.1 kill) z.2.2)) K := by rw [ex_for]
theorem ex_while (c body kill) : ex G C (.while_ c body kill) σ h = whileL (evt G C c) kill (exs G C body) wfuel (killS σ kill) h := rfl
@[simp ↓] theorem ex_while_w (c body kill) {K} : @Wk _ (ex G C (.while_ c body kill) σ h) K = @Wk _ (whileL (evt G C c) kill (exs G C body) wfuel (killS σ kill) h) K := by rw [ex_while]
theorem ex_brk : ex G C .brk σ h = .ok (.bk σ h) := rfl
@[simp ↓] theorem ex_brk_w {K} : @Wk _ (ex G C .brk σ h) K = @Wk _ (.ok (.bk σ h)) K := by rw [ex_brk]
theorem ex_cont : ex G C .cont σ h = .ok (.ct σ h) := rfl
@[simp ↓] theorem ex_cont_w {K} : @Wk _ (ex G C .cont σ h) K = @Wk _ (.ok (.ct σ h)) K := by rw [ex_cont]
theorem ex_pass : ex G C .pass σ h = .ok (.nx σ h) := rfl
@[simp ↓] theorem ex_pass_w {K} : @Wk _ (ex G C .pass σ h) K = @Wk _ (.ok (.nx σ h)) K := by rw [ex_pass]
end
section
variable (σ : Env) (h : AH)
@[simp] theorem getS_v {i d} (e : σ[i]? = some (.val d)) : getS σ i = .ok d := by unfold getS; rw [e]
@[simp] theorem getS_o {i xs} (e : σ[i]? = some (.own xs)) : getS σ i = .ok (.lst xs) := by unfold getS; rw [e]
@[simp] theorem getO_o {i xs} (e : σ[i]? = some (.own xs)) : getO σ i = .ok xs := by unfold getO; rw [e]
@[simp] theorem getL_o {i xs} (e : σ[i]? = some (.own xs)) : getL σ i = .ok xs := by unfold getL; rw [e]
@[simp] theorem getL_v {i xs} (e : σ[i]? = some (.val (.lst xs))) : getL σ i = .ok xs := by unfold getL; rw [e]
@[simp] theorem frzS_v {i d} (e : σ[i]? = some (.val d)) : frzS σ i = σ := by unfold frzS; rw [e]
@[simp] theorem frzS_o {i xs} (e : σ[i]? = some (.own xs)) : frzS σ i = σ.set i (.val (.lst xs)) := by unfold frzS; rw [e]
@[simp] theorem putTg_name (i d) : putTg (.name i) d σ = .ok (σ.set i (.val d)) := rfl
@[simp] theorem putTg_t1 (i x) : putTg (.tup [i]) (.tup [x]) σ = .ok (σ.set i (.val x)) := rfl
@[simp] theorem putTg_t2 (i j x y) : putTg (.tup [i, j]) (.tup [x, y]) σ = .ok ((σ.set i (.val x)).set j (.val y)) := rfl
@[simp] theorem putTg_t3 (i j k x y z) : putTg (.tup [i, j, k]) (.tup [x, y, z]) σ = .ok (((σ.set i (.val x)).set j (.val y)).set k (.val z)) := rfl
@[simp] theorem putTg_t4 (i j k l x y z w) : putTg (.tup [i, j, k, l]) (.tup [x, y, z, w]) σ = .ok ((((σ.set i (.val x)).set j (.val y)).set k (.val z)).set l (.val w)) := rfl
@[simp] theorem killS_nil : killS σ [] = σ := rfl
@[simp] theorem killS_cons (i r) : killS σ (i :: r) = (killS σ r).set i .no := rfl
@[simp] theorem backS_nil (τ) : backS τ σ [] = σ := rfl
def keepS (τ : Env) (i : Nat) : Slot := match τ[i]? with | some (.val d) => .val d | _ => .no
@[simp] theorem backS_cons (τ i r) : backS τ σ (i :: r) = (backS τ σ r).set i (keepS τ i) := rfl
@[simp] theorem keepS_v {τ : Env} {i d} (e : τ[i]? = some (.val d)) : keepS τ i = .val d := by unfold keepS; rw [e]
@[simp] theorem keepS_n {τ : Env} {i} (e : τ[i]? = some .no) : keepS τ i = .no := by unfold keepS; rw [e]
@[simp] theorem keepS_o {τ : Env} {i xs} (e : τ[i]? = some (.own xs)) : keepS τ i = .no := by unfold keepS; rw [e]
@[simp] theorem slotOf_f (d) : slotOf false d = .ok (.val d) := rfl
@[simp] theorem slotOf_tN : slotOf true .non = .ok (.val .non) := rfl
@[simp] theorem slotOf_tS (z) : slotOf true (.str z) = .ok (.val (.str z)) := rfl
@[simp] theorem slotOf_t (xs) : slotOf true (.lst xs) = .ok (.own xs) := rfl
@[simp] theorem parS_nil : parS [] [] [] σ = .ok σ := rfl
@[simp] theorem parS_cons (i is o os d ds) : parS (i :: is) (o :: os) (d :: ds) σ = (slotOf o d >>= fun s => parS is os ds (σ.set i s)) := rfl
@[simp] theorem intD_int (i) : intD (.int i) = .ok i := rfl
@[simp] theorem lstD_lst (i) : lstD (.lst i) = .ok i := rfl
@[simp] theorem starD_lst (i) : starD (.lst i) = .ok i := rfl
@[simp] theorem starD_tup (i) : starD (.tup i) = .ok i := rfl
@[simp] theorem ofO_some {α : Type} (a : α) : ofO (some a) = .ok a := rfl
@[simp] theorem truthy_bl (b) : truthy h (.bl b) = .ok b := rfl
@[simp] theorem truthy_non : truthy h .non = .ok false := rfl
@[simp] theorem truthy_int (i) : truthy h (.int i) = .ok (i != 0) := rfl
@[simp] theorem truthy_lst (i) : truthy h (.lst i) = .ok (!i.isEmpty) := rfl
@[simp] theorem truthy_tup (i) : truthy h (.tup i) = .ok (!i.isEmpty) := rfl
@[simp] theorem binD_addI (i j) : binD .add (.int i) (.int j) = .ok (.int (i + j)) := rfl
@[simp] theorem binD_subI (i j) : binD .sub (.int i) (.int j) = .ok (.int (i - j)) := rfl
theorem mulOk (i j : Int) (h : (decide (-(2 ^ 64) < i) && decide (i < 2 ^ 64) || decide (-(2 ^ 64) < j) && decide (j < 2 ^ 64)) = true) : binD .mul (.int i) (.int j) = .ok (.int (i * j)) := by
  show (if _ then _ else _) = _
  rw [if_pos h]
theorem mulR (i : Int) (j : Int) (h1 : -(2 ^ 64) < j) (h2 : j < 2 ^ 64) : binD .mul (.int i) (.int j) = .ok (.int (i * j)) := mulOk i j (by simp only [Bool.or_eq_true, Bool.and_eq_true, decide_eq_true_eq]; exact .inr ⟨h1, h2⟩)
theorem mulLe (i : Int) (j : Int) (h1 : -(2 ^ 64) < i) (h2 : i < 2 ^ 64) : binD .mul (.int i) (.int j) = .ok (.int (i * j)) := mulOk i j (by simp only [Bool.or_eq_true, Bool.and_eq_true, decide_eq_true_eq]; exact .inl ⟨h1, h2⟩)
theorem fdivOk (i j : Int) (h1 : 0 < j) (h2 : j < 1073741824) : binD .fdiv (.int i) (.int j) = .ok (.int (i / j)) := by
  show (if _ then _ else _) = _
  rw [if_pos (by simp [h1, h2])]
theorem modOk (i j : Int) (h1 : 0 < j) : binD .mod (.int i) (.int j) = .ok (.int (i % j)) := by
  show (if _ then _ else _) = _
  rw [if_pos (by simp [h1])]
@[simp] theorem cmp_ltI (i j) : cmpD h .lt (.int i) (.int j) = .ok (decide (i < j)) := rfl
@[simp] theorem cmp_leI (i j) : cmpD h .le (.int i) (.int j) = .ok (decide (i ≤ j)) := rfl
@[simp] theorem cmp_leS (i j) : cmpD h .le (.str i) (.str j) = .ok (!decide (j.cps.toList < i.cps.toList)) := rfl
@[simp] theorem cmp_gtI (i j) : cmpD h .gt (.int i) (.int j) = .ok (decide (j < i)) := rfl
@[simp] theorem cmp_geI (i j) : cmpD h .ge (.int i) (.int j) = .ok (decide (j ≤ i)) := rfl
@[simp] theorem cmp_eq (a b) : cmpD h .eq a b = eqD a b := rfl
@[simp] theorem cmp_ne (a b) : cmpD h .ne a b = (eqD a b >>= fun r => .ok !r) := rfl
@[simp] theorem cmp_eqr (a b) : cmpD h .eqr a b = eqD (a.res h) (b.res h) := rfl
@[simp] theorem cmp_ner (a b) : cmpD h .ner a b = (eqD (a.res h) (b.res h) >>= fun r => .ok !r) := rfl
@[simp] theorem cmp_is (a b) : cmpD h .is_ a b = isD a b := rfl
@[simp] theorem cmp_isnot (a b) : cmpD h .isnot a b = (isD a b >>= fun r => .ok !r) := rfl
@[simp] theorem cmp_in (a b) : cmpD h .isin a b = inD h a b := rfl
@[simp] theorem cmp_notin (a b) : cmpD h .notin a b = (inD h a b >>= fun r => .ok !r) := rfl
@[simp] theorem eqD_int (i j) : eqD (.int i) (.int j) = .ok (i == j) := rfl
@[simp] theorem eqD_str (i j) : eqD (.str i) (.str j) = .ok (i == j) := rfl
@[simp] theorem blt_int (i) : bltD h "int" [.int i] = .ok (.int i) := rfl
@[simp] theorem blt_abs (i) : bltD h "abs" [.int i] = .ok (.int (if i < 0 then -i else i)) := rfl
@[simp] theorem blt_lenL (i) : bltD h "len" [.lst i] = .ok (.int i.length) := rfl
@[simp] theorem blt_lenT (i) : bltD h "len" [.tup i] = .ok (.int i.length) := rfl
@[simp] theorem blt_tupL (i) : bltD h "tuple" [.lst i] = .ok (.tup i) := rfl
@[simp] theorem blt_tupT (i) : bltD h "tuple" [.tup i] = .ok (.tup i) := rfl
@[simp] theorem blt_lstL (i) : bltD h "list" [.lst i] = .ok (.lst i) := rfl
@[simp] theorem blt_lstT (i) : bltD h "list" [.tup i] = .ok (.lst i) := rfl
@[simp] theorem items_lst (i) : itemsD (.lst i) = .ok i := rfl
@[simp] theorem items_tup (i) : itemsD (.tup i) = .ok i := rfl
@[simp] theorem items_scr (i) : itemsD (.scr i) = .ok (i.map .int) := rfl
@[simp] theorem revD_lst (i) : revD (.lst i) = .ok (.lst i.reverse) := rfl
@[simp] theorem revD_tup (i) : revD (.tup i) = .ok (.tup i.reverse) := rfl
@[simp] theorem ix_tup (xs j) : ixD h (.tup xs) (.int j) = ofO (atI xs j) := rfl
@[simp] theorem ix_lst (xs j) : ixD h (.lst xs) (.int j) = ofO (atI xs j) := rfl
@[simp] theorem fnS_v {σ : Env} {i f} (e : σ[i]? = some (.val (.fn f))) : fnS σ i = .ok f := by unfold fnS; rw [e]
@[simp] theorem ix_dct (kvs : List (Key × Int)) (x : Str) : ixD h (.dct kvs) (.str x) = ofO ((lookI kvs (.inr x)).map .int) := rfl
@[simp] theorem bits_int (i) : bitsD (.int i) = .ok (.int (Builtin.Int.intBits i : Nat)) := rfl
end
theorem lenOk_of {n : Nat} (h : n ≤ 16777216) : lenOk n = true := by unfold lenOk; rw [decide_eq_true_eq]; exact h

@[simp] theorem lenOk_0 : lenOk 0 = true := by decide
@[simp] theorem lenOk_1 : lenOk 1 = true := by decide
@[simp] theorem lenOk_2 : lenOk 2 = true := by decide
@[simp] theorem lenOk_3 : lenOk 3 = true := by decide
@[simp] theorem lenOk_4 : lenOk 4 = true := by decide
@[simp] theorem lenOk_5 : lenOk 5 = true := by decide
@[simp] theorem lenOk_6 : lenOk 6 = true := by decide
@[simp] theorem lenOk_7 : lenOk 7 = true := by decide
@[simp] theorem lenOk_8 : lenOk 8 = true := by decide
@[simp] theorem lenOk_9 : lenOk 9 = true := by decide
@[simp] theorem lenOk_10 : lenOk 10 = true := by decide
theorem smallR1 {i j : Int} (h1 : -1000000 ≤ i) (h2 : i ≤ 1000000) (h3 : -1000000 ≤ j) (h4 : j ≤ 1000000) : smallR i j = true := by
  simp [smallR, smallI]
  omega
theorem atI_n {α : Type} (xs : List α) (n : Nat) (h : n < xs.length) : atI xs (n : Int) = xs[n]? := by
  unfold atI ixN
  rw [if_pos (by omega), if_pos (by omega)]
  simp
@[simp] theorem atI_0 {α : Type} (x : α) (l : List α) : atI (x :: l) 0 = some x := atI_n (x :: l) 0 (by simp)
@[simp] theorem atI_1 {α : Type} (x y : α) (l : List α) : atI (x :: y :: l) 1 = some y := atI_n (x :: y :: l) 1 (by simp)
@[simp] theorem atI_2 {α : Type} (x y z : α) (l : List α) : atI (x :: y :: z :: l) 2 = some z := atI_n (x :: y :: z :: l) 2 (by simp)
@[simp] theorem atI_3 {α : Type} (x y z w : α) (l : List α) : atI (x :: y :: z :: w :: l) 3 = some w := atI_n (x :: y :: z :: w :: l) 3 (by simp)

def outV : Out → R (D × AH)
  | .rt d h => .ok (d, h)
  | .nx _ h => .ok (.non, h)
  | _ => .bad
@[simp] theorem outV_rt (d h) : outV (.rt d h) = .ok (d, h) := rfl
@[simp] theorem outV_nx (d h) : outV (.nx d h) = .ok (.non, h) := rfl
theorem callN_eq {G : Glob} {T : Tab} {k : Nat} {f : Str} {fd : Fn} {args : List D} {h : AH} (hT : T f = some fd) (ha : fd.ar = args.length) :
    callN G T (k + 1) f args h = (exs G (callN G T k) fd.body (args.map .val ++ List.replicate (fd.n - fd.ar) .no) h >>= outV) := by
  unfold callN
  rw [hT]
  simp only [ha, if_true]
  congr

structure Src where
  cs : List Int
  l : Int
  x : Int
  t : Int
structure Src.Ok (s : Src) : Prop where
  cs : ∀ c ∈ s.cs, 0 ≤ c
  n : s.cs.length ≤ 1000
def Src.h (s : Src) (rest : AH) : AH := .lst (s.cs.map .int) :: .dct [(.inr "cells", .ref 0), (.inr "left", .int s.l), (.inr "mixed", .int s.x), (.inr "turn", .int s.t)] :: rest
@[simp] theorem Src.get0 (s : Src) (r : AH) : (s.h r)[0]? = some (.lst (s.cs.map .int)) := rfl
@[simp] theorem Src.get1 (s : Src) (r : AH) : (s.h r)[1]? = some (.dct [(.inr "cells", .ref 0), (.inr "left", .int s.l), (.inr "mixed", .int s.x), (.inr "turn", .int s.t)]) := rfl
@[simp] theorem Src.gcells (s : Src) (r : AH) : ixD (s.h r) (.ref 1) (.str "cells") = .ok (.ref 0) := rfl
@[simp] theorem Src.gleft (s : Src) (r : AH) : ixD (s.h r) (.ref 1) (.str "left") = .ok (.int s.l) := rfl
@[simp] theorem Src.gmixed (s : Src) (r : AH) : ixD (s.h r) (.ref 1) (.str "mixed") = .ok (.int s.x) := rfl
@[simp] theorem Src.gturn (s : Src) (r : AH) : ixD (s.h r) (.ref 1) (.str "turn") = .ok (.int s.t) := rfl
@[simp] theorem preV_v {σ : Env} {i d} (e : σ[i]? = some (.val d)) : preV σ i = .ok () := by unfold preV; rw [e]
@[simp] theorem preV_o {σ : Env} {i d} (e : σ[i]? = some (.own d)) : preV σ i = .ok () := by unfold preV; rw [e]
@[simp] theorem preL_o {σ : Env} {h : AH} {i d} (e : σ[i]? = some (.own d)) : preL σ h i = .ok () := by unfold preL; rw [e]
@[simp] theorem Src.sleft (s : Src) (r : AH) {σ : Env} {i v} (e : σ[i]? = some (.val (.ref 1))) : setD σ (s.h r) i (.str "left") (.int v) = .ok (σ, Src.h ⟨s.cs, v, s.x, s.t⟩ r) := by
  unfold setD; rw [e]; rfl
@[simp] theorem Src.sturn (s : Src) (r : AH) {σ : Env} {i v} (e : σ[i]? = some (.val (.ref 1))) : setD σ (s.h r) i (.str "turn") (.int v) = .ok (σ, Src.h ⟨s.cs, s.l, s.x, v⟩ r) := by
  unfold setD; rw [e]; rfl
theorem Src.set0 (s : Src) (r : AH) (cs : List Int) : (s.h r).set 0 (.lst (cs.map .int)) = Src.h ⟨cs, s.l, s.x, s.t⟩ r := rfl

def TurnQ (kill : List Nat) (I : Env → AH → Prop) (Q : Out → Prop) : Out → Prop
  | .nx σ h => I (killS σ kill) h
  | .ct σ h => I (killS σ kill) h
  | .bk σ h => Q (.nx (killS σ kill) h)
  | .rt d h => Q (.rt d h)
@[simp] theorem TurnQ_nx (kill I Q σ h) : TurnQ kill I Q (.nx σ h) = I (killS σ kill) h := rfl
@[simp] theorem TurnQ_ct (kill I Q σ h) : TurnQ kill I Q (.ct σ h) = I (killS σ kill) h := rfl
@[simp] theorem TurnQ_bk (kill I Q σ h) : TurnQ kill I Q (.bk σ h) = Q (.nx (killS σ kill) h) := rfl
@[simp] theorem TurnQ_rt (kill I Q d h) : TurnQ kill I Q (.rt d h) = Q (.rt d h) := rfl
theorem forL_W {tg : Tg} {kill : List Nat} {body : Env → AH → R Out} {Q : Out → Prop} (I : List D → Env → AH → Prop) : ∀ (xs pre : List D) (σ : Env) (h : AH), I pre σ h →
    (∀ done x rest σ h, pre ++ xs = done ++ x :: rest → I done σ h → W (putTg tg x σ) fun σ1 => W (body σ1 h) (TurnQ kill (I (done ++ [x])) Q)) → (∀ σ h, I (pre ++ xs) σ h → Q (.nx σ h)) → W (forL tg kill body xs σ h) Q
  | [], pre, σ, h, hi, _, fin => by
    unfold forL
    rw [W_ok]
    exact fin σ h (by simpa using hi)
  | x :: xs, pre, σ, h, hi, step, fin => by
    have ih := fun τ g hh => forL_W (tg := tg) (kill := kill) (body := body) (Q := Q) I xs (pre ++ [x]) τ g hh (fun done y rest u v e => step done y rest u v (by simpa using e)) (fun u v hv => fin u v (by simpa using hv))
    have st := step pre x xs σ h rfl hi
    unfold forL
    rw [W_bind]
    refine st.mono fun σ1 s1 => ?_
    rw [W_bind]
    refine s1.mono fun o ho => ?_
    cases o with
    | nx σ2 h2 => exact ih _ _ ho
    | ct σ2 h2 => exact ih _ _ ho
    | bk σ2 h2 => rw [W_ok]; exact ho
    | rt d h2 => rw [W_ok]; exact ho
theorem forL_M {α : Type} {f : α → D} {tg : Tg} {kill : List Nat} {body : Env → AH → R Out} {Q : Out → Prop} (I : List α → Env → AH → Prop) (l : List α) {σ : Env} {h : AH} (hi : I [] σ h)
    (step : ∀ done x rest σ h, l = done ++ x :: rest → I done σ h → W (putTg tg (f x) σ) fun σ1 => W (body σ1 h) (TurnQ kill (I (done ++ [x])) Q)) (fin : ∀ σ h, I l σ h → Q (.nx σ h)) : W (forL tg kill body (l.map f) σ h) Q := by
  have go : ∀ (l pre : List α) (σ : Env) (h : AH), I pre σ h → (∀ done x rest σ h, pre ++ l = done ++ x :: rest → I done σ h → W (putTg tg (f x) σ) fun σ1 => W (body σ1 h) (TurnQ kill (I (done ++ [x])) Q)) → (∀ σ h, I (pre ++ l) σ h → Q (.nx σ h)) → W (forL tg kill body (l.map f) σ h) Q := by
    intro l
    induction l with
    | nil =>
      intro pre σ h hi _ fin
      unfold forL
      rw [List.map_nil, W_ok]
      exact fin σ h (by simpa using hi)
    | cons x l ih =>
      intro pre σ h hi step fin
      have st := step pre x l σ h rfl hi
      rw [List.map_cons]
      unfold forL
      rw [W_bind]
      refine st.mono fun σ1 s1 => ?_
      rw [W_bind]
      have ih := fun τ g hh => ih (pre ++ [x]) τ g hh (fun done y rest u v e => step done y rest u v (by simpa using e)) (fun u v hv => fin u v (by simpa using hv))
      refine s1.mono fun o ho => ?_
      cases o with
      | nx σ2 h2 => exact ih _ _ ho
      | ct σ2 h2 => exact ih _ _ ho
      | bk σ2 h2 => rw [W_ok]; exact ho
      | rt d h2 => rw [W_ok]; exact ho
  exact go l [] σ h hi step fin
theorem forL_I {tg : Tg} {kill : List Nat} {body : Env → AH → R Out} {Q : Out → Prop} (I : Env → AH → Prop) {xs : List D} {σ : Env} {h : AH} (hi : I σ h)
    (step : ∀ x ∈ xs, ∀ σ h, I σ h → W (putTg tg x σ) fun σ1 => W (body σ1 h) (TurnQ kill I Q)) (fin : ∀ σ h, I σ h → Q (.nx σ h)) : W (forL tg kill body xs σ h) Q :=
  forL_W (fun _ => I) xs [] σ h hi (fun done x rest τ g e hh => step x (by rw [show xs = done ++ x :: rest from e]; simp) τ g hh) fun τ g hh => fin τ g hh
theorem whileL_W {c : Env → AH → R (Bool × Env × AH)} {kill : List Nat} {body : Env → AH → R Out} {Q : Out → Prop} (I : Nat → Env → AH → Prop)
    (step : ∀ m σ h, I m σ h → W (c σ h) fun z => if z.1 = true then W (body z.2.1 z.2.2) (TurnQ kill (fun σ' h' => ∃ m', m' < m ∧ I m' σ' h') Q) else Q (.nx z.2.1 z.2.2)) : ∀ (n m : Nat) (σ : Env) (h : AH), m < n → I m σ h → W (whileL c kill body n σ h) Q
  | 0, m, σ, h, hm, _ => by omega
  | n + 1, m, σ, h, hm, hi => by
    have ih := fun m' τ g (hl : m' < m) hh => whileL_W I step n m' τ g (by omega) hh
    unfold whileL
    rw [W_bind]
    refine (step m σ h hi).mono fun z hz => ?_
    obtain ⟨b, σ1, h1⟩ := z
    cases b with
    | false => simpa using hz
    | true =>
      simp only [if_true] at hz ⊢
      rw [W_bind]
      refine hz.mono fun o ho => ?_
      cases o with
      | nx σ2 h2 => obtain ⟨m', hl, hh⟩ := ho; exact ih m' _ _ hl hh
      | ct σ2 h2 => obtain ⟨m', hl, hh⟩ := ho; exact ih m' _ _ hl hh
      | bk σ2 h2 => rw [W_ok]; exact ho
      | rt d h2 => rw [W_ok]; exact ho
theorem compL_pure {turn : D → Env → AH → R (Option D × Env × AH)} (f : D → Option D) {σ : Env} {h : AH} : ∀ (xs acc : List D), (∀ x ∈ xs, turn x σ h = .ok (f x, σ, h)) → compL turn xs acc σ h = .ok (acc ++ xs.filterMap f, σ, h)
  | [], acc, _ => by simp [compL]
  | x :: xs, acc, ht => by
    unfold compL
    rw [ht x List.mem_cons_self, R.bind_ok]
    have := compL_pure f xs (match f x with | some d => acc ++ [d] | none => acc) fun y hy => ht y (List.mem_cons_of_mem _ hy)
    refine this.trans ?_
    cases hf : f x <;> simp [List.filterMap_cons, hf]
theorem compL_map {turn : D → Env → AH → R (Option D × Env × AH)} (f : D → D) {σ : Env} {h : AH} (xs acc : List D) (ht : ∀ x ∈ xs, turn x σ h = .ok (some (f x), σ, h)) : compL turn xs acc σ h = .ok (acc ++ xs.map f, σ, h) := by
  rw [compL_pure (fun x => some (f x)) xs acc ht]
  simp
inductive All2 {α β : Type} (P : α → β → Prop) : List α → List β → Prop
  | nil : All2 P [] []
  | cons {a b as bs} : P a b → All2 P as bs → All2 P (a :: as) (b :: bs)
theorem All2.len {α β : Type} {P : α → β → Prop} : ∀ {as : List α} {bs : List β}, All2 P as bs → as.length = bs.length
  | _, _, .nil => rfl
  | _, _, .cons _ r => by simp [r.len]
theorem compL_inv {turn : D → Env → AH → R (Option D × Env × AH)} (I : AH → Prop) (P : D → D → Prop) {σ : Env} : ∀ (xs acc : List D) (h : AH), (∀ x ∈ xs, ∀ h, I h → ∃ d h', turn x σ h = .ok (some d, σ, h') ∧ I h' ∧ P x d) → I h →
    ∃ ds h', compL turn xs acc σ h = .ok (acc ++ ds, σ, h') ∧ I h' ∧ All2 P xs ds
  | [], acc, h, _, hi => ⟨[], h, by simp [compL], hi, .nil⟩
  | x :: xs, acc, h, ht, hi => by
    obtain ⟨d, h1, e1, i1, p1⟩ := ht x List.mem_cons_self h hi
    obtain ⟨ds, h2, e2, i2, p2⟩ := compL_inv I P xs (acc ++ [d]) h1 (fun y hy => ht y (List.mem_cons_of_mem _ hy)) i1
    refine ⟨d :: ds, h2, ?_, i2, .cons p1 p2⟩
    unfold compL
    rw [e1, R.bind_ok]
    show compL turn xs (acc ++ [d]) σ h1 = _
    rw [e2]
    simp
theorem compL_W {turn : D → Env → AH → R (Option D × Env × AH)} (I : AH → Prop) (P : D → D → Prop) {σ : Env} (xs acc : List D) (h : AH) {Q : List D × Env × AH → Prop} (hi : I h)
    (step : ∀ x ∈ xs, ∀ h, I h → W (turn x σ h) fun z => ∃ d, z.1 = some d ∧ z.2.1 = σ ∧ I z.2.2 ∧ P x d) (fin : ∀ ds h', I h' → All2 P xs ds → Q (acc ++ ds, σ, h')) : W (compL turn xs acc σ h) Q := by
  have key : ∀ x ∈ xs, ∀ h, I h → ∃ d h', turn x σ h = .ok (some d, σ, h') ∧ I h' ∧ P x d := fun x hx g hg => by
    obtain ⟨⟨o, τ, g'⟩, e, d, e1, e2, i, p⟩ := step x hx g hg
    simp only at e1 e2
    subst e1 e2
    exact ⟨d, g', e, i, p⟩
  obtain ⟨ds, h', e, i, p⟩ := compL_inv I P xs acc h key hi
  exact W.of_eq e (fin ds h' i p)
theorem All2.ex {α β γ : Type} {P : γ → Prop} {f : γ → β} : ∀ {as : List α} {bs : List β}, All2 (fun _ b => ∃ c, P c ∧ b = f c) as bs → ∃ cs : List γ, bs = cs.map f ∧ cs.length = as.length ∧ ∀ c ∈ cs, P c
  | _, _, .nil => ⟨[], rfl, rfl, by simp⟩
  | _, _, .cons ⟨c, p, e⟩ r => by
    obtain ⟨cs, e1, l, q⟩ := r.ex
    exact ⟨c :: cs, by rw [e, e1]; rfl, by simp [l], by simpa using ⟨p, q⟩⟩
theorem W.eq {α : Type} {x : R α} {v : α} (h : W x fun z => z = v) : x = .ok v := let ⟨a, e, q⟩ := h; by rw [e, q]
@[simp] theorem isTys_s (h : AH) (x) : isTys h (.str x) ["str"] = .ok true := rfl
@[simp] theorem isTys_st (h : AH) (x) : isTys h (.tup x) ["str"] = .ok false := rfl
@[simp] theorem isTys_sl (h : AH) (x) : isTys h (.lst x) ["str"] = .ok false := rfl
@[simp] theorem isTys_si (h : AH) (x) : isTys h (.int x) ["str"] = .ok false := rfl
@[simp] theorem isTys_ts (h : AH) (x) : isTys h (.str x) ["tuple"] = .ok false := rfl
@[simp] theorem isTys_tt (h : AH) (x) : isTys h (.tup x) ["tuple"] = .ok true := rfl
@[simp] theorem isTys_tl (h : AH) (x) : isTys h (.lst x) ["tuple"] = .ok false := rfl
@[simp] theorem isTys_ti (h : AH) (x) : isTys h (.int x) ["tuple"] = .ok false := rfl
@[simp] theorem appD_o {σ : Env} {h : AH} {i : Nat} {xs ys : List D} (e : σ[i]? = some (.own xs)) (hl : xs.length + ys.length ≤ 16777216) : appD σ h i ys = .ok (σ.set i (.own (xs ++ ys)), h) := by
  unfold appD
  rw [e]
  show (if _ then _ else _) = _
  rw [lenOk_of hl]
  rfl
@[simp] theorem catL {xs ys : List D} (h : xs.length + ys.length ≤ 16777216) : binD .add (.lst xs) (.lst ys) = .ok (.lst (xs ++ ys)) := by
  show (if _ then _ else _) = _
  rw [lenOk_of h]
  rfl
@[simp] theorem catT {xs ys : List D} (h : xs.length + ys.length ≤ 16777216) : binD .add (.tup xs) (.tup ys) = .ok (.tup (xs ++ ys)) := by
  show (if _ then _ else _) = _
  rw [lenOk_of h]
  rfl
@[simp] theorem w_rj : (("right" : Str) = ("join" : Str)) = False := eq_false (by decide +kernel)
@[simp] theorem w_rl : (("right" : Str) = ("left" : Str)) = False := eq_false (by decide +kernel)
@[simp] theorem w_rm : (("right" : Str) = ("mix" : Str)) = False := eq_false (by decide +kernel)
@[simp] theorem w_lj : (("left" : Str) = ("join" : Str)) = False := eq_false (by decide +kernel)
@[simp] theorem w_lr : (("left" : Str) = ("right" : Str)) = False := eq_false (by decide +kernel)
@[simp] theorem w_lm : (("left" : Str) = ("mix" : Str)) = False := eq_false (by decide +kernel)
@[simp] theorem w_jr : (("join" : Str) = ("right" : Str)) = False := eq_false (by decide +kernel)
@[simp] theorem w_jl : (("join" : Str) = ("left" : Str)) = False := eq_false (by decide +kernel)
@[simp] theorem w_jm : (("join" : Str) = ("mix" : Str)) = False := eq_false (by decide +kernel)
@[simp] theorem w_mr : (("mix" : Str) = ("right" : Str)) = False := eq_false (by decide +kernel)
@[simp] theorem w_ml : (("mix" : Str) = ("left" : Str)) = False := eq_false (by decide +kernel)
@[simp] theorem w_mj : (("mix" : Str) = ("join" : Str)) = False := eq_false (by decide +kernel)
theorem cut_to {α : Type} (xs : List α) (n : Nat) : cutG xs none (some (n : Int)) = xs.take n := by
  unfold cutG
  rw [HT.sIx_nat, HT.sIx_none, List.drop_zero, Nat.sub_zero]
  by_cases h : n ≤ xs.length
  · rw [Nat.min_eq_left h]
  · rw [Nat.min_eq_right (by omega), List.take_length, List.take_of_length_le (by omega)]
theorem cut_from {α : Type} (xs : List α) (n : Nat) : cutG xs (some (n : Int)) none = xs.drop n := by
  unfold cutG
  rw [HT.sIx_nat, HT.sIx_none]
  by_cases h : n ≤ xs.length
  · rw [Nat.min_eq_left h, List.take_of_length_le (by simp)]
  · rw [Nat.min_eq_right (by omega), List.drop_length, List.drop_eq_nil_of_le (by omega)]
    simp
theorem slL (xs : List D) (lo hi) : slD (.lst xs) lo hi = .ok (.lst (cutG xs lo hi)) := rfl
theorem slT (xs : List D) (lo hi) : slD (.tup xs) lo hi = .ok (.tup (cutG xs lo hi)) := rfl
@[simp] theorem slL_to1 (xs : List D) : slD (.lst xs) none (some 1) = .ok (.lst (xs.take 1)) := by rw [slL, show (1 : Int) = ((1 : Nat) : Int) from rfl, cut_to]
@[simp] theorem slL_to2 (xs : List D) : slD (.lst xs) none (some 2) = .ok (.lst (xs.take 2)) := by rw [slL, show (2 : Int) = ((2 : Nat) : Int) from rfl, cut_to]
@[simp] theorem slL_from1 (xs : List D) : slD (.lst xs) (some 1) none = .ok (.lst (xs.drop 1)) := by rw [slL, show (1 : Int) = ((1 : Nat) : Int) from rfl, cut_from]
@[simp] theorem slL_from2 (xs : List D) : slD (.lst xs) (some 2) none = .ok (.lst (xs.drop 2)) := by rw [slL, show (2 : Int) = ((2 : Nat) : Int) from rfl, cut_from]
@[simp] theorem slT_to1 (xs : List D) : slD (.tup xs) none (some 1) = .ok (.tup (xs.take 1)) := by rw [slT, show (1 : Int) = ((1 : Nat) : Int) from rfl, cut_to]
@[simp] theorem slT_to2 (xs : List D) : slD (.tup xs) none (some 2) = .ok (.tup (xs.take 2)) := by rw [slT, show (2 : Int) = ((2 : Nat) : Int) from rfl, cut_to]
@[simp] theorem slT_from1 (xs : List D) : slD (.tup xs) (some 1) none = .ok (.tup (xs.drop 1)) := by rw [slT, show (1 : Int) = ((1 : Nat) : Int) from rfl, cut_from]
@[simp] theorem slT_from2 (xs : List D) : slD (.tup xs) (some 2) none = .ok (.tup (xs.drop 2)) := by rw [slT, show (2 : Int) = ((2 : Nat) : Int) from rfl, cut_from]
end EV
set_option maxRecDepth 100000
namespace EV
open PySem L2
namespace Lw
def b__law_open_cells : Ss :=
    (.cons (.set 1 false (.int 11))
    (.cons (.for_ (.name 2) (.val (.var 0))
    (.cons (.set 1 false (.bin .mod (.blt "int" (.cons false (.bin .add (.bin .add (.bin .mul (.var 1) (.int 69069)) (.bin .mul (.var 2) (.int 31))) (.int 5)) .nil)) (.int 2147483629)))
    .nil) [2])
    (.cons (.set 3 false (.comp (.blt "abs" (.cons false (.var 2) .nil)) (.name 2) (.val (.var 0)) .nil [2]))
    (.cons (.ret (.newd (.cons "cells" true (.rev (.var 3)) (.cons "left" false (.int 1) (.cons "mixed" false (.var 1) (.cons "turn" false (.int 0) .nil))))))
    .nil))))
def f__law_open_cells : Fn := ⟨1, 4, b__law_open_cells⟩
def b__law_pick : Ss :=
    (.cons (.ite (.cmp .lt (.var 1) (.int 2))
    (.cons (.ret (.int 0))
    .nil)
    .nil)
    (.cons (.set 2 false (.ix (.var 0) (.str "cells")))
    (.cons (.while_ (.and (.cons (.cmp .lt (.ix (.var 0) (.str "left")) (.int 2)) (.cons (.cmp .gt (.blt "len" (.cons false (.var 2) .nil)) (.int 0)) .nil)))
    (.cons (.setsub 0 (.str "left") (.pop0 2))
    .nil) [])
    (.cons (.set 3 false (.ix (.var 0) (.str "left")))
    (.cons (.ite (.cmp .gt (.var 3) (.int 1))
    (.cons (.setsub 0 (.str "left") (.bin .fdiv (.var 3) (.var 1)))
    (.cons (.ret (.bin .mod (.blt "int" (.cons false (.var 3) .nil)) (.var 1)))
    .nil))
    .nil)
    (.cons (.setsub 0 (.str "turn") (.bin .add (.ix (.var 0) (.str "turn")) (.int 1)))
    (.cons (.set 4 false (.ix (.var 0) (.str "turn")))
    (.cons (.set 5 false (.bin .mod (.blt "int" (.cons false (.bin .add (.ix (.var 0) (.str "mixed")) (.bin .mul (.var 4) (.int 104729))) .nil)) (.int 998244353)))
    (.cons (.set 5 false (.bin .mod (.blt "int" (.cons false (.bin .add (.bin .mul (.var 5) (.var 5)) (.bin .mul (.var 4) (.int 17))) .nil)) (.int 2147483647)))
    (.cons (.ret (.bin .mod (.blt "int" (.cons false (.bin .fdiv (.var 5) (.int 16)) .nil)) (.var 1)))
    .nil))))))))))
def f__law_pick : Fn := ⟨2, 6, b__law_pick⟩
end Lw
section
variable {GG : Glob} {T : Tab}
def pickW : Ss := .cons (.setsub 0 (.str "left") (.pop0 2)) .nil
def pickT : EV.T := .and (.cons (.cmp .lt (.ix (.var 0) (.str "left")) (.int 2)) (.cons (.cmp .gt (.blt "len" (.cons false (.var 2) .nil)) (.int 0)) .nil))
theorem pick_loop (C : Call) (m : D) (rest : AH) (s : Src) (hs : s.Ok) {Q : Out → Prop} (q : ∀ s' : Src, s'.Ok → Q (.nx [.val (.ref 1), .val m, .val (.ref 0), .no, .no, .no] (s'.h rest))) :
    W (whileL (evt GG C pickT) [] (exs GG C pickW) wfuel [.val (.ref 1), .val m, .val (.ref 0), .no, .no, .no] (s.h rest)) Q := by
  refine whileL_W (fun n σ h => ∃ s : Src, s.Ok ∧ s.cs.length = n ∧ σ = [.val (.ref 1), .val m, .val (.ref 0), .no, .no, .no] ∧ h = s.h rest) ?_ wfuel s.cs.length _ _ (by have := hs.n; show _ < 100000; omega) ⟨s, hs, rfl, rfl, rfl⟩
  rintro n σ h ⟨s, hs, rfl, rfl, rfl⟩
  unfold pickT pickW
  by_cases hl : s.l < 2
  · rcases List.eq_nil_or_concat s.cs with hc | ⟨r, c, hc⟩
    · simp [hl, hc, bltD, b_len]
      exact q s hs
    · simp [hl, hc, bltD, b_len, pop0D, Src.set0]
      have hn := hs.n
      rw [hc] at hn
      simp at hn
      have h2 : (⟨r, c, s.x, s.t⟩ : Src).Ok := ⟨fun z hz => hs.cs z (by rw [hc]; simp; exact .inl hz), by show r.length ≤ 1000; omega⟩
      exact ⟨r.length, by omega, ⟨r, c, s.x, s.t⟩, h2, rfl, rfl⟩
  · simp [hl]
    exact q s hs
theorem mod_range (a m : Int) (h : 0 < m) : 0 ≤ a % m ∧ a % m < m := ⟨Int.emod_nonneg _ (by omega), Int.emod_lt_of_pos _ h⟩
def PickQ (m : Int) (rest : AH) (z : D × AH) : Prop := ∃ (r : Nat) (s' : Src), s'.Ok ∧ (r : Int) < m ∧ z.1 = .int r ∧ z.2 = s'.h rest
theorem pick_w (hT : T "_law_pick" = some Lw.f__law_pick) (k : Nat) (s : Src) (hs : s.Ok) (rest : AH) (m : Int) (h1 : 1 ≤ m) (h2 : m < 1073741824) :
    W (callN GG T (k + 1) "_law_pick" [.ref 1, .int m] (s.h rest)) (PickQ m rest) := by
  rw [callN_eq hT rfl]
  by_cases hm : m < 2
  · simp [Lw.f__law_pick, Lw.b__law_pick, hm]
    exact ⟨0, s, hs, by omega, rfl, rfl⟩
  simp [Lw.f__law_pick, Lw.b__law_pick, hm]
  refine Wk.w (pick_loop (callN GG T k) (.int m) rest s hs fun s1 hs1 => ?_)
  by_cases hl : 1 < s1.l
  · obtain ⟨a, b⟩ := mod_range s1.l m (by omega)
    simp [hl, fdivOk _ _ (show 0 < m by omega) h2, modOk _ _ (show 0 < m by omega)]
    exact ⟨(s1.l % m).toNat, ⟨s1.cs, s1.l / m, s1.x, s1.t⟩, ⟨hs1.cs, hs1.n⟩, by omega, by show D.int _ = _; congr; omega, rfl⟩
  · have z1 := mod_range (s1.x + (s1.t + 1) * 104729) 998244353 (by omega)
    obtain ⟨y, hy⟩ : ∃ y, y = (s1.x + (s1.t + 1) * 104729) % 998244353 := ⟨_, rfl⟩
    rw [← hy] at z1
    obtain ⟨z, hz⟩ : ∃ z, z = (y * y + (s1.t + 1) * 17) % 2147483647 / 16 := ⟨_, rfl⟩
    obtain ⟨a, b⟩ := mod_range z m (by omega)
    simp [hl, mulR _ 104729 (by omega) (by omega), mulR _ 17 (by omega) (by omega), modOk _ 998244353 (by omega), modOk _ 2147483647 (by omega), fdivOk _ 16 (by omega) (by omega), modOk _ _ (show 0 < m by omega), ← hy, mulLe y y (by omega) (by omega), ← hz]
    exact ⟨(z % m).toNat, ⟨s1.cs, s1.l, s1.x, s1.t + 1⟩, ⟨hs1.cs, hs1.n⟩, by omega, by show D.int _ = _; congr; omega, rfl⟩
def OpenQ (z : D × AH) : Prop := ∃ s : Src, s.Ok ∧ z.1 = .ref 1 ∧ z.2 = s.h []
theorem open_w (hT : T "_law_open_cells" = some Lw.f__law_open_cells) (k : Nat) (ns : List Int) (hn : ns.length ≤ 63) :
    W (callN GG T (k + 1) "_law_open_cells" [.scr ns] []) OpenQ := by
  rw [callN_eq hT rfl]
  simp [Lw.f__law_open_cells, Lw.b__law_open_cells]
  refine Wk.w (forL_I (fun σ h => ∃ x : Int, σ = [.val (.scr ns), .val (.int x), .no, .no] ∧ h = []) ⟨11, rfl, rfl⟩ (fun d hd σ h => ?_) (fun σ h => ?_))
  · rintro ⟨x, rfl, rfl⟩
    obtain ⟨n, _, rfl⟩ := List.mem_map.mp hd
    simp [mulR _ 69069 (by omega) (by omega), mulR _ 31 (by omega) (by omega), modOk _ 2147483629 (by omega)]
  · rintro ⟨x, rfl, rfl⟩
    have e2 := compL_map (turn := turnC GG (callN GG T k) (.blt "abs" (.cons false (.var 2) .nil)) (.name 2) .nil [2]) (σ := [.val (.scr ns), .val (.int x), .no, .no]) (h := [])
      (fun d => match d with | .int n => .int (if n < 0 then -n else n) | d => d) (ns.map .int) [] (fun d hd => by
        obtain ⟨n, _, rfl⟩ := List.mem_map.mp hd
        simp [turnC, ev_blt, evs_cons, ev_var, evs_nil, evts_nil])
    simp [e2]
    refine ⟨⟨(ns.map fun n => if n < 0 then -n else n).reverse, 1, x, 0⟩, ⟨fun c hc => ?_, by simp; omega⟩, rfl, ?_⟩
    · simp only [List.mem_reverse, List.mem_map] at hc
      obtain ⟨n, _, rfl⟩ := hc
      split <;> omega
    · unfold Src.h
      rw [List.map_reverse, List.map_map]
      rfl
end
end EV
set_option maxRecDepth 100000
namespace EV
open PySem L2
mutual
def D.dp : D → Nat
  | .tup xs => D.dps xs + 1
  | .lst xs => D.dps xs + 1
  | .dct kvs => (D.dct kvs).py.depth
  | _ => 0
def D.dps : List D → Nat
  | [] => 0
  | d :: ds => max d.dp (D.dps ds)
end
mutual
def D.nice : D → Bool
  | .int i => decide (i.natAbs.log2 < 1920)
  | .str s => PyData.strOk s
  | .tup xs => D.nices xs
  | .lst xs => D.nices xs
  | .scr _ => false
  | .ref _ => false
  | .fn _ => false
  | .dct _ => false
  | _ => true
def D.nices : List D → Bool
  | [] => true
  | d :: ds => d.nice && D.nices ds
end
mutual
/-- no shared object within, and its text can be told (dicts may stand within) -/
def D.sh : D → Bool
  | .int i => decide (i.natAbs.log2 < 1920)
  | .tup xs => D.shs xs
  | .lst xs => D.shs xs
  | .scr _ => false
  | .ref _ => false
  | .fn _ => false
  | .dct kvs => (D.dct kvs).py.showable
  | _ => true
def D.shs : List D → Bool
  | [] => true
  | d :: ds => d.sh && D.shs ds
end
mutual
def D.wt : D → Nat
  | .non => 4
  | .bl _ => 5
  | .int i => (toString i : Str).length
  | .str s => (reprText s).length
  | .tup xs => 4 + D.wts xs
  | .lst xs => 4 + D.wts xs
  | .dct kvs => (PyData.shown (D.dct kvs).py).length
  | _ => 0
def D.wts : List D → Nat
  | [] => 0
  | d :: ds => d.wt + 2 + D.wts ds
end
theorem nices_all : ∀ {ds : List D}, D.nices ds = true ↔ ∀ d ∈ ds, d.nice = true
  | [] => by simp [D.nices]
  | d :: ds => by simp [D.nices, nices_all (ds := ds)]
theorem dps_le {n : Nat} : ∀ {ds : List D}, D.dps ds ≤ n ↔ ∀ d ∈ ds, d.dp ≤ n
  | [] => by simp [D.dps]
  | d :: ds => by simp [D.dps, dps_le (ds := ds), Nat.max_le]
theorem wts_le {n : Nat} : ∀ {ds : List D}, (∀ d ∈ ds, d.wt + 2 ≤ n) → D.wts ds ≤ ds.length * n
  | [], _ => by simp [D.wts]
  | d :: ds, h => by
    have := wts_le (n := n) (ds := ds) fun x hx => h x (List.mem_cons_of_mem _ hx)
    have := h d List.mem_cons_self
    simp only [D.wts, List.length_cons, Nat.succ_mul]
    omega
mutual
theorem nice_pure : ∀ d : D, d.nice = true → d.pure = true
  | .non, _ => rfl
  | .bl _, _ => rfl
  | .int _, _ => rfl
  | .str _, _ => rfl
  | .tup xs, h => by simp only [D.pure]; exact nices_pure xs (by simpa [D.nice] using h)
  | .lst xs, h => by simp only [D.pure]; exact nices_pure xs (by simpa [D.nice] using h)
  | .scr _, h => by simp [D.nice] at h
  | .dct _, h => by simp [D.nice] at h
  | .ref _, h => by simp [D.nice] at h
theorem nices_pure : ∀ ds : List D, D.nices ds = true → D.pures ds = true
  | [], _ => rfl
  | d :: ds, h => by
    simp only [D.nices, Bool.and_eq_true] at h
    simp only [D.pures, Bool.and_eq_true]
    exact ⟨nice_pure d h.1, nices_pure ds h.2⟩
end
mutual
theorem nice_lay : ∀ d : D, d.nice = true → d.py.canLay0 = true
  | .non, _ => by simp [D.py, PyData.canLay0]
  | .bl _, _ => by simp [D.py, PyData.canLay0]
  | .int _, _ => by simp [D.py, PyData.canLay0]
  | .str s, h => by simpa [D.py, PyData.canLay0, D.nice] using h
  | .tup xs, h => by simpa [D.py, PyData.canLay0] using nices_lay xs (by simpa [D.nice] using h)
  | .lst xs, h => by simpa [D.py, PyData.canLay0] using nices_lay xs (by simpa [D.nice] using h)
  | .scr _, h => by simp [D.nice] at h
  | .dct _, h => by simp [D.nice] at h
  | .ref _, h => by simp [D.nice] at h
theorem nices_lay : ∀ ds : List D, D.nices ds = true → PyData.canLayAll0 (D.pys ds) = true
  | [], _ => by simp [D.pys, PyData.canLayAll0]
  | d :: ds, h => by
    simp only [D.nices, Bool.and_eq_true] at h
    simp only [D.pys, PyData.canLayAll0, Bool.and_eq_true]
    exact ⟨nice_lay d h.1, nices_lay ds h.2⟩
end
mutual
theorem nice_sh : ∀ d : D, d.nice = true → d.sh = true
  | .non, _ => rfl
  | .bl _, _ => rfl
  | .int _, h => by simpa [D.sh, D.nice] using h
  | .str s, h => rfl
  | .tup xs, h => by simpa [D.sh] using nices_sh xs (by simpa [D.nice] using h)
  | .lst xs, h => by simpa [D.sh] using nices_sh xs (by simpa [D.nice] using h)
  | .scr _, h => by simp [D.nice] at h
  | .dct _, h => by simp [D.nice] at h
  | .ref _, h => by simp [D.nice] at h
theorem nices_sh : ∀ ds : List D, D.nices ds = true → D.shs ds = true
  | [], _ => rfl
  | d :: ds, h => by
    simp only [D.nices, Bool.and_eq_true] at h
    simp only [D.shs, Bool.and_eq_true]
    exact ⟨nice_sh d h.1, nices_sh ds h.2⟩
end
mutual
theorem sh_show : ∀ d : D, d.sh = true → d.py.showable = true
  | .non, _ => by simp [D.py, PyData.showable]
  | .bl _, _ => by simp [D.py, PyData.showable]
  | .int _, h => by simpa [D.py, PyData.showable, D.sh] using h
  | .str s, h => by simp [D.py, PyData.showable]
  | .tup xs, h => by simpa [D.py, PyData.showable] using shs_show xs (by simpa [D.sh] using h)
  | .lst xs, h => by simpa [D.py, PyData.showable] using shs_show xs (by simpa [D.sh] using h)
  | .scr _, h => by simp [D.sh] at h
  | .dct _, h => by simpa [D.sh] using h
  | .ref _, h => by simp [D.sh] at h
theorem shs_show : ∀ ds : List D, D.shs ds = true → PyData.showableAll (D.pys ds) = true
  | [], _ => by simp [D.pys, PyData.showableAll]
  | d :: ds, h => by
    simp only [D.shs, Bool.and_eq_true] at h
    simp only [D.pys, PyData.showableAll, Bool.and_eq_true]
    exact ⟨sh_show d h.1, shs_show ds h.2⟩
end
mutual
theorem dp_sh : ∀ d : D, d.sh = true → d.py.depth = d.dp
  | .non, _ => by simp [D.py, PyData.depth, D.dp]
  | .bl _, _ => by simp [D.py, PyData.depth, D.dp]
  | .int _, h => by simp [D.py, PyData.depth, D.dp]
  | .str s, h => by simp [D.py, PyData.depth, D.dp]
  | .tup xs, h => by simp [D.py, PyData.depth, D.dp, dps_sh xs (by simpa [D.sh] using h)]
  | .lst xs, h => by simp [D.py, PyData.depth, D.dp, dps_sh xs (by simpa [D.sh] using h)]
  | .scr _, h => by simp [D.sh] at h
  | .dct _, h => rfl
  | .ref _, h => by simp [D.sh] at h
theorem dps_sh : ∀ ds : List D, D.shs ds = true → PyData.depthAll (D.pys ds) = D.dps ds
  | [], _ => by simp [D.pys, PyData.depthAll, D.dps]
  | d :: ds, h => by
    simp only [D.shs, Bool.and_eq_true] at h
    simp [D.pys, PyData.depthAll, D.dps, dp_sh d h.1, dps_sh ds h.2]
end
theorem nice_show (d : D) (h : d.nice = true) : d.py.showable = true := sh_show d (nice_sh d h)
theorem dp_py (d : D) (h : d.nice = true) : d.py.depth = d.dp := dp_sh d (nice_sh d h)
theorem textFrom_le : ∀ (ts : List Str) (k : Nat) (acc : Str), (textFrom k acc ts).length ≤ acc.length + piled ts
  | [], k, acc => by simp [textFrom, piled]
  | t :: ts, k, acc => by
    have := textFrom_le ts (k + 1) (acc ++ (if k > 0 then ", " else "" : String) ++ t)
    rw [strLen_append, strLen_append] at this
    have e : (((if k > 0 then ", " else "" : String) : Str)).length ≤ 2 := by split <;> decide
    unfold textFrom
    rw [piled_cons]
    omega
mutual
theorem sh_wt : ∀ d : D, d.sh = true → (PyData.shown d.py).length ≤ d.wt
  | .non, _ => by simp only [D.py, PyData.shown, D.wt]; decide
  | .bl b, _ => by simp only [D.py, PyData.shown, D.wt]; cases b <;> decide
  | .int _, h => by simp [D.py, PyData.shown, D.wt]
  | .str s, h => by simp [D.py, PyData.shown, D.wt]
  | .tup xs, h => by
    have ih := shs_wts xs (by simpa [D.sh] using h)
    simp only [D.py, PyData.shown, D.wt]
    unfold tupleText
    rw [strLen_append, strLen_append]
    have e1 : (("(" : String) : Str).length = 1 := rfl
    have e2 : ∀ n : Nat, (((if n == 1 then ",)" else ")" : String) : Str)).length ≤ 2 := fun n => by split <;> decide
    have := e2 (PyData.shownAll (D.pys xs)).length
    by_cases hn : PyData.shownAll (D.pys xs) = []
    · have e3 : (Str.join ", " (PyData.shownAll (D.pys xs))).length = 0 := by rw [hn]; rfl
      rw [e1, e3]
      omega
    · have := join_length_add _ hn
      omega
  | .lst xs, h => by
    have ih := shs_wts xs (by simpa [D.sh] using h)
    simp only [D.py, PyData.shown, D.wt]
    unfold listText
    rw [strLen_append]
    have := textFrom_le (PyData.shownAll (D.pys xs)) 0 "["
    have e1 : (("[" : String) : Str).length = 1 := rfl
    have e2 : (("]" : String) : Str).length = 1 := rfl
    omega
  | .scr _, h => by simp [D.sh] at h
  | .dct _, h => by simp only [D.wt]; exact Nat.le_refl _
  | .ref _, h => by simp [D.sh] at h
theorem shs_wts : ∀ ds : List D, D.shs ds = true → piled (PyData.shownAll (D.pys ds)) ≤ D.wts ds
  | [], _ => by simp [D.pys, PyData.shownAll, D.wts, piled]
  | d :: ds, h => by
    simp only [D.shs, Bool.and_eq_true] at h
    have a := sh_wt d h.1
    have b := shs_wts ds h.2
    simp only [D.pys, PyData.shownAll, D.wts]
    rw [piled_cons]
    omega
end
theorem shown_wt (d : D) (h : d.nice = true) : (PyData.shown d.py).length ≤ d.wt := sh_wt d (nice_sh d h)
theorem okq_of {d : D} (h : d.nice = true) (hd : d.dp ≤ 64) : d.okq = true := by
  unfold D.okq SeqAt.shaped
  rw [nice_pure d h, nice_lay d h, dp_py d h]
  simpa using hd
def repE (h : AH) (d : D) : R D := if ((d.res h).okq && (d.res h).py.showable && lenOk (d.res h).py.shown.length) = true then R.ok (D.str (d.res h).py.shown) else R.bad
theorem bltD_repr {d : D} {h : AH} : bltD h "repr" [d] = if ((d.okq || d.okr) && d.py.showable && lenOk d.py.shown.length) = true then R.ok (D.str d.py.shown) else repE h d := by
  conv => lhs; unfold bltD
  try rfl
theorem repr_of {d : D} {h : AH} (hn : d.nice = true) (hd : d.dp ≤ 64) (hw : d.wt ≤ 16777216) : bltD h "repr" [d] = .ok (.str (PyData.shown d.py)) := by
  rw [bltD_repr, okq_of hn hd, nice_show d hn, lenOk_of (Nat.le_trans (shown_wt d hn) hw)]
  rfl
theorem repr_ofR {d : D} {h : AH} (hl : d.nolst = true) (hn : d.sh = true) (hd : d.dp ≤ 64) (hw : d.wt ≤ 16777216) : bltD h "repr" [d] = .ok (.str (PyData.shown d.py)) := by
  have hr : d.okr = true := by
    unfold D.okr
    rw [hl, dp_sh d hn]
    simpa using hd
  rw [bltD_repr, hr, sh_show d hn, lenOk_of (Nat.le_trans (sh_wt d hn) hw)]
  simp
def eqB (a b : D) : Bool := PyData.eqv a.py b.py
theorem eqD_of {a b : D} (ha : a.nice = true) (hb : b.nice = true) (da : a.dp ≤ 64) (db : b.dp ≤ 64) : eqD a b = .ok (eqB a b) := by
  unfold eqD
  split
  · simp [eqB, D.py, PyData.eqv]
  · rw [okq_of ha da, okq_of hb db]; rfl
theorem eqD_tup0 (xs : List D) : eqD (.tup xs) (.tup []) = .ok xs.isEmpty := by
  unfold eqD
  simp only []
  split
  · cases xs <;> simp [D.py, D.pys, PyData.eqv, PyData.eqvAll]
  · rfl
theorem eqB_self {a : D} (ha : a.nice = true) : eqB a a = true := SeqAt.eqv_refl _ (nice_lay a ha)
mutual
/-- no truths: equal is the same -/
def D.flat : D → Bool
  | .bl _ => false
  | .scr _ => false
  | .ref _ => false
  | .fn _ => false
  | .dct _ => false
  | .tup xs => D.flats xs
  | .lst xs => D.flats xs
  | _ => true
def D.flats : List D → Bool
  | [] => true
  | d :: ds => d.flat && D.flats ds
end
mutual
theorem eqB_flat : ∀ a b : D, a.flat = true → b.flat = true → eqB a b = true → a = b
  | .non, b, _, hb, h => by cases b <;> simp_all [eqB, D.py, PyData.eqv, D.flat]
  | .int _, b, _, hb, h => by cases b <;> simp_all [eqB, D.py, PyData.eqv, D.flat]
  | .str _, b, _, hb, h => by cases b <;> simp_all [eqB, D.py, PyData.eqv, D.flat]
  | .tup xs, b, ha, hb, h => by
    cases b <;> simp [eqB, D.py, PyData.eqv, D.flat] at h hb
    rw [eqBs_flat xs _ (by simpa [D.flat] using ha) hb h]
  | .lst xs, b, ha, hb, h => by
    cases b <;> simp [eqB, D.py, PyData.eqv, D.flat] at h hb
    rw [eqBs_flat xs _ (by simpa [D.flat] using ha) hb h]
  | .bl _, b, ha, _, _ => by simp [D.flat] at ha
  | .scr _, b, ha, _, _ => by simp [D.flat] at ha
  | .dct _, b, ha, _, _ => by simp [D.flat] at ha
  | .ref _, b, ha, _, _ => by simp [D.flat] at ha
  | .fn _, b, ha, _, _ => by simp [D.flat] at ha
theorem eqBs_flat : ∀ a b : List D, D.flats a = true → D.flats b = true → PyData.eqvAll (D.pys a) (D.pys b) = true → a = b
  | [], [], _, _, _ => rfl
  | [], _ :: _, _, _, h => by simp [D.pys, PyData.eqvAll] at h
  | _ :: _, [], _, _, h => by simp [D.pys, PyData.eqvAll] at h
  | x :: xs, y :: ys, ha, hb, h => by
    simp only [D.flats, Bool.and_eq_true] at ha hb
    simp only [D.pys, PyData.eqvAll, Bool.and_eq_true] at h
    rw [eqB_flat x y ha.1 hb.1 h.1, eqBs_flat xs ys ha.2 hb.2 h.2]
end
theorem eqB_ne {a b : D} (ha : a.flat = true) (hb : b.flat = true) (h : a ≠ b) : eqB a b = false := by
  cases e : eqB a b with
  | false => rfl
  | true => exact absurd (eqB_flat a b ha hb e) h
section
variable {xs : List D}
end
end EV
set_option maxRecDepth 100000
namespace EV
open PySem L2
inductive Rw where
  | c (x : Str) | ri (r : Rw) | le (r : Rw) | jo (rs : List Rw) | mi (rs : List Rw)
  deriving Inhabited
theorem Rw.ind {P : Rw → Prop} (hc : ∀ x, P (.c x)) (hr : ∀ r, P r → P (.ri r)) (hl : ∀ r, P r → P (.le r)) (hj : ∀ rs, (∀ r ∈ rs, P r) → P (.jo rs)) (hm : ∀ rs, (∀ r ∈ rs, P r) → P (.mi rs)) : ∀ r, P r :=
  fun r => Rw.rec (motive_1 := P) (motive_2 := fun rs => ∀ r ∈ rs, P r) hc hr hl hj hm (fun _ h => absurd h List.not_mem_nil)
    (fun _ _ a b x hx => by rcases List.mem_cons.mp hx with rfl | hx; exact a; exact b x hx) r
mutual
def Rw.d : Rw → D
  | .c x => .str x
  | .ri r => .tup [.str "right", r.d]
  | .le r => .tup [.str "left", r.d]
  | .jo rs => .tup [.str "join", .tup (Rw.ds rs)]
  | .mi rs => .tup [.str "mix", .tup (Rw.ds rs)]
def Rw.ds : List Rw → List D
  | [] => []
  | r :: rs => r.d :: Rw.ds rs
end
theorem ds_map : ∀ rs : List Rw, Rw.ds rs = rs.map Rw.d
  | [] => rfl
  | r :: rs => by simp [Rw.ds, ds_map rs]
@[simp] theorem Rw.d_c (x) : (Rw.c x).d = .str x := rfl
@[simp] theorem Rw.d_ri (r) : (Rw.ri r).d = .tup [.str "right", r.d] := rfl
@[simp] theorem Rw.d_le (r) : (Rw.le r).d = .tup [.str "left", r.d] := rfl
@[simp] theorem Rw.d_jo (rs) : (Rw.jo rs).d = .tup [.str "join", .tup (rs.map Rw.d)] := by rw [← ds_map]; rfl
@[simp] theorem Rw.d_mi (rs) : (Rw.mi rs).d = .tup [.str "mix", .tup (rs.map Rw.d)] := by rw [← ds_map]; rfl
inductive Rw.Lim (P : Str → Prop) (w : Nat) : Nat → Rw → Prop
  | c {n x} : P x → Rw.Lim P w n (.c x)
  | ri {n r} : Rw.Lim P w n r → Rw.Lim P w (n + 1) (.ri r)
  | le {n r} : Rw.Lim P w n r → Rw.Lim P w (n + 1) (.le r)
  | jo {n rs} : 2 ≤ rs.length → rs.length ≤ w → (∀ r ∈ rs, Rw.Lim P w n r) → Rw.Lim P w (n + 1) (.jo rs)
  | mi {n rs} : 1 ≤ rs.length → rs.length ≤ w → (∀ r ∈ rs, Rw.Lim P w n r) → Rw.Lim P w (n + 1) (.mi rs)
theorem Rw.Lim.mono {P Q : Str → Prop} {w v n m : Nat} (hp : ∀ x, P x → Q x) (hw : w ≤ v) : ∀ {r : Rw}, Rw.Lim P w n r → n ≤ m → Rw.Lim Q v m r := by
  intro r h
  induction h generalizing m with
  | c h => exact fun _ => .c (hp _ h)
  | ri _ ih =>
    intro hm
    obtain ⟨m, rfl⟩ : ∃ k, m = k + 1 := ⟨m - 1, by omega⟩
    exact .ri (ih (by omega))
  | le _ ih =>
    intro hm
    obtain ⟨m, rfl⟩ : ∃ k, m = k + 1 := ⟨m - 1, by omega⟩
    exact .le (ih (by omega))
  | jo h1 h2 _ ih =>
    intro hm
    obtain ⟨m, rfl⟩ : ∃ k, m = k + 1 := ⟨m - 1, by omega⟩
    exact .jo h1 (by omega) fun r hr => ih r hr (by omega)
  | mi h1 h2 _ ih =>
    intro hm
    obtain ⟨m, rfl⟩ : ∃ k, m = k + 1 := ⟨m - 1, by omega⟩
    exact .mi h1 (by omega) fun r hr => ih r hr (by omega)
def isLet (x : Str) : Prop := ∃ c : Nat, 97 ≤ c ∧ c ≤ 122 ∧ x = ⟨#[c]⟩
theorem isLet.all {p : Str → Bool} (h : (List.range 26).all (fun i => p ⟨#[97 + i]⟩) = true) {x : Str} (hx : isLet x) : p x = true := by
  obtain ⟨c, h1, h2, rfl⟩ := hx
  rw [List.all_eq_true] at h
  have := h (c - 97) (List.mem_range.mpr (by omega))
  rwa [show 97 + (c - 97) = c by omega] at this
theorem isLet.ok {x : Str} (h : isLet x) : PyData.strOk x = true := h.all (p := PyData.strOk) (by decide +kernel)
theorem isLet.rl {x : Str} (h : isLet x) : (reprText x).length = 3 := by
  have := h.all (p := fun x => (reprText x).length == 3) (by decide +kernel)
  simpa using this
theorem isLet.len {x : Str} (h : isLet x) : x.length = 1 := by
  obtain ⟨c, h1, h2, rfl⟩ := h
  rfl
theorem Rw.Lim.nice {P : Str → Prop} {w : Nat} (hP : ∀ x, P x → PyData.strOk x = true) {n : Nat} {r : Rw} (h : Rw.Lim P w n r) : r.d.nice = true := by
  induction h with
  | c h => exact hP _ h
  | ri _ ih => simp only [Rw.d_ri, D.nice, D.nices, ih]; decide +kernel
  | le _ ih => simp only [Rw.d_le, D.nice, D.nices, ih]; decide +kernel
  | jo _ _ _ ih =>
    have : D.nices (List.map Rw.d _) = true := nices_all.mpr fun d hd => by obtain ⟨r, hr, rfl⟩ := List.mem_map.mp hd; exact ih r hr
    simp only [Rw.d_jo, D.nice, D.nices, this]; decide +kernel
  | mi _ _ _ ih =>
    have : D.nices (List.map Rw.d _) = true := nices_all.mpr fun d hd => by obtain ⟨r, hr, rfl⟩ := List.mem_map.mp hd; exact ih r hr
    simp only [Rw.d_mi, D.nice, D.nices, this]; decide +kernel
theorem flats_map {f : Rw → D} : ∀ {rs : List Rw}, (∀ r ∈ rs, (f r).flat = true) → D.flats (rs.map f) = true
  | [], _ => rfl
  | r :: rs, h => by simp [D.flats, h r, flats_map (rs := rs) fun x hx => h x (List.mem_cons_of_mem _ hx)]
theorem Rw.flat (r : Rw) : r.d.flat = true := by
  induction r using Rw.ind with
  | hc x => rfl
  | hr r ih => simp [D.flat, D.flats, ih]
  | hl r ih => simp [D.flat, D.flats, ih]
  | hj rs ih => simp [D.flat, D.flats, flats_map ih]
  | hm rs ih => simp [D.flat, D.flats, flats_map ih]
theorem Rw.Lim.dp {P : Str → Prop} {w n : Nat} {r : Rw} (h : Rw.Lim P w n r) : r.d.dp ≤ 2 * n := by
  induction h with
  | c h => simp [D.dp]
  | ri _ ih => simp only [Rw.d_ri, D.dp, D.dps]; omega
  | le _ ih => simp only [Rw.d_le, D.dp, D.dps]; omega
  | jo _ _ _ ih =>
    rename_i n rs _ _ _
    have : D.dps (rs.map Rw.d) ≤ 2 * n := dps_le.mpr fun d hd => by obtain ⟨r, hr, rfl⟩ := List.mem_map.mp hd; exact ih r hr
    simp only [Rw.d_jo, D.dp, D.dps]; omega
  | mi _ _ _ ih =>
    rename_i n rs _ _ _
    have : D.dps (rs.map Rw.d) ≤ 2 * n := dps_le.mpr fun d hd => by obtain ⟨r, hr, rfl⟩ := List.mem_map.mp hd; exact ih r hr
    simp only [Rw.d_mi, D.dp, D.dps]; omega
theorem Rw.Lims.nices {P : Str → Prop} {w n : Nat} (hP : ∀ x, P x → PyData.strOk x = true) {rs : List Rw} (h : ∀ r ∈ rs, r.Lim P w n) : D.nices (rs.map Rw.d) = true :=
  nices_all.mpr fun d hd => by obtain ⟨r, hr, rfl⟩ := List.mem_map.mp hd; exact (h r hr).nice hP
theorem Rw.Lims.dps {P : Str → Prop} {w n : Nat} {rs : List Rw} (h : ∀ r ∈ rs, r.Lim P w n) : D.dps (rs.map Rw.d) ≤ 2 * n :=
  dps_le.mpr fun d hd => by obtain ⟨r, hr, rfl⟩ := List.mem_map.mp hd; exact (h r hr).dp
def wtB (w : Nat) : Nat → Nat
  | 0 => 3
  | n + 1 => 24 + w * (wtB w n + 2) + wtB w n
theorem wtB_mono (w n : Nat) : 3 ≤ wtB w n := by
  induction n with
  | zero => simp [wtB]
  | succ n ih => simp only [wtB]; omega
theorem Rw.Lim.wt {P : Str → Prop} {w : Nat} (hP : ∀ x, P x → (reprText x).length ≤ 3) {n : Nat} {r : Rw} (h : Rw.Lim P w n r) : r.d.wt ≤ wtB w n := by
  have l1 : (reprText ("right" : Str)).length = 7 := by decide +kernel
  have l2 : (reprText ("left" : Str)).length = 6 := by decide +kernel
  have l3 : (reprText ("join" : Str)).length = 6 := by decide +kernel
  have l4 : (reprText ("mix" : Str)).length = 5 := by decide +kernel
  induction h with
  | c h => have := hP _ h; have := wtB_mono w ‹_›; simp only [Rw.d_c, D.wt]; omega
  | ri _ ih => simp only [Rw.d_ri, D.wt, D.wts, wtB, l1]; omega
  | le _ ih => simp only [Rw.d_le, D.wt, D.wts, wtB, l2]; omega
  | jo _ hl _ ih =>
    rename_i n rs _ _
    have h1 : D.wts (rs.map Rw.d) ≤ (rs.map Rw.d).length * (wtB w n + 2) := wts_le fun d hd => by obtain ⟨r, hr, rfl⟩ := List.mem_map.mp hd; have := ih r hr; omega
    rw [List.length_map] at h1
    have h2 := Nat.mul_le_mul_right (wtB w n + 2) hl
    simp only [Rw.d_jo, D.wt, D.wts, wtB, l3]; omega
  | mi _ hl _ ih =>
    rename_i n rs _ _
    have h1 : D.wts (rs.map Rw.d) ≤ (rs.map Rw.d).length * (wtB w n + 2) := wts_le fun d hd => by obtain ⟨r, hr, rfl⟩ := List.mem_map.mp hd; have := ih r hr; omega
    rw [List.length_map] at h1
    have h2 := Nat.mul_le_mul_right (wtB w n + 2) hl
    simp only [Rw.d_mi, D.wt, D.wts, wtB, l4]; omega

structure Lets (L : D) (n : Nat) (P : Str → Prop) : Prop where
  pos : 1 ≤ n
  top : n < 1073741824
  len : ∀ h : AH, bltD h "len" [L] = .ok (.int n)
  at_ : ∀ (h : AH) (r : Nat), r < n → ∃ x, P x ∧ ixD h L (.int r) = .ok (.str x)
namespace Lw
end Lw
section
variable {GG : Glob} {T : Tab}
end
end EV
set_option maxRecDepth 100000
namespace EV
open PySem L2
mutual
def Rw.opn : Rw → List Rw
  | .jo rs => Rw.opns rs
  | r => [r]
def Rw.opns : List Rw → List Rw
  | [] => []
  | r :: rs => r.opn ++ Rw.opns rs
end
@[simp] theorem opn_c (x) : (Rw.c x).opn = [.c x] := rfl
@[simp] theorem opn_ri (x) : (Rw.ri x).opn = [.ri x] := rfl
@[simp] theorem opn_le (x) : (Rw.le x).opn = [.le x] := rfl
@[simp] theorem opn_mi (x) : (Rw.mi x).opn = [.mi x] := rfl
@[simp] theorem opn_jo (x) : (Rw.jo x).opn = Rw.opns x := rfl
@[simp] theorem opns_nil : Rw.opns [] = [] := rfl
@[simp] theorem opns_cons (r rs) : Rw.opns (r :: rs) = r.opn ++ Rw.opns rs := rfl
theorem opns_le {n : Nat} : ∀ {rs : List Rw}, (∀ r ∈ rs, r.opn.length ≤ n) → (Rw.opns rs).length ≤ rs.length * n
  | [], _ => by simp
  | r :: rs, h => by
    have := opns_le (rs := rs) fun x hx => h x (List.mem_cons_of_mem _ hx)
    have := h r List.mem_cons_self
    simp only [opns_cons, List.length_append, List.length_cons, Nat.succ_mul]
    omega
theorem Rw.Lim.opn {P : Str → Prop} {w n : Nat} {r : Rw} (h : Rw.Lim P w n r) : r.opn.length ≤ (w + 1) ^ n := by
  have pos : ∀ n, 1 ≤ (w + 1) ^ n := fun n => Nat.one_le_pow _ _ (by omega)
  induction h with
  | c _ => simpa using pos _
  | ri _ _ => simpa using pos _
  | le _ _ => simpa using pos _
  | mi _ _ _ _ => simpa using pos _
  | jo _ hl _ ih =>
    rename_i n rs _ _
    have h1 := opns_le ih
    have h2 := Nat.mul_le_mul_right ((w + 1) ^ n) hl
    rw [opn_jo, Nat.pow_succ, Nat.mul_comm]
    have : w * (w + 1) ^ n ≤ (w + 1) * (w + 1) ^ n := Nat.mul_le_mul_right _ (by omega)
    omega
end EV
set_option maxRecDepth 100000
namespace EV
open PySem L2
mutual
def Rw.sz : Rw → Nat
  | .c _ => 1
  | .ri r => r.sz + 1
  | .le r => r.sz + 1
  | .jo rs => Rw.szs rs + 1
  | .mi rs => Rw.szs rs + 1
def Rw.szs : List Rw → Nat
  | [] => 0
  | r :: rs => r.sz + Rw.szs rs
end
mutual
def Rw.dep : Rw → Nat
  | .c _ => 0
  | .ri r => r.dep + 1
  | .le r => r.dep + 1
  | .jo rs => Rw.deps rs + 1
  | .mi rs => Rw.deps rs + 1
def Rw.deps : List Rw → Nat
  | [] => 0
  | r :: rs => max r.dep (Rw.deps rs)
end
theorem szs_app : ∀ a b : List Rw, Rw.szs (a ++ b) = Rw.szs a + Rw.szs b
  | [], _ => by simp [Rw.szs]
  | r :: a, b => by simp [Rw.szs, szs_app a b]; omega
theorem szs_mem {r : Rw} : ∀ {rs : List Rw}, r ∈ rs → r.sz ≤ Rw.szs rs
  | [], h => by simp at h
  | q :: rs, h => by
    rcases List.mem_cons.mp h with rfl | h
    · simp [Rw.szs]
    · have := szs_mem h; simp only [Rw.szs]; omega
theorem deps_le {n : Nat} : ∀ {rs : List Rw}, Rw.deps rs ≤ n ↔ ∀ r ∈ rs, r.dep ≤ n
  | [] => by simp [Rw.deps]
  | r :: rs => by simp [Rw.deps, deps_le (rs := rs), Nat.max_le]
theorem deps_mem {r : Rw} {rs : List Rw} (h : r ∈ rs) : r.dep ≤ Rw.deps rs := deps_le.mp (Nat.le_refl _) r h
inductive Rw.Wf : Rw → Prop
  | c {x} : isLet x → Rw.Wf (.c x)
  | ri {r} : Rw.Wf r → Rw.Wf (.ri r)
  | le {r} : Rw.Wf r → Rw.Wf (.le r)
  | jo {rs} : 2 ≤ rs.length → (∀ r ∈ rs, Rw.Wf r) → Rw.Wf (.jo rs)
  | mi {rs} : 1 ≤ rs.length → (∀ r ∈ rs, Rw.Wf r) → Rw.Wf (.mi rs)
theorem Rw.Lim.wf {w n : Nat} {r : Rw} (h : Rw.Lim isLet w n r) : r.Wf ∧ r.dep ≤ n := by
  induction h with
  | c h => exact ⟨.c h, by simp [Rw.dep]⟩
  | ri _ ih => exact ⟨.ri ih.1, by simp only [Rw.dep]; omega⟩
  | le _ ih => exact ⟨.le ih.1, by simp only [Rw.dep]; omega⟩
  | jo h1 _ _ ih => exact ⟨.jo h1 fun r hr => (ih r hr).1, by have := deps_le.mpr fun r hr => (ih r hr).2; simp only [Rw.dep]; omega⟩
  | mi h1 _ _ ih => exact ⟨.mi h1 fun r hr => (ih r hr).1, by have := deps_le.mpr fun r hr => (ih r hr).2; simp only [Rw.dep]; omega⟩
theorem Rw.Wf.nice {r : Rw} (h : r.Wf) : r.d.nice = true := by
  induction h with
  | c h => exact h.ok
  | ri _ ih => simp [D.nice, D.nices, ih]; decide +kernel
  | le _ ih => simp [D.nice, D.nices, ih]; decide +kernel
  | jo _ _ ih =>
    rename_i rs _ _
    have : D.nices (rs.map Rw.d) = true := nices_all.mpr fun d hd => by obtain ⟨r, hr, rfl⟩ := List.mem_map.mp hd; exact ih r hr
    simp [D.nice, D.nices, this]; decide +kernel
  | mi _ _ ih =>
    rename_i rs _ _
    have : D.nices (rs.map Rw.d) = true := nices_all.mpr fun d hd => by obtain ⟨r, hr, rfl⟩ := List.mem_map.mp hd; exact ih r hr
    simp [D.nice, D.nices, this]; decide +kernel
theorem Rw.dp_le (r : Rw) : r.d.dp ≤ 2 * r.dep := by
  induction r using Rw.ind with
  | hc x => simp [D.dp]
  | hr r ih => simp only [Rw.d_ri, D.dp, D.dps, Rw.dep]; omega
  | hl r ih => simp only [Rw.d_le, D.dp, D.dps, Rw.dep]; omega
  | hj rs ih =>
    have : D.dps (rs.map Rw.d) ≤ 2 * Rw.deps rs := dps_le.mpr fun d hd => by obtain ⟨r, hr, rfl⟩ := List.mem_map.mp hd; have := ih r hr; have := deps_mem hr; omega
    simp only [Rw.d_jo, D.dp, D.dps, Rw.dep]; omega
  | hm rs ih =>
    have : D.dps (rs.map Rw.d) ≤ 2 * Rw.deps rs := dps_le.mpr fun d hd => by obtain ⟨r, hr, rfl⟩ := List.mem_map.mp hd; have := ih r hr; have := deps_mem hr; omega
    simp only [Rw.d_mi, D.dp, D.dps, Rw.dep]; omega
theorem wts_rows : ∀ {rs : List Rw}, (∀ r ∈ rs, r.d.wt + 2 ≤ 20 * r.sz) → D.wts (rs.map Rw.d) ≤ 20 * Rw.szs rs
  | [], _ => by simp [D.wts, Rw.szs]
  | r :: rs, h => by
    have := wts_rows (rs := rs) fun x hx => h x (List.mem_cons_of_mem _ hx)
    have := h r List.mem_cons_self
    simp only [List.map_cons, D.wts, Rw.szs]
    omega
theorem Rw.Wf.wt {r : Rw} (h : r.Wf) : r.d.wt + 2 ≤ 20 * r.sz := by
  have l1 : (reprText ("right" : Str)).length = 7 := by decide +kernel
  have l2 : (reprText ("left" : Str)).length = 6 := by decide +kernel
  have l3 : (reprText ("join" : Str)).length = 6 := by decide +kernel
  have l4 : (reprText ("mix" : Str)).length = 5 := by decide +kernel
  induction h with
  | c h => have := h.rl; simp only [Rw.d_c, D.wt, Rw.sz]; omega
  | ri _ ih => simp only [Rw.d_ri, D.wt, D.wts, l1, Rw.sz]; omega
  | le _ ih => simp only [Rw.d_le, D.wt, D.wts, l2, Rw.sz]; omega
  | jo _ _ ih => have := wts_rows ih; simp only [Rw.d_jo, D.wt, D.wts, l3, Rw.sz]; omega
  | mi _ _ ih => have := wts_rows ih; simp only [Rw.d_mi, D.wt, D.wts, l4, Rw.sz]; omega
theorem Rw.Wf.parts {r : Rw} (h : r.Wf) : (∀ rs, r = .jo rs → ∀ q ∈ rs, q.Wf) ∧ (∀ rs, r = .mi rs → ∀ q ∈ rs, q.Wf) ∧ (∀ q, r = .ri q → q.Wf) ∧ ∀ q, r = .le q → q.Wf := by
  cases h <;> refine ⟨fun _ e => ?_, fun _ e => ?_, fun _ e => ?_, fun _ e => ?_⟩ <;> cases e <;> assumption
theorem isD_row (r : Rw) : isD r.d .non = .ok false := by cases r <;> rfl
theorem Rw.sz_pos (r : Rw) : 1 ≤ r.sz := by cases r <;> simp [Rw.sz]

structure Fr where
  row : Rw
  key : List Int
  part : Rw
inductive FrOk : Fr → Prop
  | ri {r k} : 0 ≤ k → FrOk ⟨.ri r, [k], r⟩
  | le {r k} : 0 ≤ k → FrOk ⟨.le r, [k], r⟩
  | jo {rs p} {k : Nat} : rs[k]? = some p → FrOk ⟨.jo rs, [(k : Int)], p⟩
  | mi {rs p} {k : Int} {n : Nat} : 1 ≤ n → k % 2 = 1 → 1 ≤ k → k < 2 ^ n → rs[(n - 1) % rs.length]? = some p → FrOk ⟨.mi rs, [k, (n : Int)], p⟩
inductive Zp : Rw → List Fr → Prop
  | nil {x} : Zp (.c x) []
  | cons {f fs} : FrOk f → Zp f.part fs → Zp f.row (f :: fs)
def adr (fs : List Fr) : List Int := (fs.map Fr.key).flatten
@[simp] theorem adr_nil : adr [] = [] := rfl
@[simp] theorem adr_cons (f fs) : adr (f :: fs) = f.key ++ adr fs := rfl
theorem Zp.inv {f : Fr} {fs : List Fr} {r : Rw} (h : Zp r (f :: fs)) : r = f.row ∧ FrOk f ∧ Zp f.part fs := by
  cases h with
  | cons a b => exact ⟨rfl, a, b⟩
theorem FrOk.wf {f : Fr} (h : FrOk f) (hr : f.row.Wf) : f.part.Wf := by
  cases h with
  | ri _ => exact hr.parts.2.2.1 _ rfl
  | le _ => exact hr.parts.2.2.2 _ rfl
  | jo h => exact hr.parts.1 _ rfl _ (List.mem_of_getElem? h)
  | mi _ _ _ _ h => exact hr.parts.2.1 _ rfl _ (List.mem_of_getElem? h)
theorem FrOk.dep {f : Fr} (h : FrOk f) : f.part.dep + 1 ≤ f.row.dep := by
  cases h with
  | ri _ => simp [Rw.dep]
  | le _ => simp [Rw.dep]
  | jo h => have := deps_mem (List.mem_of_getElem? h); simp only [Rw.dep]; omega
  | mi _ _ _ _ h => have := deps_mem (List.mem_of_getElem? h); simp only [Rw.dep]; omega
theorem FrOk.sz {f : Fr} (h : FrOk f) : f.part.sz + 1 ≤ f.row.sz := by
  cases h with
  | ri _ => simp [Rw.sz]
  | le _ => simp [Rw.sz]
  | jo h => have := szs_mem (List.mem_of_getElem? h); simp only [Rw.sz]; omega
  | mi _ _ _ _ h => have := szs_mem (List.mem_of_getElem? h); simp only [Rw.sz]; omega
theorem Zp.len {r : Rw} {fs : List Fr} (h : Zp r fs) : fs.length ≤ r.dep := by
  induction h with
  | nil => simp
  | cons a _ ih => have := a.dep; simp only [List.length_cons]; omega
theorem Zp.nonneg {r : Rw} {fs : List Fr} (h : Zp r fs) : ∀ i ∈ adr fs, 0 ≤ i := by
  induction h with
  | nil => simp
  | cons a _ ih =>
    intro i hi
    rw [adr_cons, List.mem_append] at hi
    rcases hi with hi | hi
    · cases a <;> simp at hi
      · omega
      · omega
      · omega
      · rcases hi with rfl | rfl <;> omega
    · exact ih i hi

def endF (s : Bool) : Rw → Option (List Fr)
  | .c _ => some []
  | .ri r => if s then none else (endF s r).map (⟨.ri r, [0], r⟩ :: ·)
  | .le r => if s then (endF s r).map (⟨.le r, [0], r⟩ :: ·) else none
  | .mi _ => none
  | .jo rs => match h : rs[if s then rs.length - 1 else 0]? with
    | none => none
    | some r => (endF s r).map (⟨.jo rs, [((if s then rs.length - 1 else 0 : Nat) : Int)], r⟩ :: ·)
termination_by r => sizeOf r
decreasing_by
  · decreasing_tactic
  · decreasing_tactic
  · have := List.sizeOf_lt_of_mem (List.mem_of_getElem? h); simp; omega
theorem endF_c (s x) : endF s (.c x) = some [] := by rw [endF]
theorem endF_ri (s r) : endF s (.ri r) = if s then none else (endF s r).map (⟨.ri r, [0], r⟩ :: ·) := by rw [endF]
theorem endF_le (s r) : endF s (.le r) = if s then (endF s r).map (⟨.le r, [0], r⟩ :: ·) else none := by rw [endF]
theorem endF_mi (s r) : endF s (.mi r) = none := by rw [endF]
theorem endF_jo {s rs r} (h : rs[if s then rs.length - 1 else 0]? = some r) : endF s (.jo rs) = (endF s r).map (⟨.jo rs, [((if s then rs.length - 1 else 0 : Nat) : Int)], r⟩ :: ·) := by
  rw [endF]
  split
  · rename_i h2; rw [h] at h2; cases h2
  · rename_i h2; rw [h] at h2; cases h2; rfl
theorem endF_jo0 {s rs} (h : rs[if s then rs.length - 1 else 0]? = none) : endF s (.jo rs) = none := by
  rw [endF]
  split
  · rfl
  · rename_i h2; rw [h] at h2; cases h2
theorem endF_zp (s : Bool) : ∀ (n : Nat) (r : Rw), r.dep ≤ n → ∀ fs, endF s r = some fs → Zp r fs
  | n, .c x, _, fs, e => by rw [endF_c] at e; cases e; exact .nil
  | 0, .ri r, h, fs, e => by simp [Rw.dep] at h
  | 0, .le r, h, fs, e => by simp [Rw.dep] at h
  | 0, .jo r, h, fs, e => by simp [Rw.dep] at h
  | n, .mi r, _, fs, e => by rw [endF_mi] at e; cases e
  | n + 1, .ri r, h, fs, e => by
    rw [endF_ri] at e
    cases s with
    | true => cases e
    | false =>
      simp only [Bool.false_eq_true, if_false, Option.map_eq_some_iff] at e
      obtain ⟨gs, e1, rfl⟩ := e
      exact .cons (f := ⟨.ri r, [0], r⟩) (.ri (by omega)) (endF_zp false n r (by simp only [Rw.dep] at h; omega) gs e1)
  | n + 1, .le r, h, fs, e => by
    rw [endF_le] at e
    cases s with
    | false => cases e
    | true =>
      simp only [if_true, Option.map_eq_some_iff] at e
      obtain ⟨gs, e1, rfl⟩ := e
      exact .cons (f := ⟨.le r, [0], r⟩) (.le (by omega)) (endF_zp true n r (by simp only [Rw.dep] at h; omega) gs e1)
  | n + 1, .jo rs, h, fs, e => by
    cases hr : rs[if s then rs.length - 1 else 0]? with
    | none => rw [endF_jo0 hr] at e; cases e
    | some r =>
      rw [endF_jo hr] at e
      simp only [Option.map_eq_some_iff] at e
      obtain ⟨gs, e1, rfl⟩ := e
      exact .cons (f := ⟨.jo rs, _, r⟩) (.jo hr) (endF_zp s n r (by have := deps_mem (List.mem_of_getElem? hr); simp only [Rw.dep] at h; omega) gs e1)
theorem endF_ok {s : Bool} {r : Rw} {fs : List Fr} (e : endF s r = some fs) : Zp r fs := endF_zp s _ r (Nat.le_refl _) fs e

inductive Stp where
  | blk | pass | fnd (gs : List Fr)
end EV
set_option maxRecDepth 100000
namespace EV
open PySem L2
namespace Lw
def b_mixed_part : Ss :=
    (.cons (.ret (.ix (.ix (.var 0) (.int 1)) (.bin .mod (.bin .sub (.var 1) (.int 1)) (.blt "len" (.cons false (.ix (.var 0) (.int 1)) .nil)))))
    .nil)
def f_mixed_part : Fn := ⟨2, 2, b_mixed_part⟩
def b_key_of : Ss :=
    (.cons (.ret (.ite (.cmp .eq (.ix (.var 0) (.int 0)) (.str "mix")) (.sl (.var 1) .no (.so (.int 2))) (.sl (.var 1) .no (.so (.int 1)))))
    .nil)
def f_key_of : Fn := ⟨2, 2, b_key_of⟩
def b_part_at : Ss :=
    (.cons (.ite (.cmp .eq (.ix (.var 0) (.int 0)) (.str "join"))
    (.cons (.ret (.ix (.ix (.var 0) (.int 1)) (.ix (.var 1) (.int 0))))
    .nil)
    .nil)
    (.cons (.ret (.ite (.cmp .eq (.ix (.var 0) (.int 0)) (.str "mix")) (.call "mixed_part" (.cons false (.var 0) (.cons false (.ix (.var 1) (.int 1)) .nil))) (.ix (.var 0) (.int 1))))
    .nil))
def f_part_at : Fn := ⟨2, 2, b_part_at⟩
def b_opened : Ss :=
    (.cons (.set 2 false (.call "key_of" (.cons false (.var 0) (.cons false (.var 1) .nil))))
    (.cons (.ret (.tup (.cons false (.var 2) (.cons false (.call "part_at" (.cons false (.var 0) (.cons false (.var 2) .nil))) (.cons false (.sl (.var 1) (.so (.blt "len" (.cons false (.var 2) .nil))) .no) .nil)))))
    .nil))
def f_opened : Fn := ⟨2, 3, b_opened⟩
def b_opened_joins : Ss :=
    (.cons (.ite (.or (.cons (.tru (.isi (.var 0) ["str"])) (.cons (.cmp .ne (.ix (.var 0) (.int 0)) (.str "join")) .nil)))
    (.cons (.ret (.lst (.cons false (.var 0) .nil)))
    .nil)
    .nil)
    (.cons (.set 1 true (.lst .nil))
    (.cons (.for_ (.name 2) (.val (.ix (.var 0) (.int 1)))
    (.cons (.ext 1 (.call "opened_joins" (.cons false (.var 2) .nil)))
    .nil) [2])
    (.cons (.ret (.var 1))
    .nil))))
def f_opened_joins : Fn := ⟨1, 3, b_opened_joins⟩
def b_laid : Ss :=
    (.cons (.ite (.cmp .lt (.blt "len" (.cons false (.var 0) .nil)) (.int 2))
    (.cons (.ret (.ite (.and (.cons (.cmp .ne (.var 0) (.lst .nil)) (.cons (.cmp .ne (.var 0) (.tup .nil)) .nil))) (.ix (.var 0) (.int 0)) .non))
    .nil)
    .nil)
    (.cons (.set 1 true (.lst .nil))
    (.cons (.for_ (.name 2) (.val (.var 0))
    (.cons (.ext 1 (.call "opened_joins" (.cons false (.var 2) .nil)))
    .nil) [2])
    (.cons (.ret (.tup (.cons false (.str "join") (.cons false (.blt "tuple" (.cons false (.var 1) .nil)) .nil))))
    .nil))))
def f_laid : Fn := ⟨1, 3, b_laid⟩
def b_there : Ss :=
    (.cons (.ret (.comp (.var 1) (.name 1) (.val (.var 0)) (.cons (.cmp .isnot (.var 1) .non) .nil) [1]))
    .nil)
def f_there : Fn := ⟨1, 2, b_there⟩
def b_is_count : Ss :=
    (.cons (.ret (.and (.cons false (.isi (.var 0) ["int"]) (.cons false (.not (.isi (.var 0) ["bool"])) (.cons false (.cmp .ge (.var 0) (.int 0)) .nil)))))
    .nil)
def f_is_count : Fn := ⟨1, 1, b_is_count⟩
def b_is_fraction_key : Ss :=
    (.cons (.ret (.and (.cons false (.cmp .gt (.var 1) (.int 0)) (.cons false (.cmp .eq (.bin .mod (.var 0) (.int 2)) (.int 1)) (.cons false (.cmp .le (.bits (.var 0)) (.var 1)) .nil)))))
    .nil)
def f_is_fraction_key : Fn := ⟨2, 2, b_is_fraction_key⟩
def b_leads : Ss :=
    (.cons (.ite (.or (.cons (.tru (.isi (.var 0) ["str"])) (.cons (.cmp .eq (.var 1) (.tup .nil)) .nil)))
    (.cons (.ret (.and (.cons false (.isi (.var 0) ["str"]) (.cons false (.cmp .eq (.var 1) (.tup .nil)) .nil))))
    .nil)
    .nil)
    (.cons (.ite (.cmp .eq (.ix (.var 0) (.int 0)) (.str "join"))
    (.cons (.ret (.and (.cons false (.cmp .lt (.ix (.var 1) (.int 0)) (.blt "len" (.cons false (.ix (.var 0) (.int 1)) .nil))) (.cons false (.call "leads" (.cons false (.ix (.ix (.var 0) (.int 1)) (.ix (.var 1) (.int 0))) (.cons false (.sl (.var 1) (.so (.int 1)) .no) .nil))) .nil))))
    .nil)
    .nil)
    (.cons (.ite (.cmp .ne (.ix (.var 0) (.int 0)) (.str "mix"))
    (.cons (.ret (.call "leads" (.cons false (.ix (.var 0) (.int 1)) (.cons false (.sl (.var 1) (.so (.int 1)) .no) .nil))))
    .nil)
    .nil)
    (.cons (.ite (.or (.cons (.cmp .lt (.blt "len" (.cons false (.var 1) .nil)) (.int 2)) (.cons (.not (.tru (.call "is_fraction_key" (.cons false (.ix (.var 1) (.int 0)) (.cons false (.ix (.var 1) (.int 1)) .nil))))) .nil)))
    (.cons (.ret (.bl false))
    .nil)
    .nil)
    (.cons (.ret (.call "leads" (.cons false (.call "mixed_part" (.cons false (.var 0) (.cons false (.ix (.var 1) (.int 1)) .nil))) (.cons false (.sl (.var 1) (.so (.int 2)) .no) .nil))))
    .nil)))))
def f_leads : Fn := ⟨2, 2, b_leads⟩
def b_is_place : Ss :=
    (.cons (.ret (.and (.cons false (.isi (.var 1) ["tuple"]) (.cons false (.blt "all" (.cons false (.comp (.call "is_count" (.cons false (.var 2) .nil)) (.name 2) (.val (.var 1)) .nil [2]) .nil)) (.cons false (.call "leads" (.cons false (.var 0) (.cons false (.var 1) .nil))) .nil)))))
    .nil)
def f_is_place : Fn := ⟨2, 3, b_is_place⟩
end Lw
end EV
set_option maxRecDepth 100000
namespace EV
open PySem L2
@[simp] theorem isD_nn : isD .non .non = .ok true := rfl
@[simp] theorem isD_tn (x) : isD (.tup x) .non = .ok false := rfl
@[simp] theorem isD_ln (x) : isD (.lst x) .non = .ok false := rfl
@[simp] theorem isD_in (x) : isD (.int x) .non = .ok false := rfl
@[simp] theorem isD_sn (x) : isD (.str x) .non = .ok false := rfl
@[simp] theorem isD_bn (x) : isD (.bl x) .non = .ok false := rfl
@[simp] theorem isD_rown (r : Rw) : isD r.d .non = .ok false := isD_row r
@[simp] theorem sok_r : PyData.strOk "right" = true := by decide +kernel
@[simp] theorem sok_l : PyData.strOk "left" = true := by decide +kernel
@[simp] theorem sok_j : PyData.strOk "join" = true := by decide +kernel
@[simp] theorem sok_m : PyData.strOk "mix" = true := by decide +kernel
theorem any_s {x : Str} {ys : List Str} (hx : PyData.strOk x = true) (hy : ∀ y ∈ ys, PyData.strOk y = true) : anyD (.str x) (ys.map .str) = .ok (ys.any (· == x)) := by
  have nx : (D.str x).nice = true := hx
  have ny : (D.lst (ys.map .str)).nice = true := by
    simp only [D.nice]
    exact nices_all.mpr fun d hd => by obtain ⟨y, h, rfl⟩ := List.mem_map.mp hd; exact hy y h
  have d1 : (D.str x).dp ≤ 64 := by simp [D.dp]
  have d2 : (D.lst (ys.map .str)).dp ≤ 64 := by
    have : D.dps (ys.map .str) ≤ 0 := dps_le.mpr fun d hd => by obtain ⟨y, h, rfl⟩ := List.mem_map.mp hd; simp [D.dp]
    simp only [D.dp]; omega
  unfold anyD
  rw [okq_of nx d1, okq_of ny d2]
  simp [List.any_map, Function.comp_def, D.py, PyData.eqv]
@[simp] theorem in_s2 (h : AH) (x a b : Str) (hx : PyData.strOk x = true) (ha : PyData.strOk a = true) (hb : PyData.strOk b = true) : inD h (.str x) (.tup [.str a, .str b]) = .ok (a == x || b == x) := by
  have := any_s (ys := [a, b]) hx (by simp [ha, hb])
  simpa [inD] using this

def ad (p : List Int) : D := .tup (p.map .int)
def odA : Option (List Fr) → D
  | none => .non
  | some fs => ad (adr fs)
def Sm (p : List Int) : Prop := ∀ i ∈ p, i.natAbs < 2 ^ 200
theorem Sm.nil : Sm [] := by simp [Sm]
theorem Sm.app {p q : List Int} : Sm (p ++ q) ↔ Sm p ∧ Sm q := by
  constructor
  · intro h; exact ⟨fun i hi => h i (by simp [hi]), fun i hi => h i (by simp [hi])⟩
  · rintro ⟨a, b⟩ i hi
    rcases List.mem_append.mp hi with h | h
    · exact a i h
    · exact b i h
theorem int_nice {i : Int} (h : i.natAbs < 2 ^ 200) : (D.int i).nice = true := by
  simp only [D.nice, decide_eq_true_eq]
  by_cases h0 : i.natAbs = 0
  · rw [h0]; decide
  · have := (Nat.log2_lt h0).mpr h
    omega
theorem ad_nice {p : List Int} (h : Sm p) : (ad p).nice = true := by
  simp only [ad, D.nice]
  exact nices_all.mpr fun d hd => by obtain ⟨i, hi, rfl⟩ := List.mem_map.mp hd; exact int_nice (h i hi)
theorem ad_dp (p : List Int) : (ad p).dp ≤ 1 := by
  have : D.dps (p.map .int) ≤ 0 := dps_le.mpr fun d hd => by obtain ⟨i, hi, rfl⟩ := List.mem_map.mp hd; simp [D.dp]
  simp only [ad, D.dp]; omega
theorem szs_len : ∀ rs : List Rw, rs.length ≤ Rw.szs rs
  | [] => by simp
  | r :: rs => by have := r.sz_pos; have := szs_len rs; simp only [Rw.szs, List.length_cons]; omega

theorem end_sm (s : Bool) : ∀ (n : Nat) (r : Rw), r.dep ≤ n → r.sz < 2 ^ 100 → ∀ fs, endF s r = some fs → Sm (adr fs)
  | n, .c x, _, _, fs, e => by rw [endF_c] at e; cases e; exact .nil
  | 0, .ri r, h, _, fs, e => by simp [Rw.dep] at h
  | 0, .le r, h, _, fs, e => by simp [Rw.dep] at h
  | 0, .jo r, h, _, fs, e => by simp [Rw.dep] at h
  | n, .mi r, _, _, fs, e => by rw [endF_mi] at e; cases e
  | n + 1, .ri r, h, hz, fs, e => by
    rw [endF_ri] at e
    cases s with
    | true => cases e
    | false =>
      simp only [Bool.false_eq_true, if_false, Option.map_eq_some_iff] at e
      obtain ⟨gs, e1, rfl⟩ := e
      have := end_sm false n r (by simp only [Rw.dep] at h; omega) (by simp only [Rw.sz] at hz; omega) gs e1
      rw [adr_cons]
      exact Sm.app.mpr ⟨by simp [Sm], this⟩
  | n + 1, .le r, h, hz, fs, e => by
    rw [endF_le] at e
    cases s with
    | false => cases e
    | true =>
      simp only [if_true, Option.map_eq_some_iff] at e
      obtain ⟨gs, e1, rfl⟩ := e
      have := end_sm true n r (by simp only [Rw.dep] at h; omega) (by simp only [Rw.sz] at hz; omega) gs e1
      rw [adr_cons]
      exact Sm.app.mpr ⟨by simp [Sm], this⟩
  | n + 1, .jo rs, h, hz, fs, e => by
    cases hr : rs[if s then rs.length - 1 else 0]? with
    | none => rw [endF_jo0 hr] at e; cases e
    | some r =>
      rw [endF_jo hr] at e
      simp only [Option.map_eq_some_iff] at e
      obtain ⟨gs, e1, rfl⟩ := e
      have m := List.mem_of_getElem? hr
      have := szs_mem m
      have := end_sm s n r (by have := deps_mem m; simp only [Rw.dep] at h; omega) (by simp only [Rw.sz] at hz; omega) gs e1
      have hl := szs_len rs
      rw [adr_cons]
      refine Sm.app.mpr ⟨?_, this⟩
      intro i hi
      simp at hi
      subst hi
      simp only [Rw.sz] at hz
      split <;> omega
structure Rw.Gd (r : Rw) : Prop where
  wf : r.Wf
  sz : r.sz < 100000
  dep : r.dep ≤ 30
theorem Rw.Gd.end_sm {r : Rw} (h : r.Gd) {s fs} (e : endF s r = some fs) : Sm (adr fs) := EV.end_sm s _ r (Nat.le_refl _) (by have := h.sz; omega) fs e
theorem FrOk.gd {f : Fr} (h : FrOk f) (hr : f.row.Gd) : f.part.Gd := ⟨h.wf hr.wf, by have := h.sz; have := hr.sz; omega, by have := h.dep; have := hr.dep; omega⟩
theorem Zp.alen {r : Rw} {fs : List Fr} (h : Zp r fs) : (adr fs).length ≤ 2 * r.dep := by
  induction h with
  | nil => simp
  | @cons f fs a b ih =>
    have := a.dep
    have : f.key.length ≤ 2 := by cases a <;> simp
    rw [adr_cons, List.length_append]
    omega
section
variable {GG : Glob} {T : Tab}
structure TOpen (T : Tab) : Prop where
  mixed_part : T "mixed_part" = some Lw.f_mixed_part
  key_of : T "key_of" = some Lw.f_key_of
  part_at : T "part_at" = some Lw.f_part_at
  opened : T "opened" = some Lw.f_opened
end
end EV
set_option maxRecDepth 100000
namespace EV
open PySem L2
section
variable {GG : Glob} {T : Tab}
theorem Sm.key {f : Fr} {fs : List Fr} (h : Sm (adr (f :: fs))) : Sm f.key ∧ Sm (adr fs) := Sm.app.mp h
end
end EV
set_option maxRecDepth 100000
namespace EV
open PySem L2
@[simp] theorem isTys_row {f : Fr} (hf : FrOk f) (h : AH) : isTys h f.row.d ["str"] = .ok false := by cases hf <;> simp
def Dr (fs : List Fr) : Prop := ∀ f ∈ fs, (∀ i ∈ f.key, i ≤ 1000) ∧ ∀ k n, f.key = [k, n] → n ≤ 6
theorem Dr.cons {f : Fr} {fs : List Fr} (h : Dr (f :: fs)) : ((∀ i ∈ f.key, i ≤ 1000) ∧ ∀ k n, f.key = [k, n] → n ≤ 6) ∧ Dr fs := ⟨h f (by simp), fun g hg => h g (by simp [hg])⟩
def Mod (m : Int) (fs : List Fr) : Prop := ∀ f ∈ fs, ∀ i ∈ f.key, i ≤ m
theorem Mod.cons {m : Int} {f : Fr} {fs : List Fr} (h : Mod m (f :: fs)) : (∀ i ∈ f.key, i ≤ m) ∧ Mod m fs := ⟨h f (by simp), fun g hg => h g (by simp [hg])⟩
theorem Dr.mod {fs : List Fr} (h : Dr fs) : Mod 1000 fs := fun f hf => (h f hf).1
theorem Mod.sm {m : Int} {r : Rw} {fs : List Fr} (z : Zp r fs) (h : Mod m fs) (hm : m ≤ 1000000) : Sm (adr fs) := by
  intro i hi
  have h0 := z.nonneg i hi
  obtain ⟨l, hl, hi⟩ := List.mem_flatten.mp hi
  obtain ⟨f, hf, rfl⟩ := List.mem_map.mp hl
  have := h f hf i hi
  have : i.natAbs ≤ 1000000 := by omega
  have : (1000000 : Nat) < 2 ^ 200 := by decide
  omega
section
variable {GG : Glob} {T : Tab}
end
end EV
set_option maxRecDepth 100000
namespace EV
open PySem L2
theorem compA {α : Type} {turn : D → Env → AH → R (Option D × Env × AH)} (f g : α → D) {σ : Env} {h : AH} : ∀ (l : List α) (acc : List D), (∀ x ∈ l, turn (f x) σ h = .ok (some (g x), σ, h)) → compL turn (l.map f) acc σ h = .ok (acc ++ l.map g, σ, h)
  | [], acc, _ => by simp [compL]
  | x :: l, acc, ht => by
    rw [List.map_cons]
    unfold compL
    rw [ht x List.mem_cons_self, R.bind_ok]
    refine (compA f g l (acc ++ [g x]) fun y hy => ht y (List.mem_cons_of_mem _ hy)).trans ?_
    simp
theorem compW {α : Type} {turn : D → Env → AH → R (Option D × Env × AH)} {f : α → D} (g : α → D) {σ : Env} {h : AH} (l : List α) {Q : List D × Env × AH → Prop} (ht : ∀ x ∈ l, W (turn (f x) σ h) fun z => z = (some (g x), σ, h)) (q : Q (l.map g, σ, h)) : W (compL turn (l.map f) [] σ h) Q :=
  W.of_eq (by simpa using compA f g l [] fun x hx => (ht x hx).eq) q
theorem intsOf_map : ∀ l : List Int, intsOf (l.map .int) = some l
  | [] => rfl
  | i :: l => by simp [intsOf, intsOf_map l]
@[simp] theorem blt_sum (h : AH) (l : List Int) : bltD h "sum" [.lst (l.map .int)] = .ok (.int l.sum) := by
  rw [show bltD h "sum" [.lst (l.map .int)] = b_sum h [.lst (l.map .int)] from rfl]
  unfold b_sum
  simp only [intsOf_map]
section
variable {GG : Glob} {T : Tab}
end
end EV
set_option maxRecDepth 100000
namespace EV
open PySem L2
section
variable {GG : Glob} {T : Tab}
end
end EV
set_option maxRecDepth 100000
namespace EV
open PySem L2
section
variable {GG : Glob} {T : Tab}
def Dr9 (fs : List Fr) : Prop := Dr fs ∧ ∀ f ∈ fs, ∀ k, f.key = [k] → k ≤ 24
def Way (r : Rw) (fs0 : List Fr) (r' : Rw) : Prop := ∀ fs, Zp r' fs → Zp r (fs0 ++ fs)
theorem Way.nil (r : Rw) : Way r [] r := fun fs z => z
end
end EV
set_option maxRecDepth 100000
namespace EV
open PySem L2
theorem cut_mid {α : Type} (xs : List α) (a b : Nat) : cutG xs (some (a : Int)) (some (b : Int)) = (xs.drop a).take (b - a) := by
  unfold cutG
  rw [HT.sIx_nat, HT.sIx_nat]
  by_cases h1 : a ≤ xs.length
  · rw [Nat.min_eq_left h1]
    by_cases h2 : b ≤ xs.length
    · rw [Nat.min_eq_left h2]
    · rw [Nat.min_eq_right (show xs.length ≤ b by omega), List.take_of_length_le (by simp), List.take_of_length_le (by simp; omega)]
  · rw [Nat.min_eq_right (show xs.length ≤ a by omega), List.drop_length, List.drop_eq_nil_of_le (show xs.length ≤ a by omega)]
    simp
@[simp] theorem len_ad (h : AH) (p : List Int) : bltD h "len" [ad p] = .ok (.int p.length) := by
  show bltD h "len" [.tup _] = _
  rw [blt_lenT]; simp
@[simp] theorem isTys_ad (h : AH) (p) : isTys h (ad p) ["str"] = .ok false := rfl
section
variable {GG : Glob} {T : Tab}
theorem Dr9.app {fs gs : List Fr} : Dr9 (fs ++ gs) ↔ Dr9 fs ∧ Dr9 gs := by
  constructor
  · rintro ⟨a, b⟩
    exact ⟨⟨fun f hf => a f (by simp [hf]), fun f hf => b f (by simp [hf])⟩, ⟨fun f hf => a f (by simp [hf]), fun f hf => b f (by simp [hf])⟩⟩
  · rintro ⟨⟨a, b⟩, c, d⟩
    exact ⟨fun f hf => by rcases List.mem_append.mp hf with h | h; exact a f h; exact c f h, fun f hf => by rcases List.mem_append.mp hf with h | h; exact b f h; exact d f h⟩
end
end EV
set_option maxRecDepth 100000
namespace EV
open PySem L2
@[simp] theorem eqD_bl (a b) : eqD (.bl a) (.bl b) = .ok (a == b) := by
  rw [eqD_of rfl rfl (by simp [D.dp]) (by simp [D.dp])]
  simp [eqB, D.py, PyData.eqv]
theorem compB {α : Type} {turn : D → Env → AH → R (Option D × Env × AH)} (f : α → D) (g : α → Option D) {σ : Env} {h : AH} : ∀ (l : List α) (acc : List D), (∀ x ∈ l, turn (f x) σ h = .ok (g x, σ, h)) → compL turn (l.map f) acc σ h = .ok (acc ++ l.filterMap g, σ, h)
  | [], acc, _ => by simp [compL]
  | x :: l, acc, ht => by
    rw [List.map_cons]
    unfold compL
    rw [ht x List.mem_cons_self, R.bind_ok]
    refine (compB f g l (match g x with | some d => acc ++ [d] | none => acc) fun y hy => ht y (List.mem_cons_of_mem _ hy)).trans ?_
    rw [List.filterMap_cons]
    cases g x <;> simp
theorem compF {α : Type} {turn : D → Env → AH → R (Option D × Env × AH)} {f : α → D} (g : α → D) (p : α → Bool) {σ : Env} {h : AH} (l : List α) {Q : List D × Env × AH → Prop} (ht : ∀ x ∈ l, W (turn (f x) σ h) fun z => z = (if p x then some (g x) else none, σ, h)) (q : Q ((l.filter p).map g, σ, h)) : W (compL turn (l.map f) [] σ h) Q := by
  refine W.of_eq (compB f (fun x => if p x then some (g x) else none) l [] fun x hx => (ht x hx).eq) ?_
  have : (l.filterMap fun x => if p x = true then some (g x) else none) = (l.filter p).map g := by
    clear ht q
    induction l with
    | nil => rfl
    | cons x l ih => cases hp : p x <;> simp [hp, ih]
  rw [this]
  exact q
theorem int_wt {i : Int} (h : i.natAbs < 2 ^ 200) : (D.int i).wt ≤ 1921 := by
  have := int_nice h
  simp only [D.nice, decide_eq_true_eq] at this
  exact PyProof.Rows.int_text_len_1921 this
theorem ad_wt {p : List Int} (h : Sm p) : (ad p).wt ≤ 4 + p.length * 1923 := by
  have : D.wts (p.map .int) ≤ (p.map D.int).length * 1923 := wts_le fun d hd => by
    obtain ⟨i, hi, rfl⟩ := List.mem_map.mp hd
    have := int_wt (h i hi)
    omega
  rw [List.length_map] at this
  simp only [ad, D.wt]; omega
structure D.Rp (d : D) : Prop where
  nice : d.nice = true
  dp : d.dp ≤ 62
  wt : d.wt ≤ 200000
theorem D.Rp.eq {a b : D} (ha : a.Rp) (hb : b.Rp) : eqD a b = .ok (eqB a b) := eqD_of ha.nice hb.nice (by have := ha.dp; omega) (by have := hb.dp; omega)
theorem D.Rp.self {a : D} (ha : a.Rp) : eqD a a = .ok true := by rw [D.Rp.eq ha ha, eqB_self ha.nice]
theorem D.Rp.repr {d : D} (h : d.Rp) (h' : AH) : bltD h' "repr" [d] = .ok (.str (PyData.shown d.py)) := repr_of h.nice (by have := h.dp; omega) (by have := h.wt; omega)
theorem D.Rp.lst {ds : List D} (h : ∀ d ∈ ds, d.Rp) (hl : ds.length ≤ 50) (h' : AH) : bltD h' "repr" [.lst ds] = .ok (.str (PyData.shown (D.lst ds).py)) := by
  refine repr_of ?_ ?_ ?_
  · simp only [D.nice]; exact nices_all.mpr fun d hd => (h d hd).nice
  · simp only [D.dp]; have : D.dps ds ≤ 62 := dps_le.mpr fun d hd => (h d hd).dp; omega
  · have : D.wts ds ≤ ds.length * 200002 := wts_le fun d hd => by have := (h d hd).wt; omega
    simp only [D.wt]; omega
theorem D.Rp.non : D.non.Rp := ⟨rfl, by simp [D.dp], by simp [D.wt]⟩
theorem D.Rp.bl (b) : (D.bl b).Rp := ⟨rfl, by simp [D.dp], by simp [D.wt]⟩
theorem D.Rp.ad {p : List Int} (h : Sm p) (hl : p.length ≤ 100) : (ad p).Rp := ⟨ad_nice h, by have := ad_dp p; omega, by have := ad_wt h; omega⟩
theorem D.Rp.row {r : Rw} (h : r.Wf) (hd : r.dep ≤ 31) (hz : r.sz ≤ 10000) : r.d.Rp := ⟨h.nice, by have := r.dp_le; omega, by have := h.wt; omega⟩
theorem D.Rp.odA {o : Option (List Fr)} (h : ∀ fs, o = some fs → Sm (adr fs) ∧ (adr fs).length ≤ 100) : (odA o).Rp := by
  cases o with
  | none => exact .non
  | some fs => exact .ad (h fs rfl).1 (h fs rfl).2
theorem D.Rp.end {r : Rw} (g : r.Gd) (s : Bool) : (EV.odA (endF s r)).Rp := .odA fun fs e => ⟨g.end_sm e, by have := (endF_ok e).alen; have := g.dep; omega⟩
@[simp] theorem isD_ad (p) : isD (ad p) .non = .ok false := rfl
end EV
set_option maxRecDepth 100000
namespace EV
open PySem L2
@[simp] theorem isTys_it (h : AH) (i) : isTys h (.int i) ["int"] = .ok true := rfl
@[simp] theorem isTys_ib (h : AH) (i) : isTys h (.int i) ["bool"] = .ok false := rfl
@[simp] theorem isTys_adt (h : AH) (p) : isTys h (ad p) ["tuple"] = .ok true := rfl
section
variable {GG : Glob} {T : Tab}
structure TLead (T : Tab) : Prop where
  is_count : T "is_count" = some Lw.f_is_count
  frac : T "is_fraction_key" = some Lw.f_is_fraction_key
  leads : T "leads" = some Lw.f_leads
  is_place : T "is_place" = some Lw.f_is_place
  mixed_part : T "mixed_part" = some Lw.f_mixed_part
end
end EV
set_option maxRecDepth 100000
namespace EV
open PySem L2
theorem opns_szs (r : Rw) : Rw.szs r.opn ≤ r.sz := by
  induction r using Rw.ind with
  | hc x => simp [Rw.szs, Rw.sz]
  | hr r _ => simp [Rw.szs, Rw.sz]
  | hl r _ => simp [Rw.szs, Rw.sz]
  | hm r _ => simp [Rw.szs, Rw.sz]
  | hj rs ih =>
    have : ∀ l : List Rw, (∀ r ∈ l, Rw.szs r.opn ≤ r.sz) → Rw.szs (Rw.opns l) ≤ Rw.szs l := fun l => by
      induction l with
      | nil => simp
      | cons r l ih => intro h; have := h r (by simp); have := ih fun x hx => h x (by simp [hx]); rw [opns_cons, szs_app]; simp only [Rw.szs]; omega
    have := this rs ih
    simp only [opn_jo, Rw.sz]; omega
theorem szs_opns : ∀ l : List Rw, Rw.szs (Rw.opns l) ≤ Rw.szs l
  | [] => by simp
  | r :: l => by have := opns_szs r; have := szs_opns l; rw [opns_cons, szs_app]; simp only [Rw.szs]; omega
def beyond (s : Bool) (f : Fr) : List Rw := match f.row, f.key with
  | .jo rs, [k] => if s then rs.drop (k + 1).toNat else rs.take k.toNat
  | .ri r, [k] => if s then [.ri r] else List.replicate k.toNat r
  | .le r, [k] => if s then List.replicate k.toNat r else [.le r]
  | r, _ => [r]
end EV
set_option maxRecDepth 100000
namespace EV
open PySem L2
section
variable {GG : Glob} {T : Tab}
structure Ls (rs : List Rw) : Prop where
  r : ∀ x ∈ rs, x.Wf ∧ x.dep ≤ 31
  z : Rw.szs rs ≤ 4000000
theorem Ls.len {rs : List Rw} (h : Ls rs) : (Rw.opns rs).length ≤ 4000000 := by
  have a := szs_len (Rw.opns rs)
  have b := szs_opns rs
  have := h.z
  omega
structure TSide (T : Tab) : Prop where
  o : TOpen T
  oj : T "opened_joins" = some Lw.f_opened_joins
  laid : T "laid" = some Lw.f_laid
  there : T "there" = some Lw.f_there
structure Bd (r : Rw) (fs : List Fr) (m Z : Nat) : Prop where
  m1 : 1 ≤ m
  m2 : m ≤ 2000
  key : ∀ f ∈ fs, ∀ i ∈ f.key, i ≤ m
  z : r.sz ≤ Z
  z2 : Z ≤ 40
  d : r.dep ≤ 9
theorem Bd.cons {f : Fr} {fs : List Fr} {m Z : Nat} (h : Bd f.row (f :: fs) m Z) (a : FrOk f) : Bd f.part fs m Z := ⟨h.m1, h.m2, fun g hg => h.key g (by simp [hg]), by have := a.sz; have := h.z; omega, h.z2, by have := a.dep; have := h.d; omega⟩
end
end EV
set_option maxRecDepth 100000
namespace EV
open PySem L2
namespace Lw
def b_number_of : Ss :=
    (.cons (.ret (.bin .sub (.blt "sum" (.cons false (.comp (.ix (.glob "DOUBLES") (.var 1)) (.name 1) (.val (.var 0)) .nil [1]) .nil)) (.int 1)))
    .nil)
def f_number_of : Fn := ⟨1, 2, b_number_of⟩
def b_lot_of : Ss :=
    (.cons (.ret (.blt "tuple" (.cons false (.sset (.var 0)) .nil)))
    .nil)
def f_lot_of : Fn := ⟨1, 1, b_lot_of⟩
def b_both_of : Ss :=
    (.cons (.ret (.ix (.ix (.ix (.var 0) (.int 0)) (.var 1)) (.var 2)))
    .nil)
def f_both_of : Fn := ⟨3, 3, b_both_of⟩
def b_right_of : Ss :=
    (.cons (.ret (.ix (.ix (.var 0) (.int 1)) (.var 1)))
    .nil)
def f_right_of : Fn := ⟨2, 2, b_right_of⟩
def b_left_of : Ss :=
    (.cons (.ret (.ix (.ix (.var 0) (.int 2)) (.var 1)))
    .nil)
def f_left_of : Fn := ⟨2, 2, b_left_of⟩
def b_mixed_of : Ss :=
    (.cons (.ret (.ix (.ix (.var 0) (.int 3)) (.call "number_of" (.cons false (.call "lot_of" (.cons false (.var 1) .nil)) .nil))))
    .nil)
def f_mixed_of : Fn := ⟨2, 2, b_mixed_of⟩
def b_joined_of : Ss :=
    (.cons (.set 2 false (.ix (.var 1) (.int 0)))
    (.cons (.for_ (.name 3) (.val (.sl (.var 1) (.so (.int 1)) .no))
    (.cons (.set 2 false (.call "both_of" (.cons false (.var 0) (.cons false (.var 2) (.cons false (.var 3) .nil)))))
    .nil) [3])
    (.cons (.ret (.var 2))
    .nil)))
def f_joined_of : Fn := ⟨2, 4, b_joined_of⟩
def b__law_faced_about : Ss :=
    (.cons (.set 1 false (.blt "len" (.cons false (.ix (.var 0) (.int 1)) .nil)))
    (.cons (.ret (.tup (.cons false (.blt "tuple" (.cons false (.comp (.blt "tuple" (.cons false (.comp (.ix (.ix (.ix (.var 0) (.int 0)) (.var 2)) (.var 3)) (.name 2) (.rng1 (.var 1)) .nil [2]) .nil)) (.name 3) (.rng1 (.var 1)) .nil [3]) .nil)) (.cons false (.ix (.var 0) (.int 2)) (.cons false (.ix (.var 0) (.int 1)) (.cons false (.ix (.var 0) (.int 3)) .nil))))))
    .nil))
def f__law_faced_about : Fn := ⟨1, 4, b__law_faced_about⟩
def b__law_any_order : Ss :=
    (.cons (.set 2 true (.blt "list" (.cons false (.var 1) .nil)))
    (.cons (.ret (.comp (.popA 2 (.call "_law_pick" (.cons false (.var 0) (.cons false (.lenb 2) .nil)))) (.name 3) (.rng1 (.lenb 2)) .nil [3]))
    .nil))
def f__law_any_order : Fn := ⟨2, 4, b__law_any_order⟩
def b__law_lots : Ss :=
    (.cons (.set 1 false (.lst (.cons false (.tup .nil) .nil)))
    (.cons (.for_ (.name 2) (.rng1 (.var 0))
    (.cons (.set 1 false (.bin .add (.var 1) (.comp (.bin .add (.var 3) (.tup (.cons false (.var 2) .nil))) (.name 3) (.val (.var 1)) .nil [3])))
    .nil) [2])
    (.cons (.ret (.sl (.var 1) (.so (.int 1)) .no))
    .nil)))
def f__law_lots : Fn := ⟨1, 4, b__law_lots⟩
def b__law_number : Ss :=
    (.cons (.ret (.bin .sub (.blt "sum" (.cons false (.comp (.ix (.lst (.cons false (.int 1) (.cons false (.int 2) (.cons false (.int 4) (.cons false (.int 8) (.cons false (.int 16) (.cons false (.int 32) .nil))))))) (.var 1)) (.name 1) (.val (.var 0)) .nil [1]) .nil)) (.int 1)))
    .nil)
def f__law_number : Fn := ⟨1, 2, b__law_number⟩
def b__law_lot : Ss :=
    (.cons (.ret (.blt "tuple" (.cons false (.comp (.var 1) (.name 1) (.rng1 (.int 36)) (.cons (.cmp .isin (.var 1) (.var 0)) .nil) [1]) .nil)))
    .nil)
def f__law_lot : Fn := ⟨1, 2, b__law_lot⟩
def b__law_mixed : Ss :=
    (.cons (.ret (.ix (.ix (.var 0) (.int 3)) (.call "_law_number" (.cons false (.call "_law_lot" (.cons false (.var 1) .nil)) .nil))))
    .nil)
def f__law_mixed : Fn := ⟨2, 2, b__law_mixed⟩
def b__law_beside : Ss :=
    (.cons (.par [2, 3] [false, false] (.cons false (.blt "len" (.cons false (.ix (.var 0) (.int 1)) .nil)) (.cons false (.blt "len" (.cons false (.ix (.var 1) (.int 1)) .nil)) .nil)))
    (.cons (.par [4, 5] [false, true] (.cons false (.comp (.tup (.cons false (.bin .fdiv (.var 6) (.var 3)) (.cons false (.bin .mod (.var 6) (.var 3)) .nil))) (.name 6) (.rng1 (.bin .mul (.var 2) (.var 3))) .nil [6]) (.cons false (.lst .nil) .nil)))
    (.cons (.for_ (.tup [7, 8]) (.val (.var 4))
    (.cons (.app 5 (.blt "tuple" (.cons false (.comp (.bin .add (.bin .mul (.ix (.ix (.ix (.var 0) (.int 0)) (.var 7)) (.var 9)) (.var 3)) (.ix (.ix (.ix (.var 1) (.int 0)) (.var 8)) (.var 10))) (.tup [9, 10]) (.val (.var 4)) .nil [9, 10]) .nil)))
    .nil) [7, 8])
    (.cons (.set 11 false (.blt "tuple" (.cons false (.comp (.bin .add (.bin .mul (.ix (.ix (.var 0) (.int 1)) (.var 7)) (.var 3)) (.ix (.ix (.var 1) (.int 1)) (.var 8))) (.tup [7, 8]) (.val (.var 4)) .nil [7, 8]) .nil)))
    (.cons (.set 12 false (.blt "tuple" (.cons false (.comp (.bin .add (.bin .mul (.ix (.ix (.var 0) (.int 2)) (.var 7)) (.var 3)) (.ix (.ix (.var 1) (.int 2)) (.var 8))) (.tup [7, 8]) (.val (.var 4)) .nil [7, 8]) .nil)))
    (.cons (.set 13 true (.lst .nil))
    (.cons (.for_ (.name 14) (.val (.call "_law_lots" (.cons false (.bin .mul (.var 2) (.var 3)) .nil)))
    (.cons (.par [15, 16] [false, false] (.cons false (.comp (.ix (.ix (.var 4) (.var 6)) (.int 0)) (.name 6) (.val (.var 14)) .nil [6]) (.cons false (.comp (.ix (.ix (.var 4) (.var 6)) (.int 1)) (.name 6) (.val (.var 14)) .nil [6]) .nil)))
    (.cons (.app 13 (.bin .add (.bin .mul (.call "_law_mixed" (.cons false (.var 0) (.cons false (.var 15) .nil))) (.var 3)) (.call "_law_mixed" (.cons false (.var 1) (.cons false (.var 16) .nil)))))
    .nil)) [14, 15, 16])
    (.cons (.ret (.tup (.cons false (.blt "tuple" (.cons false (.var 5) .nil)) (.cons false (.var 11) (.cons false (.var 12) (.cons false (.blt "tuple" (.cons false (.var 13) .nil)) .nil))))))
    .nil))))))))
def f__law_beside : Fn := ⟨2, 17, b__law_beside⟩
def b__law_renamed : Ss :=
    (.cons (.set 2 false (.blt "len" (.cons false (.var 1) .nil)))
    (.cons (.set 3 false (.comp (.idx (.var 1) (.var 4)) (.name 4) (.rng1 (.var 2)) .nil [4]))
    (.cons (.set 5 false (.blt "tuple" (.cons false (.comp (.blt "tuple" (.cons false (.comp (.ix (.var 1) (.ix (.ix (.ix (.var 0) (.int 0)) (.ix (.var 3) (.var 4))) (.ix (.var 3) (.var 6)))) (.name 6) (.rng1 (.var 2)) .nil [6]) .nil)) (.name 4) (.rng1 (.var 2)) .nil [4]) .nil)))
    (.cons (.set 7 false (.blt "tuple" (.cons false (.comp (.ix (.var 1) (.ix (.ix (.var 0) (.int 1)) (.ix (.var 3) (.var 4)))) (.name 4) (.rng1 (.var 2)) .nil [4]) .nil)))
    (.cons (.set 8 false (.blt "tuple" (.cons false (.comp (.ix (.var 1) (.ix (.ix (.var 0) (.int 2)) (.ix (.var 3) (.var 4)))) (.name 4) (.rng1 (.var 2)) .nil [4]) .nil)))
    (.cons (.ret (.tup (.cons false (.var 5) (.cons false (.var 7) (.cons false (.var 8) (.cons false (.blt "tuple" (.cons false (.comp (.ix (.var 1) (.call "_law_mixed" (.cons false (.var 0) (.cons false (.comp (.ix (.var 3) (.var 4)) (.name 4) (.val (.var 9)) .nil [4]) .nil)))) (.name 9) (.val (.call "_law_lots" (.cons false (.var 2) .nil))) .nil [9]) .nil)) .nil))))))
    .nil))))))
def f__law_renamed : Fn := ⟨2, 10, b__law_renamed⟩
def b__law_draw_table : Ss :=
    (.cons (.set 1 false (.call "_law_base" (.cons false (.call "_law_pick" (.cons false (.var 0) (.cons false (.int 26) .nil))) .nil)))
    (.cons (.ite (.cmp .eq (.call "_law_pick" (.cons false (.var 0) (.cons false (.int 2) .nil))) (.int 0))
    (.cons (.set 2 false (.call "_law_base" (.cons false (.call "_law_pick" (.cons false (.var 0) (.cons false (.int 26) .nil))) .nil)))
    (.cons (.set 1 false (.ite (.cmp .lt (.bin .mul (.blt "len" (.cons false (.ix (.var 1) (.int 1)) .nil)) (.blt "len" (.cons false (.ix (.var 2) (.int 1)) .nil))) (.int 7)) (.call "_law_beside" (.cons false (.var 1) (.cons false (.var 2) .nil))) (.var 2)))
    .nil))
    .nil)
    (.cons (.set 1 false (.ite (.cmp .eq (.call "_law_pick" (.cons false (.var 0) (.cons false (.int 2) .nil))) (.int 0)) (.call "_law_faced_about" (.cons false (.var 1) .nil)) (.var 1)))
    (.cons (.ret (.call "_law_renamed" (.cons false (.var 1) (.cons false (.call "_law_any_order" (.cons false (.var 0) (.cons false (.lrng false (.int 0) (.blt "len" (.cons false (.ix (.var 1) (.int 1)) .nil))) .nil))) .nil))))
    .nil))))
def f__law_draw_table : Fn := ⟨1, 3, b__law_draw_table⟩
end Lw
end EV
set_option maxRecDepth 100000
namespace EV
open PySem L2
@[simp ↓] theorem turnC_w {G : Glob} {C : Call} (elt : E) (tg : Tg) (ifs : Ts) (own : List Nat) (x : D) (σ1 : Env) (h : AH) {K} : @Wk _ (turnC G C elt tg ifs own x σ1 h) K = @Wk _ (putTg tg x σ1 >>= fun σ2 => evts G C ifs σ2 h >>= fun z =>
  if z.1 then (ev G C elt z.2.1 z.2.2 >>= fun y => .ok (some y.1, killS y.2.1 own, y.2.2)) else .ok (none, killS z.2.1 own, z.2.2)) K := by unfold turnC; rfl
def rT (n : Nat) (f : Nat → Nat) : D := .tup ((List.range n).map fun u => .int ((f u : Nat) : Int))
structure Tb where
  n : Nat
  b : Nat → Nat → Nat
  r : Nat → Nat
  l : Nat → Nat
  m : Nat → Nat
def Tb.bd (t : Tb) : D := .tup ((List.range t.n).map fun s => rT t.n (t.b s))
def Tb.d (t : Tb) : D := .tup [t.bd, rT t.n t.r, rT t.n t.l, rT (2 ^ t.n - 1) t.m]
structure Tb.Ok (t : Tb) : Prop where
  n1 : 1 ≤ t.n
  n6 : t.n ≤ 6
  b : ∀ s, s < t.n → ∀ u, u < t.n → t.b s u < t.n
  r : ∀ s, s < t.n → t.r s < t.n
  l : ∀ s, s < t.n → t.l s < t.n
  m : ∀ k, k < 2 ^ t.n - 1 → t.m k < t.n
@[simp] theorem ix_t0 (h : AH) (t : Tb) : ixD h t.d (.int 0) = .ok t.bd := by simp [Tb.d]
@[simp] theorem ix_t1 (h : AH) (t : Tb) : ixD h t.d (.int 1) = .ok (rT t.n t.r) := by simp [Tb.d]
@[simp] theorem ix_t2 (h : AH) (t : Tb) : ixD h t.d (.int 2) = .ok (rT t.n t.l) := by simp [Tb.d]
@[simp] theorem ix_t3 (h : AH) (t : Tb) : ixD h t.d (.int 3) = .ok (rT (2 ^ t.n - 1) t.m) := by simp [Tb.d]
@[simp] theorem len_rT (h : AH) (n f) : bltD h "len" [rT n f] = .ok (.int n) := by simp [rT]
theorem smN {n : Nat} (h : n ≤ 1000) : smallR 0 (n : Int) = true := smallR1 (by omega) (by omega) (by omega) (by omega)
def lotsA : Nat → List (List Nat)
  | 0 => [[]]
  | n + 1 => lotsA n ++ (lotsA n).map (· ++ [n])
def lotsL (n : Nat) : List (List Nat) := (lotsA n).drop 1
def nT (l : List Nat) : D := .tup (l.map fun x => .int ((x : Nat) : Int))
def nL (l : List Nat) : D := .lst (l.map fun x => .int ((x : Nat) : Int))
def num (l : List Nat) : Int := (l.map fun x => ((2 ^ x : Nat) : Int)).sum - 1
theorem lotsA_len : ∀ n, (lotsA n).length = 2 ^ n
  | 0 => rfl
  | n + 1 => by simp [lotsA, lotsA_len n, Nat.pow_succ]; omega
theorem lotsL_len (n : Nat) : (lotsL n).length = 2 ^ n - 1 := by simp [lotsL, lotsA_len]
theorem lotsA_mem : ∀ {n : Nat} {l : List Nat}, l ∈ lotsA n → l.length ≤ n ∧ ∀ x ∈ l, x < n
  | 0, l, h => by simp [lotsA] at h; subst h; simp
  | n + 1, l, h => by
    simp only [lotsA, List.mem_append, List.mem_map] at h
    rcases h with h | ⟨q, h, rfl⟩
    · have := lotsA_mem h
      exact ⟨by omega, fun x hx => by have := this.2 x hx; omega⟩
    · have := lotsA_mem h
      refine ⟨by simp; omega, fun x hx => ?_⟩
      rcases List.mem_append.mp hx with hx | hx
      · have := this.2 x hx; omega
      · simp at hx; omega
section
variable {GG : Glob} {T : Tab}
def lotOf (l : List Nat) : List Nat := (List.range 36).filter fun x => decide (x ∈ l)
theorem lotOf_lt {l : List Nat} {n : Nat} (hl : ∀ x ∈ l, x < n) (hn : n ≤ 36) : lotOf l = (List.range n).filter fun x => decide (x ∈ l) := by
  have : List.range 36 = List.range n ++ (List.range (36 - n)).map (n + ·) := by
    rw [← List.range_add, show n + (36 - n) = 36 by omega]
  unfold lotOf
  rw [this, List.filter_append]
  have e : ((List.range (36 - n)).map (n + ·)).filter (fun x => decide (x ∈ l)) = [] := by
    rw [List.filter_eq_nil_iff]
    intro x hx
    obtain ⟨y, _, rfl⟩ := List.mem_map.mp hx
    simp
    intro hm
    have := hl _ hm
    omega
  rw [e, List.append_nil]
def bitsN (l : List Nat) : Nat := (l.map fun x => 2 ^ x).sum
theorem num_bits (l : List Nat) : num l = (bitsN l : Int) - 1 := by
  unfold num bitsN
  congr 1
  induction l with
  | nil => rfl
  | cons x l ih => simp only [List.map_cons, List.sum_cons, Int.natCast_add, ih]
theorem bits_filter (p : Nat → Bool) : ∀ n, bitsN ((List.range n).filter p) < 2 ^ n
  | 0 => by simp [bitsN]
  | n + 1 => by
    have ih := bits_filter p n
    rw [List.range_succ, List.filter_append]
    have e : bitsN ((List.range n).filter p ++ [n].filter p) = bitsN ((List.range n).filter p) + bitsN ([n].filter p) := by simp [bitsN]
    rw [e]
    have : bitsN ([n].filter p) ≤ 2 ^ n := by
      by_cases hp : p n <;> simp [hp, bitsN]
    rw [Nat.pow_succ]
    omega
theorem bits_pos {l : List Nat} (h : l ≠ []) : 1 ≤ bitsN l := by
  cases l with
  | nil => exact absurd rfl h
  | cons x l =>
    have : 1 ≤ 2 ^ x := Nat.one_le_two_pow
    simp [bitsN]
    omega
def numOf (l : List Nat) : Nat := bitsN (lotOf l) - 1
theorem numOf_lt {l : List Nat} {n : Nat} (hl : ∀ x ∈ l, x < n) (hn : n ≤ 36) (h0 : l ≠ []) : numOf l < 2 ^ n - 1 ∧ num (lotOf l) = (numOf l : Int) := by
  have h1 : lotOf l ≠ [] := by
    cases l with
    | nil => exact absurd rfl h0
    | cons x l =>
      intro e
      have : x ∈ lotOf (x :: l) := by
        have := hl x (by simp)
        simp [lotOf]; omega
      rw [e] at this
      exact absurd this (by simp)
  have h2 := bits_pos h1
  have h3 := bits_filter (fun x => decide (x ∈ l)) n
  rw [← lotOf_lt hl hn] at h3
  rw [num_bits]
  unfold numOf
  omega
structure TTab (T : Tab) : Prop where
  faced : T "_law_faced_about" = some Lw.f__law_faced_about
  order : T "_law_any_order" = some Lw.f__law_any_order
  lots : T "_law_lots" = some Lw.f__law_lots
  number : T "_law_number" = some Lw.f__law_number
  lot : T "_law_lot" = some Lw.f__law_lot
  mixed : T "_law_mixed" = some Lw.f__law_mixed
def Tb.face (t : Tb) : Tb := ⟨t.n, fun s u => t.b u s, t.l, t.r, t.m⟩
theorem Tb.Ok.face {t : Tb} (h : t.Ok) : t.face.Ok := ⟨h.n1, h.n6, fun s hs u hu => h.b u hu s hs, h.l, h.r, h.m⟩
end
end EV
set_option maxRecDepth 100000
namespace EV
open PySem L2
def invO : List Nat → Nat → Nat
  | [], _ => 0
  | x :: o, s => if x = s then 0 else invO o s + 1
theorem invO_lt : ∀ {o : List Nat} {s : Nat}, s ∈ o → invO o s < o.length
  | [], s, h => absurd h (by simp)
  | x :: o, s, h => by
    unfold invO
    by_cases e : x = s
    · simp [e]
    · have := invO_lt (o := o) (s := s) (by simpa [Ne.symm e] using h)
      simp [e]; omega
structure Ord (n : Nat) (o : List Nat) : Prop where
  len : o.length = n
  lt : ∀ x ∈ o, x < n
  mem : ∀ s, s < n → s ∈ o
  nd : o.Nodup
theorem Ord.inv {n o} (h : Ord n o) {s : Nat} (hs : s < n) : invO o s < n := by have := invO_lt (h.mem s hs); have := h.len; omega
theorem Ord.get {n o} (h : Ord n o) {s : Nat} (hs : s < n) : o.getD s 0 < n := by
  have hl : s < o.length := by rw [h.len]; exact hs
  rw [List.getD_eq_getElem?_getD, List.getElem?_eq_getElem hl]
  exact h.lt _ (List.getElem_mem hl)
@[simp] theorem len_nL (h : AH) (l : List Nat) : bltD h "len" [nL l] = .ok (.int l.length) := by simp [nL]
theorem lotsL_ne {n : Nat} : ∀ {l : List Nat}, l ∈ lotsL n → l ≠ [] := by
  induction n with
  | zero => intro l h; simp [lotsL, lotsA] at h
  | succ n ih =>
    intro l h
    have h1 : 1 ≤ (lotsA n).length := by rw [lotsA_len]; exact Nat.one_le_two_pow
    unfold lotsL at h
    rw [lotsA, List.drop_append_of_le_length h1] at h
    rcases List.mem_append.mp h with h | h
    · exact ih h
    · obtain ⟨q, _, rfl⟩ := List.mem_map.mp h
      simp
theorem lotsL_mem {n : Nat} {l : List Nat} (h : l ∈ lotsL n) : l.length ≤ n ∧ ∀ x ∈ l, x < n := lotsA_mem (List.mem_of_mem_drop h)
def lotK (n k : Nat) : List Nat := (lotsL n).getD k []
theorem lotK_mem {n k : Nat} (h : k < 2 ^ n - 1) : lotK n k ∈ lotsL n := by
  have hl : k < (lotsL n).length := by rw [lotsL_len]; exact h
  unfold lotK
  rw [List.getD_eq_getElem?_getD, List.getElem?_eq_getElem hl]
  exact List.getElem_mem hl
def Tb.ren (t : Tb) (o : List Nat) : Tb := ⟨t.n, fun s u => o.getD (t.b (invO o s) (invO o u)) 0, fun s => o.getD (t.r (invO o s)) 0, fun s => o.getD (t.l (invO o s)) 0, fun k => o.getD (t.m (numOf ((lotK t.n k).map (invO o)))) 0⟩
theorem Tb.Ok.ren {t : Tb} (h : t.Ok) {o : List Nat} (ho : Ord t.n o) : (t.ren o).Ok := by
  refine ⟨h.n1, h.n6, fun s hs u hu => ho.get (h.b _ (ho.inv hs) _ (ho.inv hu)), fun s hs => ho.get (h.r _ (ho.inv hs)), fun s hs => ho.get (h.l _ (ho.inv hs)), fun k hk => ho.get (h.m _ ?_)⟩
  have hm := lotK_mem (n := t.n) hk
  have n6 := h.n6
  refine (numOf_lt (fun x hx => ?_) (show t.n ≤ 36 by omega) (by simpa using lotsL_ne hm)).1
  obtain ⟨y, hy, rfl⟩ := List.mem_map.mp hx
  exact ho.inv ((lotsL_mem hm).2 y hy)
theorem Ord.sm {n o} (h : Ord n o) (hn : n ≤ 6) : ∀ x ∈ o, x < 2 ^ 100 := fun x hx => by have := h.lt x hx; exact Nat.lt_trans (show x < 6 by omega) (by decide)
section
variable {GG : Glob} {T : Tab}
structure TTb (T : Tab) : Prop where
  faced : T "_law_faced_about" = some Lw.f__law_faced_about
  order : T "_law_any_order" = some Lw.f__law_any_order
  lots : T "_law_lots" = some Lw.f__law_lots
  number : T "_law_number" = some Lw.f__law_number
  lot : T "_law_lot" = some Lw.f__law_lot
  mixed : T "_law_mixed" = some Lw.f__law_mixed
  beside : T "_law_beside" = some Lw.f__law_beside
  renamed : T "_law_renamed" = some Lw.f__law_renamed
  pick : T "_law_pick" = some Lw.f__law_pick
  draw : T "_law_draw_table" = some Lw.f__law_draw_table
def Tb.bes (t q : Tb) : Tb := ⟨t.n * q.n, fun s u => t.b (s / q.n) (u / q.n) * q.n + q.b (s % q.n) (u % q.n), fun s => t.r (s / q.n) * q.n + q.r (s % q.n), fun s => t.l (s / q.n) * q.n + q.l (s % q.n),
  fun k => t.m (numOf ((lotK (t.n * q.n) k).map (· / q.n))) * q.n + q.m (numOf ((lotK (t.n * q.n) k).map (· % q.n)))⟩
theorem pair_lt {a b n m : Nat} (ha : a < n) (hb : b < m) : a * m + b < n * m := by
  have : a * m + m ≤ n * m := by rw [← Nat.succ_mul]; exact Nat.mul_le_mul_right m ha
  omega
theorem Tb.Ok.bes {t q : Tb} (h : t.Ok) (g : q.Ok) (hn : t.n * q.n ≤ 6) : (t.bes q).Ok := by
  have q1 := g.n1
  have d : ∀ {s}, s < t.n * q.n → s / q.n < t.n := fun hs => Nat.div_lt_of_lt_mul (by rw [Nat.mul_comm]; exact hs)
  have r : ∀ {s}, s % q.n < q.n := Nat.mod_lt _ q1
  refine ⟨Nat.mul_pos h.n1 q1, hn, fun s hs u hu => pair_lt (h.b _ (d hs) _ (d hu)) (g.b _ r _ r), fun s hs => pair_lt (h.r _ (d hs)) (g.r _ r), fun s hs => pair_lt (h.l _ (d hs)) (g.l _ r), fun k hk => ?_⟩
  have hm := lotK_mem (n := t.n * q.n) hk
  have n6 := h.n6
  have m6 := g.n6
  refine pair_lt (h.m _ (numOf_lt (fun x hx => ?_) (show t.n ≤ 36 by omega) (by simpa using lotsL_ne hm)).1) (g.m _ (numOf_lt (fun x hx => ?_) (show q.n ≤ 36 by omega) (by simpa using lotsL_ne hm)).1)
  · obtain ⟨y, hy, rfl⟩ := List.mem_map.mp hx
    exact d ((lotsL_mem hm).2 y hy)
  · obtain ⟨y, hy, rfl⟩ := List.mem_map.mp hx
    exact r
def pr (m k : Nat) : D := .tup [.int ((k / m : Nat) : Int), .int ((k % m : Nat) : Int)]
def prs (N m : Nat) : D := .lst ((List.range N).map (pr m))
@[simp] theorem pr_0 (h : AH) (m k : Nat) : ixD h (pr m k) (.int 0) = .ok (.int ((k / m : Nat) : Int)) := rfl
@[simp] theorem pr_1 (h : AH) (m k : Nat) : ixD h (pr m k) (.int 1) = .ok (.int ((k % m : Nat) : Int)) := rfl
@[simp] theorem items_prs (N m : Nat) : itemsD (prs N m) = .ok ((List.range N).map (pr m)) := rfl
theorem rng_split {n : Nat} {done rest : List Nat} {x : Nat} (e : List.range n = done ++ x :: rest) : x = done.length ∧ x < n := by
  have hd : done.length < n := by
    have := congrArg List.length e
    simp at this; omega
  have := congrArg (fun l => l[done.length]?) e
  simp [List.getElem?_range hd] at this
  exact ⟨this.symm, by omega⟩
structure Cl (Pt : Tb → Prop) : Prop where
  face : ∀ t : Tb, t.Ok → Pt t → Pt t.face
  bes : ∀ t q : Tb, t.Ok → q.Ok → t.n * q.n ≤ 6 → Pt t → Pt q → Pt (t.bes q)
  ren : ∀ (t : Tb) (o : List Nat), t.Ok → Ord t.n o → Pt t → Pt (t.ren o)
theorem Cl.triv : Cl fun _ => True := ⟨fun _ _ _ => trivial, fun _ _ _ _ _ _ _ => trivial, fun _ _ _ _ _ => trivial⟩
@[simp] theorem put_l2 (i j : Nat) (a b : D) (σ : Env) : putTg (.tup [i, j]) (.lst [a, b]) σ = .ok ((σ.set i (.val a)).set j (.val b)) := rfl
end
end EV
set_option maxRecDepth 100000
namespace EV
open PySem L2
@[simp] theorem tup_nL (h : AH) (l : List Nat) : bltD h "tuple" [nL l] = .ok (nT l) := rfl
@[simp] theorem tup_nT (h : AH) (l : List Nat) : bltD h "tuple" [nT l] = .ok (nT l) := rfl
@[simp] theorem lst_nT (h : AH) (l : List Nat) : bltD h "list" [nT l] = .ok (nL l) := rfl
@[simp] theorem rev_nT (l : List Nat) : revD (nT l) = .ok (nT l.reverse) := by simp [nT]
@[simp] theorem len_nT (h : AH) (l : List Nat) : bltD h "len" [nT l] = .ok (.int l.length) := by simp [nT]
section
variable {GG : Glob} {T : Tab}
structure TAsk (T : Tab) : Prop where
  number : T "number_of" = some Lw.f_number_of
  lot : T "lot_of" = some Lw.f_lot_of
end
end EV
set_option maxRecDepth 100000
namespace EV
open PySem L2
def nB (k : Nat) : Nat := [2, 3, 2, 2, 2, 2, 3, 4, 3, 4, 4, 5, 6, 6, 6, 4, 4, 6, 6, 6, 6, 4, 6, 6, 5, 4].getD k 2
def mixB (k n : Nat) (l : List Nat) : Nat :=
  if k = 10 ∨ k = 11 ∨ k = 19 then (if n - 1 ∈ l ∨ l = List.range (n - 2) then n - 1 else n - 2)
  else if k = 7 then (if l.length = 1 then l.getD 0 0 else if l ≠ [0, 1] then (if l ≠ [0, 2] then 3 else 2) else 1)
  else if k = 9 then (if l = [0] ∨ l = [1] then l.getD 0 0 else 3)
  else if k = 20 then (if 5 ∈ l then 5 else if 4 ∈ l ∨ 3 ∈ l ∨ 1 ∈ l ∧ 2 ∈ l then 4 else if 2 ∈ l then 5 else 1)
  else if k = 21 then (if 3 ∈ l ∨ l = [0, 1] then 3 else 2)
  else if k = 23 then (if l = [0] ∨ l = [1] ∨ l = [0, 1] then 1 else 5)
  else if k = 24 then (if 4 ∈ l ∨ 1 ∈ l then 4 else 3)
  else if (k = 0 ∨ k = 1 ∨ k = 18) ∧ l = [0] then 0 else n - 1
def tabB (l : List (List Nat)) (s t : Nat) : Nat := (l.getD s []).getD t 5
def linB (k n s t : Nat) : Nat :=
  if k = 1 ∨ k = 18 then min (n - 1) (s + t)
  else if k = 2 ∨ k = 8 then s
  else if k = 3 then t
  else if k = 6 then (if max s t = 2 then 2 else (s + t) % 2)
  else if k = 7 then tabB [[0, 1, 2, 3], [1, 1, 3, 3], [2, 3, 2, 3], [3, 3, 3, 3]] s t
  else if k = 9 then tabB [[0, 2, 2, 3], [2, 1, 2, 3], [2, 2, 2, 3], [3, 3, 3, 3]] s t
  else if k = 10 ∨ k = 11 ∨ k = 19 then (if n - 1 = s ∨ n - 1 = t then n - 1 else n - 2)
  else if k = 12 then tabB [[0, 5, 2, 5, 4, 5], [5, 1, 5, 5, 5, 5], [5, 5, 5, 4, 5, 5], [5, 3, 5, 5, 5, 5], [5, 4, 5, 5, 5, 5]] s t
  else if k = 13 then (if 5 = s ∨ 5 = t then 5 else (s + t) % 5)
  else if k = 20 ∨ k = 23 then tabB [[0, 1, 2, 3, 4, 5], [1, 1, 3, 3, 4, 5], [2, 3, 2, 3, 4, 5], [3, 3, 3, 3, 4, 5], [4, 4, 4, 4, 4, 5]] s t
  else if k = 21 then tabB [[0, 1, 2, 3], [2, 2, 2, 3], [2, 2, 2, 3], [3, 3, 3, 3]] s t
  else if k = 24 ∧ s = 0 then [1, 1, 2, 3, 4].getD t 0
  else if k = 25 then s / 2 * 2 + t % 2
  else if k = 14 then tabB [[5, 2, 5, 4], [3], [4]] s t
  else if k = 17 then min (n - 1) (s + t + 1) else max s t
def endB (k n s : Nat) : Nat × Nat :=
  if k = 1 ∨ k = 18 then (if s = 0 then (0, 0) else (n - 1, n - 1))
  else if k = 2 ∨ k = 8 then (s, n - 1)
  else if k = 3 then (n - 1, s)
  else if k = 5 ∨ k = 6 ∨ k = 13 ∨ k = 14 ∨ k = 17 then (n - 1, n - 1)
  else if k = 10 ∨ k = 11 ∨ k = 19 then (if s = n - 1 then (n - 1, n - 1) else (n - 2, n - 2))
  else if k = 12 then ([2].getD s 5, [5, 3].getD s 5)
  else if k = 15 then ([0, 2, 2, 3].getD s 0, s)
  else if k = 16 then (s, [0, 2, 2, 3].getD s 0)
  else if k = 21 then ([1, 2, 2, 3].getD s 0, [2, 2, 2, 3].getD s 0)
  else if k = 22 then ([1, 1, 3, 3, 5, 5].getD s 0, [0, 2, 2, 4, 4, 5].getD s 0)
  else if k = 25 then ([1, 1, 3, 3].getD s 0, [2, 3, 2, 3].getD s 0)
  else if k = 23 then ([0, 1, 2, 4, 4, 5].getD s 0, s)
  else if k = 24 then ([2, 2, 2, 3, 4].getD s 0, [2, 2, 2, 3, 4].getD s 0)
  else (s, s)
def base (k : Nat) : Tb := ⟨nB k, linB k (nB k), fun s => (endB k (nB k) s).1, fun s => (endB k (nB k) s).2, fun i => mixB k (nB k) (lotK (nB k) i)⟩
end EV
set_option maxRecDepth 100000
namespace EV
open PySem L2
namespace Lw
def b_lots : Ss :=
    (.cons (.set 1 true (.lst (.cons false (.tup .nil) .nil)))
    (.cons (.for_ (.name 2) (.rng1 (.var 0))
    (.cons (.ext 1 (.comp (.tup (.cons true (.var 3) (.cons false (.var 2) .nil))) (.name 3) (.val (.lstb 1)) .nil [3]))
    .nil) [2])
    (.cons (.ret (.slb 1 (.so (.int 1)) .no))
    .nil)))
def f_lots : Fn := ⟨1, 4, b_lots⟩
end Lw
end EV
set_option maxRecDepth 100000
namespace EV
open PySem L2
mutual
/-- its text holds no sign beyond the last one -/
def D.so : D → Bool
  | .str s => PyData.strOk s
  | .tup xs => D.sos xs
  | .lst xs => D.sos xs
  | .scr _ => false
  | .ref _ => false
  | .fn _ => false
  | .dct kvs => PyData.strOk (PyData.shown (D.dct kvs).py)
  | _ => true
def D.sos : List D → Bool
  | [] => true
  | d :: ds => d.so && D.sos ds
end
theorem sos_all : ∀ {ds : List D}, D.sos ds = true ↔ ∀ d ∈ ds, d.so = true
  | [] => by simp [D.sos]
  | d :: ds => by simp [D.sos, sos_all (ds := ds)]
def okS (s : Str) : Prop := ∀ c ∈ s.cps.toList, c < 0x110000
theorem okS_iff {s : Str} : PyData.strOk s = true ↔ okS s := by
  unfold PyData.strOk okS
  rw [Array.all_eq_true_iff_forall_mem]
  simp
theorem okS_app {a b : Str} (ha : okS a) (hb : okS b) : okS (a ++ b) := fun c hc => (PyProof.Rows.mem_cps_append.mp hc).elim (ha c) (hb c)
theorem okS_lit {s : Str} (h : PyData.strOk s = true) : okS s := okS_iff.mp h
theorem okS_join {sep : Str} (hs : okS sep) {ts : List Str} (ht : ∀ t ∈ ts, okS t) : okS (Str.join sep ts) := fun c hc => by
  rcases (PyProof.Rows.mem_join sep c ts).mp hc with ⟨t, h, hc⟩ | ⟨_, hc⟩
  · exact ht t h c hc
  · exact hs c hc
theorem okS_from : ∀ (ts : List Str) (k : Nat) (acc : Str), okS acc → (∀ t ∈ ts, okS t) → okS (textFrom k acc ts)
  | [], _, acc, h, _ => h
  | t :: ts, k, acc, h, ht => okS_from ts (k + 1) _ (okS_app (okS_app h (by split <;> exact okS_lit (by decide +kernel))) (ht t (by simp))) fun x hx => ht x (by simp [hx])
theorem okS_int (i : Int) : okS (Str.ofString (toString i)) := fun c hc => by
  by_cases h : c ≠ 45 ∧ (c < 48 ∨ 57 < c)
  · exact absurd hc (PyProof.Rows.int_text_free' c h i)
  · by_cases h1 : c = 45
    · omega
    · have : ¬ (c < 48 ∨ 57 < c) := fun q => h ⟨h1, q⟩
      omega
theorem char_lt (c : Char) : c.toNat < 0x110000 := by
  have := c.valid
  rcases this with h | ⟨_, h⟩
  · have : c.toNat < 0xd800 := h
    omega
  · exact h
theorem repc_ok {q c : Nat} (hc : c < 0x110000) : ∀ x ∈ Builtin.Str.reprChar q c, x < 0x110000 := by
  have dg : ∀ x ∈ (Nat.toDigits 16 c).map Char.toNat, x < 0x110000 := fun x hx => by
    obtain ⟨y, _, rfl⟩ := List.mem_map.mp hx
    exact char_lt y
  have hx : ∀ w, ∀ x ∈ List.replicate (w - ((Nat.toDigits 16 c).map Char.toNat).length) 48 ++ (Nat.toDigits 16 c).map Char.toNat, x < 0x110000 := fun w x h => by
    rcases List.mem_append.mp h with h | h
    · rw [(List.mem_replicate.mp h).2]; omega
    · exact dg x h
  intro x
  unfold Builtin.Str.reprChar
  simp only []
  split
  · intro h; simp at h; omega
  split
  · intro h; simp at h; omega
  split
  · intro h; simp at h; omega
  split
  · intro h; simp at h; omega
  split
  · intro h; simp at h; omega
  split
  · intro h
    rcases List.mem_append.mp h with h | h
    · simp at h; omega
    · exact hx _ x h
  split
  · intro h
    rcases List.mem_append.mp h with h | h
    · simp at h; omega
    · exact hx _ x h
  · intro h
    rcases List.mem_append.mp h with h | h
    · simp at h; omega
    · exact hx _ x h
theorem fold_ok {g : Nat → Array Nat} : ∀ (l : List Nat) (acc : Array Nat), (∀ c ∈ acc.toList, c < 0x110000) → (∀ c ∈ l, ∀ x ∈ (g c).toList, x < 0x110000) → ∀ c ∈ (l.foldl (fun out c => out ++ g c) acc).toList, c < 0x110000
  | [], _, h, _ => h
  | c :: l, acc, h, hl => fold_ok l (acc ++ g c) (fun x hx => by
      rw [Array.toList_append] at hx
      exact (List.mem_append.mp hx).elim (h x) (hl c (by simp) x)) fun y hy => hl y (by simp [hy])
theorem okS_repr {s : Str} (h : okS s) : okS (reprText s) := fun c hc => by
  have q : reprQuote s < 0x110000 := by unfold reprQuote; split <;> omega
  unfold reprText at hc
  rw [Array.toList_push, ← Array.foldl_toList] at hc
  rcases List.mem_append.mp hc with hc | hc
  · refine fold_ok (g := fun c => (Builtin.Str.reprChar (reprQuote s) c).toArray) s.cps.toList #[reprQuote s] (fun x hx => by simp at hx; omega) (fun y hy x hx => repc_ok (h y hy) x (by simpa using hx)) c hc
  · simp at hc; omega
mutual
theorem so_txt : ∀ d : D, d.so = true → okS (PyData.shown d.py)
  | .non, _ => by simp only [D.py, PyData.shown]; exact okS_lit (by decide +kernel)
  | .bl b, _ => by simp only [D.py, PyData.shown]; cases b <;> exact okS_lit (by decide +kernel)
  | .int i, _ => by simp only [D.py, PyData.shown]; exact okS_int i
  | .str s, h => by simp only [D.py, PyData.shown]; exact okS_repr (okS_iff.mp (by simpa only [D.so] using h))
  | .tup xs, h => by
    simp only [D.py, PyData.shown]
    have hx := sos_txt xs (by simpa only [D.so] using h)
    unfold tupleText
    exact okS_app (okS_app (okS_lit (by decide +kernel)) (okS_join (okS_lit (by decide +kernel)) hx)) (by split <;> exact okS_lit (by decide +kernel))
  | .lst xs, h => by
    simp only [D.py, PyData.shown]
    have hx := sos_txt xs (by simpa only [D.so] using h)
    unfold listText
    exact okS_app (okS_from _ _ _ (okS_lit (by decide +kernel)) hx) (okS_lit (by decide +kernel))
  | .dct kvs, h => okS_iff.mp (by simpa only [D.so] using h)
theorem sos_txt : ∀ ds : List D, D.sos ds = true → ∀ t ∈ PyData.shownAll (D.pys ds), okS t
  | [], _, t, ht => by simp [D.pys, PyData.shownAll] at ht
  | d :: ds, h, t, ht => by
    simp only [D.sos, Bool.and_eq_true] at h
    simp only [D.pys, PyData.shownAll, List.mem_cons] at ht
    rcases ht with rfl | ht
    · exact so_txt d h.1
    · exact sos_txt ds h.2 t ht
end
mutual
theorem nice_so : ∀ d : D, d.nice = true → d.so = true
  | .non, _ | .bl _, _ | .int _, _ => by simp [D.so]
  | .str s, h => by simpa only [D.so, D.nice] using h
  | .tup xs, h => by simp only [D.so]; exact nices_so xs (by simpa only [D.nice] using h)
  | .lst xs, h => by simp only [D.so]; exact nices_so xs (by simpa only [D.nice] using h)
theorem nices_so : ∀ ds : List D, D.nices ds = true → D.sos ds = true
  | [], _ => rfl
  | d :: ds, h => by
    simp only [D.nices, D.sos, Bool.and_eq_true] at *
    exact ⟨nice_so d h.1, nices_so ds h.2⟩
end
structure Vx (a b : Nat) (d : D) : Prop where
  ok : d.nice = true ∨ (d.nolst = true ∧ d.sh = true ∧ d.so = true)
  dp : d.dp ≤ a
  wt : d.wt ≤ b
theorem Vx.repr {a b : Nat} {d : D} (v : Vx a b d) (ha : a ≤ 64) (hb : b ≤ 16777216) (h : AH) : bltD h "repr" [d] = .ok (.str (PyData.shown d.py)) := by
  have := v.dp
  have := v.wt
  rcases v.ok with h1 | ⟨h1, h2⟩
  · exact repr_of h1 (by omega) (by omega)
  · exact repr_ofR h1 h2.1 (by omega) (by omega)
theorem Vx.mono {a b c e : Nat} {d : D} (v : Vx a b d) (h1 : a ≤ c) (h2 : b ≤ e) : Vx c e d := ⟨v.ok, Nat.le_trans v.dp h1, Nat.le_trans v.wt h2⟩
theorem Vx.sh {a b : Nat} {d : D} (v : Vx a b d) : d.sh = true := by
  rcases v.ok with h | ⟨_, h, _⟩
  · exact nice_sh d h
  · exact h
theorem Vx.so {a b : Nat} {d : D} (v : Vx a b d) : d.so = true := by
  rcases v.ok with h | ⟨_, _, h⟩
  · exact nice_so d h
  · exact h
structure Pl (d : D) : Prop where
  nice : d.nice = true
  nolst : d.nolst = true
theorem nolsts_all : ∀ {ds : List D}, D.nolsts ds = true ↔ ∀ d ∈ ds, d.nolst = true
  | [] => by simp [D.nolsts]
  | d :: ds => by simp [D.nolsts, nolsts_all (ds := ds)]
theorem shs_all : ∀ {ds : List D}, D.shs ds = true ↔ ∀ d ∈ ds, d.sh = true
  | [] => by simp [D.shs]
  | d :: ds => by simp [D.shs, shs_all (ds := ds)]
theorem Pl.tup {xs : List D} : Pl (.tup xs) ↔ ∀ d ∈ xs, Pl d := by
  constructor
  · rintro ⟨h1, h2⟩ d hd
    exact ⟨nices_all.mp (by simpa [D.nice] using h1) d hd, nolsts_all.mp (by simpa [D.nolst] using h2) d hd⟩
  · intro h
    exact ⟨by simp only [D.nice]; exact nices_all.mpr fun d hd => (h d hd).nice, by simp only [D.nolst]; exact nolsts_all.mpr fun d hd => (h d hd).nolst⟩
theorem wts_app : ∀ (a b : List D), D.wts (a ++ b) = D.wts a + D.wts b
  | [], b => by simp [D.wts]
  | x :: a, b => by simp [D.wts, wts_app a b]; omega
theorem Vx.tup {a b : Nat} {xs ys : List D} {d : D} (hx : ∀ x ∈ xs, Pl x ∧ x.dp ≤ a) (hy : ∀ x ∈ ys, Pl x ∧ x.dp ≤ a) (v : Vx a b d) {e : Nat} (he : 4 + D.wts xs + (b + 2) + D.wts ys ≤ e) : Vx (a + 1) e (.tup (xs ++ d :: ys)) := by
  have hall : ∀ x ∈ xs ++ d :: ys, x = d ∨ (Pl x ∧ x.dp ≤ a) := fun x h => by
    simp at h
    rcases h with h | rfl | h
    · exact .inr (hx x h)
    · exact .inl rfl
    · exact .inr (hy x h)
  refine ⟨?_, ?_, ?_⟩
  · rcases v.ok with h | ⟨h1, h2, h3⟩
    · left
      simp only [D.nice]
      exact nices_all.mpr fun x hx => (hall x hx).elim (fun e => e ▸ h) fun q => q.1.nice
    · right
      refine ⟨?_, ?_, ?_⟩
      · simp only [D.nolst]
        exact nolsts_all.mpr fun x hx => by rcases hall x hx with rfl | h; exact h1; exact h.1.nolst
      · simp only [D.sh]
        exact shs_all.mpr fun x hx => by rcases hall x hx with rfl | h; exact h2; exact nice_sh _ h.1.nice
      · simp only [D.so]
        exact sos_all.mpr fun x hx => by rcases hall x hx with rfl | h; exact h3; exact nice_so _ h.1.nice
  · simp only [D.dp]
    have : D.dps (xs ++ d :: ys) ≤ a := dps_le.mpr fun x hx => by rcases hall x hx with rfl | h; exact v.dp; exact h.2
    omega
  · have := v.wt
    simp only [D.wt, wts_app, D.wts]
    omega
@[simp] theorem isTys_lt_t (h : AH) (x) : isTys h (.tup x) ["list", "tuple"] = .ok true := rfl
@[simp] theorem isTys_lt_l (h : AH) (x) : isTys h (.lst x) ["list", "tuple"] = .ok true := rfl
@[simp] theorem isTys_lt_n (h : AH) : isTys h .non ["list", "tuple"] = .ok false := rfl
@[simp] theorem isTys_lt_b (h : AH) (x) : isTys h (.bl x) ["list", "tuple"] = .ok false := rfl
@[simp] theorem isTys_lt_i (h : AH) (x) : isTys h (.int x) ["list", "tuple"] = .ok false := rfl
@[simp] theorem isTys_lt_s (h : AH) (x) : isTys h (.str x) ["list", "tuple"] = .ok false := rfl
@[simp] theorem isTys_t_n (h : AH) : isTys h .non ["tuple"] = .ok false := rfl
@[simp] theorem isTys_t_b (h : AH) (x) : isTys h (.bl x) ["tuple"] = .ok false := rfl
@[simp] theorem isTys_t_d (h : AH) (x) : isTys h (.dct x) ["tuple"] = .ok false := rfl
section
variable {GG : Glob} {T : Tab}
end
end EV
set_option maxRecDepth 100000
namespace EV
open PySem L2
section
variable {GG : Glob} {T : Tab}
end
end EV
set_option maxRecDepth 100000
namespace EV
open PySem L2
def Asc (t : Tb) : Prop := ∀ s u v, s < t.n → u < t.n → v < t.n → t.b (t.b s u) v = t.b s (t.b u v)
theorem inv_get : ∀ {o : List Nat} {x : Nat}, o.Nodup → x < o.length → invO o (o.getD x 0) = x
  | [], x, _, h => by simp at h
  | y :: o, 0, _, _ => by simp [invO]
  | y :: o, x + 1, nd, h => by
    have hx : x < o.length := by simpa using h
    have ih := inv_get (List.nodup_cons.mp nd).2 hx
    have hm : o.getD x 0 ∈ o := by
      rw [List.getD_eq_getElem?_getD, List.getElem?_eq_getElem hx]
      exact List.getElem_mem hx
    have ne : y ≠ o.getD x 0 := fun e => (List.nodup_cons.mp nd).1 (e ▸ hm)
    simp only [List.getD_cons_succ]
    unfold invO
    rw [if_neg ne, ih]
theorem pair_div {a b m : Nat} (hb : b < m) : (a * m + b) / m = a := by
  rw [Nat.mul_comm, Nat.mul_add_div (by omega), Nat.div_eq_of_lt hb, Nat.add_zero]
theorem pair_mod {a b m : Nat} (hb : b < m) : (a * m + b) % m = b := by
  rw [Nat.mul_comm, Nat.mul_add_mod, Nat.mod_eq_of_lt hb]
theorem Cl.asc : Cl Asc := by
  refine ⟨fun t ht h s u v hs hu hv => (h v u s hv hu hs).symm, fun t q ht hq hn ha hb s u v hs hu hv => ?_, fun t o ht ho h s u v hs hu hv => ?_⟩
  · have q1 := hq.n1
    have d : ∀ {s}, s < t.n * q.n → s / q.n < t.n := fun hs => Nat.div_lt_of_lt_mul (by rw [Nat.mul_comm]; exact hs)
    have r : ∀ {s}, s % q.n < q.n := Nat.mod_lt _ q1
    show t.b ((t.b (s / q.n) (u / q.n) * q.n + q.b (s % q.n) (u % q.n)) / q.n) (v / q.n) * q.n + q.b ((t.b (s / q.n) (u / q.n) * q.n + q.b (s % q.n) (u % q.n)) % q.n) (v % q.n)
      = t.b (s / q.n) ((t.b (u / q.n) (v / q.n) * q.n + q.b (u % q.n) (v % q.n)) / q.n) * q.n + q.b (s % q.n) ((t.b (u / q.n) (v / q.n) * q.n + q.b (u % q.n) (v % q.n)) % q.n)
    rw [pair_div (hq.b _ r _ r), pair_mod (hq.b _ r _ r), pair_div (hq.b _ r _ r), pair_mod (hq.b _ r _ r), ha _ _ _ (d hs) (d hu) (d hv), hb _ _ _ r r r]
  · have iv : ∀ {x}, x < t.n → invO o (o.getD x 0) = x := fun hx => inv_get ho.nd (by rw [ho.len]; exact hx)
    show o.getD (t.b (invO o (o.getD (t.b (invO o s) (invO o u)) 0)) (invO o v)) 0 = o.getD (t.b (invO o s) (invO o (o.getD (t.b (invO o u) (invO o v)) 0))) 0
    rw [iv (ht.b _ (ho.inv hs) _ (ho.inv hu)), iv (ht.b _ (ho.inv hu) _ (ho.inv hv)), h _ _ _ (ho.inv hs) (ho.inv hu) (ho.inv hv)]
def pwr (t : Tb) (s : Nat) : Nat → Nat
  | 0 => s
  | i + 1 => t.b (pwr t s i) s
section
variable {t : Tb} (ht : t.Ok) (ha : Asc t) {s : Nat} (hs : s < t.n)
structure Orb (t : Tb) (s m q : Nat) : Prop where
  lt : q < m
  ne : ∀ i j, i < j → j < m → pwr t s i ≠ pwr t s j
  e : pwr t s m = pwr t s q
theorem Orb.uniq {m q m' q' : Nat} (a : Orb t s m q) (b : Orb t s m' q') : m = m' ∧ q = q' := by
  have hm : m = m' := by
    rcases Nat.lt_trichotomy m m' with h | h | h
    · exact absurd a.e.symm (b.ne q m a.lt h)
    · exact h
    · exact absurd b.e.symm (a.ne q' m' b.lt h)
  subst hm
  refine ⟨rfl, ?_⟩
  have e : pwr t s q = pwr t s q' := a.e.symm.trans b.e
  rcases Nat.lt_trichotomy q q' with h | h | h
  · exact absurd e (a.ne q q' h b.lt)
  · exact h
  · exact absurd e.symm (a.ne q' q h a.lt)
end
end EV
set_option maxRecDepth 100000
namespace EV
open PySem L2
namespace Lw
def b_count_of : Ss :=
    (.cons (.ret (.blt "len" (.cons false (.ix (.var 0) (.int 0)) .nil)))
    .nil)
def f_count_of : Fn := ⟨1, 1, b_count_of⟩
def b_tuples : Ss :=
    (.cons (.set 2 false (.lst (.cons false (.tup .nil) .nil)))
    (.cons (.for_ (.name 3) (.rng1 (.var 1))
    (.cons (.set 2 false (.comp2 (.tup (.cons true (.var 4) (.cons false (.var 5) .nil))) (.name 4) (.val (.var 2)) .nil (.name 5) (.rng1 (.var 0)) .nil [4, 5] [5]))
    .nil) [3])
    (.cons (.ret (.var 2))
    .nil)))
def f_tuples : Fn := ⟨2, 6, b_tuples⟩
def b_wide : Ss :=
    (.cons (.set 2 false (.call "mixed_of" (.cons false (.var 0) (.cons false (.var 1) .nil))))
    (.cons (.set 3 true (.lst (.cons false (.var 2) .nil)))
    (.cons (.for_ (.name 4) (.val (.var 1))
    (.cons (.ext 3 (.lst (.cons false (.call "both_of" (.cons false (.var 0) (.cons false (.var 4) (.cons false (.var 2) .nil)))) (.cons false (.call "both_of" (.cons false (.var 0) (.cons false (.var 2) (.cons false (.var 4) .nil)))) .nil))))
    (.cons (.ext 3 (.comp (.call "both_of" (.cons false (.var 0) (.cons false (.call "both_of" (.cons false (.var 0) (.cons false (.var 4) (.cons false (.var 2) .nil)))) (.cons false (.var 5) .nil)))) (.name 5) (.val (.var 1)) .nil [5]))
    .nil)) [4])
    (.cons (.ret (.var 3))
    .nil))))
def f_wide : Fn := ⟨2, 6, b_wide⟩
def b_mixed_cases : Ss :=
    (.cons (.par [1, 2] [true, false] (.cons false (.lst .nil) (.cons false (.call "lots" (.cons false (.call "count_of" (.cons false (.var 0) .nil)) .nil)) .nil)))
    (.cons (.for_ (.name 3) (.val (.var 2))
    (.cons (.set 4 false (.call "wide" (.cons false (.var 0) (.cons false (.var 3) .nil))))
    (.cons (.for_ (.name 5) (.val (.var 2))
    (.cons (.ite (.and (.cons (.tru (.blt "all" (.cons false (.comp (.or (.cons false (.cmp .isin (.var 6) (.var 3)) (.cons false (.cmp .isin (.var 6) (.var 4)) .nil))) (.name 6) (.val (.var 5)) .nil [6]) .nil))) (.cons (.tru (.blt "any" (.cons false (.comp (.cmp .isin (.var 6) (.var 4)) (.name 6) (.val (.var 5)) .nil [6]) .nil))) .nil)))
    (.cons (.app 1 (.tup (.cons false (.var 3) (.cons false (.var 5) .nil))))
    .nil)
    .nil)
    .nil) [5])
    .nil)) [3, 4, 5])
    (.cons (.ret (.var 1))
    .nil)))
def f_mixed_cases : Fn := ⟨1, 7, b_mixed_cases⟩
def b_cases : Ss :=
    (.cons (.set 2 false (.call "count_of" (.cons false (.var 0) .nil)))
    (.cons (.ite (.cmp .eq (.var 1) (.int 1))
    (.cons (.ret (.call "tuples" (.cons false (.var 2) (.cons false (.int 3) .nil))))
    .nil)
    .nil)
    (.cons (.ite (.cmp .isin (.var 1) (.tup (.cons false (.int 2) (.cons false (.int 4) .nil))))
    (.cons (.ret (.call "tuples" (.cons false (.var 2) (.cons false (.int 2) .nil))))
    .nil)
    .nil)
    (.cons (.ite (.cmp .isin (.var 1) (.tup (.cons false (.int 3) (.cons false (.int 5) .nil))))
    (.cons (.ret (.comp2 (.tup (.cons false (.var 3) (.cons false (.var 4) .nil))) (.name 3) (.rng1 (.var 2)) .nil (.name 4) (.rng2 (.int 2) (.bin .add (.var 2) (.int 2))) .nil [3, 4] [4]))
    .nil)
    .nil)
    (.cons (.ite (.cmp .eq (.var 1) (.int 9))
    (.cons (.ret (.call "mixed_cases" (.cons false (.var 0) .nil)))
    .nil)
    .nil)
    (.cons (.set 5 true (.lst .nil))
    (.cons (.for_ (.name 6) (.val (.call "lots" (.cons false (.var 2) .nil)))
    (.cons (.app 5 (.tup (.cons false (.var 6) .nil)))
    (.cons (.ext 5 (.comp (.tup (.cons false (.var 6) (.cons false (.var 7) .nil))) (.name 7) (.val (.var 6)) .nil [7]))
    .nil)) [6])
    (.cons (.ret (.var 5))
    .nil))))))))
def f_cases : Fn := ⟨2, 8, b_cases⟩
def b_mixed_holds : Ss :=
    (.cons (.set 3 false (.call "mixed_of" (.cons false (.var 0) (.cons false (.ix (.var 2) (.int 0)) .nil))))
    (.cons (.ite (.cmp .eq (.var 1) (.int 9))
    (.cons (.ret (.cmp .eq (.call "mixed_of" (.cons false (.var 0) (.cons false (.ix (.var 2) (.int 1)) .nil))) (.var 3)))
    .nil)
    .nil)
    (.cons (.set 4 false (.ite (.cmp .eq (.blt "len" (.cons false (.var 2) .nil)) (.int 2)) (.call "both_of" (.cons false (.var 0) (.cons false (.var 3) (.cons false (.ix (.var 2) (.int 1)) .nil)))) (.var 3)))
    (.cons (.ite (.cmp .eq (.var 1) (.int 6))
    (.cons (.ret (.cmp .eq (.call "both_of" (.cons false (.var 0) (.cons false (.var 4) (.cons false (.var 3) .nil)))) (.var 3)))
    .nil)
    .nil)
    (.cons (.ite (.cmp .eq (.var 1) (.int 7))
    (.cons (.ret (.cmp .eq (.call "right_of" (.cons false (.var 0) (.cons false (.var 4) .nil))) (.var 3)))
    .nil)
    .nil)
    (.cons (.set 5 false (.ite (.cmp .eq (.blt "len" (.cons false (.var 2) .nil)) (.int 2)) (.call "both_of" (.cons false (.var 0) (.cons false (.ix (.var 2) (.int 1)) (.cons false (.var 3) .nil)))) (.var 3)))
    (.cons (.ret (.cmp .eq (.call "left_of" (.cons false (.var 0) (.cons false (.var 5) .nil))) (.var 3)))
    .nil)))))))
def f_mixed_holds : Fn := ⟨3, 6, b_mixed_holds⟩
def b_holds : Ss :=
    (.cons (.ite (.cmp .eq (.var 1) (.int 1))
    (.cons (.sett [3, 4, 5] (.var 2))
    (.cons (.ret (.cmp .eq (.call "both_of" (.cons false (.var 0) (.cons false (.call "both_of" (.cons false (.var 0) (.cons false (.var 3) (.cons false (.var 4) .nil)))) (.cons false (.var 5) .nil)))) (.call "both_of" (.cons false (.var 0) (.cons false (.var 3) (.cons false (.call "both_of" (.cons false (.var 0) (.cons false (.var 4) (.cons false (.var 5) .nil)))) .nil))))))
    .nil))
    .nil)
    (.cons (.ite (.cmp .gt (.var 1) (.int 5))
    (.cons (.ret (.call "mixed_holds" (.cons false (.var 0) (.cons false (.var 1) (.cons false (.var 2) .nil)))))
    .nil)
    .nil)
    (.cons (.sett [3, 4] (.var 2))
    (.cons (.ite (.cmp .eq (.var 1) (.int 2))
    (.cons (.ret (.cmp .eq (.call "right_of" (.cons false (.var 0) (.cons false (.call "both_of" (.cons false (.var 0) (.cons false (.var 3) (.cons false (.var 4) .nil)))) .nil))) (.call "both_of" (.cons false (.var 0) (.cons false (.var 3) (.cons false (.call "right_of" (.cons false (.var 0) (.cons false (.call "both_of" (.cons false (.var 0) (.cons false (.var 4) (.cons false (.var 3) .nil)))) .nil))) .nil))))))
    .nil)
    .nil)
    (.cons (.ite (.cmp .eq (.var 1) (.int 4))
    (.cons (.ret (.cmp .eq (.call "left_of" (.cons false (.var 0) (.cons false (.call "both_of" (.cons false (.var 0) (.cons false (.var 3) (.cons false (.var 4) .nil)))) .nil))) (.call "both_of" (.cons false (.var 0) (.cons false (.call "left_of" (.cons false (.var 0) (.cons false (.call "both_of" (.cons false (.var 0) (.cons false (.var 4) (.cons false (.var 3) .nil)))) .nil))) (.cons false (.var 4) .nil))))))
    .nil)
    .nil)
    (.cons (.set 6 false (.call "joined_of" (.cons false (.var 0) (.cons false (.bin .mul (.lst (.cons false (.var 3) .nil)) (.var 4)) .nil))))
    (.cons (.ite (.cmp .eq (.var 1) (.int 3))
    (.cons (.ret (.cmp .eq (.call "right_of" (.cons false (.var 0) (.cons false (.var 6) .nil))) (.call "right_of" (.cons false (.var 0) (.cons false (.var 3) .nil)))))
    .nil)
    .nil)
    (.cons (.ret (.cmp .eq (.call "left_of" (.cons false (.var 0) (.cons false (.var 6) .nil))) (.call "left_of" (.cons false (.var 0) (.cons false (.var 3) .nil)))))
    .nil))))))))
def f_holds : Fn := ⟨3, 7, b_holds⟩
def b_broken_case : Ss :=
    (.cons (.for_ (.name 2) (.val (.call "cases" (.cons false (.var 0) (.cons false (.var 1) .nil))))
    (.cons (.ite (.not (.tru (.call "holds" (.cons false (.var 0) (.cons false (.var 1) (.cons false (.var 2) .nil))))))
    (.cons (.ret (.var 2))
    .nil)
    .nil)
    .nil) [2])
    (.cons (.ret .non)
    .nil))
def f_broken_case : Fn := ⟨2, 3, b_broken_case⟩
def b_first_broken : Ss :=
    (.cons (.for_ (.name 1) (.val (.glob "NUMBERS"))
    (.cons (.set 2 false (.call "broken_case" (.cons false (.var 0) (.cons false (.var 1) .nil))))
    (.cons (.ite (.cmp .isnot (.var 2) .non)
    (.cons (.ret (.tup (.cons false (.var 1) (.cons false (.var 2) .nil))))
    .nil)
    .nil)
    .nil)) [1, 2])
    (.cons (.ret .non)
    .nil))
def f_first_broken : Fn := ⟨1, 3, b_first_broken⟩
def b__law_middle : Ss :=
    (.cons (.par [2, 3] [false, false] (.cons false (.ix (.var 0) (.int 0)) (.cons false (.call "_law_mixed" (.cons false (.var 0) (.cons false (.var 1) .nil))) .nil)))
    (.cons (.set 4 false (.bin .add (.bin .add (.lst (.cons false (.var 3) .nil)) (.comp (.ix (.ix (.var 2) (.var 5)) (.var 3)) (.name 5) (.val (.var 1)) .nil [5])) (.comp (.ix (.ix (.var 2) (.var 3)) (.var 6)) (.name 6) (.val (.var 1)) .nil [6])))
    (.cons (.for_ (.name 5) (.val (.var 1))
    (.cons (.set 4 false (.bin .add (.var 4) (.comp (.ix (.ix (.var 2) (.ix (.ix (.var 2) (.var 5)) (.var 3))) (.var 6)) (.name 6) (.val (.var 1)) .nil [6])))
    .nil) [5])
    (.cons (.ret (.var 4))
    .nil))))
def f__law_middle : Fn := ⟨2, 7, b__law_middle⟩
def b__law_cases : Ss :=
    (.cons (.par [2, 3] [false, true] (.cons false (.blt "len" (.cons false (.ix (.var 0) (.int 1)) .nil)) (.cons false (.lst .nil) .nil)))
    (.cons (.set 4 false (.call "_law_lots" (.cons false (.var 2) .nil)))
    (.cons (.for_ (.name 5) (.rng1 (.var 2))
    (.cons (.ite (.cmp .eq (.var 1) (.int 1))
    (.cons (.set 3 true (.bin .add (.var 3) (.comp (.tup (.cons false (.var 5) (.cons false (.var 6) (.cons false (.var 7) .nil)))) (.tup [6, 7]) (.val (.comp (.tup (.cons false (.bin .fdiv (.var 8) (.var 2)) (.cons false (.bin .mod (.var 8) (.var 2)) .nil))) (.name 8) (.rng1 (.bin .mul (.var 2) (.var 2))) .nil [8])) .nil [6, 7])))
    .nil)
    (.cons (.ite (.cmp .isin (.var 1) (.tup (.cons false (.int 2) (.cons false (.int 4) .nil))))
    (.cons (.set 3 true (.bin .add (.var 3) (.comp (.tup (.cons false (.var 5) (.cons false (.var 6) .nil))) (.name 6) (.rng1 (.var 2)) .nil [6])))
    .nil)
    (.cons (.ite (.cmp .isin (.var 1) (.tup (.cons false (.int 3) (.cons false (.int 5) .nil))))
    (.cons (.set 3 true (.bin .add (.var 3) (.comp (.tup (.cons false (.var 5) (.cons false (.var 8) .nil))) (.name 8) (.rng2 (.int 2) (.bin .add (.var 2) (.int 2))) .nil [8])))
    .nil)
    .nil)
    .nil))
    .nil))
    .nil) [5])
    (.cons (.for_ (.name 9) (.val (.ite (.cmp .gt (.var 1) (.int 5)) (.var 4) (.lst .nil)))
    (.cons (.set 10 false (.call "_law_middle" (.cons false (.var 0) (.cons false (.var 9) .nil))))
    (.cons (.ite (.cmp .lt (.var 1) (.int 9))
    (.cons (.set 3 true (.bin .add (.bin .add (.var 3) (.lst (.cons false (.tup (.cons false (.var 9) .nil)) .nil))) (.comp (.tup (.cons false (.var 9) (.cons false (.var 7) .nil))) (.name 7) (.val (.var 9)) .nil [7])))
    (.cons .cont
    .nil))
    .nil)
    (.cons (.for_ (.name 11) (.val (.var 4))
    (.cons (.ite (.and (.cons (.tru (.blt "all" (.cons false (.comp (.or (.cons false (.cmp .isin (.var 12) (.var 9)) (.cons false (.cmp .isin (.var 12) (.var 10)) .nil))) (.name 12) (.val (.var 11)) .nil [12]) .nil))) (.cons (.tru (.blt "any" (.cons false (.comp (.cmp .isin (.var 12) (.var 10)) (.name 12) (.val (.var 11)) .nil [12]) .nil))) .nil)))
    (.cons (.app 3 (.tup (.cons false (.var 9) (.cons false (.var 11) .nil))))
    .nil)
    .nil)
    .nil) [11])
    .nil))) [9, 10, 11])
    (.cons (.ret (.var 3))
    .nil)))))
def f__law_cases : Fn := ⟨2, 13, b__law_cases⟩
def b__law_is_so : Ss :=
    (.cons (.par [3, 4, 5, 6] [false, false, false, false] (.cons false (.ix (.var 0) (.int 0)) (.cons false (.ix (.var 0) (.int 1)) (.cons false (.ix (.var 0) (.int 2)) (.cons false (.ix (.var 2) (.int 0)) .nil)))))
    (.cons (.ite (.cmp .eq (.var 1) (.int 1))
    (.cons (.ret (.cmp .eq (.ix (.ix (.var 3) (.ix (.ix (.var 3) (.var 6)) (.ix (.var 2) (.int 1)))) (.ix (.var 2) (.int 2))) (.ix (.ix (.var 3) (.var 6)) (.ix (.ix (.var 3) (.ix (.var 2) (.int 1))) (.ix (.var 2) (.int 2))))))
    .nil)
    .nil)
    (.cons (.ite (.cmp .isin (.var 1) (.tup (.cons false (.int 2) (.cons false (.int 4) .nil))))
    (.cons (.par [7, 8] [false, false] (.cons false (.ix (.ix (.var 3) (.var 6)) (.ix (.var 2) (.int 1))) (.cons false (.ix (.ix (.var 3) (.ix (.var 2) (.int 1))) (.var 6)) .nil)))
    (.cons (.ret (.ite (.cmp .eq (.var 1) (.int 2)) (.cmp .eq (.ix (.var 4) (.var 7)) (.ix (.ix (.var 3) (.var 6)) (.ix (.var 4) (.var 8)))) (.cmp .eq (.ix (.var 5) (.var 7)) (.ix (.ix (.var 3) (.ix (.var 5) (.var 8))) (.ix (.var 2) (.int 1))))))
    .nil))
    .nil)
    (.cons (.ite (.cmp .isin (.var 1) (.tup (.cons false (.int 3) (.cons false (.int 5) .nil))))
    (.cons (.set 9 false (.var 6))
    (.cons (.for_ (.name 10) (.rng1 (.bin .sub (.ix (.var 2) (.int 1)) (.int 1)))
    (.cons (.set 9 false (.ix (.ix (.var 3) (.var 9)) (.var 6)))
    .nil) [10])
    (.cons (.ret (.cmp .eq (.ix (.ix (.var 0) (.ite (.cmp .eq (.var 1) (.int 3)) (.int 1) (.int 2))) (.var 9)) (.ix (.ix (.var 0) (.ite (.cmp .eq (.var 1) (.int 3)) (.int 1) (.int 2))) (.var 6))))
    .nil)))
    .nil)
    (.cons (.set 11 false (.call "_law_mixed" (.cons false (.var 0) (.cons false (.var 6) .nil))))
    (.cons (.ite (.cmp .eq (.var 1) (.int 9))
    (.cons (.ret (.cmp .eq (.call "_law_mixed" (.cons false (.var 0) (.cons false (.ix (.var 2) (.int 1)) .nil))) (.var 11)))
    .nil)
    .nil)
    (.cons (.sett [12, 13] (.ite (.cmp .eq (.blt "len" (.cons false (.var 2) .nil)) (.int 1)) (.lst (.cons false (.var 11) (.cons false (.var 11) .nil))) (.lst (.cons false (.ix (.ix (.var 3) (.var 11)) (.ix (.var 2) (.int 1))) (.cons false (.ix (.ix (.var 3) (.ix (.var 2) (.int 1))) (.var 11)) .nil)))))
    (.cons (.ret (.cmp .eq (.ix (.lst (.cons false (.ix (.ix (.var 3) (.var 12)) (.var 11)) (.cons false (.ix (.var 4) (.var 12)) (.cons false (.ix (.var 5) (.var 13)) .nil)))) (.bin .sub (.var 1) (.int 6))) (.var 11)))
    .nil))))))))
def f__law_is_so : Fn := ⟨3, 14, b__law_is_so⟩
def b__law_broken : Ss :=
    (.cons (.ret (.comp (.var 2) (.name 2) (.val (.call "_law_cases" (.cons false (.var 0) (.cons false (.var 1) .nil)))) (.cons (.not (.tru (.call "_law_is_so" (.cons false (.var 0) (.cons false (.var 1) (.cons false (.var 2) .nil)))))) .nil) [2]))
    .nil)
def f__law_broken : Fn := ⟨2, 3, b__law_broken⟩
end Lw
end EV
set_option maxRecDepth 100000
namespace EV
open PySem L2
inductive Cs where
  | t3 (a b c : Nat) | t2 (a b : Nat) | l1 (P : List Nat) | lc (P : List Nat) (c : Nat) | lq (P Q : List Nat)
  deriving DecidableEq
def Cs.d : Cs → D
  | .t3 a b c => .tup [.int (a : Int), .int (b : Int), .int (c : Int)]
  | .t2 a b => .tup [.int (a : Int), .int (b : Int)]
  | .l1 P => .tup [nT P]
  | .lc P c => .tup [nT P, .int (c : Int)]
  | .lq P Q => .tup [nT P, nT Q]
def mP (t : Tb) (P : List Nat) : Nat := t.m (numOf P)
def midL (t : Tb) (P : List Nat) : List Nat := (([mP t P] ++ P.map fun c => t.b c (mP t P)) ++ P.map fun d => t.b (mP t P) d) ++ P.flatMap fun c => P.map fun d => t.b (t.b c (mP t P)) d
def okQ (t : Tb) (P Q : List Nat) : Bool := (Q.all fun s => decide (s ∈ P) || decide (s ∈ midL t P)) && Q.any fun s => decide (s ∈ midL t P)
def csL (t : Tb) (k : Nat) : List Cs :=
  if k = 1 then (List.range t.n).flatMap fun a => (List.range (t.n * t.n)).map fun q => .t3 a (q / t.n) (q % t.n)
  else if k = 2 ∨ k = 4 then (List.range t.n).flatMap fun a => (List.range t.n).map fun b => .t2 a b
  else if k = 3 ∨ k = 5 then (List.range t.n).flatMap fun a => (List.range t.n).map fun j => .t2 a (2 + j)
  else if k = 9 then (lotsL t.n).flatMap fun P => ((lotsL t.n).filter (okQ t P)).map fun Q => .lq P Q
  else (lotsL t.n).flatMap fun P => .l1 P :: P.map fun c => .lc P c
def Wf (t : Tb) (k : Nat) : Cs → Prop
  | .t3 a b c => k = 1 ∧ a < t.n ∧ b < t.n ∧ c < t.n
  | .t2 a b => (k = 2 ∨ k = 4) ∧ a < t.n ∧ b < t.n ∨ (k = 3 ∨ k = 5) ∧ a < t.n ∧ 2 ≤ b ∧ b ≤ t.n + 1
  | .l1 P => (k = 6 ∨ k = 7 ∨ k = 8) ∧ P ∈ lotsL t.n
  | .lc P c => (k = 6 ∨ k = 7 ∨ k = 8) ∧ P ∈ lotsL t.n ∧ c ∈ P
  | .lq P Q => k = 9 ∧ P ∈ lotsL t.n ∧ Q ∈ lotsL t.n
def hB (t : Tb) (k : Nat) : Cs → Bool
  | .t3 a b c => decide (t.b (t.b a b) c = t.b a (t.b b c))
  | .t2 a b => if k = 2 then decide (t.r (t.b a b) = t.b a (t.r (t.b b a)))
    else if k = 4 then decide (t.l (t.b a b) = t.b (t.l (t.b b a)) b)
    else if k = 3 then decide (t.r (pwr t a (b - 1)) = t.r a) else decide (t.l (pwr t a (b - 1)) = t.l a)
  | .l1 P => if k = 6 then decide (t.b (mP t P) (mP t P) = mP t P) else if k = 7 then decide (t.r (mP t P) = mP t P) else decide (t.l (mP t P) = mP t P)
  | .lc P c => if k = 6 then decide (t.b (t.b (mP t P) c) (mP t P) = mP t P) else if k = 7 then decide (t.r (t.b (mP t P) c) = mP t P) else decide (t.l (t.b c (mP t P)) = mP t P)
  | .lq P Q => decide (mP t Q = mP t P)
def brk (t : Tb) (k : Nat) : List Cs := (csL t k).filter fun c => !hB t k c
def numbers : D := .tup [.int 1, .int 2, .int 3, .int 4, .int 5, .int 6, .int 7, .int 8, .int 9]
structure TCs (T : Tab) : Prop where
  both : T "both_of" = some Lw.f_both_of
  right : T "right_of" = some Lw.f_right_of
  left : T "left_of" = some Lw.f_left_of
  ask : TAsk T
  mixed : T "mixed_of" = some Lw.f_mixed_of
  joined : T "joined_of" = some Lw.f_joined_of
  lots : T "lots" = some Lw.f_lots
  count : T "count_of" = some Lw.f_count_of
  tuples : T "tuples" = some Lw.f_tuples
  wide : T "wide" = some Lw.f_wide
  mcases : T "mixed_cases" = some Lw.f_mixed_cases
  cases : T "cases" = some Lw.f_cases
  mholds : T "mixed_holds" = some Lw.f_mixed_holds
  holds : T "holds" = some Lw.f_holds
  broken : T "broken_case" = some Lw.f_broken_case
  first : T "first_broken" = some Lw.f_first_broken
section
variable {GG : Glob} {T : Tab}
end
end EV
set_option maxRecDepth 100000
namespace EV
open PySem L2
structure TCl (T : Tab) : Prop where
  number : T "_law_number" = some Lw.f__law_number
  lot : T "_law_lot" = some Lw.f__law_lot
  mixed : T "_law_mixed" = some Lw.f__law_mixed
  lots : T "_law_lots" = some Lw.f__law_lots
  middle : T "_law_middle" = some Lw.f__law_middle
  cases : T "_law_cases" = some Lw.f__law_cases
  so : T "_law_is_so" = some Lw.f__law_is_so
  broken : T "_law_broken" = some Lw.f__law_broken
section
variable {GG : Glob} {T : Tab}
end
end EV
set_option maxRecDepth 100000
namespace EV
open PySem L2
mutual
/-- built of numbers and tuples -/
def D.nt : D → Bool
  | .int _ => true
  | .tup xs => D.nts xs
  | _ => false
def D.nts : List D → Bool
  | [] => true
  | d :: ds => d.nt && D.nts ds
end
def ch (d : D) : List Nat := (PyData.shown d.py).cps.toList
def Stpc (r : List Nat) : Prop := ∀ c l, r = c :: l → c = 44 ∨ c = 41
theorem cps_append (a b : Str) : (a ++ b).cps.toList = a.cps.toList ++ b.cps.toList := by
  show (a.cps ++ b.cps).toList = _
  simp
theorem span_uniq {p : Nat → Prop} : ∀ {a b r r' : List Nat}, (∀ x ∈ a, p x) → (∀ x ∈ b, p x) → (∀ c l, r = c :: l → ¬ p c) → (∀ c l, r' = c :: l → ¬ p c) → a ++ r = b ++ r' → a = b ∧ r = r'
  | [], [], _, _, _, _, _, _, e => ⟨rfl, e⟩
  | [], y :: b, r, r', _, hb, hr, _, e => absurd (hb y (by simp)) (hr y _ e)
  | x :: a, [], r, r', ha, _, _, hr', e => absurd (ha x (by simp)) (hr' x _ e.symm)
  | x :: a, y :: b, r, r', ha, hb, hr, hr', e => by
    injection e with e1 e2
    obtain ⟨q1, q2⟩ := span_uniq (fun z hz => ha z (by simp [hz])) (fun z hz => hb z (by simp [hz])) hr hr' e2
    exact ⟨by rw [e1, q1], q2⟩
theorem shown_int (i : Int) : ch (.int i) = (Str.ofString (toString i)).cps.toList := by
  unfold ch D.py
  simp only [PyData.shown]
def dg (k : Nat) : Prop := k = 45 ∨ (48 ≤ k ∧ k ≤ 57)
theorem int_dg (i : Int) : ∀ k ∈ ch (.int i), dg k := fun k hk => by
  rw [shown_int] at hk
  by_cases h : k ≠ 45 ∧ (k < 48 ∨ 57 < k)
  · exact absurd hk (PyProof.Rows.int_text_free' k h i)
  · unfold dg
    by_cases h1 : k = 45
    · exact .inl h1
    · exact .inr (by
        have : ¬ (k < 48 ∨ 57 < k) := fun q => h ⟨h1, q⟩
        omega)
theorem ofS_inj {a b : String} (h : (Str.ofString a).cps.toList = (Str.ofString b).cps.toList) : a = b := by
  rw [PyProof.Rows.signs_ofString, PyProof.Rows.signs_ofString] at h
  have hm : ∀ (x y : List Char), x.map Char.toNat = y.map Char.toNat → x = y := by
    intro x
    induction x with
    | nil => intro y e; cases y with | nil => rfl | cons c l => simp at e
    | cons c l ih =>
      intro y e
      cases y with
      | nil => simp at e
      | cons c' l' =>
        simp only [List.map_cons, List.cons.injEq] at e
        rw [Char.toNat_inj.mp e.1, ih _ e.2]
  exact String.toList_inj.mp (hm _ _ h)
theorem int_inj {i j : Int} (h : ch (.int i) = ch (.int j)) : i = j := by
  rw [shown_int, shown_int] at h
  have := ofS_inj h
  rw [Int.toString_eq_repr, Int.toString_eq_repr] at this
  exact Int.repr_inj.mp this
theorem int_ne (i : Int) : ch (.int i) ≠ [] := by
  rw [shown_int, PyProof.Rows.signs_ofString]
  intro h
  have h : (toString i).toList = [] := by simpa using h
  rw [Int.toString_eq_repr, Int.repr_eq_if] at h
  split at h
  · rw [Nat.toList_repr] at h
    exact Nat.toDigits_ne_nil h
  · rw [String.toList_append] at h
    simp at h
def cs : List D → List Nat
  | [] => [41]
  | x :: r => 44 :: 32 :: (ch x ++ cs r)
def ctl : List D → List Nat
  | [] => [44, 41]
  | x :: r => cs (x :: r)
theorem cs_join (e : Str) (he : e.cps.toList = [41]) : ∀ (x : D) (r : List D), (Str.join ", " (PyData.shownAll (D.pys (x :: r))) ++ e).cps.toList = ch x ++ cs r
  | x, [] => by
    rw [cps_append, he]
    rfl
  | x, y :: r => by
    have := cs_join e he y r
    rw [cps_append] at this ⊢
    simp only [D.pys, PyData.shownAll] at this ⊢
    rw [PyProof.Rows.join_cons_cons, cps_append, cps_append, PyProof.Rows.signs_sep]
    simp only [cs, List.append_assoc, List.cons_append, List.nil_append]
    rw [this]
    rfl
theorem tup_ch (xs : List D) : ch (.tup xs) = 40 :: (match xs with | [] => [41] | x :: r => ch x ++ ctl r) := by
  have e0 : ch (.tup xs) = (tupleText (PyData.shownAll (D.pys xs))).cps.toList := by
    unfold ch
    simp only [D.py, PyData.shown]
  rw [e0]
  unfold tupleText
  match xs with
  | [] => rfl
  | [x] =>
    rw [cps_append, cps_append]
    rfl
  | x :: y :: r =>
    have hl : ((PyData.shownAll (D.pys (x :: y :: r))).length == 1) = false := by simp [D.pys, PyData.shownAll]
    rw [hl]
    have := cs_join ((")" : String) : Str) rfl x (y :: r)
    rw [cps_append] at this
    rw [cps_append, cps_append, List.append_assoc]
    show [40] ++ ((Str.join ", " (PyData.shownAll (D.pys (x :: y :: r)))).cps.toList ++ ((")" : String) : Str).cps.toList) = _
    rw [this]
    rfl
theorem fold_pre {g : Nat → Array Nat} : ∀ (l : List Nat) (acc : Array Nat), ∃ m, (l.foldl (fun out c => out ++ g c) acc).toList = acc.toList ++ m
  | [], acc => ⟨[], by simp⟩
  | c :: l, acc => by
    obtain ⟨m, e⟩ := fold_pre l (acc ++ g c)
    exact ⟨(g c).toList ++ m, by rw [List.foldl_cons, e, Array.toList_append, List.append_assoc]⟩
theorem txt_pre : ∀ (ts : List Str) (k : Nat) (acc : Str), ∃ m, (textFrom k acc ts).cps.toList = acc.cps.toList ++ m
  | [], k, acc => ⟨[], by simp [textFrom]⟩
  | t :: ts, k, acc => by
    obtain ⟨m, e⟩ := txt_pre ts (k + 1) (acc ++ (if k > 0 then ", " else "" : String) ++ t)
    exact ⟨_, by rw [textFrom, e, cps_append, cps_append, List.append_assoc, List.append_assoc]⟩
def oth (k : Nat) : Prop := ¬ dg k ∧ k ≠ 40 ∧ k ≠ 41
theorem lst_oth (ts : List Str) : ∃ m, (listText ts).cps.toList = 91 :: m := by
  obtain ⟨m, e⟩ := txt_pre ts 0 "["
  refine ⟨m ++ [93], ?_⟩
  unfold listText
  rw [cps_append, e]
  rfl
theorem oth_of (d : D) (h1 : ∀ i, d ≠ .int i) (h2 : ∀ xs, d ≠ .tup xs) : ∃ c m, ch d = c :: m ∧ oth c := by
  have o : ∀ {c}, (c = 78 ∨ c = 84 ∨ c = 70 ∨ c = 39 ∨ c = 34 ∨ c = 91 ∨ c = 123) → oth c := by
    intro c h
    unfold oth dg
    omega
  cases d with
  | non => exact ⟨78, [111, 110, 101], by unfold ch; simp only [D.py, PyData.shown]; rfl, o (by simp)⟩
  | ref n => exact ⟨78, [111, 110, 101], by unfold ch; simp only [D.py, PyData.shown]; rfl, o (by simp)⟩
  | fn n => exact ⟨78, [111, 110, 101], by unfold ch; simp only [D.py, PyData.shown]; rfl, o (by simp)⟩
  | bl b => cases b with
    | true => exact ⟨84, [114, 117, 101], by unfold ch; simp only [D.py, PyData.shown]; rfl, o (by simp)⟩
    | false => exact ⟨70, [97, 108, 115, 101], by unfold ch; simp only [D.py, PyData.shown]; rfl, o (by simp)⟩
  | int i => exact absurd rfl (h1 i)
  | tup xs => exact absurd rfl (h2 xs)
  | str s =>
    obtain ⟨m, e⟩ := fold_pre (g := fun c => (Builtin.Str.reprChar (reprQuote s) c).toArray) s.cps.toList #[reprQuote s]
    refine ⟨reprQuote s, m ++ [reprQuote s], ?_, o ?_⟩
    · unfold ch
      simp only [D.py, PyData.shown]
      unfold reprText
      rw [Array.toList_push, ← Array.foldl_toList, e]
      rfl
    · unfold reprQuote
      split <;> simp
  | lst xs =>
    obtain ⟨m, e⟩ := lst_oth (PyData.shownAll (D.pys xs))
    exact ⟨91, m, by unfold ch; simp only [D.py, PyData.shown]; exact e, o (by simp)⟩
  | scr ns =>
    obtain ⟨m, e⟩ := lst_oth (PyData.shownAll (ns.map .int))
    exact ⟨91, m, by unfold ch; simp only [D.py, PyData.shown]; exact e, o (by simp)⟩
  | dct kvs =>
    have e : ch (.dct kvs) = [123] ++ ((Str.join ", " (PyData.shownKv (kvs.map fun p => (keyP p.1, PyData.int p.2)))).cps.toList ++ [125]) := by
      unfold ch
      simp only [D.py, PyData.shown]
      unfold dictText
      rw [cps_append, cps_append, List.append_assoc]
      rfl
    exact ⟨123, _, e, o (by simp)⟩
theorem three (d : D) : (∃ i, d = .int i) ∨ (∃ xs, d = .tup xs) ∨ ∃ c m, ch d = c :: m ∧ oth c := by
  by_cases h1 : ∃ i, d = .int i
  · exact .inl h1
  by_cases h2 : ∃ xs, d = .tup xs
  · exact .inr (.inl h2)
  exact .inr (.inr (oth_of d (fun i e => h1 ⟨i, e⟩) (fun i e => h2 ⟨i, e⟩)))
theorem hd_of (d : D) : ∃ c m, ch d = c :: m ∧ c ≠ 41 := by
  by_cases h1 : ∃ i, d = .int i
  · obtain ⟨i, rfl⟩ := h1
    match e : ch (.int i) with
    | [] => exact absurd e (int_ne i)
    | c :: m =>
      refine ⟨c, m, rfl, ?_⟩
      have := int_dg i c (by rw [e]; simp)
      unfold dg at this
      omega
  by_cases h2 : ∃ xs, d = .tup xs
  · obtain ⟨xs, rfl⟩ := h2
    exact ⟨40, _, tup_ch xs, by decide⟩
  · obtain ⟨c, m, e, o⟩ := oth_of d (fun i e => h1 ⟨i, e⟩) (fun i e => h2 ⟨i, e⟩)
    exact ⟨c, m, e, o.2.2⟩
theorem stpc_cs (xs : List D) (r : List Nat) : Stpc (cs xs ++ r) := fun c l e => by
  cases xs with
  | nil => simp only [cs, List.cons_append, List.nil_append] at e; injection e with e1; exact .inr e1.symm
  | cons x xs => simp only [cs, List.cons_append] at e; injection e with e1; exact .inl e1.symm
theorem stpc_ctl (xs : List D) (r : List Nat) : Stpc (ctl xs ++ r) := fun c l e => by
  cases xs with
  | nil => simp only [ctl, List.cons_append, List.nil_append] at e; injection e with e1; exact .inl e1.symm
  | cons x xs => exact stpc_cs (x :: xs) r c l e
theorem stpc_dg {r : List Nat} (h : Stpc r) : ∀ c l, r = c :: l → ¬ dg c := fun c l e => by
  have := h c l e
  unfold dg
  omega
mutual
theorem ch_inj : ∀ (t : D), t.nt = true → ∀ (d : D) (r r' : List Nat), Stpc r → Stpc r' → ch d ++ r = ch t ++ r' → d = t ∧ r = r'
  | .int i, _, d, r, r', hr, hr', e => by
    rcases three d with ⟨j, rfl⟩ | ⟨xs, rfl⟩ | ⟨c, m, e1, o⟩
    · obtain ⟨e1, e2⟩ := span_uniq (int_dg j) (int_dg i) (stpc_dg hr) (stpc_dg hr') e
      exact ⟨by rw [int_inj e1], e2⟩
    · rw [tup_ch] at e
      match e' : ch (.int i) with
      | [] => exact absurd e' (int_ne i)
      | c :: m =>
        have := int_dg i c (by rw [e']; simp)
        rw [e'] at e
        injection e with e1
        unfold dg at this
        omega
    · rw [e1] at e
      match e' : ch (.int i) with
      | [] => exact absurd e' (int_ne i)
      | c' :: m' =>
        have := int_dg i c' (by rw [e']; simp)
        rw [e'] at e
        injection e with e1
        exact absurd (e1 ▸ this) o.1
  | .tup ys, h, d, r, r', hr, hr', e => by
    rcases three d with ⟨j, rfl⟩ | ⟨xs, rfl⟩ | ⟨c, m, e1, o⟩
    · rw [tup_ch ys] at e
      match e' : ch (.int j) with
      | [] => exact absurd e' (int_ne j)
      | c :: m =>
        have := int_dg j c (by rw [e']; simp)
        rw [e'] at e
        injection e with e1
        unfold dg at this
        omega
    · rw [tup_ch xs, tup_ch ys, List.cons_append, List.cons_append] at e
      injection e with _ e
      cases ys with
      | nil =>
        cases xs with
        | nil => exact ⟨rfl, by injection e⟩
        | cons x xs =>
          obtain ⟨c, m, ec, n⟩ := hd_of x
          simp only [ec, List.cons_append] at e
          injection e with e1
          exact absurd e1 n
      | cons y ys =>
        cases xs with
        | nil =>
          obtain ⟨c, m, ec, n⟩ := hd_of y
          simp only [ec, List.cons_append] at e
          injection e with e1
          exact absurd e1.symm n
        | cons x xs =>
          simp only [D.nt, D.nts, Bool.and_eq_true] at h
          simp only [List.append_assoc] at e
          obtain ⟨rfl, e2⟩ := ch_inj y h.1 x _ _ (stpc_ctl xs r) (stpc_ctl ys r') e
          have : xs = ys ∧ r = r' := by
            match xs, ys, h.2, e2 with
            | [], [], _, e2 => exact ⟨rfl, by injection e2 with _ e3; injection e3⟩
            | [], w :: ws, _, e2 => simp only [ctl, cs, List.cons_append] at e2; injection e2 with _ e3; injection e3 with e4; exact absurd e4 (by decide)
            | z :: zs, [], _, e2 => simp only [ctl, cs, List.cons_append] at e2; injection e2 with _ e3; injection e3 with e4; exact absurd e4 (by decide)
            | z :: zs, w :: ws, hh, e2 => exact cs_inj (w :: ws) hh (z :: zs) r r' hr hr' e2
          exact ⟨by rw [this.1], this.2⟩
    · rw [e1, tup_ch ys] at e
      injection e with e1
      exact absurd e1 o.2.1
theorem cs_inj : ∀ (ys : List D), D.nts ys = true → ∀ (xs : List D) (r r' : List Nat), Stpc r → Stpc r' → cs xs ++ r = cs ys ++ r' → xs = ys ∧ r = r'
  | [], _, xs, r, r', hr, hr', e => by
    cases xs with
    | nil => exact ⟨rfl, by injection e⟩
    | cons x xs => simp only [cs, List.cons_append] at e; injection e with e1; exact absurd e1 (by decide)
  | y :: ys, h, xs, r, r', hr, hr', e => by
    cases xs with
    | nil => simp only [cs, List.cons_append] at e; injection e with e1; exact absurd e1 (by decide)
    | cons x xs =>
      simp only [D.nts, Bool.and_eq_true] at h
      simp only [cs, List.cons_append, List.append_assoc] at e
      injection e with _ e
      injection e with _ e
      obtain ⟨rfl, e2⟩ := ch_inj y h.1 x _ _ (stpc_cs xs r) (stpc_cs ys r') e
      obtain ⟨rfl, e3⟩ := cs_inj ys h.2 xs r r' hr hr' e2
      exact ⟨rfl, e3⟩
end
end EV
set_option maxRecDepth 100000
namespace EV
open PySem L2
def upd {α : Type} (f : Nat → α) (s : Nat) (c : α) : Nat → α := fun x => if x = s then c else f x
theorem lstq {xs : List D} (h : ∀ d ∈ xs, d.nice = true ∧ d.dp ≤ 50) : (D.lst xs).okq = true := by
  refine okq_of (by simp only [D.nice]; exact nices_all.mpr fun d hd => (h d hd).1) ?_
  simp only [D.dp]
  have : D.dps xs ≤ 50 := dps_le.mpr fun d hd => (h d hd).2
  omega
section
variable {GG : Glob} {T : Tab}
end
end EV
set_option maxRecDepth 100000
namespace EV
def cy (w : List Nat) (i : Nat) : Nat := w.getD (i % w.length) 0
def Per (f : Nat → Nat) (s : Nat) : Prop := ∀ i, f (i + s) = f i
theorem cy_per (w : List Nat) : Per (cy w) w.length := fun i => by unfold cy; rw [Nat.add_mod_right]
theorem Per.mul {f : Nat → Nat} {s : Nat} (h : Per f s) : ∀ k, Per f (s * k)
  | 0 => fun i => rfl
  | k + 1 => fun i => by rw [Nat.mul_succ, ← Nat.add_assoc, h, h.mul k]
theorem Per.mod {f : Nat → Nat} {s t : Nat} (hs : Per f s) (ht : Per f t) : Per f (t % s) := fun i => by
  have e : i + t % s + s * (t / s) = i + t := by have := Nat.mod_add_div t s; omega
  rw [← hs.mul (t / s) (i + t % s), e, ht]
theorem Per.gcd {f : Nat → Nat} : ∀ {s t : Nat}, Per f s → Per f t → Per f (Nat.gcd s t) := by
  intro s t
  induction s, t using Nat.gcd.induction with
  | H0 t => intro _ h; simpa using h
  | H1 s t _ ih => intro hs ht; rw [Nat.gcd_rec]; exact ih (hs.mod ht) hs
structure Prim (w : List Nat) : Prop where
  ne : w ≠ []
  le : ∀ s, 1 ≤ s → Per (cy w) s → w.length ≤ s
theorem Prim.pos {w : List Nat} (h : Prim w) : 0 < w.length := List.length_pos_iff.mpr h.ne
theorem cy_lt {w : List Nat} {i : Nat} (h : i < w.length) : cy w i = w[i] := by
  unfold cy
  rw [Nat.mod_eq_of_lt h, List.getD_eq_getElem?_getD, List.getElem?_eq_getElem h]
  rfl
theorem cy_mem {w : List Nat} (h : w ≠ []) (i : Nat) : cy w i ∈ w := by
  have h0 := List.length_pos_iff.mpr h
  have := Nat.mod_lt i h0
  unfold cy
  rw [List.getD_eq_getElem?_getD, List.getElem?_eq_getElem this]
  exact List.getElem_mem this
theorem cy_ext {u w : List Nat} (hl : u.length = w.length) (h : ∀ i, i < w.length → cy u i = cy w i) : u = w := by
  refine List.ext_getElem hl fun i h1 h2 => ?_
  rw [← cy_lt h1, ← cy_lt h2, h i h2]
theorem per_late {w : List Nat} (h0 : w ≠ []) {s K : Nat} (h : ∀ i, K ≤ i → cy w (i + s) = cy w i) : Per (cy w) s := fun i => by
  have hp := List.length_pos_iff.mpr h0
  have a := (cy_per w).mul K (i + s)
  have b := (cy_per w).mul K i
  have le : K ≤ w.length * K := Nat.le_mul_of_pos_left K hp
  rw [← a, ← b, ← h (i + w.length * K) (by omega)]
  congr 1
  omega
theorem prim_len {u w : List Nat} (hu : Prim u) (hw : Prim w) {a b : Nat} (h : ∀ i, cy u (i + a) = cy w (i + b)) : u.length = w.length := by
  have key : ∀ {u w : List Nat}, Prim u → Prim w → ∀ {a b : Nat}, (∀ i, cy u (i + a) = cy w (i + b)) → w.length ≤ u.length := by
    intro u w hu hw a b h
    refine hw.le _ hu.pos (per_late hw.ne (K := b) fun i hi => ?_)
    have e1 := h (i - b + u.length)
    have e2 := h (i - b)
    rw [show i - b + u.length + b = i + u.length by omega, show i - b + u.length + a = i - b + a + u.length by omega, cy_per u] at e1
    rw [show i - b + b = i by omega] at e2
    rw [← e1, ← e2]
  exact Nat.le_antisymm (key hw hu (a := b) (b := a) fun i => (h i).symm) (key hu hw h)
theorem prim_uniq {u w : List Nat} (hu : Prim u) (hw : Prim w) (h : ∀ i, cy u i = cy w i) : u = w := by
  have := prim_len hu hw (a := 0) (b := 0) h
  exact cy_ext this fun i _ => h i
def tl (w : List Nat) : List Nat := w.drop 1 ++ w.take 1
def tr (w : List Nat) : List Nat := w.getLastD 0 :: w.dropLast
theorem tl_len (w : List Nat) : (tl w).length = w.length := by
  unfold tl
  cases w <;> simp
theorem tl_cy {w : List Nat} (h : w ≠ []) (i : Nat) : cy (tl w) i = cy w (i + 1) := by
  obtain ⟨x, r, rfl⟩ := List.exists_cons_of_ne_nil h
  have hl : (tl (x :: r)).length = r.length + 1 := tl_len _
  unfold cy
  rw [hl]
  show ((r ++ [x]).getD (i % (r.length + 1)) 0) = (x :: r).getD ((i + 1) % (r.length + 1)) 0
  have lt := Nat.mod_lt i (show 0 < r.length + 1 by omega)
  have e : (i + 1) % (r.length + 1) = if i % (r.length + 1) = r.length then 0 else i % (r.length + 1) + 1 := by
    rw [Nat.add_mod]
    split
    · rename_i e
      rw [e]
      by_cases h1 : r.length = 0
      · rw [h1]
      · rw [Nat.mod_eq_of_lt (show 1 < r.length + 1 by omega), Nat.mod_self]
    · rename_i e
      by_cases h1 : r.length = 0
      · omega
      · rw [Nat.mod_eq_of_lt (show 1 < r.length + 1 by omega), Nat.mod_eq_of_lt (by omega)]
  rw [e]
  simp only [List.getD_eq_getElem?_getD]
  split
  · rename_i e
    rw [e, List.getElem?_append_right (by omega)]
    simp
  · rename_i e
    rw [List.getElem?_append_left (by omega)]
    simp
theorem tr_tl {w : List Nat} (h : w ≠ []) : tl (tr w) = w := by
  unfold tl tr
  rw [List.getLastD_eq_getLast?, List.getLast?_eq_getLast h]
  simp [List.dropLast_concat_getLast h]
theorem tr_ne (w : List Nat) : tr w ≠ [] := by simp [tr]
theorem tr_len {w : List Nat} (h : w ≠ []) : (tr w).length = w.length := by rw [← tl_len (tr w), tr_tl h]
theorem tl_ne {w : List Nat} (h : w ≠ []) : tl w ≠ [] := fun e => by
  have := tl_len w
  rw [e] at this
  exact h (List.eq_nil_of_length_eq_zero this.symm)
theorem Prim.of_shift {u w : List Nat} (hu : u ≠ []) (hl : u.length = w.length) (hw : Prim w) {a b : Nat} (h : ∀ i, cy u (i + a) = cy w (i + b)) : Prim u := ⟨hu, fun s hs hp => by
  rw [hl]
  refine hw.le s hs (per_late hw.ne (K := b) fun i hi => ?_)
  have e1 := h (i - b + s)
  have e2 := h (i - b)
  rw [show i - b + s + b = i + s by omega, show i - b + s + a = i - b + a + s by omega, hp] at e1
  rw [show i - b + b = i by omega] at e2
  rw [← e1, ← e2]⟩
theorem Prim.tl {w : List Nat} (h : Prim w) : Prim (tl w) := Prim.of_shift (tl_ne h.ne) (tl_len w) h (a := 0) (b := 1) fun i => tl_cy h.ne i
theorem Prim.tr {w : List Nat} (h : Prim w) : Prim (tr w) := Prim.of_shift (tr_ne w) (tr_len h.ne) h (a := 1) (b := 0) fun i => by
  rw [← tl_cy (tr_ne w), tr_tl h.ne]; rfl
def ga (m r : List Nat) (i : Nat) : Nat := if i < m.length then m.getD i 0 else cy r (i - m.length)
theorem ga_lt {m r : List Nat} {i : Nat} (h : i < m.length) : ga m r i = m.getD i 0 := if_pos h
theorem ga_ge {m r : List Nat} {i : Nat} (h : m.length ≤ i) : ga m r i = cy r (i - m.length) := if_neg (by omega)
theorem ga_congr {m r r' : List Nat} (h : ∀ i, cy r i = cy r' i) (i : Nat) : ga m r i = ga m r' i := by
  unfold ga
  rw [h]
theorem ga_step {m r : List Nat} (hr : r ≠ []) (x : Nat) (e : r.getLastD 0 = x) (i : Nat) : ga (m ++ [x]) r i = ga m (tr r) i := by
  unfold ga
  simp only [List.length_append, List.length_singleton]
  by_cases h : i < m.length
  · rw [if_pos (by omega), if_pos h]
    simp only [List.getD_eq_getElem?_getD]
    rw [List.getElem?_append_left h]
  · rw [if_neg h]
    by_cases h2 : i = m.length
    · subst h2
      rw [if_pos (by omega)]
      simp only [List.getD_eq_getElem?_getD]
      rw [List.getElem?_append_right (by omega)]
      rw [List.getLastD_eq_getLast?] at e
      simp [cy, tr, e]
    · rw [if_neg (by omega)]
      have := tl_cy (tr_ne r) (i - (m.length + 1))
      rw [tr_tl hr] at this
      rw [this]
      congr 1
      omega
structure RFs (m r A E : List Nat) : Prop where
  same : ∀ i, ga A E i = ga m r i
  prim : Prim E
  last : A ≠ [] → A.getLastD 0 ≠ E.getLastD 0
theorem last_cy {E : List Nat} (h : E ≠ []) : cy E (E.length - 1) = E.getLastD 0 := by
  have := List.length_pos_iff.mpr h
  rw [cy_lt (by omega), List.getLastD_eq_getLast?, List.getLast?_eq_getElem?, List.getElem?_eq_getElem (by omega)]
  rfl
theorem last_get {E : List Nat} (h : E ≠ []) : E.getD (E.length - 1) 0 = E.getLastD 0 := by
  have := List.length_pos_iff.mpr h
  rw [List.getLastD_eq_getLast?, List.getLast?_eq_getElem?, List.getD_eq_getElem?_getD]
theorem ga_uniq {A E A' E' : List Nat} (hE : Prim E) (hE' : Prim E') (hA : A ≠ [] → A.getLastD 0 ≠ E.getLastD 0) (hA' : A' ≠ [] → A'.getLastD 0 ≠ E'.getLastD 0) (h : ∀ i, ga A E i = ga A' E' i) : A = A' ∧ E = E' := by
  have len : E.length = E'.length := prim_len hE hE' (a := A'.length) (b := A.length) fun i => by
    have := h (i + A.length + A'.length)
    rw [ga_ge (by omega), ga_ge (by omega)] at this
    rw [show i + A.length + A'.length - A.length = i + A'.length by omega, show i + A.length + A'.length - A'.length = i + A.length by omega] at this
    exact this
  have key : ∀ {A E A' E' : List Nat}, Prim E → Prim E' → E.length = E'.length → (A' ≠ [] → A'.getLastD 0 ≠ E'.getLastD 0) → (∀ i, ga A E i = ga A' E' i) → A'.length ≤ A.length := by
    intro A E A' E' hE hE' len hA' h
    rcases Nat.lt_or_ge A.length A'.length with lt | ge
    · have ne : A' ≠ [] := fun e => by subst e; simp at lt
      have h1 := h (A'.length - 1)
      have h2 := h (A'.length - 1 + E.length)
      have p' := hE'.pos
      rw [ga_ge (by omega), ga_lt (by omega)] at h1
      rw [ga_ge (by omega), ga_ge (by omega)] at h2
      rw [show A'.length - 1 + E.length - A.length = A'.length - 1 - A.length + E.length by omega, cy_per, h1, show A'.length - 1 + E.length - A'.length = E'.length - 1 by omega, last_cy hE'.ne, last_get ne] at h2
      exact absurd h2 (hA' ne)
    · exact ge
  have la : A.length = A'.length := Nat.le_antisymm (key hE' hE len.symm hA fun i => (h i).symm) (key hE hE' len hA' h)
  have eA : A = A' := List.ext_getElem la fun i h1 h2 => by
    have := h i
    rw [ga_lt h1, ga_lt h2] at this
    simpa [List.getD_eq_getElem?_getD, h1, h2] using this
  refine ⟨eA, prim_uniq hE hE' fun i => ?_⟩
  have := h (i + A.length)
  rw [ga_ge (by omega), ga_ge (by omega)] at this
  rwa [Nat.add_sub_cancel, la, Nat.add_sub_cancel] at this
theorem RFs.uniq {m r m' r' A E A' E' : List Nat} (a : RFs m r A E) (b : RFs m' r' A' E') (h : ∀ i, ga m r i = ga m' r' i) : A = A' ∧ E = E' :=
  ga_uniq a.prim b.prim a.last b.last fun i => by rw [a.same, b.same, h]
end EV
set_option maxRecDepth 100000
namespace EV
def bw (l m r : List Nat) (i : Int) : Nat := if 0 ≤ i then ga m r i.toNat else cy l.reverse (-1 - i).toNat
theorem bw_right (l m r : List Nat) (i : Nat) : bw l m r ((m.length : Int) + i) = cy r i := by
  unfold bw
  rw [if_pos (by omega), ga_ge (by omega)]
  congr 1
  omega
theorem bw_in (l m r : List Nat) {i : Nat} (h : i < m.length) : bw l m r (i : Int) = m.getD i 0 := by
  unfold bw
  rw [if_pos (by omega)]
  exact ga_lt h
theorem bw_out (l m r : List Nat) (i : Nat) : bw l m r (-1 - (i : Int)) = cy l.reverse i := by
  unfold bw
  rw [if_neg (by omega)]
  congr 1
  omega
theorem bw_left (l m r : List Nat) (i : Nat) : bw l m r ((m.length : Int) - 1 - i) = ga m.reverse l.reverse i := by
  by_cases h : i < m.length
  · have e : (m.length : Int) - 1 - i = ((m.length - 1 - i : Nat) : Int) := by omega
    rw [e, bw_in _ _ _ (by omega), ga_lt (by simpa using h)]
    simp only [List.getD_eq_getElem?_getD]
    rw [List.getElem?_reverse h]
  · have e : (m.length : Int) - 1 - i = -1 - ((i - m.length : Nat) : Int) := by omega
    rw [e, bw_out, ga_ge (by simp; omega)]
    simp
def Sh (f g : Int → Nat) : Prop := ∃ t : Int, ∀ i, g i = f (i + t)
theorem Sh.refl (f : Int → Nat) : Sh f f := ⟨0, fun i => by simp⟩
theorem Sh.symm {f g : Int → Nat} : Sh f g → Sh g f := fun ⟨t, h⟩ => ⟨-t, fun i => by rw [h]; congr 1; omega⟩
theorem Sh.trans {f g k : Int → Nat} : Sh f g → Sh g k → Sh f k := fun ⟨t, h⟩ ⟨u, h2⟩ => ⟨u + t, fun i => by rw [h2, h]; congr 1; omega⟩
theorem bw_ga {l m r m' r' : List Nat} (h : ∀ i, ga m r i = ga m' r' i) (i : Int) : bw l m r i = bw l m' r' i := by
  unfold bw
  split
  · exact h _
  · rfl
def LFs (l m L A : List Nat) : Prop := RFs m.reverse l.reverse A.reverse L.reverse
theorem LFs.sh {l m L A : List Nat} (h : LFs l m L A) (r : List Nat) : Sh (bw l m r) (bw L A r) := by
  refine ⟨(m.length : Int) - A.length, fun j => ?_⟩
  rcases Int.lt_or_le j A.length with hj | hj
  · obtain ⟨i, hi⟩ : ∃ i : Nat, j = (A.length : Int) - 1 - i := ⟨((A.length : Int) - 1 - j).toNat, by omega⟩
    subst hi
    rw [bw_left, show (A.length : Int) - 1 - i + ((m.length : Int) - A.length) = (m.length : Int) - 1 - i by omega, bw_left]
    exact h.same i
  · obtain ⟨i, hi⟩ : ∃ i : Nat, j = (A.length : Int) + i := ⟨(j - A.length).toNat, by omega⟩
    subst hi
    rw [bw_right, show (A.length : Int) + i + ((m.length : Int) - A.length) = (m.length : Int) + i by omega, bw_right]
theorem rev_last {w : List Nat} (h : w ≠ []) : cy w.reverse 0 = w.getLastD 0 := by
  have := List.length_pos_iff.mpr h
  rw [cy_lt (by simpa using this), List.getLastD_eq_getLast?]
  simp [List.getLast?_eq_getElem?, List.getElem?_eq_getElem (show w.length - 1 < w.length by omega)]
theorem cy_rev {w : List Nat} (h0 : w ≠ []) {k K : Nat} (h : k < w.length * K) : cy w.reverse k = cy w (w.length * K - 1 - k) := by
  have hp := List.length_pos_iff.mpr h0
  unfold cy
  rw [List.length_reverse]
  have lt := Nat.mod_lt k hp
  have e : (w.length * K - 1 - k) % w.length = w.length - 1 - k % w.length := by
    have d := Nat.mod_add_div k w.length
    generalize hq : k / w.length = q at d
    have hqK : q < K := by
      rw [← hq]
      exact Nat.div_lt_of_lt_mul h
    obtain ⟨j, rfl⟩ : ∃ j, K = q + 1 + j := ⟨K - q - 1, by omega⟩
    have e2 : w.length * (q + 1 + j) - 1 - k = (w.length - 1 - k % w.length) + w.length * j := by
      rw [Nat.mul_add, Nat.mul_add, Nat.mul_one]
      omega
    rw [e2, Nat.add_mul_mod_self_left, Nat.mod_eq_of_lt (by omega)]
  rw [e]
  simp only [List.getD_eq_getElem?_getD]
  rw [List.getElem?_reverse lt]
def Rot (u v : List Nat) : Prop := u.length = v.length ∧ ∃ a, ∀ i, cy v i = cy u (i + a)
theorem Rot.symm {u v : List Nat} (h0 : u ≠ []) : Rot u v → Rot v u := fun ⟨hl, a, h⟩ => ⟨hl.symm, u.length * a - a, fun i => by
  have hp := List.length_pos_iff.mpr h0
  have le : a ≤ u.length * a := Nat.le_mul_of_pos_left a hp
  rw [h, show i + (u.length * a - a) + a = i + u.length * a by omega, (cy_per u).mul]⟩
theorem Rot.trans {u v w : List Nat} : Rot u v → Rot v w → Rot u w := fun ⟨hl, a, h⟩ ⟨hl2, b, h2⟩ => ⟨hl.trans hl2, b + a, fun i => by rw [h2, h]; congr 1; omega⟩
theorem Rot.refl (u : List Nat) : Rot u u := ⟨rfl, 0, fun _ => rfl⟩
theorem Rot.tr {u : List Nat} (h : u ≠ []) : Rot (tr u) u := ⟨tr_len h, 1, fun i => by rw [← tl_cy (tr_ne u), tr_tl h]⟩
section
variable (le : List Nat → List Nat → Prop)
def Lst (R : List Nat) : Prop := ∀ v, Rot R v → le R v
structure NF (L M R : List Nat) : Prop where
  pl : Prim L.reverse
  pr : Prim R
  hr : M ≠ [] → M.getLastD 0 ≠ R.getLastD 0
  hl : M ≠ [] → M.reverse.getLastD 0 ≠ L.reverse.getLastD 0
  h0 : M = [] → L.getLastD 0 ≠ R.getLastD 0 ∨ (L = R ∧ Lst le R)
variable {le}
theorem NF.ln {L M R : List Nat} (h : NF le L M R) : L ≠ [] := fun e => h.pl.ne (by rw [e]; rfl)
theorem bw_ahead {L M R : List Nat} (hl : L ≠ []) : bw L M R ((M.length : Int) - 1) = if M = [] then L.getLastD 0 else M.getLastD 0 := by
  have := bw_left L M R 0
  rw [show (M.length : Int) - 1 - (0 : Nat) = (M.length : Int) - 1 by omega] at this
  rw [this]
  split
  · rename_i e
    subst e
    rw [ga_ge (by simp)]
    exact rev_last hl
  · rename_i e
    have := List.length_pos_iff.mpr e
    rw [ga_lt (by simpa using this)]
    simp only [List.getD_eq_getElem?_getD]
    rw [List.getElem?_reverse (by omega), List.getLastD_eq_getLast?, List.getLast?_eq_getElem?]
    rfl
theorem bw_lenR {L M R L' M' R' : List Nat} (hR : Prim R) (hR' : Prim R') {t : Int} (h : ∀ i, bw L' M' R' i = bw L M R (i + t)) : R.length = R'.length := by
  refine prim_len hR hR' (a := ((M'.length : Int) + t - M.length).toNat) (b := ((M.length : Int) - t - M'.length).toNat) fun i => ?_
  generalize ha : ((M'.length : Int) + t - M.length).toNat = a
  generalize hb : ((M.length : Int) - t - M'.length).toNat = b
  have e := h ((M'.length : Int) + (i + b : Nat))
  rw [bw_right, show (M'.length : Int) + ((i + b : Nat) : Int) + t = (M.length : Int) + ((i + a : Nat) : Int) by omega, bw_right] at e
  exact e.symm
theorem pos_R {L M R L' M' R' : List Nat} (hR : Prim R) (hR' : Prim R') {t : Int} (h : ∀ i, bw L' M' R' i = bw L M R (i + t)) (np : bw L' M' R' ((M'.length : Int) - 1) ≠ R'.getLastD 0) : (M'.length : Int) + t ≤ M.length := by
  have len := bw_lenR hR hR' h
  have p := hR.pos
  rcases Int.lt_or_le (M.length : Int) ((M'.length : Int) + t) with lt | ge
  · refine absurd ?_ np
    have e1 := h ((M'.length : Int) - 1)
    have e2 := h ((M'.length : Int) + (R'.length - 1 : Nat))
    obtain ⟨j, hj⟩ : ∃ j : Nat, (M'.length : Int) - 1 + t = (M.length : Int) + j := ⟨((M'.length : Int) - 1 + t - M.length).toNat, by omega⟩
    rw [hj, bw_right] at e1
    rw [bw_right, last_cy hR'.ne, show (M'.length : Int) + ((R'.length - 1 : Nat) : Int) + t = (M.length : Int) + ((j + R.length : Nat) : Int) by omega, bw_right, cy_per] at e2
    rw [e1, e2]
  · exact ge
theorem bw_lenL {L M R L' M' R' : List Nat} (hL : Prim L.reverse) (hL' : Prim L'.reverse) {t : Int} (h : ∀ i, bw L' M' R' i = bw L M R (i + t)) : L.length = L'.length := by
  have := prim_len hL hL' (a := (-t).toNat) (b := t.toNat) fun i => by
    have e := h (-1 - ((i + t.toNat : Nat) : Int))
    rw [bw_out, show -1 - ((i + t.toNat : Nat) : Int) + t = -1 - ((i + (-t).toNat : Nat) : Int) by omega, bw_out] at e
    exact e.symm
  simpa using this
theorem pos_L {L M R L' M' R' : List Nat} (hL : Prim L.reverse) (hL' : Prim L'.reverse) {t : Int} (h : ∀ i, bw L' M' R' i = bw L M R (i + t)) (ne : M' ≠ []) (np : M'.reverse.getLastD 0 ≠ L'.reverse.getLastD 0) : 0 ≤ t := by
  have len := bw_lenL hL hL' h
  have p := hL.pos
  rcases Int.lt_or_le t 0 with lt | ge
  · refine absurd ?_ np
    have m0 := List.length_pos_iff.mpr ne
    have e1 := h ((0 : Nat) : Int)
    have e2 := h (-1 - ((L'.length - 1 : Nat) : Int))
    have lp : L'.reverse.length = L'.length := List.length_reverse
    have p' := hL'.pos
    rw [bw_in _ _ _ m0, show ((0 : Nat) : Int) + t = -1 - (((-1 - t).toNat : Nat) : Int) by omega, bw_out] at e1
    rw [bw_out, show L'.length - 1 = L'.reverse.length - 1 by omega, last_cy hL'.ne, show -1 - ((L'.reverse.length - 1 : Nat) : Int) + t = -1 - (((-1 - t).toNat + L.reverse.length : Nat) : Int) by simp at p p' ⊢; omega, bw_out, cy_per] at e2
    rw [e2, ← e1]
    cases M' with
    | nil => exact absurd rfl ne
    | cons x r => simp [List.getLastD_eq_getLast?]
  · exact ge
theorem bw_pure {R : List Nat} (h0 : R ≠ []) (i : Int) {K : Nat} (hK : -i ≤ (R.length * K : Nat)) : bw R [] R i = cy R (i + (R.length * K : Nat)).toNat := by
  have hp := List.length_pos_iff.mpr h0
  unfold bw
  split
  · rename_i h
    rw [ga_ge (by simp)]
    have e : (i + (R.length * K : Nat)).toNat = i.toNat + R.length * K := by omega
    rw [e, (cy_per R).mul]
    simp
  · rename_i h
    rw [cy_rev h0 (K := K) (by omega)]
    congr 1
    omega
theorem bw_uniq (anti : ∀ u v : List Nat, le u v → le v u → u = v) {L M R L' M' R' : List Nat} (a : NF le L M R) (b : NF le L' M' R') (h : Sh (bw L M R) (bw L' M' R')) : L = L' ∧ M = M' ∧ R = R' := by
  obtain ⟨t, h⟩ := h
  have h' : ∀ i, bw L M R i = bw L' M' R' (i + -t) := fun i => by rw [h]; congr 1; omega
  have lenR := bw_lenR a.pr b.pr h
  have lenL := bw_lenL a.pl b.pl h
  -- that of which all is alike
  have pure : ∀ {L M R L' M' R' : List Nat}, NF le L M R → NF le L' M' R' → ∀ {t : Int}, (∀ i, bw L' M' R' i = bw L M R (i + t)) → M' = [] → L' = R' → Lst le R' → L = L' ∧ M = M' ∧ R = R' := by
    intro L M R L' M' R' a b t h em el ll
    subst em el
    have lenR := bw_lenR a.pr b.pr h
    have hp := b.pr.pos
    -- whole periods
    have glob : ∀ i, bw L M R (i + R.length) = bw L M R i := fun i => by
      have e1 := h (i - t)
      have e2 := h (i - t + R.length)
      rw [show i - t + t = i by omega] at e1
      rw [show i - t + R.length + t = i + R.length by omega] at e2
      obtain ⟨K, hK⟩ : ∃ K : Nat, -(i - t) ≤ (L'.length * K : Nat) := ⟨(-(i - t)).toNat, by
        have := Nat.le_mul_of_pos_left (-(i - t)).toNat hp
        omega⟩
      rw [← e1, ← e2, bw_pure b.pr.ne _ hK, bw_pure b.pr.ne _ (K := K) (by omega), lenR, show (i - t + (L'.length : Int) + ((L'.length * K : Nat) : Int)).toNat = (i - t + ((L'.length * K : Nat) : Int)).toNat + L'.length by omega, cy_per]
    have g1 := glob ((M.length : Int) - 1)
    have p := a.pr.pos
    rw [show (M.length : Int) - 1 + R.length = (M.length : Int) + ((R.length - 1 : Nat) : Int) by omega, bw_right, last_cy a.pr.ne, bw_ahead a.ln] at g1
    have em : M = [] := by
      refine Classical.byContradiction fun ne => ?_
      rw [if_neg ne] at g1
      exact a.hr ne g1.symm
    subst em
    rw [if_pos rfl] at g1
    rcases a.h0 rfl with z | ⟨e, l2⟩
    · exact absurd g1.symm z
    · subst e
      have rot : Rot L L' := by
        obtain ⟨K, hK⟩ : ∃ K : Nat, -t ≤ (L.length * K : Nat) := ⟨(-t).toNat, by
          have := Nat.le_mul_of_pos_left (-t).toNat p
          omega⟩
        refine ⟨lenR, (t + (L.length * K : Nat)).toNat, fun i => ?_⟩
        have e := h ((([] : List Nat).length : Int) + (i : Nat))
        rw [bw_right, bw_pure a.pr.ne _ (K := K) (by simp; omega)] at e
        rw [e]
        congr 1
        simp
        omega
      have : L = L' := anti _ _ (l2 _ rot) (ll _ (rot.symm a.pr.ne))
      exact ⟨this, rfl, this⟩
  by_cases pb : M' = [] ∧ L' = R' ∧ Lst le R'
  · exact pure a b h pb.1 pb.2.1 pb.2.2
  by_cases pa : M = [] ∧ L = R ∧ Lst le R
  · obtain ⟨e1, e2, e3⟩ := pure b a h' pa.1 pa.2.1 pa.2.2
    exact ⟨e1.symm, e2.symm, e3.symm⟩
  have np : ∀ {L M R : List Nat}, NF le L M R → ¬ (M = [] ∧ L = R ∧ Lst le R) → bw L M R ((M.length : Int) - 1) ≠ R.getLastD 0 := fun {L M R} n z => by
    rw [bw_ahead n.ln]
    split
    · rename_i e
      rcases n.h0 e with q | q
      · exact q
      · exact absurd ⟨e, q⟩ z
    · rename_i e
      exact n.hr e
  have q1 := pos_R a.pr b.pr h (np b pb)
  have q2 := pos_R b.pr a.pr h' (np a pa)
  have t0 : t = 0 := by
    rcases Int.lt_trichotomy t 0 with lt | e | gt
    · have ne : M' ≠ [] := fun e => by subst e; simp at q1 q2; omega
      have := pos_L a.pl b.pl h ne (b.hl ne)
      omega
    · exact e
    · have ne : M ≠ [] := fun e => by subst e; simp at q1 q2; omega
      have := pos_L b.pl a.pl h' ne (a.hl ne)
      omega
  subst t0
  have h2 : ∀ i, bw L' M' R' i = bw L M R i := fun i => by rw [h]; simp
  have lm : M.length = M'.length := by omega
  refine ⟨?_, List.ext_getElem lm fun i h1 h3 => ?_, prim_uniq a.pr b.pr fun i => ?_⟩
  · have := prim_uniq a.pl b.pl fun i => by
      have := h2 (-1 - (i : Int))
      rw [bw_out, bw_out] at this
      exact this.symm
    have := congrArg List.reverse this
    simpa using this
  · have := h2 (i : Int)
    rw [bw_in _ _ _ h1, bw_in _ _ _ h3] at this
    simpa [List.getD_eq_getElem?_getD, h1, h3] using this.symm
  · have := h2 ((M'.length : Int) + (i : Nat))
    rw [bw_right, ← lm, bw_right] at this
    exact this.symm
end
end EV
set_option maxRecDepth 100000
namespace EV
def repw (u : List Nat) (k : Nat) : List Nat := (List.replicate k u).flatten
theorem pw_len (u : List Nat) (k : Nat) : (repw u k).length = k * u.length := by
  unfold repw
  simp [List.length_flatten]
theorem pw_get {u : List Nat} (h0 : u ≠ []) : ∀ (k i : Nat), i < k * u.length → (repw u k).getD i 0 = cy u i
  | 0, i, h => by omega
  | k + 1, i, h => by
    have ih := pw_get h0 k
    have hp := List.length_pos_iff.mpr h0
    have e : repw u (k + 1) = u ++ repw u k := by simp [repw, List.replicate_succ]
    rw [e]
    simp only [List.getD_eq_getElem?_getD] at ih ⊢
    by_cases hi : i < u.length
    · rw [List.getElem?_append_left hi, cy_lt hi]
      simp [hi]
    · rw [List.getElem?_append_right (by omega), ih (i - u.length) (by rw [Nat.succ_mul] at h; omega), ← cy_per u (i - u.length)]
      congr 1
      omega
theorem pw_cy {u : List Nat} (h0 : u ≠ []) {k : Nat} (hk : 1 ≤ k) (i : Nat) : cy (repw u k) i = cy u i := by
  have hp := List.length_pos_iff.mpr h0
  have hl := pw_len u k
  have pos : 0 < k * u.length := Nat.mul_pos hk hp
  have lt := Nat.mod_lt i pos
  show (repw u k).getD (i % (repw u k).length) 0 = _
  rw [hl, pw_get h0 k _ lt]
  have d := Nat.mod_add_div i (k * u.length)
  have e : i = i % (k * u.length) + u.length * (k * (i / (k * u.length))) := by
    rw [← Nat.mul_assoc, Nat.mul_comm u.length k]; exact d.symm
  conv => rhs; rw [e]
  rw [(cy_per u).mul]
theorem take_cy {w : List Nat} {s : Nat} (h1 : 1 ≤ s) (hs : s ≤ w.length) (h : Per (cy w) s) (i : Nat) : cy (w.take s) i = cy w i := by
  have hl : (w.take s).length = s := by simp; omega
  have lt := Nat.mod_lt i (show 0 < s by omega)
  have e : i = i % s + s * (i / s) := (Nat.mod_add_div i s).symm
  conv => rhs; rw [e]
  rw [h.mul, cy_lt (show i % s < w.length by omega)]
  unfold cy
  rw [hl]
  simp only [List.getD_eq_getElem?_getD]
  rw [List.getElem?_take_of_lt lt, List.getElem?_eq_getElem (by omega)]
  rfl
theorem chk_iff {w : List Nat} {s : Nat} (h1 : 1 ≤ s) (hs : s ≤ w.length) : repw (w.take s) (w.length / s) = w ↔ w.length % s = 0 ∧ Per (cy w) s := by
  have hl : (w.take s).length = s := by simp; omega
  have h0 : w.take s ≠ [] := fun e => by rw [e] at hl; simp at hl; omega
  have w0 : w ≠ [] := fun e => by subst e; simp at hs; omega
  constructor
  · intro e
    have len := congrArg List.length e
    rw [pw_len, hl] at len
    have d := Nat.mod_add_div w.length s
    have z : w.length % s = 0 := by rw [Nat.mul_comm] at len; omega
    have k1 : 1 ≤ w.length / s := Nat.div_pos hs (by omega)
    refine ⟨z, fun i => ?_⟩
    have a := pw_cy h0 k1 (i + s)
    have b := pw_cy h0 k1 i
    rw [e] at a b
    rw [a, b]
    have := cy_per (w.take s) i
    rwa [hl] at this
  · rintro ⟨z, hp⟩
    have d := Nat.mod_add_div w.length s
    have len : (repw (w.take s) (w.length / s)).length = w.length := by rw [pw_len, hl, Nat.mul_comm]; omega
    refine List.ext_getElem len fun i h2 h3 => ?_
    have e := pw_get h0 (w.length / s) i (by rw [← pw_len]; exact h2)
    rw [take_cy h1 hs hp, cy_lt h3] at e
    rw [List.getD_eq_getElem?_getD, List.getElem?_eq_getElem h2] at e
    exact e
theorem prim_take {w : List Nat} {s : Nat} (h1 : 1 ≤ s) (hs : s ≤ w.length) (hp : Per (cy w) s) (hm : ∀ t, 1 ≤ t → t < s → ¬ (w.length % t = 0 ∧ Per (cy w) t)) (hd : w.length % s = 0) : Prim (w.take s) ∧ ∀ i, cy (w.take s) i = cy w i := by
  have tc := take_cy h1 hs hp
  have hl : (w.take s).length = s := by simp; omega
  refine ⟨⟨fun e => by rw [e] at hl; simp at hl; omega, fun t ht pt => ?_⟩, tc⟩
  rw [hl]
  have pt : Per (cy w) t := fun i => by rw [← tc, ← tc]; exact pt i
  have pg := pt.gcd (cy_per w)
  have g1 : 1 ≤ Nat.gcd t w.length := Nat.gcd_pos_of_pos_left _ ht
  have gt : Nat.gcd t w.length ≤ t := Nat.gcd_le_left _ ht
  have gd : w.length % Nat.gcd t w.length = 0 := Nat.mod_eq_zero_of_dvd (Nat.gcd_dvd_right _ _)
  rcases Nat.lt_or_ge (Nat.gcd t w.length) s with lt | ge
  · exact absurd ⟨gd, pg⟩ (hm _ g1 lt)
  · omega
theorem fine {u v : List Nat} (h0 : u ≠ []) (h0' : v ≠ []) (h : ∀ i, i < u.length + v.length → cy u i = cy v i) (i : Nat) : cy u i = cy v i := by
  have p := List.length_pos_iff.mpr h0
  have p' := List.length_pos_iff.mpr h0'
  induction i using Nat.strongRecOn with
  | _ i ih =>
    by_cases hi : i < u.length + v.length
    · exact h i hi
    · have a1 := cy_per u (i - u.length)
      have a2 := cy_per v (i - u.length - v.length)
      have a3 := cy_per u (i - u.length - v.length)
      have a4 := cy_per v (i - v.length)
      have b1 := ih (i - u.length) (by omega)
      have b2 := ih (i - u.length - v.length) (by omega)
      have b3 := ih (i - v.length) (by omega)
      rw [show i - u.length + u.length = i by omega] at a1
      rw [show i - u.length - v.length + v.length = i - u.length by omega] at a2
      rw [show i - u.length - v.length + u.length = i - v.length by omega] at a3
      rw [show i - v.length + v.length = i by omega] at a4
      rw [a1, b1, a2, ← b2, ← a3, b3, a4]
theorem rot_cy : ∀ (a b : List Nat), a ++ b ≠ [] → ∀ i, cy (b ++ a) i = cy (a ++ b) (i + a.length)
  | [], b, _, i => by simp
  | x :: a, b, h, i => by
    have ih := rot_cy a (b ++ [x]) (by simp) i
    rw [show b ++ x :: a = (b ++ [x]) ++ a by simp, ih]
    have t := tl_cy h (i + a.length)
    rw [show tl (x :: a ++ b) = a ++ (b ++ [x]) by simp [tl]] at t
    rw [t]
    simp [Nat.add_assoc]
theorem ga_rot (m x y : List Nat) (h : x ++ y ≠ []) (i : Nat) : ga (m ++ x) (y ++ x) i = ga m (x ++ y) i := by
  unfold ga
  simp only [List.length_append]
  by_cases h1 : i < m.length
  · rw [if_pos (by omega), if_pos h1]
    simp only [List.getD_eq_getElem?_getD]
    rw [List.getElem?_append_left h1]
  · rw [if_neg h1]
    by_cases h2 : i < m.length + x.length
    · rw [if_pos h2, cy_lt (by simp; omega)]
      simp only [List.getD_eq_getElem?_getD]
      rw [List.getElem?_append_right (by omega), List.getElem?_eq_getElem (by omega), List.getElem_append_left (by omega)]
      rfl
    · rw [if_neg h2, rot_cy x y h]
      congr 1
      omega
theorem bw_rot (y x m r : List Nat) (h : y ++ x ≠ []) : Sh (bw (y ++ x) m r) (bw (x ++ y) (x ++ m) r) := by
  refine ⟨-(x.length : Int), fun i => ?_⟩
  rcases Int.lt_or_le i 0 with lt | ge
  · obtain ⟨j, rfl⟩ : ∃ j : Nat, i = -1 - (j : Int) := ⟨(-1 - i).toNat, by omega⟩
    rw [bw_out, show -1 - (j : Int) + -(x.length : Int) = -1 - ((j + x.length : Nat) : Int) by omega, bw_out, List.reverse_append, List.reverse_append]
    have := rot_cy x.reverse y.reverse (fun e => h (by simp at e; simp [e])) j
    rw [List.length_reverse] at this
    exact this
  · by_cases h2 : i < x.length
    · obtain ⟨j, rfl⟩ : ∃ j : Nat, i = (j : Int) := ⟨i.toNat, by omega⟩
      have hj : j < x.length := by omega
      rw [bw_in _ _ _ (by simp; omega), show (j : Int) + -(x.length : Int) = -1 - ((x.length - 1 - j : Nat) : Int) by omega, bw_out, cy_lt (by simp; omega)]
      simp only [List.getD_eq_getElem?_getD, List.reverse_append]
      rw [List.getElem?_append_left hj, List.getElem_append_left (by simp; omega), List.getElem_reverse, List.getElem?_eq_getElem hj]
      simp only [Option.getD_some]
      congr 1
      omega
    · unfold bw
      rw [if_pos ge, if_pos (by omega)]
      unfold ga
      simp only [List.length_append]
      by_cases h3 : i.toNat < x.length + m.length
      · rw [if_pos h3, if_pos (by omega)]
        simp only [List.getD_eq_getElem?_getD]
        rw [List.getElem?_append_right (by omega), show i.toNat - x.length = (i + -(x.length : Int)).toNat by omega]
      · rw [if_neg h3, if_neg (by omega)]
        congr 1
        omega
theorem bw_cy {l l' m r : List Nat} (h : ∀ i, cy l.reverse i = cy l'.reverse i) (i : Int) : bw l m r i = bw l' m r i := by
  unfold bw
  split
  · rfl
  · exact h _
theorem Sh.of_eq {f g : Int → Nat} (h : ∀ i, f i = g i) : Sh f g := ⟨0, fun i => by rw [h]; simp⟩
theorem pw_rev (u : List Nat) (k : Nat) : (repw u k).reverse = repw u.reverse k := by
  unfold repw
  rw [List.reverse_flatten]
  simp
theorem bw_pw {l m r : List Nat} (hl : l ≠ []) (hr : r ≠ []) {j k : Nat} (hj : 1 ≤ j) (hk : 1 ≤ k) : Sh (bw l m r) (bw (repw l j) m (repw r k)) :=
  Sh.of_eq fun i => by
    rw [bw_cy (l' := repw l j) fun i => by rw [pw_rev, pw_cy (by simpa using hl) hj]]
    exact bw_ga (fun i => ga_congr (fun i => (pw_cy hr hk i).symm) i) i
theorem bw_turn {u v : List Nat} (h0 : u ≠ []) (h : Rot u v) : Sh (bw u [] u) (bw v [] v) := by
  obtain ⟨hl, a, h⟩ := h
  have hp := List.length_pos_iff.mpr h0
  have v0 : v ≠ [] := fun e => by subst e; simp at hl; exact h0 hl
  refine ⟨a, fun i => ?_⟩
  have le := Nat.le_mul_of_pos_left (-i).toNat hp
  rw [bw_pure v0 i (K := (-i).toNat) (by rw [← hl]; omega), bw_pure h0 (i + a) (K := (-i).toNat) (by omega), h, ← hl]
  congr 1
  omega
theorem tr_rev {w : List Nat} (h : w ≠ []) : (tr w).reverse = tl w.reverse := by
  unfold tr tl
  have e := List.dropLast_concat_getLast h
  have g : w.getLastD 0 = w.getLast h := by rw [List.getLastD_eq_getLast?, List.getLast?_eq_getLast h]; rfl
  conv => rhs; rw [← e]
  rw [g]
  simp
theorem rev_ne {w : List Nat} (h : w ≠ []) : w.reverse ≠ [] := by simpa using h
theorem tr_cy0 {w : List Nat} (h : w ≠ []) : cy (tr w) 0 = w.getLastD 0 := by simp [cy, tr]
theorem tr_cyS {w : List Nat} (h : w ≠ []) (i : Nat) : cy (tr w) (i + 1) = cy w i := by rw [← tl_cy (tr_ne w), tr_tl h]
theorem bw_on {a e : List Nat} (ha : a ≠ []) (he : e ≠ []) (h : a.getLastD 0 = e.getLastD 0) : Sh (bw a [] e) (bw (tr a) [] (tr e)) := by
  refine ⟨-1, fun i => ?_⟩
  rcases Int.lt_or_le i 0 with lt | ge
  · obtain ⟨j, rfl⟩ : ∃ j : Nat, i = -1 - (j : Int) := ⟨(-1 - i).toNat, by omega⟩
    rw [bw_out, show -1 - (j : Int) + -1 = -1 - ((j + 1 : Nat) : Int) by omega, bw_out, tr_rev ha, tl_cy (rev_ne ha)]
  · obtain ⟨j, rfl⟩ : ∃ j : Nat, i = (j : Int) := ⟨i.toNat, by omega⟩
    have e1 := bw_right (tr a) [] (tr e) j
    simp at e1
    rw [e1]
    cases j with
    | zero =>
      rw [tr_cy0 he, ← h, show ((0 : Nat) : Int) + -1 = -1 - ((0 : Nat) : Int) by omega, bw_out, rev_last ha]
    | succ j =>
      have e2 := bw_right a [] e j
      simp at e2
      rw [tr_cyS he, show ((j + 1 : Nat) : Int) + -1 = (j : Int) by omega, e2]
end EV
set_option maxRecDepth 100000
namespace EV
open PySem L2
namespace Lu
def b_word_text : Ss :=
    (.cons (.ret (.join (.str " ") (.comp (.call "letter_text" (.cons false (.var 1) .nil)) (.name 1) (.val (.var 0)) .nil [1])))
    .nil)
def f_word_text : Fn := ⟨1, 2, b_word_text⟩
def b_letter_text : Ss :=
    (.cons (.ite (.tru (.isi (.var 0) ["str"]))
    (.cons (.ret (.var 0))
    .nil)
    .nil)
    (.cons (.ite (.cmp .eq (.ix (.var 0) (.int 0)) (.str "mixture"))
    (.cons (.ret (.bin .add (.bin .add (.str "[") (.join (.str ", ") (.comp (.call "letter_text" (.cons false (.var 1) .nil)) (.name 1) (.val (.ix (.var 0) (.int 1))) .nil [1]))) (.str "]")))
    .nil)
    .nil)
    (.cons (.sett [2, 3, 4] (.sl (.var 0) (.so (.int 1)) .no))
    (.cons (.set 5 false (.bin .add (.bin .mul (.lst (.cons false (.fstr (.cons false (.str "<(") (.cons true (.call "word_text" (.cons false (.var 2) .nil)) (.cons false (.str ")") .nil)))) .nil)) (.blt "int" (.cons false (.cmp .ne (.var 2) (.tup .nil)) .nil))) (.comp (.call "letter_text" (.cons false (.var 1) .nil)) (.name 1) (.val (.var 3)) .nil [1])))
    (.cons (.ret (.bin .add (.bin .add (.str "{") (.join (.str " ") (.bin .add (.var 5) (.bin .mul (.lst (.cons false (.fstr (.cons false (.str "(") (.cons true (.call "word_text" (.cons false (.var 4) .nil)) (.cons false (.str ")>") .nil)))) .nil)) (.blt "int" (.cons false (.cmp .ne (.var 4) (.tup .nil)) .nil)))))) (.str "}")))
    .nil)))))
def f_letter_text : Fn := ⟨1, 6, b_letter_text⟩
def b_root : Ss :=
    (.cons (.set 1 false (.comp (.var 2) (.name 2) (.rng2 (.int 1) (.bin .add (.blt "len" (.cons false (.var 0) .nil)) (.int 1))) (.cons (.cmp .eq (.bin .mod (.blt "len" (.cons false (.var 0) .nil)) (.var 2)) (.int 0)) .nil) [2]))
    (.cons (.ret (.ix (.comp (.sl (.var 0) .no (.so (.var 2))) (.name 2) (.val (.var 1)) (.cons (.cmp .eq (.bin .mul (.sl (.var 0) .no (.so (.var 2))) (.bin .fdiv (.blt "len" (.cons false (.var 0) .nil)) (.var 2))) (.var 0)) .nil) [2]) (.int 0)))
    .nil))
def f_root : Fn := ⟨1, 3, b_root⟩
def b_turned_on : Ss :=
    (.cons (.ret (.tup (.cons false (.ix (.var 0) (.neg (.int 1))) (.cons true (.sl (.var 0) .no (.so (.neg (.int 1)))) .nil))))
    .nil)
def f_turned_on : Fn := ⟨1, 1, b_turned_on⟩
def b_right_form : Ss :=
    (.cons (.par [2, 3] [false, false] (.cons false (.var 0) (.cons false (.call "root" (.cons false (.var 1) .nil)) .nil)))
    (.cons (.while_ (.and (.cons (.cmp .ne (.var 2) (.tup .nil)) (.cons (.cmp .eq (.ix (.var 2) (.neg (.int 1))) (.ix (.var 3) (.neg (.int 1)))) .nil)))
    (.cons (.par [2, 3] [false, false] (.cons false (.sl (.var 2) .no (.so (.neg (.int 1)))) (.cons false (.call "turned_on" (.cons false (.var 3) .nil)) .nil)))
    .nil) [])
    (.cons (.ret (.tup (.cons false (.var 2) (.cons false (.var 3) .nil))))
    .nil)))
def f_right_form : Fn := ⟨2, 4, b_right_form⟩
def b_left_form : Ss :=
    (.cons (.par [2, 3] [false, false] (.cons false (.call "root" (.cons false (.var 0) .nil)) (.cons false (.var 1) .nil)))
    (.cons (.while_ (.and (.cons (.cmp .ne (.var 3) (.tup .nil)) (.cons (.cmp .eq (.ix (.var 3) (.int 0)) (.ix (.var 2) (.int 0))) .nil)))
    (.cons (.par [2, 3] [false, false] (.cons false (.tup (.cons true (.sl (.var 2) (.so (.int 1)) .no) (.cons false (.ix (.var 2) (.int 0)) .nil))) (.cons false (.sl (.var 3) (.so (.int 1)) .no) .nil)))
    .nil) [])
    (.cons (.ret (.tup (.cons false (.var 2) (.cons false (.var 3) .nil))))
    .nil)))
def f_left_form : Fn := ⟨2, 4, b_left_form⟩
def b_least_turn : Ss :=
    (.cons (.set 1 false (.comp (.bin .add (.sl (.var 0) (.so (.var 2)) .no) (.sl (.var 0) .no (.so (.var 2)))) (.name 2) (.rng1 (.blt "len" (.cons false (.var 0) .nil))) .nil [2]))
    (.cons (.set 3 false (.comp (.call "word_text" (.cons false (.var 4) .nil)) (.name 4) (.val (.var 1)) .nil [4]))
    (.cons (.ret (.ix (.var 1) (.idx (.var 3) (.blt "min" (.cons false (.var 3) .nil)))))
    .nil)))
def f_least_turn : Fn := ⟨1, 5, b_least_turn⟩
def b_double_form : Ss :=
    (.cons (.sett [3, 4] (.call "right_form" (.cons false (.var 1) (.cons false (.var 2) .nil))))
    (.cons (.ite (.cmp .ne (.var 3) (.tup .nil))
    (.cons (.ret (.tup (.cons false (.str "lump") (.cons true (.call "left_form" (.cons false (.var 0) (.cons false (.var 3) .nil))) (.cons false (.var 4) .nil)))))
    .nil)
    .nil)
    (.cons (.set 5 false (.call "root" (.cons false (.var 0) .nil)))
    (.cons (.for_ (.name 6) (.rng1 (.bin .add (.blt "len" (.cons false (.var 5) .nil)) (.blt "len" (.cons false (.var 4) .nil))))
    (.cons (.ite (.cmp .ne (.ix (.var 5) (.neg (.int 1))) (.ix (.var 4) (.neg (.int 1))))
    (.cons (.ret (.tup (.cons false (.str "lump") (.cons false (.var 5) (.cons false (.tup .nil) (.cons false (.var 4) .nil))))))
    .nil)
    .nil)
    (.cons (.par [5, 4] [false, false] (.cons false (.call "turned_on" (.cons false (.var 5) .nil)) (.cons false (.call "turned_on" (.cons false (.var 4) .nil)) .nil)))
    .nil)) [6])
    (.cons (.ret (.tup (.cons false (.str "lump") (.cons false (.call "least_turn" (.cons false (.var 4) .nil)) (.cons false (.tup .nil) (.cons false (.call "least_turn" (.cons false (.var 4) .nil)) .nil))))))
    .nil)))))
def f_double_form : Fn := ⟨3, 7, b_double_form⟩
def b_lump_of : Ss :=
    (.cons (.ite (.and (.cons (.cmp .ne (.var 0) (.tup .nil)) (.cons (.cmp .ne (.var 2) (.tup .nil)) .nil)))
    (.cons (.ret (.call "double_form" (.cons false (.var 0) (.cons false (.var 1) (.cons false (.var 2) .nil)))))
    .nil)
    .nil)
    (.cons (.ite (.cmp .ne (.var 0) (.tup .nil))
    (.cons (.ret (.tup (.cons false (.str "lump") (.cons true (.call "left_form" (.cons false (.var 0) (.cons false (.var 1) .nil))) (.cons false (.tup .nil) .nil)))))
    .nil)
    .nil)
    (.cons (.ite (.cmp .ne (.var 2) (.tup .nil))
    (.cons (.ret (.tup (.cons false (.str "lump") (.cons false (.tup .nil) (.cons true (.call "right_form" (.cons false (.var 1) (.cons false (.var 2) .nil))) .nil)))))
    .nil)
    .nil)
    (.cons (.ret (.ite (.cmp .eq (.blt "len" (.cons false (.var 1) .nil)) (.int 1)) (.ix (.var 1) (.int 0)) (.tup (.cons false (.str "lump") (.cons false (.tup .nil) (.cons false (.var 1) (.cons false (.tup .nil) .nil)))))))
    .nil))))
def f_lump_of : Fn := ⟨3, 3, b_lump_of⟩
def b__law_word_text : Ss :=
    (.cons (.ret (.join (.str " ") (.comp (.call "_law_text" (.cons false (.var 1) .nil)) (.name 1) (.val (.var 0)) .nil [1])))
    .nil)
def f__law_word_text : Fn := ⟨1, 2, b__law_word_text⟩
def b__law_text : Ss :=
    (.cons (.ite (.tru (.isi (.var 0) ["str"]))
    (.cons (.ret (.var 0))
    .nil)
    .nil)
    (.cons (.ite (.cmp .eq (.ix (.var 0) (.int 0)) (.str "mixture"))
    (.cons (.ret (.bin .add (.bin .add (.str "[") (.join (.str ", ") (.comp (.call "_law_text" (.cons false (.var 1) .nil)) (.name 1) (.val (.ix (.var 0) (.int 1))) .nil [1]))) (.str "]")))
    .nil)
    .nil)
    (.cons (.set 2 false (.bin .mul (.lst (.cons false (.bin .add (.bin .add (.str "<(") (.call "_law_word_text" (.cons false (.ix (.var 0) (.int 1)) .nil))) (.str ")")) .nil)) (.blt "int" (.cons false (.cmp .ne (.ix (.var 0) (.int 1)) (.tup .nil)) .nil))))
    (.cons (.set 3 false (.bin .mul (.lst (.cons false (.bin .add (.bin .add (.str "(") (.call "_law_word_text" (.cons false (.ix (.var 0) (.int 3)) .nil))) (.str ")>")) .nil)) (.blt "int" (.cons false (.cmp .ne (.ix (.var 0) (.int 3)) (.tup .nil)) .nil))))
    (.cons (.ret (.bin .add (.bin .add (.str "{") (.join (.str " ") (.bin .add (.bin .add (.var 2) (.comp (.call "_law_text" (.cons false (.var 1) .nil)) (.name 1) (.val (.ix (.var 0) (.int 2))) .nil [1])) (.var 3)))) (.str "}")))
    .nil)))))
def f__law_text : Fn := ⟨1, 4, b__law_text⟩
def b__law_root : Ss :=
    (.cons (.for_ (.name 1) (.rng2 (.int 1) (.blt "len" (.cons false (.var 0) .nil)))
    (.cons (.ite (.cmp .eq (.bin .mul (.sl (.var 0) .no (.so (.var 1))) (.bin .fdiv (.blt "len" (.cons false (.var 0) .nil)) (.var 1))) (.var 0))
    (.cons (.ret (.sl (.var 0) .no (.so (.var 1))))
    .nil)
    .nil)
    .nil) [1])
    (.cons (.ret (.var 0))
    .nil))
def f__law_root : Fn := ⟨1, 2, b__law_root⟩
def b__law_right_form : Ss :=
    (.cons (.set 1 false (.call "_law_root" (.cons false (.var 1) .nil)))
    (.cons (.par [2, 3] [false, false] (.cons false (.bin .add (.var 0) (.var 1)) (.cons false (.blt "len" (.cons false (.var 0) .nil)) .nil)))
    (.cons (.while_ (.and (.cons (.cmp .gt (.var 3) (.int 0)) (.cons (.cmp .eq (.ix (.var 2) (.bin .sub (.var 3) (.int 1))) (.ix (.var 2) (.bin .add (.bin .sub (.var 3) (.int 1)) (.blt "len" (.cons false (.var 1) .nil))))) .nil)))
    (.cons (.set 3 false (.bin .sub (.var 3) (.int 1)))
    .nil) [])
    (.cons (.ret (.tup (.cons false (.sl (.var 2) .no (.so (.var 3))) (.cons false (.sl (.var 2) (.so (.var 3)) (.so (.bin .add (.var 3) (.blt "len" (.cons false (.var 1) .nil))))) .nil))))
    .nil))))
def f__law_right_form : Fn := ⟨2, 4, b__law_right_form⟩
def b__law_left_form : Ss :=
    (.cons (.sett [2, 3] (.call "_law_right_form" (.cons false (.rev (.var 1)) (.cons false (.rev (.var 0)) .nil))))
    (.cons (.ret (.tup (.cons false (.rev (.var 3)) (.cons false (.rev (.var 2)) .nil))))
    .nil))
def f__law_left_form : Fn := ⟨2, 4, b__law_left_form⟩
def b__law_lump : Ss :=
    (.cons (.ite (.and (.cons (.cmp .eq (.var 0) (.tup .nil)) (.cons (.cmp .eq (.var 2) (.tup .nil)) .nil)))
    (.cons (.ret (.ite (.cmp .eq (.blt "len" (.cons false (.var 1) .nil)) (.int 1)) (.ix (.var 1) (.int 0)) (.tup (.cons false (.str "lump") (.cons false (.tup .nil) (.cons false (.var 1) (.cons false (.tup .nil) .nil)))))))
    .nil)
    .nil)
    (.cons (.ite (.or (.cons (.cmp .eq (.var 0) (.tup .nil)) (.cons (.cmp .eq (.var 2) (.tup .nil)) .nil)))
    (.cons (.set 3 false (.ite (.cmp .eq (.var 2) (.tup .nil)) (.call "_law_left_form" (.cons false (.var 0) (.cons false (.var 1) .nil))) (.call "_law_right_form" (.cons false (.var 1) (.cons false (.var 2) .nil)))))
    (.cons (.ret (.ite (.cmp .eq (.var 2) (.tup .nil)) (.bin .add (.bin .add (.tup (.cons false (.str "lump") .nil)) (.var 3)) (.tup (.cons false (.tup .nil) .nil))) (.bin .add (.tup (.cons false (.str "lump") (.cons false (.tup .nil) .nil))) (.var 3))))
    .nil))
    .nil)
    (.cons (.sett [1, 2] (.call "_law_right_form" (.cons false (.var 1) (.cons false (.var 2) .nil))))
    (.cons (.ite (.cmp .ne (.var 1) (.tup .nil))
    (.cons (.ret (.bin .add (.bin .add (.tup (.cons false (.str "lump") .nil)) (.call "_law_left_form" (.cons false (.var 0) (.cons false (.var 1) .nil)))) (.tup (.cons false (.var 2) .nil))))
    .nil)
    .nil)
    (.cons (.set 0 false (.call "_law_root" (.cons false (.var 0) .nil)))
    (.cons (.set 4 false (.bin .mul (.var 0) (.bin .add (.bin .add (.blt "len" (.cons false (.var 0) .nil)) (.blt "len" (.cons false (.var 2) .nil))) (.int 1))))
    (.cons (.par [5, 6] [false, false] (.cons false (.bin .add (.var 4) (.var 2)) (.cons false (.blt "len" (.cons false (.var 4) .nil)) .nil)))
    (.cons (.while_ (.and (.cons (.cmp .gt (.var 6) (.int 0)) (.cons (.cmp .eq (.ix (.var 5) (.bin .sub (.var 6) (.int 1))) (.ix (.var 5) (.bin .add (.bin .sub (.var 6) (.int 1)) (.blt "len" (.cons false (.var 2) .nil))))) .nil)))
    (.cons (.set 6 false (.bin .sub (.var 6) (.int 1)))
    .nil) [])
    (.cons (.ite (.cmp .gt (.var 6) (.int 0))
    (.cons (.ret (.bin .add (.bin .add (.tup (.cons false (.str "lump") .nil)) (.call "_law_left_form" (.cons false (.var 0) (.cons false (.sl (.var 5) .no (.so (.var 6))) .nil)))) (.tup (.cons false (.sl (.var 5) (.so (.var 6)) (.so (.bin .add (.var 6) (.blt "len" (.cons false (.var 2) .nil))))) .nil))))
    .nil)
    .nil)
    (.cons (.set 7 false (.comp (.bin .add (.sl (.var 2) (.so (.var 8)) .no) (.sl (.var 2) .no (.so (.var 8)))) (.name 8) (.rng1 (.blt "len" (.cons false (.var 2) .nil))) .nil [8]))
    (.cons (.set 9 false (.comp (.call "_law_word_text" (.cons false (.var 10) .nil)) (.name 10) (.val (.var 7)) .nil [10]))
    (.cons (.ret (.tup (.cons false (.str "lump") (.cons false (.ix (.var 7) (.idx (.var 9) (.blt "min" (.cons false (.var 9) .nil)))) (.cons false (.tup .nil) (.cons false (.ix (.var 7) (.idx (.var 9) (.blt "min" (.cons false (.var 9) .nil)))) .nil))))))
    .nil))))))))))))
def f__law_lump : Fn := ⟨3, 11, b__law_lump⟩
def b__law_draw_letters : Ss :=
    (.cons (.set 2 false (.lst (.cons false (.str "a") (.cons false (.str "b") (.cons false (.str "a") (.cons false (.str "b") (.cons false (.str "a") (.cons false (.tup (.cons false (.str "mixture") (.cons false (.tup (.cons false (.str "a") .nil)) .nil))) (.cons false (.tup (.cons false (.str "lump") (.cons false (.tup .nil) (.cons false (.tup (.cons false (.str "a") .nil)) (.cons false (.tup (.cons false (.str "b") .nil)) .nil))))) (.cons false (.tup (.cons false (.str "lump") (.cons false (.tup .nil) (.cons false (.tup (.cons false (.str "b") (.cons false (.str "a") .nil))) (.cons false (.tup .nil) .nil))))) .nil))))))))))
    (.cons (.ret (.blt "tuple" (.cons false (.comp (.ix (.var 2) (.call "_law_pick" (.cons false (.var 0) (.cons false (.int 8) .nil)))) (.name 3) (.rng1 (.call "_law_pick" (.cons false (.var 0) (.cons false (.bin .add (.var 1) (.int 1)) .nil)))) .nil [3]) .nil)))
    .nil))
def f__law_draw_letters : Fn := ⟨2, 4, b__law_draw_letters⟩
def b__law_other_telling : Ss :=
    (.cons (.ite (.and (.cons (.cmp .ne (.var 1) (.tup .nil)) (.cons (.cmp .eq (.call "_law_pick" (.cons false (.var 0) (.cons false (.int 2) .nil))) (.int 0)) .nil)))
    (.cons (.set 4 false (.bin .add (.int 1) (.call "_law_pick" (.cons false (.var 0) (.cons false (.blt "len" (.cons false (.var 1) .nil)) .nil)))))
    (.cons (.par [1, 2] [false, false] (.cons false (.bin .add (.sl (.var 1) (.so (.bin .sub (.blt "len" (.cons false (.var 1) .nil)) (.var 4))) .no) (.sl (.var 1) .no (.so (.bin .sub (.blt "len" (.cons false (.var 1) .nil)) (.var 4))))) (.cons false (.bin .add (.sl (.var 1) (.so (.bin .sub (.blt "len" (.cons false (.var 1) .nil)) (.var 4))) .no) (.var 2)) .nil)))
    .nil))
    .nil)
    (.cons (.ite (.and (.cons (.cmp .ne (.var 3) (.tup .nil)) (.cons (.cmp .eq (.call "_law_pick" (.cons false (.var 0) (.cons false (.int 2) .nil))) (.int 0)) .nil)))
    (.cons (.set 4 false (.bin .add (.int 1) (.call "_law_pick" (.cons false (.var 0) (.cons false (.blt "len" (.cons false (.var 3) .nil)) .nil)))))
    (.cons (.par [2, 3] [false, false] (.cons false (.bin .add (.var 2) (.sl (.var 3) .no (.so (.var 4)))) (.cons false (.bin .add (.sl (.var 3) (.so (.var 4)) .no) (.sl (.var 3) .no (.so (.var 4)))) .nil)))
    .nil))
    .nil)
    (.cons (.ret (.tup (.cons false (.bin .mul (.var 1) (.bin .add (.int 1) (.call "_law_pick" (.cons false (.var 0) (.cons false (.int 2) .nil))))) (.cons false (.var 2) (.cons false (.bin .mul (.var 3) (.bin .add (.int 1) (.call "_law_pick" (.cons false (.var 0) (.cons false (.int 3) .nil))))) .nil)))))
    .nil)))
def f__law_other_telling : Fn := ⟨4, 5, b__law_other_telling⟩
def b__law_roots_right : Ss :=
    (.cons (.set 1 false (.bin .add (.tup (.cons false (.str "a") .nil)) (.call "_law_draw_letters" (.cons false (.var 0) (.cons false (.int 3) .nil)))))
    (.cons (.set 2 false (.bin .add (.int 1) (.call "_law_pick" (.cons false (.var 0) (.cons false (.int 4) .nil)))))
    (.cons (.for_ (.name 3) (.val (.tup (.cons false (.var 1) (.cons false (.bin .mul (.var 1) (.var 2)) (.cons false (.bin .add (.bin .mul (.var 1) (.var 2)) (.sl (.var 1) .no (.so (.int 1)))) .nil)))))
    (.cons (.ite (.cmp .ne (.call "root" (.cons false (.var 3) .nil)) (.call "_law_root" (.cons false (.var 3) .nil)))
    (.cons (.ret (.bl false))
    .nil)
    .nil)
    .nil) [3])
    (.cons (.ret (.bl true))
    .nil))))
def f__law_roots_right : Fn := ⟨1, 4, b__law_roots_right⟩
end Lu
end EV
set_option maxRecDepth 100000
namespace EV
open PySem L2
def lt : Nat → D
  | 0 => .str "a"
  | 1 => .str "b"
  | 2 => .str "c"
  | 3 => .tup [.str "mixture", .tup [.str "a"]]
  | 4 => .tup [.str "lump", .tup [], .tup [.str "a"], .tup [.str "b"]]
  | _ => .tup [.str "lump", .tup [], .tup [.str "b", .str "a"], .tup []]
def wD (w : List Nat) : D := .tup (w.map lt)
def codeD : D → Nat
  | .str s => if s = "a" then 0 else if s = "b" then 1 else 2
  | .tup [_, _] => 3
  | .tup [_, _, _, .tup []] => 5
  | _ => 4
theorem code_lt : ∀ i, i < 6 → codeD (lt i) = i := by decide +kernel
def W6 (w : List Nat) : Prop := ∀ x ∈ w, x < 6
theorem lt_inj {i j : Nat} (hi : i < 6) (hj : j < 6) (h : lt i = lt j) : i = j := by
  rw [← code_lt i hi, ← code_lt j hj, h]
theorem wD_inj {u v : List Nat} (hu : W6 u) (hv : W6 v) (h : wD u = wD v) : u = v := by
  have e : u.map lt = v.map lt := D.tup.inj h
  have key : ∀ {w : List Nat}, W6 w → (w.map lt).map codeD = w := fun {w} hw => by
    rw [List.map_map]
    conv => rhs; rw [← List.map_id w]
    exact List.map_congr_left fun x hx => code_lt x (hw x hx)
  rw [← key hu, ← key hv, e]
theorem lt_ok : ∀ i, i < 6 → (lt i).nice = true ∧ (lt i).dp ≤ 3 ∧ (lt i).flat = true := by decide +kernel
theorem wD_ok {w : List Nat} (h : W6 w) : (wD w).nice = true ∧ (wD w).dp ≤ 4 ∧ (wD w).flat = true := by
  refine ⟨?_, ?_, ?_⟩
  · simp only [wD, D.nice]
    exact nices_all.mpr fun d hd => by
      obtain ⟨x, hx, rfl⟩ := List.mem_map.mp hd
      exact (lt_ok x (h x hx)).1
  · have : D.dps (w.map lt) ≤ 3 := dps_le.mpr fun d hd => by
      obtain ⟨x, hx, rfl⟩ := List.mem_map.mp hd
      exact (lt_ok x (h x hx)).2.1
    simp only [wD, D.dp]
    omega
  · simp only [wD, D.flat]
    induction w with
    | nil => rfl
    | cons x w ih =>
      simp only [List.map_cons, D.flats, (lt_ok x (h x (by simp))).2.2, ih fun y hy => h y (by simp [hy])]
      rfl
theorem eqF {a b : D} (ha : a.nice = true) (hb : b.nice = true) (da : a.dp ≤ 64) (db : b.dp ≤ 64) (fa : a.flat = true) (fb : b.flat = true) {p : Prop} [Decidable p] (h : a = b ↔ p) : eqD a b = .ok (decide p) := by
  rw [eqD_of ha hb da db]
  congr 1
  by_cases hp : p
  · have := h.mpr hp
    subst this
    rw [eqB_self ha, decide_eq_true hp]
  · rw [eqB_ne fa fb fun e => hp (h.mp e), decide_eq_false hp]
theorem eq_lt {i j : Nat} (hi : i < 6) (hj : j < 6) : eqD (lt i) (lt j) = .ok (decide (i = j)) := by
  obtain ⟨a, b, c⟩ := lt_ok i hi
  obtain ⟨a', b', c'⟩ := lt_ok j hj
  exact eqF a a' (by omega) (by omega) c c' ⟨lt_inj hi hj, fun e => by rw [e]⟩
theorem eq_wD {u v : List Nat} (hu : W6 u) (hv : W6 v) : eqD (wD u) (wD v) = .ok (decide (u = v)) := by
  obtain ⟨a, b, c⟩ := wD_ok hu
  obtain ⟨a', b', c'⟩ := wD_ok hv
  exact eqF a a' (by omega) (by omega) c c' ⟨wD_inj hu hv, fun e => by rw [e]⟩
theorem eq_w0 (w : List Nat) : eqD (wD w) (.tup []) = .ok (decide (w = [])) := by
  unfold wD
  rw [eqD_tup0]
  cases w <;> simp
def txS : Nat → Str
  | 0 => "a"
  | 1 => "b"
  | 2 => "c"
  | 3 => "[a]"
  | 4 => "{a (b)>}"
  | _ => "{b a}"
def txL (i : Nat) : List Nat := (txS i).cps.toList
def WL (w : List Nat) : List Nat := TL.joinL [32] (w.map txL)
def WS (w : List Nat) : Str := Txt.join " " (w.map txS)
theorem WS_cps (w : List Nat) : (WS w).cps.toList = WL w := by
  have e := TL.join_eq (" " : Str) (w.map txS)
  have e2 := TL.tl_join (" " : Str) (w.map txS)
  unfold WS
  rw [e]
  refine Eq.trans e2 ?_
  unfold WL
  rw [List.map_map]
  rfl
theorem tx_pre : ∀ i, i < 6 → ∀ j, j < 6 → (txL i).isPrefixOf (txL j) = true → i = j := by decide +kernel
theorem tx_ne : ∀ i, i < 6 → txL i ≠ [] := by decide +kernel
theorem tx_cut {i j : Nat} (hi : i < 6) (hj : j < 6) {a b : List Nat} (h : txL i ++ a = txL j ++ b) : i = j ∧ a = b := by
  have p1 : txL i <+: txL i ++ a := List.prefix_append _ _
  have p2 : txL j <+: txL i ++ a := by rw [h]; exact List.prefix_append _ _
  have e : i = j := by
    rcases List.prefix_or_prefix_of_prefix p1 p2 with q | q
    · exact tx_pre i hi j hj (List.isPrefixOf_iff_prefix.mpr q)
    · exact (tx_pre j hj i hi (List.isPrefixOf_iff_prefix.mpr q)).symm
  subst e
  exact ⟨rfl, List.append_cancel_left h⟩
theorem WL_inj : ∀ {u v : List Nat}, W6 u → W6 v → WL u = WL v → u = v
  | [], [], _, _, _ => rfl
  | [], [y], _, hv, h => absurd h.symm (tx_ne y (hv y (by simp)))
  | [], y :: z :: r, _, hv, h => by
    have h : [] = txL y ++ ([32] ++ WL (z :: r)) := h
    have := congrArg List.length h
    simp at this
  | [x], [], hu, _, h => absurd h (tx_ne x (hu x (by simp)))
  | x :: z :: r, [], hu, _, h => by
    have h : txL x ++ ([32] ++ WL (z :: r)) = [] := h
    have := congrArg List.length h
    simp at this
  | [x], [y], hu, hv, h => by
    have h : txL x = txL y := h
    have := tx_cut (hu x (by simp)) (hv y (by simp)) (a := []) (b := []) (by simpa using h)
    rw [this.1]
  | [x], y :: z :: r, hu, hv, h => by
    have h : txL x = txL y ++ ([32] ++ WL (z :: r)) := h
    have := tx_cut (hu x (by simp)) (hv y (by simp)) (a := []) (b := [32] ++ WL (z :: r)) (by simpa using h)
    simp at this
  | x :: z :: r, [y], hu, hv, h => by
    have h : txL x ++ ([32] ++ WL (z :: r)) = txL y := h
    have := tx_cut (hu x (by simp)) (hv y (by simp)) (a := [32] ++ WL (z :: r)) (b := []) (by simpa using h)
    simp at this
  | x :: z :: r, y :: z' :: r', hu, hv, h => by
    have h : txL x ++ ([32] ++ WL (z :: r)) = txL y ++ ([32] ++ WL (z' :: r')) := h
    obtain ⟨rfl, e⟩ := tx_cut (hu x (by simp)) (hv y (by simp)) h
    have e := List.append_cancel_left e
    rw [WL_inj (fun q hq => hu q (List.mem_cons_of_mem _ hq)) (fun q hq => hv q (List.mem_cons_of_mem _ hq)) e]
def leW (u v : List Nat) : Prop := W6 u ∧ ¬ (WL v < WL u)
theorem leW_anti {u v : List Nat} (h : leW u v) (h' : leW v u) : u = v :=
  WL_inj h.1 h'.1 (List.le_antisymm (as := WL u) (bs := WL v) h.2 h'.2)
end EV
set_option maxRecDepth 100000
namespace EV
open PySem L2
structure TLu (T : Tab) (G : Glob) : Prop where
  wtext : T "word_text" = some Lu.f_word_text
  root : T "root" = some Lu.f_root
  on : T "turned_on" = some Lu.f_turned_on
  right : T "right_form" = some Lu.f_right_form
  left : T "left_form" = some Lu.f_left_form
  least : T "least_turn" = some Lu.f_least_turn
  double : T "double_form" = some Lu.f_double_form
  lump : T "lump_of" = some Lu.f_lump_of
  wtextL : T "_law_word_text" = some Lu.f__law_word_text
  rootL : T "_law_root" = some Lu.f__law_root
  rightL : T "_law_right_form" = some Lu.f__law_right_form
  leftL : T "_law_left_form" = some Lu.f__law_left_form
  lumpL : T "_law_lump" = some Lu.f__law_lump
  tx : ∀ i, i < 6 → ∀ k h, callN G T (k + 6) "letter_text" [lt i] h = .ok (.str (txS i), h)
  txL : ∀ i, i < 6 → ∀ k h, callN G T (k + 6) "_law_text" [lt i] h = .ok (.str (txS i), h)
theorem at_lstM {α : Type} (xs : List α) (h : 0 < xs.length) : atI xs (-1) = xs[xs.length - 1]? := by
  unfold atI ixN
  rw [if_neg (by omega), if_pos (by omega)]
  simp
  congr 1
  omega
theorem fltM_find {α : Type} {p : α → Bool} {l t : List α} {a : α} (h : l.filter p = a :: t) : l.find? p = some a := by
  rw [← List.head?_filter, h]; rfl
theorem items_wD (w : List Nat) : itemsD (wD w) = .ok (w.map lt) := rfl
theorem len_wD (w : List Nat) (h : AH) : bltD h "len" [wD w] = .ok (.int (w.length : Int)) := by simp [wD]
theorem ix_wD {w : List Nat} {j : Nat} (hj : j < w.length) (h : AH) : ixD h (wD w) (.int (j : Int)) = .ok (lt (w.getD j 0)) := by
  unfold wD
  rw [EV.ix_tup, atI_n _ _ (by simpa using hj), List.getElem?_map, List.getElem?_eq_getElem hj]
  simp [ofO, List.getD_eq_getElem?_getD, hj]
theorem ix_w0 {w : List Nat} (h0 : w ≠ []) (h : AH) : ixD h (wD w) (.int 0) = .ok (lt (w.headD 0)) := by
  have := ix_wD (List.length_pos_iff.mpr h0) h
  refine Eq.trans this ?_
  cases w with
  | nil => exact absurd rfl h0
  | cons x r => rfl
theorem ix_wl {w : List Nat} (h0 : w ≠ []) (h : AH) : ixD h (wD w) (.int (-1)) = .ok (lt (w.getLastD 0)) := by
  have hp := List.length_pos_iff.mpr h0
  show ofO (atI (w.map lt) (-1)) = _
  rw [at_lstM _ (by simpa using hp), List.length_map, List.getElem?_map, List.getElem?_eq_getElem (show w.length - 1 < w.length by omega)]
  simp [ofO, List.getLastD_eq_getLast?, List.getLast?_eq_getElem?, List.getElem?_eq_getElem (show w.length - 1 < w.length by omega)]
theorem cut_m1 {α : Type} (xs : List α) (h : xs ≠ []) : cutG xs none (some (-1)) = xs.dropLast := by
  have hp := List.length_pos_iff.mpr h
  have e : HT.sIx xs.length xs.length (some (-1)) = xs.length - 1 := by
    simp only [HT.sIx]
    rw [if_pos (by decide)]
    omega
  have e0 : HT.sIx xs.length 0 none = 0 := rfl
  unfold cutG
  rw [e, e0, List.dropLast_eq_take]
  rfl
theorem sl_init {w : List Nat} (h : w ≠ []) : slD (wD w) none (some (-1)) = .ok (wD w.dropLast) := by
  unfold wD
  rw [slT, cut_m1 _ (by simpa using h), List.map_dropLast]
theorem sl_tail (w : List Nat) : slD (wD w) (some 1) none = .ok (wD (w.drop 1)) := by
  unfold wD
  rw [slT_from1, List.map_drop]
theorem sl_take (w : List Nat) (n : Nat) : slD (wD w) none (some (n : Int)) = .ok (wD (w.take n)) := by
  unfold wD
  rw [slT, cut_to, List.map_take]
theorem sl_from (w : List Nat) (n : Nat) : slD (wD w) (some (n : Int)) none = .ok (wD (w.drop n)) := by
  unfold wD
  rw [slT, cut_from, List.map_drop]
theorem sl_mid (w : List Nat) (a b : Nat) : slD (wD w) (some (a : Int)) (some (b : Int)) = .ok (wD ((w.drop a).take (b - a))) := by
  unfold wD
  rw [slT, cut_mid, List.map_take, List.map_drop]
theorem cat_wD (u v : List Nat) (h : u.length + v.length ≤ 100000) : binD .add (wD u) (wD v) = .ok (wD (u ++ v)) := by
  unfold wD
  rw [catT (by simp; omega), List.map_append]
theorem mul_wD {u : List Nat} {k : Nat} (hk : 1 ≤ k) (h2 : k ≤ 1000) (hl : u.length ≤ 1000) : binD .mul (wD u) (.int (k : Int)) = .ok (wD (repw u k)) := by
  have e : wD (repw u k) = .tup (List.replicate k (u.map lt)).flatten := by
    unfold wD repw
    rw [List.map_flatten, List.map_replicate]
  rw [e]
  unfold wD
  show (if _ then _ else if _ then _ else _) = _
  by_cases h1 : k = 1
  · subst h1
    rw [if_pos (by simp)]
    simp
  · by_cases h0 : u = []
    · subst h0
      rw [if_pos (by simp; omega)]
      simp
    · rw [if_neg (by simp [h0]; omega), if_pos (by simp [h0]; omega)]
      simp
theorem rev_wD (w : List Nat) : revD (wD w) = .ok (wD w.reverse) := by
  unfold wD
  show R.ok (D.tup _) = _
  rw [List.map_reverse]
theorem W6.app {u v : List Nat} (hu : W6 u) (hv : W6 v) : W6 (u ++ v) := fun x hx => by
  rcases List.mem_append.mp hx with h | h
  · exact hu x h
  · exact hv x h
theorem W6.take {u : List Nat} (h : W6 u) (n : Nat) : W6 (u.take n) := fun x hx => h x (List.mem_of_mem_take hx)
theorem W6.drop {u : List Nat} (h : W6 u) (n : Nat) : W6 (u.drop n) := fun x hx => h x (List.mem_of_mem_drop hx)
theorem W6.rev {u : List Nat} (h : W6 u) : W6 u.reverse := fun x hx => h x (by simpa using hx)
theorem W6.last {u : List Nat} (h : W6 u) (h0 : u ≠ []) : u.getLastD 0 < 6 := by
  have := List.getLast_mem h0
  have e : u.getLastD 0 = u.getLast h0 := by rw [List.getLastD_eq_getLast?, List.getLast?_eq_getLast h0]; rfl
  rw [e]
  exact h _ this
theorem W6.head {u : List Nat} (h : W6 u) (h0 : u ≠ []) : u.headD 0 < 6 := by
  cases u with
  | nil => exact absurd rfl h0
  | cons x r => exact h x (by simp)
theorem W6.init {u : List Nat} (h : W6 u) : W6 u.dropLast := fun x hx => h x ((List.dropLast_sublist u).subset hx)
theorem W6.tr {u : List Nat} (h : W6 u) (h0 : u ≠ []) : W6 (tr u) := fun x hx => by
  rcases List.mem_cons.mp hx with rfl | hx
  · exact h.last h0
  · exact h.init x hx
section
variable {GG : Glob} {T : Tab}
theorem join_ok {ss : List Str} (h : (ss.map fun s : Str => s.length).sum + ss.length ≤ 100000) : joinD (.str " ") (.lst (ss.map .str)) = .ok (.str (Txt.join " " ss)) := by
  have e : strsOf (ss.map .str) = some ss := by
    clear h
    induction ss with
    | nil => rfl
    | cons s ss ih => simp [strsOf, ih]
  show (match strsOf (ss.map .str) with | some ss => if lenOk ((ss.map fun s : Str => s.length).sum + ss.length * (" " : Str).length) then R.ok (D.str (Txt.join " " ss)) else .bad | none => .bad) = _
  rw [e]
  have : (" " : Str).length = 1 := by decide +kernel
  simp only [this, Nat.mul_one]
  rw [lenOk_of (by omega)]
  rfl
theorem tx_len : ∀ i, i < 6 → (txS i).length ≤ 8 := by decide +kernel
theorem wsum {w : List Nat} (h : W6 w) : (((w.map txS).map fun s : Str => s.length).sum) ≤ 8 * w.length := by
  induction w with
  | nil => simp
  | cons x w ih =>
    have := ih fun y hy => h y (by simp [hy])
    have := tx_len x (h x (by simp))
    simp only [List.map_cons, List.sum_cons, List.length_cons]
    omega
theorem wtext_ok (hT : TLu T GG) {w : List Nat} (hw : W6 w) (hl : w.length ≤ 1000) (k : Nat) (hk : 6 ≤ k) (h : AH) : callN GG T (k + 1) "word_text" [wD w] h = .ok (.str (WS w), h) := by
  rw [callN_eq hT.wtext rfl]
  apply EV.W.eq
  obtain ⟨k, rfl⟩ : ∃ j, k = j + 6 := ⟨k - 6, by omega⟩
  have jo := join_ok (ss := w.map txS) (by have := wsum hw; simp only [List.length_map]; omega)
  rw [List.map_map] at jo
  simp [Lu.f_word_text, Lu.b_word_text, items_wD]
  refine Wk.w (compW (f := lt) (fun x => .str (txS x)) w (fun x hx => ?_) ?_)
  · have := hT.tx x (hw x hx) k
    simp [this]
  · change joinD _ (.lst (w.map fun x => D.str (txS x))) = _ at jo
    simp [jo, WS]
theorem wtextL_ok (hT : TLu T GG) {w : List Nat} (hw : W6 w) (hl : w.length ≤ 1000) (k : Nat) (hk : 6 ≤ k) (h : AH) : callN GG T (k + 1) "_law_word_text" [wD w] h = .ok (.str (WS w), h) := by
  rw [callN_eq hT.wtextL rfl]
  apply EV.W.eq
  obtain ⟨k, rfl⟩ : ∃ j, k = j + 6 := ⟨k - 6, by omega⟩
  have jo := join_ok (ss := w.map txS) (by have := wsum hw; simp only [List.length_map]; omega)
  rw [List.map_map] at jo
  simp [Lu.f__law_word_text, Lu.b__law_word_text, items_wD]
  refine Wk.w (compW (f := lt) (fun x => .str (txS x)) w (fun x hx => ?_) ?_)
  · have := hT.txL x (hw x hx) k
    simp [this]
  · change joinD _ (.lst (w.map fun x => D.str (txS x))) = _ at jo
    simp [jo, WS]
theorem on_ok (hT : TLu T GG) {w : List Nat} (h0 : w ≠ []) (hl : w.length ≤ 10000) (k : Nat) (h : AH) : callN GG T (k + 1) "turned_on" [wD w] h = .ok (wD (tr w), h) := by
  rw [callN_eq hT.on rfl]
  apply EV.W.eq
  have e1 := ix_wl h0 h
  have e2 := sl_init h0
  have e3 : starD (wD w.dropLast) = .ok (w.dropLast.map lt) := rfl
  have e4 : wD (tr w) = .tup (lt (w.getLast?.getD 0) :: (w.map lt).dropLast) := by simp [wD, tr, List.getLastD_eq_getLast?, List.map_dropLast]
  have e5 : lenOk (w.length - 1 + 1) = true := lenOk_of (by omega)
  rw [e4]
  simp [Lu.f_turned_on, Lu.b_turned_on, e1, e2, e3, e5]
structure RtS (w u : List Nat) : Prop where
  prim : Prim u
  same : ∀ i, cy u i = cy w i
  len : u.length ≤ w.length
  w6 : W6 w → W6 u
theorem RtS.of {w : List Nat} {s : Nat} (h1 : 1 ≤ s) (hs : s ≤ w.length) (hc : repw (w.take s) (w.length / s) = w) (hm : ∀ t, 1 ≤ t → t < s → ¬ repw (w.take t) (w.length / t) = w) : RtS w (w.take s) := by
  obtain ⟨hd, hp⟩ := (chk_iff h1 hs).mp hc
  obtain ⟨a, b⟩ := prim_take h1 hs hp (fun t ht lt z => hm t ht lt ((chk_iff ht (by omega)).mpr z)) hd
  exact ⟨a, b, by simp; omega, fun h => h.take s⟩
theorem filt_min {n : Nat} {p : Nat → Bool} {y : Nat} {ys : List Nat} (h : (List.range n).filter p = y :: ys) : p y = true ∧ y < n ∧ ∀ t, t < y → p t = false := by
  have f := fltM_find h
  rw [List.find?_range_eq_some] at f
  exact ⟨f.1, by simpa using f.2.1, fun t ht => by simpa using f.2.2 t ht⟩
end
end EV
set_option maxRecDepth 100000
namespace EV
open PySem L2
section
variable {GG : Glob} {T : Tab}
theorem W6.repw {u : List Nat} (h : W6 u) (k : Nat) : W6 (repw u k) := fun x hx => by
  unfold EV.repw at hx
  obtain ⟨l, hl, hx⟩ := List.mem_flatten.mp hx
  rw [(List.mem_replicate.mp hl).2] at hx
  exact h x hx
theorem one_cast (x : Nat) : (1 : Int) + (x : Int) = ((x + 1 : Nat) : Int) := by omega
theorem lst0M (xs : List D) (x : D) (h : AH) : ixD h (.lst (x :: xs)) (.int 0) = .ok x := by
  show ixD h (.lst (x :: xs)) (.int ((0 : Nat) : Int)) = _
  rw [ix_lst, atI_n _ _ (by simp)]
  rfl
theorem root_ok (hT : TLu T GG) {w : List Nat} (hw : W6 w) (h0 : w ≠ []) (hl : w.length ≤ 1000) (k : Nat) (h : AH) : EV.W (callN GG T (k + 1) "root" [wD w] h) fun z => ∃ u, RtS w u ∧ z = (wD u, h) := by
  rw [callN_eq hT.root rfl]
  have hp := List.length_pos_iff.mpr h0
  have sm : smallR 1 ((w.length : Int) + 1) = true := smallR1 (by omega) (by omega) (by omega) (by omega)
  have ln := fun h => len_wD w h
  simp [Lu.f_root, Lu.b_root, ln, sm]
  refine Wk.w (compF (f := fun (x : Nat) => D.int (1 + (x : Int))) (fun x => .int (1 + (x : Int))) (fun x => decide (w.length % (x + 1) = 0)) (List.range w.length) (fun x hx => ?_) ?_)
  · have m : binD .mod (.int (w.length : Int)) (.int (1 + (x : Int))) = .ok (.int ((w.length % (x + 1) : Nat) : Int)) := by
      rw [modOk _ _ (by omega), one_cast]; rfl
    generalize w.length % (x + 1) = Q at *
    by_cases hz : Q = 0 <;> simp [ln, m, hz]
  simp
  refine Wk.w (compF (f := fun (x : Nat) => D.int (1 + (x : Int))) (fun x => wD (w.take (x + 1))) (fun x => decide (repw (w.take (x + 1)) (w.length / (x + 1)) = w)) ((List.range w.length).filter fun x => decide (w.length % (x + 1) = 0)) (fun x hx => ?_) ?_)
  · have hx := List.mem_range.mp (List.mem_filter.mp hx).1
    have e1 : slD (wD w) none (some (1 + (x : Int))) = .ok (wD (w.take (x + 1))) := by rw [one_cast]; exact sl_take w (x + 1)
    have q1 : 1 ≤ w.length / (x + 1) := Nat.div_pos (by omega) (by omega)
    have q2 : w.length / (x + 1) ≤ w.length := Nat.div_le_self _ _
    have e2 : binD .fdiv (.int (w.length : Int)) (.int (1 + (x : Int))) = .ok (.int ((w.length / (x + 1) : Nat) : Int)) := by
      rw [fdivOk _ _ (by omega) (by omega), one_cast]; rfl
    have e3 := mul_wD (u := w.take (x + 1)) q1 (by omega) (by simp; omega)
    have e4 := eq_wD (u := repw (w.take (x + 1)) (w.length / (x + 1))) (v := w) ((hw.take _).repw _) hw
    generalize hQ : w.length / (x + 1) = Q at *
    by_cases hz : repw (w.take (x + 1)) Q = w
    · rw [decide_eq_true hz] at e4
      rw [decide_eq_true hz]
      simp only [hz] at e3 e4
      simp [ln, e1, e2, e3, e4]
    · rw [decide_eq_false hz] at e4 ⊢
      simp [ln, e1, e2, e3, e4]
  rw [List.filter_filter]
  have full : ∃ y ys, (List.range w.length).filter (fun x => decide (repw (w.take (x + 1)) (w.length / (x + 1)) = w) && decide (w.length % (x + 1) = 0)) = y :: ys := by
    have mem : w.length - 1 ∈ (List.range w.length).filter (fun x => decide (repw (w.take (x + 1)) (w.length / (x + 1)) = w) && decide (w.length % (x + 1) = 0)) := by
      refine List.mem_filter.mpr ⟨List.mem_range.mpr (by omega), ?_⟩
      rw [show w.length - 1 + 1 = w.length by omega]
      have := (chk_iff hp (Nat.le_refl w.length)).mpr ⟨Nat.mod_self _, cy_per w⟩
      simp only [this, Nat.mod_self, decide_true, Bool.and_self]
    exact List.exists_cons_of_ne_nil (List.ne_nil_of_mem mem)
  obtain ⟨y, ys, ey⟩ := full
  obtain ⟨m1, m2, m3⟩ := filt_min ey
  rw [ey]
  simp [lst0M]
  simp only [Bool.and_eq_true, decide_eq_true_eq] at m1
  refine ⟨w.take (y + 1), RtS.of (by omega) (by omega) m1.1 (fun t ht lt z => ?_), rfl⟩
  have := m3 (t - 1) (by omega)
  rw [show t - 1 + 1 = t by omega] at this
  simp only [Bool.and_eq_false_iff, decide_eq_false_iff_not] at this
  rcases this with q | q
  · exact q z
  · exact q ((chk_iff ht (by omega)).mp z).1
theorem rootL_ok (hT : TLu T GG) {w : List Nat} (hw : W6 w) (h0 : w ≠ []) (hl : w.length ≤ 1000) (k : Nat) (h : AH) : EV.W (callN GG T (k + 1) "_law_root" [wD w] h) fun z => ∃ u, RtS w u ∧ z = (wD u, h) := by
  rw [callN_eq hT.rootL rfl]
  have hp := List.length_pos_iff.mpr h0
  have sm : smallR 1 (w.length : Int) = true := smallR1 (by omega) (by omega) (by omega) (by omega)
  have ln := fun h => len_wD w h
  have tn : ((w.length : Int) - 1).toNat = w.length - 1 := by omega
  simp [Lu.f__law_root, Lu.b__law_root, ln, sm]
  refine Wk.w (forL_M (f := fun (x : Nat) => D.int (1 + (x : Int))) (fun dn σ g => σ = [.val (wD w), .no] ∧ h = g ∧ ∀ t, 1 ≤ t → t ≤ dn.length → ¬ repw (w.take t) (w.length / t) = w) (List.range (w.length - 1)) ⟨rfl, rfl, fun t a b => by simp at b; omega⟩ ?_ ?_)
  · rintro dn x rest σ g e ⟨rfl, rfl, hm⟩
    obtain ⟨hd, hx⟩ := rng_split e
    have e1 : slD (wD w) none (some (1 + (x : Int))) = .ok (wD (w.take (x + 1))) := by rw [one_cast]; exact sl_take w (x + 1)
    have q1 : 1 ≤ w.length / (x + 1) := Nat.div_pos (by omega) (by omega)
    have q2 : w.length / (x + 1) ≤ w.length := Nat.div_le_self _ _
    have e2 : binD .fdiv (.int (w.length : Int)) (.int (1 + (x : Int))) = .ok (.int ((w.length / (x + 1) : Nat) : Int)) := by
      rw [fdivOk _ _ (by omega) (by omega), one_cast]; rfl
    have e3 := mul_wD (u := w.take (x + 1)) q1 (by omega) (by simp; omega)
    have e4 := eq_wD (u := repw (w.take (x + 1)) (w.length / (x + 1))) (v := w) ((hw.take _).repw _) hw
    generalize hQ : w.length / (x + 1) = Q at *
    by_cases hz : repw (w.take (x + 1)) Q = w
    · rw [decide_eq_true hz] at e4
      simp [ln, e1, e2, e3, e4]
      exact ⟨w.take (x + 1), RtS.of (by omega) (by omega) (by rw [hQ]; exact hz) (fun t ht lt => hm t ht (by omega)), rfl⟩
    · rw [decide_eq_false hz] at e4
      simp [ln, e1, e2, e3, e4]
      intro t ht h2
      by_cases e : t = x + 1
      · subst e; rw [hQ]; exact hz
      · exact hm t ht (by omega)
  · rintro σ g ⟨rfl, rfl, hm⟩
    simp only [List.length_range] at hm
    simp
    refine ⟨w, ?_, rfl⟩
    have := RtS.of (w := w) (s := w.length) hp (Nat.le_refl _) ((chk_iff hp (Nat.le_refl _)).mpr ⟨Nat.mod_self _, cy_per w⟩) fun t ht lt => hm t ht (by omega)
    rwa [List.take_length] at this
theorem RFs.of {m r A E : List Nat} (h : ∀ i, ga A E i = ga m r i) (p : Prim E) (l : A ≠ [] → A.getLastD 0 ≠ E.getLastD 0) : RFs m r A E := ⟨h, p, l⟩
theorem init_last {A : List Nat} (h : A ≠ []) : A = A.dropLast ++ [A.getLastD 0] := by
  have e : A.getLastD 0 = A.getLast h := by rw [List.getLastD_eq_getLast?, List.getLast?_eq_getLast h]; rfl
  rw [e, List.dropLast_concat_getLast h]
theorem ga_over {A E : List Nat} (hA : A ≠ []) (hE : E ≠ []) (h : A.getLastD 0 = E.getLastD 0) (i : Nat) : ga A.dropLast (tr E) i = ga A E i := by
  conv => rhs; rw [init_last hA]
  exact (ga_step hE _ h.symm i).symm
def RFQ (m r : List Nat) (h : AH) (z : D × AH) : Prop := ∃ A E, RFs m r A E ∧ W6 A ∧ W6 E ∧ A.length ≤ m.length ∧ E.length ≤ r.length ∧ z = (.tup [wD A, wD E], h)
theorem right_ok6 (hT : TLu T GG) {m r : List Nat} (hm : W6 m) (hr : W6 r) (h0 : r ≠ []) (hl : r.length ≤ 1000) (lm : m.length ≤ 50000) (k : Nat) (hk : 1 ≤ k) (h : AH) : EV.W (callN GG T (k + 1) "right_form" [wD m, wD r] h) (RFQ m r h) := by
  rw [callN_eq hT.right rfl]
  obtain ⟨k, rfl⟩ : ∃ j, k = j + 1 := ⟨k - 1, by omega⟩
  simp [Lu.f_right_form, Lu.b_right_form]
  refine Wk.of (root_ok hT hr h0 hl k h) ?_
  rintro _ ⟨u, hu, rfl⟩
  simp
  refine Wk.w (whileL_W (fun n σ g => ∃ A E, A.length = n ∧ (∀ i, ga A E i = ga m r i) ∧ Prim E ∧ W6 A ∧ W6 E ∧ A.length ≤ m.length ∧ E.length ≤ r.length ∧ σ = [.val (wD m), .val (wD r), .val (wD A), .val (wD E)] ∧ g = h) ?_ wfuel m.length _ _ (by show _ < 100000; omega) ⟨m, u, rfl, fun i => ga_congr hu.same i, hu.prim, hm, hu.w6 hr, Nat.le_refl _, hu.len, rfl, rfl⟩)
  rintro n σ g ⟨A, E, hn, hs, hp, hA, hE, lA, lE, rfl, rfl⟩
  have z := eq_w0 A
  by_cases a0 : A = []
  · subst a0
    rw [decide_eq_true rfl] at z
    simp [z]
    exact ⟨[], E, RFs.of hs hp (fun e => absurd rfl e), hA, hE, lA, lE, rfl⟩
  · rw [decide_eq_false a0] at z
    have i1 := ix_wl a0 g
    have i2 := ix_wl hp.ne g
    have q := eq_lt (hA.last a0) (hE.last hp.ne)
    by_cases e : A.getLastD 0 = E.getLastD 0
    · have s1 := sl_init a0
      have o1 := on_ok hT hp.ne (by omega) k g
      rw [decide_eq_true e] at q
      have pos := List.length_pos_iff.mpr a0
      simp only [List.getLastD_eq_getLast?] at i1 i2 q
      simp [z, i1, i2, q, s1, o1]
      exact ⟨n - 1, by omega, A.dropLast, by rw [List.length_dropLast, hn], tr E, fun i => by rw [ga_over a0 hp.ne e, hs], hp.tr, hA.init, hE.tr hp.ne, by rw [List.length_dropLast]; omega, by rw [tr_len hp.ne]; omega, rfl, rfl⟩
    · rw [decide_eq_false e] at q
      simp only [List.getLastD_eq_getLast?] at i1 i2 q
      simp [z, i1, i2, q]
      exact ⟨A, E, RFs.of hs hp (fun _ => e), hA, hE, lA, lE, rfl⟩
end
end EV
set_option maxRecDepth 100000
namespace EV
open PySem L2
theorem per_rev {w : List Nat} (h0 : w ≠ []) {s : Nat} (h : Per (cy w.reverse) s) : Per (cy w) s := fun i => by
  have hp := List.length_pos_iff.mpr h0
  have hr : w.reverse ≠ [] := rev_ne h0
  have le := Nat.le_mul_of_pos_left (i + s + 1) hp
  have a := cy_rev (w := w.reverse) hr (k := i + s) (K := i + s + 1) (by rw [List.length_reverse]; omega)
  have b := cy_rev (w := w.reverse) hr (k := i) (K := i + s + 1) (by rw [List.length_reverse]; omega)
  rw [List.reverse_reverse, List.length_reverse] at a b
  rw [a, b, show w.length * (i + s + 1) - 1 - i = w.length * (i + s + 1) - 1 - (i + s) + s by omega, h]
theorem prim_rev {w : List Nat} (h : Prim w) : Prim w.reverse := ⟨rev_ne h.ne, fun s hs hp => by
  rw [List.length_reverse]
  exact h.le s hs (per_rev h.ne hp)⟩
theorem cy_revs {u w : List Nat} (hu : u ≠ []) (hw : w ≠ []) (h : ∀ i, cy u i = cy w i) (i : Nat) : cy u.reverse i = cy w.reverse i := by
  have p := List.length_pos_iff.mpr hu
  have p' := List.length_pos_iff.mpr hw
  have l1 : i < u.length * (w.length * (i + 1)) := by
    have := Nat.le_mul_of_pos_left (i + 1) p'
    have := Nat.le_mul_of_pos_left (w.length * (i + 1)) p
    omega
  have l2 : w.length * (u.length * (i + 1)) = u.length * (w.length * (i + 1)) := by rw [← Nat.mul_assoc, ← Nat.mul_assoc, Nat.mul_comm w.length]
  rw [cy_rev hu l1, cy_rev hw (K := u.length * (i + 1)) (by rw [l2]; exact l1), l2, h]
def win (t : List Nat) (i q : Nat) : List Nat := (t.drop i).take q
theorem win_len {t : List Nat} {i q : Nat} (h : i + q ≤ t.length) : (win t i q).length = q := by simp [win]; omega
theorem win_get {t : List Nat} {i q j : Nat} (hj : j < q) (h : i + q ≤ t.length) : (win t i q).getD j 0 = t.getD (i + j) 0 := by
  unfold win
  simp only [List.getD_eq_getElem?_getD]
  rw [List.getElem?_take_of_lt hj, List.getElem?_drop]
theorem win_last {t : List Nat} {i q : Nat} (hq : 1 ≤ q) (h : i + q ≤ t.length) : (win t i q).getLastD 0 = t.getD (i + q - 1) 0 := by
  have hl := win_len h
  have h0 : win t i q ≠ [] := fun e => by rw [e] at hl; simp at hl; omega
  rw [← last_get h0, hl, win_get (by omega) h]
  congr 1
  omega
theorem take_last {t : List Nat} {i : Nat} (h1 : 1 ≤ i) (h : i ≤ t.length) : (t.take i).getLastD 0 = t.getD (i - 1) 0 := by
  have hl : (t.take i).length = i := by simp; omega
  have h0 : t.take i ≠ [] := fun e => by rw [e] at hl; simp at hl; omega
  rw [← last_get h0, hl]
  simp only [List.getD_eq_getElem?_getD]
  rw [List.getElem?_take_of_lt (by omega)]
theorem win_back {t : List Nat} {i q : Nat} (h1 : 1 ≤ i) (hq : 1 ≤ q) (h : i + q ≤ t.length) (e : t.getD (i - 1) 0 = t.getD (i + q - 1) 0) : win t (i - 1) q = tr (win t i q) := by
  have hl := win_len h
  have h0 : win t i q ≠ [] := fun z => by rw [z] at hl; simp at hl; omega
  have hl2 := win_len (t := t) (i := i - 1) (q := q) (by omega)
  refine List.ext_getElem (by rw [hl2, tr_len h0, hl]) fun j j1 j2 => ?_
  have a := win_get (t := t) (i := i - 1) (q := q) (j := j) (by omega) (by omega)
  rw [List.getD_eq_getElem?_getD, List.getElem?_eq_getElem j1] at a
  refine Eq.trans a ?_
  cases j with
  | zero => simp only [tr, List.getElem_cons_zero]; rw [win_last hq h, ← e]; congr 1
  | succ j =>
    simp only [tr, List.getElem_cons_succ, List.getElem_dropLast]
    have b := win_get (t := t) (i := i) (q := q) (j := j) (by omega) h
    rw [List.getD_eq_getElem?_getD, List.getElem?_eq_getElem (by omega)] at b
    refine Eq.trans ?_ b.symm
    congr 1
    omega
theorem take_back {t : List Nat} {i : Nat} (h1 : 1 ≤ i) (h : i ≤ t.length) : t.take i = t.take (i - 1) ++ [t.getD (i - 1) 0] := by
  obtain ⟨j, rfl⟩ : ∃ j, i = j + 1 := ⟨i - 1, by omega⟩
  rw [List.take_succ]
  simp [List.getD_eq_getElem?_getD, List.getElem?_eq_getElem (show j < t.length by omega)]
theorem ga_win {t : List Nat} {i q : Nat} (h1 : 1 ≤ i) (hq : 1 ≤ q) (h : i + q ≤ t.length) (e : t.getD (i - 1) 0 = t.getD (i + q - 1) 0) (j : Nat) : ga (t.take (i - 1)) (win t (i - 1) q) j = ga (t.take i) (win t i q) j := by
  have hl := win_len h
  have h0 : win t i q ≠ [] := fun z => by rw [z] at hl; simp at hl; omega
  rw [win_back h1 hq h e, take_back h1 (by omega)]
  exact (ga_step h0 _ (by rw [win_last hq h, e]) j).symm
theorem W6.win {t : List Nat} (h : W6 t) (i q : Nat) : W6 (win t i q) := (h.drop i).take q
theorem minS_ok : ∀ (zs : List Str) (z : Str), minS z zs ∈ z :: zs ∧ ∀ y ∈ z :: zs, ¬ (y.cps.toList < (minS z zs).cps.toList)
  | [], z => ⟨by simp [minS], fun y hy => by
    rw [List.mem_singleton] at hy
    subst hy
    exact List.lt_irrefl _⟩
  | y :: zs, z => by
    by_cases h : y.cps.toList < z.cps.toList
    · have e : minS z (y :: zs) = minS y zs := by unfold minS; rw [List.foldl_cons, if_pos (decide_eq_true h)]
      obtain ⟨a, b⟩ := minS_ok zs y
      rw [e]
      refine ⟨List.mem_cons_of_mem _ a, fun x hx => ?_⟩
      rcases List.mem_cons.mp hx with rfl | hx
      · intro lt
        exact b y (by simp) (List.lt_trans h lt)
      · exact b x hx
    · have e : minS z (y :: zs) = minS z zs := by unfold minS; rw [List.foldl_cons, if_neg (by simpa using h)]
      obtain ⟨a, b⟩ := minS_ok zs z
      rw [e]
      refine ⟨?_, fun x hx => ?_⟩
      · rcases List.mem_cons.mp a with q | q
        · rw [q]; simp
        · exact List.mem_cons_of_mem _ (List.mem_cons_of_mem _ q)
      · rcases List.mem_cons.mp hx with rfl | hx
        · exact b x (by simp)
        rcases List.mem_cons.mp hx with rfl | hx
        · intro lt
          have nz := b z (by simp)
          -- x below the least, which is not above z
          rcases List.mem_cons.mp a with q | q
          · rw [q] at lt; exact h lt
          · exact nz (List.lt_of_le_of_lt (List.not_lt.mp h) lt)
        · exact b x (List.mem_cons_of_mem _ hx)
def rotk (w : List Nat) (j : Nat) : List Nat := w.drop j ++ w.take j
theorem rotk_len (w : List Nat) {j : Nat} (h : j ≤ w.length) : (rotk w j).length = w.length := by simp [rotk]; omega
theorem rotk_cy {w : List Nat} (h0 : w ≠ []) {j : Nat} (h : j ≤ w.length) (i : Nat) : cy (rotk w j) i = cy w (i + j) := by
  have := rot_cy (w.take j) (w.drop j) (by simpa using h0) i
  rw [List.take_append_drop, List.length_take, Nat.min_eq_left h] at this
  exact this
theorem rotk_rot {w : List Nat} (h0 : w ≠ []) {j : Nat} (h : j ≤ w.length) : Rot w (rotk w j) := ⟨(rotk_len w h).symm, j, rotk_cy h0 h⟩
theorem rot_is {w v : List Nat} (h0 : w ≠ []) (h : Rot w v) : ∃ j, j < w.length ∧ v = rotk w j := by
  obtain ⟨hl, a, h⟩ := h
  have hp := List.length_pos_iff.mpr h0
  have lt := Nat.mod_lt a hp
  refine ⟨a % w.length, lt, cy_ext (by rw [rotk_len _ (by omega)]; exact hl.symm) fun i _ => ?_⟩
  rw [h, rotk_cy h0 (by omega)]
  have e : i + a = i + a % w.length + w.length * (a / w.length) := by have := Nat.mod_add_div a w.length; omega
  rw [e, (cy_per w).mul]
theorem W6.rotk {w : List Nat} (h : W6 w) (j : Nat) : W6 (rotk w j) := (h.drop j).app (h.take j)
theorem okS_WS {w : List Nat} (h : W6 w) : okS (WS w) := by
  unfold WS
  rw [TL.join_eq]
  refine okS_join (okS_lit (by decide +kernel)) fun t ht => ?_
  obtain ⟨x, hx, rfl⟩ := List.mem_map.mp ht
  have all : ∀ i, i < 6 → PyData.strOk (txS i) = true := by decide +kernel
  exact okS_lit (all x (h x hx))
theorem idx_txt {ss : List Str} (ok : ∀ s ∈ ss, okS s) {m : Str} (hm : m ∈ ss) : ∃ j, ∃ h : j < ss.length, ss[j] = m ∧ idxD (.lst (ss.map .str)) (.str m) = .ok (.int (j : Nat)) := by
  have n1 : (D.str m).okq = true := okq_of (by simpa [D.nice] using okS_iff.mpr (ok m hm)) (by simp [D.dp])
  have n2 : (D.lst (ss.map .str)).okq = true := lstq fun d hd => by
    obtain ⟨c, hc, rfl⟩ := List.mem_map.mp hd
    exact ⟨by simpa [D.nice] using okS_iff.mpr (ok c hc), by simp [D.dp]⟩
  have ev : ∀ s : Str, PyData.eqv (D.str s).py (D.str m).py = (s == m) := fun s => by simp only [D.py, PyData.eqv]
  have e : (ss.map D.str).findIdx? (fun z => PyData.eqv z.py (D.str m).py) = ss.findIdx? (fun s => s == m) := by
    rw [List.findIdx?_map]
    congr 1
  have some : ∃ j, ss.findIdx? (fun s => s == m) = some j := by
    cases h : ss.findIdx? (fun s => s == m) with
    | some j => exact ⟨j, rfl⟩
    | none =>
      rw [List.findIdx?_eq_none_iff] at h
      have := h m hm
      simp at this
  obtain ⟨j, hj⟩ := some
  have hj2 := hj
  rw [List.findIdx?_eq_some_iff_getElem] at hj2
  obtain ⟨lt, p, _⟩ := hj2
  refine ⟨j, lt, by simpa using p, ?_⟩
  show (if ((D.str m).okq && (D.lst (ss.map .str)).okq) = true then (match (ss.map D.str).findIdx? (fun z => PyData.eqv z.py (D.str m).py) with | some j => R.ok (D.int (j : Nat)) | none => .bad) else .bad) = _
  rw [n1, n2, e, hj]
  rfl
theorem least_data {w : List Nat} (hw : W6 w) (h0 : w ≠ []) : ∃ (j : Nat) (m : Str), j < w.length ∧ Rot w (rotk w j) ∧ Lst leW (rotk w j) ∧ (∀ h, bltD h "min" [.lst ((List.range w.length).map fun j => .str (WS (rotk w j)))] = .ok (.str m)) ∧
    idxD (.lst ((List.range w.length).map fun j => .str (WS (rotk w j)))) (.str m) = .ok (.int (j : Nat)) := by
  have hp := List.length_pos_iff.mpr h0
  have e : ((List.range w.length).map fun j => D.str (WS (rotk w j))) = ((List.range w.length).map fun j => WS (rotk w j)).map D.str := by simp
  have hne : (List.range w.length).map (fun j => WS (rotk w j)) ≠ [] := by simp; omega
  obtain ⟨z, zs, ez⟩ := List.exists_cons_of_ne_nil hne
  obtain ⟨a, b⟩ := minS_ok zs z
  rw [e, ez]
  have ok : ∀ s ∈ z :: zs, okS s := fun s hs => by
    rw [← ez] at hs
    obtain ⟨j, _, rfl⟩ := List.mem_map.mp hs
    exact okS_WS (hw.rotk j)
  obtain ⟨j, lt, ej, ei⟩ := idx_txt ok a
  have hj : j < w.length := by
    have := congrArg List.length ez
    simp at this
    simp only [List.length_cons] at lt
    omega
  have es : (z :: zs)[j] = WS (rotk w j) := by
    have : ((List.range w.length).map fun j => WS (rotk w j))[j]'(by simpa using hj) = WS (rotk w j) := by simp
    rw [← this]
    congr 1
    exact ez.symm
  refine ⟨j, minS z zs, hj, rotk_rot h0 (by omega), fun v hv => ⟨hw.rotk j, ?_⟩, fun h => ?_, ei⟩
  · obtain ⟨i, hi, rfl⟩ := rot_is h0 ((rotk_rot h0 (by omega)).trans hv)
    have mem : WS (rotk w i) ∈ z :: zs := by rw [← ez]; exact List.mem_map.mpr ⟨i, List.mem_range.mpr hi, rfl⟩
    have := b _ mem
    rw [← ej, es, WS_cps, WS_cps] at this
    exact this
  · have s1 : intsOf ((z :: zs).map D.str) = none := rfl
    have s2 : strsOf ((z :: zs).map D.str) = some (z :: zs) := by
      generalize z :: zs = l
      induction l with
      | nil => rfl
      | cons x l ih => simp [strsOf, ih]
    show (match (intsOf ((z :: zs).map D.str)).bind minL with | some m => R.ok (D.int m) | none => (match strsOf ((z :: zs).map D.str) with | some (z :: zs) => .ok (.str (minS z zs)) | _ => .bad)) = _
    rw [s1, s2]
    rfl
end EV
set_option maxRecDepth 100000
namespace EV
open PySem L2
section
variable {GG : Glob} {T : Tab}
theorem ix_sum {t : List Nat} {j q : Nat} (h : j + q < t.length) (g : AH) : ixD g (wD t) (.int ((j : Int) + (q : Int))) = .ok (lt (t.getD (j + q) 0)) := by
  rw [show (j : Int) + (q : Int) = ((j + q : Nat) : Int) by omega]
  exact ix_wD h g
theorem sl_win (t : List Nat) (i q : Nat) : slD (wD t) (some (i : Int)) (some ((i : Int) + (q : Int))) = .ok (wD (win t i q)) := by
  rw [show (i : Int) + (q : Int) = ((i + q : Nat) : Int) by omega, sl_mid]
  unfold win
  rw [Nat.add_sub_cancel_left]
theorem W6.get {t : List Nat} (h : W6 t) {i : Nat} (hi : i < t.length) : t.getD i 0 < 6 := by
  rw [List.getD_eq_getElem?_getD, List.getElem?_eq_getElem hi]
  exact h _ (List.getElem_mem hi)
theorem win_all {m u : List Nat} : win (m ++ u) m.length u.length = u := by simp [win]
theorem rightL_ok (hT : TLu T GG) {m r : List Nat} (hm : W6 m) (hr : W6 r) (h0 : r ≠ []) (hl : r.length ≤ 1000) (lm : m.length ≤ 50000) (k : Nat) (hk : 1 ≤ k) (h : AH) : EV.W (callN GG T (k + 1) "_law_right_form" [wD m, wD r] h) (RFQ m r h) := by
  rw [callN_eq hT.rightL rfl]
  obtain ⟨k, rfl⟩ : ∃ j, k = j + 1 := ⟨k - 1, by omega⟩
  simp [Lu.f__law_right_form, Lu.b__law_right_form]
  refine Wk.of (rootL_ok hT hr h0 hl k h) ?_
  rintro _ ⟨u, hu, rfl⟩
  have up := hu.prim.pos
  have ul := hu.len
  have c1 := cat_wD m u (by omega)
  have ln := fun w h => len_wD w h
  simp [c1, ln]
  have wt : W6 (m ++ u) := hm.app (hu.w6 hr)
  have tl' : (m ++ u).length = m.length + u.length := by simp
  refine Wk.w (whileL_W (fun n σ g => n ≤ m.length ∧ (∀ j, ga ((m ++ u).take n) (win (m ++ u) n u.length) j = ga m r j) ∧ Prim (win (m ++ u) n u.length) ∧ σ = [.val (wD m), .val (wD u), .val (wD (m ++ u)), .val (.int (n : Int))] ∧ g = h) ?_ wfuel m.length _ _ (by show _ < 100000; omega) ⟨Nat.le_refl _, fun j => ?_, by rw [win_all]; exact hu.prim, rfl, rfl⟩)
  · rintro n σ g ⟨hn, hs, hp, rfl, rfl⟩
    have s1 := sl_take (m ++ u) n
    have s2 := sl_win (m ++ u) n u.length
    have fin : ∀ q : n = 0 ∨ (m ++ u).getD (n - 1) 0 ≠ (m ++ u).getD (n + u.length - 1) 0, RFQ m r g (.tup [wD ((m ++ u).take n), wD (win (m ++ u) n u.length)], g) := fun q => by
      refine ⟨_, _, RFs.of hs hp fun ne => ?_, wt.take _, wt.win _ _, by simp; omega, by rw [win_len (by omega)]; exact ul, rfl⟩
      have n1 : 1 ≤ n := by
        rcases Nat.eq_zero_or_pos n with z | z
        · subst z; simp at ne
        · exact z
      rw [take_last n1 (by omega), win_last up (by omega)]
      exact q.resolve_left (by omega)
    cases n with
    | zero =>
      have f := fin (.inl rfl)
      have s1' : slD (wD (m ++ u)) none (some 0) = .ok (wD ((m ++ u).take 0)) := s1
      have s2' : slD (wD (m ++ u)) (some 0) (some (u.length : Int)) = .ok (wD (win (m ++ u) 0 u.length)) := by
        have := s2
        rw [show ((0 : Nat) : Int) + (u.length : Int) = (u.length : Int) by omega] at this
        exact this
      generalize wD ((m ++ u).take 0) = X at *
      generalize wD (win (m ++ u) 0 u.length) = Y at *
      simp [s1', s2', ln]
      exact f
    | succ j =>
      have i1 := ix_wD (w := m ++ u) (j := j) (by omega) g
      have i2 := ix_sum (t := m ++ u) (j := j) (q := u.length) (by omega) g
      have q := eq_lt (wt.get (i := j) (by omega)) (wt.get (i := j + u.length) (by omega))
      by_cases e : (m ++ u).getD j 0 = (m ++ u).getD (j + u.length) 0
      · rw [decide_eq_true e] at q
        have e' : (m ++ u).getD (j + 1 - 1) 0 = (m ++ u).getD (j + 1 + u.length - 1) 0 := by
          rw [show j + 1 - 1 = j by omega, show j + 1 + u.length - 1 = j + u.length by omega]; exact e
        have b1 := fun i => ga_win (t := m ++ u) (i := j + 1) (q := u.length) (by omega) up (by omega) e' i
        have b2 := win_back (t := m ++ u) (i := j + 1) (q := u.length) (by omega) up (by omega) e'
        rw [show j + 1 - 1 = j by omega] at b1 b2
        generalize (m ++ u).getD j 0 = x at *
        generalize (m ++ u).getD (j + u.length) 0 = y at *
        simp [i1, i2, q, ln]
        exact ⟨j, by omega, by omega, fun i => by rw [b1, hs], by rw [b2]; exact hp.tr, rfl⟩
      · rw [decide_eq_false e] at q
        have f := fin (.inr (by rw [show j + 1 - 1 = j by omega, show j + 1 + u.length - 1 = j + u.length by omega]; exact e))
        have s1' : slD (wD (m ++ u)) none (some ((j : Int) + 1)) = .ok (wD ((m ++ u).take (j + 1))) := by rw [show (j : Int) + 1 = ((j + 1 : Nat) : Int) by omega]; exact s1
        have s2' : slD (wD (m ++ u)) (some ((j : Int) + 1)) (some ((j : Int) + 1 + (u.length : Int))) = .ok (wD (win (m ++ u) (j + 1) u.length)) := by rw [show (j : Int) + 1 = ((j + 1 : Nat) : Int) by omega]; exact s2
        generalize (m ++ u).getD j 0 = x at *
        generalize (m ++ u).getD (j + u.length) 0 = y at *
        generalize wD ((m ++ u).take (j + 1)) = X at *
        generalize wD (win (m ++ u) (j + 1) u.length) = Y at *
        simp [i1, i2, q, ln, s1', s2']
        exact f
  · have : (m ++ u).take m.length = m := by simp
    rw [this, win_all]
    exact ga_congr hu.same j
def LFQ (l m : List Nat) (h : AH) (z : D × AH) : Prop := ∃ L A, LFs l m L A ∧ W6 L ∧ W6 A ∧ L.length ≤ l.length ∧ A.length ≤ m.length ∧ z = (.tup [wD L, wD A], h)
theorem leftL_ok (hT : TLu T GG) {l m : List Nat} (hl : W6 l) (hm : W6 m) (h0 : l ≠ []) (ll : l.length ≤ 1000) (lm : m.length ≤ 50000) (k : Nat) (hk : 2 ≤ k) (h : AH) : EV.W (callN GG T (k + 1) "_law_left_form" [wD l, wD m] h) (LFQ l m h) := by
  rw [callN_eq hT.leftL rfl]
  obtain ⟨k, rfl⟩ : ∃ j, k = j + 1 := ⟨k - 1, by omega⟩
  have r1 := rev_wD l
  have r2 := rev_wD m
  simp [Lu.f__law_left_form, Lu.b__law_left_form, r1, r2]
  refine Wk.of (rightL_ok hT hm.rev hl.rev (rev_ne h0) (by simpa using ll) (by simpa using lm) k (by omega) h) ?_
  rintro _ ⟨A, E, rf, wA, wE, lA, lE, rfl⟩
  have r3 := rev_wD A
  have r4 := rev_wD E
  simp [r3, r4]
  exact ⟨E.reverse, A.reverse, by unfold LFs; rw [List.reverse_reverse, List.reverse_reverse]; exact rf, wE.rev, wA.rev, by simpa using lE, by simpa using lA, rfl⟩
theorem head_tail {A : List Nat} (h : A ≠ []) : A = A.headD 0 :: A.drop 1 := by
  cases A with
  | nil => exact absurd rfl h
  | cons x r => rfl
theorem rev_head {A : List Nat} (h : A ≠ []) : A.reverse.getLastD 0 = A.headD 0 := by
  cases A with
  | nil => exact absurd rfl h
  | cons x r => simp [List.getLastD_eq_getLast?]
theorem tl_revs {E : List Nat} (h : E ≠ []) : (tl E).reverse = tr E.reverse := by
  cases E with
  | nil => exact absurd rfl h
  | cons x r => simp [tl, tr, List.getLastD_eq_getLast?]
theorem left_ok6 (hT : TLu T GG) {l m : List Nat} (hl : W6 l) (hm : W6 m) (h0 : l ≠ []) (ll : l.length ≤ 1000) (lm : m.length ≤ 50000) (k : Nat) (hk : 1 ≤ k) (h : AH) : EV.W (callN GG T (k + 1) "left_form" [wD l, wD m] h) (LFQ l m h) := by
  rw [callN_eq hT.left rfl]
  obtain ⟨k, rfl⟩ : ∃ j, k = j + 1 := ⟨k - 1, by omega⟩
  simp [Lu.f_left_form, Lu.b_left_form]
  refine Wk.of (root_ok hT hl h0 ll k h) ?_
  rintro _ ⟨u, hu, rfl⟩
  simp
  refine Wk.w (whileL_W (fun n σ g => ∃ A E, A.length = n ∧ (∀ i, ga A.reverse E.reverse i = ga m.reverse l.reverse i) ∧ Prim E ∧ W6 A ∧ W6 E ∧ A.length ≤ m.length ∧ E.length ≤ l.length ∧ σ = [.val (wD l), .val (wD m), .val (wD E), .val (wD A)] ∧ g = h) ?_ wfuel m.length _ _ (by show _ < 100000; omega) ⟨m, u, rfl, fun i => ga_congr (fun i => cy_revs hu.prim.ne h0 hu.same i) i, hu.prim, hm, hu.w6 hl, Nat.le_refl _, hu.len, rfl, rfl⟩)
  rintro n σ g ⟨A, E, hn, hs, hp, hA, hE, lA, lE, rfl, rfl⟩
  have z := eq_w0 A
  have fin : (A ≠ [] → A.headD 0 ≠ E.headD 0) → LFQ l m g (.tup [wD E, wD A], g) := fun q => ⟨E, A, RFs.of hs (prim_rev hp) (fun ne => by
    have a0 : A ≠ [] := fun e => ne (by rw [e]; rfl)
    rw [rev_head a0, rev_head hp.ne]
    exact q a0), hE, hA, lE, lA, rfl⟩
  by_cases a0 : A = []
  · have f := fin fun ne => absurd a0 ne
    rw [decide_eq_true a0] at z
    simp [z]
    exact f
  · rw [decide_eq_false a0] at z
    have i1 := ix_w0 a0 g
    have i2 := ix_w0 hp.ne g
    have q := eq_lt (hA.head a0) (hE.head hp.ne)
    by_cases e : A.headD 0 = E.headD 0
    · have s1 := sl_tail A
      have s2 := sl_tail E
      rw [decide_eq_true e] at q
      have pos := List.length_pos_iff.mpr a0
      have st : ∀ w : List Nat, starD (wD w) = .ok (w.map lt) := fun w => rfl
      have lk : lenOk (E.length - 1 + 1) = true := lenOk_of (by omega)
      have e4 : D.tup ((E.drop 1).map lt ++ [lt (E.headD 0)]) = wD (tl E) := by
        unfold wD tl
        rw [List.map_append]
        congr 2
        obtain ⟨x, r, rfl⟩ := List.exists_cons_of_ne_nil hp.ne
        rfl
      have st2 : starD (wD (E.drop 1)) = .ok ((E.drop 1).map lt) := rfl
      have lX : ((E.drop 1).map lt).length = E.length - 1 := by simp
      generalize hX : (E.drop 1).map lt = X at *
      generalize hY : wD (E.drop 1) = Y at *
      generalize hZ : wD (A.drop 1) = Z at *
      have rev1 : A.reverse = (A.drop 1).reverse ++ [A.headD 0] := by
        conv => lhs; rw [head_tail a0]
        simp
      have go : ∀ i, ga (A.drop 1).reverse (tl E).reverse i = ga m.reverse l.reverse i := fun i => by
        rw [← hs, rev1, tl_revs hp.ne]
        exact (ga_step (rev_ne hp.ne) _ (by rw [rev_head hp.ne, e]) i).symm
      generalize A.headD 0 = xa at *
      generalize E.headD 0 = xe at *
      simp [z, i1, i2, q, s1, s2, st2, e4, lX, lk]
      subst hZ
      exact ⟨n - 1, by omega, A.drop 1, by rw [List.length_drop, hn], tl E, go, hp.tl, hA.drop 1, (hE.drop 1).app (hE.take 1), by rw [List.length_drop]; omega, by rw [tl_len]; exact lE, rfl, rfl⟩
    · have f := fin fun _ => e
      rw [decide_eq_false e] at q
      generalize A.headD 0 = xa at *
      generalize E.headD 0 = xe at *
      simp [z, i1, i2, q]
      exact f
theorem least_ok6 (hT : TLu T GG) {w : List Nat} (hw : W6 w) (h0 : w ≠ []) (hl : w.length ≤ 1000) (k : Nat) (hk : 7 ≤ k) (h : AH) : EV.W (callN GG T (k + 1) "least_turn" [wD w] h) fun z => ∃ j, j < w.length ∧ Rot w (rotk w j) ∧ Lst leW (rotk w j) ∧ z = (wD (rotk w j), h) := by
  rw [callN_eq hT.least rfl]
  obtain ⟨k, rfl⟩ : ∃ j, k = j + 1 := ⟨k - 1, by omega⟩
  obtain ⟨j, m, hj, rot, lst, e1, e2⟩ := least_data hw h0
  have ln := fun h => len_wD w h
  have sm := smN hl
  simp [Lu.f_least_turn, Lu.b_least_turn, ln, sm]
  refine Wk.w (compW (f := fun (x : Nat) => D.int (x : Int)) (fun x => wD (rotk w x)) (List.range w.length) (fun x hx => ?_) ?_)
  · have a1 := sl_from w x
    have a2 := sl_take w x
    have a3 := cat_wD (w.drop x) (w.take x) (by simp; omega)
    simp [a1, a2, a3, rotk]
  simp
  refine Wk.w (compW (f := fun x => wD (rotk w x)) (fun x => .str (WS (rotk w x))) (List.range w.length) (fun x hx => ?_) ?_)
  · have hx := List.mem_range.mp hx
    have a1 := fun h => wtext_ok (GG := GG) hT (hw.rotk x) (by rw [rotk_len _ (by omega)]; exact hl) k (by omega) h
    simp [a1]
  have e3 : ∀ h, ixD h (.lst ((List.range w.length).map fun x => wD (rotk w x))) (.int (j : Nat)) = .ok (wD (rotk w j)) := fun h => by
    rw [EV.ix_lst, atI_n _ _ (by simpa using hj), List.getElem?_map, List.getElem?_range hj]
    rfl
  simp [e1, e2, e3]
  exact ⟨j, hj, rot, lst, rfl⟩
end
end EV
set_option maxRecDepth 100000
namespace EV
open PySem L2
def lumpD (L M R : List Nat) : D := .tup [.str "lump", wD L, wD M, wD R]
structure OkD (d : D) : Prop where
  nice : d.nice = true
  dp : d.dp ≤ 64
  flat : d.flat = true
theorem lump_okD {L M R : List Nat} (a : W6 L) (b : W6 M) (c : W6 R) : OkD (lumpD L M R) := by
  obtain ⟨a1, a2, a3⟩ := wD_ok a
  obtain ⟨b1, b2, b3⟩ := wD_ok b
  obtain ⟨c1, c2, c3⟩ := wD_ok c
  have s : (D.str "lump").nice = true := by decide +kernel
  refine ⟨?_, ?_, ?_⟩
  · simp only [lumpD, D.nice, D.nices, a1, b1, c1, Bool.and_true]; exact s
  · simp only [lumpD, D.dp, D.dps]; omega
  · simp only [lumpD, D.flat, D.flats, a3, b3, c3]; rfl
structure LumpS (l m r : List Nat) (d : D) : Prop where
  ok : OkD d
  both : l ≠ [] → r ≠ [] → ∃ L M R, (d = lumpD L M R ∧ W6 L ∧ W6 M ∧ W6 R) ∧ NF leW L M R ∧ Sh (bw l m r) (bw L M R)
  left : l ≠ [] → r = [] → ∃ L M, (d = lumpD L M [] ∧ W6 L ∧ W6 M) ∧ LFs l m L M
  right : l = [] → r ≠ [] → ∃ M R, (d = lumpD [] M R ∧ W6 M ∧ W6 R) ∧ RFs m r M R
  none : l = [] → r = [] → d = if m.length = 1 then lt (m.headD 0) else lumpD [] m []
theorem ga_rev_last {A l L A' : List Nat} (hA : A ≠ []) (h : ∀ i, ga A'.reverse L.reverse i = ga A.reverse l.reverse i) (hL : L ≠ []) : (if A' = [] then L.getLastD 0 else A'.getLastD 0) = A.getLastD 0 := by
  have key : ∀ {A : List Nat}, A ≠ [] → ∀ l, ga A.reverse l 0 = A.getLastD 0 := fun {A} ne l => by
    rw [ga_lt (by simpa using List.length_pos_iff.mpr ne), List.getLastD_eq_getLast?]
    simp [List.getD_eq_getElem?_getD, List.getLast?_eq_getElem?]
    have := List.length_pos_iff.mpr ne
    rw [List.getElem?_reverse this]
    congr 1
  rw [← key hA l.reverse, ← h]
  split
  · rename_i e
    subst e
    rw [ga_ge (by simp)]
    exact (rev_last hL).symm
  · rename_i e
    exact (key e _).symm
theorem LFs.ne {l m L A : List Nat} (h : LFs l m L A) : L ≠ [] := fun e => h.prim.ne (by rw [e]; rfl)
theorem nf_of {m r A E l L A' : List Nat} (a : RFs m r A E) (hA : A ≠ []) (b : LFs l A L A') : NF leW L A' E ∧ Sh (bw l m r) (bw L A' E) := by
  have la := ga_rev_last hA b.same b.ne
  have lst := a.last hA
  refine ⟨⟨b.prim, a.prim, fun ne => ?_, fun ne => b.last (by simpa using ne), fun e => .inl ?_⟩, (Sh.of_eq fun i => (bw_ga a.same i).symm).trans (b.sh E)⟩
  · rw [if_neg ne] at la
    rw [la]
    exact lst
  · rw [if_pos e] at la
    rw [la]
    exact lst
theorem bw_pows {u : List Nat} (h0 : u ≠ []) (k : Nat) (e : List Nat) : Sh (bw u [] e) (bw u (repw u k) e) := by
  have hp := List.length_pos_iff.mpr h0
  have len := pw_len u k
  refine ⟨-((k * u.length : Nat) : Int), fun i => ?_⟩
  rcases Int.lt_or_le i 0 with lt | ge
  · obtain ⟨j, rfl⟩ : ∃ j : Nat, i = -1 - (j : Int) := ⟨(-1 - i).toNat, by omega⟩
    rw [bw_out, show -1 - (j : Int) + -((k * u.length : Nat) : Int) = -1 - ((j + u.length * k : Nat) : Int) by rw [Nat.mul_comm k]; omega, bw_out]
    have := (cy_per u.reverse).mul k j
    rw [List.length_reverse] at this
    exact this.symm
  · by_cases h : i < (k * u.length : Nat)
    · obtain ⟨j, rfl⟩ : ∃ j : Nat, i = (j : Int) := ⟨i.toNat, by omega⟩
      have hj : j < k * u.length := by omega
      rw [bw_in _ _ _ (by rw [len]; exact hj), pw_get h0 k j hj, show (j : Int) + -((k * u.length : Nat) : Int) = -1 - ((k * u.length - 1 - j : Nat) : Int) by omega, bw_out, cy_rev h0 (K := k) (by rw [Nat.mul_comm u.length]; omega)]
      congr 1
      rw [Nat.mul_comm u.length]
      omega
    · obtain ⟨j, hj⟩ : ∃ j : Nat, i = ((repw u k).length : Int) + j := ⟨(i - (k * u.length : Nat)).toNat, by rw [len]; omega⟩
      subst hj
      rw [bw_right]
      have := bw_right u [] e j
      rw [← this, len]
      congr 1
      simp
      omega
theorem W6.rot {u v : List Nat} (hu : u ≠ []) (h : W6 u) (r : Rot u v) : W6 v := by
  obtain ⟨j, _, rfl⟩ := rot_is hu r
  exact h.rotk j
theorem Prim.rot {u v : List Nat} (h : Prim u) (r : Rot u v) : Prim v := by
  obtain ⟨hl, a, e⟩ := r
  have := h.pos
  exact Prim.of_shift (fun z => by rw [z] at hl; simp at hl; exact h.ne hl) hl.symm h (a := 0) (b := a) e
section
variable {GG : Glob} {T : Tab}
def DbQ (l m r : List Nat) (h : AH) (z : D × AH) : Prop := ∃ L M R, z = (lumpD L M R, h) ∧ NF leW L M R ∧ Sh (bw l m r) (bw L M R) ∧ W6 L ∧ W6 M ∧ W6 R
theorem double_ok6 (hT : TLu T GG) {l m r : List Nat} (hl : W6 l) (hm : W6 m) (hr : W6 r) (l0 : l ≠ []) (r0 : r ≠ []) (ll : l.length ≤ 100) (lm : m.length ≤ 100) (lr : r.length ≤ 100) (k : Nat) (hk : 8 ≤ k) (h : AH) : EV.W (callN GG T (k + 1) "double_form" [wD l, wD m, wD r] h) (DbQ l m r h) := by
  rw [callN_eq hT.double rfl]
  obtain ⟨k, rfl⟩ : ∃ j, k = j + 1 := ⟨k - 1, by omega⟩
  simp [Lu.f_double_form, Lu.b_double_form]
  refine Wk.of (right_ok6 hT hm hr r0 (by omega) (by omega) k (by omega) h) ?_
  rintro _ ⟨A, E, rf, wA, wE, lA, lE, rfl⟩
  have z := eq_w0 A
  by_cases a0 : A = []
  · rw [decide_eq_true a0] at z
    simp [z]
    subst a0
    refine Wk.of (root_ok hT hl l0 (by omega) k h) ?_
    rintro _ ⟨u, hu, rfl⟩
    have ul := hu.len
    have ln := fun w h => len_wD w h
    have up := hu.prim.pos
    have ep := rf.prim.pos
    have sm : smallR 0 ((u.length : Int) + (E.length : Int)) = true := smallR1 (by omega) (by omega) (by omega) (by omega)
    have tn : ((u.length : Int) + (E.length : Int)).toNat = u.length + E.length := by omega
    have sh0 : Sh (bw l m r) (bw u [] E) := (Sh.of_eq fun i => (bw_ga rf.same i).symm).trans (Sh.of_eq fun i => bw_cy (fun i => (cy_revs hu.prim.ne l0 hu.same i).symm) i)
    simp [ln, sm, tn]
    refine Wk.w (forL_M (f := fun (x : Nat) => D.int (x : Int)) (fun dn σ g => ∃ a e, a.length = u.length ∧ e.length = E.length ∧ Prim a ∧ Prim e ∧ W6 a ∧ W6 e ∧ Sh (bw l m r) (bw a [] e) ∧ (∀ i, i < dn.length → cy a i = cy e i) ∧ σ = [.val (wD l), .val (wD m), .val (wD r), .val (wD []), .val (wD e), .val (wD a), .no] ∧ g = h) (List.range (u.length + E.length)) ⟨u, E, rfl, rfl, hu.prim, rf.prim, hu.w6 hl, wE, sh0, fun i hi => by simp at hi, rfl, rfl⟩ ?_ ?_)
    · rintro dn x rest σ g ex ⟨a, e, la, le, pa, pe, wa, we, sh, al, rfl, rfl⟩
      have i1 := ix_wl pa.ne g
      have i2 := ix_wl pe.ne g
      have q := eq_lt (wa.last pa.ne) (we.last pe.ne)
      by_cases eq : a.getLastD 0 = e.getLastD 0
      · have o1 := on_ok hT pa.ne (by omega) k g
        have o2 := on_ok hT pe.ne (by omega) k g
        have go : ∃ a' e', a'.length = u.length ∧ e'.length = E.length ∧ Prim a' ∧ Prim e' ∧ W6 a' ∧ W6 e' ∧ Sh (bw l m r) (bw a' [] e') ∧ (∀ i, i < dn.length + 1 → cy a' i = cy e' i) ∧ wD e' = wD (tr e) ∧ wD a' = wD (tr a) := ⟨tr a, tr e, by rw [tr_len pa.ne, la], by rw [tr_len pe.ne, le], pa.tr, pe.tr, wa.tr pa.ne, we.tr pe.ne, sh.trans (bw_on pa.ne pe.ne eq), fun i hi => by
          cases i with
          | zero => rw [tr_cy0 pa.ne, tr_cy0 pe.ne, eq]
          | succ i => rw [tr_cyS pa.ne, tr_cyS pe.ne, al i (by omega)], rfl, rfl⟩
        rw [decide_eq_true eq] at q
        generalize a.getLastD 0 = xa at *
        generalize e.getLastD 0 = xe at *
        generalize hX : wD (tr a) = X at *
        generalize hY : wD (tr e) = Y at *
        simp [i1, i2, q, o1, o2]
        obtain ⟨a', e', g1, g2, g3, g4, g5, g6, g7, g8, rfl, rfl⟩ := go
        exact ⟨a', g1, e', g2, g3, g4, g5, g6, g7, g8, rfl, rfl⟩
      · rw [decide_eq_false eq] at q
        have fin : DbQ l m r g (lumpD a [] e, g) := ⟨a, [], e, rfl, ⟨prim_rev pa, pe, fun n => absurd rfl n, fun n => absurd rfl n, fun _ => .inl eq⟩, sh, wa, fun x hx => by simp at hx, we⟩
        have ed : D.tup [.str "lump", wD a, .tup [], wD e] = lumpD a [] e := rfl
        generalize a.getLastD 0 = xa at *
        generalize e.getLastD 0 = xe at *
        simp [i1, i2, q, ed]
        exact fin
    · rintro σ g ⟨a, e, la, le, pa, pe, wa, we, sh, al, rfl, rfl⟩
      simp only [List.length_range] at al
      have same := fine pa.ne pe.ne fun i hi => al i (by omega)
      have ae := prim_uniq pa pe same
      subst ae
      simp
      refine Wk.of (least_ok6 hT we pe.ne (by omega) k (by omega) g) ?_
      rintro _ ⟨j, hj, rot, lst, rfl⟩
      simp
      refine Wk.of (least_ok6 hT we pe.ne (by omega) k (by omega) g) ?_
      rintro _ ⟨j2, hj2, rot2, lst2, rfl⟩
      have e2 : rotk a j = rotk a j2 := leW_anti (lst _ ((rot.symm pe.ne).trans rot2)) (lst2 _ ((rot2.symm pe.ne).trans rot))
      have pv := pe.rot rot
      have ed : D.tup [.str "lump", wD (rotk a j), .tup [], wD (rotk a j2)] = lumpD (rotk a j) [] (rotk a j) := by rw [← e2]; rfl
      simp [ed]
      exact ⟨rotk a j, [], rotk a j, rfl, ⟨prim_rev pv, pv, fun n => absurd rfl n, fun n => absurd rfl n, fun _ => .inr ⟨rfl, lst⟩⟩, sh.trans (bw_turn pe.ne rot), wa.rotk j, fun x hx => by simp at hx, wa.rotk j⟩
  · rw [decide_eq_false a0] at z
    simp [z]
    refine Wk.of (left_ok6 hT hl wA l0 (by omega) (by omega) k (by omega) h) ?_
    rintro _ ⟨L, A', lf, wL, wA', _, _, rfl⟩
    obtain ⟨nf, sh⟩ := nf_of rf a0 lf
    have st : starD (.tup [wD L, wD A']) = .ok [wD L, wD A'] := rfl
    simp [st]
    exact ⟨L, A', E, rfl, nf, sh, wL, wA', wE⟩
theorem W6nil : W6 [] := fun x hx => by simp at hx
theorem lump_ok6 (hT : TLu T GG) {l m r : List Nat} (hl : W6 l) (hm : W6 m) (hr : W6 r) (ll : l.length ≤ 100) (lm : m.length ≤ 100) (lr : r.length ≤ 100) (k : Nat) (hk : 9 ≤ k) (h : AH) : EV.W (callN GG T (k + 1) "lump_of" [wD l, wD m, wD r] h) fun z => ∃ d, LumpS l m r d ∧ z = (d, h) := by
  rw [callN_eq hT.lump rfl]
  obtain ⟨k, rfl⟩ : ∃ j, k = j + 1 := ⟨k - 1, by omega⟩
  have z1 := eq_w0 l
  have z2 := eq_w0 r
  by_cases l0 : l = [] <;> by_cases r0 : r = []
  · rw [decide_eq_true l0] at z1
    rw [decide_eq_true r0] at z2
    have ln := len_wD m h
    have okd : OkD (if m.length = 1 then lt (m.headD 0) else lumpD [] m []) := by
      split
      · rename_i e
        have m0 : m ≠ [] := fun z => by subst z; simp at e
        obtain ⟨a, b, c⟩ := lt_ok _ (hm.head m0)
        exact ⟨a, by omega, c⟩
      · exact lump_okD W6nil hm W6nil
    have fin : LumpS l m r (if m.length = 1 then lt (m.headD 0) else lumpD [] m []) := ⟨okd, fun a => absurd l0 a, fun a => absurd l0 a, fun _ b => absurd r0 b, fun _ _ => rfl⟩
    by_cases e : m.length = 1
    · have m0 : m ≠ [] := fun z => by subst z; simp at e
      have i0 := ix_w0 m0 h
      rw [if_pos e] at fin
      have e' : ((m.length : Int) == 1) = true := by simp; omega
      generalize m.headD 0 = x at *
      simp [Lu.f_lump_of, Lu.b_lump_of, z1, z2, ln, e, i0]
      exact fin
    · have e' : ¬ ((m.length : Int) = 1) := by omega
      rw [if_neg e] at fin
      have ed : D.tup [.str "lump", .tup [], wD m, .tup []] = lumpD [] m [] := rfl
      simp [Lu.f_lump_of, Lu.b_lump_of, z1, z2, ln, e', ed]
      exact fin
  · rw [decide_eq_true l0] at z1
    rw [decide_eq_false r0] at z2
    simp [Lu.f_lump_of, Lu.b_lump_of, z1, z2]
    refine Wk.of (right_ok6 hT hm hr r0 (by omega) (by omega) k (by omega) h) ?_
    rintro _ ⟨A, E, rf, wA, wE, _, _, rfl⟩
    have st : starD (.tup [wD A, wD E]) = .ok [wD A, wD E] := rfl
    simp [st]
    exact ⟨lump_okD W6nil wA wE, fun a => absurd l0 a, fun a => absurd l0 a, fun _ _ => ⟨A, E, ⟨rfl, wA, wE⟩, rf⟩, fun _ b => absurd b r0⟩
  · rw [decide_eq_false l0] at z1
    rw [decide_eq_true r0] at z2
    simp [Lu.f_lump_of, Lu.b_lump_of, z1, z2]
    refine Wk.of (left_ok6 hT hl hm l0 (by omega) (by omega) k (by omega) h) ?_
    rintro _ ⟨L, A, lf, wL, wA, _, _, rfl⟩
    have st : starD (.tup [wD L, wD A]) = .ok [wD L, wD A] := rfl
    simp [st]
    exact ⟨lump_okD wL wA W6nil, fun _ b => absurd r0 b, fun _ _ => ⟨L, A, ⟨rfl, wL, wA⟩, lf⟩, fun a => absurd a l0, fun a => absurd a l0⟩
  · rw [decide_eq_false l0] at z1
    rw [decide_eq_false r0] at z2
    simp [Lu.f_lump_of, Lu.b_lump_of, z1, z2]
    refine Wk.of (double_ok6 hT hl hm hr l0 r0 ll lm lr k (by omega) h) ?_
    rintro _ ⟨L, M, R, rfl, nf, sh, wL, wM, wR⟩
    simp
    exact ⟨lump_okD wL wM wR, fun _ _ => ⟨L, M, R, ⟨rfl, wL, wM, wR⟩, nf, sh⟩, fun _ b => absurd b r0, fun a => absurd a l0, fun a => absurd a l0⟩
end
end EV
set_option maxRecDepth 100000
namespace EV
open PySem L2
section
variable {GG : Glob} {T : Tab}
theorem lumpL_ok (hT : TLu T GG) {l m r : List Nat} (hl : W6 l) (hm : W6 m) (hr : W6 r) (ll : l.length ≤ 100) (lm : m.length ≤ 100) (lr : r.length ≤ 100) (k : Nat) (hk : 9 ≤ k) (h : AH) : EV.W (callN GG T (k + 1) "_law_lump" [wD l, wD m, wD r] h) fun z => ∃ d, LumpS l m r d ∧ z = (d, h) := by
  rw [callN_eq hT.lumpL rfl]
  obtain ⟨k, rfl⟩ : ∃ j, k = j + 1 := ⟨k - 1, by omega⟩
  have z1 := eq_w0 l
  have z2 := eq_w0 r
  by_cases l0 : l = [] <;> by_cases r0 : r = []
  · rw [decide_eq_true l0] at z1
    rw [decide_eq_true r0] at z2
    have ln := len_wD m h
    have okd : OkD (if m.length = 1 then lt (m.headD 0) else lumpD [] m []) := by
      split
      · rename_i e
        have m0 : m ≠ [] := fun z => by subst z; simp at e
        obtain ⟨a, b, c⟩ := lt_ok _ (hm.head m0)
        exact ⟨a, by omega, c⟩
      · exact lump_okD W6nil hm W6nil
    have fin : LumpS l m r (if m.length = 1 then lt (m.headD 0) else lumpD [] m []) := ⟨okd, fun a => absurd l0 a, fun a => absurd l0 a, fun _ b => absurd r0 b, fun _ _ => rfl⟩
    by_cases e : m.length = 1
    · have m0 : m ≠ [] := fun z => by subst z; simp at e
      have i0 := ix_w0 m0 h
      rw [if_pos e] at fin
      generalize m.headD 0 = x at *
      simp [Lu.f__law_lump, Lu.b__law_lump, z1, z2, ln, e, i0]
      exact fin
    · have e' : ¬ ((m.length : Int) = 1) := by omega
      rw [if_neg e] at fin
      have ed : D.tup [.str "lump", .tup [], wD m, .tup []] = lumpD [] m [] := rfl
      simp [Lu.f__law_lump, Lu.b__law_lump, z1, z2, ln, e', ed]
      exact fin
  · rw [decide_eq_true l0] at z1
    rw [decide_eq_false r0] at z2
    simp [Lu.f__law_lump, Lu.b__law_lump, z1, z2]
    refine Wk.of (rightL_ok hT hm hr r0 (by omega) (by omega) k (by omega) h) ?_
    rintro _ ⟨A, E, rf, wA, wE, _, _, rfl⟩
    simp [z2]
    exact ⟨lump_okD W6nil wA wE, fun a => absurd l0 a, fun a => absurd l0 a, fun _ _ => ⟨A, E, ⟨rfl, wA, wE⟩, rf⟩, fun _ b => absurd b r0⟩
  · rw [decide_eq_false l0] at z1
    rw [decide_eq_true r0] at z2
    simp [Lu.f__law_lump, Lu.b__law_lump, z1, z2]
    refine Wk.of (leftL_ok hT hl hm l0 (by omega) (by omega) k (by omega) h) ?_
    rintro _ ⟨L, A, lf, wL, wA, _, _, rfl⟩
    simp [z2]
    exact ⟨lump_okD wL wA W6nil, fun _ b => absurd r0 b, fun _ _ => ⟨L, A, ⟨rfl, wL, wA⟩, lf⟩, fun a => absurd a l0, fun a => absurd a l0⟩
  · rw [decide_eq_false l0] at z1
    rw [decide_eq_false r0] at z2
    simp [Lu.f__law_lump, Lu.b__law_lump, z1, z2]
    refine Wk.of (rightL_ok hT hm hr r0 (by omega) (by omega) k (by omega) h) ?_
    rintro _ ⟨A, E, rf, wA, wE, lA, lE, rfl⟩
    have z := eq_w0 A
    have done : ∀ {L M R : List Nat}, NF leW L M R → Sh (bw l m r) (bw L M R) → W6 L → W6 M → W6 R → LumpS l m r (lumpD L M R) := fun {L M R} nf sh a b c =>
      ⟨lump_okD a b c, fun _ _ => ⟨L, M, R, ⟨rfl, a, b, c⟩, nf, sh⟩, fun _ b => absurd b r0, fun a => absurd a l0, fun a => absurd a l0⟩
    by_cases a0 : A = []
    · rw [decide_eq_true a0] at z
      simp [z]
      subst a0
      refine Wk.of (rootL_ok hT hl l0 (by omega) k h) ?_
      rintro _ ⟨u, hu, rfl⟩
      have ul := hu.len
      have wu := hu.w6 hl
      have ln := fun w h => len_wD w h
      have up := hu.prim.pos
      have ep := rf.prim.pos
      have mu : binD .mul (wD u) (.int ((u.length : Int) + (E.length : Int) + 1)) = .ok (wD (repw u (u.length + E.length + 1))) := by
        rw [show (u.length : Int) + (E.length : Int) + 1 = ((u.length + E.length + 1 : Nat) : Int) by omega]
        exact mul_wD (by omega) (by omega) (by omega)
      have tl0 := pw_len u (u.length + E.length + 1)
      have big : (u.length + E.length + 1) * u.length ≤ 201 * 100 := Nat.mul_le_mul (by omega) (by omega)
      have n0 : u.length + E.length ≤ (u.length + E.length + 1) * u.length := by
        have := Nat.le_mul_of_pos_right (u.length + E.length + 1) up
        omega
      have wtd : W6 (repw u (u.length + E.length + 1)) := wu.repw _
      have sh0 : Sh (bw l m r) (bw u (repw u (u.length + E.length + 1)) E) := (Sh.of_eq fun i => (bw_ga rf.same i).symm).trans ((Sh.of_eq fun i => bw_cy (fun i => (cy_revs hu.prim.ne l0 hu.same i).symm) i).trans (bw_pows hu.prim.ne _ E))
      have pg := pw_get (u := u) hu.prim.ne (u.length + E.length + 1)
      generalize repw u (u.length + E.length + 1) = td at *
      have c1 := cat_wD td E (by omega)
      simp [ln, mu, c1]
      have wt : W6 (td ++ E) := wtd.app wE
      have tl' : (td ++ E).length = td.length + E.length := by simp
      refine Wk.w (whileL_W (fun n σ g => n ≤ td.length ∧ (∀ j, ga ((td ++ E).take n) (win (td ++ E) n E.length) j = ga td E j) ∧ Prim (win (td ++ E) n E.length) ∧ σ = [.val (wD u), .val (wD []), .val (wD E), .no, .val (wD td), .val (wD (td ++ E)), .val (.int (n : Int)), .no, .no, .no, .no] ∧ g = h) ?_ wfuel td.length _ _ (by show _ < 100000; omega) ⟨Nat.le_refl _, fun j => ?_, by rw [win_all]; exact rf.prim, rfl, rfl⟩)
      · rintro n σ g ⟨hn, hs, hp, rfl, rfl⟩
        have s1 := sl_take (td ++ E) n
        have s2 := sl_win (td ++ E) n E.length
        cases n with
        | zero =>
          -- all of it goes over
          have wl := win_len (t := td ++ E) (i := 0) (q := E.length) (by omega)
          have al : ∀ i, i < u.length + E.length → cy u i = cy (win (td ++ E) 0 E.length) i := fun i hi => by
            have := hs i
            rw [ga_ge (by simp), ga_lt (by omega), pg i (by omega)] at this
            simpa using this.symm
          have uw : u = win (td ++ E) 0 E.length := prim_uniq hu.prim hp (fine hu.prim.ne hp.ne fun i hi => al i (by omega))
          have rue : Rot u E := ⟨by rw [uw, wl], td.length, fun i => by
            have := hs (i + td.length)
            rw [ga_ge (by simp), ga_ge (by omega), ← uw] at this
            simpa using this.symm⟩
          have sh1 : Sh (bw l m r) (bw u [] u) := sh0.trans (Sh.of_eq fun i => by
            refine (bw_ga (fun i => (hs i).symm) i).trans ?_
            rw [← uw]
            rfl)
          obtain ⟨j, mm, hj, rot, lst, e1, e2⟩ := least_data wE rf.prim.ne
          have sm := smN (show E.length ≤ 1000 by omega)
          simp [ln, sm]
          refine Wk.w (compW (f := fun (x : Nat) => D.int (x : Int)) (fun x => wD (rotk E x)) (List.range E.length) (fun x hx => ?_) ?_)
          · have a1 := sl_from E x
            have a2 := sl_take E x
            have a3 := cat_wD (E.drop x) (E.take x) (by simp; omega)
            simp [a1, a2, a3, rotk]
          simp
          refine Wk.w (compW (f := fun x => wD (rotk E x)) (fun x => .str (WS (rotk E x))) (List.range E.length) (fun x hx => ?_) ?_)
          · have hx := List.mem_range.mp hx
            have a1 := fun h => wtextL_ok (GG := GG) hT (wE.rotk x) (by rw [rotk_len _ (by omega)]; omega) k (by omega) h
            simp [a1]
          have e3 : ∀ h, ixD h (.lst ((List.range E.length).map fun x => wD (rotk E x))) (.int (j : Nat)) = .ok (wD (rotk E j)) := fun h => by
            rw [EV.ix_lst, atI_n _ _ (by simpa using hj), List.getElem?_map, List.getElem?_range hj]
            rfl
          have pv := rf.prim.rot rot
          have fin := done (L := rotk E j) (M := []) (R := rotk E j) ⟨prim_rev pv, pv, fun n => absurd rfl n, fun n => absurd rfl n, fun _ => .inr ⟨rfl, lst⟩⟩ (sh1.trans (bw_turn hu.prim.ne (rue.trans rot))) (wE.rotk j) W6nil (wE.rotk j)
          have ed : D.tup [.str "lump", wD (rotk E j), .tup [], wD (rotk E j)] = lumpD (rotk E j) [] (rotk E j) := rfl
          simp [e1, e2, e3, ed]
          exact fin
        | succ j =>
          have i1 := ix_wD (w := td ++ E) (j := j) (by omega) g
          have i2 := ix_sum (t := td ++ E) (j := j) (q := E.length) (by omega) g
          have q := eq_lt (wt.get (i := j) (by omega)) (wt.get (i := j + E.length) (by omega))
          by_cases e : (td ++ E).getD j 0 = (td ++ E).getD (j + E.length) 0
          · rw [decide_eq_true e] at q
            have e' : (td ++ E).getD (j + 1 - 1) 0 = (td ++ E).getD (j + 1 + E.length - 1) 0 := by
              rw [show j + 1 - 1 = j by omega, show j + 1 + E.length - 1 = j + E.length by omega]; exact e
            have b1 := fun i => ga_win (t := td ++ E) (i := j + 1) (q := E.length) (by omega) ep (by omega) e' i
            have b2 := win_back (t := td ++ E) (i := j + 1) (q := E.length) (by omega) ep (by omega) e'
            rw [show j + 1 - 1 = j by omega] at b1 b2
            generalize (td ++ E).getD j 0 = x at *
            generalize (td ++ E).getD (j + E.length) 0 = y at *
            simp [i1, i2, q, ln]
            exact ⟨j, by omega, by omega, fun i => by rw [b1, hs], by rw [b2]; exact hp.tr, rfl⟩
          · have ne : (td ++ E).take (j + 1) ≠ [] := fun z => by
              have := congrArg List.length z
              rw [List.length_take, tl', List.length_nil] at this
              omega
            have rf2 : RFs td E ((td ++ E).take (j + 1)) (win (td ++ E) (j + 1) E.length) := RFs.of hs hp fun _ => by
              rw [take_last (by omega) (by omega), win_last ep (by omega), show j + 1 - 1 = j by omega, show j + 1 + E.length - 1 = j + E.length by omega]
              exact e
            rw [decide_eq_false e] at q
            have s1' : slD (wD (td ++ E)) none (some ((j : Int) + 1)) = .ok (wD ((td ++ E).take (j + 1))) := by rw [show (j : Int) + 1 = ((j + 1 : Nat) : Int) by omega]; exact s1
            have s2' : slD (wD (td ++ E)) (some ((j : Int) + 1)) (some ((j : Int) + 1 + (E.length : Int))) = .ok (wD (win (td ++ E) (j + 1) E.length)) := by rw [show (j : Int) + 1 = ((j + 1 : Nat) : Int) by omega]; exact s2
            have wtk := wt.take (j + 1)
            have wwn := wt.win (j + 1) E.length
            have ltk : ((td ++ E).take (j + 1)).length ≤ 50000 := by simp; omega
            have gt0 : (0 : Int) < (j : Int) + 1 := by omega
            generalize (td ++ E).getD j 0 = x at *
            generalize (td ++ E).getD (j + E.length) 0 = y at *
            generalize hX : (td ++ E).take (j + 1) = X at *
            generalize win (td ++ E) (j + 1) E.length = Y at *
            simp [i1, i2, q, ln, s1', gt0]
            refine Wk.of (leftL_ok hT wu wtk hu.prim.ne (by omega) ltk k (by omega) g) ?_
            rintro _ ⟨L, A', lf, wL, wA', _, _, rfl⟩
            obtain ⟨nf, sh⟩ := nf_of rf2 ne lf
            have fin := done nf (sh0.trans sh) wL wA' wwn
            have ed : D.tup [.str "lump", wD L, wD A', wD Y] = lumpD L A' Y := rfl
            simp [s2', ln, ed]
            exact fin
      · have : (td ++ E).take td.length = td := by simp
        rw [this, win_all]
    · rw [decide_eq_false a0] at z
      simp [z]
      refine Wk.of (leftL_ok hT hl wA l0 (by omega) (by omega) k (by omega) h) ?_
      rintro _ ⟨L, A', lf, wL, wA', _, _, rfl⟩
      obtain ⟨nf, sh⟩ := nf_of rf a0 lf
      have fin := done nf sh wL wA' wE
      have ed : D.tup [.str "lump", wD L, wD A', wD E] = lumpD L A' E := rfl
      simp [ed]
      exact fin
theorem lump_inj {L M R L' M' R' : List Nat} (h : lumpD L M R = lumpD L' M' R') : wD L = wD L' ∧ wD M = wD M' ∧ wD R = wD R' := by
  have e := D.tup.inj h
  simp at e
  exact e
structure Tel (l m r l' m' r' : List Nat) : Prop where
  l0 : l' = [] ↔ l = []
  r0 : r' = [] ↔ r = []
  both : l ≠ [] → r ≠ [] → Sh (bw l m r) (bw l' m' r')
  left : l ≠ [] → r = [] → ∀ i, ga m'.reverse l'.reverse i = ga m.reverse l.reverse i
  right : l = [] → r ≠ [] → ∀ i, ga m' r' i = ga m r i
  none : l = [] → r = [] → m' = m
theorem LumpS.uniq {l m r l' m' r' : List Nat} {d d' : D} (t : Tel l m r l' m' r') (a : LumpS l m r d) (b : LumpS l' m' r' d') : d = d' := by
  by_cases l0 : l = [] <;> by_cases r0 : r = []
  · rw [a.none l0 r0, b.none (t.l0.mpr l0) (t.r0.mpr r0), t.none l0 r0]
  · obtain ⟨M, R, ⟨rfl, _, _⟩, x⟩ := a.right l0 r0
    obtain ⟨M', R', ⟨rfl, _, _⟩, y⟩ := b.right (t.l0.mpr l0) fun z => r0 (t.r0.mp z)
    obtain ⟨e1, e2⟩ := x.uniq y fun i => (t.right l0 r0 i).symm
    rw [e1, e2]
  · obtain ⟨L, M, ⟨rfl, _, _⟩, x⟩ := a.left l0 r0
    obtain ⟨L', M', ⟨rfl, _, _⟩, y⟩ := b.left (fun z => l0 (t.l0.mp z)) (t.r0.mpr r0)
    obtain ⟨e1, e2⟩ := RFs.uniq x y fun i => (t.left l0 r0 i).symm
    have e1 := congrArg List.reverse e1
    have e2 := congrArg List.reverse e2
    rw [List.reverse_reverse, List.reverse_reverse] at e1 e2
    rw [e1, e2]
  · obtain ⟨L, M, R, ⟨rfl, _, _, _⟩, nf, sh⟩ := a.both l0 r0
    obtain ⟨L', M', R', ⟨rfl, _, _, _⟩, nf', sh'⟩ := b.both (fun z => l0 (t.l0.mp z)) fun z => r0 (t.r0.mp z)
    obtain ⟨e1, e2, e3⟩ := bw_uniq (fun u v => leW_anti) nf nf' (sh.symm.trans ((t.both l0 r0).trans sh'))
    rw [e1, e2, e3]
theorem Tel.refl (l m r : List Nat) : Tel l m r l m r := ⟨.rfl, .rfl, fun _ _ => Sh.refl _, fun _ _ _ => rfl, fun _ _ _ => rfl, fun _ _ => rfl⟩
theorem Tel.trans {l m r l' m' r' l'' m'' r'' : List Nat} (a : Tel l m r l' m' r') (b : Tel l' m' r' l'' m'' r'') : Tel l m r l'' m'' r'' :=
  ⟨b.l0.trans a.l0, b.r0.trans a.r0, fun x y => (a.both x y).trans (b.both (fun z => x (a.l0.mp z)) fun z => y (a.r0.mp z)), fun x y i => by rw [b.left (fun z => x (a.l0.mp z)) (a.r0.mpr y), a.left x y], fun x y i => by rw [b.right (a.l0.mpr x) (fun z => y (a.r0.mp z)), a.right x y], fun x y => by rw [b.none (a.l0.mpr x) (a.r0.mpr y), a.none x y]⟩
theorem Tel.lrot (y x m r : List Nat) (h : y ++ x ≠ []) : Tel (y ++ x) m r (x ++ y) (x ++ m) r := by
  have h' : x ++ y ≠ [] := fun e => h (by simp at e; simp [e])
  exact ⟨⟨fun e => absurd e h', fun e => absurd e h⟩, .rfl, fun _ _ => bw_rot y x m r h, fun _ _ i => by
    rw [List.reverse_append, List.reverse_append, List.reverse_append]
    exact ga_rot m.reverse x.reverse y.reverse (by simp at h; simpa using fun e e2 => h e2 e) i, fun e => absurd e h, fun e => absurd e h⟩
theorem Tel.rrot (x y m l : List Nat) (h : x ++ y ≠ []) : Tel l m (x ++ y) l (m ++ x) (y ++ x) := by
  have h' : y ++ x ≠ [] := fun e => h (by simp at e; simp [e])
  exact ⟨.rfl, ⟨fun e => absurd e h', fun e => absurd e h⟩, fun _ _ => Sh.of_eq fun i => (bw_ga (ga_rot m x y h) i).symm, fun _ e => absurd e h, fun _ _ i => ga_rot m x y h i, fun _ e => absurd e h⟩
theorem pw_nil (k : Nat) : repw [] k = [] := List.eq_nil_of_length_eq_zero (by rw [pw_len]; simp)
theorem pw_ne {u : List Nat} (h : u ≠ []) {k : Nat} (hk : 1 ≤ k) : repw u k ≠ [] := fun e => by
  have := congrArg List.length e
  rw [pw_len] at this
  have p := List.length_pos_iff.mpr h
  have := Nat.mul_pos hk p
  simp at *
  omega
theorem Tel.pws (l m r : List Nat) {j k : Nat} (hj : 1 ≤ j) (hk : 1 ≤ k) : Tel l m r (repw l j) m (repw r k) := by
  have e : ∀ (u : List Nat) {k : Nat}, 1 ≤ k → (repw u k = [] ↔ u = []) := fun u k hk => ⟨fun z => Classical.byContradiction fun n => pw_ne n hk z, fun z => by rw [z, pw_nil]⟩
  exact ⟨e l hj, e r hk, fun x y => bw_pw x y hj hk, fun x y i => by
    rw [pw_rev]
    exact ga_congr (fun i => pw_cy (rev_ne x) hj i) i, fun x y i => ga_congr (fun i => pw_cy y hk i) i, fun _ _ => rfl⟩
end
end EV
set_option maxRecDepth 100000
namespace EV
open PySem L2
def Wd (w : List Nat) : Prop := ∀ x ∈ w, x < 6 ∧ x ≠ 2
theorem Wd.w6 {w : List Nat} (h : Wd w) : W6 w := fun x hx => (h x hx).1
theorem Wd.app {u v : List Nat} (a : Wd u) (b : Wd v) : Wd (u ++ v) := fun x hx => by
  rcases List.mem_append.mp hx with h | h
  · exact a x h
  · exact b x h
theorem Wd.take {u : List Nat} (h : Wd u) (n : Nat) : Wd (u.take n) := fun x hx => h x (List.mem_of_mem_take hx)
theorem Wd.drop {u : List Nat} (h : Wd u) (n : Nat) : Wd (u.drop n) := fun x hx => h x (List.mem_of_mem_drop hx)
theorem Wd.repw {u : List Nat} (h : Wd u) (k : Nat) : Wd (repw u k) := fun x hx => by
  unfold EV.repw at hx
  obtain ⟨l, hl, hx⟩ := List.mem_flatten.mp hx
  rw [(List.mem_replicate.mp hl).2] at hx
  exact h x hx
theorem ga_no {m r : List Nat} (hm : Wd m) (hr : Wd r) (r0 : r ≠ []) (i : Nat) : ga m r i ≠ 2 := by
  unfold ga
  split
  · rename_i h
    rw [List.getD_eq_getElem?_getD, List.getElem?_eq_getElem h]
    exact (hm _ (List.getElem_mem h)).2
  · exact (hr _ (cy_mem r0 _)).2
theorem Wd.rev {u : List Nat} (h : Wd u) : Wd u.reverse := fun x hx => h x (by simpa using hx)
theorem bw_no {l m r : List Nat} (hl : Wd l) (hm : Wd m) (hr : Wd r) (l0 : l ≠ []) (r0 : r ≠ []) (i : Int) : bw l m r i ≠ 2 := by
  unfold bw
  split
  · exact ga_no hm hr r0 _
  · exact (hl.rev _ (cy_mem (rev_ne l0) _)).2
theorem ga_two (m r : List Nat) : ga (m ++ [2]) r m.length = 2 := by
  rw [ga_lt (by simp)]
  simp [List.getD_eq_getElem?_getD]
theorem differ {l m r : List Nat} {d d' : D} (hl : Wd l) (hm : Wd m) (hr : Wd r) (ne : l ++ m ++ r ≠ []) (a : LumpS l m r d) (b : LumpS l (m ++ [2]) r d') : d' ≠ d := fun e => by
  by_cases l0 : l = [] <;> by_cases r0 : r = []
  · have m0 : m ≠ [] := fun z => ne (by rw [l0, r0, z]; rfl)
    have mp := List.length_pos_iff.mpr m0
    have ea := a.none l0 r0
    have eb := b.none l0 r0
    rw [if_neg (by simp; exact m0)] at eb
    have w2 : W6 (m ++ [2]) := hm.w6.app fun x hx => by simp at hx; omega
    split at ea
    · have hx := hm.w6.head m0
      have e2 : lt (m.headD 0) = lumpD [] (m ++ [2]) [] := by rw [← ea, ← eb, e]
      have c := congrArg codeD e2
      rw [code_lt _ hx] at c
      have c : m.headD 0 = 5 := c
      rw [c] at e2
      have e3 : wD [1, 0] = wD (m ++ [2]) := by
        have : lt 5 = lumpD [] [1, 0] [] := rfl
        rw [this] at e2
        exact (lump_inj e2).2.1
      have e4 := wD_inj (fun x hx => by simp at hx; omega) w2 e3
      have := congrArg List.getLast? e4
      simp at this
    · rw [ea, eb] at e
      have := (lump_inj e).2.1
      have := wD_inj w2 hm.w6 this
      have := congrArg List.length this
      simp at this
  · obtain ⟨M, R, ⟨rfl, q1, q2⟩, x⟩ := a.right l0 r0
    obtain ⟨M', R', ⟨rfl, q3, q4⟩, y⟩ := b.right l0 r0
    obtain ⟨_, e1, e2⟩ := lump_inj e
    have e1 := wD_inj q3 q1 e1
    have e2 := wD_inj q4 q2 e2
    subst e1 e2
    have := y.same m.length
    rw [x.same, ga_two] at this
    exact ga_no hm hr r0 _ this
  · obtain ⟨L, M, ⟨rfl, q1, q2⟩, x⟩ := a.left l0 r0
    obtain ⟨L', M', ⟨rfl, q3, q4⟩, y⟩ := b.left l0 r0
    obtain ⟨e1, e2, _⟩ := lump_inj e
    have e1 := wD_inj q3 q1 e1
    have e2 := wD_inj q4 q2 e2
    subst e1 e2
    have := RFs.same y 0
    rw [RFs.same x] at this
    have two : ga (m ++ [2]).reverse l.reverse 0 = 2 := by rw [ga_lt (by simp)]; simp
    rw [two] at this
    exact ga_no hm.rev hl.rev (rev_ne l0) _ this
  · obtain ⟨L, M, R, ⟨rfl, q1, q2, q3⟩, _, sh⟩ := a.both l0 r0
    obtain ⟨L', M', R', ⟨rfl, q4, q5, q6⟩, _, sh'⟩ := b.both l0 r0
    obtain ⟨e1, e2, e3⟩ := lump_inj e
    have e1 := wD_inj q4 q1 e1
    have e2 := wD_inj q5 q2 e2
    have e3 := wD_inj q6 q3 e3
    subst e1 e2 e3
    obtain ⟨t, ht⟩ := sh.trans sh'.symm
    have := ht (m.length : Int)
    rw [bw_in _ _ _ (by simp)] at this
    simp only [List.getD_eq_getElem?_getD] at this
    simp at this
    exact bw_no hl hm hr l0 r0 _ this.symm
section
variable {GG : Glob} {T : Tab}
theorem draw_letters_ok (hp : T "_law_pick" = some Lw.f__law_pick) (h1 : T "_law_draw_letters" = some Lu.f__law_draw_letters) (n : Nat) (hn : n ≤ 20) (k : Nat) (hk : 1 ≤ k) (s : Src) (hs : s.Ok) (rest : AH) : EV.W (callN GG T (k + 1) "_law_draw_letters" [.ref 1, .int (n : Int)] (s.h rest)) fun z => ∃ (w : List Nat) (s' : Src), s'.Ok ∧ Wd w ∧ w.length ≤ n ∧ z = (wD w, s'.h rest) := by
  rw [callN_eq h1 rfl]
  obtain ⟨k, rfl⟩ : ∃ j, k = j + 1 := ⟨k - 1, by omega⟩
  simp [Lu.f__law_draw_letters, Lu.b__law_draw_letters]
  refine Wk.of (pick_w hp k s hs rest (n + 1) (by omega) (by omega)) ?_
  rintro ⟨d, h⟩ ⟨c, s1, hs1, hc, rfl, rfl⟩
  have sm := smN (show c ≤ 1000 by omega)
  simp [sm]
  refine Wk.w (compL_W (fun h => ∃ s : Src, s.Ok ∧ h = s.h rest) (fun _ d => ∃ x : Nat, (x < 6 ∧ x ≠ 2) ∧ d = lt x) _ _ _ ⟨s1, hs1, rfl⟩ ?_ ?_)
  · rintro x hx h ⟨sa, hsa, rfl⟩
    obtain ⟨y, _, rfl⟩ := List.mem_map.mp hx
    simp
    refine Wk.of (pick_w hp k sa hsa rest 8 (by omega) (by omega)) ?_
    rintro ⟨d, h⟩ ⟨i, sb, hsb, hi, rfl, rfl⟩
    have ix : ∃ z : Nat, (z < 6 ∧ z ≠ 2) ∧ ∀ h, ixD h (.lst [.str "a", .str "b", .str "a", .str "b", .str "a", .tup [.str "mixture", .tup [.str "a"]], .tup [.str "lump", .tup [], .tup [.str "a"], .tup [.str "b"]], .tup [.str "lump", .tup [], .tup [.str "b", .str "a"], .tup []]]) (.int (i : Int)) = .ok (lt z) := by
      have : i = 0 ∨ i = 1 ∨ i = 2 ∨ i = 3 ∨ i = 4 ∨ i = 5 ∨ i = 6 ∨ i = 7 := by omega
      rcases this with rfl | rfl | rfl | rfl | rfl | rfl | rfl | rfl
      · exact ⟨0, by omega, fun h => rfl⟩
      · exact ⟨1, by omega, fun h => rfl⟩
      · exact ⟨0, by omega, fun h => rfl⟩
      · exact ⟨1, by omega, fun h => rfl⟩
      · exact ⟨0, by omega, fun h => rfl⟩
      · exact ⟨3, by omega, fun h => rfl⟩
      · exact ⟨4, by omega, fun h => rfl⟩
      · exact ⟨5, by omega, fun h => rfl⟩
    obtain ⟨z, hz, ez⟩ := ix
    simp [ez]
    exact ⟨⟨sb, hsb, rfl⟩, z, hz, rfl⟩
  rintro ds h ⟨sc, hsc, rfl⟩ ha
  obtain ⟨cs, rfl, hl, hcs⟩ := ha.ex
  simp at hl
  simp
  exact ⟨cs, sc, hsc, fun x hx => hcs x hx, by omega, rfl, rfl⟩
theorem roots_ok (hT : TLu T GG) (hp : T "_law_pick" = some Lw.f__law_pick) (h1 : T "_law_draw_letters" = some Lu.f__law_draw_letters) (h2 : T "_law_roots_right" = some Lu.f__law_roots_right) (k : Nat) (hk : 2 ≤ k) (s : Src) (hs : s.Ok) (rest : AH) : EV.W (callN GG T (k + 1) "_law_roots_right" [.ref 1] (s.h rest)) fun z => ∃ s' : Src, s'.Ok ∧ z = (.bl true, s'.h rest) := by
  rw [callN_eq h2 rfl]
  obtain ⟨k, rfl⟩ : ∃ j, k = j + 1 := ⟨k - 1, by omega⟩
  simp [Lu.f__law_roots_right, Lu.b__law_roots_right]
  refine Wk.of (draw_letters_ok (GG := GG) hp h1 3 (by omega) k (by omega) s hs rest) ?_
  rintro _ ⟨w, s1, hs1, hw, lw, rfl⟩
  have c1 : binD .add (.tup [.str "a"]) (wD w) = .ok (wD (0 :: w)) := cat_wD [0] w (by simp; omega)
  simp [c1]
  refine Wk.of (pick_w hp k s1 hs1 rest 4 (by omega) (by omega)) ?_
  rintro ⟨d, h⟩ ⟨i, s2, hs2, hi, rfl, rfl⟩
  have w6 : W6 (0 :: w) := fun x hx => by
    rcases List.mem_cons.mp hx with rfl | hx
    · omega
    · exact (hw x hx).1
  have m1 : binD .mul (wD (0 :: w)) (.int (1 + (i : Int))) = .ok (wD (repw (0 :: w) (i + 1))) := by
    rw [one_cast]
    exact mul_wD (by omega) (by omega) (by simp; omega)
  have lp := pw_len (0 :: w) (i + 1)
  have big : (i + 1) * (0 :: w).length ≤ 4 * 4 := Nat.mul_le_mul (by omega) (by simp; omega)
  have t1 : slD (wD (0 :: w)) none (some 1) = .ok (wD ((0 :: w).take 1)) := sl_take (0 :: w) 1
  have c2 := cat_wD (repw (0 :: w) (i + 1)) ((0 :: w).take 1) (by simp; omega)
  have three : [wD (0 :: w), wD (repw (0 :: w) (i + 1)), wD (repw (0 :: w) (i + 1) ++ (0 :: w).take 1)] = [0 :: w, repw (0 :: w) (i + 1), repw (0 :: w) (i + 1) ++ (0 :: w).take 1].map wD := rfl
  have all : ∀ v ∈ [0 :: w, repw (0 :: w) (i + 1), repw (0 :: w) (i + 1) ++ (0 :: w).take 1], W6 v ∧ v ≠ [] ∧ v.length ≤ 1000 := fun v hv => by
    simp only [List.mem_cons, List.not_mem_nil, or_false] at hv
    have pn : repw (0 :: w) (i + 1) ≠ [] := pw_ne (by simp) (by omega)
    rcases hv with rfl | rfl | rfl
    · exact ⟨w6, by simp, by simp; omega⟩
    · exact ⟨w6.repw _, pn, by omega⟩
    · exact ⟨(w6.repw _).app (w6.take _), by simp [pn], by rw [List.length_append]; simp; omega⟩
  generalize repw (0 :: w) (i + 1) = P at *
  generalize (0 :: w).take 1 = Q at *
  generalize 0 :: w = V at *
  simp [m1, t1, c2]
  rw [three]
  refine Wk.w (forL_M (f := wD) (fun _ σ g => σ = [.val (.ref 1), .val (wD V), .val (.int (1 + (i : Int))), .no] ∧ g = s2.h rest) [V, P, P ++ Q] ⟨rfl, rfl⟩ ?_ ?_)
  · rintro dn v rs σ g e ⟨rfl, rfl⟩
    obtain ⟨v6, v0, vl⟩ := all v (by rw [e]; simp)
    simp
    refine Wk.of (root_ok hT v6 v0 vl k _) ?_
    rintro _ ⟨u, hu, rfl⟩
    simp
    refine Wk.of (rootL_ok hT v6 v0 vl k _) ?_
    rintro _ ⟨u', hu', rfl⟩
    have eu : u = u' := prim_uniq hu.prim hu'.prim fun i => by rw [hu.same, hu'.same]
    subst eu
    have q := eq_wD (hu.w6 v6) (hu.w6 v6)
    simp only [decide_true] at q
    simp [q]
  · rintro σ g ⟨rfl, rfl⟩
    simp
    exact ⟨s2, hs2, rfl⟩
def ot1 : S := (.ite (.and (.cons (.cmp .ne (.var 1) (.tup .nil)) (.cons (.cmp .eq (.call "_law_pick" (.cons false (.var 0) (.cons false (.int 2) .nil))) (.int 0)) .nil)))
    (.cons (.set 4 false (.bin .add (.int 1) (.call "_law_pick" (.cons false (.var 0) (.cons false (.blt "len" (.cons false (.var 1) .nil)) .nil)))))
    (.cons (.par [1, 2] [false, false] (.cons false (.bin .add (.sl (.var 1) (.so (.bin .sub (.blt "len" (.cons false (.var 1) .nil)) (.var 4))) .no) (.sl (.var 1) .no (.so (.bin .sub (.blt "len" (.cons false (.var 1) .nil)) (.var 4))))) (.cons false (.bin .add (.sl (.var 1) (.so (.bin .sub (.blt "len" (.cons false (.var 1) .nil)) (.var 4))) .no) (.var 2)) .nil)))
    .nil))
    .nil)
def ot2 : S := (.ite (.and (.cons (.cmp .ne (.var 3) (.tup .nil)) (.cons (.cmp .eq (.call "_law_pick" (.cons false (.var 0) (.cons false (.int 2) .nil))) (.int 0)) .nil)))
    (.cons (.set 4 false (.bin .add (.int 1) (.call "_law_pick" (.cons false (.var 0) (.cons false (.blt "len" (.cons false (.var 3) .nil)) .nil)))))
    (.cons (.par [2, 3] [false, false] (.cons false (.bin .add (.var 2) (.sl (.var 3) .no (.so (.var 4)))) (.cons false (.bin .add (.sl (.var 3) (.so (.var 4)) .no) (.sl (.var 3) .no (.so (.var 4)))) .nil)))
    .nil))
    .nil)
def ot3 : S := (.ret (.tup (.cons false (.bin .mul (.var 1) (.bin .add (.int 1) (.call "_law_pick" (.cons false (.var 0) (.cons false (.int 2) .nil))))) (.cons false (.var 2) (.cons false (.bin .mul (.var 3) (.bin .add (.int 1) (.call "_law_pick" (.cons false (.var 0) (.cons false (.int 3) .nil))))) .nil)))))
theorem ot_eq : Lu.b__law_other_telling = .cons ot1 (.cons ot2 (.cons ot3 .nil)) := rfl
theorem ot1_ok (hp : T "_law_pick" = some Lw.f__law_pick) {l m r : List Nat} (hl : Wd l) (hm : Wd m) (ll : l.length ≤ 20) (lm : m.length ≤ 20) (k : Nat) (s : Src) (hs : s.Ok) (rest : AH) : EV.W (ex GG (callN GG T (k + 1)) ot1 [.val (.ref 1), .val (wD l), .val (wD m), .val (wD r), .no] (s.h rest)) fun o => ∃ (l' m' : List Nat) (s' : Src) (x : Slot), s'.Ok ∧ Tel l m r l' m' r ∧ Wd l' ∧ Wd m' ∧ l'.length = l.length ∧ m'.length ≤ m.length + l.length ∧ o = .nx [.val (.ref 1), .val (wD l'), .val (wD m'), .val (wD r), x] (s'.h rest) := by
  have z := eq_w0 l
  by_cases l0 : l = []
  · rw [decide_eq_true l0] at z
    simp [ot1, z]
    exact ⟨l, m, s, hs, Tel.refl _ _ _, hl, hm, rfl, by omega, by simp⟩
  · rw [decide_eq_false l0] at z
    have lp := List.length_pos_iff.mpr l0
    simp [ot1, z]
    refine Wk.of (pick_w hp k s hs rest 2 (by omega) (by omega)) ?_
    rintro ⟨d, h⟩ ⟨c, s1, hs1, hc, rfl, rfl⟩
    by_cases c0 : c = 0
    · have ln := fun h => len_wD l h
      simp [c0, ln]
      refine Wk.of (pick_w hp k s1 hs1 rest l.length (by omega) (by omega)) ?_
      rintro ⟨d, h⟩ ⟨i, s2, hs2, hi, rfl, rfl⟩
      obtain ⟨n, hn⟩ : ∃ n : Nat, (l.length : Int) - (1 + (i : Int)) = (n : Int) := ⟨l.length - (1 + i), by omega⟩
      have a1 := sl_from l n
      have a2 := sl_take l n
      have a3 := cat_wD (l.drop n) (l.take n) (by simp; omega)
      have a4 := cat_wD (l.drop n) m (by simp; omega)
      have tt := Tel.lrot (l.take n) (l.drop n) m r (by rw [List.take_append_drop]; exact l0)
      rw [List.take_append_drop] at tt
      have w1 := (hl.drop n).app (hl.take n)
      have w2 := (hl.drop n).app hm
      have n1 : (l.drop n ++ l.take n).length = l.length := by simp; omega
      have n2 : (l.drop n ++ m).length ≤ m.length + l.length := by simp; omega
      generalize l.drop n ++ l.take n = X at *
      generalize l.drop n ++ m = Y at *
      generalize l.drop n = X1 at *
      generalize l.take n = X2 at *
      simp [ln, hn, a1, a2, a3, a4]
      exact ⟨X, Y, s2, hs2, tt, w1, w2, n1, n2, by simp⟩
    · have c1 : c = 1 := by omega
      subst c1
      simp
      exact ⟨l, m, s1, hs1, Tel.refl _ _ _, hl, hm, rfl, by omega, by simp⟩
theorem ot2_ok (hp : T "_law_pick" = some Lw.f__law_pick) {l m r : List Nat} (hm : Wd m) (hr : Wd r) (lr : r.length ≤ 20) (lm : m.length ≤ 40) (k : Nat) (s : Src) (hs : s.Ok) (rest : AH) (y : Slot) : EV.W (ex GG (callN GG T (k + 1)) ot2 [.val (.ref 1), .val (wD l), .val (wD m), .val (wD r), y] (s.h rest)) fun o => ∃ (m' r' : List Nat) (s' : Src) (x : Slot), s'.Ok ∧ Tel l m r l m' r' ∧ Wd m' ∧ Wd r' ∧ r'.length = r.length ∧ m'.length ≤ m.length + r.length ∧ o = .nx [.val (.ref 1), .val (wD l), .val (wD m'), .val (wD r'), x] (s'.h rest) := by
  have z := eq_w0 r
  by_cases r0 : r = []
  · rw [decide_eq_true r0] at z
    simp [ot2, z]
    exact ⟨m, r, s, hs, Tel.refl _ _ _, hm, hr, rfl, by omega, by simp⟩
  · rw [decide_eq_false r0] at z
    have lp := List.length_pos_iff.mpr r0
    simp [ot2, z]
    refine Wk.of (pick_w hp k s hs rest 2 (by omega) (by omega)) ?_
    rintro ⟨d, h⟩ ⟨c, s1, hs1, hc, rfl, rfl⟩
    by_cases c0 : c = 0
    · have ln := fun h => len_wD r h
      simp [c0, ln]
      refine Wk.of (pick_w hp k s1 hs1 rest r.length (by omega) (by omega)) ?_
      rintro ⟨d, h⟩ ⟨i, s2, hs2, hi, rfl, rfl⟩
      have a1 : slD (wD r) (some (1 + (i : Int))) none = .ok (wD (r.drop (i + 1))) := by rw [one_cast]; exact sl_from r (i + 1)
      have a2 : slD (wD r) none (some (1 + (i : Int))) = .ok (wD (r.take (i + 1))) := by rw [one_cast]; exact sl_take r (i + 1)
      have a3 := cat_wD (r.drop (i + 1)) (r.take (i + 1)) (by simp; omega)
      have a4 := cat_wD m (r.take (i + 1)) (by simp; omega)
      have tt := Tel.rrot (r.take (i + 1)) (r.drop (i + 1)) m l (by rw [List.take_append_drop]; exact r0)
      rw [List.take_append_drop] at tt
      have w1 := (hr.drop (i + 1)).app (hr.take (i + 1))
      have w2 := hm.app (hr.take (i + 1))
      have n1 : (r.drop (i + 1) ++ r.take (i + 1)).length = r.length := by simp; omega
      have n2 : (m ++ r.take (i + 1)).length ≤ m.length + r.length := by simp; omega
      generalize r.drop (i + 1) ++ r.take (i + 1) = X at *
      generalize m ++ r.take (i + 1) = Y at *
      generalize r.drop (i + 1) = X1 at *
      generalize r.take (i + 1) = X2 at *
      simp [a1, a2, a3, a4]
      exact ⟨Y, X, s2, hs2, tt, w2, w1, n1, n2, by simp⟩
    · have c1 : c = 1 := by omega
      subst c1
      simp
      exact ⟨m, r, s1, hs1, Tel.refl _ _ _, hm, hr, rfl, by omega, by simp⟩
def OtQ (l m r : List Nat) (rest : AH) (z : D × AH) : Prop := ∃ (l' m' r' : List Nat) (s' : Src), s'.Ok ∧ Tel l m r l' m' r' ∧ Wd l' ∧ Wd m' ∧ Wd r' ∧ l'.length ≤ 100 ∧ m'.length ≤ 60 ∧ r'.length ≤ 100 ∧ z = (.tup [wD l', wD m', wD r'], s'.h rest)
theorem other_ok (hp : T "_law_pick" = some Lw.f__law_pick) (h1 : T "_law_other_telling" = some Lu.f__law_other_telling) {l m r : List Nat} (hl : Wd l) (hm : Wd m) (hr : Wd r) (ll : l.length ≤ 20) (lm : m.length ≤ 20) (lr : r.length ≤ 20) (k : Nat) (hk : 1 ≤ k) (s : Src) (hs : s.Ok) (rest : AH) : EV.W (callN GG T (k + 1) "_law_other_telling" [.ref 1, wD l, wD m, wD r] (s.h rest)) (OtQ l m r rest) := by
  rw [callN_eq h1 rfl]
  obtain ⟨k, rfl⟩ : ∃ j, k = j + 1 := ⟨k - 1, by omega⟩
  simp [Lu.f__law_other_telling, ot_eq]
  refine Wk.of (ot1_ok (GG := GG) hp hl hm ll lm k s hs rest) ?_
  rintro _ ⟨l', m', s1, x, hs1, t1, wl, wm, n1, n2, rfl⟩
  simp
  refine Wk.of (ot2_ok (GG := GG) hp wm hr lr (by omega) k s1 hs1 rest x) ?_
  rintro _ ⟨m2, r', s2, x2, hs2, t2, wm2, wr, n3, n4, rfl⟩
  simp [ot3]
  refine Wk.of (pick_w hp k s2 hs2 rest 2 (by omega) (by omega)) ?_
  rintro ⟨d, h⟩ ⟨i, s3, hs3, hi, rfl, rfl⟩
  have m1 : binD .mul (wD l') (.int (1 + (i : Int))) = .ok (wD (repw l' (i + 1))) := by
    rw [one_cast]
    exact mul_wD (by omega) (by omega) (by omega)
  simp [m1]
  refine Wk.of (pick_w hp k s3 hs3 rest 3 (by omega) (by omega)) ?_
  rintro ⟨d, h⟩ ⟨j, s4, hs4, hj, rfl, rfl⟩
  have m2' : binD .mul (wD r') (.int (1 + (j : Int))) = .ok (wD (repw r' (j + 1))) := by
    rw [one_cast]
    exact mul_wD (by omega) (by omega) (by omega)
  simp [m2']
  have b1 : (i + 1) * l'.length ≤ 2 * 20 := Nat.mul_le_mul (by omega) (by omega)
  have b2 : (j + 1) * r'.length ≤ 3 * 20 := Nat.mul_le_mul (by omega) (by omega)
  exact ⟨repw l' (i + 1), m2, repw r' (j + 1), s4, hs4, t1.trans (t2.trans (Tel.pws _ _ _ (by omega) (by omega))), wl.repw _, wm2, wr.repw _, by rw [pw_len]; omega, by omega, by rw [pw_len]; omega, rfl⟩
end
end EV
set_option maxRecDepth 100000
namespace K61
open PySem EV
def pw : Program := PySem.Challenge.pw_everrows_k61_lumps_in_one_form
def top (i : Nat) : Stmt := pw.main.body.getD i (.Pass ⟨0, 0, 0, 0⟩)
def b_word_text : Ss :=
    (.cons (.ret (.join (.str " ") (.comp (.call "letter_text" (.cons false (.var 1) .nil)) (.name 1) (.val (.var 0)) .nil [1])))
    .nil)
def f_word_text : Fn := ⟨1, 2, b_word_text⟩
def d_word_text : DefS := ⟨"word_text", top 1, ["word", "letter"], f_word_text⟩
def b_letter_text : Ss :=
    (.cons (.ite (.tru (.isi (.var 0) ["str"]))
    (.cons (.ret (.var 0))
    .nil)
    .nil)
    (.cons (.ite (.cmp .eq (.ix (.var 0) (.int 0)) (.str "mixture"))
    (.cons (.ret (.bin .add (.bin .add (.str "[") (.join (.str ", ") (.comp (.call "letter_text" (.cons false (.var 1) .nil)) (.name 1) (.val (.ix (.var 0) (.int 1))) .nil [1]))) (.str "]")))
    .nil)
    .nil)
    (.cons (.sett [2, 3, 4] (.sl (.var 0) (.so (.int 1)) .no))
    (.cons (.set 5 false (.bin .add (.bin .mul (.lst (.cons false (.fstr (.cons false (.str "<(") (.cons true (.call "word_text" (.cons false (.var 2) .nil)) (.cons false (.str ")") .nil)))) .nil)) (.blt "int" (.cons false (.cmp .ne (.var 2) (.tup .nil)) .nil))) (.comp (.call "letter_text" (.cons false (.var 1) .nil)) (.name 1) (.val (.var 3)) .nil [1])))
    (.cons (.ret (.bin .add (.bin .add (.str "{") (.join (.str " ") (.bin .add (.var 5) (.bin .mul (.lst (.cons false (.fstr (.cons false (.str "(") (.cons true (.call "word_text" (.cons false (.var 4) .nil)) (.cons false (.str ")>") .nil)))) .nil)) (.blt "int" (.cons false (.cmp .ne (.var 4) (.tup .nil)) .nil)))))) (.str "}")))
    .nil)))))
def f_letter_text : Fn := ⟨1, 6, b_letter_text⟩
def d_letter_text : DefS := ⟨"letter_text", top 2, ["letter", "one", "left", "middle", "right", "parts"], f_letter_text⟩
def b_root : Ss :=
    (.cons (.set 1 false (.comp (.var 2) (.name 2) (.rng2 (.int 1) (.bin .add (.blt "len" (.cons false (.var 0) .nil)) (.int 1))) (.cons (.cmp .eq (.bin .mod (.blt "len" (.cons false (.var 0) .nil)) (.var 2)) (.int 0)) .nil) [2]))
    (.cons (.ret (.ix (.comp (.sl (.var 0) .no (.so (.var 2))) (.name 2) (.val (.var 1)) (.cons (.cmp .eq (.bin .mul (.sl (.var 0) .no (.so (.var 2))) (.bin .fdiv (.blt "len" (.cons false (.var 0) .nil)) (.var 2))) (.var 0)) .nil) [2]) (.int 0)))
    .nil))
def f_root : Fn := ⟨1, 3, b_root⟩
def d_root : DefS := ⟨"root", top 3, ["word", "sizes", "size"], f_root⟩
def b_turned_on : Ss :=
    (.cons (.ret (.tup (.cons false (.ix (.var 0) (.neg (.int 1))) (.cons true (.sl (.var 0) .no (.so (.neg (.int 1)))) .nil))))
    .nil)
def f_turned_on : Fn := ⟨1, 1, b_turned_on⟩
def d_turned_on : DefS := ⟨"turned_on", top 4, ["word"], f_turned_on⟩
def b_right_form : Ss :=
    (.cons (.par [2, 3] [false, false] (.cons false (.var 0) (.cons false (.call "root" (.cons false (.var 1) .nil)) .nil)))
    (.cons (.while_ (.and (.cons (.cmp .ne (.var 2) (.tup .nil)) (.cons (.cmp .eq (.ix (.var 2) (.neg (.int 1))) (.ix (.var 3) (.neg (.int 1)))) .nil)))
    (.cons (.par [2, 3] [false, false] (.cons false (.sl (.var 2) .no (.so (.neg (.int 1)))) (.cons false (.call "turned_on" (.cons false (.var 3) .nil)) .nil)))
    .nil) [])
    (.cons (.ret (.tup (.cons false (.var 2) (.cons false (.var 3) .nil))))
    .nil)))
def f_right_form : Fn := ⟨2, 4, b_right_form⟩
def d_right_form : DefS := ⟨"right_form", top 5, ["middle", "right", "rest", "endless"], f_right_form⟩
def b_left_form : Ss :=
    (.cons (.par [2, 3] [false, false] (.cons false (.call "root" (.cons false (.var 0) .nil)) (.cons false (.var 1) .nil)))
    (.cons (.while_ (.and (.cons (.cmp .ne (.var 3) (.tup .nil)) (.cons (.cmp .eq (.ix (.var 3) (.int 0)) (.ix (.var 2) (.int 0))) .nil)))
    (.cons (.par [2, 3] [false, false] (.cons false (.tup (.cons true (.sl (.var 2) (.so (.int 1)) .no) (.cons false (.ix (.var 2) (.int 0)) .nil))) (.cons false (.sl (.var 3) (.so (.int 1)) .no) .nil)))
    .nil) [])
    (.cons (.ret (.tup (.cons false (.var 2) (.cons false (.var 3) .nil))))
    .nil)))
def f_left_form : Fn := ⟨2, 4, b_left_form⟩
def d_left_form : DefS := ⟨"left_form", top 6, ["left", "middle", "endless", "rest"], f_left_form⟩
def b_least_turn : Ss :=
    (.cons (.set 1 false (.comp (.bin .add (.sl (.var 0) (.so (.var 2)) .no) (.sl (.var 0) .no (.so (.var 2)))) (.name 2) (.rng1 (.blt "len" (.cons false (.var 0) .nil))) .nil [2]))
    (.cons (.set 3 false (.comp (.call "word_text" (.cons false (.var 4) .nil)) (.name 4) (.val (.var 1)) .nil [4]))
    (.cons (.ret (.ix (.var 1) (.idx (.var 3) (.blt "min" (.cons false (.var 3) .nil)))))
    .nil)))
def f_least_turn : Fn := ⟨1, 5, b_least_turn⟩
def d_least_turn : DefS := ⟨"least_turn", top 7, ["word", "turns", "k", "texts", "turn"], f_least_turn⟩
def b_double_form : Ss :=
    (.cons (.sett [3, 4] (.call "right_form" (.cons false (.var 1) (.cons false (.var 2) .nil))))
    (.cons (.ite (.cmp .ne (.var 3) (.tup .nil))
    (.cons (.ret (.tup (.cons false (.str "lump") (.cons true (.call "left_form" (.cons false (.var 0) (.cons false (.var 3) .nil))) (.cons false (.var 4) .nil)))))
    .nil)
    .nil)
    (.cons (.set 5 false (.call "root" (.cons false (.var 0) .nil)))
    (.cons (.for_ (.name 6) (.rng1 (.bin .add (.blt "len" (.cons false (.var 5) .nil)) (.blt "len" (.cons false (.var 4) .nil))))
    (.cons (.ite (.cmp .ne (.ix (.var 5) (.neg (.int 1))) (.ix (.var 4) (.neg (.int 1))))
    (.cons (.ret (.tup (.cons false (.str "lump") (.cons false (.var 5) (.cons false (.tup .nil) (.cons false (.var 4) .nil))))))
    .nil)
    .nil)
    (.cons (.par [5, 4] [false, false] (.cons false (.call "turned_on" (.cons false (.var 5) .nil)) (.cons false (.call "turned_on" (.cons false (.var 4) .nil)) .nil)))
    .nil)) [6])
    (.cons (.ret (.tup (.cons false (.str "lump") (.cons false (.call "least_turn" (.cons false (.var 4) .nil)) (.cons false (.tup .nil) (.cons false (.call "least_turn" (.cons false (.var 4) .nil)) .nil))))))
    .nil)))))
def f_double_form : Fn := ⟨3, 7, b_double_form⟩
def d_double_form : DefS := ⟨"double_form", top 8, ["left", "middle", "right", "rest", "endless", "ahead", "lap"], f_double_form⟩
def b_lump_of : Ss :=
    (.cons (.ite (.and (.cons (.cmp .ne (.var 0) (.tup .nil)) (.cons (.cmp .ne (.var 2) (.tup .nil)) .nil)))
    (.cons (.ret (.call "double_form" (.cons false (.var 0) (.cons false (.var 1) (.cons false (.var 2) .nil)))))
    .nil)
    .nil)
    (.cons (.ite (.cmp .ne (.var 0) (.tup .nil))
    (.cons (.ret (.tup (.cons false (.str "lump") (.cons true (.call "left_form" (.cons false (.var 0) (.cons false (.var 1) .nil))) (.cons false (.tup .nil) .nil)))))
    .nil)
    .nil)
    (.cons (.ite (.cmp .ne (.var 2) (.tup .nil))
    (.cons (.ret (.tup (.cons false (.str "lump") (.cons false (.tup .nil) (.cons true (.call "right_form" (.cons false (.var 1) (.cons false (.var 2) .nil))) .nil)))))
    .nil)
    .nil)
    (.cons (.ret (.ite (.cmp .eq (.blt "len" (.cons false (.var 1) .nil)) (.int 1)) (.ix (.var 1) (.int 0)) (.tup (.cons false (.str "lump") (.cons false (.tup .nil) (.cons false (.var 1) (.cons false (.tup .nil) .nil)))))))
    .nil))))
def f_lump_of : Fn := ⟨3, 3, b_lump_of⟩
def d_lump_of : DefS := ⟨"lump_of", top 9, ["left", "middle", "right"], f_lump_of⟩
def b__law_open_cells : Ss :=
    (.cons (.set 1 false (.int 11))
    (.cons (.for_ (.name 2) (.val (.var 0))
    (.cons (.set 1 false (.bin .mod (.blt "int" (.cons false (.bin .add (.bin .add (.bin .mul (.var 1) (.int 69069)) (.bin .mul (.var 2) (.int 31))) (.int 5)) .nil)) (.int 2147483629)))
    .nil) [2])
    (.cons (.set 3 false (.comp (.blt "abs" (.cons false (.var 2) .nil)) (.name 2) (.val (.var 0)) .nil [2]))
    (.cons (.ret (.newd (.cons "cells" true (.rev (.var 3)) (.cons "left" false (.int 1) (.cons "mixed" false (.var 1) (.cons "turn" false (.int 0) .nil))))))
    .nil))))
def f__law_open_cells : Fn := ⟨1, 4, b__law_open_cells⟩
def d__law_open_cells : DefS := ⟨"_law_open_cells", top 11, ["_law_script", "_law_stirred", "_law_cell", "_law_cells"], f__law_open_cells⟩
def b__law_pick : Ss :=
    (.cons (.ite (.cmp .lt (.var 1) (.int 2))
    (.cons (.ret (.int 0))
    .nil)
    .nil)
    (.cons (.set 2 false (.ix (.var 0) (.str "cells")))
    (.cons (.while_ (.and (.cons (.cmp .lt (.ix (.var 0) (.str "left")) (.int 2)) (.cons (.cmp .gt (.blt "len" (.cons false (.var 2) .nil)) (.int 0)) .nil)))
    (.cons (.setsub 0 (.str "left") (.pop0 2))
    .nil) [])
    (.cons (.set 3 false (.ix (.var 0) (.str "left")))
    (.cons (.ite (.cmp .gt (.var 3) (.int 1))
    (.cons (.setsub 0 (.str "left") (.bin .fdiv (.var 3) (.var 1)))
    (.cons (.ret (.bin .mod (.blt "int" (.cons false (.var 3) .nil)) (.var 1)))
    .nil))
    .nil)
    (.cons (.setsub 0 (.str "turn") (.bin .add (.ix (.var 0) (.str "turn")) (.int 1)))
    (.cons (.set 4 false (.ix (.var 0) (.str "turn")))
    (.cons (.set 5 false (.bin .mod (.blt "int" (.cons false (.bin .add (.ix (.var 0) (.str "mixed")) (.bin .mul (.var 4) (.int 104729))) .nil)) (.int 998244353)))
    (.cons (.set 5 false (.bin .mod (.blt "int" (.cons false (.bin .add (.bin .mul (.var 5) (.var 5)) (.bin .mul (.var 4) (.int 17))) .nil)) (.int 2147483647)))
    (.cons (.ret (.bin .mod (.blt "int" (.cons false (.bin .fdiv (.var 5) (.int 16)) .nil)) (.var 1)))
    .nil))))))))))
def f__law_pick : Fn := ⟨2, 6, b__law_pick⟩
def d__law_pick : DefS := ⟨"_law_pick", top 12, ["_law_source", "_law_most", "_law_cells", "_law_others", "_law_lap", "_law_stirred"], f__law_pick⟩
def b__law_word_text : Ss :=
    (.cons (.ret (.join (.str " ") (.comp (.call "_law_text" (.cons false (.var 1) .nil)) (.name 1) (.val (.var 0)) .nil [1])))
    .nil)
def f__law_word_text : Fn := ⟨1, 2, b__law_word_text⟩
def d__law_word_text : DefS := ⟨"_law_word_text", top 13, ["_law_word", "_law_one"], f__law_word_text⟩
def b__law_text : Ss :=
    (.cons (.ite (.tru (.isi (.var 0) ["str"]))
    (.cons (.ret (.var 0))
    .nil)
    .nil)
    (.cons (.ite (.cmp .eq (.ix (.var 0) (.int 0)) (.str "mixture"))
    (.cons (.ret (.bin .add (.bin .add (.str "[") (.join (.str ", ") (.comp (.call "_law_text" (.cons false (.var 1) .nil)) (.name 1) (.val (.ix (.var 0) (.int 1))) .nil [1]))) (.str "]")))
    .nil)
    .nil)
    (.cons (.set 2 false (.bin .mul (.lst (.cons false (.bin .add (.bin .add (.str "<(") (.call "_law_word_text" (.cons false (.ix (.var 0) (.int 1)) .nil))) (.str ")")) .nil)) (.blt "int" (.cons false (.cmp .ne (.ix (.var 0) (.int 1)) (.tup .nil)) .nil))))
    (.cons (.set 3 false (.bin .mul (.lst (.cons false (.bin .add (.bin .add (.str "(") (.call "_law_word_text" (.cons false (.ix (.var 0) (.int 3)) .nil))) (.str ")>")) .nil)) (.blt "int" (.cons false (.cmp .ne (.ix (.var 0) (.int 3)) (.tup .nil)) .nil))))
    (.cons (.ret (.bin .add (.bin .add (.str "{") (.join (.str " ") (.bin .add (.bin .add (.var 2) (.comp (.call "_law_text" (.cons false (.var 1) .nil)) (.name 1) (.val (.ix (.var 0) (.int 2))) .nil [1])) (.var 3)))) (.str "}")))
    .nil)))))
def f__law_text : Fn := ⟨1, 4, b__law_text⟩
def d__law_text : DefS := ⟨"_law_text", top 14, ["_law_letter", "_law_one", "_law_left", "_law_right"], f__law_text⟩
def b__law_root : Ss :=
    (.cons (.for_ (.name 1) (.rng2 (.int 1) (.blt "len" (.cons false (.var 0) .nil)))
    (.cons (.ite (.cmp .eq (.bin .mul (.sl (.var 0) .no (.so (.var 1))) (.bin .fdiv (.blt "len" (.cons false (.var 0) .nil)) (.var 1))) (.var 0))
    (.cons (.ret (.sl (.var 0) .no (.so (.var 1))))
    .nil)
    .nil)
    .nil) [1])
    (.cons (.ret (.var 0))
    .nil))
def f__law_root : Fn := ⟨1, 2, b__law_root⟩
def d__law_root : DefS := ⟨"_law_root", top 15, ["_law_word", "_law_size"], f__law_root⟩
def b__law_right_form : Ss :=
    (.cons (.set 1 false (.call "_law_root" (.cons false (.var 1) .nil)))
    (.cons (.par [2, 3] [false, false] (.cons false (.bin .add (.var 0) (.var 1)) (.cons false (.blt "len" (.cons false (.var 0) .nil)) .nil)))
    (.cons (.while_ (.and (.cons (.cmp .gt (.var 3) (.int 0)) (.cons (.cmp .eq (.ix (.var 2) (.bin .sub (.var 3) (.int 1))) (.ix (.var 2) (.bin .add (.bin .sub (.var 3) (.int 1)) (.blt "len" (.cons false (.var 1) .nil))))) .nil)))
    (.cons (.set 3 false (.bin .sub (.var 3) (.int 1)))
    .nil) [])
    (.cons (.ret (.tup (.cons false (.sl (.var 2) .no (.so (.var 3))) (.cons false (.sl (.var 2) (.so (.var 3)) (.so (.bin .add (.var 3) (.blt "len" (.cons false (.var 1) .nil))))) .nil))))
    .nil))))
def f__law_right_form : Fn := ⟨2, 4, b__law_right_form⟩
def d__law_right_form : DefS := ⟨"_law_right_form", top 16, ["_law_word", "_law_turn", "_law_told", "_law_i"], f__law_right_form⟩
def b__law_left_form : Ss :=
    (.cons (.sett [2, 3] (.call "_law_right_form" (.cons false (.rev (.var 1)) (.cons false (.rev (.var 0)) .nil))))
    (.cons (.ret (.tup (.cons false (.rev (.var 3)) (.cons false (.rev (.var 2)) .nil))))
    .nil))
def f__law_left_form : Fn := ⟨2, 4, b__law_left_form⟩
def d__law_left_form : DefS := ⟨"_law_left_form", top 17, ["_law_turn", "_law_word", "_law_rest", "_law_endless"], f__law_left_form⟩
def b__law_lump : Ss :=
    (.cons (.ite (.and (.cons (.cmp .eq (.var 0) (.tup .nil)) (.cons (.cmp .eq (.var 2) (.tup .nil)) .nil)))
    (.cons (.ret (.ite (.cmp .eq (.blt "len" (.cons false (.var 1) .nil)) (.int 1)) (.ix (.var 1) (.int 0)) (.tup (.cons false (.str "lump") (.cons false (.tup .nil) (.cons false (.var 1) (.cons false (.tup .nil) .nil)))))))
    .nil)
    .nil)
    (.cons (.ite (.or (.cons (.cmp .eq (.var 0) (.tup .nil)) (.cons (.cmp .eq (.var 2) (.tup .nil)) .nil)))
    (.cons (.set 3 false (.ite (.cmp .eq (.var 2) (.tup .nil)) (.call "_law_left_form" (.cons false (.var 0) (.cons false (.var 1) .nil))) (.call "_law_right_form" (.cons false (.var 1) (.cons false (.var 2) .nil)))))
    (.cons (.ret (.ite (.cmp .eq (.var 2) (.tup .nil)) (.bin .add (.bin .add (.tup (.cons false (.str "lump") .nil)) (.var 3)) (.tup (.cons false (.tup .nil) .nil))) (.bin .add (.tup (.cons false (.str "lump") (.cons false (.tup .nil) .nil))) (.var 3))))
    .nil))
    .nil)
    (.cons (.sett [1, 2] (.call "_law_right_form" (.cons false (.var 1) (.cons false (.var 2) .nil))))
    (.cons (.ite (.cmp .ne (.var 1) (.tup .nil))
    (.cons (.ret (.bin .add (.bin .add (.tup (.cons false (.str "lump") .nil)) (.call "_law_left_form" (.cons false (.var 0) (.cons false (.var 1) .nil)))) (.tup (.cons false (.var 2) .nil))))
    .nil)
    .nil)
    (.cons (.set 0 false (.call "_law_root" (.cons false (.var 0) .nil)))
    (.cons (.set 4 false (.bin .mul (.var 0) (.bin .add (.bin .add (.blt "len" (.cons false (.var 0) .nil)) (.blt "len" (.cons false (.var 2) .nil))) (.int 1))))
    (.cons (.par [5, 6] [false, false] (.cons false (.bin .add (.var 4) (.var 2)) (.cons false (.blt "len" (.cons false (.var 4) .nil)) .nil)))
    (.cons (.while_ (.and (.cons (.cmp .gt (.var 6) (.int 0)) (.cons (.cmp .eq (.ix (.var 5) (.bin .sub (.var 6) (.int 1))) (.ix (.var 5) (.bin .add (.bin .sub (.var 6) (.int 1)) (.blt "len" (.cons false (.var 2) .nil))))) .nil)))
    (.cons (.set 6 false (.bin .sub (.var 6) (.int 1)))
    .nil) [])
    (.cons (.ite (.cmp .gt (.var 6) (.int 0))
    (.cons (.ret (.bin .add (.bin .add (.tup (.cons false (.str "lump") .nil)) (.call "_law_left_form" (.cons false (.var 0) (.cons false (.sl (.var 5) .no (.so (.var 6))) .nil)))) (.tup (.cons false (.sl (.var 5) (.so (.var 6)) (.so (.bin .add (.var 6) (.blt "len" (.cons false (.var 2) .nil))))) .nil))))
    .nil)
    .nil)
    (.cons (.set 7 false (.comp (.bin .add (.sl (.var 2) (.so (.var 8)) .no) (.sl (.var 2) .no (.so (.var 8)))) (.name 8) (.rng1 (.blt "len" (.cons false (.var 2) .nil))) .nil [8]))
    (.cons (.set 9 false (.comp (.call "_law_word_text" (.cons false (.var 10) .nil)) (.name 10) (.val (.var 7)) .nil [10]))
    (.cons (.ret (.tup (.cons false (.str "lump") (.cons false (.ix (.var 7) (.idx (.var 9) (.blt "min" (.cons false (.var 9) .nil)))) (.cons false (.tup .nil) (.cons false (.ix (.var 7) (.idx (.var 9) (.blt "min" (.cons false (.var 9) .nil)))) .nil))))))
    .nil))))))))))))
def f__law_lump : Fn := ⟨3, 11, b__law_lump⟩
def d__law_lump : DefS := ⟨"_law_lump", top 18, ["_law_left", "_law_middle", "_law_right", "_law_ends", "_law_told", "_law_whole", "_law_i", "_law_turns", "_law_k", "_law_texts", "_law_turn"], f__law_lump⟩
def b__law_draw_letters : Ss :=
    (.cons (.set 2 false (.lst (.cons false (.str "a") (.cons false (.str "b") (.cons false (.str "a") (.cons false (.str "b") (.cons false (.str "a") (.cons false (.tup (.cons false (.str "mixture") (.cons false (.tup (.cons false (.str "a") .nil)) .nil))) (.cons false (.tup (.cons false (.str "lump") (.cons false (.tup .nil) (.cons false (.tup (.cons false (.str "a") .nil)) (.cons false (.tup (.cons false (.str "b") .nil)) .nil))))) (.cons false (.tup (.cons false (.str "lump") (.cons false (.tup .nil) (.cons false (.tup (.cons false (.str "b") (.cons false (.str "a") .nil))) (.cons false (.tup .nil) .nil))))) .nil))))))))))
    (.cons (.ret (.blt "tuple" (.cons false (.comp (.ix (.var 2) (.call "_law_pick" (.cons false (.var 0) (.cons false (.int 8) .nil)))) (.name 3) (.rng1 (.call "_law_pick" (.cons false (.var 0) (.cons false (.bin .add (.var 1) (.int 1)) .nil)))) .nil [3]) .nil)))
    .nil))
def f__law_draw_letters : Fn := ⟨2, 4, b__law_draw_letters⟩
def d__law_draw_letters : DefS := ⟨"_law_draw_letters", top 19, ["_law_source", "_law_most", "_law_some", "_law_lap"], f__law_draw_letters⟩
def b__law_other_telling : Ss :=
    (.cons (.ite (.and (.cons (.cmp .ne (.var 1) (.tup .nil)) (.cons (.cmp .eq (.call "_law_pick" (.cons false (.var 0) (.cons false (.int 2) .nil))) (.int 0)) .nil)))
    (.cons (.set 4 false (.bin .add (.int 1) (.call "_law_pick" (.cons false (.var 0) (.cons false (.blt "len" (.cons false (.var 1) .nil)) .nil)))))
    (.cons (.par [1, 2] [false, false] (.cons false (.bin .add (.sl (.var 1) (.so (.bin .sub (.blt "len" (.cons false (.var 1) .nil)) (.var 4))) .no) (.sl (.var 1) .no (.so (.bin .sub (.blt "len" (.cons false (.var 1) .nil)) (.var 4))))) (.cons false (.bin .add (.sl (.var 1) (.so (.bin .sub (.blt "len" (.cons false (.var 1) .nil)) (.var 4))) .no) (.var 2)) .nil)))
    .nil))
    .nil)
    (.cons (.ite (.and (.cons (.cmp .ne (.var 3) (.tup .nil)) (.cons (.cmp .eq (.call "_law_pick" (.cons false (.var 0) (.cons false (.int 2) .nil))) (.int 0)) .nil)))
    (.cons (.set 4 false (.bin .add (.int 1) (.call "_law_pick" (.cons false (.var 0) (.cons false (.blt "len" (.cons false (.var 3) .nil)) .nil)))))
    (.cons (.par [2, 3] [false, false] (.cons false (.bin .add (.var 2) (.sl (.var 3) .no (.so (.var 4)))) (.cons false (.bin .add (.sl (.var 3) (.so (.var 4)) .no) (.sl (.var 3) .no (.so (.var 4)))) .nil)))
    .nil))
    .nil)
    (.cons (.ret (.tup (.cons false (.bin .mul (.var 1) (.bin .add (.int 1) (.call "_law_pick" (.cons false (.var 0) (.cons false (.int 2) .nil))))) (.cons false (.var 2) (.cons false (.bin .mul (.var 3) (.bin .add (.int 1) (.call "_law_pick" (.cons false (.var 0) (.cons false (.int 3) .nil))))) .nil)))))
    .nil)))
def f__law_other_telling : Fn := ⟨4, 5, b__law_other_telling⟩
def d__law_other_telling : DefS := ⟨"_law_other_telling", top 20, ["_law_source", "_law_left", "_law_middle", "_law_right", "_law_k"], f__law_other_telling⟩
def b__law_roots_right : Ss :=
    (.cons (.set 1 false (.bin .add (.tup (.cons false (.str "a") .nil)) (.call "_law_draw_letters" (.cons false (.var 0) (.cons false (.int 3) .nil)))))
    (.cons (.set 2 false (.bin .add (.int 1) (.call "_law_pick" (.cons false (.var 0) (.cons false (.int 4) .nil)))))
    (.cons (.for_ (.name 3) (.val (.tup (.cons false (.var 1) (.cons false (.bin .mul (.var 1) (.var 2)) (.cons false (.bin .add (.bin .mul (.var 1) (.var 2)) (.sl (.var 1) .no (.so (.int 1)))) .nil)))))
    (.cons (.ite (.cmp .ne (.call "root" (.cons false (.var 3) .nil)) (.call "_law_root" (.cons false (.var 3) .nil)))
    (.cons (.ret (.bl false))
    .nil)
    .nil)
    .nil) [3])
    (.cons (.ret (.bl true))
    .nil))))
def f__law_roots_right : Fn := ⟨1, 4, b__law_roots_right⟩
def d__law_roots_right : DefS := ⟨"_law_roots_right", top 21, ["_law_source", "_law_word", "_law_many", "_law_one"], f__law_roots_right⟩
def b_law : Ss :=
    (.cons (.set 1 false (.call "_law_open_cells" (.cons false (.var 0) .nil)))
    (.cons (.for_ (.name 2) (.rng1 (.int 8))
    (.cons (.set 3 false (.ix (.lst (.cons false (.int 3) (.cons false (.int 3) (.cons false (.int 5) .nil)))) (.call "_law_pick" (.cons false (.var 1) (.cons false (.int 3) .nil)))))
    (.cons (.sett [4, 5, 6] (.comp (.call "_law_draw_letters" (.cons false (.var 1) (.cons false (.var 3) .nil))) (.name 7) (.rng1 (.int 3)) .nil [7]))
    (.cons (.ite (.cmp .eq (.bin .add (.bin .add (.var 4) (.var 5)) (.var 6)) (.tup .nil))
    (.cons (.set 5 false (.tup (.cons false (.str "b") .nil)))
    .nil)
    .nil)
    (.cons (.set 8 false (.call "_law_lump" (.cons false (.var 4) (.cons false (.var 5) (.cons false (.var 6) .nil)))))
    (.cons (.ite (.or (.cons (.cmp .ne (.call "lump_of" (.cons false (.var 4) (.cons false (.var 5) (.cons false (.var 6) .nil)))) (.var 8)) (.cons (.not (.tru (.call "_law_roots_right" (.cons false (.var 1) .nil)))) .nil)))
    (.cons (.ret (.bl false))
    .nil)
    .nil)
    (.cons (.ite (.cmp .ne (.bin .add (.var 4) (.var 6)) (.tup .nil))
    (.cons (.sett [4, 5, 6] (.call "_law_other_telling" (.cons false (.var 1) (.cons false (.var 4) (.cons false (.var 5) (.cons false (.var 6) .nil))))))
    (.cons (.ite (.cmp .ne (.call "lump_of" (.cons false (.var 4) (.cons false (.var 5) (.cons false (.var 6) .nil)))) (.var 8))
    (.cons (.ret (.bl false))
    .nil)
    .nil)
    .nil))
    .nil)
    (.cons (.ite (.cmp .eq (.call "lump_of" (.cons false (.var 4) (.cons false (.bin .add (.var 5) (.tup (.cons false (.str "c") .nil))) (.cons false (.var 6) .nil)))) (.var 8))
    (.cons (.ret (.bl false))
    .nil)
    .nil)
    .nil))))))) [2, 3, 4, 5, 6, 8])
    (.cons (.set 9 false (.lst (.cons false (.call "lump_of" (.cons false (.tup .nil) (.cons false (.tup (.cons false (.str "a") (.cons false (.str "b") (.cons false (.str "b") .nil)))) (.cons false (.tup (.cons false (.str "a") (.cons false (.str "b") .nil))) .nil)))) (.cons false (.call "lump_of" (.cons false (.tup (.cons false (.str "b") (.cons false (.str "a") .nil))) (.cons false (.tup (.cons false (.str "b") .nil)) (.cons false (.tup (.cons false (.str "a") (.cons false (.str "b") .nil))) .nil)))) .nil))))
    (.cons (.ite (.cmp .ne (.var 9) (.lst (.cons false (.tup (.cons false (.str "lump") (.cons false (.tup .nil) (.cons false (.tup (.cons false (.str "a") (.cons false (.str "b") .nil))) (.cons false (.tup (.cons false (.str "b") (.cons false (.str "a") .nil))) .nil))))) (.cons false (.tup (.cons false (.str "lump") (.cons false (.tup (.cons false (.str "a") (.cons false (.str "b") .nil))) (.cons false (.tup .nil) (.cons false (.tup (.cons false (.str "a") (.cons false (.str "b") .nil))) .nil))))) .nil))))
    (.cons (.ret (.bl false))
    .nil)
    .nil)
    (.cons (.set 9 false (.lst (.cons false (.call "lump_of" (.cons false (.tup (.cons false (.str "a") .nil)) (.cons false (.tup (.cons false (.str "a") .nil)) (.cons false (.tup (.cons false (.str "a") (.cons false (.str "b") .nil))) .nil)))) (.cons false (.call "lump_of" (.cons false (.tup (.cons false (.str "a") (.cons false (.str "b") .nil))) (.cons false (.tup .nil) (.cons false (.tup (.cons false (.str "b") (.cons false (.str "a") .nil))) .nil)))) (.cons false (.call "lump_of" (.cons false (.tup .nil) (.cons false (.tup (.cons false (.str "c") .nil)) (.cons false (.tup .nil) .nil)))) .nil)))))
    (.cons (.ret (.cmp .eq (.var 9) (.lst (.cons false (.tup (.cons false (.str "lump") (.cons false (.tup (.cons false (.str "a") .nil)) (.cons false (.tup .nil) (.cons false (.tup (.cons false (.str "a") (.cons false (.str "b") .nil))) .nil))))) (.cons false (.tup (.cons false (.str "lump") (.cons false (.tup (.cons false (.str "a") (.cons false (.str "b") .nil))) (.cons false (.tup .nil) (.cons false (.tup (.cons false (.str "b") (.cons false (.str "a") .nil))) .nil))))) (.cons false (.str "c") .nil))))))
    .nil))))))
def f_law : Fn := ⟨1, 10, b_law⟩
def d_law : DefS := ⟨"law", top 22, ["_law_script", "_law_source", "_law_lap", "_law_most", "_law_left", "_law_middle", "_law_right", "_law_side", "_law_due", "_law_told"], f_law⟩
def defs : List DefS := [d_word_text, d_letter_text, d_root, d_turned_on, d_right_form, d_left_form, d_least_turn, d_double_form, d_lump_of, d__law_open_cells, d__law_pick, d__law_word_text, d__law_text, d__law_root, d__law_right_form, d__law_left_form, d__law_lump, d__law_draw_letters, d__law_other_telling, d__law_roots_right, d_law]
def NB : List String := ["abs", "int", "isinstance", "len", "min", "range", "str", "tuple"]
def gs : List (Str × D) := []
def GG : Glob := gloOf gs
def T : Tab := tabOf defs
theorem T_law : T "law" = some f_law := by rfl
end K61
set_option maxRecDepth 100000
namespace K61
open PySem EV L2
theorem hp : T "_law_pick" = some Lw.f__law_pick := rfl
theorem ho : T "_law_open_cells" = some Lw.f__law_open_cells := rfl
abbrev lev : Nat := 40

theorem tx0 (i : Nat) (hi : i < 6) (k : Nat) (h : AH) : callN GG T (k + 6) "letter_text" [lt i] h = .ok (.str (txS i), h) := by
  match i, hi with
  | 0, _ => kernel_rfl
  | 1, _ => kernel_rfl
  | 2, _ => kernel_rfl
  | 3, _ => kernel_rfl
  | 4, _ => kernel_rfl
  | 5, _ => kernel_rfl
  | n + 6, hi => omega
theorem tx1 (i : Nat) (hi : i < 6) (k : Nat) (h : AH) : callN GG T (k + 6) "_law_text" [lt i] h = .ok (.str (txS i), h) := by
  match i, hi with
  | 0, _ => kernel_rfl
  | 1, _ => kernel_rfl
  | 2, _ => kernel_rfl
  | 3, _ => kernel_rfl
  | 4, _ => kernel_rfl
  | 5, _ => kernel_rfl
  | n + 6, hi => omega
theorem hT : TLu T GG := ⟨rfl, rfl, rfl, rfl, rfl, rfl, rfl, rfl, rfl, rfl, rfl, rfl, rfl, tx0, tx1⟩
theorem eq_D {d : D} (h : OkD d) : eqD d d = .ok true := by rw [eqD_of h.nice h.nice h.dp h.dp, eqB_self h.nice]
theorem eq_D2 {d d' : D} (h : OkD d) (h' : OkD d') (ne : d ≠ d') : eqD d d' = .ok false := by rw [eqD_of h.nice h'.nice h.dp h'.dp, eqB_ne h.flat h'.flat ne]
def LapI (ns : List Int) (σ : EV.Env) (h : AH) : Prop := ∃ (s : Src), s.Ok ∧ σ = [.val (.scr ns), .val (.ref 1), .no, .no, .no, .no, .no, .no, .no, .no] ∧ h = s.h []
theorem w2 : W6 [2] := fun x hx => by simp at hx; omega
theorem f1 (h : AH) : callN GG T 39 "lump_of" [.tup [], .tup [.str "a", .str "b", .str "b"], .tup [.str "a", .str "b"]] h = .ok (.tup [.str "lump", .tup [], .tup [.str "a", .str "b"], .tup [.str "b", .str "a"]], h) := by kernel_rfl
theorem f2 (h : AH) : callN GG T 39 "lump_of" [.tup [.str "b", .str "a"], .tup [.str "b"], .tup [.str "a", .str "b"]] h = .ok (.tup [.str "lump", .tup [.str "a", .str "b"], .tup [], .tup [.str "a", .str "b"]], h) := by kernel_rfl
theorem f3 (h : AH) : callN GG T 39 "lump_of" [.tup [.str "a"], .tup [.str "a"], .tup [.str "a", .str "b"]] h = .ok (.tup [.str "lump", .tup [.str "a"], .tup [], .tup [.str "a", .str "b"]], h) := by kernel_rfl
theorem f4 (h : AH) : callN GG T 39 "lump_of" [.tup [.str "a", .str "b"], .tup [], .tup [.str "b", .str "a"]] h = .ok (.tup [.str "lump", .tup [.str "a", .str "b"], .tup [], .tup [.str "b", .str "a"]], h) := by kernel_rfl
theorem f5 (h : AH) : callN GG T 39 "lump_of" [.tup [], .tup [.str "c"], .tup []] h = .ok (.str "c", h) := by kernel_rfl
theorem main (ns : List Int) (hns : ns.length ≤ 63) : ∃ h', callN GG T lev "law" [.scr ns] [] = .ok (.bl true, h') := by
  suffices h : W (callN GG T (39 + 1) "law" [.scr ns] []) fun z => z.1 = .bl true by
    obtain ⟨⟨d, h⟩, e, rfl⟩ := h
    exact ⟨h, e⟩
  rw [callN_eq T_law rfl]
  simp [f_law, b_law]
  refine Wk.of (open_w ho 38 ns hns) ?_
  rintro ⟨d, h⟩ ⟨s, hs0, rfl, rfl⟩
  simp [show smallR 0 8 = true from rfl]
  refine Wk.w (forL_I (LapI ns) ⟨s, hs0, rfl, rfl⟩ ?_ ?_)
  · rintro x hx σ h ⟨s, hs, rfl, rfl⟩
    simp
    refine Wk.of (pick_w hp 38 s hs [] 3 (by omega) (by omega)) ?_
    rintro ⟨d, h⟩ ⟨i, s1, hs1, hi, rfl, rfl⟩
    obtain ⟨most, hmo, em⟩ : ∃ most : Nat, most ≤ 5 ∧ ∀ h, ixD h (.lst [.int 3, .int 3, .int 5]) (.int (i : Int)) = .ok (.int (most : Int)) := by
      have : i = 0 ∨ i = 1 ∨ i = 2 := by omega
      rcases this with rfl | rfl | rfl
      · exact ⟨3, by omega, fun h => rfl⟩
      · exact ⟨3, by omega, fun h => rfl⟩
      · exact ⟨5, by omega, fun h => rfl⟩
    simp [em, show smallR 0 3 = true from rfl]
    refine Wk.w (compL_W (fun h => ∃ s : Src, s.Ok ∧ h = s.h []) (fun _ d => ∃ w : List Nat, (Wd w ∧ w.length ≤ most) ∧ d = wD w) _ _ _ ⟨s1, hs1, rfl⟩ ?_ ?_)
    · rintro y hy h ⟨s2, hs2, rfl⟩
      obtain ⟨j, _, rfl⟩ := List.mem_map.mp hy
      simp
      refine Wk.of (draw_letters_ok (GG := GG) hp rfl most (by omega) 38 (by omega) s2 hs2 []) ?_
      rintro _ ⟨w, s3, hs3, hw, lw, rfl⟩
      simp
      exact ⟨⟨s3, hs3, rfl⟩, w, ⟨hw, lw⟩, rfl⟩
    rintro ds h ⟨s2, hs2, rfl⟩ ha
    obtain ⟨ws, rfl, hlw, hws⟩ := ha.ex
    simp at hlw
    match ws, hlw, hws with
    | [l, m, r], _, hws =>
      obtain ⟨wl, ll⟩ := hws l (by simp)
      obtain ⟨wm, lm⟩ := hws m (by simp)
      obtain ⟨wr, lr⟩ := hws r (by simp)
      have c1 := cat_wD l m (by omega)
      have c2 := cat_wD (l ++ m) r (by simp; omega)
      have z := eq_w0 (l ++ (m ++ r))
      have pt : ∀ (a b c : D) (σ : EV.Env), putTg (.tup [4, 5, 6]) (.lst [a, b, c]) σ = .ok (((σ.set 4 (.val a)).set 5 (.val b)).set 6 (.val c)) := fun a b c σ => rfl
      have pt2 : ∀ (a b c : D) (σ : EV.Env), putTg (.tup [4, 5, 6]) (.tup [a, b, c]) σ = .ok (((σ.set 4 (.val a)).set 5 (.val b)).set 6 (.val c)) := fun a b c σ => rfl
      by_cases e0 : l ++ (m ++ r) = []
      case' pos =>
        rw [decide_eq_true e0] at z
        obtain ⟨m, hM⟩ : ∃ M : List Nat, M = [1] := ⟨_, rfl⟩
        have one : D.tup [.str "b"] = wD m := by rw [hM]; rfl
        have wm : Wd m := fun x hx => by rw [hM] at hx; simp at hx; omega
        have lm : m.length ≤ 5 := by rw [hM]; simp
        have ne : l ++ m ++ r ≠ [] := by rw [hM]; simp
        simp [c1, c2, z, pt, one]
      case' neg =>
        rw [decide_eq_false e0] at z
        have ne : l ++ m ++ r ≠ [] := by rw [List.append_assoc]; exact e0
        simp [c1, c2, z, pt]
      all_goals
        refine Wk.of (lumpL_ok hT wl.w6 wm.w6 wr.w6 (by omega) (by omega) (by omega) 38 (by omega) _) ?_
        rintro _ ⟨d, ld, rfl⟩
        simp
        refine Wk.of (lump_ok6 hT wl.w6 wm.w6 wr.w6 (by omega) (by omega) (by omega) 38 (by omega) _) ?_
        rintro _ ⟨d', ld', rfl⟩
        obtain rfl : d' = d := LumpS.uniq (Tel.refl _ _ _) ld' ld
        have q := eq_D ld.ok
        simp [q]
        refine Wk.of (roots_ok hT hp rfl rfl 38 (by omega) s2 hs2 []) ?_
        rintro _ ⟨s3, hs3, rfl⟩
        have c3 := cat_wD l r (by omega)
        have z3 := eq_w0 (l ++ r)
        by_cases e3 : l ++ r = []
        · rw [decide_eq_true e3] at z3
          have c4 : binD .add (wD m) (.tup [.str "c"]) = .ok (wD (m ++ [2])) := cat_wD m [2] (by simp; omega)
          simp [c3, z3, c4]
          refine Wk.of (lump_ok6 hT wl.w6 (wm.w6.app w2) wr.w6 (by omega) (by simp; omega) (by omega) 38 (by omega) _) ?_
          rintro _ ⟨d2, ld2, rfl⟩
          have q2 := eq_D2 ld2.ok ld.ok (differ wl wm wr ne ld ld2)
          simp [q2]
          exact ⟨s3, hs3, rfl, rfl⟩
        · rw [decide_eq_false e3] at z3
          simp [c3, z3]
          refine Wk.of (other_ok hp rfl wl wm wr (by omega) (by omega) (by omega) 38 (by omega) s3 hs3 []) ?_
          rintro _ ⟨l', m', r', s4, hs4, tel, wl', wm', wr', ll', lm', lr', rfl⟩
          simp [pt2]
          refine Wk.of (lump_ok6 hT wl'.w6 wm'.w6 wr'.w6 (by omega) (by omega) (by omega) 38 (by omega) _) ?_
          rintro _ ⟨d3, ld3, rfl⟩
          obtain rfl : d' = d3 := LumpS.uniq tel ld ld3
          have ne' : l' ++ m' ++ r' ≠ [] := fun e => e3 (by
            have h1 : l' = [] := by simp at e; exact e.1
            have h2 : r' = [] := by simp at e; exact e.2.2
            rw [tel.l0.mp h1, tel.r0.mp h2]; rfl)
          have c4 : binD .add (wD m') (.tup [.str "c"]) = .ok (wD (m' ++ [2])) := cat_wD m' [2] (by simp; omega)
          simp [q, c4]
          refine Wk.of (lump_ok6 hT wl'.w6 (wm'.w6.app w2) wr'.w6 (by omega) (by simp; omega) (by omega) 38 (by omega) _) ?_
          rintro _ ⟨d2, ld2, rfl⟩
          have q2 := eq_D2 ld2.ok ld3.ok (differ wl' wm' wr' ne' ld3 ld2)
          simp [q2]
          exact ⟨s4, hs4, rfl, rfl⟩
  · rintro σ h ⟨s, hs, rfl, rfl⟩
    have q1 : eqD (.lst [.tup [.str "lump", .tup [], .tup [.str "a", .str "b"], .tup [.str "b", .str "a"]], .tup [.str "lump", .tup [.str "a", .str "b"], .tup [], .tup [.str "a", .str "b"]]]) (.lst [.tup [.str "lump", .tup [], .tup [.str "a", .str "b"], .tup [.str "b", .str "a"]], .tup [.str "lump", .tup [.str "a", .str "b"], .tup [], .tup [.str "a", .str "b"]]]) = .ok true := eq_D ⟨by decide +kernel, by decide +kernel, by decide +kernel⟩
    have q2 : eqD (.lst [.tup [.str "lump", .tup [.str "a"], .tup [], .tup [.str "a", .str "b"]], .tup [.str "lump", .tup [.str "a", .str "b"], .tup [], .tup [.str "b", .str "a"]], .str "c"]) (.lst [.tup [.str "lump", .tup [.str "a"], .tup [], .tup [.str "a", .str "b"]], .tup [.str "lump", .tup [.str "a", .str "b"], .tup [], .tup [.str "b", .str "a"]], .str "c"]) = .ok true := eq_D ⟨by decide +kernel, by decide +kernel, by decide +kernel⟩
    simp [f1, f2, f3, f4, f5, q1, q2]
end K61
namespace K61
open PySem PySem.Spec PyProof.Rows EV
theorem bo_word_text : d_word_text.bindOk := fun kV doc pm an cdv ct us hl => by
  have hl : us.length = 1 := hl
  match us, hl with | [_], _ => rfl
theorem bo_letter_text : d_letter_text.bindOk := fun kV doc pm an cdv ct us hl => by
  have hl : us.length = 1 := hl
  match us, hl with | [_], _ => rfl
theorem bo_root : d_root.bindOk := fun kV doc pm an cdv ct us hl => by
  have hl : us.length = 1 := hl
  match us, hl with | [_], _ => rfl
theorem bo_turned_on : d_turned_on.bindOk := fun kV doc pm an cdv ct us hl => by
  have hl : us.length = 1 := hl
  match us, hl with | [_], _ => rfl
theorem bo_right_form : d_right_form.bindOk := fun kV doc pm an cdv ct us hl => by
  have hl : us.length = 2 := hl
  match us, hl with | [_, _], _ => rfl
theorem bo_left_form : d_left_form.bindOk := fun kV doc pm an cdv ct us hl => by
  have hl : us.length = 2 := hl
  match us, hl with | [_, _], _ => rfl
theorem bo_least_turn : d_least_turn.bindOk := fun kV doc pm an cdv ct us hl => by
  have hl : us.length = 1 := hl
  match us, hl with | [_], _ => rfl
theorem bo_double_form : d_double_form.bindOk := fun kV doc pm an cdv ct us hl => by
  have hl : us.length = 3 := hl
  match us, hl with | [_, _, _], _ => rfl
theorem bo_lump_of : d_lump_of.bindOk := fun kV doc pm an cdv ct us hl => by
  have hl : us.length = 3 := hl
  match us, hl with | [_, _, _], _ => rfl
theorem bo__law_open_cells : d__law_open_cells.bindOk := fun kV doc pm an cdv ct us hl => by
  have hl : us.length = 1 := hl
  match us, hl with | [_], _ => rfl
theorem bo__law_pick : d__law_pick.bindOk := fun kV doc pm an cdv ct us hl => by
  have hl : us.length = 2 := hl
  match us, hl with | [_, _], _ => rfl
theorem bo__law_word_text : d__law_word_text.bindOk := fun kV doc pm an cdv ct us hl => by
  have hl : us.length = 1 := hl
  match us, hl with | [_], _ => rfl
theorem bo__law_text : d__law_text.bindOk := fun kV doc pm an cdv ct us hl => by
  have hl : us.length = 1 := hl
  match us, hl with | [_], _ => rfl
theorem bo__law_root : d__law_root.bindOk := fun kV doc pm an cdv ct us hl => by
  have hl : us.length = 1 := hl
  match us, hl with | [_], _ => rfl
theorem bo__law_right_form : d__law_right_form.bindOk := fun kV doc pm an cdv ct us hl => by
  have hl : us.length = 2 := hl
  match us, hl with | [_, _], _ => rfl
theorem bo__law_left_form : d__law_left_form.bindOk := fun kV doc pm an cdv ct us hl => by
  have hl : us.length = 2 := hl
  match us, hl with | [_, _], _ => rfl
theorem bo__law_lump : d__law_lump.bindOk := fun kV doc pm an cdv ct us hl => by
  have hl : us.length = 3 := hl
  match us, hl with | [_, _, _], _ => rfl
theorem bo__law_draw_letters : d__law_draw_letters.bindOk := fun kV doc pm an cdv ct us hl => by
  have hl : us.length = 2 := hl
  match us, hl with | [_, _], _ => rfl
theorem bo__law_other_telling : d__law_other_telling.bindOk := fun kV doc pm an cdv ct us hl => by
  have hl : us.length = 4 := hl
  match us, hl with | [_, _, _, _], _ => rfl
theorem bo__law_roots_right : d__law_roots_right.bindOk := fun kV doc pm an cdv ct us hl => by
  have hl : us.length = 1 := hl
  match us, hl with | [_], _ => rfl
theorem bo_law : d_law.bindOk := fun kV doc pm an cdv ct us hl => by
  have hl : us.length = 1 := hl
  match us, hl with | [_], _ => rfl
theorem bo : ∀ s ∈ defs, s.bindOk := by
  intro s hs
  simp only [defs, List.mem_cons, List.not_mem_nil, or_false] at hs
  rcases hs with rfl | rfl | rfl | rfl | rfl | rfl | rfl | rfl | rfl | rfl | rfl | rfl | rfl | rfl | rfl | rfl | rfl | rfl | rfl | rfl | rfl
  · exact bo_word_text
  · exact bo_letter_text
  · exact bo_root
  · exact bo_turned_on
  · exact bo_right_form
  · exact bo_left_form
  · exact bo_least_turn
  · exact bo_double_form
  · exact bo_lump_of
  · exact bo__law_open_cells
  · exact bo__law_pick
  · exact bo__law_word_text
  · exact bo__law_text
  · exact bo__law_root
  · exact bo__law_right_form
  · exact bo__law_left_form
  · exact bo__law_lump
  · exact bo__law_draw_letters
  · exact bo__law_other_telling
  · exact bo__law_roots_right
  · exact bo_law
theorem ok_word_text : d_word_text.ok NB = true := by decide +kernel
theorem ok_letter_text : d_letter_text.ok NB = true := by decide +kernel
theorem ok_root : d_root.ok NB = true := by decide +kernel
theorem ok_turned_on : d_turned_on.ok NB = true := by decide +kernel
theorem ok_right_form : d_right_form.ok NB = true := by decide +kernel
theorem ok_left_form : d_left_form.ok NB = true := by decide +kernel
theorem ok_least_turn : d_least_turn.ok NB = true := by decide +kernel
theorem ok_double_form : d_double_form.ok NB = true := by decide +kernel
theorem ok_lump_of : d_lump_of.ok NB = true := by decide +kernel
theorem ok__law_open_cells : d__law_open_cells.ok NB = true := by decide +kernel
theorem ok__law_pick : d__law_pick.ok NB = true := by decide +kernel
theorem ok__law_word_text : d__law_word_text.ok NB = true := by decide +kernel
theorem ok__law_text : d__law_text.ok NB = true := by decide +kernel
theorem ok__law_root : d__law_root.ok NB = true := by decide +kernel
theorem ok__law_right_form : d__law_right_form.ok NB = true := by decide +kernel
theorem ok__law_left_form : d__law_left_form.ok NB = true := by decide +kernel
theorem ok__law_lump : d__law_lump.ok NB = true := by decide +kernel
theorem ok__law_draw_letters : d__law_draw_letters.ok NB = true := by decide +kernel
theorem ok__law_other_telling : d__law_other_telling.ok NB = true := by decide +kernel
theorem ok__law_roots_right : d__law_roots_right.ok NB = true := by decide +kernel
theorem ok_law : d_law.ok NB = true := by decide +kernel
theorem ok : defs.all (DefS.ok NB) = true := by
  simp only [defs, List.all_cons, List.all_nil, ok_word_text, ok_letter_text, ok_root, ok_turned_on, ok_right_form, ok_left_form, ok_least_turn, ok_double_form, ok_lump_of, ok__law_open_cells, ok__law_pick, ok__law_word_text, ok__law_text, ok__law_root, ok__law_right_form, ok__law_left_form, ok__law_lump, ok__law_draw_letters, ok__law_other_telling, ok__law_roots_right, ok_law, Bool.and_self]
abbrev R : PySem.W.OpenRow := PySem.W.OpenLaw.row PySem.Challenge.rw_everrows_k61_lumps_in_one_form
def fn : List He.DefD := defs.map DefS.d
def fa : List He.Fa := faOf defs NB
abbrev hk : PySem.W.Hook := hookV 5 gs fa fn
def ob (s : PySem.W.SharedT) : Bool × He.AlD := obG 5 gs fa fn (HandSHeadRun.getT s)
theorem ob_eq (s : PySem.W.SharedT) : ob s = hk.obs s.abs := obG_eq (HandSHeadRun.getT_eq s)
def loose : List Str := ["__name__", "word_text", "letter_text", "root", "turned_on", "right_form", "left_form", "least_turn", "double_form", "lump_of", "_law_open_cells", "_law_pick", "_law_word_text", "_law_text", "_law_root", "_law_right_form", "_law_left_form", "_law_lump", "_law_draw_letters", "_law_other_telling", "_law_roots_right"]
theorem run (w : World) : HandSHeadRun.RunEq R (PySem.W.view R.prog [22]) hk ob 2000 loose w := by
  intro os
  kernel_rfl
end K61
open PySem PySem.W PySem.Calls PyProof.Rows
set_option maxHeartbeats 0 in
theorem PySem.Challenge.cw_everrows_k61_lumps_in_one_form_holds : PySem.Challenge.rw_everrows_k61_lumps_in_one_form.Holds := by
  w_on; o_law
  refine HandSHeadRun.head_any (r := OpenLaw.row PySem.Challenge.rw_everrows_k61_lumps_in_one_form) (q := view (OpenLaw.row PySem.Challenge.rw_everrows_k61_lumps_in_one_form).prog [22]) (H := K61.hk) (ob := K61.ob) (M := 2000) (loose := K61.loose) (d := HandSHeadRun.topDef (OpenLaw.row PySem.Challenge.rw_everrows_k61_lumps_in_one_form).prog 22) (kwd := []) K61.ob_eq
    (by kernel_rfl) (fun s => by kernel_rfl) K61.run (by kernel_rfl) (by kernel_rfl) (by kernel_rfl) (by rfl) (by first | assumption | decide +kernel) (by decide +kernel) ⟨rfl, rfl, rfl, rfl, rfl, by decide +kernel⟩ ?hw ?hc
  case hw => w_witness2
  case hc =>
    exact EV.walk_av (l := PySem.Challenge.rw_everrows_k61_lumps_in_one_form) (n := 63) (k := K61.lev) (x := "_law_script") (NB := K61.NB) (s := K61.d_law) rfl (by decide) (by kernel_rfl) ⟨rfl, by decide, by decide⟩ (by kernel_rfl) K61.ok K61.bo (by simp [K61.defs]) rfl rfl rfl K61.main

