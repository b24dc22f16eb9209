import PyProof.Rows.All
import Wide.All
import OpenK.AllK
import Wide.FinOn
import HandS.ForMost
import HandS.Deep
import HandS.Wide
import HandS.Gcd
import HandS.IsInst
import HandS.Flow
import HandS.Zip
import HandS.SortInts
import HandS.SetKeys
import HandS.Strs
import HandS.Text
import HandS.StrMore
import HandS.Defaults
import HandS.FStr
import HandS.Dict
import HandS.More
import HandS.TupAny
import HandS.Style
import KE.GoesNew
import HandS.SetFor
import KE.KSortedM
import HandS.Codes
import PySem.Challenge.RW_soleheld_k01_words_judged
set_option linter.all false
set_option maxRecDepth 100000
set_option autoImplicit false
set_option Elab.async false
set_option maxHeartbeats 4000000
set_option maxHeartbeats 8000000
/-! R: a small interpreter for the Python subset that is met here. Values, the heap by numbers, syntax, evaluation. -/
namespace R
open PySem

/-- a value: a tuple is its items, all that changes is a number in the heap -/
inductive MV where
  | non | bl (b : Bool) | int (i : Int) | str (s : Str) | ty (n : String) | fn (f : Str) | tup (xs : List MV) | ref (i : Nat)
  deriving Inhabited
/-- what is known of a class: its name; attributes that no class of it has; of which own classes it is; its methods -/
structure CI where
  name : Str
  flds : List Str := []
  isi : List (Str × Bool) := []
  meths : List (Str × Str) := []
  deriving Inhabited
/-- what stands at a number -/
inductive MO where
  | list (xs : List MV) | frz (xs : List MV) | dict (kvs : List (L2.Key × MV)) | set (ns : List Int) | ins (ci : CI) (fs : List (Str × MV))
  deriving Inhabited
abbrev Hm := List MO
abbrev Sm := List (Option MV)
/-- an answer: a value, an error (its class, its number), or nothing that is known -/
inductive Res (α : Type) where
  | ok (a : α) (h : Hm) | exc (c : Str) (e : Nat) (h : Hm) | bad
def Res.bind {α β : Type} (r : Res α) (f : α → Hm → Res β) : Res β :=
  match r with
  | .ok a h => f a h
  | .exc c e h => .exc c e h
  | .bad => .bad
/-- where no error may leave -/
def Res.calm {α : Type} (r : Res α) : Res α :=
  match r with
  | .exc _ _ _ => .bad
  | r => r

inductive BK where
  | add | sub | mul | fdiv | mod | pow
  deriving DecidableEq
inductive CK where
  | eq | ne | lt | le | gt | ge | isin | notin | isnone | notnone
  deriving DecidableEq
/-- built-in functions and types that are called -/
inductive BI where
  | len | int | abs | str | list | tuple | sum | any | all | set | sorted | max | min | gcd | isinstance
  deriving DecidableEq
/-- methods of built-in types -/
inductive MK where
  | append | extend | pop | reverse | clear | index | setdefault | get | split | join | partition | startswith | strip
  deriving DecidableEq
/-- whence a parameter's value comes: a value by place, by name, a default -/
inductive Sl where
  | pos (i : Nat) | kw (i : Nat) | dfl (i : Nat)
def pick {α : Type} (ds xs zs : List α) : List Sl → Option (List α)
  | [] => some []
  | s :: r => match (match s with
      | .pos i => xs[i]?
      | .kw i => zs[i]?
      | .dfl i => ds[i]?), pick ds xs zs r with
    | some x, some ys => some (x :: ys)
    | _, _ => none
def pickL {α : Type} (n m : Nat) (sl : List Sl) (ds xs zs : List α) : Option (List α) := if xs.length = n ∧ zs.length = m then pick ds xs zs sl else none
/-- a target: a name's place, or names in a tuple -/
inductive MT where
  | nm (i : Nat) | tp (is : List Nat)

mutual
inductive ME where
  | lit (v : MV) | con (x : Str) | var (i : Nat)
  | bin (op : BK) (a b : ME) | neg (a : ME)
  | and (a b : ME) | or (a b : ME) | not (a : ME)
  | cmp (op : CK) (a b : ME) | chn (op op' : CK) (a b c : ME)
  | ife (t a b : ME)
  | tup (as : MEs) | lst (as : MEs) | dnew
  | ix (a i : ME) | slc (a : ME) (lo hi : MEs) | rev (a : ME)
  | call (f : Str) (as : MEs) (ds : List MV)
  | callK (f : Str) (as ks : MEs) (n m : Nat) (sl : List Sl) (ds : List MV)
  | fmt (a : ME) | fs (as : MEs)
  | fld (a : ME) (f : Str)
  | bi (f : BI) (as : MEs)
  | meth (m : MK) (o : ME) (as : MEs)
  | lc (elt : ME) (tg : MT) (it : MI) (ifs : MEs) (own : List Nat)
inductive MEs where
  | nil | cons (a : ME) (as : MEs)
/-- what is walked -/
inductive MI where
  | val (e : ME) | rng1 (a : ME) | rng2 (a b : ME) | rng3 (a b c : ME) | zip (a b : ME) | enum (a : ME) | rev (a : ME)
end

/-! ### looks at the heap -/
def get (h : Hm) (i : Nat) : Option MO := h[i]?
/-- the items of a list or a tuple -/
def items (h : Hm) : MV → Option (List MV)
  | .tup xs => some xs
  | .ref i => match h[i]? with
    | some (.list xs) => some xs
    | some (.frz xs) => some xs
    | _ => none
  | _ => none
def allS {α β : Type} (f : α → Option β) : List α → Option (List β)
  | [] => some []
  | a :: as => match f a with
    | some b => match allS f as with
      | some bs => some (b :: bs)
      | none => none
    | none => none
/-- data through and through -/
def den (h : Hm) : Nat → MV → Option PyData
  | 0, _ => none
  | _ + 1, .non => some .none
  | _ + 1, .bl b => some (.bool b)
  | _ + 1, .int i => some (.int i)
  | _ + 1, .str s => some (.str s)
  | n + 1, .tup xs => (allS (den h n) xs).map .tuple
  | n + 1, .ref i => match h[i]? with
    | some (.list xs) => (allS (den h n) xs).map .list
    | some (.frz xs) => (allS (den h n) xs).map .list
    | _ => none
  | _ + 1, .ty _ => none
  | _ + 1, .fn _ => none
def denV (h : Hm) (v : MV) : Option PyData := (den h 30 v).bind fun d => if SeqAt.shaped d = true then some d else none
/-- truth of a value -/
def truth (h : Hm) : MV → Option Bool
  | .non => some false
  | .bl b => some b
  | .int i => some (i != 0)
  | .str s => if s.length ≤ sizeLine then some ((s.length : Int) != 0) else none
  | .tup xs => some (!xs.isEmpty)
  | .ref i => match h[i]? with
    | some (.list xs) => some (!xs.isEmpty)
    | some (.frz xs) => some (!xs.isEmpty)
    | some (.dict kvs) => some (!kvs.isEmpty)
    | _ => none
  | _ => none
/-- the name of a value's built-in type -/
def kind (h : Hm) : MV → Option String
  | .non => some "NoneType"
  | .bl _ => some "bool"
  | .int _ => some "int"
  | .str _ => some "str"
  | .tup _ => some "tuple"
  | .ref i => match h[i]? with
    | some (.list _) => some "list"
    | some (.frz _) => some "list"
    | some (.dict _) => some "dict"
    | some (.ins _ _) => some "object"
    | _ => none
  | _ => none
def keyOf : MV → Option L2.Key
  | .int i => some (.inl i)
  | .str s => some (.inr s)
  | _ => none
def ofKey : L2.Key → MV
  | .inl i => .int i
  | .inr s => .str s
def mLook {α : Type} : List (L2.Key × α) → L2.Key → Option α
  | [], _ => none
  | (j, v) :: r, k => if j = k then some v else mLook r k
def mPut {α : Type} (l : List (L2.Key × α)) (k : L2.Key) (v : α) : List (L2.Key × α) :=
  if (l.any fun p => decide (p.1 = k)) = true then l.map (fun p => if p.1 = k then (p.1, v) else p) else l ++ [(k, v)]
def new (o : MO) (h : Hm) : Res MV := .ok (.ref h.length) (h ++ [o])

/-! ### operations on values -/
def asInt : MV → Option Int
  | .int i => some i
  | _ => none
def asBool : MV → Option Bool
  | .bl b => some b
  | _ => none
def asStr : MV → Option Str
  | .str s => some s
  | _ => none
def binI (op : BK) (i j : Int) (h : Hm) : Res MV :=
  match op with
  | .add => .ok (.int (i + j)) h
  | .sub => .ok (.int (i - j)) h
  | .mul => if i.natAbs.log2 + j.natAbs.log2 < 1000000 then .ok (.int (i * j)) h else .bad
  | .fdiv => if j ≠ 0 ∧ j.natAbs.log2 < 9000 then .ok (.int (i.fdiv j)) h else .bad
  | .mod => if j ≠ 0 then .ok (.int (i.fmod j)) h else .bad
  | .pow => if 0 ≤ j ∧ j ≤ 100000 ∧ i.natAbs < 2 ^ 200 then .ok (.int (i ^ j.toNat)) h else .bad
def mList (h : Hm) (i : Nat) : Option (List MV) :=
  match h[i]? with
  | some (.list xs) => some xs
  | _ => none
def binop (op : BK) (x y : MV) (h : Hm) : Res MV :=
  match x, y with
  | .int i, .int j => binI op i j h
  | .str s, .str t => if op = .add ∧ s.length + t.length ≤ sizeLine then .ok (.str (s ++ t)) h else .bad
  | .tup xs, .tup ys => if op = .add ∧ xs.length + ys.length ≤ sizeLine then .ok (.tup (xs ++ ys)) h else .bad
  | .ref a, .ref b => match mList h a, mList h b with
    | some xs, some ys => if op = .add ∧ xs.length + ys.length ≤ sizeLine then new (.list (xs ++ ys)) h else .bad
    | _, _ => .bad
  | .str s, .int k => if op = .mul ∧ 0 ≤ k ∧ k ≤ 100000 ∧ s.length ≤ 100 then .ok (.str (Txt.mul s k)) h else .bad
  | .ref a, .int k => match mList h a with
    | some xs => if op = .mul ∧ -(2 ^ 63) ≤ k ∧ k < 2 ^ 63 ∧ xs.length * k.toNat ≤ sizeLine then new (.list (List.replicate k.toNat xs).flatten) h else .bad
    | _ => .bad
  | _, _ => .bad
/-- x op= y -/
def augOp (op : BK) (x y : MV) (h : Hm) : Res MV :=
  match x, y with
  | .int i, .int j => match op with
    | .add => .ok (.int (i + j)) h
    | .sub => .ok (.int (i - j)) h
    | _ => .bad
  | .str s, .str t => if op = .add ∧ s.length + t.length ≤ sizeLine then .ok (.str (s ++ t)) h else .bad
  | _, _ => .bad
def cmpI (op : CK) (i j : Int) : Option Bool :=
  match op with
  | .lt => some (decide (i < j))
  | .le => some (decide (i ≤ j))
  | .gt => some (decide (j < i))
  | .ge => some (decide (j ≤ i))
  | _ => none
/-- x in y, y data -/
def inD (h : Hm) (x y : MV) : Option Bool :=
  match y with
  | .str t => match x with
    | .str s => some (!(Builtin.Str.occurrences t s 0 t.length 1).isEmpty)
    | _ => none
  | .ref j => match h[j]? with
    | some (.dict kvs) => match keyOf x with
      | some k => some (mLook kvs k).isSome
      | none => none
    | some (.set ns) => match x with
      | .int k => some (ns.any fun j => decide (j = k))
      | _ => none
    | _ => match denV h x, denV h y with
      | some d, some (.list ds) => some (ds.any fun z => PyData.eqv z d)
      | _, _ => none
  | .tup _ => match denV h x, denV h y with
      | some d, some (.tuple ds) => some (ds.any fun z => PyData.eqv z d)
      | _, _ => none
  | _ => none
def isNon : MV → Bool
  | .non => true
  | _ => false
def eqO (h : Hm) (x y : MV) : Option Bool :=
  match x, y with
  | .str s, .str t => some (decide (s = t))
  | x, y => match denV h x, denV h y with
    | some d, some e => some (PyData.eqv d e)
    | _, _ => none
def cmp (op : CK) (x y : MV) (h : Hm) : Option Bool :=
  match op with
  | .eq => eqO h x y
  | .ne => (eqO h x y).map (!·)
  | .isin => inD h x y
  | .notin => (inD h x y).map (!·)
  | .isnone => if isNon y = true then some (isNon x) else none
  | .notnone => if isNon y = true then some (!isNon x) else none
  | op => match x, y with
    | .int i, .int j => cmpI op i j
    | _, _ => none
def cmpR (op : CK) (x y : MV) (h : Hm) : Res MV :=
  match cmp op x y h with
  | some b => .ok (.bl b) h
  | none => .bad
/-- x[i] -/
def ixAt (x i : MV) (h : Hm) : Res MV :=
  match i with
  | .int k => match x with
    | .str s => if s.length ≤ sizeLine then match L2.atI s.cps.toList k with
        | some c => .ok (.str ⟨#[c]⟩) h
        | none => .bad
      else .bad
    | .ref j => match h[j]? with
      | some (.dict kvs) => match mLook kvs (.inl k) with
        | some v => .ok v h
        | none => .bad
      | _ => match items h x with
        | some xs => match L2.atI xs k with
          | some v => .ok v h
          | none => .bad
        | none => .bad
    | _ => match items h x with
      | some xs => match L2.atI xs k with
        | some v => .ok v h
        | none => .bad
      | none => .bad
  | .str s => match x with
    | .ref j => match h[j]? with
      | some (.dict kvs) => match mLook kvs (.inr s) with
        | some v => .ok v h
        | none => .bad
      | _ => .bad
    | _ => .bad
  | _ => .bad
def cutL {α : Type} (xs : List α) (lo hi : Option Int) : List α :=
  (xs.drop (HT.sIx xs.length 0 lo)).take (HT.sIx xs.length xs.length hi - HT.sIx xs.length 0 lo)
/-- x[lo:hi] -/
def cutAt (x : MV) (lo hi : Option Int) (h : Hm) : Res MV :=
  match x with
  | .str s => if s.length ≤ sizeLine then .ok (.str (L2.cutS s lo hi)) h else .bad
  | .tup xs => .ok (.tup (cutL xs lo hi)) h
  | .ref _ => match items h x with
    | some xs => new (.list (cutL xs lo hi)) h
    | none => .bad
  | _ => .bad
/-- x[::-1] -/
def revAt (x : MV) (h : Hm) : Res MV :=
  match x with
  | .ref _ => match items h x with
    | some xs => new (.list xs.reverse) h
    | none => .bad
  | _ => .bad
def asTy : MV → Option String
  | .ty n => some n
  | _ => none
def tyKnown (c : String) : Bool := ["int", "bool", "str", "tuple", "list", "dict"].contains c
def isSub (k c : String) : Bool := k == c || (k == "bool" && c == "int")
/-- insertion into ascending ints -/
def insI (i : Int) : List Int → List Int
  | [] => [i]
  | j :: r => if i ≤ j then i :: j :: r else j :: insI i r
def dedI (i : Int) (l : List Int) : List Int := if l.any (fun j => decide (j = i)) = true then l else l ++ [i]
/-- the different ones, in the order in which they come -/
def setI (ns : List Int) : List Int := ns.foldl (fun l i => dedI i l) []
def sortI : List Int → List Int
  | [] => []
  | i :: r => insI i (sortI r)
/-- a built-in function -/
def bi (f : BI) (xs : List MV) (h : Hm) : Res MV :=
  match f with
  | .len => match xs with
    | [.str s] => if s.length ≤ sizeLine then .ok (.int s.length) h else .bad
    | [x] => match items h x with
      | some ys => .ok (.int ys.length) h
      | none => .bad
    | _ => .bad
  | .int => match xs with
    | [.int i] => .ok (.int i) h
    | [.bl b] => .ok (.int (if b then 1 else 0)) h
    | [.str s] => if s.length ≤ 640 then match intText? s with
        | some n => .ok (.int n) h
        | none => .bad
      else .bad
    | _ => .bad
  | .abs => match xs with
    | [.int i] => .ok (.int (if i < 0 then -i else i)) h
    | _ => .bad
  | .str => match xs with
    | [.int i] => if i.natAbs.log2 < 1920 then .ok (.str (toString i)) h else .bad
    | _ => .bad
  | .list => match xs with
    | [x] => match items h x with
      | some ys => new (.list ys) h
      | none => match x with
        | .ref j => match h[j]? with
          | some (.dict kvs) => new (.list (kvs.map fun p => ofKey p.1)) h
          | _ => .bad
        | _ => .bad
    | _ => .bad
  | .tuple => match xs with
    | [x] => match items h x with
      | some ys => .ok (.tup ys) h
      | none => .bad
    | _ => .bad
  | .sum => match xs with
    | [.ref j] => match items h (.ref j) with
      | some ys => match allS asInt ys with
        | some ns => .ok (.int ns.sum) h
        | none => .bad
      | none => .bad
    | _ => .bad
  | .any => match xs with
    | [.ref j] => match items h (.ref j) with
      | some ys => match allS asBool ys with
        | some bs => .ok (.bl (bs.any id)) h
        | none => .bad
      | none => .bad
    | _ => .bad
  | .all => match xs with
    | [.ref j] => match items h (.ref j) with
      | some ys => match allS asBool ys with
        | some bs => .ok (.bl (bs.all id)) h
        | none => .bad
      | none => .bad
    | _ => .bad
  | .set => match xs with
    | [x] => match items h x with
      | some ys => match allS asInt ys with
        | some ns => if ns.length ≤ 4000 then new (.set (setI ns)) h else .bad
        | none => .bad
      | none => .bad
    | _ => .bad
  | .sorted => match xs with
    | [.ref j] => match h[j]? with
     | some (.set ns) => new (.list ((sortI ns).map .int)) h
     | _ => match items h (.ref j) with
      | some ys => match allS asInt ys with
        | some ns => new (.list ((sortI ns).map .int)) h
        | none => .bad
      | none => .bad
    | _ => .bad
  | .max => match xs with
    | [.int i, .int j] => .ok (.int (if j > i then j else i)) h
    | _ => .bad
  | .min => match xs with
    | [.int i, .int j] => .ok (.int (if j < i then j else i)) h
    | _ => .bad
  | .gcd => match xs with
    | [.int i, .int j] => .ok (.int ((Nat.gcd i.natAbs j.natAbs : Nat) : Int)) h
    | _ => .bad
  | .isinstance => match xs with
    | [x, .ty c] => match kind h x with
      | some k => if tyKnown c = true then .ok (.bl (isSub k c)) h else .bad
      | none => .bad
    | [x, .tup cs] => match kind h x, allS asTy cs with
      | some k, some ts => if ts.all tyKnown = true then .ok (.bl (ts.any (isSub k))) h else .bad
      | _, _ => .bad
    | _ => .bad
/-- a method of a built-in type -/
def meth (m : MK) (x : MV) (xs : List MV) (h : Hm) : Res MV :=
  match x with
  | .ref j => match h[j]? with
    | some (.list ys) => match m with
      | .append => match xs with
        | [y] => if ys.length < sizeLine then .ok .non (h.set j (.list (ys ++ [y]))) else .bad
        | _ => .bad
      | .extend => match xs with
        | [.ref l] => match mList h l with
          | some zs => if ys.length + zs.length ≤ sizeLine then .ok .non (h.set j (.list (ys ++ zs))) else .bad
          | none => .bad
        | _ => .bad
      | .pop => match xs with
        | [] => match ys[ys.length - 1]? with
          | some y => .ok y (h.set j (.list ys.dropLast))
          | none => .bad
        | [.int i] => if -(2 ^ 63) ≤ i ∧ i < 2 ^ 63 then match seqIndex? i ys.length with
          | some k => match ys[k]? with
            | some y => .ok y (h.set j (.list (ys.eraseIdx k)))
            | none => .bad
          | none => .bad
          else .bad
        | _ => .bad
      | .reverse => match xs with
        | [] => .ok .non (h.set j (.list ys.reverse))
        | _ => .bad
      | .clear => match xs with
        | [] => .ok .non (h.set j (.list []))
        | _ => .bad
      | .index => match xs with
        | [y] => match denV h x, denV h y with
          | some (.list ds), some d => match ds.findIdx? fun z => PyData.eqv z d with
            | some k => .ok (.int (k : Nat)) h
            | none => .bad
          | _, _ => .bad
        | _ => .bad
      | _ => .bad
    | some (.dict kvs) => match m with
      | .setdefault => match xs with
        | [k, v] => match keyOf k with
          | some k => if kvs.length < sizeLine then match mLook kvs k with
              | some w => .ok w h
              | none => .ok v (h.set j (.dict (kvs ++ [(k, v)])))
            else .bad
          | none => .bad
        | _ => .bad
      | .get => match xs with
        | [k, v] => match keyOf k with
          | some k => .ok ((mLook kvs k).getD v) h
          | none => .bad
        | _ => .bad
      | _ => .bad
    | _ => .bad
  | .str s => match m with
    | .split => match xs with
      | [.str t] => if (t.length == 0) = false ∧ s.length + 2 ≤ sizeLine then new (.list ((Txt.split s t).map .str)) h else .bad
      | _ => .bad
    | .join => match xs with
      | [y] => match items h y with
        | some ys => match allS asStr ys with
          | some ts => if (ts.map (·.length)).sum + ts.length * s.length ≤ 16777216 then .ok (.str (Txt.join s ts)) h else .bad
          | none => .bad
        | none => .bad
      | _ => .bad
    | .partition => match xs with
      | [.str t] => if (t.length == 0) = false ∧ s.length ≤ sizeLine then .ok (.tup [.str (Txt.partition s t).1, .str (Txt.partition s t).2.1, .str (Txt.partition s t).2.2]) h else .bad
      | _ => .bad
    | .startswith => match xs with
      | [.str t] => .ok (.bl (Txt.startswith s t)) h
      | _ => .bad
    | .strip => match xs with
      | [.str t] => if s.length ≤ sizeLine then .ok (.str (Txt.stripChars s t)) h else .bad
      | _ => .bad
    | _ => .bad
  | _ => .bad

/-! ### what is walked -/
/-- a source: a list by its number, a tuple, a text -/
inductive SR where
  | lst (j : Nat) | tup (xs : List MV) | str (cs : List Nat)
inductive IT where
  | src (s : SR) | rng (lo step : Int) (n : Nat) | zip (a b : SR) | enm (a : Nat) | rev (a : Nat) (n : Nat)
/-- the items of a source -/
def srcI (h : Hm) : SR → Option (List MV)
  | .lst j => items h (.ref j)
  | .tup xs => some xs
  | .str cs => some (cs.map fun c => .str ⟨#[c]⟩)
/-- item k; none: not known; some none: the end -/
def nxt (h : Hm) : IT → Nat → Option (Option MV)
  | .src s, k => match srcI h s with
    | some xs => some xs[k]?
    | none => none
  | .rng lo step n, k => some (if k < n then some (.int (lo + (k : Nat) * step)) else none)
  | .zip a b, k => match srcI h a, srcI h b with
    | some xs, some ys => match xs[k]?, ys[k]? with
      | some x, some y => some (some (.tup [x, y]))
      | _, _ => if k = min xs.length ys.length then some none else none
    | _, _ => none
  | .enm a, k => match items h (.ref a) with
    | some xs => match xs[k]? with
      | some x => some (some (.tup [.int (k : Nat), x]))
      | none => some none
    | none => none
  | .rev a n, k => match items h (.ref a) with
    | some xs => if k < n then match xs[n - 1 - k]? with
        | some x => some (some x)
        | none => none
      else some none
    | none => none
/-- a bound of the turns -/
def turnsS (h : Hm) (s : SR) : Nat := match srcI h s with
  | some xs => xs.length
  | none => 0
def turns (h : Hm) : IT → Nat
  | .src s => turnsS h s
  | .rng _ _ n => n
  | .zip a _ => turnsS h a
  | .enm a => turnsS h (.lst a)
  | .rev _ n => n
def srcOf (x : MV) (h : Hm) : Option SR :=
  match x with
  | .ref j => match items h x with
    | some _ => some (.lst j)
    | none => none
  | .tup xs => some (.tup xs)
  | .str s => some (.str s.cps.toList)
  | _ => none
def itVal (x : MV) (h : Hm) : Res IT :=
  match srcOf x h with
  | some s => .ok (.src s) h
  | none => .bad
def itRng (lo hi step : Int) (h : Hm) : Res IT :=
  if -(2 ^ 62) ≤ lo ∧ lo < 2 ^ 62 ∧ -(2 ^ 62) ≤ hi ∧ hi < 2 ^ 62 then
    if step = 1 then .ok (.rng lo 1 (hi - lo).toNat) h else if step = -1 then .ok (.rng lo (-1) (lo - hi).toNat) h else .bad
  else .bad
def itZip (x y : MV) (h : Hm) : Res IT :=
  match srcOf x h, srcOf y h with
  | some a, some b => .ok (.zip a b) h
  | _, _ => .bad
def itEnum (x : MV) (h : Hm) : Res IT :=
  match x with
  | .ref a => match items h x with
    | some _ => .ok (.enm a) h
    | none => .bad
  | _ => .bad
def itRev (x : MV) (h : Hm) : Res IT :=
  match x with
  | .ref a => match items h x with
    | some xs => .ok (.rev a xs.length) h
    | none => .bad
  | _ => .bad
/-- names are bound -/
def bindN : List Nat → List MV → Sm → Option Sm
  | [], [], sm => some sm
  | i :: is, x :: xs, sm => bindN is xs (sm.set i (some x))
  | _, _, _ => none
def bindT (t : MT) (x : MV) (sm : Sm) : Option Sm :=
  match t with
  | .nm i => some (sm.set i (some x))
  | .tp is => match x with
    | .tup xs => bindN is xs sm
    | _ => none
def wipeM (sm : Sm) : List Nat → Sm
  | [] => sm
  | v :: vs => (wipeM sm vs).set v none
/-- a list comprehension's turns: the list at d grows -/
def lcGo (it : IT) (step : MV → Hm → Res (Option MV)) (d : Nat) : Nat → Nat → Hm → Res MV
  | 0, _, _ => .bad
  | f + 1, k, h => match nxt h it k with
    | none => .bad
    | some none => .ok (.ref d) h
    | some (some x) => match step x h with
      | .ok none h' => lcGo it step d f (k + 1) h'
      | .ok (some y) h' => match mList h' d with
        | some acc => if acc.length < sizeLine then lcGo it step d f (k + 1) (h'.set d (.list (acc ++ [y]))) else .bad
        | none => .bad
      | _ => .bad

/-- the type whose method it is -/
def mkind : MK → String
  | .append => "list" | .extend => "list" | .pop => "list" | .reverse => "list" | .clear => "list" | .index => "list"
  | .setdefault => "dict" | .get => "dict"
  | .split => "str" | .join => "str" | .partition => "str" | .startswith => "str" | .strip => "str"
/-! ### expressions -/
structure Genv where
  cons : Str → Option MV
  call : Str → List MV → Hm → Res MV
def asPart (x : MV) : Option Int := asInt x
/-- x.f -/
def fldR (x : MV) (f : Str) (h : Hm) : Res MV :=
  match x with
  | .ref j => match h[j]? with
    | some (.ins ci fs) => if ci.flds.contains f = true then match fs.lookup f with
        | some v => .ok v h
        | none => .bad
      else .bad
    | _ => .bad
  | _ => .bad
def putFm (f : Str) (v : MV) : List (Str × MV) → List (Str × MV)
  | [] => [(f, v)]
  | (g, x) :: r => if g = f then (g, v) :: r else (g, x) :: putFm f v r
/-- a part of an f-string -/
def fmtR (x : MV) (h : Hm) : Res MV :=
  match x with
  | .str s => if s.length ≤ sizeLine then .ok (.str s) h else .bad
  | .int i => if i.natAbs.log2 < 1920 then .ok (.str (toString i)) h else .bad
  | _ => .bad
def catR (acc : Str) (x : MV) (h : Hm) : Res Str :=
  match x with
  | .str s => if (acc ++ s).length ≤ sizeLine then .ok (acc ++ s) h else .bad
  | _ => .bad
def callO (F : List MV → Hm → Res MV) (o : Option (List MV)) (h : Hm) : Res MV :=
  match o with
  | some ys => F ys h
  | none => .bad
mutual
def evE (g : Genv) : ME → Sm → Hm → Res MV
  | .lit v, _, h => .ok v h
  | .con x, _, h => match g.cons x with
    | some v => .ok v h
    | none => .bad
  | .var i, sm, h => match sm[i]? with
    | some (some v) => .ok v h
    | _ => .bad
  | .bin op a b, sm, h => (evE g a sm h).bind fun x h => (evE g b sm h).bind fun y h => binop op x y h
  | .neg a, sm, h => (evE g a sm h).bind fun x h => match x with
    | .int i => .ok (.int (-i)) h
    | _ => .bad
  | .and a b, sm, h => (evE g a sm h).bind fun x h => match truth h x with
    | some true => evE g b sm h
    | some false => .ok x h
    | none => .bad
  | .or a b, sm, h => (evE g a sm h).bind fun x h => match truth h x with
    | some true => .ok x h
    | some false => evE g b sm h
    | none => .bad
  | .not a, sm, h => (evE g a sm h).bind fun x h => match truth h x with
    | some k => .ok (.bl (!k)) h
    | none => .bad
  | .cmp op a b, sm, h => (evE g a sm h).bind fun x h => (evE g b sm h).bind fun y h => cmpR op x y h
  | .chn op op' a b c, sm, h => (evE g a sm h).bind fun x h => (evE g b sm h).bind fun y h => match cmp op x y h with
    | some true => (evE g c sm h).bind fun z h => cmpR op' y z h
    | some false => .ok (.bl false) h
    | none => .bad
  | .ife t a b, sm, h => (evE g t sm h).bind fun x h => match truth h x with
    | some true => evE g a sm h
    | some false => evE g b sm h
    | none => .bad
  | .tup as, sm, h => (evEs g as sm h).bind fun xs h => if xs.length ≤ sizeLine then .ok (.tup xs) h else .bad
  | .lst as, sm, h => (evEs g as sm h).bind fun xs h => if xs.length ≤ sizeLine then new (.list xs) h else .bad
  | .dnew, _, h => new (.dict []) h
  | .ix a i, sm, h => (evE g a sm h).bind fun x h => (evE g i sm h).bind fun y h => ixAt x y h
  | .slc a lo hi, sm, h => (evE g a sm h).bind fun x h => (evEs g lo sm h).bind fun l h => match allS asInt l with
    | none => .bad
    | some l => (evEs g hi sm h).bind fun u h => match allS asInt u with
      | none => .bad
      | some u => cutAt x l.head? u.head? h
  | .rev a, sm, h => (evE g a sm h).bind fun x h => revAt x h
  | .call f as ds, sm, h => (evEs g as sm h).bind fun xs h => g.call f (xs ++ ds) h
  | .callK f as ks n m sl ds, sm, h => (evEs g as sm h).bind fun xs h => (evEs g ks sm h).bind fun zs h => callO (g.call f) (pickL n m sl ds xs zs) h
  | .fmt a, sm, h => (evE g a sm h).bind fun x h => fmtR x h
  | .fld a f, sm, h => (evE g a sm h).bind fun x h => fldR x f h
  | .fs as, sm, h => (evFs g as Str.empty sm h).bind fun s h => .ok (.str s) h
  | .bi f as, sm, h => (evEs g as sm h).bind fun xs h => bi f xs h
  | .meth m o as, sm, h => (evE g o sm h).bind fun x h => if kind h x = some (mkind m) then (evEs g as sm h).bind fun xs h => meth m x xs h else .bad
  | .lc elt tg it ifs own, sm, h => (evI g it sm h).bind fun it h =>
    (lcGo it (fun x h => match bindT tg x (wipeM sm own) with
      | none => .bad
      | some sm => match evTs g ifs sm h with
        | .ok true h => match evE g elt sm h with
          | .ok y h => .ok (some y) h
          | _ => .bad
        | .ok false h => .ok none h
        | _ => .bad) h.length (turns h it + 1) 0 (h ++ [.list []]))
def evEs (g : Genv) : MEs → Sm → Hm → Res (List MV)
  | .nil, _, h => .ok [] h
  | .cons a as, sm, h => (evE g a sm h).bind fun x h => (evEs g as sm h).bind fun xs h => .ok (x :: xs) h
def evFs (g : Genv) : MEs → Str → Sm → Hm → Res Str
  | .nil, acc, _, h => .ok acc h
  | .cons a as, acc, sm, h => (evE g a sm h).bind fun x h => (catR acc x h).bind fun acc h => evFs g as acc sm h
/-- all tests hold (at most one) -/
def evTs (g : Genv) : MEs → Sm → Hm → Res Bool
  | .nil, _, h => .ok true h
  | .cons a .nil, sm, h => (evE g a sm h).bind fun x h => match truth h x with
    | some k => .ok k h
    | none => .bad
  | .cons _ (.cons _ _), _, _ => .bad
def evI (g : Genv) : MI → Sm → Hm → Res IT
  | .val e, sm, h => (evE g e sm h).bind fun x h => itVal x h
  | .rng1 a, sm, h => (evE g a sm h).bind fun x h => match x with
    | .int n => itRng 0 n 1 h
    | _ => .bad
  | .rng2 a b, sm, h => (evE g a sm h).bind fun x h => (evE g b sm h).bind fun y h => match x, y with
    | .int m, .int n => itRng m n 1 h
    | _, _ => .bad
  | .rng3 a b c, sm, h => (evE g a sm h).bind fun x h => (evE g b sm h).bind fun y h => (evE g c sm h).bind fun z h => match x, y, z with
    | .int m, .int n, .int k => if k = -1 then itRng m n k h else .bad
    | _, _, _ => .bad
  | .zip a b, sm, h => (evE g a sm h).bind fun x h => (evE g b sm h).bind fun y h => itZip x y h
  | .enum a, sm, h => (evE g a sm h).bind fun x h => itEnum x h
  | .rev a, sm, h => (evE g a sm h).bind fun x h => itRev x h
end

/-! ### statements -/
mutual
inductive MS where
  | set (i : Nat) (e : ME) | unp (is : List Nat) (e : ME) | par (i j : Nat) (as : MEs)
  | setIx (o i e : ME) | setF (o : ME) (f : Str) (e : ME)
  | expr (e : ME) | ret (e : ME) | retN
  | ife (t : ME) (a b : MSs)
  | for (tg : MT) (it : MI) (body : MSs)
  | while (t : ME) (body : MSs)
  | pass | brk | cnt
  | aug (i : Nat) (op : BK) (e : ME)
inductive MSs where
  | nil | cons (s : MS) (ss : MSs)
end
inductive Fl where
  | nx (sm : Sm) | brk (sm : Sm) | cnt (sm : Sm) | ret (v : MV)
inductive SRes where
  | fl (f : Fl) (h : Hm) | exc (c : Str) (e : Nat) (sm : Sm) (h : Hm) | bad
/-- an expression's answer ahead of a statement's end -/
def Res.on {α : Type} (r : Res α) (sm : Sm) (f : α → Hm → SRes) : SRes :=
  match r with
  | .ok a h => f a h
  | .exc c e h => .exc c e sm h
  | .bad => .bad
def SRes.seq (r : SRes) (f : Sm → Hm → SRes) : SRes :=
  match r with
  | .fl (.nx sm) h => f sm h
  | r => r
def forGo (it : IT) (body : MV → Sm → Hm → SRes) : Nat → Nat → Sm → Hm → SRes
  | 0, _, _, _ => .bad
  | f + 1, k, sm, h => match nxt h it k with
    | none => .bad
    | some none => .fl (.nx sm) h
    | some (some x) => match body x sm h with
      | .fl (.nx sm') h' => forGo it body f (k + 1) sm' h'
      | .fl (.cnt sm') h' => forGo it body f (k + 1) sm' h'
      | .fl (.brk sm') h' => .fl (.nx sm') h'
      | r => r
def whileGo (test : Sm → Hm → Res Bool) (body : Sm → Hm → SRes) : Nat → Sm → Hm → SRes
  | 0, _, _ => .bad
  | f + 1, sm, h => (test sm h).on sm fun k h => match k with
    | false => .fl (.nx sm) h
    | true => match body sm h with
      | .fl (.nx sm') h' => whileGo test body f sm' h'
      | .fl (.cnt sm') h' => whileGo test body f sm' h'
      | .fl (.brk sm') h' => .fl (.nx sm') h'
      | r => r
def setFR (x : MV) (f : Str) (v : MV) (sm : Sm) (h : Hm) : SRes :=
  match x with
  | .ref j => match h[j]? with
    | some (.ins ci fs) => if ci.flds.contains f = true ∧ fs.length < 1000 then .fl (.nx sm) (h.set j (.ins ci (putFm f v fs))) else .bad
    | _ => .bad
  | _ => .bad
def whileMost : Nat := 1000000000000
mutual
def evS (g : Genv) : MS → Sm → Hm → SRes
  | .set i e, sm, h => (evE g e sm h).on sm fun x h => .fl (.nx (sm.set i (some x))) h
  | .unp is e, sm, h => (evE g e sm h).on sm fun x h => match x with
    | .tup xs => match bindN is xs sm with
      | some sm => .fl (.nx sm) h
      | none => .bad
    | _ => .bad
  | .par i j as, sm, h => (evEs g as sm h).on sm fun xs h => match xs with
    | [x, y] => .fl (.nx ((sm.set i (some x)).set j (some y))) h
    | _ => .bad
  | .setIx o i e, sm, h => (evE g e sm h).on sm fun v h => (evE g o sm h).on sm fun x h => (evE g i sm h).on sm fun y h => match x with
    | .ref j => match h[j]? with
      | some (.list xs) => match y with
        | .int k => match L2.ixN xs.length k with
          | some p => .fl (.nx sm) (h.set j (.list (xs.set p v)))
          | none => .bad
        | _ => .bad
      | some (.dict kvs) => match keyOf y with
        | some k => if kvs.length < sizeLine then .fl (.nx sm) (h.set j (.dict (mPut kvs k v))) else .bad
        | none => .bad
      | _ => .bad
    | _ => .bad
  | .setF o f e, sm, h => (evE g e sm h).on sm fun v h => (evE g o sm h).on sm fun x h => setFR x f v sm h
  | .expr e, sm, h => (evE g e sm h).on sm fun _ h => .fl (.nx sm) h
  | .ret e, sm, h => (evE g e sm h).on sm fun x h => .fl (.ret x) h
  | .retN, _, h => .fl (.ret .non) h
  | .ife t a b, sm, h => (evE g t sm h).on sm fun x h => match truth h x with
    | some true => evSs g a sm h
    | some false => evSs g b sm h
    | none => .bad
  | .for tg it body, sm, h => (evI g it sm h).on sm fun it h =>
    forGo it (fun x sm h => match bindT tg x sm with
      | some sm => evSs g body sm h
      | none => .bad) (turns h it + 1) 0 sm h
  | .while t body, sm, h => whileGo (fun sm h => (evE g t sm h).bind fun x h => match truth h x with
      | some k => .ok k h
      | none => .bad) (fun sm h => evSs g body sm h) whileMost sm h
  | .pass, sm, h => .fl (.nx sm) h
  | .brk, sm, h => .fl (.brk sm) h
  | .cnt, sm, h => .fl (.cnt sm) h
  | .aug i op e, sm, h => match sm[i]? with
    | some (some x) => (evE g e sm h).on sm fun y h => (augOp op x y h).on sm fun z h => .fl (.nx (sm.set i (some z))) h
    | _ => .bad
def evSs (g : Genv) : MSs → Sm → Hm → SRes
  | .nil, sm, h => .fl (.nx sm) h
  | .cons s ss, sm, h => (evS g s sm h).seq fun sm h => evSs g ss sm h
end

/-! ### defs -/
structure Def where
  /-- parameters, names, the body -/
  ps : Nat
  ns : Nat
  body : MSs
/-- a class that is called: what is known of it, the def that makes -/
structure Ki where
  ci : CI
  init : Str
structure Prog where
  defs : Str → Option Def
  cons : Str → Option MV
  cls : Str → Option Ki := fun _ => none
/-- an instance is made -/
def mkR (ci : CI) (F : List MV → Hm → Res MV) (xs : List MV) (h : Hm) : Res MV :=
  (F (.ref h.length :: xs) (h ++ [.ins ci []])).bind fun v h' => if isNon v = true then .ok (.ref h.length) h' else .bad
def callN (p : Prog) : Nat → Str → List MV → Hm → Res MV
  | 0, _, _, _ => .bad
  | n + 1, f, xs, h => match p.defs f with
    | some d => if xs.length = d.ps then match evSs ⟨p.cons, callN p n⟩ d.body (xs.map some ++ List.replicate (d.ns - xs.length) none) h with
        | .fl (.ret v) h => .ok v h
        | .fl (.nx _) h => .ok .non h
        | .exc c e _ h => .exc c e h
        | _ => .bad
      else .bad
    | none => match p.cls f with
      | some k => mkR k.ci (callN p n k.init) xs h
      | none => .bad
end R

/-! R: from the program's own syntax to the small one. -/
namespace R
open PySem

/-- a call with keywords: how many by place, the names, whence each parameter's value comes -/
structure KSh where
  n : Nat
  ks : List Str
  sl : List Sl
/-- a def as callers know it: its parameters, the values of its defaults -/
structure DI where
  ps : List Str
  ds : List MV := []
  kws : List KSh := []
/-- a class: what is known, the def that makes -/
structure KI where
  ki : Ki
  d : DI
structure Pg where
  defs : List (Str × DI)
  cons : List Str := []
  exts : List (Str × Str) := []
  clss : List (Str × KI) := []
structure TC where
  pg : Pg
  N : List Str
  sc : Scope
  fn : Str → Bool := fun _ => true
def lkS {α : Type} : List (Str × α) → Str → Option α
  | [], _ => none
  | (y, a) :: r, x => if y = x then some a else lkS r x
def ixOf : List Str → Str → Option Nat
  | [], _ => none
  | y :: r, x => if y = x then some 0 else (ixOf r x).map (· + 1)
def isLocal (sc : Scope) (x : Str) : Bool := match sc.names.lookup x with
  | some .local => true
  | some .cell => true
  | _ => false
def isVis (sc : Scope) (x : Str) : Bool := match sc.names.lookup x with
  | some .local => true
  | some .cell => true
  | some .free => true
  | _ => false
def isGl (sc : Scope) (x : Str) : Bool := match sc.names.lookup x with
  | some .globalImplicit => true
  | _ => false
def typeNames : List (Str × String) := [("int", "int"), ("bool", "bool"), ("str", "str"), ("list", "list"), ("tuple", "tuple"), ("dict", "dict")]
/-- built-in functions and types that are called: the name, the machine's own, the small one -/
def bltF : List (Str × String × BI) := [("len", "len", .len), ("abs", "abs", .abs), ("sum", "sum", .sum), ("any", "any", .any), ("all", "all", .all), ("sorted", "sorted", .sorted), ("max", "max", .max), ("min", "min", .min), ("isinstance", "isinstance", .isinstance)]
def bltT : List (Str × String × BI) := [("int", "int", .int), ("str", "str", .str), ("list", "list", .list), ("tuple", "tuple", .tuple), ("set", "set", .set)]
def bltM : List (Str × MK) := [("append", .append), ("extend", .extend), ("pop", .pop), ("reverse", .reverse), ("clear", .clear), ("index", .index), ("setdefault", .setdefault), ("get", .get), ("split", .split), ("join", .join), ("partition", .partition), ("startswith", .startswith), ("strip", .strip)]
/-- built-in functions that a module's names may hold by import -/
def bltX : List (Str × BI) := [("math.gcd", .gcd)]
/-- built-in names that are looked up -/
def bltNames : List Str := ["int", "bool", "str", "tuple", "list", "dict", "len", "abs", "sum", "any", "all", "sorted", "max", "min", "isinstance", "set", "range", "zip", "enumerate", "reversed"]
def isGlob (c : TC) (x : Str) : Bool := isGl c.sc x && bltNames.contains x
def bkOf : Operator → Option BK
  | .Add => some .add
  | .Sub => some .sub
  | .Mult => some .mul
  | .FloorDiv => some .fdiv
  | .Mod => some .mod
  | .Pow => some .pow
  | _ => none
def ckOf : CmpOp → Expr → Option CK
  | .Eq, _ => some .eq
  | .NotEq, _ => some .ne
  | .Lt, _ => some .lt
  | .LtE, _ => some .le
  | .Gt, _ => some .gt
  | .GtE, _ => some .ge
  | .Is, .Constant .none _ _ => some .isnone
  | .IsNot, .Constant .none _ _ => some .notnone
  | .In, .Set _ _ _ => none
  | .NotIn, .Set _ _ _ => none
  | .In, _ => some .isin
  | .NotIn, _ => some .notin
  | _, _ => none
def mapEs (f : Expr → Option ME) : List Expr → Option MEs
  | [] => some .nil
  | e :: es => match f e, mapEs f es with
    | some a, some as => some (.cons a as)
    | _, _ => none
def foldB (mk : ME → ME → ME) (f : Expr → Option ME) : List Expr → Option ME
  | [] => none
  | [e] => f e
  | e :: e' :: es => match f e, foldB mk f (e' :: es) with
    | some a, some b => some (mk a b)
    | _, _ => none
def mapO (f : Expr → Option ME) : Option Expr → Option MEs
  | none => some .nil
  | some e => (f e).map fun a => .cons a .nil
def noStar (es : List Expr) : Bool := es.all fun
  | .Starred _ _ => false
  | _ => true
def isStore (c : TC) (x : Str) : Bool := match c.sc.names.lookup x with
  | some .local => true
  | some .cell => c.fn x
  | _ => false
def nameIx (c : TC) : Expr → Option Nat
  | .Name x _ => if isStore c x = true then ixOf c.N x else none
  | _ => none
def allNames (c : TC) : List Expr → Option (List Nat)
  | [] => some []
  | e :: es => match nameIx c e, allNames c es with
    | some i, some is => some (i :: is)
    | _, _ => none
def trT (c : TC) : Expr → Option MT
  | .Tuple ts _ _ => (allNames c ts).map .tp
  | e => (nameIx c e).map .nm
def tgIn (t : MT) (own : List Nat) : Bool := match t with
  | .nm i => own.contains i
  | .tp is => is.all fun i => own.contains i
def ownOf (N : List Str) (scope : Scope) : List (Str × Nat) :=
  scope.names.filterMap fun p => match p.2 with
    | .local => (ixOf N p.1).map fun i => (p.1, i)
    | .cell => (ixOf N p.1).map fun i => (p.1, i)
    | _ => none
/-- inside a comprehension's block -/
def inner (c : TC) (scope : Scope) : TC := { c with sc := L2.relS scope c.sc, fn := fun x => scope.names.lookup x == some .cell }
def isTupE : Expr → Bool
  | .Tuple _ _ _ => true
  | _ => false
/-- no call that might be super() -/
def plainBase : Expr → Bool
  | .Call (.Name _ _) [] [] _ => false
  | _ => true
def kwNames : List Keyword → Option (List Str)
  | [] => some []
  | k :: ks => match k.arg, kwNames ks with
    | some x, some xs => some (x :: xs)
    | _, _ => none
def shOf (n : Nat) (ks : List Str) : List KSh → Option KSh
  | [] => none
  | z :: r => if z.n = n ∧ z.ks = ks then some z else shOf n ks r
mutual
def trE : Nat → TC → Expr → Option ME
  | 0, _, _ => none
  | n + 1, c, e => match e with
    | .Constant .none _ _ => some (.lit .non)
    | .Constant (.bool b) _ _ => some (.lit (.bl b))
    | .Constant (.int i) _ _ => some (.lit (.int i))
    | .Constant (.str s) _ _ => some (.lit (.str s))
    | .Name x _ =>
      if isVis c.sc x = true then (ixOf c.N x).map .var
      else if isGl c.sc x = true then
        if c.pg.cons.contains x = true then some (.con x)
        else if isGlob c x = true then (lkS typeNames x).map fun t => .lit (.ty t) else none
      else none
    | .BinOp a op b _ => match bkOf op, trE n c a, trE n c b with
      | some op, some a, some b => some (.bin op a b)
      | _, _, _ => none
    | .UnaryOp .USub a _ => (trE n c a).map .neg
    | .UnaryOp .Not a _ => (trE n c a).map .not
    | .BoolOp .And es _ => foldB .and (trE n c) es
    | .BoolOp .Or es _ => foldB .or (trE n c) es
    | .IfExp t a b _ => match trE n c t, trE n c a, trE n c b with
      | some t, some a, some b => some (.ife t a b)
      | _, _, _ => none
    | .Compare a [op] [b] _ => match ckOf op b, trE n c a, trE n c b with
      | some op, some a, some b => some (.cmp op a b)
      | _, _, _ => none
    | .Compare a [op, op'] [b, d] _ => match ckOf op b, ckOf op' d, trE n c a, trE n c b, trE n c d with
      | some op, some op', some a, some b, some d => some (.chn op op' a b d)
      | _, _, _, _, _ => none
    | .Tuple es _ _ => if noStar es = true then (mapEs (trE n c) es).map .tup else none
    | .List es _ => if noStar es = true then (mapEs (trE n c) es).map .lst else none
    | .Dict [] [] _ => some .dnew
    | .Subscript a (.Slice lo hi none _) _ => match trE n c a, mapO (trE n c) lo, mapO (trE n c) hi with
      | some a, some lo, some hi => some (.slc a lo hi)
      | _, _, _ => none
    | .Subscript a (.Slice none none (some (.UnaryOp .USub (.Constant (.int 1) _ _) _)) _) _ => (trE n c a).map .rev
    | .Subscript a i _ => match i with
      | .Slice _ _ _ _ => none
      | i => match trE n c a, trE n c i with
        | some a, some i => some (.ix a i)
        | _, _ => none
    | .Call (.Name x _) es [] _ => if noStar es = true ∧ isGl c.sc x = true then match mapEs (trE n c) es with
        | none => none
        | some as => match lkS c.pg.defs x with
          | some d => if es.length ≤ d.ps.length ∧ d.ps.length ≤ es.length + d.ds.length then some (.call x as (d.ds.drop (es.length + d.ds.length - d.ps.length))) else none
          | none => match lkS c.pg.clss x with
          | some k => if es.length + 1 ≤ k.d.ps.length ∧ k.d.ps.length ≤ es.length + 1 + k.d.ds.length then some (.call x as (k.d.ds.drop (es.length + 1 + k.d.ds.length - k.d.ps.length))) else none
          | none => if es = [] then none else match lkS c.pg.exts x with
            | some b => (lkS bltX b).map fun b => .bi b as
            | none => if isGlob c x = true then match lkS bltF x with
                | some b => some (.bi b.2 as)
                | none => (lkS bltT x).map fun b => .bi b.2 as
              else none
      else none
    | .Call (.Name x _) es (kw :: kws) _ => if noStar es = true ∧ isGl c.sc x = true then match lkS c.pg.defs x, kwNames (kw :: kws) with
        | some d, some ks => match shOf es.length ks d.kws, mapEs (trE n c) es, mapEs (trE n c) ((kw :: kws).map (·.value)) with
          | some z, some as, some bs => some (.callK x as bs z.n z.ks.length z.sl d.ds)
          | _, _, _ => none
        | _, _ => none
      else none
    | .FormattedValue a cv none _ => if cv = -1 then (trE n c a).map .fmt else none
    | .JoinedStr [v] _ => match v with
      | .FormattedValue _ _ _ _ => trE n c v
      | _ => none
    | .JoinedStr (v :: v' :: vs) _ => (mapEs (trE n c) (v :: v' :: vs)).map .fs
    | .Call (.Attribute o m ap) es [] cp => if noStar es = true ∧ plainBase o = true ∧ (ap.endLine == cp.line) = true ∧ es.length < 29 then match trE n c o, mapEs (trE n c) es, lkS bltM m with
        | some o, some as, some m => some (.meth m o as)
        | _, _, _ => none
      else none
    | .Attribute o f _ => if plainBase o = true then (trE n c o).map fun o => .fld o f else none
    | .ListComp elt [⟨tg, it, ifs, 0⟩] scope _ =>
      if L2.blkC c.N c.sc scope (ownOf c.N scope) = true ∧ ifs.length ≤ 1 then
        match trI n c tg it, trT (inner c scope) tg, mapEs (trE n (inner c scope)) ifs, trE n (inner c scope) elt with
        | some it, some tg, some ifs, some elt => if tgIn tg ((ownOf c.N scope).map (·.2)) = true then some (.lc elt tg it ifs ((ownOf c.N scope).map (·.2))) else none
        | _, _, _, _ => none
      else none
    | _ => none
def trI : Nat → TC → Expr → Expr → Option MI
  | 0, _, _, _ => none
  | n + 1, c, tg, e => match e with
    | .Call (.Name x _) es [] _ =>
      if x = "range" ∧ isGlob c x = true then match es with
        | [a] => (trE n c a).map .rng1
        | [a, b] => match trE n c a, trE n c b with
          | some a, some b => some (.rng2 a b)
          | _, _ => none
        | [a, b, d] => match trE n c a, trE n c b, trE n c d with
          | some a, some b, some d => some (.rng3 a b d)
          | _, _, _ => none
        | _ => none
      else if x = "zip" ∧ isGlob c x = true ∧ isTupE tg = true then match es with
        | [a, b] => match trE n c a, trE n c b with
          | some a, some b => some (.zip a b)
          | _, _ => none
        | _ => none
      else if x = "enumerate" ∧ isGlob c x = true ∧ isTupE tg = true then match es with
        | [a] => (trE n c a).map .enum
        | _ => none
      else if x = "reversed" ∧ isGlob c x = true then match es with
        | [a] => (trE n c a).map .rev
        | _ => none
      else (trE n c e).map .val
    | .Set _ _ _ => none
    | e => (trE n c e).map .val
end

/-- the stores of a pair of names are exchanged: all names, local, unlike, on one line, not constants alone -/
def parOk (c : TC) (ts vs : List Expr) : Bool :=
  match ts with
  | [.Name x px, .Name y py] => decide (c.sc.names.lookup x = some .local) && decide (c.sc.names.lookup y = some .local) && (px.line == py.line) && decide (x ≠ y) && !(vs.all (foldedForSure 8)) && !(vs.all (constantsAlone 8)) && noStar vs && decide (vs.length = 2)
  | _ => false
/-- no stores are exchanged -/
def noPar (c : TC) (ts vs : List Expr) : Bool :=
  !(ts.length == 2 || ts.length == 3) || vs.length != ts.length || vs.all (foldedForSure 8) ||
    (let line := (ts.head?.map (·.pos.line)).getD 0
     let names := ts.filterMap fun
      | .Name id pos => if c.sc.names.lookup id == some .local && pos.line == line then some id else none
      | _ => none
     names.length != ts.length || names.eraseDups.length != names.length)
def isSlice : Expr → Bool
  | .Slice _ _ _ _ => true
  | _ => false
def isLC : Expr → Bool
  | .ListComp _ _ _ _ => true
  | _ => false
/-- a list comprehension is stored before its block ends -/
def lcSwap (c : TC) (x : Str) (px : Pos) (e : Expr) : Bool := match e with
  | .ListComp _ _ scope pos => c.sc.names.lookup x == some .local && px.line == pos.line && !(scope.names.any fun (n, k) => n == x && (k == .local || k == .cell))
  | _ => false
mutual
def trS : Nat → TC → Stmt → Option MS
  | 0, _, _ => none
  | n + 1, c, s => match s with
    | .Assign [.Name x _] e _ => match nameIx c (.Name x ⟨0, 0, 0, 0⟩), trE n c e with
      | some i, some e => some (.set i e)
      | _, _ => none
    | .Assign [.Tuple ts _ _] e _ => match allNames c ts with
      | none => none
      | some is => match e with
        | .Tuple vs k p => if parOk c ts vs = true then match is, mapEs (trE n c) vs with
            | [i, j], some vs => some (.par i j vs)
            | _, _ => none
          else if noPar c ts vs = true then (trE n c (.Tuple vs k p)).map (.unp is) else none
        | .ListComp _ _ _ _ => none
        | e => (trE n c e).map (.unp is)
    | .Assign [.Subscript o i _] e _ => if isSlice i = true then none else match trE n c o, trE n c i, trE n c e with
      | some o, some i, some e => some (.setIx o i e)
      | _, _, _ => none
    | .Assign [.Attribute o f _] e _ => match trE n c o, trE n c e with
      | some o, some e => some (.setF o f e)
      | _, _ => none
    | .AugAssign (.Name x _) op e _ => match nameIx c (.Name x ⟨0, 0, 0, 0⟩), bkOf op, trE n c e with
      | some i, some op, some e => if op = .add ∨ op = .sub then some (.aug i op e) else none
      | _, _, _ => none
    | .Expr e _ => match e with
      | .ListComp _ _ _ _ => none
      | .Constant (.str _) _ _ => some .pass
      | e => (trE n c e).map .expr
    | .Return (some e) _ => (trE n c e).map .ret
    | .Return none _ => some .retN
    | .If t a b _ => match trE n c t, trSs n c a, trSs n c b with
      | some t, some a, some b => some (.ife t a b)
      | _, _, _ => none
    | .For tg it body [] _ => match trI n c tg it, trT c tg, trSs n c body with
      | some it, some tg, some body => some (.for tg it body)
      | _, _, _ => none
    | .While t body [] _ => match trE n c t, trSs n c body with
      | some t, some body => some (.while t body)
      | _, _ => none
    | .Pass _ => some .pass
    | .Break _ => some .brk
    | .Continue _ => some .cnt
    | _ => none
def trSs : Nat → TC → List Stmt → Option MSs
  | 0, _, _ => none
  | _ + 1, _, [] => some .nil
  | n + 1, c, s :: ss => match trS n c s, trSs n c ss with
    | some a, some as => some (.cons a as)
    | _, _ => none
end
end R

/-! R: soundness over the hand layer. -/
namespace R
open PySem PySem.Spec
open L2 (V Hp HO SqL SqT TE TS TT TA VK Cx PE PT PA PS PSs upd Rd RelV Dp DpAll)

/-! ### how values and heaps answer to the hand layer's -/
/-- the written part, the world -/
structure KW where
  f : PySem.W.Frag
  w : World
  ad : Str → Option Addr
instance : Coe KW PySem.W.Frag := ⟨KW.f⟩
/-- a tuple: tracked, or of the written part -/
def SqN (K : KW) (H : Hp) (a : Addr) (xs : List V) : Prop :=
  H a = some (.tup xs) ∨ ∃ (o : Obj) (its : Array Value) (n : Nat), K.f.lookup a = some o ∧ o.cls = .type "tuple" ∧ o.data = .seq its n ∧ its.size ≤ sizeLine ∧ L2.Vals xs its.toList
theorem SqN.sq {K : KW} {H : Hp} {a : Addr} {xs : List V} (h : SqN K H a xs) : SqT K H a xs := h.elim (fun h => .inl (.inl h)) .inr
theorem SqN.of {K : KW} {H : Hp} {a : Addr} {xs : List V} (h : H a = some (.tup xs)) : SqN K H a xs := .inl h
section
variable (K : KW) (H : Hp) (ι : List Addr)
mutual
inductive RV : MV → V → Prop where
  | non : RV .non .non
  | bl (b : Bool) : RV (.bl b) (.bl b)
  | int (i : Int) : RV (.int i) (.int i)
  | str (s : Str) : RV (.str s) (.str s)
  | ty (n : String) : RV (.ty n) (.ty n)
  | tup {a : Addr} {xs : List MV} {vs : List V} : SqN K H a vs → RVs xs vs → RV (.tup xs) (.ref a)
  | ref {i : Nat} {a : Addr} : ι[i]? = some a → RV (.ref i) (.ref a)
inductive RVs : List MV → List V → Prop where
  | nil : RVs [] []
  | cons {x : MV} {xs : List MV} {v : V} {vs : List V} : RV x v → RVs xs vs → RVs (x :: xs) (v :: vs)
end
/-- a list that is never changed -/
def FzL (a : Addr) (vs : List V) : Prop :=
  (∃ o, H a = some (.frz o (.lst vs))) ∨
    ∃ (o : Obj) (its : Array Value) (n : Nat), K.f.lookup a = some o ∧ o.cls = .type "list" ∧ o.dict = none ∧ o.data = .seq its n ∧ its.size ≤ sizeLine ∧ L2.Vals vs its.toList
inductive RK : List (L2.Key × MV) → List (L2.Key × V) → Prop where
  | nil : RK [] []
  | cons {k : L2.Key} {x : MV} {v : V} {xs : List (L2.Key × MV)} {vs : List (L2.Key × V)} : RV K H ι x v → RK xs vs → RK ((k, x) :: xs) ((k, v) :: vs)
/-- fields -/
inductive RF : List (Str × MV) → List (Str × V) → Prop where
  | nil : RF [] []
  | cons {k : Str} {x : MV} {v : V} {xs : List (Str × MV)} {vs : List (Str × V)} : RV K H ι x v → RF xs vs → RF ((k, x) :: xs) ((k, v) :: vs)
/-- the class at C is as it is told -/
structure ClsFact (ci : CI) (C : Addr) : Prop where
  ad : K.ad ci.name = some C
  cls : L2.Cls K.f C
  no : ∀ f, ci.flds.contains f = true → L2.NoAttr K.f C f
  ha : PySem.W.findIn K.f (.ref C) "__class__" = some (some (.builtin "object.__class__"))
  hn : PySem.W.specialIn K.f (.builtin "object.__class__") "__get__" = some (some (.builtin "getset_descriptor.__get__"))
  htk : PySem.W.takesIn K.f (.builtin "object.__class__") = some true
  hm : PySem.W.mroIn K.f C (.type "object") = some true
  bt : ∀ T, tyKnown T = true → PySem.W.kitOne K.f (.ref C) (.type T) = some false
  isi : ∀ c b, (c, b) ∈ ci.isi → ∃ C', K.ad c = some C' ∧ PySem.W.kitOne K.f (.ref C) (.ref C') = some b
inductive RO : MO → Addr → Prop where
  | list {xs : List MV} {a : Addr} {vs : List V} : H a = some (.lst vs) → RVs K H ι xs vs → RO (.list xs) a
  | frz {xs : List MV} {a : Addr} {vs : List V} : FzL K H a vs → RVs K H ι xs vs → RO (.frz xs) a
  | dict {xs : List (L2.Key × MV)} {a : Addr} {vs : List (L2.Key × V)} : H a = some (.dK vs) → RK K H ι xs vs → RO (.dict xs) a
  | set {ns : List Int} {a : Addr} {S : Int → Bool} : H a = some (L2.SetO K.w a S ns.length) → (∀ k, S k = ns.any fun j => decide (j = k)) → ns.Nodup → RO (.set ns) a
  | ins {ci : CI} {fs : List (Str × MV)} {a C dx : Addr} {vs : List (Str × V)} : H a = some (.ins C dx vs) → ClsFact K ci C → RF K H ι fs vs → RO (.ins ci fs) a
end
def isFrz : MO → Bool
  | .frz _ => true
  | _ => false
def frzAt (h : Hm) (i : Nat) : Prop := ∃ xs, h[i]? = some (.frz xs)
structure GH (K : KW) (ι : List Addr) (h : Hm) (H : Hp) : Prop where
  len : ι.length = h.length
  obj : ∀ (i : Nat) (o : MO) (a : Addr), h[i]? = some o → ι[i]? = some a → RO K H ι o a
  inj : ∀ (i j : Nat) (a : Addr), ι[i]? = some a → ι[j]? = some a → i = j ∨ frzAt h i ∨ frzAt h j
def RSm (K : KW) (H : Hp) (ι : List Addr) (sm : Sm) (σ : L2.St) : Prop := sm.length ≤ σ.length ∧ ∀ (i : Nat) (x : MV), sm[i]? = some (some x) → ∃ v, σ[i]? = some (some v) ∧ RV K H ι x v
/-- how the heap goes on -/
def Stp (K : KW) (H H' : Hp) : Prop := ∀ (a : Addr) (vs : List V), SqN K H a vs → SqN K H' a vs
def Ext (ι ι' : List Addr) : Prop := ∀ (i : Nat) (a : Addr), ι[i]? = some a → ι'[i]? = some a
theorem Stp.refl {K : KW} {H : Hp} : Stp K H H := fun _ _ h => h
theorem Stp.trans {K : KW} {H H1 H2 : Hp} (a : Stp K H H1) (b : Stp K H1 H2) : Stp K H H2 := fun c vs h => b c vs (a c vs h)
theorem Ext.refl {ι : List Addr} : Ext ι ι := fun _ _ h => h
theorem Ext.trans {ι ι1 ι2 : List Addr} (a : Ext ι ι1) (b : Ext ι1 ι2) : Ext ι ι2 := fun i c h => b i c (a i c h)
theorem Ext.push {ι : List Addr} {p : Addr} : Ext ι (ι ++ [p]) := fun i a h => by
  rw [List.getElem?_append_left (List.getElem?_eq_some_iff.mp h).1]; exact h
section
variable {K : KW} {H H' : Hp} {ι ι' : List Addr}
mutual
theorem RV.mono (e : Ext ι ι') (s : Stp K H H') : ∀ {x : MV} {v : V}, RV K H ι x v → RV K H' ι' x v
  | _, _, .non => .non
  | _, _, .bl b => .bl b
  | _, _, .int i => .int i
  | _, _, .str i => .str i
  | _, _, .ty i => .ty i
  | _, _, .tup h r => .tup (s _ _ h) (RVs.mono e s r)
  | _, _, .ref h => .ref (e _ _ h)
theorem RVs.mono (e : Ext ι ι') (s : Stp K H H') : ∀ {x : List MV} {v : List V}, RVs K H ι x v → RVs K H' ι' x v
  | _, _, .nil => .nil
  | _, _, .cons h r => .cons (RV.mono e s h) (RVs.mono e s r)
end
theorem RK.mono (e : Ext ι ι') (s : Stp K H H') : ∀ {x : List (L2.Key × MV)} {v : List (L2.Key × V)}, RK K H ι x v → RK K H' ι' x v
  | _, _, .nil => .nil
  | _, _, .cons h r => .cons (h.mono e s) (RK.mono e s r)
theorem RF.mono (e : Ext ι ι') (s : Stp K H H') : ∀ {x : List (Str × MV)} {v : List (Str × V)}, RF K H ι x v → RF K H' ι' x v
  | _, _, .nil => .nil
  | _, _, .cons h r => .cons (h.mono e s) (RF.mono e s r)
theorem RF.length : ∀ {x : List (Str × MV)} {v : List (Str × V)}, RF K H ι x v → x.length = v.length
  | _, _, .nil => rfl
  | _, _, .cons _ r => by rw [List.length_cons, List.length_cons, RF.length r]
theorem RF.look : ∀ {x : List (Str × MV)} {v : List (Str × V)} {f : Str} {m : MV}, RF K H ι x v → x.lookup f = some m → ∃ u, v.lookup f = some u ∧ RV K H ι m u
  | _, _, f, m, .cons (k := k) h r, e => by
    rw [List.lookup_cons] at e ⊢
    cases hk : f == k with
    | true => rw [hk] at e; cases e; exact ⟨_, rfl, h⟩
    | false => rw [hk] at e; exact RF.look r e
theorem RF.put {f : Str} {y : MV} {u : V} (ry : RV K H ι y u) : ∀ {x : List (Str × MV)} {v : List (Str × V)}, RF K H ι x v → RF K H ι (putFm f y x) (L2.putF f u v)
  | _, _, .nil => .cons ry .nil
  | _, _, .cons (k := k) h r => by
    unfold putFm L2.putF
    by_cases e : k = f
    · rw [if_pos e, if_pos e]; exact .cons ry r
    · rw [if_neg e, if_neg e]; exact .cons h (RF.put ry r)
theorem RVs.length : ∀ {x : List MV} {v : List V}, RVs K H ι x v → x.length = v.length
  | _, _, .nil => rfl
  | _, _, .cons _ r => by rw [List.length_cons, List.length_cons, RVs.length r]
theorem RK.length : ∀ {x : List (L2.Key × MV)} {v : List (L2.Key × V)}, RK K H ι x v → x.length = v.length
  | _, _, .nil => rfl
  | _, _, .cons _ r => by rw [List.length_cons, List.length_cons, RK.length r]
theorem RVs.append : ∀ {x y : List MV} {v w : List V}, RVs K H ι x v → RVs K H ι y w → RVs K H ι (x ++ y) (v ++ w)
  | _, _, _, _, .nil, s => s
  | _, _, _, _, .cons h r, s => .cons h (RVs.append r s)
theorem RVs.get : ∀ {x : List MV} {v : List V} {i : Nat} {m : MV}, RVs K H ι x v → x[i]? = some m → ∃ u, v[i]? = some u ∧ RV K H ι m u
  | _, _, 0, _, .cons h r, e => by simp at e; subst e; exact ⟨_, rfl, h⟩
  | _, _, i + 1, _, .cons h r, e => by
    obtain ⟨u, h1, h2⟩ := RVs.get (i := i) r (by simpa using e)
    exact ⟨u, by simpa using h1, h2⟩
  | _, _, _, _, .nil, e => by simp at e
theorem RSm.mono {sm : Sm} {σ : L2.St} (e : Ext ι ι') (s : Stp K H H') (r : RSm K H ι sm σ) : RSm K H' ι' sm σ := ⟨r.1, fun i x h => by
  obtain ⟨v, h1, h2⟩ := r.2 i x h
  exact ⟨v, h1, h2.mono e s⟩⟩
theorem RSm.set {sm : Sm} {σ : L2.St} {x : MV} {v : V} (i : Nat) (r : RSm K H ι sm σ) (h : RV K H ι x v) : RSm K H ι (sm.set i (some x)) (σ.set i (some v)) := ⟨by rw [List.length_set, List.length_set]; exact r.1, fun j y e => by
  by_cases hj : i = j
  · subst hj
    have hlt : i < sm.length := by
      have := (List.getElem?_eq_some_iff.mp e).1
      simpa using this
    rw [List.getElem?_set_self hlt] at e
    cases e
    exact ⟨v, by rw [List.getElem?_set_self (Nat.lt_of_lt_of_le hlt r.1)], h⟩
  · rw [List.getElem?_set_ne hj] at e
    obtain ⟨w, h1, h2⟩ := r.2 j y e
    exact ⟨w, by rw [List.getElem?_set_ne hj]; exact h1, h2⟩⟩

/-! ### new and changed objects -/
/-- what a tuple is, is not changed -/
theorem stp_new {p : Addr} {o : HO} (hp : H p = none) : Stp K H (upd H p o) := fun a vs h => by
  rcases h with h | h
  · have ne : a ≠ p := by
      rintro rfl
      rw [hp] at h; cases h
    exact .inl (by rw [L2.upd_ne ne]; exact h)
  · exact .inr h
/-- the kinds that may change -/
def Chg : HO → Prop
  | .lst _ => True
  | .dK _ => True
  | .set _ _ => True
  | .ins _ _ _ => True
  | _ => False
theorem stp_upd {p : Addr} {o o' : HO} (hp : H p = some o) (c : Chg o) : Stp K H (upd H p o') := fun a vs h => by
  rcases h with h | h
  · have ne : a ≠ p := by
      rintro rfl
      rw [hp] at h; cases h; exact c
    exact .inl (by rw [L2.upd_ne ne]; exact h)
  · exact .inr h
/-- an object's answer is kept where its address is -/
theorem RO.keep {o : MO} {a : Addr} (e : Ext ι ι') (s : Stp K H H') (k : ∀ u, H a = some u → H' a = some u) (r : RO K H ι o a) : RO K H' ι' o a := by
  cases r with
  | list h r => exact .list (k _ h) (r.mono e s)
  | frz h r =>
    refine .frz ?_ (r.mono e s)
    rcases h with ⟨ob, h⟩ | h
    · exact .inl ⟨ob, k _ h⟩
    · exact .inr h
  | dict h r => exact .dict (k _ h) (r.mono e s)
  | set h r n => exact .set (k _ h) r n
  | ins h c r => exact .ins (k _ h) c (r.mono e s)
theorem GH.get {h : Hm} (g : GH K ι h H) {i : Nat} {o : MO} (e : h[i]? = some o) : ∃ a, ι[i]? = some a ∧ RO K H ι o a := by
  have hlt := (List.getElem?_eq_some_iff.mp e).1
  rw [← g.len] at hlt
  exact ⟨ι[i], List.getElem?_eq_getElem hlt, g.obj i o _ e (List.getElem?_eq_getElem hlt)⟩
theorem GH.new {h : Hm} (g : GH K ι h H) {p : Addr} {ho : HO} {o : MO} (hp : H p = none) (r : RO K (upd H p ho) (ι ++ [p]) o p) : GH K (ι ++ [p]) (h ++ [o]) (upd H p ho) := by
  have st : Stp K H (upd H p ho) := stp_new hp
  refine ⟨by simp [g.len], fun i ob a e1 e2 => ?_, fun i j a e1 e2 => ?_⟩
  · by_cases hi : i < h.length
    · rw [List.getElem?_append_left hi] at e1
      rw [List.getElem?_append_left (by rw [g.len]; exact hi)] at e2
      refine (g.obj i ob a e1 e2).keep Ext.push st fun u q => ?_
      rw [L2.upd_ne (L2.ne_of_none q hp)]
      exact q
    · have : i = h.length := by
        have := (List.getElem?_eq_some_iff.mp e1).1
        simp at this
        omega
      subst this
      rw [List.getElem?_append_right (Nat.le_refl _)] at e1
      rw [← g.len, List.getElem?_append_right (Nat.le_refl _)] at e2
      simp at e1 e2
      subst e1 e2
      exact r
  · by_cases hi : i < h.length
    · by_cases hj : j < h.length
      · rw [List.getElem?_append_left (by rw [g.len]; exact hi)] at e1
        rw [List.getElem?_append_left (by rw [g.len]; exact hj)] at e2
        rcases g.inj i j a e1 e2 with z | ⟨xs, z⟩ | ⟨xs, z⟩
        · exact .inl z
        · exact .inr (.inl ⟨xs, by rw [List.getElem?_append_left hi]; exact z⟩)
        · exact .inr (.inr ⟨xs, by rw [List.getElem?_append_left hj]; exact z⟩)
      · have hj' : j = h.length := by
          have := (List.getElem?_eq_some_iff.mp e2).1
          simp [g.len] at this
          omega
        subst hj'
        rw [← g.len, List.getElem?_append_right (Nat.le_refl _)] at e2
        simp at e2
        subst e2
        rw [List.getElem?_append_left (by rw [g.len]; exact hi)] at e1
        cases ho' : h[i]? with
        | none => exact absurd (List.getElem?_eq_none_iff.mp ho') (by omega)
        | some ob =>
          have q := g.obj i ob p ho' e1
          cases q with
          | list h' _ => rw [hp] at h'; cases h'
          | frz _ _ => exact .inr (.inl ⟨_, by rw [List.getElem?_append_left hi]; exact ho'⟩)
          | dict h' _ => rw [hp] at h'; cases h'
          | set h' _ _ => rw [hp] at h'; cases h'
          | ins h' _ _ => rw [hp] at h'; cases h'
    · have hi' : i = h.length := by
        have := (List.getElem?_eq_some_iff.mp e1).1
        simp [g.len] at this
        omega
      subst hi'
      by_cases hj : j < h.length
      · rw [← g.len, List.getElem?_append_right (Nat.le_refl _)] at e1
        simp at e1
        subst e1
        rw [List.getElem?_append_left (by rw [g.len]; exact hj)] at e2
        cases ho' : h[j]? with
        | none => exact absurd (List.getElem?_eq_none_iff.mp ho') (by omega)
        | some ob =>
          have q := g.obj j ob p ho' e2
          cases q with
          | list h' _ => rw [hp] at h'; cases h'
          | frz _ _ => exact .inr (.inr ⟨_, by rw [List.getElem?_append_left hj]; exact ho'⟩)
          | dict h' _ => rw [hp] at h'; cases h'
          | set h' _ _ => rw [hp] at h'; cases h'
          | ins h' _ _ => rw [hp] at h'; cases h'
      · have : j = h.length := by
          have := (List.getElem?_eq_some_iff.mp e2).1
          simp [g.len] at this
          omega
        exact .inl this.symm
theorem GH.upd {h : Hm} (g : GH K ι h H) {j : Nat} {p : Addr} {ho ho' : HO} {o : MO} (hj : ι[j]? = some p) (hp : H p = some ho) (c : Chg ho) (nf : ¬ frzAt h j) (r : RO K (L2.upd H p ho') ι o p) (nf' : isFrz o = false) :
    GH K ι (h.set j o) (L2.upd H p ho') := by
  have st : Stp K H (L2.upd H p ho') := stp_upd hp c
  have fz : ∀ i, i ≠ j → frzAt h i → frzAt (h.set j o) i := fun i ne ⟨xs, z⟩ => ⟨xs, by rw [List.getElem?_set_ne (Ne.symm ne)]; exact z⟩
  refine ⟨by simp [g.len], fun i ob a e1 e2 => ?_, fun i k a e1 e2 => ?_⟩
  · by_cases hi : i = j
    · subst hi
      have hlt : i < h.length := by
        have := (List.getElem?_eq_some_iff.mp e1).1
        simpa using this
      rw [List.getElem?_set_self hlt] at e1
      cases e1
      rw [hj] at e2
      cases e2
      exact r
    · rw [List.getElem?_set_ne (Ne.symm hi)] at e1
      have q := g.obj i ob a e1 e2
      by_cases ha : a = p
      · subst ha
        rcases g.inj i j a e2 hj with z | ⟨xs, z⟩ | z
        · exact absurd z hi
        · rw [z] at e1
          cases e1
          cases q with
          | frz h' r' =>
            rcases h' with ⟨ob', h'⟩ | h'
            · rw [hp] at h'; cases h'; exact c.elim
            · exact .frz (.inr h') (r'.mono Ext.refl st)
        · exact absurd z nf
      · exact q.keep Ext.refl st fun u q' => by rw [L2.upd_ne ha]; exact q'
  · rcases g.inj i k a e1 e2 with z | z | z
    · exact .inl z
    · by_cases hi : i = j
      · subst hi; exact absurd z nf
      · exact .inr (.inl (fz i hi z))
    · by_cases hk : k = j
      · subst hk; exact absurd z nf
      · exact .inr (.inr (fz k hk z))
end

/-! ### readings by the small evaluation -/
abbrev Wish := Str → Nat → Hm → List Addr → L2.St → Hp → Prop
section
variable (K : KW) (Wm : Wish)
/-- an answer of the small evaluation, from numbers ι and heap H on -/
def AtR {α : Type} (σ : L2.St) (ι : List Addr) (H : Hp) (r : Res α) (P : α → Hm → List Addr → Hp → Prop) : Prop :=
  match r with
  | .ok x h' => ∀ ι' H', Ext ι ι' → Stp K H H' → GH K ι' h' H' → P x h' ι' H'
  | .exc c e h' => ∀ ι' H', Ext ι ι' → Stp K H H' → GH K ι' h' H' → Wm c e h' ι' σ H'
  | .bad => False
/-- at some numbers, small heap and small places -/
def Sta {α : Type} (ev : Sm → Hm → Res α) (σ : L2.St) (H : Hp) (P : α → Hm → List Addr → Hp → Prop) : Prop :=
  ∃ ι h sm, GH K ι h H ∧ RSm K H ι sm σ ∧ AtR K Wm σ ι H (ev sm h) P
def tE (ev : Sm → Hm → Res MV) : TE := fun σ H Q => Sta K Wm ev σ H fun x _ ι' H' => ∀ v, RV K H' ι' x v → Q v H'
def tT (ev : Sm → Hm → Res Bool) : TT := fun σ H Q => Sta K Wm ev σ H fun k _ _ H' => Q k H'
def tA (ev : Sm → Hm → Res (List MV)) : TA := fun σ H Q => Sta K Wm ev σ H fun xs _ ι' H' => ∀ vs, RVs K H' ι' xs vs → Q vs H'
end
section
variable {K : KW} {Wm : Wish} {σ : L2.St} {ι ι' : List Addr} {H H' : Hp} {α β : Type}
theorem AtR.mono {r : Res α} {P P' : α → Hm → List Addr → Hp → Prop} (a : AtR K Wm σ ι H r P) (e : Ext ι ι') (s : Stp K H H') (f : ∀ x h ι2 H2, Ext ι' ι2 → Stp K H' H2 → GH K ι2 h H2 → P x h ι2 H2 → P' x h ι2 H2) : AtR K Wm σ ι' H' r P' := by
  cases r with
  | ok x h' => exact fun i2 H2 e2 s2 g => f x h' i2 H2 e2 s2 g (a i2 H2 (e.trans e2) (s.trans s2) g)
  | exc c k h' => exact fun i2 H2 e2 s2 g => a i2 H2 (e.trans e2) (s.trans s2) g
  | bad => exact a.elim
theorem AtR.bind {r : Res α} {f : α → Hm → Res β} {P : β → Hm → List Addr → Hp → Prop} (a : AtR K Wm σ ι H (r.bind f) P) : AtR K Wm σ ι H r fun x h1 ι1 H1 => AtR K Wm σ ι1 H1 (f x h1) P := by
  cases r with
  | ok x h' => exact fun i2 H2 e2 s2 _ => AtR.mono a e2 s2 fun _ _ _ _ _ _ _ q => q
  | exc c k h' => exact a
  | bad => exact a.elim
/-- the answer is there: one goes on -/
theorem AtR.ok {x : α} {h : Hm} {P : α → Hm → List Addr → Hp → Prop} (a : AtR K Wm σ ι H (.ok x h) P) (g : GH K ι h H) : P x h ι H := a ι H .refl .refl g
/-- the part's reading from the whole's -/
theorem Sta.parts {ea : Sm → Hm → Res α} {f : Sm → α → Hm → Res β} {P : β → Hm → List Addr → Hp → Prop} (a : Sta K Wm (fun sm h => (ea sm h).bind (f sm)) σ H P) :
    Sta K Wm ea σ H fun x h1 ι1 H1 => ∃ sm, RSm K H1 ι1 sm σ ∧ GH K ι1 h1 H1 ∧ AtR K Wm σ ι1 H1 (f sm x h1) P := by
  obtain ⟨ι, h, sm, g, r, q⟩ := a
  exact ⟨ι, h, sm, g, r, q.bind.mono .refl .refl fun x h1 i1 H1 e1 s1 g1 z => ⟨sm, r.mono e1 s1, g1, z⟩⟩
theorem Sta.imp {ea : Sm → Hm → Res α} {P P' : α → Hm → List Addr → Hp → Prop} (a : Sta K Wm ea σ H P) (f : ∀ x h ι' H', GH K ι' h H' → P x h ι' H' → P' x h ι' H') : Sta K Wm ea σ H P' := by
  obtain ⟨ι, h, sm, g, r, q⟩ := a
  exact ⟨ι, h, sm, g, r, q.mono .refl .refl fun x h2 i2 H2 _ _ g2 z => f x h2 i2 H2 g2 z⟩
theorem Sta.of {ev : Sm → Hm → Res α} {sm : Sm} {h : Hm} {P : α → Hm → List Addr → Hp → Prop} (g : GH K ι h H) (r : RSm K H ι sm σ) (a : AtR K Wm σ ι H (ev sm h) P) : Sta K Wm ev σ H P := ⟨ι, h, sm, g, r, a⟩
end
theorem PE.imp {X : Cx} {e : Expr} {t t' : TE} (h : PE X e t) (f : ∀ σ H Q, t' σ H Q → t σ H Q) : PE X e t' := ⟨fun pins s σ H Q I q => h.run pins s σ H Q I (f σ H Q q)⟩
theorem PT.imp {X : Cx} {e : Expr} {t t' : TT} (h : PT X e t) (f : ∀ σ H Q, t' σ H Q → t σ H Q) : PT X e t' := ⟨fun pins s σ H Q I q => h.run pins s σ H Q I (f σ H Q q)⟩
theorem PW.imp {X : Cx} {e : Expr} {t t' : TT} (h : L2.PW X e t) (f : ∀ σ H Q, t' σ H Q → t σ H Q) : L2.PW X e t' := ⟨fun w pins s σ H Q I q => h.run w pins s σ H Q I (f σ H Q q)⟩
theorem PA.imp {X : Cx} {es : List Expr} {t t' : TA} (h : PA X es t) (f : ∀ σ H Q, t' σ H Q → t σ H Q) : PA X es t' := ⟨fun pos pins s σ H Q I q => h.run pos pins s σ H Q I (f σ H Q q)⟩
theorem PE.or {X : Cx} {e : Expr} {t t' : TE} (h : PE X e t) (h' : PE X e t') : PE X e (fun σ H Q => t σ H Q ∨ t' σ H Q) := ⟨fun pins s σ H Q I q => q.elim (h.run pins s σ H Q I) (h'.run pins s σ H Q I)⟩

/-- truth as an answer -/
def truthR (x : MV) (h : Hm) : Res Bool := match truth h x with
  | some k => .ok k h
  | none => .bad
section
variable {X : Cx} {ad : Str → Option Addr} {K : KW} {Wm : Wish} {g : Genv} {pos : Pos}
theorem s_lit {e : Expr} {x : MV} {v : V} (h : PE X e (L2.tC v)) (r : ∀ H ι, RV K H ι x v) : PE X e (tE K Wm (evE g (.lit x))) := PE.imp h fun σ H Q q => by
  obtain ⟨ι, h, sm, gh, rs, q⟩ := q
  exact (AtR.ok q gh) v (r H ι)
theorem s_var {i : Nat} {x : Str} (hN : X.N[i]? = some x) (hv : L2.Vis X.env.scope x) (hd : (x == ("__debug__" : Str)) = false) (hc : (x == ("__classdict__" : Str)) = false) : PE X (.Name x pos) (tE K Wm (evE g (.var i))) := PE.imp (L2.pe_var hN hv hd hc) fun σ H Q q => by
  obtain ⟨ι, h, sm, gh, rs, q⟩ := q
  have q : AtR K Wm σ ι H (match sm[i]? with
    | some (some v) => (.ok v h : Res MV)
    | _ => .bad) _ := q
  cases e : sm[i]? with
  | none => rw [e] at q; exact q.elim
  | some o =>
    cases o with
    | none => rw [e] at q; exact q.elim
    | some x =>
      rw [e] at q
      obtain ⟨v, h1, h2⟩ := rs.2 i x e
      exact ⟨v, h1, (AtR.ok q gh) v h2⟩
end

/-! ### parts, then the rest -/
section
variable {K : KW} {Wm : Wish} {σ : L2.St} {H : Hp} {β : Type}
theorem Sta.one {ea : Sm → Hm → Res MV} {f : MV → Hm → Res β} {P : β → Hm → List Addr → Hp → Prop} (a : Sta K Wm (fun sm h => (ea sm h).bind f) σ H P) :
    tE K Wm ea σ H fun v H1 => ∃ ι x h sm, GH K ι h H1 ∧ RSm K H1 ι sm σ ∧ RV K H1 ι x v ∧ AtR K Wm σ ι H1 (f x h) P :=
  (Sta.parts (f := fun _ => f) a).imp fun x h i1 H1 g1 ⟨sm, rs, _, q⟩ v rv => ⟨i1, x, h, sm, g1, rs, rv, q⟩
theorem Sta.two {ea eb : Sm → Hm → Res MV} {f : MV → MV → Hm → Res β} {P : β → Hm → List Addr → Hp → Prop} (a : Sta K Wm (fun sm h => (ea sm h).bind fun x h => (eb sm h).bind fun y h => f x y h) σ H P) :
    tE K Wm ea σ H fun v H1 => tE K Wm eb σ H1 fun u H2 => ∃ ι x y h sm, GH K ι h H2 ∧ RSm K H2 ι sm σ ∧ RV K H2 ι x v ∧ RV K H2 ι y u ∧ AtR K Wm σ ι H2 (f x y h) P :=
  (Sta.parts (f := fun sm x h => (eb sm h).bind fun y h => f x y h) a).imp fun x h i1 H1 g1 ⟨sm, rs, _, q⟩ v rv =>
    ⟨i1, h, sm, g1, rs, q.bind.mono .refl .refl fun y h2 i2 H2 e2 s2 g2 z u ru => ⟨i2, x, y, h2, sm, g2, rs.mono e2 s2, rv.mono e2 s2, ru, z⟩⟩
theorem Sta.three {ea eb ec : Sm → Hm → Res MV} {f : MV → MV → MV → Hm → Res β} {P : β → Hm → List Addr → Hp → Prop} (a : Sta K Wm (fun sm h => (ea sm h).bind fun x h => (eb sm h).bind fun y h => (ec sm h).bind fun z h => f x y z h) σ H P) :
    tE K Wm ea σ H fun v H1 => tE K Wm eb σ H1 fun u H2 => tE K Wm ec σ H2 fun w H3 => ∃ ι x y z h sm, GH K ι h H3 ∧ RSm K H3 ι sm σ ∧ RV K H3 ι x v ∧ RV K H3 ι y u ∧ RV K H3 ι z w ∧ AtR K Wm σ ι H3 (f x y z h) P :=
  (Sta.parts (f := fun sm x h => (eb sm h).bind fun y h => (ec sm h).bind fun z h => f x y z h) a).imp fun x h i1 H1 g1 ⟨sm, rs, _, q⟩ v rv =>
    ⟨i1, h, sm, g1, rs, q.bind.mono .refl .refl fun y h2 i2 H2 e2 s2 g2 z u ru =>
      ⟨i2, h2, sm, g2, rs.mono e2 s2, z.bind.mono .refl .refl fun y3 h3 i3 H3 e3 s3 g3 z3 w rw => ⟨i3, x, y, y3, h3, sm, g3, (rs.mono e2 s2).mono e3 s3, (rv.mono e2 s2).mono e3 s3, ru.mono e3 s3, rw, z3⟩⟩⟩
theorem Sta.args {ea : Sm → Hm → Res (List MV)} {f : List MV → Hm → Res β} {P : β → Hm → List Addr → Hp → Prop} (a : Sta K Wm (fun sm h => (ea sm h).bind f) σ H P) :
    tA K Wm ea σ H fun vs H1 => ∃ ι xs h sm, GH K ι h H1 ∧ RSm K H1 ι sm σ ∧ RVs K H1 ι xs vs ∧ AtR K Wm σ ι H1 (f xs h) P :=
  (Sta.parts (f := fun _ => f) a).imp fun x h i1 H1 g1 ⟨sm, rs, _, q⟩ v rv => ⟨i1, x, h, sm, g1, rs, rv, q⟩
theorem Sta.oneArgs {ea : Sm → Hm → Res MV} {eb : Sm → Hm → Res (List MV)} {f : MV → List MV → Hm → Res β} {P : β → Hm → List Addr → Hp → Prop} (a : Sta K Wm (fun sm h => (ea sm h).bind fun x h => (eb sm h).bind fun y h => f x y h) σ H P) :
    tE K Wm ea σ H fun v H1 => (∃ ι x h sm, GH K ι h H1 ∧ RSm K H1 ι sm σ ∧ RV K H1 ι x v ∧ AtR K Wm σ ι H1 ((eb sm h).bind fun y h => f x y h) P) ∧ tA K Wm eb σ H1 fun us H2 => ∃ ι x ys h sm, GH K ι h H2 ∧ RSm K H2 ι sm σ ∧ RV K H2 ι x v ∧ RVs K H2 ι ys us ∧ AtR K Wm σ ι H2 (f x ys h) P :=
  (Sta.parts (f := fun sm x h => (eb sm h).bind fun y h => f x y h) a).imp fun x h i1 H1 g1 ⟨sm, rs, _, q⟩ v rv =>
    ⟨⟨i1, x, h, sm, g1, rs, rv, q⟩, i1, h, sm, g1, rs, q.bind.mono .refl .refl fun y h2 i2 H2 e2 s2 g2 z u ru => ⟨i2, x, y, h2, sm, g2, rs.mono e2 s2, rv.mono e2 s2, ru, z⟩⟩
/-- a test of a value's evaluation -/
theorem tT_of {ea : Sm → Hm → Res MV} {f : MV → Hm → Res Bool} {Q : Bool → Hp → Prop} (a : tT K Wm (fun sm h => (ea sm h).bind f) σ H Q) :
    tE K Wm ea σ H fun v H1 => ∃ ι x h sm, GH K ι h H1 ∧ RSm K H1 ι sm σ ∧ RV K H1 ι x v ∧ AtR K Wm σ ι H1 (f x h) fun k _ _ H' => Q k H' := Sta.one a
end

/-! ### operations: any rule that there is -/
section
variable (X : Cx)
def rAny (f : Value → Value → Sem Value) : L2.R2 := fun v u H Q => ∃ r, L2.OpR X f r ∧ r v u H Q
end
section
variable {X : Cx} {ad : Str → Option Addr} {K : KW} {Wm : Wish} {g : Genv} {pos : Pos} {a b c : Expr} {ma mb mc : ME} {σ : L2.St} {ι : List Addr} {H : Hp} {h : Hm}
theorem op_any {f : Value → Value → Sem Value} : L2.OpR X f (rAny X f) := fun pins s σ H x y v u Q I rx ry ⟨r, hr, q⟩ => hr pins s σ H x y v u Q I rx ry q
abbrev PQ (K : KW) (Q : VK) : MV → Hm → List Addr → Hp → Prop := fun x _ ι' H' => ∀ v, RV K H' ι' x v → Q v H'
/-- // and % by any divisor but zero -/
theorem pow_bits {i j : Int} (h : 0 ≤ j ∧ j ≤ 100000 ∧ i.natAbs < 2 ^ 200) : (Builtin.Int.intBits i : Int) * j ≤ 2 ^ 27 := by
  have hb : Builtin.Int.intBits i ≤ 200 := by
    unfold Builtin.Int.intBits
    split
    · omega
    · rename_i hz
      have hz : i.natAbs ≠ 0 := fun e => hz (by rw [Int.natAbs_eq_zero.mp e]; rfl)
      have := (Nat.log2_lt hz).mpr h.2.2
      omega
  have h1 : (Builtin.Int.intBits i : Int) * j ≤ 200 * j := Int.mul_le_mul_of_nonneg_right (by omega) h.1
  omega
theorem mulOkS {a : Str} {k : Int} (h : 0 ≤ k ∧ k ≤ 100000 ∧ a.length ≤ 100) : MulOk a k := by
  refine ⟨?_, fun h1 _ => ?_, fun h1 _ => ?_⟩
  · rw [decide_eq_false (by omega), decide_eq_false (by omega)]; rfl
  · have : (2 ^ 63 - 1) / 100000 ≤ (2 ^ 63 - 1) / k := by
      refine (Int.le_ediv_iff_mul_le (by omega)).mpr ?_
      have : (2 ^ 63 - 1) / 100000 * k ≤ (2 ^ 63 - 1) / 100000 * 100000 := Int.mul_le_mul_of_nonneg_left h.2.1 (by decide)
      have e : ((2 : Int) ^ 63 - 1) / 100000 * 100000 ≤ 2 ^ 63 - 1 := by decide
      omega
    have e : (100 : Int) < (2 ^ 63 - 1) / 100000 := by decide
    omega
  · unfold Builtin.Str.tooLong
    have : a.length * k.toNat ≤ 100 * 100000 := Nat.mul_le_mul h.2.2 (by omega)
    rw [sizeLine_eq]
    exact decide_eq_false (by omega)
theorem op_mulS : L2.OpR X (binaryOp .Mult) (fun x y H Q => ∃ a k, x = V.str a ∧ y = V.int k ∧ (0 ≤ k ∧ k ≤ 100000 ∧ a.length ≤ 100) ∧ Q (.str (Txt.mul a k)) H) := by
  intro pins s σ H x y v u Q I rx ry h
  obtain ⟨a, k, rfl, rfl, hc, q⟩ := h
  obtain ⟨t, rfl⟩ := rx
  obtain ⟨t', rfl⟩ := ry
  exact SB.mul (mulOkS hc) fun t2 k2 => ⟨.str (Txt.mul a k), H, I.tok _, ⟨_, rfl⟩, q⟩
theorem op_powW : L2.OpR X (binaryOp .Pow) (L2.rI (fun i j => 0 ≤ j ∧ j ≤ 100000 ∧ i.natAbs < 2 ^ 200) fun i j => .int (i ^ j.toNat)) := L2.opI fun _ _ _ _ _ _ _ hc q => PyProof.Rows.pow_int hc.1 (pow_bits hc) q
theorem op_fdivZ : L2.OpR X (binaryOp .FloorDiv) (L2.rI (fun _ j => j ≠ 0 ∧ j.natAbs.log2 < 9000) fun i j => .int (i.fdiv j)) := L2.opI fun _ _ _ _ _ _ _ hc q => PyProof.Rows.floordiv_int hc.1 q (.inl (PyProof.noPylong_of_log2 hc.2))
theorem list_at (gh : GH K ι h H) {i : Nat} {a : Addr} {xs : List MV} (e : ι[i]? = some a) (q : mList h i = some xs) : ∃ vs, H a = some (.lst vs) ∧ RVs K H ι xs vs := by
  unfold mList at q
  split at q
  · cases q
    rename_i z
    have r := gh.obj i _ a z e
    cases r with
    | list h1 r1 => exact ⟨_, h1, r1⟩
  · cases q
theorem mList_at {i : Nat} {xs : List MV} (q : mList h i = some xs) : h[i]? = some (.list xs) := by
  unfold mList at q
  split at q
  · cases q; assumption
  · cases q
/-- a new object is handed on -/
theorem new_ok {o : MO} {ho : HO} {p : Addr} {P : MV → Hm → List Addr → Hp → Prop} (gh : GH K ι h H) (hp : H p = none) (r : RO K (upd H p ho) (ι ++ [p]) o p) (a : AtR K Wm σ ι H (new o h) P) : P (.ref h.length) (h ++ [o]) (ι ++ [p]) (upd H p ho) :=
  a _ _ Ext.push (stp_new hp) (gh.new hp r)
theorem rv_new {p : Addr} {H' : Hp} (gh : GH K ι h H) : RV K H' (ι ++ [p]) (.ref h.length) (.ref p) := .ref (by rw [← gh.len]; simp)
theorem flat_rep {K : KW} {H : Hp} {ι : List Addr} {xs : List MV} {vs : List V} (r : RVs K H ι xs vs) : ∀ n, RVs K H ι (List.replicate n xs).flatten (List.replicate n vs).flatten
  | 0 => .nil
  | n + 1 => by simp only [List.replicate_succ, List.flatten_cons]; exact r.append (flat_rep r n)
theorem binop_ok {op : Operator} {bop : BK} (ho : bkOf op = some bop) (hK : KW.mk X.K X.w ad = K) {x y : MV} {v u : V} {Q : VK} (gh : GH K ι h H) (rx : RV K H ι x v) (ry : RV K H ι y u) (q : AtR K Wm σ ι H (binop bop x y h) (PQ K Q)) : rAny X (binaryOp op) v u H Q := by
  subst hK
  cases rx with
  | int i =>
    cases ry with
    | int j =>
      have q : AtR _ Wm σ ι H (binI bop i j h) (PQ _ Q) := q
      cases op <;> cases ho
      · exact ⟨_, L2.op_add, i, j, rfl, rfl, q.ok gh _ (.int _)⟩
      · exact ⟨_, L2.op_sub, i, j, rfl, rfl, q.ok gh _ (.int _)⟩
      · unfold binI at q
        simp only at q
        split at q
        · rename_i z
          exact ⟨_, L2.op_mulW, i, j, rfl, rfl, z, q.ok gh _ (.int _)⟩
        · exact q.elim
      · unfold binI at q
        simp only at q
        split at q
        · rename_i z
          exact ⟨_, L2.op_modN, i, j, rfl, rfl, z, q.ok gh _ (.int _)⟩
        · exact q.elim
      · unfold binI at q
        simp only at q
        split at q
        · rename_i z
          exact ⟨_, op_powW, i, j, rfl, rfl, z, q.ok gh _ (.int _)⟩
        · exact q.elim
      · unfold binI at q
        simp only at q
        split at q
        · rename_i z
          exact ⟨_, op_fdivZ, i, j, rfl, rfl, z, q.ok gh _ (.int _)⟩
        · exact q.elim
    | _ => exact q.elim
  | str i =>
    cases ry with
    | str j =>
      unfold binop at q
      simp only at q
      split at q
      · rename_i z
        obtain ⟨z1, z2⟩ := z
        subst z1
        cases op <;> cases ho
        exact ⟨_, L2.op_add_str, i, j, rfl, rfl, z2, q.ok gh _ (.str _)⟩
      · exact q.elim
    | int k =>
      unfold binop at q
      simp only at q
      split at q
      · rename_i z
        obtain ⟨z1, z2⟩ := z
        subst z1
        cases op <;> cases ho
        exact ⟨_, op_mulS, i, k, rfl, rfl, z2, q.ok gh _ (.str _)⟩
      · exact q.elim
    | _ => exact q.elim
  | @tup a xs vs hs r1 =>
    cases ry with
    | @tup b ys us hs' r2 =>
      unfold binop at q
      simp only at q
      split at q
      · rename_i z
        obtain ⟨z1, z2⟩ := z
        subst z1
        cases op <;> cases ho
        rw [r1.length, r2.length] at z2
        refine ⟨_, L2.op_catA, a, b, vs, us, rfl, rfl, hs.sq, hs'.sq, z2, fun e => ?_, fun e e' => ?_, fun e e' p hp => ?_⟩
        · subst e
          cases r1
          exact q.ok gh _ (.tup hs' r2)
        · subst e'
          cases r2
          exact q.ok gh _ (.tup hs (by rw [List.append_nil]; exact r1))
        · have st : Stp ⟨X.K, X.w, ad⟩ H (upd H p (.tup (vs ++ us))) := stp_new hp
          refine q _ _ .refl st ?_ _ (.tup (SqN.of L2.upd_same) ((r1.append r2).mono .refl st))
          exact ⟨gh.len, fun i o a e1 e2 => (gh.obj i o a e1 e2).keep .refl st fun w z => by rw [L2.upd_ne (L2.ne_of_none z hp)]; exact z, gh.inj⟩
      · exact q.elim
    | _ => exact q.elim
  | @ref i a ei =>
    cases ry with
    | int k =>
      unfold binop at q
      simp only at q
      split at q
      · rename_i xs hx
        split at q
        · rename_i z
          obtain ⟨z1, z2, z3, z4⟩ := z
          subst z1
          cases op <;> cases ho
          obtain ⟨vs, h1, r1⟩ := list_at gh ei hx
          rw [r1.length] at z4
          refine ⟨_, L2.op_rep, a, k, vs, rfl, rfl, h1, z2, z3, z4, fun p hp => ?_⟩
          exact new_ok gh hp (.list L2.upd_same ((flat_rep r1 _).mono Ext.push (stp_new hp))) q _ (rv_new gh)
        · exact q.elim
      · exact q.elim
    | @ref j b ej =>
      unfold binop at q
      simp only at q
      split at q
      · rename_i xs ys hx hy
        split at q
        · rename_i z
          obtain ⟨z1, z2⟩ := z
          subst z1
          cases op <;> cases ho
          obtain ⟨vs, h1, r1⟩ := list_at gh ei hx
          obtain ⟨us, h2, r2⟩ := list_at gh ej hy
          rw [r1.length, r2.length] at z2
          refine ⟨_, L2.op_cat, a, b, vs, us, rfl, rfl, h1, h2, z2, fun p hp => ?_⟩
          exact new_ok gh hp (.list L2.upd_same ((r1.append r2).mono Ext.push (stp_new hp))) q _ (rv_new gh)
        · exact q.elim
      · exact q.elim
    | _ => exact q.elim
  | non => cases ry <;> exact q.elim
  | bl _ => cases ry <;> exact q.elim
  | ty _ => cases ry <;> exact q.elim
theorem s_bin {op : Operator} {bop : BK} (ho : bkOf op = some bop) (hK : KW.mk X.K X.w ad = K) (ha : PE X a (tE K Wm (evE g ma))) (hb : PE X b (tE K Wm (evE g mb))) : PE X (.BinOp a op b pos) (tE K Wm (evE g (.bin bop ma mb))) :=
  PE.imp (L2.pe_op op_any ha hb) fun σ H Q q =>
    Sta.imp (Sta.two (f := fun x y h => binop bop x y h) q) fun x h1 i1 H1 g1 z v rv => Sta.imp (z v rv) fun y h2 i2 H2 g2 z2 u ru => by
      obtain ⟨i3, x3, y3, h3, sm3, g3, rs3, rv3, ru3, at3⟩ := z2 u ru
      exact binop_ok ho hK g3 rv3 ru3 at3
end

/-! ### data, truth, comparisons -/
section
variable {K : KW} {ι : List Addr} {H : Hp} {h : Hm}
theorem sq_list (gh : GH K ι h H) {i : Nat} {a : Addr} {xs : List MV} (e : ι[i]? = some a) (q : items h (.ref i) = some xs) : ∃ vs, SqL K H a vs ∧ RVs K H ι xs vs := by
  unfold items at q
  simp only at q
  split at q
  · cases q
    rename_i z
    cases gh.obj i _ a z e with
    | list h1 r1 => exact ⟨_, L2.SqL.of h1, r1⟩
  · cases q
    rename_i z
    cases gh.obj i _ a z e with
    | frz h1 r1 =>
      refine ⟨_, ?_, r1⟩
      rcases h1 with h1 | h1
      · exact .inl (.inr h1)
      · exact .inr h1
  · cases q
theorem allS_cons {α β : Type} {f : α → Option β} {a : α} {as : List α} {cs : List β} (q : allS f (a :: as) = some cs) : ∃ b bs, f a = some b ∧ allS f as = some bs ∧ cs = b :: bs := by
  unfold allS at q
  split at q
  · split at q
    · cases q
      exact ⟨_, _, by assumption, by assumption, rfl⟩
    · cases q
  · cases q
theorem allS_nil {α β : Type} {f : α → Option β} {cs : List β} (q : allS f [] = some cs) : cs = [] := by
  unfold allS at q; cases q; rfl
theorem dp_of (gh : GH K ι h H) : ∀ (n : Nat) (x : MV) (v : V) (d : PyData), den h n x = some d → RV K H ι x v → Dp K H v d := by
  intro n
  induction n with
  | zero => intro x v d q; unfold den at q; cases q
  | succ n ih =>
    have all : ∀ (xs : List MV) (vs : List V) (ds : List PyData), allS (den h n) xs = some ds → RVs K H ι xs vs → DpAll K H vs ds := by
      intro xs
      induction xs with
      | nil =>
        intro vs ds q r
        cases r
        rw [allS_nil q]
        exact .nil
      | cons x xs ihx =>
        intro vs ds q r
        cases r with
        | cons r1 r2 =>
          obtain ⟨b, bs, h1, h2, e⟩ := allS_cons q
          subst e
          exact .cons (ih x _ b h1 r1) (ihx _ bs h2 r2)
    intro x v d q r
    cases r with
    | non => unfold den at q; cases q; exact .non
    | bl b => unfold den at q; cases q; exact .bl b
    | int i => unfold den at q; cases q; exact .int i
    | str s => unfold den at q; cases q; exact .str s
    | ty s => unfold den at q; cases q
    | tup hs r =>
      unfold den at q
      obtain ⟨ds, h1, h2⟩ := Option.map_eq_some_iff.mp q
      subst h2
      exact .tup hs.sq (all _ _ _ h1 r)
    | @ref i a e =>
      unfold den at q
      split at q
      · rename_i xs z
        obtain ⟨ds, h1, h2⟩ := Option.map_eq_some_iff.mp q
        subst h2
        obtain ⟨vs, hs, r⟩ := sq_list gh e (xs := xs) (by simp [items, z])
        exact .lst hs (all _ _ _ h1 r)
      · rename_i xs z
        obtain ⟨ds, h1, h2⟩ := Option.map_eq_some_iff.mp q
        subst h2
        obtain ⟨vs, hs, r⟩ := sq_list gh e (xs := xs) (by simp [items, z])
        exact .lst hs (all _ _ _ h1 r)
      · cases q
theorem dpV_of (gh : GH K ι h H) {x : MV} {v : V} {d : PyData} (q : denV h x = some d) (r : RV K H ι x v) : Dp K H v d ∧ SeqAt.shaped d = true := by
  unfold denV at q
  obtain ⟨e, h1, h2⟩ := Option.bind_eq_some_iff.mp q
  split at h2
  · cases h2
    exact ⟨dp_of gh 30 x v _ h1 r, by assumption⟩
  · cases h2
theorem isEmpty_rvs {xs : List MV} {vs : List V} (r : RVs K H ι xs vs) : (!vs.isEmpty) = !xs.isEmpty := by cases r <;> rfl
theorem isEmpty_rk {xs : List (L2.Key × MV)} {vs : List (L2.Key × V)} (r : RK K H ι xs vs) : (!vs.isEmpty) = !xs.isEmpty := by cases r <;> rfl
theorem tru_of (gh : GH K ι h H) {x : MV} {v : V} {k : Bool} (q : truth h x = some k) (r : RV K H ι x v) : L2.TruV K v H k := by
  cases r with
  | non => unfold truth at q; cases q; rfl
  | bl b => unfold truth at q; cases q; rfl
  | int i => unfold truth at q; cases q; rfl
  | str s =>
    unfold truth at q
    simp only at q
    split at q
    · cases q; exact ⟨by assumption, rfl⟩
    · cases q
  | ty s => unfold truth at q; cases q
  | tup hs r => unfold truth at q; cases q; exact .inr (.inl ⟨_, hs.sq, (isEmpty_rvs r).symm⟩)
  | @ref i a e =>
    unfold truth at q
    simp only at q
    split at q
    · rename_i xs z
      obtain ⟨vs, hs, r⟩ := sq_list gh e (xs := xs) (by simp [items, z])
      cases q
      exact .inl ⟨vs, hs, (isEmpty_rvs r).symm⟩
    · rename_i xs z
      obtain ⟨vs, hs, r⟩ := sq_list gh e (xs := xs) (by simp [items, z])
      cases q
      exact .inl ⟨vs, hs, (isEmpty_rvs r).symm⟩
    · rename_i xs z
      cases q
      cases gh.obj i _ a z e with
      | dict h1 r1 => exact .inr (.inr ⟨_, h1, (isEmpty_rk r1).symm⟩)
    · cases q
theorem mLook_val {xs : List (L2.Key × MV)} {vs : List (L2.Key × V)} (r : RK K H ι xs vs) (k : L2.Key) :
    (mLook xs k = none ∧ L2.valV vs k = none) ∨ ∃ x v, mLook xs k = some x ∧ L2.valV vs k = some v ∧ RV K H ι x v := by
  induction r with
  | nil => exact .inl ⟨rfl, rfl⟩
  | @cons j x v xs vs h1 r ih =>
    unfold mLook
    by_cases e : j = k
    · rw [if_pos e]
      exact .inr ⟨x, v, rfl, L2.valV_pos (p := (j, v)) e, h1⟩
    · rw [if_neg e, L2.valV_neg (p := (j, v)) e]
      exact ih
theorem keyOf_rv {x : MV} {k : L2.Key} {v : V} (q : keyOf x = some k) (r : RV K H ι x v) : v = L2.kV k := by
  cases r <;> cases q <;> rfl
end
section
variable {X : Cx} {ad : Str → Option Addr} {K : KW} {Wm : Wish} {g : Genv} {pos : Pos} {a b c : Expr} {ma mb mc : ME} {σ : L2.St} {ι : List Addr} {H : Hp} {h : Hm}
theorem op_inDict (hu : X.A.units + 1 < cLine) : L2.OpR X (compareOp .In) (fun y x H Q => ∃ a o, x = .ref a ∧ L2.DGet H a y o ∧ Q (.bl o.isSome) H) := by
  intro pins s σ H x y v u Q I rx ry q
  obtain ⟨a, o, rfl, dg, q⟩ := q
  cases ry
  exact L2.d_in hu I dg rx fun s' I' => ⟨.bl _, H, I', rfl, q⟩
theorem op_notInDict (hu : X.A.units + 1 < cLine) : L2.OpR X (compareOp .NotIn) (fun y x H Q => ∃ a o, x = .ref a ∧ L2.DGet H a y o ∧ Q (.bl (!o.isSome)) H) := by
  intro pins s σ H x y v u Q I rx ry q
  obtain ⟨a, o, rfl, dg, q⟩ := q
  cases ry
  exact L2.d_notIn hu I dg rx fun s' I' => ⟨.bl _, H, I', rfl, q⟩
theorem op_inTup (hu : X.A.units + 65 < cLine) : L2.OpR X (compareOp .In) (fun x y H Q => ∃ d ds, Dp X.K H x d ∧ Dp X.K H y (.tuple ds) ∧ SeqAt.shaped d = true ∧ SeqAt.shaped (.tuple ds) = true ∧ Q (.bl (ds.any fun z => PyData.eqv z d)) H) := by
  intro pins s σ H x y v u Q I rx ry q
  obtain ⟨d, ds, hd, he, sd, se, q⟩ := q
  obtain ⟨as, r1⟩ := Dp.reads I d x v hd rx
  obtain ⟨bs, r2⟩ := Dp.reads I (.tuple ds) y u he ry
  exact SeqAt.in_tuple_reads r2 r1 (SeqAt.canLay_of_shaped se) (SeqAt.canLay_of_shaped sd) (PyProof.Rows.room_in_shaped sd hu) ⟨.bl _, H, I, rfl, q⟩
theorem op_notInTup (hu : X.A.units + 65 < cLine) : L2.OpR X (compareOp .NotIn) (fun x y H Q => ∃ d ds, Dp X.K H x d ∧ Dp X.K H y (.tuple ds) ∧ SeqAt.shaped d = true ∧ SeqAt.shaped (.tuple ds) = true ∧ Q (.bl (!ds.any fun z => PyData.eqv z d)) H) := by
  intro pins s σ H x y v u Q I rx ry q
  obtain ⟨d, ds, hd, he, sd, se, q⟩ := q
  obtain ⟨as, r1⟩ := Dp.reads I d x v hd rx
  obtain ⟨bs, r2⟩ := Dp.reads I (.tuple ds) y u he ry
  exact SeqAt.notIn_tuple_reads r2 r1 (SeqAt.canLay_of_shaped se) (SeqAt.canLay_of_shaped sd) (PyProof.Rows.room_in_shaped sd hu) ⟨.bl _, H, I, rfl, q⟩
end

section
variable {X : Cx} {ad : Str → Option Addr} {K : KW} {Wm : Wish} {g : Genv} {pos : Pos} {a b c : Expr} {ma mb mc : ME} {σ : L2.St} {ι : List Addr} {H : Hp} {h : Hm}
theorem op_inSet : L2.OpR X (compareOp .In) (L2.rSIn X.w) := L2.or_sin
theorem inD_ok (hu : X.A.units + 65 < cLine) (hK : KW.mk X.K X.w ad = K) {x y : MV} {v u : V} {r : Bool} (gh : GH K ι h H) (rx : RV K H ι x v) (ry : RV K H ι y u) (q : inD h x y = some r) :
    (∀ Q : VK, Q (.bl r) H → rAny X (compareOp .In) v u H Q) ∧ (∀ Q : VK, Q (.bl (!r)) H → rAny X (compareOp .NotIn) v u H Q) := by
  subst hK
  cases ry with
  | str t =>
    unfold inD at q
    simp only at q
    split at q
    · cases q
      cases rx
      exact ⟨fun Q z => ⟨_, L2.op_in_str, _, t, rfl, rfl, z⟩, fun Q z => ⟨_, L2.op_notin_str, _, t, rfl, rfl, z⟩⟩
    · cases q
  | tup hs r1 =>
    unfold inD at q
    simp only at q
    split at q
    · rename_i d ds hd hds
      cases q
      obtain ⟨p1, s1⟩ := dpV_of gh hd rx
      obtain ⟨p2, s2⟩ := dpV_of gh hds (.tup hs r1)
      exact ⟨fun Q z => ⟨_, op_inTup hu, d, ds, p1, p2, s1, s2, z⟩, fun Q z => ⟨_, op_notInTup hu, d, ds, p1, p2, s1, s2, z⟩⟩
    · cases q
  | @ref j p ej =>
    unfold inD at q
    simp only at q
    split at q
    · rename_i kvs hk
      split at q
      · rename_i k hkey
        cases q
        have ev := keyOf_rv hkey rx
        subst ev
        cases gh.obj j _ p hk ej with
        | @dict _ _ vs h1 r1 =>
          have e : (mLook kvs k).isSome = (L2.valV vs k).isSome := by
            rcases mLook_val r1 k with ⟨z1, z2⟩ | ⟨x, v, z1, z2, _⟩ <;> rw [z1, z2] <;> rfl
          exact ⟨fun Q z => ⟨_, op_inDict (by omega), p, L2.valV vs k, rfl, L2.DGet.k h1, by rw [← e]; exact z⟩, fun Q z => ⟨_, op_notInDict (by omega), p, L2.valV vs k, rfl, L2.DGet.k h1, by rw [← e]; exact z⟩⟩
      · cases q
    · rename_i ns hk
      split at q
      · rename_i k
        cases q
        cases rx
        cases gh.obj j _ p hk ej with
        | set h1 hS hn =>
          refine ⟨fun Q z => ⟨_, L2.or_sin, k, p, _, _, rfl, rfl, h1, ?_⟩, fun Q z => ⟨_, L2.or_snotin, k, p, _, _, rfl, rfl, h1, ?_⟩⟩
          · rw [hS]; exact z
          · rw [hS]; exact z
      · cases q
    · split at q
      · rename_i d ds hd hds
        cases q
        obtain ⟨p1, s1⟩ := dpV_of gh hd rx
        obtain ⟨p2, s2⟩ := dpV_of gh hds (.ref ej)
        exact ⟨fun Q z => ⟨_, L2.op_inD hu, d, ds, p1, p2, s1, s2, z⟩, fun Q z => ⟨_, L2.op_notInD hu, d, ds, p1, p2, s1, s2, z⟩⟩
      · cases q
  | non => cases q
  | bl _ => cases q
  | int _ => cases q
  | ty _ => cases q
def ckInv : CK → CmpOp
  | .eq => .Eq
  | .ne => .NotEq
  | .lt => .Lt
  | .le => .LtE
  | .gt => .Gt
  | .ge => .GtE
  | .isin => .In
  | .notin => .NotIn
  | .isnone => .Is
  | .notnone => .IsNot
theorem ck_inv {cop : CmpOp} {op : CK} {e : Expr} (ho : ckOf cop e = some op) : cop = ckInv op := by
  unfold ckOf at ho
  split at ho <;> first | (cases ho; done) | (cases ho; rfl)
theorem isNon_rv {x : MV} {v : V} (r : RV K H ι x v) : isNon x = decide (v = .non) := by
  cases r <;> rfl
theorem cmp_ok {cop : CmpOp} {op : CK} {e : Expr} (ho : ckOf cop e = some op) (hu : X.A.units + 65 < cLine) (hK : KW.mk X.K X.w ad = K) {x y : MV} {v u : V} {r : Bool} {Q : VK} (gh : GH K ι h H) (rx : RV K H ι x v) (ry : RV K H ι y u) (q : cmp op x y h = some r)
    (z : Q (.bl r) H) : rAny X (compareOp cop) v u H Q := by
  have lt : ∀ {op : CK}, op ≠ .eq → op ≠ .ne → op ≠ .isin → op ≠ .notin → op ≠ .isnone → op ≠ .notnone → cmp op x y h = some r → ∃ i j, v = .int i ∧ u = .int j ∧ cmpI op i j = some r := by
    intro op h1 h2 h3 h4 h5 h6 q
    cases op <;> first | contradiction | skip
    all_goals
      cases rx <;> first | (cases q; done) | skip
      cases ry <;> first | (cases q; done) | skip
      exact ⟨_, _, rfl, rfl, q⟩
  have dst : ∀ s t : Str, decide (V.str s = V.str t) = decide (s = t) := fun s t => by
    rw [Bool.eq_iff_iff]
    simp
  cases op with
  | eq =>
    have : cop = .Eq := ck_inv ho
    subst this
    subst hK
    have q : eqO h x y = some r := q
    unfold eqO at q
    split at q
    · rename_i s t
      cases q
      cases rx
      cases ry
      exact ⟨_, L2.op_eq, rfl, by rw [dst]; exact z⟩
    · split at q
      · rename_i d d' hd hd'
        cases q
        obtain ⟨p1, s1⟩ := dpV_of gh hd rx
        obtain ⟨p2, s2⟩ := dpV_of gh hd' ry
        exact ⟨_, L2.op_eqD (by omega), d, d', p1, p2, s1, s2, z⟩
      · cases q
  | ne =>
    have : cop = .NotEq := ck_inv ho
    subst this
    subst hK
    have q : (eqO h x y).map (!·) = some r := q
    unfold eqO at q
    split at q
    · rename_i s t
      cases q
      cases rx
      cases ry
      exact ⟨_, L2.op_ne, rfl, by rw [dst]; exact z⟩
    · split at q
      · rename_i d d' hd hd'
        cases q
        obtain ⟨p1, s1⟩ := dpV_of gh hd rx
        obtain ⟨p2, s2⟩ := dpV_of gh hd' ry
        exact ⟨_, L2.op_neD (by omega), d, d', p1, p2, s1, s2, z⟩
      · cases q
  | lt =>
    have : cop = .Lt := ck_inv ho
    subst this
    obtain ⟨i, j, e1, e2, e3⟩ := lt (by decide) (by decide) (by decide) (by decide) (by decide) (by decide) q
    cases e3
    exact ⟨_, L2.op_lt, i, j, e1, e2, z⟩
  | le =>
    have : cop = .LtE := ck_inv ho
    subst this
    obtain ⟨i, j, e1, e2, e3⟩ := lt (by decide) (by decide) (by decide) (by decide) (by decide) (by decide) q
    cases e3
    exact ⟨_, L2.op_le, i, j, e1, e2, z⟩
  | gt =>
    have : cop = .Gt := ck_inv ho
    subst this
    obtain ⟨i, j, e1, e2, e3⟩ := lt (by decide) (by decide) (by decide) (by decide) (by decide) (by decide) q
    cases e3
    exact ⟨_, L2.op_gt, i, j, e1, e2, z⟩
  | ge =>
    have : cop = .GtE := ck_inv ho
    subst this
    obtain ⟨i, j, e1, e2, e3⟩ := lt (by decide) (by decide) (by decide) (by decide) (by decide) (by decide) q
    cases e3
    exact ⟨_, L2.op_ge, i, j, e1, e2, z⟩
  | isin =>
    have : cop = .In := ck_inv ho
    subst this
    exact (inD_ok hu hK gh rx ry q).1 Q z
  | notin =>
    have : cop = .NotIn := ck_inv ho
    subst this
    unfold cmp at q
    obtain ⟨k, h1, h2⟩ := Option.map_eq_some_iff.mp q
    subst h2
    exact (inD_ok hu hK gh rx ry h1).2 Q z
  | isnone =>
    have : cop = .Is := ck_inv ho
    subst this
    unfold cmp at q
    simp only at q
    split at q
    · cases q
      rename_i hy
      rw [isNon_rv ry] at hy
      rw [isNon_rv rx] at z
      exact ⟨_, L2.op_isN, of_decide_eq_true hy, z⟩
    · cases q
  | notnone =>
    have : cop = .IsNot := ck_inv ho
    subst this
    unfold cmp at q
    simp only at q
    split at q
    · cases q
      rename_i hy
      rw [isNon_rv ry] at hy
      rw [isNon_rv rx] at z
      exact ⟨_, L2.op_notN, of_decide_eq_true hy, z⟩
    · cases q
theorem ck_mark {cop : CmpOp} {op : CK} {e : Expr} (ho : ckOf cop e = some op) : behindInMarks cop e = false := by
  cases e <;> first | rfl | (cases cop <;> first | (cases ho; done) | rfl | simp [behindInMarks])
end

/-! ### composite expressions -/
section
variable {X : Cx} {ad : Str → Option Addr} {K : KW} {Wm : Wish} {g : Genv} {pos : Pos} {e a b c : Expr} {m ma mb mc : ME} {σ : L2.St} {ι : List Addr} {H : Hp} {h : Hm}
def evT (g : Genv) (m : ME) (sm : Sm) (h : Hm) : Res Bool := (evE g m sm h).bind truthR
/-- an expression, as a value and as a test -/
structure SE (X : Cx) (K : KW) (Wm : Wish) (g : Genv) (e : Expr) (m : ME) : Prop where
  pe : PE X e (tE K Wm (evE g m))
  pt : PT X e (tT K Wm (evT g m))
theorem truthR_ok {x : MV} {k : Bool} {h2 : Hm} (q : truthR x h = .ok k h2) : truth h x = some k ∧ h2 = h := by
  unfold truthR at q
  split at q
  · cases q; exact ⟨by assumption, rfl⟩
  · cases q
theorem pt_of (hK : KW.mk X.K X.w ad = K) (h : PE X e (tE K Wm (evE g m))) (he : ∀ whole, isTrue e X.env whole = (do let v ← whole; standAt e.pos; holding [v] (truthy v))) : SE X K Wm g e m :=
  ⟨h, PT.imp (L2.pt_truth h he) fun σ H Q q => Sta.imp (tT_of (f := truthR) q) fun x h1 i1 H1 g1 z v rv => by
    obtain ⟨i2, x2, h2, sm2, g2, rs2, rv2, at2⟩ := z v rv
    unfold truthR at at2
    split at at2
    · rename_i k hk
      subst hK
      exact ⟨k, tru_of g2 hk rv2, at2.ok g2⟩
    · exact at2.elim⟩
theorem s_bin' {op : Operator} {bop : BK} (ho : bkOf op = some bop) (hK : KW.mk X.K X.w ad = K) (ha : SE X K Wm g a ma) (hb : SE X K Wm g b mb) : SE X K Wm g (.BinOp a op b pos) (.bin bop ma mb) :=
  pt_of hK (s_bin ho hK ha.pe hb.pe) fun _ => rfl
theorem s_neg (hK : KW.mk X.K X.w ad = K) (ha : SE X K Wm g a ma) : SE X K Wm g (.UnaryOp .USub a pos) (.neg ma) :=
  pt_of hK (PE.imp (L2.pe_un L2.un_neg ha.pe) fun σ H Q q => Sta.imp (Sta.one q) fun x h1 i1 H1 g1 z v rv => by
    obtain ⟨i2, x2, h2, sm2, g2, rs2, rv2, at2⟩ := z v rv
    cases rv2 <;> first | exact at2.elim | skip
    exact ⟨_, rfl, at2.ok g2 _ (.int _)⟩) fun _ => rfl
theorem s_not (hK : KW.mk X.K X.w ad = K) (ha : SE X K Wm g a ma) : SE X K Wm g (.UnaryOp .Not a pos) (.not ma) := by
  refine ⟨PE.imp (L2.pe_notT ha.pe) fun σ H Q q => Sta.imp (Sta.one q) fun x h1 i1 H1 g1 z v rv => ?_, PT.imp (L2.pt_not ha.pt) fun σ H Q q => ?_⟩
  · obtain ⟨i2, x2, h2, sm2, g2, rs2, rv2, at2⟩ := z v rv
    split at at2
    · rename_i k hk
      subst hK
      exact ⟨k, tru_of g2 hk rv2, at2.ok g2 _ (.bl _)⟩
    · exact at2.elim
  · obtain ⟨i1, h1, sm1, g1, rs1, at1⟩ := q
    refine ⟨i1, h1, sm1, g1, rs1, ?_⟩
    have at1 : AtR K Wm σ i1 H (((evE g ma sm1 h1).bind fun x h => match truth h x with
      | some k => (.ok (.bl (!k)) h : Res MV)
      | none => .bad).bind truthR) _ := at1
    show AtR K Wm σ i1 H ((evE g ma sm1 h1).bind truthR) _
    cases e : evE g ma sm1 h1 with
    | bad => rw [e] at at1; exact at1
    | exc c k h2 => rw [e] at at1; exact at1
    | ok x h2 =>
      rw [e] at at1
      show AtR K Wm σ i1 H (truthR x h2) _
      unfold truthR
      have at1 : AtR K Wm σ i1 H ((match truth h2 x with
        | some k => (.ok (.bl (!k)) h2 : Res MV)
        | none => .bad).bind truthR) _ := at1
      cases e2 : truth h2 x with
      | none => rw [e2] at at1; exact at1
      | some k => rw [e2] at at1; exact at1
/-- one of two ways by a test -/
theorem sta_if {ea : Sm → Hm → Res MV} {α : Type} {f1 f0 : Sm → MV → Hm → Res α} {P : α → Hm → List Addr → Hp → Prop} (q : Sta K Wm (fun sm h => (ea sm h).bind fun x h => match truth h x with
    | some true => f1 sm x h
    | some false => f0 sm x h
    | none => .bad) σ H P) :
    Sta K Wm (fun sm h => (ea sm h).bind truthR) σ H fun k h1 ι1 H1 => ∃ sm x, RSm K H1 ι1 sm σ ∧ GH K ι1 h1 H1 ∧ truth h1 x = some k ∧ AtR K Wm σ ι1 H1 (if k = true then f1 sm x h1 else f0 sm x h1) P := by
  obtain ⟨i1, h1, sm1, g1, rs1, at1⟩ := q
  refine ⟨i1, h1, sm1, g1, rs1, ?_⟩
  dsimp only at at1 ⊢
  cases e : ea sm1 h1 with
  | bad => rw [e] at at1; exact at1
  | exc c k h2 => rw [e] at at1; exact at1
  | ok x h2 =>
    rw [e] at at1
    show AtR K Wm σ i1 H (truthR x h2) _
    unfold truthR
    have at1 : AtR K Wm σ i1 H (match truth h2 x with
      | some true => f1 sm1 x h2
      | some false => f0 sm1 x h2
      | none => .bad) P := at1
    cases e2 : truth h2 x with
    | none => rw [e2] at at1; exact at1.elim
    | some k =>
      rw [e2] at at1
      intro i2 H2 e3 s3 g3
      refine ⟨sm1, x, rs1.mono e3 s3, g3, e2, ?_⟩
      cases k with
      | true => exact AtR.mono at1 e3 s3 fun _ _ _ _ _ _ _ z => z
      | false => exact AtR.mono at1 e3 s3 fun _ _ _ _ _ _ _ z => z
theorem s_ife (ht : SE X K Wm g c mc) (ha : SE X K Wm g a ma) (hb : SE X K Wm g b mb) : PE X (.IfExp c a b pos) (tE K Wm (evE g (.ife mc ma mb))) :=
  PE.imp (L2.pe_ifExp ht.pt ha.pe hb.pe) fun σ H Q q => Sta.imp (sta_if (f1 := fun sm _ h => evE g ma sm h) (f0 := fun sm _ h => evE g mb sm h) q) fun k h1 i1 H1 g1 ⟨sm, x, rs, g2, _, at2⟩ => by
    cases k with
    | true => exact ⟨i1, h1, sm, g1, rs, at2⟩
    | false => exact ⟨i1, h1, sm, g1, rs, at2⟩
/-- and, or: as a value, as a test -/
structure SB (X : Cx) (K : KW) (Wm : Wish) (g : Genv) (e : Expr) (m : ME) : Prop where
  pe : PE X e (tE K Wm (evE g m))
  pw : L2.PW X e (tT K Wm (evT g m))
theorem bind_if {x : MV} {α : Type} {h : Hm} {f1 f0 : Res MV} {f : MV → Hm → Res α} : (match truth h x with
    | some true => f1
    | some false => f0
    | none => .bad).bind f = match truth h x with
    | some true => f1.bind f
    | some false => f0.bind f
    | none => .bad := by
  cases truth h x with
  | none => rfl
  | some k => cases k <;> rfl
theorem res_assoc {α β γ : Type} {r : Res α} {f : α → Hm → Res β} {f2 : β → Hm → Res γ} : (r.bind f).bind f2 = r.bind fun x h => (f x h).bind f2 := by
  cases r <;> rfl
theorem s_and {rest : List Expr} (hK : KW.mk X.K X.w ad = K) (ha : SE X K Wm g a ma) (hb : SB X K Wm g (.BoolOp .And (b :: rest) pos) mb) : SB X K Wm g (.BoolOp .And (a :: b :: rest) pos) (.and ma mb) := by
  refine ⟨PE.imp (L2.pe_andT ha.pe hb.pe) fun σ H Q q => ?_, PW.imp (L2.pw_and ha.pt hb.pw) fun σ H Q q => ?_⟩
  · refine Sta.imp (Sta.parts (f := fun sm x h => match truth h x with
      | some true => evE g mb sm h
      | some false => .ok x h
      | none => .bad) q) fun x h1 i1 H1 g1 ⟨sm, rs, _, at2⟩ v rv => ?_
    cases e : truth h1 x with
    | none => rw [e] at at2; exact at2.elim
    | some k =>
      rw [e] at at2
      subst hK
      refine ⟨k, tru_of g1 e rv, ?_⟩
      cases k with
      | true => exact ⟨i1, h1, sm, g1, rs, at2⟩
      | false => exact at2.ok g1 v rv
  · have q : Sta K Wm (fun sm h => (evE g ma sm h).bind fun x h => match truth h x with
      | some true => evT g mb sm h
      | some false => truthR x h
      | none => .bad) σ H fun k _ _ H' => Q k H' := by
      obtain ⟨i1, h1, sm1, g1, rs1, at1⟩ := q
      refine ⟨i1, h1, sm1, g1, rs1, ?_⟩
      show AtR K Wm σ i1 H ((evE g ma sm1 h1).bind fun x h => match truth h x with
        | some true => (evE g mb sm1 h).bind truthR
        | some false => (Res.ok x h).bind truthR
        | none => .bad) _
      have at1 : AtR K Wm σ i1 H (((evE g ma sm1 h1).bind fun x h => match truth h x with
        | some true => evE g mb sm1 h
        | some false => .ok x h
        | none => .bad).bind truthR) _ := at1
      rw [res_assoc] at at1
      simp only [bind_if] at at1
      exact at1
    refine Sta.imp (sta_if (f1 := fun sm _ h => evT g mb sm h) (f0 := fun sm x h => truthR x h) q) fun k h1 i1 H1 g1 ⟨sm, x, rs, g2, e, at2⟩ => ?_
    cases k with
    | true => exact ⟨i1, h1, sm, g1, rs, at2⟩
    | false =>
      have at2 : AtR K Wm σ i1 H1 (truthR x h1) _ := at2
      unfold truthR at at2
      rw [e] at at2
      exact at2.ok g1
theorem s_or {rest : List Expr} (hK : KW.mk X.K X.w ad = K) (ha : SE X K Wm g a ma) (hb : SB X K Wm g (.BoolOp .Or (b :: rest) pos) mb) : SB X K Wm g (.BoolOp .Or (a :: b :: rest) pos) (.or ma mb) := by
  refine ⟨PE.imp (L2.pe_orT ha.pe hb.pe) fun σ H Q q => ?_, PW.imp (L2.pw_or ha.pt hb.pw) fun σ H Q q => ?_⟩
  · refine Sta.imp (Sta.parts (f := fun sm x h => match truth h x with
      | some true => .ok x h
      | some false => evE g mb sm h
      | none => .bad) q) fun x h1 i1 H1 g1 ⟨sm, rs, _, at2⟩ v rv => ?_
    cases e : truth h1 x with
    | none => rw [e] at at2; exact at2.elim
    | some k =>
      rw [e] at at2
      subst hK
      refine ⟨k, tru_of g1 e rv, ?_⟩
      cases k with
      | false => exact ⟨i1, h1, sm, g1, rs, at2⟩
      | true => exact at2.ok g1 v rv
  · have q : Sta K Wm (fun sm h => (evE g ma sm h).bind fun x h => match truth h x with
      | some true => truthR x h
      | some false => evT g mb sm h
      | none => .bad) σ H fun k _ _ H' => Q k H' := by
      obtain ⟨i1, h1, sm1, g1, rs1, at1⟩ := q
      refine ⟨i1, h1, sm1, g1, rs1, ?_⟩
      show AtR K Wm σ i1 H ((evE g ma sm1 h1).bind fun x h => match truth h x with
        | some true => (Res.ok x h).bind truthR
        | some false => (evE g mb sm1 h).bind truthR
        | none => .bad) _
      have at1 : AtR K Wm σ i1 H (((evE g ma sm1 h1).bind fun x h => match truth h x with
        | some true => .ok x h
        | some false => evE g mb sm1 h
        | none => .bad).bind truthR) _ := at1
      rw [res_assoc] at at1
      simp only [bind_if] at at1
      exact at1
    refine Sta.imp (sta_if (f1 := fun sm x h => truthR x h) (f0 := fun sm _ h => evT g mb sm h) q) fun k h1 i1 H1 g1 ⟨sm, x, rs, g2, e, at2⟩ => ?_
    cases k with
    | false => exact ⟨i1, h1, sm, g1, rs, at2⟩
    | true =>
      have at2 : AtR K Wm σ i1 H1 (truthR x h1) _ := at2
      unfold truthR at at2
      rw [e] at at2
      exact at2.ok g1
end

section
variable {X : Cx} {ad : Str → Option Addr} {K : KW} {Wm : Wish} {g : Genv} {pos : Pos} {e a b c : Expr} {m ma mb mc : ME} {σ : L2.St} {ι : List Addr} {H : Hp} {h : Hm}
theorem pt_ifExp {tc ta tb : TT} (hc : PT X c tc) (ha : PT X a ta) (hb : PT X b tb) : PT X (.IfExp c a b pos) (fun σ H Q => tc σ H fun k H1 => if k = true then ta σ H1 Q else tb σ H1 Q) := by
  refine ⟨fun pins s σ H Q I h => ?_⟩
  show wpAny _ _ (do if ← isTrue c X.env (eval c X.env) then isTrue a X.env (eval a X.env) else isTrue b X.env (eval b X.env)) _ _ _
  refine wpAny_bind (L2.thn (hc.run pins s σ H _ I h) fun k s1 ⟨H1, I1, q1⟩ => ?_)
  cases k with
  | true => exact ha.run pins s1 σ H1 Q I1 q1
  | false => exact hb.run pins s1 σ H1 Q I1 q1
theorem s_ife' (ht : SE X K Wm g c mc) (ha : SE X K Wm g a ma) (hb : SE X K Wm g b mb) : SE X K Wm g (.IfExp c a b pos) (.ife mc ma mb) := by
  refine ⟨s_ife ht ha hb, PT.imp (pt_ifExp ht.pt ha.pt hb.pt) fun σ H Q q => ?_⟩
  have q : Sta K Wm (fun sm h => (evE g mc sm h).bind fun x h => match truth h x with
    | some true => evT g ma sm h
    | some false => evT g mb sm h
    | none => .bad) σ H fun k _ _ H' => Q k H' := by
    obtain ⟨i1, h1, sm1, g1, rs1, at1⟩ := q
    refine ⟨i1, h1, sm1, g1, rs1, ?_⟩
    show AtR K Wm σ i1 H ((evE g mc sm1 h1).bind fun x h => match truth h x with
      | some true => (evE g ma sm1 h).bind truthR
      | some false => (evE g mb sm1 h).bind truthR
      | none => .bad) _
    have at1 : AtR K Wm σ i1 H (((evE g mc sm1 h1).bind fun x h => match truth h x with
      | some true => evE g ma sm1 h
      | some false => evE g mb sm1 h
      | none => .bad).bind truthR) _ := at1
    rw [res_assoc] at at1
    simp only [bind_if] at at1
    exact at1
  refine Sta.imp (sta_if (f1 := fun sm _ h => evT g ma sm h) (f0 := fun sm _ h => evT g mb sm h) q) fun k h1 i1 H1 g1 ⟨sm, x, rs, g2, e, at2⟩ => ?_
  cases k with
  | true => exact ⟨i1, h1, sm, g1, rs, at2⟩
  | false => exact ⟨i1, h1, sm, g1, rs, at2⟩
theorem cmpR_ok {cop : CmpOp} {op : CK} {e : Expr} (ho : ckOf cop e = some op) (hu : X.A.units + 65 < cLine) (hK : KW.mk X.K X.w ad = K) {x y : MV} {v u : V} {Q : VK} (gh : GH K ι h H) (rx : RV K H ι x v) (ry : RV K H ι y u)
    (q : AtR K Wm σ ι H (cmpR op x y h) (PQ K Q)) : rAny X (compareOp cop) v u H Q := by
  unfold cmpR at q
  split at q
  · rename_i k hk
    exact cmp_ok ho hu hK gh rx ry hk (q.ok gh _ (.bl _))
  · exact q.elim
theorem s_cmp {cop : CmpOp} {op : CK} (ho : ckOf cop b = some op) (hu : X.A.units + 65 < cLine) (hK : KW.mk X.K X.w ad = K) (ha : SE X K Wm g a ma) (hb : SE X K Wm g b mb) : SE X K Wm g (.Compare a [cop] [b] pos) (.cmp op ma mb) := by
  refine ⟨PE.imp (L2.pe_cmpR op_any ha.pe hb.pe (ck_mark ho)) fun σ H Q q => ?_, PT.imp (L2.pt_cmpR op_any ha.pe hb.pe (ck_mark ho)) fun σ H Q q => ?_⟩
  · refine Sta.imp (Sta.two (f := fun x y h => cmpR op x y h) q) fun x h1 i1 H1 g1 z v rv => Sta.imp (z v rv) fun y h2 i2 H2 g2 z2 u ru => ?_
    obtain ⟨i3, x3, y3, h3, sm3, g3, rs3, rv3, ru3, at3⟩ := z2 u ru
    exact cmpR_ok ho hu hK g3 rv3 ru3 at3
  · have q : Sta K Wm (fun sm h => (evE g ma sm h).bind fun x h => (evE g mb sm h).bind fun y h => (cmpR op x y h).bind truthR) σ H fun k _ _ H' => Q k H' := by
      obtain ⟨i1, h1, sm1, g1, rs1, at1⟩ := q
      refine ⟨i1, h1, sm1, g1, rs1, ?_⟩
      have at1 : AtR K Wm σ i1 H (((evE g ma sm1 h1).bind fun x h => (evE g mb sm1 h).bind fun y h => cmpR op x y h).bind truthR) _ := at1
      rw [res_assoc] at at1
      simp only [res_assoc] at at1
      exact at1
    refine Sta.imp (Sta.two (f := fun x y h => (cmpR op x y h).bind truthR) q) fun x h1 i1 H1 g1 z v rv => Sta.imp (z v rv) fun y h2 i2 H2 g2 z2 u ru => ?_
    obtain ⟨i3, x3, y3, h3, sm3, g3, rs3, rv3, ru3, at3⟩ := z2 u ru
    unfold cmpR at at3
    split at at3
    · rename_i k hk
      exact cmp_ok ho hu hK g3 rv3 ru3 hk ⟨k, rfl, AtR.ok (x := k) (h := h3) at3 g3⟩
    · exact at3.elim
theorem s_chn {cop cop' : CmpOp} {op op' : CK} (ho : ckOf cop b = some op) (ho' : ckOf cop' c = some op') (hu : X.A.units + 65 < cLine) (hK : KW.mk X.K X.w ad = K) (ha : SE X K Wm g a ma) (hb : SE X K Wm g b mb) (hc : SE X K Wm g c mc) :
    SE X K Wm g (.Compare a [cop, cop'] [b, c] pos) (.chn op op' ma mb mc) := by
  have hm : lastMarks [cop, cop'] [b, c] = false := ck_mark ho'
  refine ⟨PE.imp (L2.pe_chain op_any op_any ha.pe hb.pe hc.pe hm) fun σ H Q q => ?_, PT.imp (L2.pt_chain op_any op_any ha.pe hb.pe hc.pe hm) fun σ H Q q => ?_⟩
  · refine Sta.imp (Sta.parts (f := fun sm x h => (evE g mb sm h).bind fun y h => match cmp op x y h with
      | some true => (evE g mc sm h).bind fun z h => cmpR op' y z h
      | some false => .ok (.bl false) h
      | none => .bad) q) fun x h1 i1 H1 g1 ⟨sm, rs, _, at1⟩ v rv => ⟨i1, h1, sm, g1, rs, at1.bind.mono .refl .refl fun y h2 i2 H2 e2 s2 g2 at2 u ru => ?_⟩
    cases e : cmp op x y h2 with
    | none => rw [e] at at2; exact at2.elim
    | some k =>
      rw [e] at at2
      refine cmp_ok ho hu hK g2 (rv.mono e2 s2) ru e ⟨k, rfl, ?_⟩
      cases k with
      | false => exact at2.ok g2 _ (.bl _)
      | true =>
        refine ⟨i2, h2, sm, g2, rs.mono e2 s2, AtR.mono (AtR.bind at2) .refl .refl fun z h3 i3 H3 e3 s3 g3 at3 w rw => ?_⟩
        exact cmpR_ok ho' hu hK g3 (ru.mono e3 s3) rw at3
  · have q : Sta K Wm (fun sm h => (evE g ma sm h).bind fun x h => (evE g mb sm h).bind fun y h => match cmp op x y h with
      | some true => (evE g mc sm h).bind fun z h => (cmpR op' y z h).bind truthR
      | some false => .ok false h
      | none => .bad) σ H fun k _ _ H' => Q k H' := by
      obtain ⟨i1, h1, sm1, g1, rs1, at1⟩ := q
      refine ⟨i1, h1, sm1, g1, rs1, ?_⟩
      have at1 : AtR K Wm σ i1 H (((evE g ma sm1 h1).bind fun x h => (evE g mb sm1 h).bind fun y h => match cmp op x y h with
        | some true => (evE g mc sm1 h).bind fun z h => cmpR op' y z h
        | some false => .ok (.bl false) h
        | none => .bad).bind truthR) _ := at1
      simp only [res_assoc] at at1
      have e : ∀ (x y : MV) (h : Hm), (match cmp op x y h with
        | some true => (evE g mc sm1 h).bind fun z h => cmpR op' y z h
        | some false => .ok (.bl false) h
        | none => .bad).bind truthR = match cmp op x y h with
        | some true => (evE g mc sm1 h).bind fun z h => (cmpR op' y z h).bind truthR
        | some false => .ok false h
        | none => .bad := fun x y h => by
        cases cmp op x y h with
        | none => rfl
        | some k =>
          cases k with
          | true => exact res_assoc
          | false => rfl
      simp only [e] at at1
      exact at1
    refine Sta.imp (Sta.parts (f := fun sm x h => (evE g mb sm h).bind fun y h => match cmp op x y h with
      | some true => (evE g mc sm h).bind fun z h => (cmpR op' y z h).bind truthR
      | some false => .ok false h
      | none => .bad) q) fun x h1 i1 H1 g1 ⟨sm, rs, _, at1⟩ v rv => ⟨i1, h1, sm, g1, rs, at1.bind.mono .refl .refl fun y h2 i2 H2 e2 s2 g2 at2 u ru => ?_⟩
    cases e : cmp op x y h2 with
    | none => rw [e] at at2; exact at2.elim
    | some k =>
      rw [e] at at2
      refine cmp_ok ho hu hK g2 (rv.mono e2 s2) ru e ⟨k, rfl, ?_⟩
      cases k with
      | false => exact ⟨false, rfl, AtR.ok (x := false) (h := h2) at2 g2⟩
      | true =>
        refine ⟨i2, h2, sm, g2, rs.mono e2 s2, AtR.mono (AtR.bind at2) .refl .refl fun z h3 i3 H3 e3 s3 g3 at3 w rw => ?_⟩
        unfold cmpR at at3
        split at at3
        · rename_i k hk
          exact cmp_ok ho' hu hK g3 (ru.mono e3 s3) rw hk ⟨k, rfl, AtR.ok (x := k) (h := h3) at3 g3⟩
        · exact at3.elim
end
end R

namespace R
open PySem PySem.Spec
open L2 (V Hp HO SqL SqT TE TS TT TA VK Cx PE PT PA PS PSs upd Rd RelV Dp DpAll)

/-! ### argument lists, displays -/
section
variable {X : Cx} {ad : Str → Option Addr} {K : KW} {Wm : Wish} {g : Genv} {pos : Pos} {e a b c : Expr} {m ma mb mc : ME} {σ : L2.St} {ι : List Addr} {H : Hp} {h : Hm}
def notStar : Expr → Bool
  | .Starred _ _ => false
  | _ => true
theorem noStar_cons {es : List Expr} (q : noStar (e :: es) = true) : notStar e = true ∧ noStar es = true := by
  unfold noStar at q ⊢
  rw [List.all_cons, Bool.and_eq_true] at q
  exact ⟨by cases e <;> first | rfl | exact q.1, q.2⟩
theorem star_cons {es : List Expr} {env : Env} (q : notStar e = true) : starEach (e :: es) env = (false, eval e env) :: starEach es env := by
  cases e <;> first | rfl | cases q
theorem star_plain {pos : Pos} {env : Env} : ∀ {es : List Expr}, noStar es = true → (backTo pos (starEach es env)).any (·.1) = false
  | [], _ => rfl
  | e :: es, q => by
    obtain ⟨q1, q2⟩ := noStar_cons q
    rw [star_cons q1]
    show (false || (backTo pos (starEach es env)).any (·.1)) = false
    rw [star_plain q2, Bool.or_false]
theorem star_all {pos : Pos} {env : Env} : ∀ {es : List Expr}, noStar es = true → (backTo pos (starEach es env)).all (fun x => !x.1) = true
  | [], _ => rfl
  | e :: es, q => by
    obtain ⟨q1, q2⟩ := noStar_cons q
    rw [star_cons q1]
    show (true && (backTo pos (starEach es env)).all (fun x => !x.1)) = true
    rw [star_all q2, Bool.and_true]
inductive SEs (X : Cx) (K : KW) (Wm : Wish) (g : Genv) : List Expr → MEs → Prop where
  | nil : SEs X K Wm g [] .nil
  | cons {e : Expr} {m : ME} {es : List Expr} {ms : MEs} : SE X K Wm g e m → SEs X K Wm g es ms → SEs X K Wm g (e :: es) (.cons m ms)
theorem pa_of {es : List Expr} {ms : MEs} (s : SEs X K Wm g es ms) (q : noStar es = true) : PA X es (tA K Wm (evEs g ms)) := by
  induction s with
  | nil =>
    refine PA.imp L2.pa_nil fun σ H Q z => ?_
    obtain ⟨i1, h1, sm1, g1, rs1, at1⟩ := z
    exact (AtR.ok (x := ([] : List MV)) (h := h1) at1 g1) [] .nil
  | @cons e m es ms h1 h2 ih =>
    obtain ⟨q1, q2⟩ := noStar_cons q
    refine PA.imp (L2.pa_cons h1.pe (ih q2) (star_cons q1)) fun σ H Q z => ?_
    refine Sta.imp (Sta.parts (f := fun sm x h => (evEs g ms sm h).bind fun xs h => .ok (x :: xs) h) z) fun x h1 i1 H1 g1 ⟨sm, rs, _, at1⟩ v rv => ⟨i1, h1, sm, g1, rs, at1.bind.mono .refl .refl fun xs h2 i2 H2 e2 s2 g2 at2 vs rvs => ?_⟩
    exact (AtR.ok (x := x :: xs) (h := h2) at2 g2) _ (.cons (rv.mono e2 s2) rvs)
theorem gh_up {p : Addr} {o : HO} (gh : GH K ι h H) (hp : H p = none) : GH K ι h (upd H p o) :=
  ⟨gh.len, fun i ob a e1 e2 => (gh.obj i ob a e1 e2).keep .refl (stp_new hp) fun w z => by rw [L2.upd_ne (L2.ne_of_none z hp)]; exact z, gh.inj⟩
theorem s_tup {k : Nat} {es : List Expr} {ms : MEs} (hK : KW.mk X.K X.w ad = K) (s : SEs X K Wm g es ms) (q : noStar es = true) : SE X K Wm g (.Tuple es k pos) (.tup ms) :=
  pt_of hK (PE.imp (L2.pe_tup (pa_of s q)) fun σ H Q z => Sta.imp (Sta.args (f := fun xs h => if xs.length ≤ sizeLine then (.ok (MV.tup xs) h : Res MV) else .bad) z) fun x h1 i1 H1 g1 z vs rvs => by
    obtain ⟨i2, xs, h2, sm2, g2, rs2, rv2, at2⟩ := z vs rvs
    split at at2
    · rename_i hl
      rw [rv2.length] at hl
      exact ⟨hl, fun p hp => at2 _ _ .refl (stp_new hp) (gh_up g2 hp) _ (.tup (SqN.of L2.upd_same) (rv2.mono .refl (stp_new hp)))⟩
    · exact at2.elim) fun _ => rfl
theorem s_lst {es : List Expr} {ms : MEs} (hK : KW.mk X.K X.w ad = K) (s : SEs X K Wm g es ms) (q : noStar es = true) : SE X K Wm g (.List es pos) (.lst ms) :=
  pt_of hK (PE.imp (L2.pe_lst (pa_of s q)) fun σ H Q z => Sta.imp (Sta.args (f := fun xs h => if xs.length ≤ sizeLine then new (.list xs) h else .bad) z) fun x h1 i1 H1 g1 z vs rvs => by
    obtain ⟨i2, xs, h2, sm2, g2, rs2, rv2, at2⟩ := z vs rvs
    split at at2
    · rename_i hl
      rw [rv2.length] at hl
      exact ⟨hl, fun p hp => new_ok g2 hp (.list L2.upd_same (rv2.mono Ext.push (stp_new hp))) at2 _ (rv_new g2)⟩
    · exact at2.elim) fun _ => rfl
theorem s_dnew (hK : KW.mk X.K X.w ad = K) : SE X K Wm g (.Dict [] [] pos) .dnew :=
  pt_of hK (PE.imp L2.pe_dnewK fun σ H Q z => by
    obtain ⟨i1, h1, sm1, g1, rs1, at1⟩ := z
    intro p hp
    exact new_ok g1 hp (.dict L2.upd_same .nil) at1 _ (rv_new g1)) fun _ => rfl

/-! ### subscripts -/
theorem ix_any (hu : X.A.units + 1 < cLine) : L2.IxR X (fun x y H Q => (∃ r, L2.IxR X r ∧ r x y H Q) ∨ ∃ a v, x = .ref a ∧ L2.DGet H a y (some v) ∧ Q v H) := by
  intro value slice pins s σ H x y v u Q I rx ry q hs
  rcases q with ⟨r, hr, q⟩ | ⟨a, w, rfl, dg, q⟩
  · exact hr value slice pins s σ H x y v u Q I rx ry q hs
  · cases rx
    exact PyProof.Rows.tail_any (L2.dict_typeIs I dg) PySem.F.slot_dict_getitem.lookup (L2.d_getItem hu I dg ry fun w' s3 I3 rw' => ⟨_, H, I3, rw', q⟩) hs
theorem atI_rvs {xs : List MV} {vs : List V} {i : Int} {x : MV} (r : RVs K H ι xs vs) (q : L2.atI xs i = some x) : ∃ v, L2.atI vs i = some v ∧ RV K H ι x v := by
  unfold L2.atI at q ⊢
  obtain ⟨j, h1, h2⟩ := Option.bind_eq_some_iff.mp q
  obtain ⟨v, h3, h4⟩ := r.get h2
  exact ⟨v, by rw [← r.length, h1]; exact h3, h4⟩
theorem ixAt_ok (hK : KW.mk X.K X.w ad = K) {x y : MV} {v u : V} {Q : VK} (gh : GH K ι h H) (rx : RV K H ι x v) (ry : RV K H ι y u) (q : AtR K Wm σ ι H (ixAt x y h) (PQ K Q)) :
    (∃ r, L2.IxR X r ∧ r v u H Q) ∨ ∃ a w, v = .ref a ∧ L2.DGet H a u (some w) ∧ Q w H := by
  subst hK
  have dct : ∀ {j : Nat} {a : Addr} {kvs : List (L2.Key × MV)} {k : L2.Key}, ι[j]? = some a → h[j]? = some (.dict kvs) → AtR ⟨X.K, X.w, ad⟩ Wm σ ι H (match mLook kvs k with
      | some v => (.ok v h : Res MV)
      | none => .bad) (PQ ⟨X.K, X.w, ad⟩ Q) → ∃ w, L2.DGet H a (L2.kV k) (some w) ∧ Q w H := by
    intro j a kvs k ej hk q
    cases gh.obj j _ a hk ej with
    | @dict _ _ vs h1 r1 =>
      rcases mLook_val r1 k with ⟨z1, z2⟩ | ⟨x, v, z1, z2, z3⟩
      · rw [z1] at q; exact q.elim
      · rw [z1] at q
        exact ⟨v, by rw [← z2]; exact L2.DGet.k h1, q.ok gh _ z3⟩
  cases ry with
  | int k =>
    cases rx with
    | str s =>
      unfold ixAt at q
      simp only at q
      split at q
      · rename_i hl
        split at q
        · rename_i ch hc
          exact .inl ⟨_, L2.ix_str, s, k, ch, rfl, rfl, hl, hc, q.ok gh _ (.str _)⟩
        · exact q.elim
      · exact q.elim
    | @ref j a ej =>
      unfold ixAt at q
      simp only at q
      split at q
      · rename_i kvs hk
        obtain ⟨w, d1, d2⟩ := dct (k := .inl k) ej hk q
        exact .inr ⟨a, w, rfl, d1, d2⟩
      · split at q
        · rename_i xs hx
          split at q
          · rename_i z hz
            obtain ⟨vs, hs, r⟩ := sq_list gh ej hx
            obtain ⟨w, h1, h2⟩ := atI_rvs r hz
            exact .inl ⟨_, L2.ix_list, a, vs, k, w, rfl, rfl, hs, h1, q.ok gh _ h2⟩
          · exact q.elim
        · exact q.elim
    | @tup a xs vs hs r =>
      unfold ixAt at q
      simp only [items] at q
      split at q
      · rename_i z hz
        obtain ⟨w, h1, h2⟩ := atI_rvs r hz
        exact .inl ⟨_, L2.ix_tup, a, vs, k, w, rfl, rfl, hs.sq, h1, q.ok gh _ h2⟩
      · exact q.elim
    | non => exact q.elim
    | bl _ => exact q.elim
    | int _ => exact q.elim
    | ty _ => exact q.elim
  | str t =>
    cases rx with
    | @ref j a ej =>
      unfold ixAt at q
      simp only at q
      split at q
      · rename_i kvs hk
        obtain ⟨w, d1, d2⟩ := dct (k := .inr t) ej hk q
        exact .inr ⟨a, w, rfl, d1, d2⟩
      · exact q.elim
    | non => exact q.elim
    | bl _ => exact q.elim
    | int _ => exact q.elim
    | ty _ => exact q.elim
    | str _ => exact q.elim
    | tup _ _ => exact q.elim
  | non => exact q.elim
  | bl _ => exact q.elim
  | ty _ => exact q.elim
  | tup _ _ => exact q.elim
  | ref _ => exact q.elim
theorem s_ix (hu : X.A.units + 1 < cLine) (hK : KW.mk X.K X.w ad = K) (ha : SE X K Wm g a ma) (hb : SE X K Wm g b mb) (hs : isSlice b = false) : SE X K Wm g (.Subscript a b pos) (.ix ma mb) :=
  pt_of hK (PE.imp (L2.pe_ix (ix_any hu) ha.pe hb.pe (by cases b <;> first | (intro _ _; rfl) | cases hs)) fun σ H Q q =>
    Sta.imp (Sta.two (f := fun x y h => ixAt x y h) q) fun x h1 i1 H1 g1 z v rv => Sta.imp (z v rv) fun y h2 i2 H2 g2 z2 u ru => by
      obtain ⟨i3, x3, y3, h3, sm3, g3, rs3, rv3, ru3, at3⟩ := z2 u ru
      exact ixAt_ok hK g3 rv3 ru3 at3) fun _ => rfl
end
end R

namespace R
open PySem PySem.Spec
open L2 (V Hp HO SqL SqT TE TS TT TA VK Cx PE PT PA PS PSs upd Rd RelV Dp DpAll)
section
variable {X : Cx} {ad : Str → Option Addr} {K : KW} {Wm : Wish} {g : Genv} {pos : Pos} {e a b c : Expr} {m ma mb mc : ME} {σ : L2.St} {ι : List Addr} {H : Hp} {h : Hm}
/-! ### slices -/
def tO (K : KW) (Wm : Wish) (ev : Sm → Hm → Res (List MV)) : L2.TO := fun σ H Q => Sta K Wm ev σ H fun xs _ _ H' => ∃ l, allS asInt xs = some l ∧ Q l.head? H'
theorem po_nil : L2.PO X none (tO K Wm (evEs g .nil)) := ⟨fun pins s σ H Q I q => L2.po_none.run pins s σ H Q I (by
  obtain ⟨i1, h1, sm1, g1, rs1, at1⟩ := q
  obtain ⟨l, e1, q1⟩ := AtR.ok (x := ([] : List MV)) (h := h1) at1 g1
  cases e1
  exact q1)⟩
theorem po_one (ha : SE X K Wm g a ma) : L2.PO X (some a) (tO K Wm (evEs g (.cons ma .nil))) := ⟨fun pins s σ H Q I q => (L2.po_some ha.pe).run pins s σ H Q I (by
  refine Sta.imp (Sta.one (f := fun x h => (Res.ok ([] : List MV) h).bind fun xs h => .ok (x :: xs) h) q) fun x h1 i1 H1 g1 z v rv => ?_
  obtain ⟨i2, x2, h2, sm2, g2, rs2, rv2, at2⟩ := z v rv
  obtain ⟨l, e1, q1⟩ := AtR.ok (x := [x2]) (h := h2) at2 g2
  obtain ⟨b, bs, e2, e3, e4⟩ := allS_cons e1
  rw [allS_nil e3] at e4
  subst e4
  cases rv2 <;> cases e2
  exact ⟨_, rfl, q1⟩)⟩
/-- a slice's part and its small text -/
inductive SO (X : Cx) (K : KW) (Wm : Wish) (g : Genv) : Option Expr → MEs → Prop where
  | none : SO X K Wm g none .nil
  | some {a : Expr} {ma : ME} : SE X K Wm g a ma → SO X K Wm g (some a) (.cons ma .nil)
theorem po_of {o : Option Expr} {ms : MEs} (s : SO X K Wm g o ms) : L2.PO X o (tO K Wm (evEs g ms)) := by
  cases s with
  | none => exact po_nil
  | some h => exact po_one h
theorem sl_any : L2.SlR X (fun x lo hi H Q => ∃ r, L2.SlR X r ∧ r x lo hi H Q) := fun pins s σ H x v vl vu lo hi sl Q I rx hs pl pu ⟨r, hr, q⟩ => hr pins s σ H x v vl vu lo hi sl Q I rx hs pl pu q
theorem RVs.drop : ∀ (n : Nat) {x : List MV} {v : List V}, RVs K H ι x v → RVs K H ι (x.drop n) (v.drop n)
  | 0, _, _, r => r
  | _ + 1, _, _, .nil => .nil
  | n + 1, _, _, .cons _ r => RVs.drop n r
theorem RVs.take : ∀ (n : Nat) {x : List MV} {v : List V}, RVs K H ι x v → RVs K H ι (x.take n) (v.take n)
  | 0, _, _, _ => .nil
  | _ + 1, _, _, .nil => .nil
  | n + 1, _, _, .cons h r => .cons h (RVs.take n r)
theorem RVs.reverse : ∀ {x : List MV} {v : List V}, RVs K H ι x v → RVs K H ι x.reverse v.reverse
  | _, _, .nil => .nil
  | _, _, .cons h r => by rw [List.reverse_cons, List.reverse_cons]; exact (RVs.reverse r).append (.cons h .nil)
theorem cut_rvs {xs : List MV} {vs : List V} (r : RVs K H ι xs vs) (lo hi : Option Int) : RVs K H ι (cutL xs lo hi) (L2.cutV vs lo hi) := by
  unfold cutL L2.cutV
  rw [r.length]
  exact (r.drop _).take _
theorem cutAt_ok (hK : KW.mk X.K X.w ad = K) {x : MV} {v : V} {lo hi : Option Int} {Q : VK} (gh : GH K ι h H) (rx : RV K H ι x v) (q : AtR K Wm σ ι H (cutAt x lo hi h) (PQ K Q)) : ∃ r, L2.SlR X r ∧ r v lo hi H Q := by
  subst hK
  cases rx with
  | str s =>
    unfold cutAt at q
    simp only at q
    split at q
    · rename_i hl
      exact ⟨_, L2.sl_str, s, rfl, hl, q.ok gh _ (.str _)⟩
    · exact q.elim
  | @tup a xs vs hs r =>
    refine ⟨_, L2.sl_tupA, a, vs, rfl, hs.sq, fun z => ?_, fun z p hp => ?_⟩
    · have e : L2.cutV vs lo hi = vs := by
        unfold L2.cutV
        rw [z.1, z.2]
        simp
      refine q.ok gh _ (.tup hs ?_)
      have := cut_rvs r lo hi
      rw [e] at this
      exact this
    · exact q _ _ .refl (stp_new hp) (gh_up gh hp) _ (.tup (SqN.of L2.upd_same) ((cut_rvs r lo hi).mono .refl (stp_new hp)))
  | @ref j a ej =>
    unfold cutAt at q
    simp only at q
    split at q
    · rename_i xs hx
      obtain ⟨vs, hs, r⟩ := sq_list gh ej hx
      exact ⟨_, L2.sl_list, a, vs, rfl, hs, fun p hp => new_ok gh hp (.list L2.upd_same ((cut_rvs r lo hi).mono Ext.push (stp_new hp))) q _ (rv_new gh)⟩
    · exact q.elim
  | non => exact q.elim
  | bl _ => exact q.elim
  | int _ => exact q.elim
  | ty _ => exact q.elim
theorem s_slc {lo hi : Option Expr} {ml mh : MEs} {p2 : Pos} (hK : KW.mk X.K X.w ad = K) (ha : SE X K Wm g a ma) (hl : SO X K Wm g lo ml) (hh : SO X K Wm g hi mh) : SE X K Wm g (.Subscript a (.Slice lo hi none p2) pos) (.slc ma ml mh) :=
  pt_of hK (PE.imp (L2.pe_slice sl_any ha.pe (po_of hl) (po_of hh)) fun σ H Q q => by
    refine Sta.imp (Sta.parts (f := fun sm x h => (evEs g ml sm h).bind fun l h => match allS asInt l with
      | none => .bad
      | some l => (evEs g mh sm h).bind fun u h => match allS asInt u with
        | none => .bad
        | some u => cutAt x l.head? u.head? h) q) fun x h1 i1 H1 g1 ⟨sm, rs, _, at1⟩ v rv => ?_
    refine ⟨i1, h1, sm, g1, rs, at1.bind.mono .refl .refl fun l h2 i2 H2 e2 s2 g2 at2 => ?_⟩
    cases el : allS asInt l with
    | none => rw [el] at at2; exact at2.elim
    | some li =>
      rw [el] at at2
      refine ⟨li, rfl, i2, h2, sm, g2, rs.mono e2 s2, AtR.mono (AtR.bind at2) .refl .refl fun u h3 i3 H3 e3 s3 g3 at3 => ?_⟩
      cases eu : allS asInt u with
      | none => rw [eu] at at3; exact at3.elim
      | some lu =>
        rw [eu] at at3
        exact ⟨lu, rfl, cutAt_ok hK g3 ((rv.mono e2 s2).mono e3 s3) at3⟩) fun _ => rfl
theorem s_rev {k : Nat} {p1 p2 p3 : Pos} (hK : KW.mk X.K X.w ad = K) (ha : SE X K Wm g a ma) : SE X K Wm g (.Subscript a (.Slice none none (some (.UnaryOp .USub (.Constant (.int 1) k p1) p2)) p3) pos) (.rev ma) :=
  pt_of hK (PE.imp (L2.pe_revL ha.pe) fun σ H Q q => Sta.imp (Sta.one (f := fun x h => revAt x h) q) fun x h1 i1 H1 g1 z v rv => by
    obtain ⟨i2, x2, h2, sm2, g2, rs2, rv2, at2⟩ := z v rv
    subst hK
    unfold revAt at at2
    cases rv2 <;> first | exact at2.elim | skip
    rename_i j a2 ej
    simp only at at2
    split at at2
    · rename_i xs hx
      obtain ⟨vs, hs, r⟩ := sq_list g2 ej hx
      exact ⟨a2, vs, rfl, hs, fun p hp => new_ok g2 hp (.list L2.upd_same (r.reverse.mono Ext.push (stp_new hp))) at2 _ (rv_new g2)⟩
    · exact at2.elim) fun _ => rfl

/-! ### calls of defs -/
/-- what a def of the small program promises: the answer of call f -/
def spG (K : KW) (call : List MV → Hm → Res MV) (n : Nat) : L2.Sp := fun vs H Q _ =>
  vs.length = n ∧ ∃ ι h xs, GH K ι h H ∧ RVs K H ι xs vs ∧ AtR K (fun _ _ _ _ _ _ => False) [] ι H (call xs h) (PQ K Q)
/-- how a call with keywords binds -/
def KwB (K : KW) (fd : FuncData) (ps : List Str) (ds : List MV) (z : KSh) : Prop :=
  ∃ (gu : List Value → List Value → List Value) (gV : List V → List V → List V), L2.KBn K.f fd ps z.n z.ks gu gV ∧
    ∀ H ι xs vs zs us ys, RVs K H ι xs vs → RVs K H ι zs us → pickL z.n z.ks.length z.sl ds xs zs = some ys → RVs K H ι ys (gV vs us)
/-- the def f stands, and keeps this promise -/
structure CallOk (X : Cx) (K : KW) (call : List MV → Hm → Res MV) (f : Str) (d : DI) : Prop where
  len : ∀ xs h, xs.length ≠ d.ps.length → call xs h = .bad
  ex : ∃ (k : Nat) (fa : Addr) (fd : FuncData), L2.FnOk X.prog X.w X.K X.mg X.base L2.CX0 k fa fd d.ps (spG K call d.ps.length) ∧ L2.Room k X.A ∧ X.mg f = some (.ref fa) ∧ PySem.W.keepIn X.K (.ref fa) = true ∧
    (∀ j, j ≤ d.ds.length → ∃ (ds : List Value) (dvs : List V), L2.Binds X.K fd d.ps ds ∧ L2.Vals dvs ds ∧ ∀ H ι, RVs K H ι (d.ds.drop j) dvs) ∧ ∀ z ∈ d.kws, KwB K fd d.ps d.ds z
theorem AtR.calm {P P' : MV → Hm → List Addr → Hp → Prop} {σ' : L2.St} (hW : ∀ c k h i s H, ¬ Wm c k h i s H) {r : Res MV} (a : AtR K Wm σ ι H r P) (gh : GH K ι h H) (f : ∀ x h i H, P x h i H → P' x h i H) : AtR K (fun _ _ _ _ _ _ => False) σ' ι H r P' := by
  cases r with
  | ok x h' => exact fun i2 H2 e s g2 => f _ _ _ _ (a i2 H2 e s g2)
  | exc c k h' => exact fun i2 H2 e s g2 => hW _ _ _ _ _ _ (a i2 H2 e s g2)
  | bad => exact a
theorem s_call {f : Str} {p : Pos} {d : DI} {es : List Expr} {ms : MEs} {j : Nat} (hK : KW.mk X.K X.w ad = K) (hW : ∀ c k h i s H, ¬ Wm c k h i s H) (C : CallOk X K (g.call f) f d) (hg : L2.Gl X f) (hdb : (f == ("__debug__" : Str)) = false) (s : SEs X K Wm g es ms) (q : noStar es = true)
    (hj : j ≤ d.ds.length) : SE X K Wm g (.Call (.Name f p) es [] pos) (.call f ms (d.ds.drop j)) := by
  obtain ⟨k, fa, fd, F, hr, hm, hkp, hb, _⟩ := C.ex
  obtain ⟨ds, dvs, b1, b2, b3⟩ := hb j hj
  cases es with
  | nil =>
    cases s with
    | nil =>
      refine pt_of hK (PE.imp (L2.pe_call0 (E := fun _ _ _ => False) F hr hg hm hkp b1 b2 L2.pass0 hdb) fun σ H Q z => ?_) fun _ => rfl
      obtain ⟨ι, h, sm, gh, rs, at2⟩ := z
      have at2 : AtR K Wm σ ι H (g.call f ([] ++ d.ds.drop j) h) (PQ K Q) := at2
      have r3 := RVs.append .nil (b3 H ι)
      refine ⟨?_, ι, h, _, gh, r3, at2.calm hW gh fun _ _ _ _ z => z⟩
      rw [← r3.length]
      by_cases hl : (([] : List MV) ++ d.ds.drop j).length = d.ps.length
      · exact hl
      · rw [C.len _ _ hl] at at2
        exact at2.elim
  | cons e es =>
    obtain ⟨q1, q2⟩ := noStar_cons q
    refine pt_of hK (PE.imp (L2.pe_call (E := fun _ _ _ => False) F hr hg hm hkp b1 b2 L2.pass0 (pa_of s q) hdb (star_cons q1) (star_plain q2)) fun σ H Q z => Sta.imp (Sta.args (f := fun xs h => g.call f (xs ++ d.ds.drop j) h) z) fun xs h1 i1 H1 g1 z vs rvs => ?_) fun _ => rfl
    obtain ⟨i2, xs2, h2, sm2, g2, rs2, rv2, at2⟩ := z vs rvs
    have r3 := rv2.append (b3 H1 i2)
    refine ⟨?_, i2, h2, _, g2, r3, at2.calm hW g2 fun _ _ _ _ z => z⟩
    rw [← r3.length]
    by_cases hl : (xs2 ++ d.ds.drop j).length = d.ps.length
    · exact hl
    · rw [C.len _ _ hl] at at2
      exact at2.elim

/-! ### calls with keywords -/
theorem pk_imp {kws : List Keyword} {t t' : TA} (h : L2.PK X kws t) (f : ∀ σ H Q, t' σ H Q → t σ H Q) : L2.PK X kws t' := ⟨fun pos pins s σ H Q I q => h.run pos pins s σ H Q I (f σ H Q q)⟩
theorem pk_of {es : List Expr} {ms : MEs} (s : SEs X K Wm g es ms) : ∀ {kws : List Keyword}, kws.map (·.value) = es → L2.PK X kws (tA K Wm (evEs g ms)) := by
  induction s with
  | nil =>
    intro kws q
    cases kws with
    | cons _ _ => cases q
    | nil =>
      refine pk_imp L2.pk_nil fun σ H Q z => ?_
      obtain ⟨i1, h1, sm1, g1, rs1, at1⟩ := z
      exact (AtR.ok (x := ([] : List MV)) (h := h1) at1 g1) [] .nil
  | @cons e m es ms h1 h2 ih =>
    intro kws q
    cases kws with
    | nil => cases q
    | cons k kws =>
      obtain ⟨nm, v, kp⟩ := k
      have q1 : v = e := (List.cons.inj q).1
      have q2 : kws.map (·.value) = es := (List.cons.inj q).2
      subst q1
      refine pk_imp (L2.pk_cons h1.pe (ih q2)) fun σ H Q z => ?_
      refine Sta.imp (Sta.parts (f := fun sm x h => (evEs g ms sm h).bind fun xs h => .ok (x :: xs) h) z) fun x h1 i1 H1 g1 ⟨sm, rs, _, at1⟩ v rv => ⟨i1, h1, sm, g1, rs, at1.bind.mono .refl .refl fun xs h2 i2 H2 e2 s2 g2 at2 vs rvs => ?_⟩
      exact (AtR.ok (x := x :: xs) (h := h2) at2 g2) _ (.cons (rv.mono e2 s2) rvs)
theorem kw_facts {pos : Pos} {env : Env} : ∀ {kws : List Keyword} {ks : List Str}, kwNames kws = some ks →
    (backToKw pos (keywordEach kws env)).all (·.1.isSome) = true ∧ (backToKw pos (keywordEach kws env)).filterMap (·.1) = ks ∧ (backToKw pos (keywordEach kws env)).any (·.1.isNone) = false
  | [], ks, q => by cases q; exact ⟨rfl, rfl, rfl⟩
  | ⟨none, e, p⟩ :: kws, ks, q => by cases q
  | ⟨some x, e, p⟩ :: kws, ks, q => by
    unfold kwNames at q
    cases e1 : kwNames kws with
    | none => rw [e1] at q; cases q
    | some xs =>
      rw [e1] at q
      cases q
      obtain ⟨a1, a2, a3⟩ := kw_facts (pos := pos) (env := env) e1
      have e0 : backToKw pos (keywordEach (⟨some x, e, p⟩ :: kws) env) = (some x, do let v ← eval e env; standAt pos; pure v) :: backToKw pos (keywordEach kws env) := by first | rfl | simp [keywordEach, backToKw]
      rw [e0]
      exact ⟨by rw [List.all_cons, a1]; rfl, by rw [List.filterMap_cons, a2], by rw [List.any_cons, a3]; rfl⟩
theorem pe_callN0 {CX : L2.CXT} {k : Nat} {f : Addr} {fd : FuncData} {ps ks : List Str} {sp : L2.Sp} {E : L2.XK} {x : Str} {p : Pos} {kws : List Keyword} {tk : TA} {g : List Value → List Value → List Value} {gV : List V → List V → List V}
    (F : L2.FnOk X.prog X.w X.K X.mg X.base CX k f fd ps sp) (hr : L2.Room k X.A) (hg : L2.Gl X x) (hm : X.mg x = some (.ref f)) (hk : PySem.W.keepIn X.K (.ref f) = true) (hb : L2.KBn X.K fd ps 0 ks g gV) (hx : L2.Passes CX X E)
    (hkw : L2.PK X kws tk) (hall : (backToKw pos (keywordEach kws X.env)).all (·.1.isSome) = true) (hks : (backToKw pos (keywordEach kws X.env)).filterMap (·.1) = ks) (hdb : (x == ("__debug__" : Str)) = false)
    (hpl : ((backTo pos (starEach [] X.env)).any (·.1) || (backToKw pos (keywordEach kws X.env)).any (·.1.isNone)) = false) :
    PE X (.Call (.Name x p) [] kws pos) (L2.tCallN 0 ks.length sp gV E L2.tNil tk) := by
  refine ⟨fun pins s σ H Q I h => ?_⟩
  refine wpAny_Call_Name_kw (L2.ld_glob I hg hm ?_ hdb)
  refine PySem.W.callWith_KW0 (h₀ := X.base) I.ok.mod.kin hk hall ?_ hpl
  refine L2.thn (hkw.run pos pins s σ H _ I h) fun ws s2 ⟨zs, H2, I2, rz, l1, l2, q2⟩ => ⟨I2.kIn, ?_⟩
  rw [hks]
  exact L2.run_fnN (us := []) (vs := []) F hr hb hx I2 .nil rz rfl l2 q2
theorem s_callK {f : Str} {p : Pos} {d : DI} {es : List Expr} {ms mk : MEs} {kws : List Keyword} {z : KSh} (hK : KW.mk X.K X.w ad = K) (hW : ∀ c k h i s H, ¬ Wm c k h i s H) (C : CallOk X K (g.call f) f d) (hg : L2.Gl X f) (hdb : (f == ("__debug__" : Str)) = false) (s : SEs X K Wm g es ms) (q : noStar es = true)
    (sk : SEs X K Wm g (kws.map (·.value)) mk) (hks : kwNames kws = some z.ks) (hn : z.n = es.length) (hz : z ∈ d.kws) : SE X K Wm g (.Call (.Name f p) es kws pos) (.callK f ms mk z.n z.ks.length z.sl d.ds) := by
  obtain ⟨k, fa, fd, F, hr, hm, hkp, _, hb⟩ := C.ex
  obtain ⟨gu, gV, b1, b2⟩ := hb z hz
  obtain ⟨k1, k2, k3⟩ := kw_facts (pos := pos) (env := X.env) hks
  have main : ∀ (xs : List MV) (vs : List V) (zs : List MV) (us : List V) (ι : List Addr) (h : Hm) (σ : L2.St) (H : Hp) (Q : VK), GH K ι h H → RVs K H ι xs vs → RVs K H ι zs us → AtR K Wm σ ι H (callO (g.call f) (pickL z.n z.ks.length z.sl d.ds xs zs) h) (PQ K Q) →
      vs.length = z.n ∧ us.length = z.ks.length ∧ spG K (g.call f) d.ps.length (gV vs us) H Q (fun _ _ _ => False) := fun xs vs zs us ι h σ H Q gh rx rz a => by
    cases e : pickL z.n z.ks.length z.sl d.ds xs zs with
    | none => rw [e] at a; exact a.elim
    | some ys =>
      rw [e] at a
      have a : AtR K Wm σ ι H (g.call f ys h) (PQ K Q) := a
      have r3 := b2 H ι xs vs zs us ys rx rz e
      unfold pickL at e
      split at e
      · rename_i hl
        refine ⟨rx.length.symm.trans hl.1, rz.length.symm.trans hl.2, ?_, ι, h, _, gh, r3, a.calm hW gh fun _ _ _ _ z => z⟩
        rw [← r3.length]
        by_cases hl2 : ys.length = d.ps.length
        · exact hl2
        · rw [C.len _ _ hl2] at a
          exact a.elim
      · cases e
  subst hK
  cases s with
  | nil =>
    have hn0 : z.n = 0 := hn
    have b1' := b1
    rw [hn0] at b1'
    refine pt_of rfl (PE.imp (pe_callN0 (E := fun _ _ _ => False) F hr hg hm hkp b1' L2.pass0 (pk_of sk rfl) k1 k2 hdb (by rw [k3]; rfl)) fun σ H Q zz => ?_) fun _ => rfl
    have zz : Sta _ Wm (fun sm h => (evEs g mk sm h).bind fun zs h => callO (g.call f) (pickL z.n z.ks.length z.sl d.ds [] zs) h) σ H _ := zz
    refine Sta.imp (Sta.args (f := fun zs h => callO (g.call f) (pickL z.n z.ks.length z.sl d.ds [] zs) h) zz) fun x h1 i1 H1 g1 w us rus => ?_
    obtain ⟨i2, zs2, h2, sm2, g2, rs2, rv2, at2⟩ := w us rus
    have r := main [] [] zs2 us i2 h2 σ H1 Q g2 .nil rv2 at2
    exact ⟨rfl, r.2.1, r.2.2⟩
  | @cons e m es ms s1 s2 =>
    obtain ⟨q1, q2⟩ := noStar_cons q
    refine pt_of rfl (PE.imp (L2.pe_callN (E := fun _ _ _ => False) F hr hg hm hkp b1 L2.pass0 (pa_of (.cons s1 s2) q) (pk_of sk rfl) k1 k2 hdb (star_cons q1) (by rw [k3, star_plain q]; rfl)) fun σ H Q zz => ?_) fun _ => rfl
    refine Sta.imp (Sta.parts (f := fun sm xs h => (evEs g mk sm h).bind fun zs h => callO (g.call f) (pickL z.n z.ks.length z.sl d.ds xs zs) h) zz) fun xs h1 i1 H1 g1 ⟨sm, rs, _, at1⟩ vs rvs => ⟨i1, h1, sm, g1, rs, at1.bind.mono .refl .refl fun zs h2 i2 H2 e2 s2 g2 at2 us rus => ?_⟩
    exact main xs vs zs us i2 h2 σ H2 Q g2 (rvs.mono e2 s2) rus at2

/-! ### f-strings -/
theorem s_fmt (hK : KW.mk X.K X.w ad = K) (ha : SE X K Wm g a ma) : SE X K Wm g (.FormattedValue a (-1) none pos) (.fmt ma) :=
  pt_of hK (PE.imp (L2.pe_fmt ha.pe) fun σ H Q q => Sta.imp (Sta.one (f := fun x h => fmtR x h) q) fun x h1 i1 H1 g1 z v rv => by
    obtain ⟨i2, x2, h2, sm2, g2, rs2, rv2, at2⟩ := z v rv
    subst hK
    unfold fmtR at at2
    cases rv2 with
    | str s =>
      simp only at at2
      split at at2
      · exact .inl ⟨_, rfl, by assumption, at2.ok g2 _ (.str _)⟩
      · exact at2.elim
    | int i =>
      simp only at at2
      split at at2
      · exact .inr ⟨_, rfl, by assumption, at2.ok g2 _ (.str _)⟩
      · exact at2.elim
    | _ => exact at2.elim) fun _ => rfl
def tes (K : KW) (Wm : Wish) (g : Genv) : MEs → List TE
  | .nil => []
  | .cons a as => tE K Wm (evE g a) :: tes K Wm g as
theorem pj_of {es : List Expr} {ms : MEs} (s : SEs X K Wm g es ms) : L2.PJ X es (tes K Wm g ms) := by
  induction s with
  | nil => exact .nil
  | cons h1 _ ih => exact .cons h1.pe ih
theorem js_of : ∀ (ms : MEs) (acc : Str) (σ : L2.St) (H : Hp) (Q : Str → Hp → Prop), Sta K Wm (evFs g ms acc) σ H (fun s _ _ H' => Q s H') → L2.tJs (tes K Wm g ms) acc σ H Q
  | .nil, acc, σ, H, Q, z => by
    obtain ⟨i1, h1, sm1, g1, rs1, at1⟩ := z
    exact AtR.ok (x := acc) (h := h1) at1 g1
  | .cons a as, acc, σ, H, Q, z => by
    refine Sta.imp (Sta.parts (f := fun sm x h => (catR acc x h).bind fun acc h => evFs g as acc sm h) z) fun x h1 i1 H1 g1 ⟨sm, rs, _, at1⟩ v rv => ?_
    unfold catR at at1
    cases rv with
    | str s =>
      simp only at at1
      split at at1
      · exact ⟨s, rfl, by assumption, js_of as _ _ _ _ ⟨i1, h1, sm, g1, rs, at1⟩⟩
      · exact at1.elim
    | _ => exact at1.elim
theorem s_fs {v1 v2 : Expr} {vs : List Expr} {ms : MEs} (hK : KW.mk X.K X.w ad = K) (s : SEs X K Wm g (v1 :: v2 :: vs) ms) : SE X K Wm g (.JoinedStr (v1 :: v2 :: vs) pos) (.fs ms) :=
  pt_of hK (PE.imp (L2.pe_joined (pj_of s)) fun σ H Q z => js_of ms _ _ _ _ (Sta.imp (Sta.parts (f := fun sm s h => (Res.ok (MV.str s) h : Res MV)) z) fun s h1 i1 H1 g1 ⟨sm, rs, _, at1⟩ => (AtR.ok (x := MV.str s) (h := h1) at1 g1) _ (.str _))) fun _ => rfl

/-! ### built-in functions -/
def rcAny (X : Cx) (f : Value) : List V → Hp → VK → Prop := fun vs H Q => ∃ r, L2.CallR X f r ∧ r vs H Q
theorem rc_any {f : Value} : L2.CallR X f (rcAny X f) := fun pins s σ H xs us Q I r ⟨k, hk, q⟩ => hk pins s σ H xs us Q I r q
theorem allS_int : ∀ {xs : List MV} {ns : List Int} {vs : List V}, allS asInt xs = some ns → RVs K H ι xs vs → vs = ns.map V.int
  | [], _, _, q, .nil => by rw [allS_nil q]; rfl
  | x :: xs, _, _, q, .cons h r => by
    obtain ⟨b, bs, h1, h2, e⟩ := allS_cons q
    subst e
    cases h <;> cases h1
    rw [allS_int h2 r]
    rfl
theorem allS_bool : ∀ {xs : List MV} {ns : List Bool} {vs : List V}, allS asBool xs = some ns → RVs K H ι xs vs → vs = ns.map V.bl
  | [], _, _, q, .nil => by rw [allS_nil q]; rfl
  | x :: xs, _, _, q, .cons h r => by
    obtain ⟨b, bs, h1, h2, e⟩ := allS_cons q
    subst e
    cases h <;> cases h1
    rw [allS_bool h2 r]
    rfl
theorem allS_str : ∀ {xs : List MV} {ns : List Str} {vs : List V}, allS asStr xs = some ns → RVs K H ι xs vs → vs = ns.map V.str
  | [], _, _, q, .nil => by rw [allS_nil q]; rfl
  | x :: xs, _, _, q, .cons h r => by
    obtain ⟨b, bs, h1, h2, e⟩ := allS_cons q
    subst e
    cases h <;> cases h1
    rw [allS_str h2 r]
    rfl
theorem allS_ty : ∀ {xs : List MV} {ns : List String} {vs : List V}, allS asTy xs = some ns → RVs K H ι xs vs → vs = ns.map V.ty
  | [], _, _, q, .nil => by rw [allS_nil q]; rfl
  | x :: xs, _, _, q, .cons h r => by
    obtain ⟨b, bs, h1, h2, e⟩ := allS_cons q
    subst e
    cases h <;> cases h1
    rw [allS_ty h2 r]
    rfl
theorem ints_rvs : ∀ ns : List Int, RVs K H ι (ns.map .int) (ns.map V.int)
  | [] => .nil
  | n :: ns => .cons (.int n) (ints_rvs ns)
theorem strs_rvs : ∀ ns : List Str, RVs K H ι (ns.map .str) (ns.map V.str)
  | [] => .nil
  | n :: ns => .cons (.str n) (strs_rvs ns)
/-- the items of a list or a tuple -/
theorem sq_items (gh : GH K ι h H) {x : MV} {v : V} {xs : List MV} (q : items h x = some xs) (r : RV K H ι x v) :
    (∃ a vs, v = .ref a ∧ SqL K H a vs ∧ RVs K H ι xs vs ∧ ∃ i, x = .ref i ∧ ι[i]? = some a) ∨ ∃ a vs, v = .ref a ∧ SqN K H a vs ∧ RVs K H ι xs vs ∧ x = .tup xs := by
  cases r with
  | tup hs r => cases q; exact .inr ⟨_, _, rfl, hs, r, rfl⟩
  | @ref i a e =>
    obtain ⟨vs, hs, r⟩ := sq_list gh e q
    exact .inl ⟨a, vs, rfl, hs, r, i, rfl, e⟩
  | non => cases q
  | bl _ => cases q
  | int _ => cases q
  | str _ => cases q
  | ty _ => cases q
theorem rvs1 {x : MV} {vs : List V} (r : RVs K H ι [x] vs) : ∃ v, vs = [v] ∧ RV K H ι x v := by
  cases r with
  | cons h r => cases r; exact ⟨_, rfl, h⟩
theorem rvs2 {x y : MV} {vs : List V} (r : RVs K H ι [x, y] vs) : ∃ v u, vs = [v, u] ∧ RV K H ι x v ∧ RV K H ι y u := by
  cases r with
  | cons h r =>
    cases r with
    | cons h' r => cases r; exact ⟨_, _, rfl, h, h'⟩
theorem bi_len (hK : KW.mk X.K X.w ad = K) {xs : List MV} {vs : List V} {Q : VK} (gh : GH K ι h H) (r : RVs K H ι xs vs) (q : AtR K Wm σ ι H (bi .len xs h) (PQ K Q)) : rcAny X (.builtin "len") vs H Q := by
  subst hK
  unfold bi at q
  simp only at q
  split at q
  · rename_i s
    obtain ⟨v, rfl, rv⟩ := rvs1 r
    cases rv
    split at q
    · rename_i hl
      exact ⟨_, L2.call_len_str, s, rfl, hl, q.ok gh _ (.int _)⟩
    · exact q.elim
  · rename_i x _
    obtain ⟨v, rfl, rv⟩ := rvs1 r
    split at q
    · rename_i ys hy
      rcases sq_items gh hy rv with ⟨a, ws, rfl, hs, rw', _⟩ | ⟨a, ws, rfl, hs, rw', _⟩
      · exact ⟨_, L2.call_len_seq, a, ws, rfl, .inl hs, by rw [← rw'.length]; exact q.ok gh _ (.int _)⟩
      · exact ⟨_, L2.call_len_seq, a, ws, rfl, .inr hs.sq, by rw [← rw'.length]; exact q.ok gh _ (.int _)⟩
    · exact q.elim
  · exact q.elim
theorem bi_int (hK : KW.mk X.K X.w ad = K) {xs : List MV} {vs : List V} {Q : VK} (gh : GH K ι h H) (r : RVs K H ι xs vs) (q : AtR K Wm σ ι H (bi .int xs h) (PQ K Q)) : rcAny X (.type "int") vs H Q := by
  unfold bi at q
  simp only at q
  split at q
  · rename_i i
    obtain ⟨v, rfl, rv⟩ := rvs1 r
    cases rv
    exact ⟨_, L2.call_int1, .inl ⟨i, rfl, q.ok gh _ (.int _)⟩⟩
  · rename_i k
    obtain ⟨v, rfl, rv⟩ := rvs1 r
    cases rv
    exact ⟨_, L2.call_int1, .inr ⟨k, rfl, q.ok gh _ (.int _)⟩⟩
  · rename_i s
    obtain ⟨v, rfl, rv⟩ := rvs1 r
    cases rv
    split at q
    · rename_i hl
      split at q
      · rename_i n hn
        exact ⟨_, L2.call_int_str, s, n, rfl, hn, hl, q.ok gh _ (.int _)⟩
      · exact q.elim
    · exact q.elim
  · exact q.elim
theorem bi_abs {xs : List MV} {vs : List V} {Q : VK} (gh : GH K ι h H) (r : RVs K H ι xs vs) (q : AtR K Wm σ ι H (bi .abs xs h) (PQ K Q)) : rcAny X (.builtin "abs") vs H Q := by
  unfold bi at q
  simp only at q
  split at q
  · rename_i i
    obtain ⟨v, rfl, rv⟩ := rvs1 r
    cases rv
    exact ⟨_, L2.call_abs, i, rfl, q.ok gh _ (.int _)⟩
  · exact q.elim
theorem bi_str {xs : List MV} {vs : List V} {Q : VK} (gh : GH K ι h H) (r : RVs K H ι xs vs) (q : AtR K Wm σ ι H (bi .str xs h) (PQ K Q)) : rcAny X (.type "str") vs H Q := by
  unfold bi at q
  simp only at q
  split at q
  · rename_i i
    obtain ⟨v, rfl, rv⟩ := rvs1 r
    cases rv
    split at q
    · rename_i hl
      exact ⟨_, L2.call_str_int, i, rfl, hl, q.ok gh _ (.str _)⟩
    · exact q.elim
  · exact q.elim
theorem keys_rvs : ∀ {xs : List (L2.Key × MV)} {vs : List (L2.Key × V)}, RK K H ι xs vs → RVs K H ι (xs.map fun p => ofKey p.1) (vs.map fun p => L2.kV p.1)
  | _, _, .nil => .nil
  | _, _, .cons (k := k) h r => .cons (by cases k; exact .int _; exact .str _) (keys_rvs r)
theorem bi_list (hc : X.calm = true) (hK : KW.mk X.K X.w ad = K) {xs : List MV} {vs : List V} {Q : VK} (gh : GH K ι h H) (r : RVs K H ι xs vs) (q : AtR K Wm σ ι H (bi .list xs h) (PQ K Q)) : rcAny X (.type "list") vs H Q := by
  subst hK
  unfold bi at q
  simp only at q
  split at q
  · rename_i x
    obtain ⟨v, rfl, rv⟩ := rvs1 r
    split at q
    · rename_i ys hy
      rcases sq_items gh hy rv with ⟨a, ws, rfl, hs, rw', _⟩ | ⟨a, ws, rfl, hs, rw', _⟩
      · exact ⟨_, L2.call_list_of, a, ws, rfl, .inl hs, fun p hp => new_ok gh hp (.list L2.upd_same (rw'.mono Ext.push (stp_new hp))) q _ (rv_new gh)⟩
      · exact ⟨_, L2.call_list_of, a, ws, rfl, .inr hs.sq, fun p hp => new_ok gh hp (.list L2.upd_same (rw'.mono Ext.push (stp_new hp))) q _ (rv_new gh)⟩
    · cases rv with
      | @ref j a ej =>
        simp only at q
        split at q
        · rename_i kvs hk
          cases gh.obj j _ a hk ej with
          | @dict _ _ ws h1 r1 =>
            exact ⟨_, L2.call_listD hc, a, ws, rfl, .inl h1, fun p hp => new_ok gh hp (.list L2.upd_same ((keys_rvs r1).mono Ext.push (stp_new hp))) q _ (rv_new gh)⟩
        · exact q.elim
      | non => exact q.elim
      | bl _ => exact q.elim
      | int _ => exact q.elim
      | str _ => exact q.elim
      | ty _ => exact q.elim
      | tup _ _ => exact q.elim
  · exact q.elim
theorem bi_tuple (hK : KW.mk X.K X.w ad = K) {xs : List MV} {vs : List V} {Q : VK} (gh : GH K ι h H) (r : RVs K H ι xs vs) (q : AtR K Wm σ ι H (bi .tuple xs h) (PQ K Q)) : rcAny X (.type "tuple") vs H Q := by
  subst hK
  unfold bi at q
  simp only at q
  split at q
  · rename_i x
    obtain ⟨v, rfl, rv⟩ := rvs1 r
    split at q
    · rename_i ys hy
      rcases sq_items gh hy rv with ⟨a, ws, rfl, hs, rw', _⟩ | ⟨a, ws, rfl, hs, rw', _⟩
      · exact ⟨_, L2.call_tuple_of, a, ws, rfl, .inl ⟨hs, fun p hp => q _ _ .refl (stp_new hp) (gh_up gh hp) _ (.tup (SqN.of L2.upd_same) (rw'.mono .refl (stp_new hp)))⟩⟩
      · exact ⟨_, L2.call_tuple_of, a, ws, rfl, .inr ⟨hs.sq, q.ok gh _ (.tup hs rw')⟩⟩
    · exact q.elim
  · exact q.elim
theorem bi_sum (hc : X.calm = true) (hK : KW.mk X.K X.w ad = K) {xs : List MV} {vs : List V} {Q : VK} (gh : GH K ι h H) (r : RVs K H ι xs vs) (q : AtR K Wm σ ι H (bi .sum xs h) (PQ K Q)) : rcAny X (.builtin "sum") vs H Q := by
  subst hK
  unfold bi at q
  simp only at q
  split at q
  · rename_i j
    obtain ⟨v, rfl, rv⟩ := rvs1 r
    split at q
    · rename_i ys hy
      split at q
      · rename_i ns hn
        cases rv with
        | @ref _ a e =>
          obtain ⟨ws, hs, rw'⟩ := sq_list gh e hy
          have ew := allS_int hn rw'
          subst ew
          exact ⟨_, L2.cr_sum hc, a, ns, rfl, hs, q.ok gh _ (.int _)⟩
      · exact q.elim
    · exact q.elim
  · exact q.elim
theorem bi_any (hc : X.calm = true) (hK : KW.mk X.K X.w ad = K) {xs : List MV} {vs : List V} {Q : VK} (gh : GH K ι h H) (r : RVs K H ι xs vs) (q : AtR K Wm σ ι H (bi .any xs h) (PQ K Q)) : rcAny X (.builtin "any") vs H Q := by
  subst hK
  unfold bi at q
  simp only at q
  split at q
  · rename_i j
    obtain ⟨v, rfl, rv⟩ := rvs1 r
    split at q
    · rename_i ys hy
      split at q
      · rename_i ns hn
        cases rv with
        | @ref _ a e =>
          obtain ⟨ws, hs, rw'⟩ := sq_list gh e hy
          have ew := allS_bool hn rw'
          subst ew
          exact ⟨_, L2.cr_any hc, a, ns, rfl, hs, q.ok gh _ (.bl _)⟩
      · exact q.elim
    · exact q.elim
  · exact q.elim
theorem bi_all (hc : X.calm = true) (hK : KW.mk X.K X.w ad = K) {xs : List MV} {vs : List V} {Q : VK} (gh : GH K ι h H) (r : RVs K H ι xs vs) (q : AtR K Wm σ ι H (bi .all xs h) (PQ K Q)) : rcAny X (.builtin "all") vs H Q := by
  subst hK
  unfold bi at q
  simp only at q
  split at q
  · rename_i j
    obtain ⟨v, rfl, rv⟩ := rvs1 r
    split at q
    · rename_i ys hy
      split at q
      · rename_i ns hn
        cases rv with
        | @ref _ a e =>
          obtain ⟨ws, hs, rw'⟩ := sq_list gh e hy
          have ew := allS_bool hn rw'
          subst ew
          exact ⟨_, L2.cr_all hc, a, ns, rfl, hs, q.ok gh _ (.bl _)⟩
      · exact q.elim
    · exact q.elim
  · exact q.elim
theorem bi_max (hc : X.calm = true) {xs : List MV} {vs : List V} {Q : VK} (gh : GH K ι h H) (r : RVs K H ι xs vs) (q : AtR K Wm σ ι H (bi .max xs h) (PQ K Q)) : rcAny X (.builtin "max") vs H Q := by
  unfold bi at q
  simp only at q
  split at q
  · rename_i i j
    obtain ⟨v, u, rfl, rv, ru⟩ := rvs2 r
    cases rv
    cases ru
    exact ⟨_, L2.call_max2 hc, i, j, rfl, q.ok gh _ (.int _)⟩
  · exact q.elim
theorem bi_min (hc : X.calm = true) {xs : List MV} {vs : List V} {Q : VK} (gh : GH K ι h H) (r : RVs K H ι xs vs) (q : AtR K Wm σ ι H (bi .min xs h) (PQ K Q)) : rcAny X (.builtin "min") vs H Q := by
  unfold bi at q
  simp only at q
  split at q
  · rename_i i j
    obtain ⟨v, u, rfl, rv, ru⟩ := rvs2 r
    cases rv
    cases ru
    exact ⟨_, L2.call_min2 hc, i, j, rfl, q.ok gh _ (.int _)⟩
  · exact q.elim
theorem bi_gcd {xs : List MV} {vs : List V} {Q : VK} (gh : GH K ι h H) (r : RVs K H ι xs vs) (q : AtR K Wm σ ι H (bi .gcd xs h) (PQ K Q)) : rcAny X (.builtin "math.gcd") vs H Q := by
  unfold bi at q
  simp only at q
  split at q
  · rename_i i j
    obtain ⟨v, u, rfl, rv, ru⟩ := rvs2 r
    cases rv
    cases ru
    exact ⟨_, L2.cr_gcd, i, j, rfl, q.ok gh _ (.int _)⟩
  · exact q.elim
end
end R

/-! R: set(list or tuple of ints), sorted(set), any number. -/
namespace R
open PySem PySem.Spec PyProof.Rows
section
variable {P : Program} {w : World} {A : Around} {E : Value → Shared → Prop} {s : Shared}
/-- a set that was just made -/
abbrev set0 (w : World) : Obj := { cls := .type "set", dict := none, data := .set #[] 0 (.fresh 0 0 (!w.params.followText "set-order")) }
theorem set0_R {h : Heap} {a : Addr} {ns : List Int} (e : h.get? a = some (set0 w)) : L2.SetR w h a (fun j => decide (j ∈ ns.take 0)) 0 := L2.setR_new_at e
theorem set_of_list {l : Addr} {its : Array Value} (ns : List Int) {Q : Value → Shared → Prop} (hh : A.handled = none) (hl : s.heap.IsList l its) (hi : IntsAre its.toList ns) (hb : ns.length + 1 < scanBound)
    (h : ∀ (h' : Heap) (tk c : Nat), L2.SetR w h' s.heap.objs.size (fun j => decide (j ∈ ns)) c → c ≤ ns.length → (∀ b o, s.heap.get? b = some o → h'.get? b = some o) → Q (.ref s.heap.objs.size) { s with heap := h', toks := tk }) :
    wpAny (model P w) A (call (.type "set") [.ref l]) Q E s := by
  have sz : its.size = ns.length := by
    have z := hi.length
    rwa [Array.length_toList] at z
  obtain ⟨c, tl, mro⟩ := F.called_set.mro
  have made := F.called_set.made
  have sub := F.called_set.sub
  refine wpAny_call (codeAny_of_tree ?_)
  show wpAny _ _ (callAny (.type "set") _) _ _ _
  refine wpAny_pure ⟨Code.quiet_builtin _ (by decide +kernel), codeAny_builtin F.entry_type_call ?_⟩
  rw [Around.under_plain (weight_type_call_type "set" [.ref l] []) rfl]
  have notT := F.called_set.notType
  have can := F.called_set.canCreate
  have tc := F.typeCall_set_1 (.ref l)
  repeat (any_goals (first | assumption | wp_step))
  -- the new set
  refine codeAny_mono (L2.code_set_led1 (.ref l) (E := E) (Q₁ := fun ob t => ob = .ref s.heap.objs.size ∧ t = { s with heap := s.heap.push (set0 w) }) ⟨rfl, rfl⟩) fun r t hr => ?_
  rcases r with e | fl
  · exact hr
  rcases fl with _ | _ | _ | ob
  · exact hr.elim
  · exact hr.elim
  · exact hr.elim
  obtain ⟨rfl, rfl⟩ := hr
  have at0 : (s.heap.push (set0 w)).get? s.heap.objs.size = some (set0 w) := Heap.get?_push_size _ rfl
  have ty0 : Shared.TypeIs { s with heap := s.heap.push (set0 w) } (.ref s.heap.objs.size) "set" := ⟨_, at0, rfl⟩
  have il := F.called_set.init.lookup
  have ib := F.called_set.init.bind (.ref s.heap.objs.size)
  repeat (any_goals (first | assumption | wp_step))
  -- its items
  refine codeAny_mono (codeAny_call_builtin (R := wants (fun r t => r = .none ∧ ∃ h' tk c, t = { s with heap := h', toks := tk } ∧ L2.SetR w h' s.heap.objs.size (fun j => decide (j ∈ ns)) c ∧ c ≤ ns.length ∧
      ∀ b o, s.heap.get? b = some o → h'.get? b = some o) E) F.called_set.init.plain F.entry_set_init (check_set_init_1 ty0 ?_)) fun r t hr => ?_
  · obtain ⟨⟨oc, od, dt, sl⟩, ho, hc, n, hd⟩ := hl
    simp only at hc hd
    subst hc hd
    have ho1 : (s.heap.push (set0 w)).get? l = some { cls := .type "list", dict := od, data := .seq its n, slots := sl } := Heap.get?_push_of_some _ ho
    have s1 := F.sub_list_set
    have s2 := F.sub_list_frozenset
    have s3 : (Value.type "list" == Value.type "dict") = false := by decide
    have hl1 : (s.heap.push (set0 w)).IsList l its := ⟨_, ho1, rfl, n, rfl⟩
    unfold Builtin.«set.__init__» noKeywords Builtin.Frozenset.updateFrom
    generalize hit : pyIter = it
    wp_walk
    subst hit
    refine wpAny_pyIter_list hl1 (wpAny_bind (wpAny_runValue ?_))
    have lt : l < s.heap.objs.size := Heap.lt_size ho
    have h3 : A.in1.in1.in1.handled = none := by simp [hh]
    have zs : (s.heap.push (set0 w)).objs.size = s.heap.objs.size + 1 := Heap.size_push ..
    have ne1 : l ≠ (s.heap.push (set0 w)).objs.size := by rw [zs]; exact Nat.ne_of_lt (Nat.lt_succ_of_lt lt)
    have ne2 : s.heap.objs.size ∉ [(s.heap.push (set0 w)).objs.size, l] := by
      simp only [List.mem_cons, List.not_mem_nil, or_false, not_or, zs]
      exact ⟨Nat.ne_of_lt (Nat.lt_succ_self _), Nat.ne_of_gt lt⟩
    have val : ∀ (i : Nat) (v : Value), its[i]? = some v → ∃ k t, ns[i]? = some k ∧ v = .int k t := fun i v hv => by
      have lt : i < ns.length := by rw [← sz]; exact (Array.getElem?_eq_some_iff.mp hv).1
      obtain ⟨t, e⟩ := IntsAre.int_at hi i v (by rw [Array.getElem?_toList]; exact hv)
      refine ⟨ns[i], t, List.getElem?_eq_getElem lt, ?_⟩
      rw [e, List.getD_eq_getElem?_getD, List.getElem?_eq_getElem lt]
      rfl
    refine L2.set_update_ints ((Walks.list h3 _ l ne1 its).toS) s.heap.objs.size ne2 ns sz hb val (its.size - 0) 0 _ (by omega) (Nat.zero_le _)
      ⟨⟨_, Heap.get?_push_size _ rfl, rfl, rfl⟩, hl1.push _⟩ ⟨0, Nat.le_refl 0, set0_R (Heap.get?_push_of_some _ at0)⟩ fun t c' mv hc' hS => ?_
    obtain ⟨h', g2, d', tk, os'⟩ := t
    obtain rfl : g2 = s.gens := mv.gens
    obtain rfl : d' = s.drawn := mv.drawn
    obtain rfl : os' = s.os := mv.os
    show wpAny _ _ _ _ _ _
    refine wpAny_pure ?_
    show wpAny _ _ (ret Value.none) _ _ _
    rw [sz] at hc'
    refine wpAny_pure ⟨rfl, h', tk, c', rfl, hS, hc', fun b o e => ?_⟩
    have lb : b < s.heap.objs.size := Heap.lt_size e
    refine mv.heap b o ?_ (Heap.get?_push_of_some _ (Heap.get?_push_of_some _ e))
    simp only [List.mem_cons, List.not_mem_nil, or_false, not_or, zs]
    exact ⟨Nat.ne_of_lt lb, Nat.ne_of_lt (Nat.lt_succ_of_lt lb)⟩
  · rcases r with e | fl
    · exact hr
    rcases fl with _ | _ | _ | ob
    · exact hr.elim
    · exact hr.elim
    · exact hr.elim
    obtain ⟨rfl, h', tk, c', rfl, hS, hc', hk⟩ := hr
    repeat (any_goals (first | assumption | wp_step))
    exact h _ _ _ hS hc' hk
/-- sorted of a set of ints -/
theorem sorted_of_set {a : Addr} {S : Int → Bool} {n : Nat} {Q : Value → Shared → Prop} (R : L2.SetR w s.heap a S n) (hh : A.handled = none)
    (hQ : ∀ t p (out : Array Value) (c : Nat) (ns : List Int), (∀ b o, s.heap.get? b = some o → t.heap.get? b = some o) → t.gens = s.gens → t.os = s.os → s.heap.objs.size ≤ p →
      t.heap.get? p = some (seqObj "list" out c) → IntsAre out.toList ns → ns.Pairwise (· < ·) → (∀ k, k ∈ ns ↔ S k = true) → ns.length = n → Q (.ref p) t) :
    wpAny (model P w) A (call (.builtin "sorted") [.ref a]) Q E s := by
  obtain ⟨o, es, ep, t, ho, hex, hd, gd, nd, mem, hb, hf, hn, hr, hl⟩ := R
  refine Calls.call_function_entry kind_sorted plain_sorted entry_sorted (args_sorted1 _) ?_
  unfold Builtin.«sorted»
  refine wpAny_bind (m := checkCount "sorted" 1 1 _) (wpAny_pure ?_)
  refine wpAny_bind (L2.collect_set (A := A.in1) hh ⟨o, ho, hex.1, hd⟩ hf hb hr hl fun s1 vs k1 hz g1 o1 pm => ?_)
  have vl : vs.length = n := by rw [pm.length_eq, List.length_map, Array.length_toList]; exact hn
  have small : vs.length ≤ sizeLine := by
    rw [vl, ← hn, sizeLine_eq]
    have : es.size < 4096 := hb
    omega
  have hI : IntsAre vs (vs.map Builtin.Re.reRawOf) := L2.ints_of vs fun v hv => by
    obtain ⟨e, he, q⟩ := List.mem_map.mp (pm.mem_iff.mp hv)
    obtain ⟨k, tk, h1, _⟩ := gd e he
    exact ⟨k, tk, by rw [← q]; exact h1⟩
  have pk : (vs.map Builtin.Re.reRawOf).Perm (es.toList.map L2.keyOf) := by
    have q := pm.map Builtin.Re.reRawOf
    rwa [List.map_map] at q
  refine wpAny_bind (wpAny_newList ?_ small)
  have at1 : (s1.heap.push (seqObj "list" vs.toArray 0)).get? s1.heap.objs.size = some (seqObj "list" vs.toArray 0) := Heap.get?_push_size _ rfl
  refine wpAny_bind (wpAny_holding (wpAny_call_entry slot_list_sort ⟨_, at1, rfl⟩ entry_list_sort (SrtO.list_sort_ord SrtO.swo_int at1 small (fun h2 => SrtO.ints_sortable hI h2) fun out a1 a2 => ⟨_, rfl, ?_⟩) (args_list_sort _)))
  obtain ⟨b1, b2, b3⟩ := SrtO.ints_out hI a1 a2
  obtain ⟨c, hc⟩ := sortedHeap_at (vs := vs) (out := out.toArray) at1
  have pn := b2.trans pk
  refine wpAny_pure ⟨_, rfl, hQ _ s1.heap.objs.size out.toArray c _ (fun b u e => ?_) g1 o1 hz hc b1 (L2.lt_of_le_nodup _ b3 (pn.nodup_iff.mpr nd)) (fun k => by rw [pn.mem_iff, ← mem k]) ?_⟩
  · have q := k1 b u e
    have lt := Heap.lt_size q
    show (sortedHeap (s1.heap.push (seqObj "list" vs.toArray 0)) s1.heap.objs.size vs out.toArray).get? b = some u
    rw [sortedHeap_old (Nat.ne_of_lt lt) (by rw [Heap.size_push]; exact Nat.lt_succ_of_lt lt)]
    exact Heap.get?_push_of_some _ q
  · rw [pn.length_eq, List.length_map, Array.length_toList]; exact hn
end
end R

namespace R
open PySem PySem.Spec
open L2 (V Hp HO SqL SqT TE TS TT TA VK Cx PE PT PA PS PSs upd Rd RelV Dp DpAll)
/-! ### sorted and different ints -/
theorem insI_perm (i : Int) : ∀ l : List Int, (insI i l).Perm (i :: l)
  | [] => .refl _
  | j :: r => by
    unfold insI
    split
    · exact .refl _
    · exact ((insI_perm i r).cons j).trans (.swap i j r)
theorem sortI_perm : ∀ l : List Int, (sortI l).Perm l
  | [] => .refl _
  | i :: r => (insI_perm i _).trans ((sortI_perm r).cons i)
theorem insI_sorted (i : Int) : ∀ l : List Int, l.Pairwise (· ≤ ·) → (insI i l).Pairwise (· ≤ ·)
  | [], _ => by simp [insI]
  | j :: r, h => by
    obtain ⟨h1, h2⟩ := List.pairwise_cons.mp h
    unfold insI
    split
    · rename_i z
      refine List.pairwise_cons.mpr ⟨fun k hk => ?_, h⟩
      rcases List.mem_cons.mp hk with e | hk
      · omega
      · have := h1 k hk; omega
    · rename_i z
      refine List.pairwise_cons.mpr ⟨fun k hk => ?_, insI_sorted i r h2⟩
      rcases List.mem_cons.mp ((insI_perm i r).mem_iff.mp hk) with e | hk
      · omega
      · exact h1 k hk
theorem sortI_sorted : ∀ l : List Int, (sortI l).Pairwise (· ≤ ·)
  | [] => .nil
  | i :: r => insI_sorted i _ (sortI_sorted r)
theorem sortI_one {a b : List Int} (hp : a.Perm b) (ha : a.Pairwise (· ≤ ·)) : a = sortI b := PySem.W.ksm_same (hp.trans (sortI_perm b).symm) ha (sortI_sorted b)
theorem dedI_mem (i k : Int) (l : List Int) : k ∈ dedI i l ↔ k ∈ l ∨ k = i := by
  unfold dedI
  split
  · rename_i z
    obtain ⟨j, h1, h2⟩ := List.any_eq_true.mp z
    have : j = i := of_decide_eq_true h2
    subst this
    exact ⟨.inl, fun q => q.elim id fun e => e ▸ h1⟩
  · rw [List.mem_append, List.mem_singleton]
theorem dedI_nodup (i : Int) (l : List Int) (h : l.Nodup) : (dedI i l).Nodup := by
  unfold dedI
  split
  · exact h
  · rename_i z
    refine List.nodup_append.mpr ⟨h, by simp, fun a ha b hb => ?_⟩
    rw [List.mem_singleton.mp hb]
    rintro rfl
    exact z (List.any_eq_true.mpr ⟨_, ha, decide_eq_true rfl⟩)
theorem setI_fold : ∀ (ns l : List Int), l.Nodup → (ns.foldl (fun l i => dedI i l) l).Nodup ∧ ∀ k, k ∈ ns.foldl (fun l i => dedI i l) l ↔ k ∈ l ∨ k ∈ ns
  | [], l, h => ⟨h, fun k => by simp⟩
  | n :: ns, l, h => by
    obtain ⟨h1, h2⟩ := setI_fold ns (dedI n l) (dedI_nodup n l h)
    refine ⟨h1, fun k => ?_⟩
    show k ∈ ns.foldl _ (dedI n l) ↔ _
    rw [h2, dedI_mem, List.mem_cons, or_assoc]
theorem setI_nodup (ns : List Int) : (setI ns).Nodup := (setI_fold ns [] .nil).1
theorem setI_mem (ns : List Int) (k : Int) : k ∈ setI ns ↔ k ∈ ns := by
  have := (setI_fold ns [] .nil).2 k
  simpa [setI] using this
section
variable {X : Cx} {ad : Str → Option Addr} {K : KW} {Wm : Wish} {g : Genv} {pos : Pos} {e a b c : Expr} {m ma mb mc : ME} {σ : L2.St} {ι : List Addr} {H : Hp} {h : Hm}
theorem anyd {ns : List Int} (k : Int) : (ns.any fun j => decide (j = k)) = decide (k ∈ ns) := by
  rw [Bool.eq_iff_iff, List.any_eq_true, decide_eq_true_iff]
  exact ⟨fun ⟨x, h1, h2⟩ => of_decide_eq_true h2 ▸ h1, fun h => ⟨k, h, decide_eq_true rfl⟩⟩
/-- set(xs) -/
theorem cr_set (hc : X.calm = true) : L2.CallR X (.type "set") (fun vs H Q => ∃ (a : Addr) (ns : List Int), vs = [.ref a] ∧ (SqL X.K H a (ns.map V.int) ∨ SqT X.K H a (ns.map V.int)) ∧ ns.length ≤ 4000 ∧
    ∀ p, H p = none → Q (.ref p) (upd H p (L2.SetO X.w p (fun j => decide (j ∈ ns)) (setI ns).length))) := by
  intro pins s σ H vs us Q I r q
  obtain ⟨a, ns, rfl, hs, hz, q⟩ := q
  rw [L2.Vals.ref1 r]
  have fin : ∀ (h' : Heap) (tk c : Nat), L2.SetR X.w h' s.heap.objs.size (fun j => decide (j ∈ ns)) c → (∀ b o, s.heap.get? b = some o → h'.get? b = some o) → L2.EP X pins σ Q (.ref s.heap.objs.size) { s with heap := h', toks := tk } := by
    intro h' tk c R k
    have ec : c = (setI ns).length := by
      obtain ⟨o, es, ep, t, _, _, _, _, nd, mem, _, _, hn, _⟩ := R
      have p : (es.toList.map L2.keyOf).Perm (setI ns) := (List.perm_ext_iff_of_nodup nd (setI_nodup ns)).mpr fun j => by
        rw [← mem j, setI_mem]
        exact decide_eq_true_iff
      rw [← hn, ← p.length_eq, List.length_map, Array.length_toList]
    subst ec
    exact ⟨.ref s.heap.objs.size, _, I.laid (t' := tk) k (Nat.le_refl _) (L2.setO_new R), rfl, q _ (I.hok.fresh (Nat.le_refl _))⟩
  have hb : ns.length + 1 < scanBound := by show ns.length + 1 < 4096; omega
  rcases hs with hs | hs
  · obtain ⟨its, rv, pl, _⟩ := I.list hs
    exact set_of_list ns (I.ok.hd hc) pl.isList (by simpa using L2.intsAre_of rv) hb fun h' tk c R _ k => fin h' tk c R k
  · obtain ⟨its, rv, pl, _⟩ := I.tuple hs
    exact L2.call_set_tupI ns (I.ok.hd hc) pl (by simpa using L2.intsAre_of rv) hb fun h' tk c R _ k => fin h' tk c R k
theorem cr_sortedSetN (hc : X.calm = true) : L2.CallR X (.builtin "sorted") (fun vs H Q => ∃ (a : Addr) (S : Int → Bool) (n : Nat), vs = [.ref a] ∧ H a = some (L2.SetO X.w a S n) ∧
    ∀ (ns : List Int) (p : Addr), ns.Pairwise (· < ·) → (∀ k : Int, k ∈ ns ↔ S k = true) → H p = none → Q (.ref p) (upd H p (.lst (ns.map V.int)))) := by
  intro pins s σ H vs us Q I r q
  obtain ⟨a, S, n, rfl, ha, q⟩ := q
  have R := L2.setO_get I ha
  have small : n ≤ sizeLine := by
    obtain ⟨o, es, ep, t, _, _, _, _, _, _, hb, _, hn, _⟩ := R
    have : es.size < 4096 := hb
    rw [sizeLine_eq]; omega
  rw [L2.Vals.ref1 r]
  refine sorted_of_set R (I.ok.hd hc) fun t p out c ns k eg eo hp hget hi hs hm hl => ?_
  have hn : H p = none := I.hok.fresh hp
  have J : L2.Inv X pins σ (upd H p (.lst (ns.map V.int))) { s with heap := t.heap, gens := t.gens, drawn := t.drawn, toks := t.toks } :=
    I.call (ch := []) (L2.Un.laid k hp hn) (I.hok.laid k hp ⟨by rw [List.length_map, hl]; exact small, out.toList, c, L2.vals_of_ints hi, hget⟩) (by rw [eg]; exact I.bare) (fun _ z => nomatch z)
  have e : t = { s with heap := t.heap, gens := t.gens, drawn := t.drawn, toks := t.toks } := by
    cases t; cases s; cases eo; rfl
  rw [e]
  exact ⟨.ref p, _, J, rfl, q ns p hs hm hn⟩
theorem bi_set (hc : X.calm = true) (hK : KW.mk X.K X.w ad = K) {xs : List MV} {vs : List V} {Q : VK} (gh : GH K ι h H) (r : RVs K H ι xs vs) (q : AtR K Wm σ ι H (bi .set xs h) (PQ K Q)) : rcAny X (.type "set") vs H Q := by
  subst hK
  unfold bi at q
  simp only at q
  split at q
  · rename_i x
    obtain ⟨v, rfl, rv⟩ := rvs1 r
    split at q
    · rename_i ys hy
      split at q
      · rename_i ns hn
        split at q
        · rename_i hz
          have fin : ∀ p, H p = none → Q (.ref p) (upd H p (L2.SetO X.w p (fun j => decide (j ∈ ns)) (setI ns).length)) := fun p hp =>
            new_ok gh hp (.set L2.upd_same (fun k => by rw [anyd]; exact decide_eq_decide.mpr (setI_mem ns k).symm) (setI_nodup ns)) q _ (rv_new gh)
          rcases sq_items gh hy rv with ⟨a, ws, rfl, hs, rw', _⟩ | ⟨a, ws, rfl, hs, rw', _⟩
          · have ew := allS_int hn rw'
            subst ew
            exact ⟨_, cr_set hc, a, ns, rfl, .inl hs, hz, fin⟩
          · have ew := allS_int hn rw'
            subst ew
            exact ⟨_, cr_set hc, a, ns, rfl, .inr hs.sq, hz, fin⟩
        · exact q.elim
      · exact q.elim
    · exact q.elim
  · exact q.elim
theorem bi_sorted (hc : X.calm = true) (hK : KW.mk X.K X.w ad = K) {xs : List MV} {vs : List V} {Q : VK} (gh : GH K ι h H) (r : RVs K H ι xs vs) (q : AtR K Wm σ ι H (bi .sorted xs h) (PQ K Q)) : rcAny X (.builtin "sorted") vs H Q := by
  subst hK
  unfold bi at q
  simp only at q
  split at q
  · rename_i j
    obtain ⟨v, rfl, rv⟩ := rvs1 r
    cases rv with
    | @ref _ a e =>
      split at q
      · rename_i ns hk
        cases gh.obj j _ a hk e with
        | set h1 hS hn =>
          refine ⟨_, cr_sortedSetN hc, a, _, _, rfl, h1, fun ns' p o1 o2 hp => ?_⟩
          have e2 : ns' = sortI ns := by
            refine sortI_one ((List.perm_ext_iff_of_nodup (o1.imp fun {x y} (z : x < y) => (by omega : x ≠ y)) hn).mpr fun k => ?_) (o1.imp fun {x y} z => Int.le_of_lt z)
            rw [o2, hS, anyd]
            exact decide_eq_true_iff
          subst e2
          exact new_ok gh hp (.list L2.upd_same ((ints_rvs _).mono Ext.push (stp_new hp))) q _ (rv_new gh)
      · split at q
        · rename_i ys hy
          split at q
          · rename_i ns hn
            obtain ⟨ws, hs, rw'⟩ := sq_list gh e hy
            have ew := allS_int hn rw'
            subst ew
            refine ⟨_, L2.cr_sortedI, a, ns, rfl, hs, fun ns' p hp1 hp2 hp => ?_⟩
            have e2 := sortI_one hp1 hp2
            subst e2
            exact new_ok gh hp (.list L2.upd_same ((ints_rvs _).mono Ext.push (stp_new hp))) q _ (rv_new gh)
          · exact q.elim
        · exact q.elim
  · exact q.elim
/-! ### isinstance -/
theorem kit_tab : (["NoneType", "bool", "int", "str", "tuple", "list", "dict"].all fun k => ["int", "bool", "str", "tuple", "list", "dict"].all fun c => L2.kitB k c == some (isSub k c)) = true := by decide +kernel
theorem kit_known {k c : String} (hk : k ∈ ["NoneType", "bool", "int", "str", "tuple", "list", "dict"]) (hc : tyKnown c = true) : L2.kitB k c = some (isSub k c) := by
  have h1 := List.all_eq_true.mp kit_tab k hk
  have h2 := List.all_eq_true.mp h1 c (by simpa [tyKnown] using hc)
  exact beq_iff_eq.mp h2
theorem kind_in {x : MV} {k : String} (q : kind h x = some k) : k ∈ ["NoneType", "bool", "int", "str", "tuple", "list", "dict"] ∨ k = "object" := by
  cases x <;> (unfold kind at q; simp only at q)
  all_goals first | (cases q; done) | (cases q; left; decide) | (split at q <;> first | (cases q; left; decide) | (cases q; right; rfl) | cases q)
theorem sub_obj_tab : (["int", "bool", "str", "tuple", "list", "dict"].all fun c => !(isSub "object" c)) = true := by decide
theorem sub_obj {c : String} (hc : tyKnown c = true) : isSub "object" c = false := by
  have := List.all_eq_true.mp sub_obj_tab c (by simpa [tyKnown] using hc)
  simpa using this
theorem kind_ty (hK : KW.mk X.K X.w ad = K) {x : MV} {v : V} {k : String} (gh : GH K ι h H) (q : kind h x = some k) (r : RV K H ι x v) :
    ∃ t, L2.TyX X.K H v t ∧ ∀ c, tyKnown c = true → PySem.W.kitOne X.K t (.type c) = some (isSub k c) := by
  subst hK
  have b : ∀ {k : String}, k ∈ ["NoneType", "bool", "int", "str", "tuple", "list", "dict"] → L2.TyX X.K H v (.type k) → ∃ t, L2.TyX X.K H v t ∧ ∀ c, tyKnown c = true → PySem.W.kitOne X.K t (.type c) = some (isSub k c) := fun hk t => ⟨_, t, fun c hc => L2.kit_ty (kit_known hk hc)⟩
  cases r with
  | non => cases q; exact b (by decide) (.base .non)
  | bl x => cases q; exact b (by decide) (.base (.bl x))
  | int i => cases q; exact b (by decide) (.base (.int i))
  | str s => cases q; exact b (by decide) (.base (.str s))
  | ty n => cases q
  | tup hs _ =>
    cases q
    rcases hs with hs | ⟨o, its, n, h1, h2, _⟩
    · exact b (by decide) (.base (.tup hs))
    · exact b (by decide) (.kTuple h1 h2)
  | @ref i a e =>
    unfold kind at q
    simp only at q
    split at q
    · rename_i xs hk
      cases q
      cases gh.obj i _ a hk e with
      | list h1 _ => exact b (by decide) (.base (.lst h1))
    · rename_i xs hk
      cases q
      cases gh.obj i _ a hk e with
      | frz h1 _ =>
        rcases h1 with ⟨o, h1⟩ | ⟨o, its, n, h1, h2, _⟩
        · exact b (by decide) (.base (.frz h1))
        · exact b (by decide) (.kList h1 h2)
    · rename_i xs hk
      cases q
      cases gh.obj i _ a hk e with
      | dict h1 _ => exact b (by decide) (.base (.dK h1))
    · rename_i ci fs hk
      cases q
      cases gh.obj i _ a hk e with
      | ins h1 c _ => exact ⟨_, .base (.ins h1 c.cls c.ha c.hn c.htk c.hm), fun T hT => by rw [c.bt T hT, sub_obj hT]⟩
    · cases q
theorem kit_all {t : Value} {k : String} (hk : ∀ c, tyKnown c = true → PySem.W.kitOne X.K t (.type c) = some (isSub k c)) : ∀ ts : List String, ts.all tyKnown = true → PySem.W.kitAny X.K t (ts.map Value.type) = some (ts.any (isSub k))
  | [], _ => rfl
  | t :: ts, q => by
    rw [List.all_cons, Bool.and_eq_true] at q
    have h1 := hk t q.1
    rw [List.map_cons, List.any_cons]
    cases e : isSub k t with
    | true => rw [e] at h1; exact L2.kitAny_cons h1 (fun z => by cases z) fun _ => rfl
    | false =>
      rw [e] at h1
      exact L2.kitAny_cons h1 (fun _ => by rw [Bool.false_or]; exact kit_all hk ts q.2) fun z => by cases z
theorem cls_all : ∀ ts : List String, Paired L2.ClsV (ts.map V.ty) (ts.map Value.type)
  | [] => .nil
  | t :: ts => .cons (.ty t) (cls_all ts)
theorem bi_isi (hK : KW.mk X.K X.w ad = K) {xs : List MV} {vs : List V} {Q : VK} (gh : GH K ι h H) (r : RVs K H ι xs vs) (q : AtR K Wm σ ι H (bi .isinstance xs h) (PQ K Q)) : rcAny X (.builtin "isinstance") vs H Q := by
  unfold bi at q
  simp only at q
  split at q
  · rename_i x c
    obtain ⟨v, u, rfl, rv, ru⟩ := rvs2 r
    split at q
    · rename_i k hk
      split at q
      · rename_i hc
        cases ru
        obtain ⟨ty, t1, t2⟩ := kind_ty hK gh hk rv
        exact ⟨_, L2.call_isi, v, .ty c, ty, _, _, rfl, .ty c, t1, t2 c hc, q.ok gh _ (.bl _)⟩
      · exact q.elim
    · exact q.elim
  · rename_i x cs
    obtain ⟨v, u, rfl, rv, ru⟩ := rvs2 r
    split at q
    · rename_i k ts hk ht
      split at q
      · rename_i hc
        cases ru with
        | @tup a _ ws hs r2 =>
          have ew := allS_ty ht r2
          subst ew
          obtain ⟨ty, t1, t2⟩ := kind_ty hK gh hk rv
          rcases hs with hs | ⟨o, its, n, h1, h2, h3, h4, h5⟩
          · exact ⟨_, L2.call_isiT, v, a, _, _, _, _, rfl, hs, cls_all ts, t1, kit_all t2 ts hc, q.ok gh _ (.bl _)⟩
          · obtain ⟨oc, od, dt, sl⟩ := o
            simp only at h2 h3
            subst h2 h3
            have e3 := L2.ClsV.all (cls_all ts) h5
            have e4 : its = (ts.map Value.type).toArray := by rw [← e3]
            subst e4
            subst hK
            exact ⟨_, L2.call_isiK, v, a, _, _, _, _, _, _, rfl, h1, t1, kit_all t2 ts hc, q.ok gh _ (.bl _)⟩
      · exact q.elim
    · exact q.elim
  · exact q.elim
end
end R

namespace R
open PySem PySem.Spec
open L2 (V Hp HO SqL SqT TE TS TT TA VK Cx PE PT PA PS PSs upd Rd RelV Dp DpAll)
section
variable {X : Cx} {ad : Str → Option Addr} {K : KW} {Wm : Wish} {g : Genv} {pos : Pos} {e a b c : Expr} {m ma mb mc : ME} {σ : L2.St} {ι : List Addr} {H : Hp} {h : Hm}

/-! ### calls of built-in functions and types -/
theorem bltF_hv : (bltF.all fun p => (match bootBuiltins p.1 with | some (.builtin y) => y == p.2.1 | _ => false) && decide (p.1 ≠ "__name__") && !(p.1 == ("__debug__" : Str))) = true := by decide +kernel
theorem bltT_hv : (bltT.all fun p => (match bootBuiltins p.1 with | some (.type y) => y == p.2.1 | _ => false) && decide (p.1 ≠ "__name__") && !(p.1 == ("__debug__" : Str))) = true := by decide +kernel
theorem lkS_mem {α : Type} : ∀ {l : List (Str × α)} {x : Str} {v : α}, lkS l x = some v → (x, v) ∈ l
  | [], _, _, q => by cases q
  | (y, a) :: r, x, v, q => by
    unfold lkS at q
    split at q
    · rename_i e
      cases q
      subst e
      exact .head _
    · exact .tail _ (lkS_mem q)
theorem bltF_at {x : Str} {b : String × BI} (q : lkS bltF x = some b) : bootBuiltins x = some (.builtin b.1) ∧ x ≠ "__name__" ∧ (x == ("__debug__" : Str)) = false := by
  have h := List.all_eq_true.mp bltF_hv _ (lkS_mem q)
  simp only [Bool.and_eq_true, decide_eq_true_iff, Bool.not_eq_true'] at h
  refine ⟨?_, h.1.2, h.2⟩
  have h1 := h.1.1
  split at h1
  · rename_i y e
    rw [e, beq_iff_eq.mp h1]
  · cases h1
theorem bltT_at {x : Str} {b : String × BI} (q : lkS bltT x = some b) : bootBuiltins x = some (.type b.1) ∧ x ≠ "__name__" ∧ (x == ("__debug__" : Str)) = false := by
  have h := List.all_eq_true.mp bltT_hv _ (lkS_mem q)
  simp only [Bool.and_eq_true, decide_eq_true_iff, Bool.not_eq_true'] at h
  refine ⟨?_, h.1.2, h.2⟩
  have h1 := h.1.1
  split at h1
  · rename_i y e
    rw [e, beq_iff_eq.mp h1]
  · cases h1
/-- the machine's own answers as the small one's -/
def BiOk (X : Cx) (K : KW) (f : Value) (b : BI) : Prop := ∀ (Wm : Wish) (σ : L2.St) (ι : List Addr) (h : Hm) (H : Hp) (xs : List MV) (vs : List V) (Q : VK), GH K ι h H → RVs K H ι xs vs → AtR K Wm σ ι H (bi b xs h) (PQ K Q) → rcAny X f vs H Q
theorem bltF_ok (hc : X.calm = true) (hK : KW.mk X.K X.w ad = K) {x : Str} {b : String × BI} (q : lkS bltF x = some b) : BiOk X K (.builtin b.1) b.2 := by
  have h := lkS_mem q
  unfold bltF at h
  simp only [List.mem_cons, Prod.mk.injEq, List.not_mem_nil, or_false] at h
  rcases h with ⟨_, rfl⟩ | ⟨_, rfl⟩ | ⟨_, rfl⟩ | ⟨_, rfl⟩ | ⟨_, rfl⟩ | ⟨_, rfl⟩ | ⟨_, rfl⟩ | ⟨_, rfl⟩ | ⟨_, rfl⟩
  · exact fun _ _ _ _ _ _ _ _ => bi_len hK
  · exact fun _ _ _ _ _ _ _ _ => bi_abs
  · exact fun _ _ _ _ _ _ _ _ => bi_sum hc hK
  · exact fun _ _ _ _ _ _ _ _ => bi_any hc hK
  · exact fun _ _ _ _ _ _ _ _ => bi_all hc hK
  · exact fun _ _ _ _ _ _ _ _ => bi_sorted hc hK
  · exact fun _ _ _ _ _ _ _ _ => bi_max hc
  · exact fun _ _ _ _ _ _ _ _ => bi_min hc
  · exact fun _ _ _ _ _ _ _ _ => bi_isi hK
theorem bltT_ok (hc : X.calm = true) (hK : KW.mk X.K X.w ad = K) {x : Str} {b : String × BI} (q : lkS bltT x = some b) : BiOk X K (.type b.1) b.2 := by
  have h := lkS_mem q
  unfold bltT at h
  simp only [List.mem_cons, Prod.mk.injEq, List.not_mem_nil, or_false] at h
  rcases h with ⟨_, rfl⟩ | ⟨_, rfl⟩ | ⟨_, rfl⟩ | ⟨_, rfl⟩ | ⟨_, rfl⟩
  · exact fun _ _ _ _ _ _ _ _ => bi_int hK
  · exact fun _ _ _ _ _ _ _ _ => bi_str
  · exact fun _ _ _ _ _ _ _ _ => bi_list hc hK
  · exact fun _ _ _ _ _ _ _ _ => bi_tuple hK
  · exact fun _ _ _ _ _ _ _ _ => bi_set hc hK
theorem bi_imp {v : Value} {f : BI} {es : List Expr} {ms : MEs} (B : BiOk X K v f) : ∀ σ H Q, tE K Wm (evE g (.bi f ms)) σ H Q → L2.tCB (rcAny X v) (tA K Wm (evEs g ms)) σ H Q := fun σ H Q z =>
  Sta.imp (Sta.args (f := fun xs h => bi f xs h) z) fun xs h1 i1 H1 g1 z vs rvs => by
    obtain ⟨i2, xs2, h2, sm2, g2, rs2, rv2, at2⟩ := z vs rvs
    exact B _ _ _ _ _ _ _ _ g2 rv2 at2
theorem s_biF {x : Str} {p : Pos} {b : String × BI} {es : List Expr} {ms : MEs} (hc : X.calm = true) (hK : KW.mk X.K X.w ad = K) (q : lkS bltF x = some b) (hg : L2.Gl X x) (hm : X.mg x = none) (s : SEs X K Wm g es ms) (hs : noStar es = true) (hne : es ≠ []) :
    SE X K Wm g (.Call (.Name x p) es [] pos) (.bi b.2 ms) := by
  cases es with
  | nil => exact absurd rfl hne
  | cons e es =>
    obtain ⟨q1, q2⟩ := noStar_cons hs
    obtain ⟨b1, b2, b3⟩ := bltF_at q
    exact pt_of hK (PE.imp (L2.pe_callB rc_any hg hm b1 (pa_of s hs) b2 b3 (star_cons q1) (star_plain q2)) (bi_imp (es := es) (bltF_ok hc hK q))) fun _ => rfl
theorem s_biT {x : Str} {p : Pos} {b : String × BI} {es : List Expr} {ms : MEs} (hc : X.calm = true) (hK : KW.mk X.K X.w ad = K) (q : lkS bltT x = some b) (hg : L2.Gl X x) (hm : X.mg x = none) (s : SEs X K Wm g es ms) (hs : noStar es = true) (hne : es ≠ []) :
    SE X K Wm g (.Call (.Name x p) es [] pos) (.bi b.2 ms) := by
  cases es with
  | nil => exact absurd rfl hne
  | cons e es =>
    obtain ⟨q1, q2⟩ := noStar_cons hs
    obtain ⟨b1, b2, b3⟩ := bltT_at q
    exact pt_of hK (PE.imp (L2.pe_callTy rc_any hg hm b1 (pa_of s hs) b2 b3 (star_cons q1) (star_plain q2)) (bi_imp (es := es) (bltT_ok hc hK q))) fun _ => rfl
theorem bltX_ok {y : Str} {b : BI} (q : lkS bltX y = some b) : BiOk X K (.builtin "math.gcd") b ∧ y = "math.gcd" := by
  have h := lkS_mem q
  unfold bltX at h
  simp only [List.mem_cons, Prod.mk.injEq, List.not_mem_nil, or_false] at h
  obtain ⟨rfl, rfl⟩ := h
  exact ⟨fun _ _ _ _ _ _ _ _ => bi_gcd, rfl⟩
theorem s_biX {x y : Str} {p : Pos} {b : BI} {es : List Expr} {ms : MEs} (hK : KW.mk X.K X.w ad = K) (q : lkS bltX y = some b) (hg : L2.Gl X x) (hm : y = "math.gcd" → X.mg x = some (.builtin "math.gcd")) (hdb : (x == ("__debug__" : Str)) = false) (s : SEs X K Wm g es ms) (hs : noStar es = true) (hne : es ≠ []) :
    SE X K Wm g (.Call (.Name x p) es [] pos) (.bi b ms) := by
  cases es with
  | nil => exact absurd rfl hne
  | cons e es =>
    obtain ⟨q1, q2⟩ := noStar_cons hs
    obtain ⟨b1, b2⟩ := bltX_ok (X := X) (K := K) q
    exact pt_of hK (PE.imp (L2.pe_callBfun rc_any hg (hm b2) (pa_of s hs) hdb (star_cons q1) (star_plain q2)) (bi_imp (es := es) b1)) fun _ => rfl
end
end R

namespace R
open PySem PySem.Spec
open L2 (V Hp HO SqL SqT TE TS TT TA VK Cx PE PT PA PS PSs upd Rd RelV Dp DpAll)
section
variable {X : Cx} {ad : Str → Option Addr} {K : KW} {Wm : Wish} {g : Genv} {pos : Pos} {e a b c : Expr} {m ma mb mc : ME} {σ : L2.St} {ι : List Addr} {H : Hp} {h : Hm}

/-! ### methods of built-in types: any rule that there is -/
def rmAny (X : Cx) (id : String) : V → List V → Hp → VK → Prop := fun x vs H Q => ∃ r, L2.MtR X id r ∧ r x vs H Q
theorem rm_any {id : String} : L2.MtR X id (rmAny X id) := fun pins s σ H x xs v us Q I rx r ⟨k, hk, q⟩ => hk pins s σ H x xs v us Q I rx r q
/-- an object is written -/
theorem upd_ok {x : MV} {j : Nat} {p : Addr} {ho ho' : HO} {o o0 : MO} {P : MV → Hm → List Addr → Hp → Prop} (gh : GH K ι h H) (hj : ι[j]? = some p) (hp : H p = some ho) (nf' : isFrz o = false) (c : Chg ho) (he : h[j]? = some o0) (nf : isFrz o0 = false) (r : RO K (upd H p ho') ι o p)
    (q : AtR K Wm σ ι H (.ok x (h.set j o)) P) : P x (h.set j o) ι (upd H p ho') :=
  q _ _ .refl (stp_upd hp c) (gh.upd hj hp c (fun ⟨xs, z⟩ => by rw [he] at z; cases z; cases nf) r nf')
def MethOk (X : Cx) (K : KW) (id : String) (m : MK) : Prop := ∀ (Wm : Wish) (σ : L2.St) (ι : List Addr) (h : Hm) (H : Hp) (x : MV) (v : V) (xs : List MV) (vs : List V) (Q : VK), GH K ι h H → RV K H ι x v → RVs K H ι xs vs → kind h x = some (mkind m) → AtR K Wm σ ι H (meth m x xs h) (PQ K Q) → rmAny X id v vs H Q
/-- a list's method, where the list is tracked or not -/
theorem meth_lst {m : MK} {x : MV} {v : V} {xs : List MV} {Q : VK} (gh : GH K ι h H) (hm : mkind m = "list") (rv : RV K H ι x v) (q : AtR K Wm σ ι H (meth m x xs h) (PQ K Q)) :
    ∃ j a ys vs, x = .ref j ∧ v = .ref a ∧ ι[j]? = some a ∧ h[j]? = some (.list ys) ∧ H a = some (.lst vs) ∧ RVs K H ι ys vs := by
  have no : ∀ (s : Str), meth m (.str s) xs h = .bad := fun s => by cases m <;> first | rfl | (exact absurd hm (by decide))
  cases rv with
  | non => exact q.elim
  | bl b => exact q.elim
  | int i => exact q.elim
  | str s => rw [no] at q; exact q.elim
  | ty n => exact q.elim
  | tup _ _ => exact q.elim
  | @ref j a e =>
    unfold meth at q
    simp only at q
    split at q
    · rename_i ys hk
      cases gh.obj j _ a hk e with
      | list h1 r1 => exact ⟨j, a, ys, _, rfl, rfl, e, hk, h1, r1⟩
    · cases m <;> first | exact q.elim | (exact absurd hm (by decide))
    · exact q.elim
theorem mt_appendR : L2.MtR X "list.append" L2.rAppend := L2.mt_append
theorem RVs.one {K : KW} {H : Hp} {ι : List Addr} {x : MV} {v : V} (r : RV K H ι x v) : RVs K H ι [x] [v] := .cons r .nil
theorem m_append (hK : KW.mk X.K X.w ad = K) : MethOk X K "list.append" .append := by
  intro Wm σ ι h H x v xs vs Q gh rv rvs _ q
  subst hK
  obtain ⟨j, a, ys, ws, rfl, rfl, hj, hk, ha, ry⟩ := meth_lst gh rfl rv q
  unfold meth at q
  simp only [hk] at q
  split at q
  · rename_i y
    obtain ⟨u, rfl, ru⟩ := rvs1 rvs
    split at q
    · rename_i hl
      rw [ry.length] at hl
      refine ⟨_, L2.mt_append, a, ws, u, rfl, rfl, ha, hl, ?_⟩
      have st : Stp ⟨X.K, X.w, ad⟩ H (upd H a (.lst (ws ++ [u]))) := stp_upd ha trivial
      exact upd_ok gh hj ha rfl trivial hk rfl (.list L2.upd_same ((ry.append (.one ru)).mono .refl st)) q _ .non
    · exact q.elim
  · exact q.elim
theorem m_extend (hK : KW.mk X.K X.w ad = K) : MethOk X K "list.extend" .extend := by
  intro Wm σ ι h H x v xs vs Q gh rv rvs _ q
  subst hK
  obtain ⟨j, a, ys, ws, rfl, rfl, hj, hk, ha, ry⟩ := meth_lst gh rfl rv q
  unfold meth at q
  simp only [hk] at q
  split at q
  · rename_i l
    obtain ⟨u, rfl, ru⟩ := rvs1 rvs
    split at q
    · rename_i zs hz
      split at q
      · rename_i hl
        cases ru with
        | @ref _ b eb =>
          obtain ⟨us, hb, rz⟩ := list_at gh eb hz
          rw [ry.length, rz.length] at hl
          refine ⟨_, L2.mt_extend, a, b, ws, us, rfl, rfl, ha, hb, hl, ?_⟩
          have st : Stp ⟨X.K, X.w, ad⟩ H (upd H a (.lst (ws ++ us))) := stp_upd ha trivial
          exact upd_ok gh hj ha rfl trivial hk rfl (.list L2.upd_same ((ry.append rz).mono .refl st)) q _ .non
      · exact q.elim
    · exact q.elim
  · exact q.elim
theorem RVs.reverse' {K : KW} {H : Hp} {ι : List Addr} {xs : List MV} {vs : List V} (r : RVs K H ι xs vs) : RVs K H ι xs.reverse vs.reverse := RVs.reverse r
theorem RVs.dropLast {K : KW} {H : Hp} {ι : List Addr} : ∀ {xs : List MV} {vs : List V}, RVs K H ι xs vs → RVs K H ι xs.dropLast vs.dropLast
  | _, _, .nil => .nil
  | _, _, .cons _ .nil => .nil
  | _, _, .cons r (.cons r' t) => .cons r (RVs.dropLast (.cons r' t))
theorem RVs.eraseIdx {K : KW} {H : Hp} {ι : List Addr} : ∀ {xs : List MV} {vs : List V} (i : Nat), RVs K H ι xs vs → RVs K H ι (xs.eraseIdx i) (vs.eraseIdx i)
  | _, _, _, .nil => .nil
  | _, _, 0, .cons _ t => t
  | _, _, i + 1, .cons r t => .cons r (RVs.eraseIdx i t)
theorem m_pop (hK : KW.mk X.K X.w ad = K) : MethOk X K "list.pop" .pop := by
  intro Wm σ ι h H x v xs vs Q gh rv rvs _ q
  subst hK
  obtain ⟨j, a, ys, ws, rfl, rfl, hj, hk, ha, ry⟩ := meth_lst gh rfl rv q
  unfold meth at q
  simp only [hk] at q
  split at q
  · cases rvs
    split at q
    · rename_i y hy
      obtain ⟨u, hu, ru⟩ := ry.get hy
      refine ⟨_, L2.mt_pop, a, ws, u, rfl, rfl, ha, by rw [← ry.length]; exact hu, ?_⟩
      have st : Stp ⟨X.K, X.w, ad⟩ H (upd H a (.lst ws.dropLast)) := stp_upd ha trivial
      exact upd_ok gh hj ha rfl trivial hk rfl (.list L2.upd_same (ry.dropLast.mono .refl st)) q _ (ru.mono .refl st)
    · exact q.elim
  · rename_i i
    obtain ⟨u, rfl, ru⟩ := rvs1 rvs
    cases ru
    split at q
    · rename_i hi
      split at q
      · rename_i k hk2
        split at q
        · rename_i y hy
          obtain ⟨u, hu, ru⟩ := ry.get hy
          refine ⟨_, L2.mt_popAt, a, ws, i, k, u, rfl, rfl, ha, hi.1, hi.2, by rw [← ry.length]; exact hk2, hu, ?_⟩
          have st : Stp ⟨X.K, X.w, ad⟩ H (upd H a (.lst (ws.eraseIdx k))) := stp_upd ha trivial
          exact upd_ok gh hj ha rfl trivial hk rfl (.list L2.upd_same ((ry.eraseIdx k).mono .refl st)) q _ (ru.mono .refl st)
        · exact q.elim
      · exact q.elim
    · exact q.elim
  · exact q.elim
theorem m_reverse (hK : KW.mk X.K X.w ad = K) : MethOk X K "list.reverse" .reverse := by
  intro Wm σ ι h H x v xs vs Q gh rv rvs _ q
  subst hK
  obtain ⟨j, a, ys, ws, rfl, rfl, hj, hk, ha, ry⟩ := meth_lst gh rfl rv q
  unfold meth at q
  simp only [hk] at q
  split at q
  · cases rvs
    refine ⟨_, L2.mt_reverse, a, ws, rfl, rfl, ha, ?_⟩
    have st : Stp ⟨X.K, X.w, ad⟩ H (upd H a (.lst ws.reverse)) := stp_upd ha trivial
    exact upd_ok gh hj ha rfl trivial hk rfl (.list L2.upd_same (ry.reverse.mono .refl st)) q _ .non
  · exact q.elim
theorem m_clear (hK : KW.mk X.K X.w ad = K) : MethOk X K "list.clear" .clear := by
  intro Wm σ ι h H x v xs vs Q gh rv rvs _ q
  subst hK
  obtain ⟨j, a, ys, ws, rfl, rfl, hj, hk, ha, ry⟩ := meth_lst gh rfl rv q
  unfold meth at q
  simp only [hk] at q
  split at q
  · cases rvs
    refine ⟨_, L2.mt_clear, a, ws, rfl, rfl, ha, ?_⟩
    exact upd_ok gh hj ha rfl trivial hk rfl (.list L2.upd_same .nil) q _ .non
  · exact q.elim
theorem m_index (hu : X.A.units + 65 < cLine) (hK : KW.mk X.K X.w ad = K) : MethOk X K "list.index" .index := by
  intro Wm σ ι h H x v xs vs Q gh rv rvs _ q
  subst hK
  obtain ⟨j, a, ys, ws, rfl, rfl, hj, hk, ha, ry⟩ := meth_lst gh rfl rv q
  unfold meth at q
  simp only [hk] at q
  split at q
  · rename_i y
    obtain ⟨u, rfl, ru⟩ := rvs1 rvs
    split at q
    · rename_i ds d h1 h2
      split at q
      · rename_i k hkk
        obtain ⟨d1, s1⟩ := dpV_of gh h1 rv
        obtain ⟨d2, s2⟩ := dpV_of gh h2 ru
        rw [List.findIdx?_eq_some_iff_getElem] at hkk
        obtain ⟨hlt, hz, hn⟩ := hkk
        refine ⟨_, L2.mt_indexD hu, a, u, d, ds, k, ds[k], rfl, rfl, d1, d2, s1, s2, List.getElem?_eq_getElem hlt, hz, fun m z' hm hz' => ?_, q.ok gh _ (.int _)⟩
        have := hn m hm
        rw [List.getElem?_eq_getElem (by omega)] at hz'
        cases hz'
        simpa using this
      · exact q.elim
    · exact q.elim
  · exact q.elim
/-! dicts -/
theorem meth_dct {m : MK} {x : MV} {v : V} {xs : List MV} {Q : VK} (gh : GH K ι h H) (hm : mkind m = "dict") (rv : RV K H ι x v) (q : AtR K Wm σ ι H (meth m x xs h) (PQ K Q)) :
    ∃ j a ys vs, x = .ref j ∧ v = .ref a ∧ ι[j]? = some a ∧ h[j]? = some (.dict ys) ∧ H a = some (.dK vs) ∧ RK K H ι ys vs := by
  have no : ∀ (s : Str), meth m (.str s) xs h = .bad := fun s => by cases m <;> first | rfl | (exact absurd hm (by decide))
  cases rv with
  | non => exact q.elim
  | bl b => exact q.elim
  | int i => exact q.elim
  | str s => rw [no] at q; exact q.elim
  | ty n => exact q.elim
  | tup _ _ => exact q.elim
  | @ref j a e =>
    unfold meth at q
    simp only at q
    split at q
    · cases m <;> first | exact q.elim | (exact absurd hm (by decide))
    · rename_i ys hk
      cases gh.obj j _ a hk e with
      | dict h1 r1 => exact ⟨j, a, ys, _, rfl, rfl, e, hk, h1, r1⟩
    · exact q.elim
theorem mt_get2 (hu : X.A.units + 1 < cLine) : L2.MtR X "dict.get" (fun x xs H Q => ∃ a y d o, x = .ref a ∧ xs = [y, d] ∧ L2.DGet H a y o ∧ Q (o.getD d) H) := by
  intro pins s σ H x xs v us Q I rx rxs q
  obtain ⟨a, y, d, o, rfl, rfl, dg, q⟩ := q
  cases rx
  obtain ⟨u, w, rfl, r1, r2⟩ := L2.Vals.two rxs
  exact L2.d_get2 hu I dg r1 r2 fun w' s4 I4 rw' => ⟨_, H, I4, rw', q⟩
theorem mt_setd : L2.MtR X "dict.setdefault" (fun x xs H Q => ∃ a k d kvs, x = .ref a ∧ xs = [L2.kV k, d] ∧ H a = some (.dK kvs) ∧ kvs.length < sizeLine ∧ (∀ v, L2.valV kvs k = some v → Q v H) ∧ (L2.valV kvs k = none → Q d (upd H a (.dK (kvs ++ [(k, d)]))))) := by
  intro pins s σ H x xs v us Q I rx rxs q
  obtain ⟨a, k, d, kvs, rfl, rfl, ha, hl, q1, q2⟩ := q
  cases rx
  obtain ⟨u, w, rfl, r1, r2⟩ := L2.Vals.two rxs
  exact L2.d_setd I ha r1 r2 hl (fun v hv w' s4 I4 rw' => ⟨v, _, I4, rw', q1 v hv⟩) fun hn w' s4 I4 rw' => ⟨d, _, I4, rw', by rw [L2.putK_new _ hn]; exact q2 hn⟩
theorem RK.append {K : KW} {H : Hp} {ι : List Addr} : ∀ {x y : List (L2.Key × MV)} {v w : List (L2.Key × V)}, RK K H ι x v → RK K H ι y w → RK K H ι (x ++ y) (v ++ w)
  | _, _, _, _, .nil, r => r
  | _, _, _, _, .cons h t, r => .cons h (RK.append t r)
theorem m_get (hu : X.A.units + 65 < cLine) (hK : KW.mk X.K X.w ad = K) : MethOk X K "dict.get" .get := by
  intro Wm σ ι h H x v xs vs Q gh rv rvs _ q
  subst hK
  obtain ⟨j, a, ys, ws, rfl, rfl, hj, hk, ha, ry⟩ := meth_dct gh rfl rv q
  unfold meth at q
  simp only [hk] at q
  split at q
  · rename_i k d
    obtain ⟨u, w, rfl, ru, rd⟩ := rvs2 rvs
    split at q
    · rename_i k' hk'
      have e := keyOf_rv hk' ru
      subst e
      refine ⟨_, mt_get2 (by omega), a, _, w, _, rfl, rfl, .inl ⟨ws, k', .inl ha, rfl, rfl⟩, ?_⟩
      rcases mLook_val ry k' with ⟨e1, e2⟩ | ⟨x, v, e1, e2, e3⟩
      · rw [e1] at q
        rw [e2]
        exact q.ok gh _ rd
      · rw [e1] at q
        rw [e2]
        exact q.ok gh _ e3
    · exact q.elim
  · exact q.elim
theorem m_setd (hK : KW.mk X.K X.w ad = K) : MethOk X K "dict.setdefault" .setdefault := by
  intro Wm σ ι h H x v xs vs Q gh rv rvs _ q
  subst hK
  obtain ⟨j, a, ys, ws, rfl, rfl, hj, hk, ha, ry⟩ := meth_dct gh rfl rv q
  unfold meth at q
  simp only [hk] at q
  split at q
  · rename_i k d
    obtain ⟨u, w, rfl, ru, rd⟩ := rvs2 rvs
    split at q
    · rename_i k' hk'
      have e := keyOf_rv hk' ru
      subst e
      split at q
      · rename_i hl
        rw [ry.length] at hl
        refine ⟨_, mt_setd, a, k', w, ws, rfl, rfl, ha, hl, ?_⟩
        rcases mLook_val ry k' with ⟨e1, e2⟩ | ⟨x, v, e1, e2, e3⟩
        · rw [e1] at q
          refine ⟨fun v hv => by (rw [e2] at hv; cases hv), fun _ => ?_⟩
          have st : Stp ⟨X.K, X.w, ad⟩ H (upd H a (.dK (ws ++ [(k', w)]))) := stp_upd ha trivial
          exact upd_ok gh hj ha rfl trivial hk rfl (.dict L2.upd_same ((ry.append (.cons rd .nil)).mono .refl st)) q _ (rd.mono .refl st)
        · rw [e1] at q
          refine ⟨fun v' hv => ?_, fun hn => by (rw [e2] at hn; cases hn)⟩
          rw [e2] at hv
          cases hv
          exact q.ok gh _ e3
      · exact q.elim
    · exact q.elim
  · exact q.elim
/-! texts -/
theorem meth_str {m : MK} {x : MV} {v : V} {xs : List MV} {Q : VK} (hm : mkind m = "str") (rv : RV K H ι x v) (q : AtR K Wm σ ι H (meth m x xs h) (PQ K Q)) : ∃ s, x = .str s ∧ v = .str s := by
  cases rv with
  | non => exact q.elim
  | bl b => exact q.elim
  | int i => exact q.elim
  | str s => exact ⟨s, rfl, rfl⟩
  | ty n => exact q.elim
  | tup _ _ => exact q.elim
  | @ref j a e =>
    unfold meth at q
    simp only at q
    split at q
    · cases m <;> first | exact q.elim | (exact absurd hm (by decide))
    · cases m <;> first | exact q.elim | (exact absurd hm (by decide))
    · exact q.elim
theorem m_split (hK : KW.mk X.K X.w ad = K) : MethOk X K "str.split" .split := by
  intro Wm σ ι h H x v xs vs Q gh rv rvs _ q
  subst hK
  obtain ⟨s, rfl, rfl⟩ := meth_str rfl rv q
  unfold meth at q
  simp only at q
  split at q
  · rename_i t
    obtain ⟨u, rfl, ru⟩ := rvs1 rvs
    cases ru
    split at q
    · rename_i hc
      exact ⟨_, L2.mt_split, s, t, rfl, rfl, hc.1, hc.2, fun p hp => new_ok gh hp (.list L2.upd_same (strs_rvs _)) q _ (rv_new gh)⟩
    · exact q.elim
  · exact q.elim
theorem m_join (hK : KW.mk X.K X.w ad = K) : MethOk X K "str.join" .join := by
  intro Wm σ ι h H x v xs vs Q gh rv rvs _ q
  subst hK
  obtain ⟨s, rfl, rfl⟩ := meth_str rfl rv q
  unfold meth at q
  simp only at q
  split at q
  · rename_i y
    obtain ⟨u, rfl, ru⟩ := rvs1 rvs
    split at q
    · rename_i ys hy
      split at q
      · rename_i ts ht
        split at q
        · rename_i hl
          rcases sq_items gh hy ru with ⟨a, ws, rfl, hs, rw', _⟩ | ⟨a, ws, rfl, hs, rw', _⟩
          · have e := allS_str ht rw'
            subst e
            exact ⟨_, L2.mt_join, s, a, ts, rfl, rfl, .inl hs, hl, q.ok gh _ (.str _)⟩
          · have e := allS_str ht rw'
            subst e
            exact ⟨_, L2.mt_join, s, a, ts, rfl, rfl, .inr hs.sq, hl, q.ok gh _ (.str _)⟩
        · exact q.elim
      · exact q.elim
    · exact q.elim
  · exact q.elim
theorem m_strip (hK : KW.mk X.K X.w ad = K) : MethOk X K "str.strip" .strip := by
  intro Wm σ ι h H x v xs vs Q gh rv rvs _ q
  subst hK
  obtain ⟨s, rfl, rfl⟩ := meth_str rfl rv q
  unfold meth at q
  simp only at q
  split at q
  · rename_i t
    obtain ⟨u, rfl, ru⟩ := rvs1 rvs
    cases ru
    split at q
    · rename_i hc
      exact ⟨_, L2.mt_stripChars, s, t, rfl, rfl, hc, q.ok gh _ (.str _)⟩
    · exact q.elim
  · exact q.elim
theorem m_partition (hK : KW.mk X.K X.w ad = K) : MethOk X K "str.partition" .partition := by
  intro Wm σ ι h H x v xs vs Q gh rv rvs _ q
  subst hK
  obtain ⟨s, rfl, rfl⟩ := meth_str rfl rv q
  unfold meth at q
  simp only at q
  split at q
  · rename_i t
    obtain ⟨u, rfl, ru⟩ := rvs1 rvs
    cases ru
    split at q
    · rename_i hc
      exact ⟨_, L2.mt_partition, s, t, rfl, rfl, hc.1, hc.2, fun p hp => q _ _ .refl (stp_new hp) (gh_up gh hp) _ (.tup (SqN.of L2.upd_same) (.cons (.str _) (.cons (.str _) (.cons (.str _) .nil))))⟩
    · exact q.elim
  · exact q.elim
theorem m_startswith (hK : KW.mk X.K X.w ad = K) : MethOk X K "str.startswith" .startswith := by
  intro Wm σ ι h H x v xs vs Q gh rv rvs _ q
  subst hK
  obtain ⟨s, rfl, rfl⟩ := meth_str rfl rv q
  unfold meth at q
  simp only at q
  split at q
  · rename_i t
    obtain ⟨u, rfl, ru⟩ := rvs1 rvs
    cases ru
    exact ⟨_, L2.mt_startswith, s, t, rfl, rfl, q.ok gh _ (.bl _)⟩
  · exact q.elim
end
end R

namespace R
open PySem PySem.Spec
open L2 (V Hp HO SqL SqT TE TS TT TA VK Cx PE PT PA PS PSs upd Rd RelV Dp DpAll)
section
variable {X : Cx} {ad : Str → Option Addr} {K : KW} {Wm : Wish} {g : Genv} {pos : Pos} {e a b c : Expr} {m ma mb mc : ME} {σ : L2.St} {ι : List Addr} {H : Hp} {h : Hm}
structure MethIs (X : Cx) (K : KW) (x : Str) (m : MK) : Prop where
  ex : ∃ id, PlainAttrs (mkind m) ∧ PySem.Slot (mkind m) x id ∧ typeOf (.builtin id) = pure (.type "method_descriptor") ∧ MethOk X K id m
theorem bltM_ok (hu : X.A.units + 65 < cLine) (hK : KW.mk X.K X.w ad = K) {x : Str} {m : MK} (q : lkS bltM x = some m) : MethIs X K x m := by
  have h := lkS_mem q
  unfold bltM at h
  simp only [List.mem_cons, Prod.mk.injEq, List.not_mem_nil, or_false] at h
  rcases h with ⟨rfl, rfl⟩ | ⟨rfl, rfl⟩ | ⟨rfl, rfl⟩ | ⟨rfl, rfl⟩ | ⟨rfl, rfl⟩ | ⟨rfl, rfl⟩ | ⟨rfl, rfl⟩ | ⟨rfl, rfl⟩ | ⟨rfl, rfl⟩ | ⟨rfl, rfl⟩ | ⟨rfl, rfl⟩ | ⟨rfl, rfl⟩ | ⟨rfl, rfl⟩
  · exact ⟨_, PySem.F.plainAttrs_list, PySem.F.slot_list_append, PySem.F.type_list_append, m_append hK⟩
  · exact ⟨_, PySem.F.plainAttrs_list, PySem.F.slot_list_extend, PySem.F.type_list_extend, m_extend hK⟩
  · exact ⟨_, PySem.F.plainAttrs_list, PySem.F.slot_list_pop, PySem.F.type_list_pop, m_pop hK⟩
  · exact ⟨_, PySem.F.plainAttrs_list, PySem.F.slot_list_reverse, PySem.F.type_list_reverse, m_reverse hK⟩
  · exact ⟨_, PySem.F.plainAttrs_list, PySem.F.slot_list_clear, PySem.F.type_list_clear, m_clear hK⟩
  · exact ⟨_, PySem.F.plainAttrs_list, PySem.F.slot_list_index, PySem.F.type_list_index, m_index hu hK⟩
  · exact ⟨_, PySem.F.plainAttrs_dict, PySem.F.slot_dict_setdefault, PySem.F.type_dict_setdefault, m_setd hK⟩
  · exact ⟨_, PySem.F.plainAttrs_dict, PySem.F.slot_dict_get, PySem.F.type_dict_get, m_get hu hK⟩
  · exact ⟨_, PySem.F.plainAttrs_str, PySem.F.slot_str_split, PySem.F.type_str_split, m_split hK⟩
  · exact ⟨_, PySem.F.plainAttrs_str, PySem.F.slot_str_join, PySem.F.type_str_join, m_join hK⟩
  · exact ⟨_, PySem.F.plainAttrs_str, PySem.F.slot_str_partition, PySem.F.type_str_partition, m_partition hK⟩
  · exact ⟨_, PySem.F.plainAttrs_str, PySem.F.slot_str_startswith, PySem.F.type_str_startswith, m_startswith hK⟩
  · exact ⟨_, PySem.F.plainAttrs_str, PySem.F.slot_str_strip, PySem.F.type_str_strip, m_strip hK⟩
theorem plain_base {o : Expr} {name : Str} {env : Env} {t : Sem Value} (q : plainBase o = true) : attributeBase o name env t = t := by
  unfold attributeBase
  split
  · cases q
  · rfl
theorem kind_tyV (hK : KW.mk X.K X.w ad = K) {x : MV} {v : V} {k : String} (gh : GH K ι h H) (q : kind h x = some k) (hk : k = "list" ∨ k = "dict" ∨ k = "str") (r : RV K H ι x v) : L2.tyV X.K k v H := by
  subst hK
  cases r with
  | non => cases q; rcases hk with h | h | h <;> exact absurd h (by decide)
  | bl b => cases q; rcases hk with h | h | h <;> exact absurd h (by decide)
  | int i => cases q; rcases hk with h | h | h <;> exact absurd h (by decide)
  | str s => cases q; rfl
  | ty n => cases q
  | tup hs _ => cases q; rcases hk with h | h | h <;> exact absurd h (by decide)
  | @ref i a e =>
    unfold kind at q
    simp only at q
    split at q
    · rename_i xs hx
      cases q
      obtain ⟨vs, hs, _⟩ := sq_list gh e (xs := xs) (by simp [items, hx])
      exact .inl ⟨rfl, vs, hs⟩
    · rename_i xs hx
      cases q
      obtain ⟨vs, hs, _⟩ := sq_list gh e (xs := xs) (by simp [items, hx])
      exact .inl ⟨rfl, vs, hs⟩
    · rename_i xs hx
      cases q
      cases gh.obj i _ a hx e with
      | dict h1 _ => exact .inr (.inr (.inl ⟨rfl, .inl ⟨_, h1⟩⟩))
    · cases q; rcases hk with h | h | h <;> exact absurd h (by decide)
    · cases q
theorem mkind_in (m : MK) : mkind m = "list" ∨ mkind m = "dict" ∨ mkind m = "str" := by cases m <;> simp [mkind]
/-- the kind is kept by what arguments do -/
theorem meth_imp {id : String} {m : MK} {o : Expr} {mo : ME} {es : List Expr} {ms : MEs} (hK : KW.mk X.K X.w ad = K) (B : MethOk X K id m) (he : True) :
    ∀ σ H Q, tE K Wm (evE g (.meth m mo ms)) σ H Q → L2.tBM X.K (mkind m) (rmAny X id) (tE K Wm (evE g mo)) (tA K Wm (evEs g ms)) σ H Q := fun σ H Q z => by
  refine Sta.imp (Sta.parts (f := fun sm x h => if kind h x = some (mkind m) then (evEs g ms sm h).bind fun xs h => meth m x xs h else .bad) z) fun x h1 i1 H1 g1 ⟨sm, rs, _, at1⟩ v rv => ?_
  split at at1
  · rename_i hk
    refine ⟨kind_tyV hK g1 hk (mkind_in m) rv, i1, h1, sm, g1, rs, at1.bind.mono .refl .refl fun xs h2 i2 H2 e2 s2 g2 at2 vs rvs => ?_⟩
    have rv2 := rv.mono e2 s2
    by_cases hk2 : kind h2 x = some (mkind m)
    · exact B _ _ _ _ _ _ _ _ _ _ g2 rv2 rvs hk2 at2
    · refine (?_ : False).elim
      have hb : meth m x xs h2 = .bad := by
        cases x with
        | non => rfl
        | bl _ => rfl
        | int _ => rfl
        | str s => exact absurd hk hk2
        | ty _ => rfl
        | fn _ => rfl
        | tup _ => rfl
        | ref j =>
          unfold kind at hk2
          simp only at hk2
          unfold meth
          simp only
          split
          · rename_i e
            rw [e] at hk2
            cases m <;> first | rfl | exact absurd rfl hk2
          · rename_i e
            rw [e] at hk2
            cases m <;> first | rfl | exact absurd rfl hk2
          · rfl
      rw [hb] at at2
      exact at2
  · exact at1.elim
theorem s_meth {x : Str} {m : MK} {o : Expr} {mo : ME} {es : List Expr} {ms : MEs} {ap cp : Pos} (hu : X.A.units + 65 < cLine) (hK : KW.mk X.K X.w ad = K) (q : lkS bltM x = some m) (ho : SE X K Wm g o mo) (hb : plainBase o = true)
    (hline : (ap.endLine == cp.line) = true) (s : SEs X K Wm g es ms) (hs : noStar es = true) (hl : es.length < 29) : SE X K Wm g (.Call (.Attribute o x ap) es [] cp) (.meth m mo ms) := by
  obtain ⟨id, pa, slot, hty, B⟩ := (bltM_ok hu hK q).ex
  cases es with
  | nil =>
    cases s
    refine pt_of hK (PE.imp (L2.pe_bm0 pa slot hty rm_any ho.pe (plain_base hb) hline) fun σ H Q z => ?_) fun _ => rfl
    refine Sta.imp (Sta.one (f := fun x h => if kind h x = some (mkind m) then (evEs g .nil [] h).bind fun xs h => meth m x xs h else .bad) z) fun x h1 i1 H1 g1 z v rv => ?_
    obtain ⟨i2, x2, h2, sm2, g2, rs2, rv2, at2⟩ := z v rv
    split at at2
    · rename_i hk
      exact ⟨kind_tyV hK g2 hk (mkind_in m) rv2, B _ _ _ _ _ _ _ _ _ _ g2 rv2 .nil hk at2⟩
    · exact at2.elim
  | cons e es =>
    obtain ⟨q1, q2⟩ := noStar_cons hs
    refine pt_of hK (PE.imp (L2.pe_bm pa slot hty rm_any ho.pe (pa_of s hs) (plain_base hb) ?_ hline (star_cons q1) (star_plain q2)) (meth_imp (o := o) (es := e :: es) hK B trivial)) fun _ => rfl
    rw [star_all hs]
    show (true && true && decide ((e :: es).length + 0 + 0 < 30)) = true
    rw [Bool.and_self, Bool.true_and]
    exact decide_eq_true (by omega)
end
end R

namespace R
open PySem PySem.Spec PyProof.Rows
open L2 (V Hp HO SqL SqT TE TS TT TA VK Cx PE PT PA PS PSs upd Rd RelV Dp DpAll Inv It TI PI PIE FpOk Turn thn)

theorem vals_back : ∀ {xs : List V} {its : List Value}, L2.Vals xs its → ∀ {i : Nat} {v : Value}, its[i]? = some v → ∃ x, xs[i]? = some x ∧ RelV x v
  | _, _, .nil, i, v, h => by simp at h
  | _, _, .cons r t, 0, v, h => by
    simp only [List.getElem?_cons_zero, Option.some.injEq] at h
    subst h
    exact ⟨_, rfl, r⟩
  | _, _, .cons r t, i + 1, v, h => by
    rw [List.getElem?_cons_succ] at h
    exact vals_back t h
/-! ### zip of any two of lists, tuples, texts -/
inductive Sd where
  | lst (a : Addr) | tup (a : Addr) | str (x : Str) (t : Tok)
def Sd.has (K : PySem.W.Frag) (H : Hp) : Sd → List V → Prop
  | .lst a, xs => SqL K H a xs
  | .tup a, xs => SqT K H a xs
  | .str x _, xs => xs = x.cps.toList.map fun c => .str ⟨#[c]⟩
def Sd.it (h : Heap) (i : Addr) (k : Nat) : Sd → Prop
  | .lst a => h.IsListIter i a k
  | .tup a => h.IsTupleIter i a k
  | .str x t => h.IsStrIter i (strIterType x) x t k
def Sd.ad : Sd → List Addr
  | .lst a => [a]
  | .tup a => [a]
  | .str _ _ => []
def Sd.val : Sd → Value
  | .lst a => .ref a
  | .tup a => .ref a
  | .str x t => .str x t
def Sd.ob : Sd → Obj
  | .lst a => { cls := .type "list_iterator", data := .fields #[.ref a, .int 0 0] }
  | .tup a => { cls := .type "tuple_iterator", data := .fields #[.ref a, .int 0 0] }
  | .str x t => { cls := .type (strIterType x), data := .fields #[.str x t, .int 0 0] }
theorem Sd.it_new {h : Heap} {i : Addr} {S : Sd} (e : h.get? i = some S.ob) : S.it h i 0 := by
  cases S <;> exact ⟨_, e, rfl, rfl⟩
theorem Sd.it_at {h h' : Heap} {i : Addr} {k : Nat} {S : Sd} (st : S.it h i k) (f : ∀ o, h.get? i = some o → h'.get? i = some o) : S.it h' i k := by
  cases S <;> exact (let ⟨o, ho, r⟩ := st; ⟨o, f o ho, r⟩)
theorem Sd.it_get {h : Heap} {i : Addr} {k : Nat} {S : Sd} (st : S.it h i k) : ∃ o, h.get? i = some o ∧ ∀ v, o.data ≠ .cell v := by
  cases S with
  | lst a => obtain ⟨o, ho, _, d⟩ := st; exact ⟨o, ho, fun v z => by rw [d] at z; cases z⟩
  | tup a => obtain ⟨o, ho, _, d⟩ := st; exact ⟨o, ho, fun v z => by rw [d] at z; cases z⟩
  | str x t => obtain ⟨o, ho, _, d⟩ := st; exact ⟨o, ho, fun v z => by rw [d] at z; cases z⟩
section
variable {X : Cx} {pins : List (Addr × Obj)} {σ : L2.St} {H : Hp} {s : Shared}
theorem Sd.begins (I : Inv X pins σ H s) {S : Sd} {xs : List V} (h : S.has X.K H xs) : ∃ P : Heap → Prop, Begins S.val S.ob P ∧ P s.heap := by
  cases S with
  | lst a =>
    obtain ⟨its, _, p, _⟩ := I.list h
    exact ⟨_, begins_list a _, p.isList⟩
  | tup a =>
    obtain ⟨its, _, p, _⟩ := I.tuple h
    exact ⟨_, begins_tuple a its.toArray, p⟩
  | str x t => exact ⟨_, begins_text x t, trivial⟩
theorem Sd.lt (I : Inv X pins σ H s) {S : Sd} {xs : List V} (h : S.has X.K H xs) : ∀ b ∈ S.ad, b < s.heap.objs.size := by
  cases S with
  | lst a =>
    obtain ⟨its, _, p, _⟩ := I.list h
    intro b hb
    cases List.mem_singleton.mp hb
    exact p.lt
  | tup a =>
    obtain ⟨its, _, ⟨o, e, _⟩, _⟩ := I.tuple h
    intro b hb
    cases List.mem_singleton.mp hb
    exact Heap.lt_size e
  | str x t => intro b hb; cases hb
theorem Sd.draw (hc : X.calm = true) (I : Inv X pins σ H s) {S : Sd} {xs : List V} (h : S.has X.K H xs) {i : Addr} (hi : i ∉ S.ad) :
    ∃ (P : Nat → Value → Prop) (St : Nat → Heap → Prop), Draws X.prog X.w X.A.in1 i (i :: S.ad) xs.length P St ∧ (∀ k, S.it s.heap i k → St k s.heap) ∧ (∀ k h, St k h → S.it h i k) ∧
      ∀ k v, P k v → ∃ x, xs[k]? = some x ∧ RelV x v := by
  cases S with
  | lst a =>
    obtain ⟨its, rv, p, _⟩ := I.list h
    have hl : its.toArray.size = xs.length := by rw [List.size_toArray, rv.length]
    have D := Draws.list (prog := X.prog) (w := X.w) (A := X.A.in1) (I.ok.hd hc) i a (fun e => hi (by rw [← e]; exact List.mem_singleton.mpr rfl)) its.toArray
    rw [hl] at D
    refine ⟨_, _, D, fun k st => ⟨st, p.isList⟩, fun k h st => st.1, fun k v hv => ?_⟩
    exact vals_back rv (by simpa using hv)
  | tup a =>
    obtain ⟨its, rv, p, _⟩ := I.tuple h
    have hl : its.toArray.size = xs.length := by rw [List.size_toArray, rv.length]
    have D := Draws.tuple (prog := X.prog) (w := X.w) (A := X.A.in1) (I.ok.hd hc) i a (fun e => hi (by rw [← e]; exact List.mem_singleton.mpr rfl)) its.toArray
    rw [hl] at D
    refine ⟨_, _, D, fun k st => ⟨st, p⟩, fun k h st => st.1, fun k v hv => ?_⟩
    exact vals_back rv (by simpa using hv)
  | str x t =>
    have hx : xs = x.cps.toList.map fun c => .str ⟨#[c]⟩ := h
    have hl : x.cps.size = xs.length := by rw [hx, List.length_map, Array.length_toList]
    have D := Draws.text (prog := X.prog) (w := X.w) (A := X.A.in1) (I.ok.hd hc) i x t
    rw [hl] at D
    refine ⟨_, _, D, fun k st => st, fun k h st => st, fun k v ⟨c, u, hv, e⟩ => ⟨.str ⟨#[c]⟩, ?_, u, e⟩⟩
    rw [hx, List.getElem?_map, Array.getElem?_toList, hv]
    rfl
theorem Sd.inj (I : Inv X pins σ H s) {S : Sd} {xs ys : List V} (h : S.has X.K H xs) (h' : S.has X.K H ys) : xs = ys := by
  cases S with
  | lst a => exact I.list_inj h h'
  | tup a => exact I.tuple_inj h h'
  | str x t => exact Eq.trans h (Eq.symm h')
end
def ItG (K : PySem.W.Frag) (S T : Sd) : It :=
  ⟨fun i H => ∃ xs ys : List V, S.has K H xs ∧ T.has K H ys ∧ i < xs.length ∧ i < ys.length,
    fun i H v H' => ∃ p x y, v = .ref p ∧ H p = none ∧ H' = upd H p (.tup [x, y]) ∧ (∀ xs, S.has K H xs → xs[i]? = some x) ∧ ∀ ys, T.has K H ys → ys[i]? = some y,
    fun i H => ∃ xs ys : List V, S.has K H xs ∧ T.has K H ys ∧ i = min xs.length ys.length⟩
theorem Turn.zipG {P : Program} {w : World} {K : PySem.W.Frag} {elts : List Expr} {kk : Nat} {tpos : Pos} {S T : Sd} {z TI TO i1 i2 : Addr} (D : ZipSep2 z TI TO i1 i2 (i1 :: S.ad) (i2 :: T.ad)) (hx : i1 ∉ S.ad ∧ i2 ∉ T.ad) :
    Turn P w K (.Tuple elts kk tpos) (ItG K S T) [z, TI, TO, i1, i2] z (fun i h => IsZip h z TI TO .none ∧ IsTupOf2 h TI (.ref i1) (.ref i2) ∧ (∃ x y, IsTupOf2 h TO x y) ∧ S.it h i1 i ∧ T.it h i2 i) where
  mem := by simp
  obj := fun i h st c hc => by
    obtain ⟨hz, hTI, ⟨x, y, hTO⟩, h1, h2⟩ := st
    simp only [List.mem_cons, List.not_mem_nil, or_false] at hc
    rcases hc with rfl | rfl | rfl | rfl | rfl
    · exact ⟨_, hz, fun v q => nomatch q⟩
    · exact ⟨_, hTI, fun v q => nomatch q⟩
    · exact ⟨_, hTO, fun v q => nomatch q⟩
    · exact Sd.it_get h1
    · exact Sd.it_get h2
  keep := fun i h h' st k => by
    obtain ⟨hz, hTI, ⟨x, y, hTO⟩, h1, h2⟩ := st
    exact ⟨k z (by simp) _ hz, k TI (by simp) _ hTI, ⟨x, y, k TO (by simp) _ hTO⟩, Sd.it_at h1 fun o q => k i1 (by simp) o q, Sd.it_at h2 fun o q => k i2 (by simp) o q⟩
  item := by
    intro X hP hw hK hc i pins s σ H E I hf st hg
    subst hP hw hK
    obtain ⟨hz, hTI, hTO, h1, h2⟩ := st
    obtain ⟨xs, ys, q1, q2, l1, l2⟩ := hg
    obtain ⟨P1, St1, D1, a1, b1, c1⟩ := Sd.draw hc I q1 hx.1
    obtain ⟨P2, St2, D2, a2, b2, c2⟩ := Sd.draw hc I q2 hx.2
    have G : GoesN X.prog X.w X.A (.Tuple elts kk tpos) z (z :: TI :: TO :: ((i1 :: S.ad) ++ (i2 :: T.ad))) [z, TO, i1, i2] (min xs.length ys.length) _ _ := GoesN.zip2 (elts := elts) (x1 := kk) (pos := tpos) D D1 D2
    refine G.goes i s _ _ (by omega) ⟨hz, hTI, hTO, a1 _ h1, a2 _ h2⟩ fun v h' tk hY st' hk htk => ?_
    obtain ⟨p, x, y, rfl, hp, hx', hy', hT⟩ := hY
    obtain ⟨vx, ex, rx⟩ := c1 _ _ hx'
    obtain ⟨vy, ey, ry⟩ := c2 _ _ hy'
    obtain ⟨s1, s2, s3, s4, s5⟩ := st'
    have np : H p = none := I.hok.fresh hp
    have new : L2.ObjOk X.prog X.w (upd H p (.tup [vx, vy])) h' p (.tup [vx, vy]) := ⟨by show 2 ≤ sizeLine; decide, [x, y], .cons rx (.cons ry .nil), hT⟩
    refine ⟨.ref p, upd H p (.tup [vx, vy]), I.turnedNew (t' := tk) (ch := [z, TI, TO, i1, i2]) (fun c o hb q => hk c o (fun hm => hb ?_) q) hf hp new, rfl,
      ⟨p, vx, vy, rfl, np, rfl, fun l hl => by rw [Sd.inj I hl q1]; exact ex, fun l hl => by rw [Sd.inj I hl q2]; exact ey⟩, ⟨s1, s2, s3, b1 _ _ s4, b2 _ _ s5⟩, fun b hb => ?_⟩
    · simp only [List.mem_cons, List.not_mem_nil, or_false] at hm ⊢
      rcases hm with h | h | h | h <;> simp [h]
    · have hlt : b < s.heap.objs.size := by
        simp only [List.mem_cons, List.not_mem_nil, or_false] at hb
        rcases hb with rfl | rfl | rfl | rfl | rfl
        · exact Heap.lt_size hz
        · exact Heap.lt_size hTI
        · obtain ⟨_, _, e⟩ := hTO; exact Heap.lt_size e
        · obtain ⟨_, e, _⟩ := Sd.it_get h1; exact Heap.lt_size e
        · obtain ⟨_, e, _⟩ := Sd.it_get h2; exact Heap.lt_size e
      rw [L2.upd_ne (Nat.ne_of_lt (Nat.lt_of_lt_of_le hlt hp))]
      exact (hf b hb).1
  done := by
    intro X hP hw hK hc i pins s σ H E I hf st hg
    subst hP hw hK
    obtain ⟨hz, hTI, hTO, h1, h2⟩ := st
    obtain ⟨xs, ys, q1, q2, l1⟩ := hg
    subst l1
    obtain ⟨P1, St1, D1, a1, b1, c1⟩ := Sd.draw hc I q1 hx.1
    obtain ⟨P2, St2, D2, a2, b2, c2⟩ := Sd.draw hc I q2 hx.2
    have G : GoesN X.prog X.w X.A (.Tuple elts kk tpos) z (z :: TI :: TO :: ((i1 :: S.ad) ++ (i2 :: T.ad))) [z, TO, i1, i2] (min xs.length ys.length) _ _ := GoesN.zip2 (elts := elts) (x1 := kk) (pos := tpos) D D1 D2
    refine G.stops s _ _ ⟨hz, hTI, hTO, a1 _ h1, a2 _ h2⟩ fun h' tk hk htk => ?_
    exact I.turnedL (t' := tk) (ch := [z, TI, TO, i1, i2]) (fun c o hb q => hk c o (fun hm => hb (by
      simp only [List.mem_cons, List.not_mem_nil, or_false] at hm ⊢
      rcases hm with h | h | h | h <;> simp [h])) q) hf
  self := fun A i s Q E st h => wpAny_pyIter_zip st.1 h
def iZipG (K : PySem.W.Frag) (ta : TA) : TI := fun σ H R => ta σ H fun vs H1 => ∃ u v, vs = [u, v] ∧ ∀ a b, RelV u a → RelV v b → ∃ S T xs ys, Sd.val S = a ∧ Sd.val T = b ∧ S.has K H1 xs ∧ T.has K H1 ys ∧ R (ItG K S T) H1
theorem pi_zipG {X : Cx} {e e2 : Expr} {ta : TA} {p pos tpos : Pos} {elts : List Expr} {kk : Nat} (hg : L2.Gl X "zip") (hm : X.mg "zip" = none) (ha : PA X [e, e2] ta)
    (hs : starEach [e, e2] X.env = (false, eval e X.env) :: starEach [e2] X.env) (hpl : (backTo pos (starEach [e2] X.env)).any (·.1) = false) :
    PI X (.Tuple elts kk tpos) (.Call (.Name "zip" p) [e, e2] [] pos) (iZipG X.K ta) := by
  refine ⟨fun pins s σ H R I h => ?_⟩
  refine Call_ (L2.ld_blt I hg hm PyProof.Rows.boot_zip (PyProof.Rows.callWith_type1 (thn (ha.run pos pins s σ H _ I h) fun us s1 ⟨vs, H1, I1, r1, q1⟩ => ?_) hs hpl))
  obtain ⟨u, v, rfl, q1⟩ := q1
  obtain ⟨a, b, rfl, ra, rb⟩ := L2.Vals.two r1
  obtain ⟨S, T, xs, ys, rfl, rfl, h1, h2, q⟩ := q1 a b ra rb
  obtain ⟨P1, B1, p1⟩ := Sd.begins I1 h1
  obtain ⟨P2, B2, p2⟩ := Sd.begins I1 h2
  refine zip_begins2 B1 B2 p1 p2 fun h' hz hTI hTO g1 g2 hsz hk => wpAny_pyIter_zip hz ?_
  have I2 : Inv X pins σ H1 { s1 with heap := h' } := I1.kept (t' := s1.toks) hk
  refine ⟨s1.heap.objs.size + 4, [s1.heap.objs.size + 4, s1.heap.objs.size + 2, s1.heap.objs.size + 3, s1.heap.objs.size, s1.heap.objs.size + 1], _, _, H1, rfl, I2,
    Turn.zipG (zip_sep2 (Sd.lt I1 h1) (Sd.lt I1 h2)) ⟨fun hm => Nat.lt_irrefl _ (Sd.lt I1 h1 _ hm), fun hm => Nat.lt_irrefl _ (Nat.lt_of_succ_lt (Sd.lt I1 h2 _ hm))⟩, ⟨hz, hTI, ⟨_, _, hTO⟩, Sd.it_new g1, Sd.it_new g2⟩, fun c hcm => ?_, q⟩
  have hle : s1.heap.objs.size ≤ c := by
    simp only [List.mem_cons, List.not_mem_nil, or_false] at hcm
    rcases hcm with z | z | z | z | z
    · rw [z]; exact Nat.le_add_right _ _
    · rw [z]; exact Nat.le_add_right _ _
    · rw [z]; exact Nat.le_add_right _ _
    · rw [z]; exact Nat.le_refl _
    · rw [z]; exact Nat.le_add_right _ _
  exact I1.fpOk hle (I1.hok.fresh hle)
end R

namespace R
open PySem PySem.Spec PyProof.Rows
open L2 (V Hp HO SqL SqT TE TS TT TA VK Cx PE PT PA PS PSs upd Rd RelV Dp DpAll Inv It TI PI PIE FpOk Turn thn)
section
variable {X : Cx} {ad : Str → Option Addr} {K : KW} {Wm : Wish} {g : Genv} {pos : Pos} {e a b c tg : Expr} {m ma mb mc : ME} {σ : L2.St} {ι : List Addr} {H : Hp} {h : Hm}
/-- what the machine's iterator gives, as the small one tells -/
def JOk (K : KW) (ι : List Addr) (H : Hp) (it : IT) (J : It) : Prop := ∀ ι' h H', Ext ι ι' → Stp K H H' → GH K ι' h H' → ∀ i,
  (nxt h it i = some none → J.stop i H') ∧ ∀ x, nxt h it i = some (some x) → J.go i H' ∧ ∀ v H2, J.yld i H' v H2 → Stp K H' H2 ∧ GH K ι' h H2 ∧ RV K H2 ι' x v
def tI (K : KW) (Wm : Wish) (ev : Sm → Hm → Res IT) : TI := fun σ H R => Sta K Wm ev σ H fun it _ ι' H' => ∀ J, JOk K ι' H' it J → R J H'
theorem PI.imp {wi wi' : TI} (h : PI X tg e wi) (f : ∀ σ H R, wi' σ H R → wi σ H R) : PI X tg e wi' := ⟨fun pins s σ H R I q => h.run pins s σ H R I (f σ H R q)⟩
theorem PI.or {wi wi' : TI} (h : PI X tg e wi) (h' : PI X tg e wi') : PI X tg e (fun σ H R => wi σ H R ∨ wi' σ H R) := ⟨fun pins s σ H R I q => q.elim (h.run pins s σ H R I) (h'.run pins s σ H R I)⟩

/-! ### the sources -/
theorem sql_one {a : Addr} {vs xs : List V} (h : SqL K H a vs) (hv : ∀ ys, SqL K H a ys → ys = vs) : SqL K H a vs := h
/-- items of a numbered list, as the machine's readings tell -/
theorem list_get {ι' : List Addr} {H' : Hp} {j : Nat} {a : Addr} {xs : List MV} (gh : GH K ι' h H') (e : ι'[j]? = some a) (q : items h (.ref j) = some xs) : ∃ vs, SqL K H' a vs ∧ RVs K H' ι' xs vs := sq_list gh e q
theorem jok_list {j : Nat} {a : Addr} (ej : ι[j]? = some a) : JOk K ι H (.src (.lst j)) (L2.Itl K a) := by
  intro ι' h H' e s gh i
  refine ⟨fun q => ?_, fun x q => ?_⟩
  · unfold nxt srcI at q
    simp only at q
    split at q
    · rename_i xs hx
      obtain ⟨vs, hs, r⟩ := sq_list gh (e _ _ ej) hx
      refine ⟨vs, hs, ?_⟩
      rw [← r.length]
      exact List.getElem?_eq_none_iff.mp (Option.some.inj q)
    · cases q
  · unfold nxt srcI at q
    simp only at q
    split at q
    · rename_i xs hx
      obtain ⟨vs, hs, r⟩ := sq_list gh (e _ _ ej) hx
      obtain ⟨u, hu, ru⟩ := r.get (Option.some.inj q)
      refine ⟨⟨vs, u, hs, hu⟩, fun v H2 y => ?_⟩
      obtain ⟨y1, y2⟩ := y
      have := y2 vs hs
      rw [hu] at this
      cases this
      rw [y1]
      exact ⟨.refl, gh, ru⟩
    · cases q
theorem jok_tup {xs : List MV} {a : Addr} {vs : List V} (hs : SqN K H a vs) (r : RVs K H ι xs vs) : JOk K ι H (.src (.tup xs)) (L2.Itt K a) := by
  intro ι' h H' e s gh i
  have hs' := (s _ _ hs).sq
  have r' := r.mono e s
  refine ⟨fun q => ?_, fun x q => ?_⟩
  · unfold nxt srcI at q
    simp only at q
    refine ⟨vs, hs', ?_⟩
    rw [← r.length]
    exact List.getElem?_eq_none_iff.mp (Option.some.inj q)
  · unfold nxt srcI at q
    simp only at q
    obtain ⟨u, hu, ru⟩ := r'.get (Option.some.inj q)
    refine ⟨⟨vs, u, hs', hu⟩, fun v H2 y => ?_⟩
    obtain ⟨y1, y2⟩ := y
    have := y2 vs hs'
    rw [hu] at this
    cases this
    rw [y1]
    exact ⟨.refl, gh, ru⟩
theorem jok_str {s : Str} : JOk K ι H (.src (.str s.cps.toList)) (L2.Its s) := by
  intro ι' h H' e st gh i
  refine ⟨fun q => ?_, fun x q => ?_⟩
  · unfold nxt srcI at q
    simp only at q
    have := List.getElem?_eq_none_iff.mp (Option.some.inj q)
    rw [List.length_map, Array.length_toList] at this
    exact this
  · unfold nxt srcI at q
    simp only at q
    have q := Option.some.inj q
    rw [List.getElem?_map, Array.getElem?_toList, Option.map_eq_some_iff] at q
    obtain ⟨c, h1, h2⟩ := q
    subst h2
    refine ⟨(Array.getElem?_eq_some_iff.mp h1).1, fun v H2 y => ?_⟩
    obtain ⟨y1, c', y2, y3⟩ := y
    rw [h1] at y2
    cases y2
    rw [y1, y3]
    exact ⟨.refl, gh, .str _⟩
theorem jok_rng {lo : Int} {n : Nat} : JOk K ι H (.rng lo 1 n) (L2.Itr lo n) := by
  intro ι' h H' e st gh i
  refine ⟨fun q => ?_, fun x q => ?_⟩
  · unfold nxt at q
    simp only at q
    split at q
    · cases q
    · show n ≤ i
      omega
  · unfold nxt at q
    simp only at q
    split at q
    · cases q
      refine ⟨by assumption, fun v H2 y => ?_⟩
      obtain ⟨y1, y2⟩ := y
      rw [y1, y2]
      refine ⟨.refl, gh, ?_⟩
      rw [Int.mul_one]
      exact .int _
    · cases q
theorem jok_rngC {lo c : Int} {n : Nat} : JOk K ι H (.rng lo c n) (L2.Itc lo c n) := by
  intro ι' h H' e st gh i
  refine ⟨fun q => ?_, fun x q => ?_⟩
  · unfold nxt at q
    simp only at q
    split at q
    · cases q
    · show n ≤ i
      omega
  · unfold nxt at q
    simp only at q
    split at q
    · cases q
      refine ⟨by assumption, fun v H2 y => ?_⟩
      obtain ⟨y1, y2⟩ := y
      rw [y1, y2]
      exact ⟨.refl, gh, .int _⟩
    · cases q
theorem jok_rev {j n : Nat} {a : Addr} (ej : ι[j]? = some a) : JOk K ι H (.rev j n) (L2.Itv K a n) := by
  intro ι' h H' e st gh i
  refine ⟨fun q => ?_, fun x q => ?_⟩
  · unfold nxt at q
    simp only at q
    split at q
    · split at q
      · split at q <;> cases q
      · show n ≤ i
        omega
    · cases q
  · unfold nxt at q
    simp only at q
    split at q
    · rename_i xs hx
      split at q
      · rename_i hlt
        split at q
        · rename_i y hy
          cases q
          obtain ⟨vs, hs, r⟩ := sq_list gh (e _ _ ej) hx
          obtain ⟨u, hu, ru⟩ := r.get hy
          refine ⟨⟨hlt, vs, u, hs, hu⟩, fun v H2 y => ?_⟩
          obtain ⟨y1, y2⟩ := y
          have := y2 vs hs
          rw [hu] at this
          cases this
          rw [y1]
          exact ⟨.refl, gh, ru⟩
        · cases q
      · cases q
    · cases q
theorem jok_enum {j : Nat} {a : Addr} (ej : ι[j]? = some a) : JOk K ι H (.enm j) (L2.Ite K a) := by
  intro ι' h H' e st gh i
  refine ⟨fun q => ?_, fun x q => ?_⟩
  · unfold nxt at q
    simp only at q
    split at q
    · rename_i xs hx
      split at q
      · cases q
      · rename_i hn
        obtain ⟨vs, hs, r⟩ := sq_list gh (e _ _ ej) hx
        refine ⟨vs, hs, ?_⟩
        rw [← r.length]
        exact List.getElem?_eq_none_iff.mp hn
    · cases q
  · unfold nxt at q
    simp only at q
    split at q
    · rename_i xs hx
      split at q
      · rename_i y hy
        cases q
        obtain ⟨vs, hs, r⟩ := sq_list gh (e _ _ ej) hx
        obtain ⟨u, hu, ru⟩ := r.get hy
        refine ⟨⟨vs, u, hs, hu⟩, fun v H2 y => ?_⟩
        obtain ⟨T, w, y1, y2, y3, y4⟩ := y
        have := y4 vs hs
        rw [hu] at this
        cases this
        subst y1 y3
        have st := stp_new (K := K) (o := .tup [.int (i : Nat), u]) y2
        exact ⟨st, gh_up gh y2, .tup (SqN.of L2.upd_same) (.cons (.int _) (.cons (ru.mono .refl st) .nil))⟩
      · cases q
    · cases q
/-- a source's answer in the machine -/
def SrOk (K : KW) (ι : List Addr) (H : Hp) : SR → Sd → Prop
  | .lst j, .lst a => ι[j]? = some a
  | .tup xs, .tup a => ∃ vs, SqN K H a vs ∧ RVs K H ι xs vs
  | .str cs, .str x _ => cs = x.cps.toList
  | _, _ => False
theorem chars_rvs : ∀ cs : List Nat, RVs K H ι (cs.map fun c => .str ⟨#[c]⟩) (cs.map fun c => .str ⟨#[c]⟩)
  | [] => .nil
  | c :: cs => .cons (.str _) (chars_rvs cs)
theorem SrOk.has {s : SR} {S : Sd} {xs : List MV} (gh : GH K ι h H) (r : SrOk K ι H s S) (q : srcI h s = some xs) : ∃ vs, S.has K H vs ∧ RVs K H ι xs vs := by
  cases s with
  | lst j =>
    cases S with
    | lst a => exact sq_list gh r q
    | tup _ => exact r.elim
    | str _ _ => exact r.elim
  | tup ys =>
    cases S with
    | tup a =>
      cases q
      obtain ⟨vs, hs, rr⟩ := r
      exact ⟨vs, hs.sq, rr⟩
    | lst _ => exact r.elim
    | str _ _ => exact r.elim
  | str cs =>
    cases S with
    | str x t =>
      cases q
      have e : cs = x.cps.toList := r
      subst e
      exact ⟨_, rfl, chars_rvs _⟩
    | lst _ => exact r.elim
    | tup _ => exact r.elim
theorem SrOk.mono {ι' : List Addr} {H' : Hp} {s : SR} {S : Sd} (e : Ext ι ι') (st : Stp K H H') (r : SrOk K ι H s S) : SrOk K ι' H' s S := by
  cases s <;> cases S <;> first | exact r.elim | skip
  · exact e _ _ r
  · obtain ⟨vs, hs, rr⟩ := r
    exact ⟨vs, st _ _ hs, rr.mono e st⟩
  · exact r
theorem jok_zip {s t : SR} {S T : Sd} (rs : SrOk K ι H s S) (rt : SrOk K ι H t T) : JOk K ι H (.zip s t) (ItG K S T) := by
  intro ι' h H' e st gh i
  refine ⟨fun q => ?_, fun x q => ?_⟩
  · unfold nxt at q
    simp only at q
    split at q
    · rename_i xs ys hx hy
      split at q
      · cases q
      · split at q
        · rename_i he
          obtain ⟨vs, h1, r1⟩ := (rs.mono e st).has gh hx
          obtain ⟨us, h2, r2⟩ := (rt.mono e st).has gh hy
          exact ⟨vs, us, h1, h2, by rw [← r1.length, ← r2.length]; exact he⟩
        · cases q
    · cases q
  · unfold nxt at q
    simp only at q
    split at q
    · rename_i xs ys hx hy
      split at q
      · rename_i y1 y2 e1 e2
        cases q
        obtain ⟨vs, h1, r1⟩ := (rs.mono e st).has gh hx
        obtain ⟨us, h2, r2⟩ := (rt.mono e st).has gh hy
        obtain ⟨u1, hu1, ru1⟩ := r1.get e1
        obtain ⟨u2, hu2, ru2⟩ := r2.get e2
        refine ⟨⟨vs, us, h1, h2, (List.getElem?_eq_some_iff.mp hu1).1, (List.getElem?_eq_some_iff.mp hu2).1⟩, fun v H2 y => ?_⟩
        obtain ⟨p, w1, w2, z1, z2, z3, z4, z5⟩ := y
        have := z4 vs h1
        rw [hu1] at this
        cases this
        have := z5 us h2
        rw [hu2] at this
        cases this
        subst z1 z3
        have st := stp_new (K := K) (o := .tup [u1, u2]) z2
        exact ⟨st, gh_up gh z2, .tup (SqN.of L2.upd_same) (.cons (ru1.mono .refl st) (.cons (ru2.mono .refl st) .nil))⟩
      · split at q <;> cases q
    · cases q
/-! ### what is walked, in the program's own syntax -/
theorem src_ok (gh : GH K ι h H) {x : MV} {v : V} {s : SR} (q : srcOf x h = some s) (r : RV K H ι x v) : ∀ u, RelV v u → ∃ S xs, Sd.val S = u ∧ S.has K H xs ∧ SrOk K ι H s S := by
  intro u ru
  cases r with
  | non => cases q
  | bl _ => cases q
  | int _ => cases q
  | ty _ => cases q
  | str s =>
    cases q
    obtain ⟨t, rfl⟩ := ru
    exact ⟨.str s t, _, rfl, rfl, rfl⟩
  | @tup a xs vs hs r =>
    cases q
    cases ru
    exact ⟨.tup a, vs, rfl, hs.sq, vs, hs, r⟩
  | @ref j a e =>
    unfold srcOf at q
    simp only at q
    split at q
    · rename_i ys hy
      cases q
      cases ru
      obtain ⟨vs, hs, _⟩ := sq_list gh e hy
      exact ⟨.lst a, vs, rfl, hs, e⟩
    · cases q
theorem i_val (ha : SE X K Wm g e m) (hK : KW.mk X.K X.w ad = K) : PI X tg e (tI K Wm (evI g (.val m))) := by
  subst hK
  refine PI.imp (PI.or (L2.pi_list ha.pe) (PI.or (L2.pi_tup ha.pe) (L2.pi_str ha.pe))) fun σ H R z => ?_
  obtain ⟨ι, h, sm, gh, rs, q⟩ := z
  have q : AtR _ Wm σ ι H ((evE g m sm h).bind fun x h => itVal x h) _ := q
  have q2 := q.bind
  cases ev : evE g m sm h with
  | bad => rw [ev] at q2; exact q2.elim
  | exc c k h' => rw [ev] at q2; exact .inl ⟨ι, h, sm, gh, rs, by rw [ev]; exact q2⟩
  | ok x h' =>
    rw [ev] at q2
    have go : ∀ (P : V → Hp → Prop), (∀ i1 H1 v, Ext ι i1 → Stp _ H H1 → GH _ i1 h' H1 → RV _ H1 i1 x v → AtR _ Wm σ i1 H1 (itVal x h') (fun it _ ι' H' => ∀ J, JOk _ ι' H' it J → R J H') → P v H1) → tE ⟨X.K, X.w, ad⟩ Wm (evE g m) σ H P := fun P f =>
      ⟨ι, h, sm, gh, rs, by rw [ev]; exact fun i1 H1 e1 s1 g1 v rv => f i1 H1 v e1 s1 g1 rv (q2 i1 H1 e1 s1 g1)⟩
    cases x with
    | tup xs =>
      refine .inr (.inl (go _ fun i1 H1 v e1 s1 g1 rv at1 => ?_))
      cases rv with
      | @tup a _ vs hs r => exact ⟨a, rfl, ⟨vs, hs.sq⟩, (AtR.ok (x := IT.src (.tup xs)) (h := h') at1 g1) _ (jok_tup hs r)⟩
    | str s =>
      refine .inr (.inr (go _ fun i1 H1 v e1 s1 g1 rv at1 => ?_))
      cases rv
      exact ⟨s, rfl, (AtR.ok (x := IT.src (.str s.cps.toList)) (h := h') at1 g1) _ jok_str⟩
    | _ =>
      refine .inl (go _ fun i1 H1 v e1 s1 g1 rv at1 => ?_)
      unfold itVal srcOf at at1
      simp only at at1
      first
        | exact at1.elim
        | (cases rv with
           | @ref j a ej =>
             split at at1
             · rename_i o ho
               split at ho
               · rename_i ys hy
                 cases ho
                 obtain ⟨vs, hs, _⟩ := sq_list g1 ej hy
                 exact ⟨a, rfl, ⟨vs, hs⟩, (AtR.ok at1 g1) _ (jok_list ej)⟩
               · cases ho
             · exact at1.elim)
theorem one_arg {β : Type} {f : MV → Hm → Res β} {P : β → Hm → List Addr → Hp → Prop} (z : Sta K Wm (fun sm h => (evE g ma sm h).bind fun x h => f x h) σ H P) :
    Sta K Wm (evEs g (.cons ma .nil)) σ H fun xs h1 ι1 H1 => ∃ x, xs = [x] ∧ AtR K Wm σ ι1 H1 (f x h1) P := by
  obtain ⟨ι, h, sm, gh, rs, q⟩ := z
  refine ⟨ι, h, sm, gh, rs, ?_⟩
  show AtR K Wm σ ι H ((evE g ma sm h).bind fun x h => (evEs g .nil sm h).bind fun zs h => .ok (x :: zs) h) _
  have q : AtR K Wm σ ι H ((evE g ma sm h).bind fun x h => f x h) P := q
  revert q
  cases evE g ma sm h with
  | bad => exact fun q => q
  | exc c k h' => exact fun q => q
  | ok x h' => exact fun q i1 H1 e1 s1 g1 => ⟨x, rfl, AtR.mono (r := f x h') q e1 s1 fun _ _ _ _ _ _ _ z => z⟩
theorem i_rng1 {p : Pos} (hg : L2.Gl X "range") (hm : X.mg "range" = none) (hs : noStar [a] = true) (ha : SE X K Wm g a ma) : PI X tg (.Call (.Name "range" p) [a] [] pos) (tI K Wm (evI g (.rng1 ma))) := by
  have q1 := (noStar_cons hs).1
  refine PI.imp (L2.pi_range1 hg hm (pa_of (.cons ha .nil) hs) (star_cons q1)) fun σ H R z => ?_
  refine Sta.imp (one_arg (f := fun x h => match x with
    | .int n => itRng 0 n 1 h
    | _ => .bad) z) fun xs h1 i1 H1 g1 ⟨x, e, at1⟩ vs rvs => ?_
  subst e
  obtain ⟨v, rfl, rv⟩ := rvs1 rvs
  split at at1
  · rename_i n _
    cases rv
    unfold itRng at at1
    split at at1
    · rename_i hc
      rw [if_pos rfl] at at1
      have at1 := AtR.ok (x := IT.rng 0 1 (n - 0).toNat) (h := h1) at1 g1
      exact ⟨n, rfl, hc.2.2.1, hc.2.2.2, by rw [Int.sub_zero] at at1; exact at1 _ jok_rng⟩
    · exact at1.elim
  · exact at1.elim
/-- two parts as an argument list -/
theorem two_args {β : Type} {f : MV → MV → Hm → Res β} {P : β → Hm → List Addr → Hp → Prop} (z : Sta K Wm (fun sm h => (evE g ma sm h).bind fun x h => (evE g mb sm h).bind fun y h => f x y h) σ H P) :
    Sta K Wm (evEs g (.cons ma (.cons mb .nil))) σ H fun xs h1 ι1 H1 => ∃ x y, xs = [x, y] ∧ AtR K Wm σ ι1 H1 (f x y h1) P := by
  obtain ⟨ι, h, sm, gh, rs, q⟩ := z
  refine ⟨ι, h, sm, gh, rs, ?_⟩
  show AtR K Wm σ ι H ((evE g ma sm h).bind fun x h => ((evE g mb sm h).bind fun y h => (evEs g .nil sm h).bind fun zs h => .ok (y :: zs) h).bind fun xs h => .ok (x :: xs) h) _
  have q : AtR K Wm σ ι H ((evE g ma sm h).bind fun x h => (evE g mb sm h).bind fun y h => f x y h) P := q
  revert q
  cases evE g ma sm h with
  | bad => exact fun q => q
  | exc c k h' => exact fun q => q
  | ok x h' =>
    show AtR K Wm σ ι H ((evE g mb sm h').bind fun y h => f x y h) P → AtR K Wm σ ι H (((evE g mb sm h').bind fun y h => (evEs g .nil sm h).bind fun zs h => .ok (y :: zs) h).bind fun xs h => .ok (x :: xs) h) _
    cases evE g mb sm h' with
    | bad => exact fun q => q
    | exc c k h' => exact fun q => q
    | ok y h2 => exact fun q i1 H1 e1 s1 g1 => ⟨x, y, rfl, AtR.mono (r := f x y h2) q e1 s1 fun _ _ _ _ _ _ _ z => z⟩
theorem i_rng2 {p : Pos} (hg : L2.Gl X "range") (hm : X.mg "range" = none) (hs : noStar [a, b] = true) (ha : SE X K Wm g a ma) (hb : SE X K Wm g b mb) : PI X tg (.Call (.Name "range" p) [a, b] [] pos) (tI K Wm (evI g (.rng2 ma mb))) := by
  obtain ⟨q1, q2⟩ := noStar_cons hs
  obtain ⟨q3, _⟩ := noStar_cons q2
  refine PI.imp (L2.pi_range2 hg hm (pa_of (.cons ha (.cons hb .nil)) hs) (by rw [star_cons q1, star_cons q3]; rfl) (star_cons q3)) fun σ H R z => ?_
  refine Sta.imp (two_args (f := fun x y h => match x, y with
    | .int m, .int n => itRng m n 1 h
    | _, _ => .bad) z) fun xs h1 i1 H1 g1 ⟨x, y, e, at1⟩ vs rvs => ?_
  subst e
  obtain ⟨u, v, rfl, ru, rv⟩ := rvs2 rvs
  split at at1
  · rename_i m n _
    cases ru
    cases rv
    unfold itRng at at1
    split at at1
    · rename_i hc
      rw [if_pos rfl] at at1
      exact ⟨m, n, rfl, hc, (AtR.ok at1 g1) _ jok_rng⟩
    · exact at1.elim
  · exact at1.elim
theorem three_args {β : Type} {f : MV → MV → MV → Hm → Res β} {P : β → Hm → List Addr → Hp → Prop} (z : Sta K Wm (fun sm h => (evE g ma sm h).bind fun x h => (evE g mb sm h).bind fun y h => (evE g mc sm h).bind fun z h => f x y z h) σ H P) :
    Sta K Wm (evEs g (.cons ma (.cons mb (.cons mc .nil)))) σ H fun xs h1 ι1 H1 => ∃ x y z, xs = [x, y, z] ∧ AtR K Wm σ ι1 H1 (f x y z h1) P := by
  obtain ⟨ι, h, sm, gh, rs, q⟩ := z
  refine ⟨ι, h, sm, gh, rs, ?_⟩
  show AtR K Wm σ ι H ((evE g ma sm h).bind fun x h => ((evE g mb sm h).bind fun y h => ((evE g mc sm h).bind fun z h => (evEs g .nil sm h).bind fun zs h => .ok (z :: zs) h).bind fun zs h => .ok (y :: zs) h).bind fun xs h => .ok (x :: xs) h) _
  have q : AtR K Wm σ ι H ((evE g ma sm h).bind fun x h => (evE g mb sm h).bind fun y h => (evE g mc sm h).bind fun z h => f x y z h) P := q
  revert q
  cases evE g ma sm h with
  | bad => exact fun q => q
  | exc c k h' => exact fun q => q
  | ok x h' =>
    show AtR K Wm σ ι H ((evE g mb sm h').bind fun y h => (evE g mc sm h).bind fun z h => f x y z h) P → AtR K Wm σ ι H (((evE g mb sm h').bind fun y h => ((evE g mc sm h).bind fun z h => (evEs g .nil sm h).bind fun zs h => .ok (z :: zs) h).bind fun zs h => .ok (y :: zs) h).bind fun xs h => .ok (x :: xs) h) _
    cases evE g mb sm h' with
    | bad => exact fun q => q
    | exc c k h' => exact fun q => q
    | ok y h2 =>
      show AtR K Wm σ ι H ((evE g mc sm h2).bind fun z h => f x y z h) P → AtR K Wm σ ι H ((((evE g mc sm h2).bind fun z h => (evEs g .nil sm h).bind fun zs h => .ok (z :: zs) h).bind fun zs h => .ok (y :: zs) h).bind fun xs h => .ok (x :: xs) h) _
      cases evE g mc sm h2 with
      | bad => exact fun q => q
      | exc c k h' => exact fun q => q
      | ok z h3 => exact fun q i1 H1 e1 s1 g1 => ⟨x, y, z, rfl, AtR.mono (r := f x y z h3) q e1 s1 fun _ _ _ _ _ _ _ z => z⟩
theorem rvs3 {x y z : MV} {vs : List V} (r : RVs K H ι [x, y, z] vs) : ∃ v u w, vs = [v, u, w] ∧ RV K H ι x v ∧ RV K H ι y u ∧ RV K H ι z w := by
  cases r with
  | cons h r =>
    obtain ⟨u, w, rfl, h1, h2⟩ := rvs2 r
    exact ⟨_, _, _, rfl, h, h1, h2⟩
theorem i_rng3 {p : Pos} (hg : L2.Gl X "range") (hm : X.mg "range" = none) (hs : noStar [a, b, c] = true) (ha : SE X K Wm g a ma) (hb : SE X K Wm g b mb) (hc : SE X K Wm g c mc) : PI X tg (.Call (.Name "range" p) [a, b, c] [] pos) (tI K Wm (evI g (.rng3 ma mb mc))) := by
  obtain ⟨q1, q2⟩ := noStar_cons hs
  refine PI.imp (L2.pi_range3 hg hm (pa_of (.cons ha (.cons hb (.cons hc .nil))) hs) (star_cons q1) (star_plain q2)) fun σ H R z => ?_
  refine Sta.imp (three_args (f := fun x y z h => match x, y, z with
    | .int m, .int n, .int k => if k = -1 then itRng m n k h else .bad
    | _, _, _ => .bad) z) fun xs h1 i1 H1 g1 ⟨x, y, z, e, at1⟩ vs rvs => ?_
  subst e
  obtain ⟨u, v, w, rfl, ru, rv, rw'⟩ := rvs3 rvs
  split at at1
  · rename_i m n k _
    cases ru
    cases rv
    cases rw'
    split at at1
    · rename_i ek
      subst ek
      unfold itRng at at1
      split at at1
      · rename_i hc
        rw [if_neg (by decide), if_pos rfl] at at1
        exact ⟨m, n, -1, _, rfl, L2.RgC.neg hc.1 hc.2.1 hc.2.2.1 hc.2.2.2, (AtR.ok at1 g1) _ jok_rngC⟩
      · exact at1.elim
    · exact at1.elim
  · exact at1.elim
theorem i_zip {p tp : Pos} {elts : List Expr} {kk : Nat} (hg : L2.Gl X "zip") (hm : X.mg "zip" = none) (hs : noStar [a, b] = true) (hK : KW.mk X.K X.w ad = K) (ha : SE X K Wm g a ma) (hb : SE X K Wm g b mb) : PI X (.Tuple elts kk tp) (.Call (.Name "zip" p) [a, b] [] pos) (tI K Wm (evI g (.zip ma mb))) := by
  subst hK
  obtain ⟨q1, q2⟩ := noStar_cons hs
  refine PI.imp (pi_zipG hg hm (pa_of (.cons ha (.cons hb .nil)) hs) (star_cons q1) (star_plain q2)) fun σ H R z => ?_
  refine Sta.imp (two_args (f := fun x y h => itZip x y h) z) fun xs h1 i1 H1 g1 ⟨x, y, e, at1⟩ vs rvs => ?_
  subst e
  obtain ⟨u, v, rfl, ru, rv⟩ := rvs2 rvs
  refine ⟨u, v, rfl, fun a' b' ra rb => ?_⟩
  unfold itZip at at1
  split at at1
  · rename_i s t h1 h2
    obtain ⟨S, xs, e1, e2, e3⟩ := src_ok g1 h1 ru a' ra
    obtain ⟨T, ys, f1, f2, f3⟩ := src_ok g1 h2 rv b' rb
    exact ⟨S, T, xs, ys, e1, f1, e2, f2, (AtR.ok at1 g1) _ (jok_zip e3 f3)⟩
  · exact at1.elim
theorem i_enum {p tp : Pos} {elts : List Expr} {kk : Nat} (hg : L2.Gl X "enumerate") (hm : X.mg "enumerate" = none) (hs : noStar [a] = true) (hK : KW.mk X.K X.w ad = K) (ha : SE X K Wm g a ma) : PI X (.Tuple elts kk tp) (.Call (.Name "enumerate" p) [a] [] pos) (tI K Wm (evI g (.enum ma))) := by
  subst hK
  have q1 := (noStar_cons hs).1
  refine PI.imp (L2.pi_enum hg hm (pa_of (.cons ha .nil) hs) (star_cons q1)) fun σ H R z => ?_
  refine Sta.imp (one_arg (f := fun x h => itEnum x h) z) fun xs h1 i1 H1 g1 ⟨x, e, at1⟩ vs rvs => ?_
  subst e
  obtain ⟨v, rfl, rv⟩ := rvs1 rvs
  unfold itEnum at at1
  split at at1
  · rename_i j
    split at at1
    · rename_i ys hy
      cases rv with
      | @ref _ a2 ej =>
        obtain ⟨us, hs', _⟩ := sq_list g1 ej hy
        exact ⟨a2, us, rfl, hs', (AtR.ok at1 g1) _ (jok_enum ej)⟩
    · exact at1.elim
  · exact at1.elim
theorem i_rev {p : Pos} (hg : L2.Gl X "reversed") (hm : X.mg "reversed" = none) (hs : noStar [a] = true) (hK : KW.mk X.K X.w ad = K) (ha : SE X K Wm g a ma) : PI X tg (.Call (.Name "reversed" p) [a] [] pos) (tI K Wm (evI g (.rev ma))) := by
  subst hK
  have q1 := (noStar_cons hs).1
  refine PI.imp (L2.pi_reversed hg hm (pa_of (.cons ha .nil) hs) (star_cons q1)) fun σ H R z => ?_
  refine Sta.imp (one_arg (f := fun x h => itRev x h) z) fun xs h1 i1 H1 g1 ⟨x, e, at1⟩ vs rvs => ?_
  subst e
  obtain ⟨v, rfl, rv⟩ := rvs1 rvs
  unfold itRev at at1
  split at at1
  · rename_i j
    split at at1
    · rename_i ys hy
      cases rv with
      | @ref _ a2 ej =>
        obtain ⟨us, hs', r⟩ := sq_list g1 ej hy
        refine ⟨a2, us, rfl, hs', ?_⟩
        have z := (AtR.ok at1 g1) _ (jok_rev ej)
        rw [r.length] at z
        exact z
    · exact at1.elim
  · exact at1.elim
end
end R

namespace R
open PySem PySem.Spec PyProof.Rows
open L2 (V Hp HO SqL SqT TE TS TT TA VK Cx PE PT PA PS PSs upd Rd RelV Dp DpAll Inv It TI PI PIE FpOk Turn thn TG TGs PG PGs)
section
variable {X : Cx} {ad : Str → Option Addr} {K : KW} {Wm : Wish} {g : Genv} {pos : Pos} {e a b c tg : Expr} {m ma mb mc : ME} {σ : L2.St} {ι : List Addr} {H : Hp} {h : Hm}

/-! ### targets -/
def gNs : List Nat → TGs
  | [] => L2.gNil
  | i :: is => L2.gCons (L2.gName i) (gNs is)
def gM (K : PySem.W.Frag) : MT → TG
  | .nm i => L2.gName i
  | .tp is => L2.gTup K is.length (gNs is)
def MT.ids : MT → List Nat
  | .nm i => [i]
  | .tp is => is
theorem gNs_ok : ∀ {is : List Nat} {xs : List MV} {vs : List V} {sm sm' : Sm} {σ : L2.St} {Q : L2.St → Hp → Prop}, bindN is xs sm = some sm' → RVs K H ι xs vs → RSm K H ι sm σ →
    (∀ σ', RSm K H ι sm' σ' → σ'.length = σ.length → (∀ i, i ∉ is → σ'[i]? = σ[i]?) → Q σ' H) → gNs is vs σ H Q ∧ vs.length = is.length
  | [], [], _, sm, sm', σ, Q, q, .nil, rs, f => by
    cases q
    exact ⟨⟨rfl, f σ rs rfl fun _ _ => rfl⟩, rfl⟩
  | i :: is, x :: xs, _, sm, sm', σ, Q, q, .cons (v := v) (vs := vs) r rr, rs, f => by
    have q : bindN is xs (sm.set i (some x)) = some sm' := q
    have z := gNs_ok (Q := Q) q rr (rs.set i r) fun σ' h1 h2 h3 => f σ' h1 (by rw [h2, List.length_set]) fun j hj => by
      rw [List.mem_cons, not_or] at hj
      rw [h3 j hj.2, List.getElem?_set_ne (Ne.symm hj.1)]
    exact ⟨⟨v, vs, rfl, z.1⟩, by rw [List.length_cons, List.length_cons, z.2]⟩
  | [], _ :: _, _, _, _, _, _, q, _, _, _ => by cases q
  | _ :: _, [], _, _, _, _, _, q, _, _, _ => by cases q
theorem gM_ok {t : MT} {x : MV} {v : V} {sm sm' : Sm} {Q : L2.St → Hp → Prop} (q : bindT t x sm = some sm') (r : RV K H ι x v) (rs : RSm K H ι sm σ)
    (f : ∀ σ', RSm K H ι sm' σ' → σ'.length = σ.length → (∀ i, i ∉ t.ids → σ'[i]? = σ[i]?) → Q σ' H) : gM K.f t v σ H Q := by
  cases t with
  | nm i =>
    cases q
    exact f _ (rs.set i r) (by rw [List.length_set]) fun j hj => List.getElem?_set_ne (fun z => hj (by rw [z]; exact .head _))
  | tp is =>
    unfold bindT at q
    simp only at q
    cases r with
    | @tup p xs vs hs rr =>
      obtain ⟨z1, z2⟩ := gNs_ok (Q := Q) q rr rs f
      exact ⟨p, vs, rfl, hs.sq, z2, z1⟩
    | _ => cases q
/-- names that can be stored to -/
structure NmOk (X : Cx) (c : TC) : Prop where
  N : X.N = c.N
  nd : X.N.Nodup
  sc : X.env.scope = c.sc
  fn : ∀ x, c.fn x = true → X.fn x = true
theorem ixOf_at : ∀ {N : List Str} {x : Str} {i : Nat}, ixOf N x = some i → N[i]? = some x
  | [], _, _, q => by cases q
  | y :: r, x, i, q => by
    unfold ixOf at q
    split at q
    · rename_i e
      cases q
      rw [e]
      rfl
    · rw [Option.map_eq_some_iff] at q
      obtain ⟨j, h1, h2⟩ := q
      subst h2
      rw [List.getElem?_cons_succ]
      exact ixOf_at h1
theorem isLocal_loc {sc : Scope} {x : Str} (q : isLocal sc x = true) : L2.Loc sc x := by
  unfold isLocal at q
  split at q
  · exact .inl (by assumption)
  · exact .inr (by assumption)
  · cases q
theorem isVis_vis {sc : Scope} {x : Str} (q : isVis sc x = true) : L2.Vis sc x := by
  unfold isVis at q
  split at q
  · exact .inl (by assumption)
  · exact .inr (.inl (by assumption))
  · exact .inr (.inr (by assumption))
  · cases q
theorem name_pg {c : TC} (ok : NmOk X c) {x : Str} {p : Pos} {i : Nat} (q : nameIx c (.Name x p) = some i) : PG X (.Name x p) (L2.gName i) := by
  unfold nameIx at q
  simp only at q
  split at q
  · rename_i hl
    have hN : X.N[i]? = some x := by rw [ok.N]; exact ixOf_at q
    unfold isStore at hl
    split at hl
    · rename_i h
      exact L2.pg_name ok.nd hN (.inl (by rw [ok.sc]; exact h)) (.inr (by rw [ok.sc]; exact h))
    · rename_i h
      exact L2.pg_name ok.nd hN (.inr (by rw [ok.sc]; exact h)) (.inl (ok.fn _ hl))
    · cases hl
  · cases q
theorem nameIx_name {c : TC} {e : Expr} {i : Nat} (q : nameIx c e = some i) : ∃ x p, e = .Name x p := by
  unfold nameIx at q
  split at q
  · exact ⟨_, _, rfl⟩
  · cases q
theorem names_pgs {c : TC} (ok : NmOk X c) : ∀ {es : List Expr} {is : List Nat}, allNames c es = some is → PGs X es (gNs is) ∧ (assignEach es X.env).length = is.length ∧ (assignEach es X.env).findIdx? (·.1) = none
  | [], is, q => by cases q; exact ⟨L2.pgs_nil, rfl, rfl⟩
  | e :: es, is, q => by
    unfold allNames at q
    split at q
    · rename_i i js h1 h2
      cases q
      obtain ⟨x, p, rfl⟩ := nameIx_name h1
      obtain ⟨z1, z2, z3⟩ := names_pgs ok h2
      refine ⟨L2.pgs_cons (name_pg ok h1) z1 rfl, ?_, ?_⟩
      · show (assignEach es X.env).length + 1 = js.length + 1
        rw [z2]
      · show ((false, assign (.Name x p) X.env) :: assignEach es X.env).findIdx? (·.1) = none
        rw [List.findIdx?_cons, z3]
        rfl
    · cases q
theorem tg_pg {c : TC} (hc : X.calm = true) (ok : NmOk X c) {t : MT} (q : trT c tg = some t) : PG X tg (gM X.K t) := by
  unfold trT at q
  split at q
  · rw [Option.map_eq_some_iff] at q
    obtain ⟨is, h1, h2⟩ := q
    subst h2
    obtain ⟨z1, z2, z3⟩ := names_pgs ok h1
    exact L2.pg_tup hc z1 z2 z3
  · rw [Option.map_eq_some_iff] at q
    obtain ⟨i, h1, h2⟩ := q
    subst h2
    obtain ⟨x, p, rfl⟩ := nameIx_name h1
    exact name_pg ok h1

/-! ### list comprehensions -/
theorem wipe_in {σ : L2.St} {i : Nat} (hl : i < σ.length) : ∀ {vs : List Nat}, i ∈ vs → (L2.wipe σ vs)[i]? = some none
  | v :: vs, h => by
    show ((L2.wipe σ vs).set v none)[i]? = some none
    by_cases e : v = i
    · subst e
      rw [List.getElem?_set_self (by rw [L2.wipe_length]; exact hl)]
    · rw [List.getElem?_set_ne e]
      exact wipe_in hl ((List.mem_cons.mp h).resolve_left (Ne.symm e))
theorem wipe_eq {σ σ' : L2.St} {vs : List Nat} (hl : σ'.length = σ.length) (h : ∀ i, i ∉ vs → σ'[i]? = σ[i]?) : L2.wipe σ' vs = L2.wipe σ vs := by
  apply List.ext_getElem?
  intro i
  by_cases hi : i ∈ vs
  · by_cases hl' : i < σ.length
    · rw [wipe_in hl' hi, wipe_in (by rw [hl]; exact hl') hi]
    · rw [List.getElem?_eq_none (by rw [L2.wipe_length, hl]; omega), List.getElem?_eq_none (by rw [L2.wipe_length]; omega)]
  · rw [L2.wipe_out hi, L2.wipe_out hi, h i hi]
theorem wipe_wipe {σ : L2.St} {vs : List Nat} : L2.wipe (L2.wipe σ vs) vs = L2.wipe σ vs := wipe_eq (L2.wipe_length _ _) fun i hi => L2.wipe_out hi
theorem wipeM_length (sm : Sm) : ∀ vs : List Nat, (wipeM sm vs).length = sm.length
  | [] => rfl
  | v :: vs => by unfold wipeM; rw [List.length_set, wipeM_length sm vs]
theorem wipeM_some {sm : Sm} {i : Nat} {x : MV} : ∀ {vs : List Nat}, (wipeM sm vs)[i]? = some (some x) → sm[i]? = some (some x) ∧ i ∉ vs
  | [], h => ⟨h, by simp⟩
  | v :: vs, h => by
    unfold wipeM at h
    by_cases hi : v = i
    · subst hi
      by_cases hv : v < (wipeM sm vs).length
      · rw [List.getElem?_set_self hv] at h; cases h
      · rw [List.getElem?_eq_none (by simpa using hv)] at h; cases h
    · rw [List.getElem?_set_ne hi] at h
      obtain ⟨h1, h2⟩ := wipeM_some h
      exact ⟨h1, by simp only [List.mem_cons, not_or]; exact ⟨fun e => hi e.symm, h2⟩⟩
theorem RSm.wipe {sm : Sm} (r : RSm K H ι sm σ) (vs : List Nat) : RSm K H ι (wipeM sm vs) (L2.wipe σ vs) := ⟨by rw [wipeM_length, L2.wipe_length]; exact r.1, fun i x e => by
  obtain ⟨h1, h2⟩ := wipeM_some e
  obtain ⟨v, h3, h4⟩ := r.2 i x h1
  exact ⟨v, by rw [L2.wipe_out h2]; exact h3, h4⟩⟩
theorem s_tests {ifs : List Expr} {ms : MEs} (s : SEs X K Wm g ifs ms) (hl : ifs.length ≤ 1) : L2.PTs X ifs (tT K Wm (evTs g ms)) := by
  cases s with
  | nil => exact ⟨fun pins s σ H Q I q => L2.pts_nil.run pins s σ H Q I (by
      obtain ⟨i1, h1, sm1, g1, rs1, at1⟩ := q
      exact (AtR.ok (x := true) (h := h1) at1 g1))⟩
  | @cons e m es ms h1 h2 =>
    cases h2 with
    | nil => exact L2.pts_one h1.pt
    | cons _ _ => simp at hl
/-- the turns of a list comprehension -/
theorem lc_imp {melt : ME} {mt : MT} {mi : MI} {mifs : MEs} {vs : List Nat} {Q : VK} (hin : tgIn mt vs = true) (z : tE K Wm (evE g (.lc melt mt mi mifs vs)) σ H Q) :
    L2.tLc (tI K Wm (evI g mi)) (gM K.f mt) (tT K Wm (evTs g mifs)) (tE K Wm (evE g melt)) vs σ H Q := by
  have hids : ∀ i, i ∉ vs → i ∉ mt.ids := by
    intro i hi hm
    cases mt with
    | nm j =>
      cases List.mem_singleton.mp hm
      exact hi (by simpa [tgIn] using hin)
    | tp is =>
      have := List.all_eq_true.mp (show (is.all fun i => vs.contains i) = true from hin) i hm
      exact hi (by simpa using this)
  refine Sta.imp (Sta.parts (ea := evI g mi) (f := fun sm it h => lcGo it (fun x h => match bindT mt x (wipeM sm vs) with
      | none => .bad
      | some sm => match evTs g mifs sm h with
        | .ok true h => match evE g melt sm h with
          | .ok y h => .ok (some y) h
          | _ => .bad
        | .ok false h => .ok none h
        | _ => .bad) h.length (turns h it + 1) 0 (h ++ [MO.list []])) z) fun it h1 i1 H1 g1 ⟨sm, rs, _, at1⟩ J jok D hD => ?_
  generalize hstep : (fun (x : MV) (h : Hm) => (match bindT mt x (wipeM sm vs) with
      | none => .bad
      | some sm => match evTs g mifs sm h with
        | .ok true h => match evE g melt sm h with
          | .ok y h => .ok (some y) h
          | _ => .bad
        | .ok false h => .ok none h
        | _ => .bad : Res (Option MV))) = step at at1
  -- the list as it stands at each turn
  refine ⟨fun i m H => ∃ ι h, GH K ι h H ∧ RSm K H ι sm σ ∧ Ext i1 ι ∧ Stp K H1 H ∧ ι[h1.length]? = some D ∧ AtR K Wm σ ι H (lcGo it step h1.length m i h) (PQ K Q), ⟨turns h1 it + 1, ?_⟩, fun i m H2 w => ?_⟩
  · have st := stp_new (K := K) (o := .lst []) hD
    refine ⟨i1 ++ [D], h1 ++ [.list []], g1.new hD (.list L2.upd_same .nil), rs.mono Ext.push st, Ext.push, st, by rw [← g1.len]; simp, ?_⟩
    exact at1.mono Ext.push st fun _ _ _ _ _ _ _ z => z
  · obtain ⟨ι2, h2, g2, rs2, ex2, st2, hd2, at2⟩ := w
    cases m with
    | zero => exact at2.elim
    | succ f =>
      unfold lcGo at at2
      have j2 := jok ι2 h2 H2 ex2 st2 g2 i
      cases hn : nxt h2 it i with
      | none => rw [hn] at at2; exact at2.elim
      | some o =>
        rw [hn] at at2
        cases o with
        | none => exact .inl ⟨j2.1 hn, (AtR.ok (x := MV.ref h1.length) (h := h2) at2 g2) _ (.ref hd2)⟩
        | some x =>
          obtain ⟨hgo, hy⟩ := j2.2 x hn
          refine .inr ⟨hgo, fun H' => ∃ ι h, GH K ι h H' ∧ RSm K H' ι sm σ ∧ Ext i1 ι ∧ Stp K H1 H' ∧ ι[h1.length]? = some D ∧ AtR K Wm σ ι H' (lcGo it step h1.length f (i + 1) h) (PQ K Q), fun H' n => ⟨f, Nat.lt_succ_self f, n⟩, fun v H3 y => ?_⟩
          obtain ⟨st3, g3, rv⟩ := hy v H3 y
          have rs3 := rs2.mono .refl st3
          have at2 : AtR K Wm σ ι2 H2 (match step x h2 with
            | .ok none h' => lcGo it step h1.length f (i + 1) h'
            | .ok (some y) h' => match mList h' h1.length with
              | some acc => if acc.length < sizeLine then lcGo it step h1.length f (i + 1) (h'.set h1.length (.list (acc ++ [y]))) else .bad
              | none => .bad
            | _ => .bad) (PQ K Q) := at2
          rw [← congrFun (congrFun hstep x) h2] at at2
          cases hb : bindT mt x (wipeM sm vs) with
          | none => rw [hb] at at2; exact at2.elim
          | some sm2 =>
            rw [hb] at at2
            simp only at at2
            refine gM_ok hb rv (rs3.wipe vs) fun σ2 rs4 hl4 hout => ⟨?_, ?_⟩
            · rw [wipe_eq (σ := L2.wipe σ vs) hl4 fun j hj => hout j (hids j hj), wipe_wipe]
            · cases ht : evTs g mifs sm2 h2 with
              | bad => rw [ht] at at2; exact at2.elim
              | exc _ _ _ => rw [ht] at at2; exact at2.elim
              | ok k h4 =>
                rw [ht] at at2
                refine ⟨ι2, h2, sm2, g3, rs4, ?_⟩
                rw [ht]
                intro ι4 H4 e4 s4 g4
                cases k with
                | false =>
                  rw [if_neg (by decide)]
                  exact ⟨ι4, h4, g4, (rs3.mono e4 s4), ex2.trans e4, (st2.trans st3).trans s4, e4 _ _ hd2, at2.mono e4 (st3.trans s4) fun _ _ _ _ _ _ _ z => z⟩
                | true =>
                  rw [if_pos rfl]
                  simp only at at2
                  cases hv : evE g melt sm2 h4 with
                  | bad => rw [hv] at at2; exact at2.elim
                  | exc _ _ _ => rw [hv] at at2; exact at2.elim
                  | ok y h5 =>
                    rw [hv] at at2
                    simp only at at2
                    refine ⟨ι4, h4, sm2, g4, rs4.mono e4 s4, ?_⟩
                    rw [hv]
                    intro ι5 H5 e5 s5 g5 u ru
                    cases hm : mList h5 h1.length with
                    | none => rw [hm] at at2; exact at2.elim
                    | some acc =>
                      rw [hm] at at2
                      simp only at at2
                      split at at2
                      · rename_i hlt
                        have hd5 := e5 _ _ (e4 _ _ hd2)
                        obtain ⟨ws, hw, rws⟩ := list_at g5 hd5 hm
                        refine ⟨ws, hw, by rw [← rws.length]; exact hlt, ?_⟩
                        have st6 : Stp K H5 (upd H5 D (.lst (ws ++ [u]))) := stp_upd hw trivial
                        refine ⟨ι5, _, g5.upd hd5 hw trivial (fun ⟨_, z⟩ => by rw [mList_at hm] at z; cases z) (.list L2.upd_same ((rws.append (.one ru)).mono .refl st6)) rfl, ((rs3.mono e4 s4).mono e5 s5).mono .refl st6, (ex2.trans e4).trans e5, (((st2.trans st3).trans s4).trans s5).trans st6, hd5, ?_⟩
                        exact at2.mono (e4.trans e5) (((st3.trans s4).trans s5).trans st6) fun _ _ _ _ _ _ _ z => z
                      · exact at2.elim
theorem s_lc {elt iter : Expr} {ifs : List Expr} {scope : Scope} {own : List (Str × Nat)} {melt : ME} {mt : MT} {mi : MI} {mifs : MEs} {ctc : TC} (hc : X.calm = true) (hN : X.N.Nodup) (hK : KW.mk X.K X.w ad = K)
    (hi : PI X tg iter (tI K Wm (evI g mi))) (ok : L2.BlkOk X.N X.env.scope scope own) (hs : ∀ x, foldedSetIterable iter X.env x = pure x) (hl : ifs.length ≤ 1) (hin : tgIn mt (own.map (·.2)) = true)
    (hg : ∀ (s : Shared) (H : Hp) (C : Addr) (cl : List (Str × Addr)) (fp : List Addr), PG (X.blk s H scope (compEnvC scope cl C X.env) fp) tg (gM K.f mt))
    (ht : ∀ (s : Shared) (H : Hp) (C : Addr) (cl : List (Str × Addr)) (fp : List Addr), SEs (X.blk s H scope (compEnvC scope cl C X.env) fp) K Wm g ifs mifs)
    (he : ∀ (s : Shared) (H : Hp) (C : Addr) (cl : List (Str × Addr)) (fp : List Addr), SE (X.blk s H scope (compEnvC scope cl C X.env) fp) K Wm g elt melt) :
    SE X K Wm g (.ListComp elt [⟨tg, iter, ifs, 0⟩] scope pos) (.lc melt mt mi mifs (own.map (·.2))) :=
  pt_of hK (PE.imp (L2.pe_lc hc hN hi ok hg (fun s H C cl fp => s_tests (ht s H C cl fp) hl) (fun s H C cl fp => (he s H C cl fp).pe) hs) fun σ H Q z => lc_imp hin z) fun _ => rfl
end
end R

/-! R: fields, the making of instances. -/
namespace R
open PySem PySem.Spec
open L2 (V Hp HO SqL SqT TE TS TT TA VK Cx PE PT PA PS PSs upd Rd RelV Dp DpAll)
section
variable {X : Cx} {ad : Str → Option Addr} {K : KW} {Wm : Wish} {g : Genv} {pos : Pos} {e a b c : Expr} {m ma mb mc : ME} {σ : L2.St} {ι : List Addr} {H : Hp} {h : Hm}
theorem s_fld {f : Str} (hK : KW.mk X.K X.w ad = K) (hb : plainBase a = true) (ha : SE X K Wm g a ma) : SE X K Wm g (.Attribute a f pos) (.fld ma f) :=
  pt_of hK (PE.imp (L2.pe_fld ha.pe (plain_base hb)) fun σ H Q q => Sta.imp (Sta.one (f := fun x h => fldR x f h) q) fun x h1 i1 H1 g1 z v rv => by
    obtain ⟨i2, x2, h2, sm2, g2, rs2, rv2, at2⟩ := z v rv
    subst hK
    unfold fldR at at2
    cases rv2 <;> first | exact at2.elim | skip
    rename_i j a2 ej
    simp only at at2
    split at at2
    · rename_i ci fs hx
      split at at2
      · rename_i hf
        split at at2
        · rename_i y hy
          cases g2.obj j _ a2 hx ej with
          | ins h1 c r =>
            obtain ⟨u, e1, e2⟩ := r.look hy
            exact ⟨a2, _, _, _, u, rfl, h1, c.cls, c.no f hf, e1, at2.ok g2 _ e2⟩
        · exact at2.elim
      · exact at2.elim
    · exact at2.elim) fun _ => rfl
/-- a class stands, and its call makes an instance -/
structure MakeIs (X : Cx) (K : KW) (call : List MV → Hm → Res MV) (x : Str) (ki : KI) : Prop where
  ex : ∃ (k : Nat) (F : List MV → Hm → Res MV) (fa C : Addr) (fd : FuncData), (∀ xs h, xs.length ≠ ki.d.ps.length → F xs h = .bad) ∧ (∀ xs h, call xs h = mkR ki.ki.ci F xs h) ∧
    L2.FnOk X.prog X.w X.K X.mg X.base L2.CX0 k fa fd ki.d.ps (spG K F ki.d.ps.length) ∧ L2.Room (k + 1) X.A ∧ X.mg x = some (.ref C) ∧ L2.Mk X.K C fa ∧ ClsFact K ki.ki.ci C ∧
    ∀ j, j ≤ ki.d.ds.length → ∃ (ds : List Value) (dvs : List V), L2.Binds X.K fd ki.d.ps ds ∧ L2.Vals dvs ds ∧ ∀ H ι, RVs K H ι (ki.d.ds.drop j) dvs
theorem AtR.calm2 {P P' : MV → Hm → List Addr → Hp → Prop} {σ' : L2.St} (hW : ∀ c k h i s H, ¬ Wm c k h i s H) {r : Res MV} (a : AtR K Wm σ ι H r P) (gh : GH K ι h H) (f : ∀ x h' i H', Ext ι i → Stp K H H' → GH K i h' H' → P x h' i H' → P' x h' i H') : AtR K (fun _ _ _ _ _ _ => False) σ' ι H r P' := by
  cases r with
  | ok x h' => exact fun i2 H2 e s g2 => f _ _ _ _ e s g2 (a i2 H2 e s g2)
  | exc c k h' => exact fun i2 H2 e s g2 => hW _ _ _ _ _ _ (a i2 H2 e s g2)
  | bad => exact a
theorem PQ_make {F : List MV → Hm → Res MV} {xs : List MV} {Q : VK} {ci : CI} (hW : ∀ c k h i s H, ¬ Wm c k h i s H) (a : AtR K Wm σ ι H (mkR ci F xs h) (PQ K Q)) :
    ∀ (p dx C : Addr) (vs : List V), GH K ι h H → RVs K H ι xs vs → ClsFact K ci C → H p = none → H dx = none → dx ≠ p → ∃ ι' h', GH K ι' h' (upd (upd H dx (.own p)) p (.ins C dx [])) ∧ ι' = ι ++ [p] ∧ h' = h ++ [.ins ci []] ∧
      AtR K (fun _ _ _ _ _ _ => False) [] ι' (upd (upd H dx (.own p)) p (.ins C dx [])) (F (.ref h.length :: xs) h') (PQ K fun v H2 => v = .non ∧ Q (.ref p) H2) ∧ RVs K (upd (upd H dx (.own p)) p (.ins C dx [])) ι' (.ref h.length :: xs) (.ref p :: vs) := by
  intro p dx C vs gh rv cf hp hdx ne
  have g1 : GH K ι h (upd H dx (.own p)) := gh_up gh hdx
  have hp1 : upd H dx (.own p) p = none := by rw [L2.upd_ne (Ne.symm ne)]; exact hp
  have g2 : GH K (ι ++ [p]) (h ++ [.ins ci []]) (upd (upd H dx (.own p)) p (.ins C dx [])) := g1.new hp1 (.ins L2.upd_same cf .nil)
  have st : Stp K H (upd (upd H dx (.own p)) p (.ins C dx [])) := (stp_new hdx).trans (stp_new hp1)
  have ex : Ext ι (ι ++ [p]) := Ext.push
  have self : (ι ++ [p])[h.length]? = some p := by rw [← gh.len]; simp
  refine ⟨_, _, g2, rfl, rfl, ?_, .cons (.ref self) (rv.mono ex st)⟩
  unfold mkR at a
  have a2 := AtR.mono (AtR.bind a) ex st fun x h1 i1 H1 e1 s1 g1 q => q
  refine a2.calm2 hW g2 fun x h1 i1 H1 e1 s1 g1 q => ?_
  split at q
  · rename_i hn
    intro v rx
    have self1 : i1[h.length]? = some p := e1 _ _ self
    refine ⟨?_, AtR.ok (x := MV.ref h.length) (h := h1) q g1 _ (.ref self1)⟩
    cases rx <;> first | rfl | cases hn
  · exact q.elim
/-- C(..) -/
theorem s_make {x : Str} {p : Pos} {ki : KI} {es : List Expr} {ms : MEs} {j : Nat} (hK : KW.mk X.K X.w ad = K) (hW : ∀ c k h i s H, ¬ Wm c k h i s H) (M : MakeIs X K (g.call x) x ki) (hg : L2.Gl X x) (hdb : (x == ("__debug__" : Str)) = false) (s : SEs X K Wm g es ms) (q : noStar es = true)
    (hj : j ≤ ki.d.ds.length) : SE X K Wm g (.Call (.Name x p) es [] pos) (.call x ms (ki.d.ds.drop j)) := by
  obtain ⟨k, F, fa, C, fd, len, hcall, hF, hr, hm, mk, cf, hb⟩ := M.ex
  obtain ⟨ds, dvs, b1, b2, b3⟩ := hb j hj
  have main : ∀ (xs : List MV) (vs : List V) (ι : List Addr) (h : Hm) (σ : L2.St) (H : Hp) (Q : VK), GH K ι h H → RVs K H ι xs vs → AtR K Wm σ ι H (g.call x (xs ++ ki.d.ds.drop j) h) (PQ K Q) →
      ∀ p dx, H p = none → H dx = none → dx ≠ p → spG K F ki.d.ps.length (.ref p :: (vs ++ dvs)) (upd (upd H dx (.own p)) p (.ins C dx [])) (fun v H2 => v = .non ∧ Q (.ref p) H2) (fun _ _ _ => False) := fun xs vs ι h σ H Q gh rx a p dx hp hdx ne => by
    rw [hcall] at a
    have r3 := rx.append (b3 H ι)
    obtain ⟨i2, h2, g2, rfl, rfl, a2, r4⟩ := PQ_make hW a p dx C _ gh r3 cf hp hdx ne
    refine ⟨?_, _, _, _, g2, r4, a2⟩
    rw [← r4.length]
    by_cases hl : (MV.ref h.length :: (xs ++ ki.d.ds.drop j)).length = ki.d.ps.length
    · exact hl
    · rw [len _ _ hl] at a2
      exact a2.elim
  subst hK
  cases s with
  | nil =>
    refine pt_of rfl (PE.imp (L2.pe_make0 (E := fun _ _ _ => False) mk hF hr hg hm b1 b2 L2.pass0 hdb) fun σ H Q zz => ?_) fun _ => rfl
    obtain ⟨ι, h, sm, gh, rs, a⟩ := zz
    have a : AtR _ Wm σ ι H (g.call x ([] ++ ki.d.ds.drop j) h) (PQ _ Q) := a
    exact fun p dx hp hdx ne => main [] [] ι h σ H Q gh .nil a p dx hp hdx ne
  | @cons e m es ms s1 s2 =>
    obtain ⟨q1, q2⟩ := noStar_cons q
    refine pt_of rfl (PE.imp (L2.pe_make (E := fun _ _ _ => False) mk hF hr hg hm b1 b2 L2.pass0 (pa_of (.cons s1 s2) q) hdb (star_cons q1) (star_plain q2)) fun σ H Q z => Sta.imp (Sta.args (f := fun xs h => g.call x (xs ++ ki.d.ds.drop j) h) z) fun xs h1 i1 H1 g1 z vs rvs => ?_) fun _ => rfl
    obtain ⟨i2, xs2, h2, sm2, g2, rs2, rv2, at2⟩ := z vs rvs
    exact fun p dx hp hdx ne => main xs2 vs i2 h2 _ H1 Q g2 rv2 at2 p dx hp hdx ne
end
end R

namespace R
open PySem PySem.Spec PyProof.Rows
open L2 (V Hp HO SqL SqT TE TS TT TA VK Cx PE PT PA PS PSs upd Rd RelV Dp DpAll Inv It TI PI PIE FpOk Turn thn TG TGs PG PGs)

/-- the context answers to what the translation was told -/
structure Good (X : Cx) (K : KW) (Wm : Wish) (g : Genv) (c : TC) : Prop where
  nm : NmOk X c
  hK : KW.mk X.K X.w K.ad = K
  hW : ∀ c k h i s H, ¬ Wm c k h i s H
  calm : X.calm = true
  un : X.A.units + 65 < cLine
  nn : ∀ x, x ∈ c.N → (x == ("__debug__" : Str)) = false ∧ (x == ("__classdict__" : Str)) = false
  defs : ∀ f d, lkS c.pg.defs f = some d → CallOk X K (g.call f) f d ∧ (f == ("__debug__" : Str)) = false
  clss : ∀ x k, lkS c.pg.clss x = some k → MakeIs X K (g.call x) x k ∧ (x == ("__debug__" : Str)) = false
  glob : ∀ x, x ∈ bltNames → X.mg x = none
  exts : ∀ x, lkS c.pg.exts x = some "math.gcd" → X.mg x = some (.builtin "math.gcd") ∧ (x == ("__debug__" : Str)) = false
  cons : ∀ x v, c.pg.cons.contains x = true → g.cons x = some v → (x == ("__debug__" : Str)) = false ∧ ∃ u w, X.mg x = some u ∧ RelV w u ∧ ∀ H ι, RV K H ι v w
section
variable {X : Cx} {ad : Str → Option Addr} {K : KW} {Wm : Wish} {g : Genv} {pos : Pos} {e a b tg : Expr} {c : TC} {m ma mb mc : ME}
theorem Good.blk (G : Good X K Wm g c) (s : Shared) (H : Hp) (scope : Scope) (C : Addr) (cl : List (Str × Addr)) (fp : List Addr) : Good (X.blk s H scope (compEnvC scope cl C X.env) fp) K Wm g (inner c scope) where
  nm := ⟨G.nm.N, G.nm.nd, by rw [inner, ← G.nm.sc]; rfl, fun x h => h⟩
  hK := G.hK
  hW := G.hW
  calm := G.calm
  un := G.un
  nn := G.nn
  defs := fun f d h => ⟨⟨(G.defs f d h).1.len, (G.defs f d h).1.ex⟩, (G.defs f d h).2⟩
  clss := fun x k h => ⟨⟨(G.clss x k h).1.ex⟩, (G.clss x k h).2⟩
  glob := G.glob
  exts := G.exts
  cons := G.cons
theorem isGl_gl (G : Good X K Wm g c) {x : Str} (q : isGl c.sc x = true) : L2.Gl X x := by
  unfold isGl at q
  split at q
  · rename_i h
    show X.env.scope.names.lookup x = _
    rw [G.nm.sc]
    exact h
  · cases q
theorem glob_at (G : Good X K Wm g c) {x : Str} (q : isGlob c x = true) : L2.Gl X x ∧ X.mg x = none := by
  unfold isGlob at q
  rw [Bool.and_eq_true] at q
  exact ⟨isGl_gl G q.1, G.glob x (by simpa using q.2)⟩
theorem typeNames_hv : (typeNames.all fun p => (match bootBuiltins p.1 with | some (.type y) => y == p.2 | _ => false) && decide (p.1 ≠ "__name__") && !(p.1 == ("__debug__" : Str))) = true := by decide +kernel
theorem typeNames_at {x : Str} {t : String} (q : lkS typeNames x = some t) : bootBuiltins x = some (.type t) ∧ x ≠ "__name__" ∧ (x == ("__debug__" : Str)) = false := by
  have h := List.all_eq_true.mp typeNames_hv _ (lkS_mem q)
  simp only [Bool.and_eq_true, decide_eq_true_iff, Bool.not_eq_true'] at h
  refine ⟨?_, h.1.2, h.2⟩
  have h1 := h.1.1
  split at h1
  · rename_i y e
    rw [e, beq_iff_eq.mp h1]
  · cases h1
theorem mapEs_ses {f : Expr → Option ME} (hf : ∀ e m, f e = some m → SE X K Wm g e m) : ∀ {es : List Expr} {ms : MEs}, mapEs f es = some ms → SEs X K Wm g es ms
  | [], ms, q => by cases q; exact .nil
  | e :: es, ms, q => by
    unfold mapEs at q
    split at q
    · rename_i a as h1 h2
      cases q
      exact .cons (hf _ _ h1) (mapEs_ses hf h2)
    · cases q
theorem mapO_so {f : Expr → Option ME} (hf : ∀ e m, f e = some m → SE X K Wm g e m) {o : Option Expr} {ms : MEs} (q : mapO f o = some ms) : SO X K Wm g o ms := by
  cases o with
  | none => cases q; exact .none
  | some e =>
    unfold mapO at q
    rw [Option.map_eq_some_iff] at q
    obtain ⟨a, h1, h2⟩ := q
    subst h2
    exact .some (hf _ _ h1)
theorem foldB_and {f : Expr → Option ME} (hK : KW.mk X.K X.w ad = K) (hf : ∀ e m, f e = some m → SE X K Wm g e m) : ∀ {es : List Expr} {m : ME}, foldB .and f es = some m → SB X K Wm g (.BoolOp .And es pos) m
  | [e], m, q => ⟨L2.pe_one (hf _ _ q).pe, L2.pw_and1 (hf _ _ q).pt⟩
  | e :: e' :: es, m, q => by
    unfold foldB at q
    split at q
    · rename_i a b h1 h2
      cases q
      exact s_and hK (hf _ _ h1) (foldB_and hK hf h2)
    · cases q
theorem foldB_or {f : Expr → Option ME} (hK : KW.mk X.K X.w ad = K) (hf : ∀ e m, f e = some m → SE X K Wm g e m) : ∀ {es : List Expr} {m : ME}, foldB .or f es = some m → SB X K Wm g (.BoolOp .Or es pos) m
  | [e], m, q => ⟨L2.pe_one (hf _ _ q).pe, L2.pw_or1 (hf _ _ q).pt⟩
  | e :: e' :: es, m, q => by
    unfold foldB at q
    split at q
    · rename_i a b h1 h2
      cases q
      exact s_or hK (hf _ _ h1) (foldB_or hK hf h2)
    · cases q
/-- a name of the slots -/
theorem s_name (G : Good X K Wm g c) {x : Str} {i : Nat} (h1 : isVis c.sc x = true) (h2 : ixOf c.N x = some i) : SE X K Wm g (.Name x pos) (.var i) := by
  have hN := ixOf_at h2
  obtain ⟨n1, n2⟩ := G.nn x (List.mem_iff_getElem?.mpr ⟨i, hN⟩)
  exact pt_of G.hK (s_var (by rw [G.nm.N]; exact hN) (by rw [G.nm.sc]; exact isVis_vis h1) n1 n2) fun _ => rfl
theorem s_con (G : Good X K Wm g c) {x : Str} (h1 : isGl c.sc x = true) (h2 : c.pg.cons.contains x = true) : SE X K Wm g (.Name x pos) (.con x) := by
  cases e : g.cons x with
  | none =>
    have no : ∀ sm h, evE g (.con x) sm h = .bad := fun sm h => by
      show (match g.cons x with | some v => (.ok v h : Res MV) | none => .bad) = .bad
      rw [e]
    exact ⟨⟨fun pins s σ H Q I z => by
      obtain ⟨_, _, _, _, _, q⟩ := z
      rw [no] at q
      exact q.elim⟩, ⟨fun pins s σ H Q I z => by
      obtain ⟨i1, h1, sm1, _, _, q⟩ := z
      have q : AtR K Wm σ i1 H ((evE g (.con x) sm1 h1).bind truthR) _ := q
      rw [no] at q
      exact q.elim⟩⟩
  | some v =>
    obtain ⟨nd, u, w, hm, rl, rv⟩ := G.cons x v h2 e
    refine pt_of G.hK (PE.imp (L2.pe_glob (isGl_gl G h1) hm rl nd) fun σ H Q q => ?_) fun _ => rfl
    obtain ⟨ι, h, sm, gh, rs, q⟩ := q
    have q : AtR K Wm σ ι H (match g.cons x with | some v => (.ok v h : Res MV) | none => .bad) _ := q
    rw [e] at q
    exact (AtR.ok (x := v) (h := h) q gh) w (rv H ι)
theorem folded_ok {env : Env} (h : ∀ es k p, e ≠ .Set es k p) : ∀ x, foldedSetIterable e env x = pure x := fun x => by
  cases e <;> first | rfl | exact absurd rfl (h _ _ _)
theorem trI_noset {n : Nat} {mi : MI} (q : trI n c tg e = some mi) : ∀ es k p, e ≠ .Set es k p := fun es k p h => by
  subst h
  cases n with
  | zero => cases q
  | succ n => cases q
theorem tupE {e : Expr} (h : isTupE e = true) : ∃ es k p, e = .Tuple es k p := by
  cases e <;> first | exact ⟨_, _, _, rfl⟩ | cases h
theorem shOf_at {n : Nat} {ks : List Str} : ∀ {l : List KSh} {z : KSh}, shOf n ks l = some z → z ∈ l ∧ z.n = n ∧ z.ks = ks
  | y :: r, z, q => by
    unfold shOf at q
    split at q
    · rename_i h
      cases q
      exact ⟨List.mem_cons_self .., h⟩
    · have := shOf_at q
      exact ⟨List.mem_cons_of_mem _ this.1, this.2⟩
structure TrOk (n : Nat) : Prop where
  e : ∀ (X : Cx) (K : KW) (Wm : Wish) (g : Genv) (c : TC) (e : Expr) (m : ME), Good X K Wm g c → trE n c e = some m → SE X K Wm g e m
  i : ∀ (X : Cx) (K : KW) (Wm : Wish) (g : Genv) (c : TC) (tg e : Expr) (m : MI), Good X K Wm g c → trI n c tg e = some m → PI X tg e (tI K Wm (evI g m))
theorem trE_step {n : Nat} (ih : TrOk n) {m : ME} (G : Good X K Wm g c) (q : trE (n + 1) c e = some m) : SE X K Wm g e m := by
  have ihe := fun e m => ih.e X K Wm g c e m G
  have hK := G.hK
  unfold trE at q
  split at q
  -- constants
  · cases q; exact pt_of hK (s_lit L2.pe_non fun _ _ => .non) fun _ => rfl
  · cases q; exact pt_of hK (s_lit L2.pe_bl fun _ _ => .bl _) fun _ => rfl
  · cases q; exact pt_of hK (s_lit L2.pe_int fun _ _ => .int _) fun _ => rfl
  · cases q; exact pt_of hK (s_lit L2.pe_str fun _ _ => .str _) fun _ => rfl
  -- names
  · split at q
    · rename_i h1
      rw [Option.map_eq_some_iff] at q
      obtain ⟨i, h2, h3⟩ := q
      subst h3
      exact s_name G h1 h2
    · split at q
      · rename_i h1
        split at q
        · cases q
          exact s_con G h1 (by assumption)
        · split at q
          · rename_i h2
            rw [Option.map_eq_some_iff] at q
            obtain ⟨t, h3, h4⟩ := q
            subst h4
            obtain ⟨t1, t2, t3⟩ := typeNames_at h3
            obtain ⟨g1, g2⟩ := glob_at G h2
            exact pt_of hK (s_lit (v := .ty t) (L2.pe_bltn g1 g2 t1 rfl t2 t3) fun _ _ => .ty _) fun _ => rfl
          · cases q
      · cases q
  -- arithmetic
  · split at q
    · rename_i h1 h2 h3
      cases q
      exact s_bin' h1 hK (ihe _ _ h2) (ihe _ _ h3)
    · cases q
  · rw [Option.map_eq_some_iff] at q
    obtain ⟨a, h1, h2⟩ := q
    subst h2
    exact s_neg hK (ihe _ _ h1)
  · rw [Option.map_eq_some_iff] at q
    obtain ⟨a, h1, h2⟩ := q
    subst h2
    exact s_not hK (ihe _ _ h1)
  · have z := foldB_and (pos := ‹Pos›) hK ihe q
    exact ⟨z.pe, z.pw.pt⟩
  · have z := foldB_or (pos := ‹Pos›) hK ihe q
    exact ⟨z.pe, z.pw.pt⟩
  · split at q
    · rename_i h1 h2 h3
      cases q
      exact s_ife' (ihe _ _ h1) (ihe _ _ h2) (ihe _ _ h3)
    · cases q
  · split at q
    · rename_i h1 h2 h3
      cases q
      exact s_cmp h1 G.un hK (ihe _ _ h2) (ihe _ _ h3)
    · cases q
  · split at q
    · rename_i h1 h2 h3 h4 h5
      cases q
      exact s_chn h1 h2 G.un hK (ihe _ _ h3) (ihe _ _ h4) (ihe _ _ h5)
    · cases q
  · split at q
    · rename_i hs
      rw [Option.map_eq_some_iff] at q
      obtain ⟨a, h1, h2⟩ := q
      subst h2
      exact s_tup hK (mapEs_ses ihe h1) hs
    · cases q
  · split at q
    · rename_i hs
      rw [Option.map_eq_some_iff] at q
      obtain ⟨a, h1, h2⟩ := q
      subst h2
      exact s_lst hK (mapEs_ses ihe h1) hs
    · cases q
  · cases q
    exact s_dnew hK
  · split at q
    · rename_i h1 h2 h3
      cases q
      exact s_slc hK (ihe _ _ h1) (mapO_so ihe h2) (mapO_so ihe h3)
    · cases q
  · rw [Option.map_eq_some_iff] at q
    obtain ⟨a, h1, h2⟩ := q
    subst h2
    exact s_rev hK (ihe _ _ h1)
  · split at q
    · cases q
    · rename_i hn
      split at q
      · rename_i h1 h2
        cases q
        refine s_ix (by have := G.un; omega) hK (ihe _ _ h1) (ihe _ _ h2) ?_
        unfold isSlice
        split
        · exact absurd rfl (hn _ _ _ _)
        · rfl
      · cases q
  -- calls
  · rename_i x p es pos
    split at q
    · rename_i hg
      obtain ⟨hs, hgl⟩ := hg
      have gl := isGl_gl G hgl
      split at q
      · cases q
      · rename_i as has
        have ses := mapEs_ses ihe has
        split at q
        · rename_i d hd
          split at q
          · rename_i hl
            cases q
            obtain ⟨C, hdb⟩ := G.defs _ _ hd
            exact s_call hK G.hW C gl hdb ses hs (by omega)
          · cases q
        · split at q
          · rename_i k hk
            split at q
            · rename_i hl
              cases q
              obtain ⟨M, hdb⟩ := G.clss _ _ hk
              exact s_make hK G.hW M gl hdb ses hs (by omega)
            · cases q
          split at q
          · cases q
          · rename_i hne
            split at q
            · rename_i b hb
              rw [Option.map_eq_some_iff] at q
              obtain ⟨k, h1, h2⟩ := q
              subst h2
              have eb : b = "math.gcd" := (bltX_ok (X := X) (K := K) h1).2
              subst eb
              obtain ⟨e1, e2⟩ := G.exts _ hb
              exact s_biX hK h1 gl (fun _ => e1) e2 ses hs hne
            · split at q
              · rename_i hgb
                obtain ⟨_, hm⟩ := glob_at G hgb
                split at q
                · rename_i b hb
                  cases q
                  exact s_biF G.calm hK hb gl hm ses hs hne
                · rw [Option.map_eq_some_iff] at q
                  obtain ⟨k, h1, h2⟩ := q
                  subst h2
                  exact s_biT G.calm hK h1 gl hm ses hs hne
              · cases q
    · cases q
  · split at q
    · rename_i hg
      obtain ⟨hs, hgl⟩ := hg
      split at q
      · rename_i d ks hd hks
        split at q
        · rename_i z as bs hz has hbs
          cases q
          obtain ⟨C, hdb⟩ := G.defs _ _ hd
          obtain ⟨z1, z2, z3⟩ := shOf_at hz
          subst z3
          exact s_callK hK G.hW C (isGl_gl G hgl) hdb (mapEs_ses ihe has) hs (mapEs_ses ihe hbs) hks z2 z1
        · cases q
      · cases q
    · cases q
  · split at q
    · rename_i hc
      subst hc
      rw [Option.map_eq_some_iff] at q
      obtain ⟨a, h1, h2⟩ := q
      subst h2
      exact s_fmt hK (ihe _ _ h1)
    · cases q
  · split at q
    · have z := ihe _ _ q
      exact pt_of hK (L2.pe_joined1 z.pe) fun _ => rfl
    · cases q
  · rw [Option.map_eq_some_iff] at q
    obtain ⟨a, h1, h2⟩ := q
    subst h2
    exact s_fs hK (mapEs_ses ihe h1)
  · split at q
    · rename_i hg
      obtain ⟨hs, hb, hl, hf⟩ := hg
      split at q
      · rename_i h1 h2 h3
        cases q
        exact s_meth G.un hK h3 (ihe _ _ h1) hb hl (mapEs_ses ihe h2) hs hf
      · cases q
    · cases q
  · split at q
    · rename_i hb
      rw [Option.map_eq_some_iff] at q
      obtain ⟨a, h1, h2⟩ := q
      subst h2
      exact s_fld hK hb (ihe _ _ h1)
    · cases q
  · rename_i scope _
    split at q
    · rename_i hg
      obtain ⟨hb, hl⟩ := hg
      split at q
      · rename_i h1 h2 h3 h4
        split at q
        · rename_i hin
          cases q
          refine s_lc (ctc := c) G.calm G.nm.nd hK (ih.i X K Wm g c _ _ _ G h1) (L2.blkOk_by (by rw [G.nm.N, G.nm.sc]; exact hb)) (folded_ok (trI_noset h1)) hl hin (fun s H C cl fp => ?_) (fun s H C cl fp => ?_) fun s H C cl fp => ?_
          · have G' := G.blk s H scope C cl fp
            have z := tg_pg G'.calm G'.nm h2
            rw [← hK]
            exact z
          · exact mapEs_ses (fun e m => ih.e _ K Wm g _ e m (G.blk s H scope C cl fp)) h3
          · exact ih.e _ K Wm g _ _ _ (G.blk s H scope C cl fp) h4
        · cases q
      · cases q
    · cases q
  · cases q
theorem trE_notStar {n : Nat} {m : ME} (q : trE n c e = some m) : notStar e = true := by
  cases e <;> first | rfl | skip
  cases n <;> cases q
theorem noStar_of {es : List Expr} (h : ∀ e ∈ es, notStar e = true) : noStar es = true := by
  unfold noStar
  rw [List.all_eq_true]
  intro e he
  have := h e he
  cases e <;> first | rfl | cases this
theorem trI_step {n : Nat} (ih : TrOk n) {m : MI} (G : Good X K Wm g c) (q : trI (n + 1) c tg e = some m) : PI X tg e (tI K Wm (evI g m)) := by
  have ihe := fun e m => ih.e X K Wm g c e m G
  have hK := G.hK
  unfold trI at q
  split at q
  · split at q
    · rename_i hx
      obtain ⟨hx, hg⟩ := hx
      subst hx
      obtain ⟨g1, g2⟩ := glob_at G hg
      split at q
      · rename_i a
        rw [Option.map_eq_some_iff] at q
        obtain ⟨k, h1, h2⟩ := q
        subst h2
        exact i_rng1 g1 g2 (noStar_of fun e he => by cases List.mem_singleton.mp he; exact trE_notStar h1) (ihe _ _ h1)
      · rename_i a b
        split at q
        · rename_i h1 h2
          cases q
          exact i_rng2 g1 g2 (noStar_of fun e he => by
            simp only [List.mem_cons, List.not_mem_nil, or_false] at he
            rcases he with rfl | rfl
            · exact trE_notStar h1
            · exact trE_notStar h2) (ihe _ _ h1) (ihe _ _ h2)
        · cases q
      · rename_i a b d
        split at q
        · rename_i h1 h2 h3
          cases q
          exact i_rng3 g1 g2 (noStar_of fun e he => by
            simp only [List.mem_cons, List.not_mem_nil, or_false] at he
            rcases he with rfl | rfl | rfl
            · exact trE_notStar h1
            · exact trE_notStar h2
            · exact trE_notStar h3) (ihe _ _ h1) (ihe _ _ h2) (ihe _ _ h3)
        · cases q
      · cases q
    · split at q
      · rename_i hx
        obtain ⟨hx, hg, ht⟩ := hx
        subst hx
        obtain ⟨ts, tk, tp, rfl⟩ := tupE ht
        obtain ⟨g1, g2⟩ := glob_at G hg
        split at q
        · rename_i a b
          split at q
          · rename_i h1 h2
            cases q
            exact i_zip g1 g2 (noStar_of fun e he => by
              simp only [List.mem_cons, List.not_mem_nil, or_false] at he
              rcases he with rfl | rfl
              · exact trE_notStar h1
              · exact trE_notStar h2) hK (ihe _ _ h1) (ihe _ _ h2)
          · cases q
        · cases q
      · split at q
        · rename_i hx
          obtain ⟨hx, hg, ht⟩ := hx
          subst hx
          obtain ⟨ts, tk, tp, rfl⟩ := tupE ht
          obtain ⟨g1, g2⟩ := glob_at G hg
          split at q
          · rename_i a
            rw [Option.map_eq_some_iff] at q
            obtain ⟨k, h1, h2⟩ := q
            subst h2
            exact i_enum g1 g2 (noStar_of fun e he => by cases List.mem_singleton.mp he; exact trE_notStar h1) hK (ihe _ _ h1)
          · cases q
        · split at q
          · rename_i hx
            obtain ⟨hx, hg⟩ := hx
            subst hx
            obtain ⟨g1, g2⟩ := glob_at G hg
            split at q
            · rename_i a
              rw [Option.map_eq_some_iff] at q
              obtain ⟨k, h1, h2⟩ := q
              subst h2
              exact i_rev g1 g2 (noStar_of fun e he => by cases List.mem_singleton.mp he; exact trE_notStar h1) hK (ihe _ _ h1)
            · cases q
          · rw [Option.map_eq_some_iff] at q
            obtain ⟨k, h1, h2⟩ := q
            subst h2
            exact i_val (ihe _ _ h1) hK
  · cases q
  · rw [Option.map_eq_some_iff] at q
    obtain ⟨a, h1, h2⟩ := q
    subst h2
    exact i_val (ihe _ _ h1) hK
theorem tr_ok (n : Nat) : TrOk n := by
  induction n with
  | zero =>
    refine ⟨?_, ?_⟩
    · intro X K Wm g c e m G q; cases q
    · intro X K Wm g c tg e m G q; cases q
  | succ n ih =>
    refine ⟨?_, ?_⟩
    · intro X K Wm g c e m G q; exact trE_step ih G q
    · intro X K Wm g c tg e m G q; exact trI_step ih G q
end
end R

namespace R
open PySem PySem.Spec PyProof.Rows
open L2 (V Hp HO SqL SqT TE TS TT TA VK Cx PE PT PA PS PSs upd Rd RelV Dp DpAll Inv It TI PI PIE FpOk Turn thn TG TGs PG PGs Ends)
/-- how a statement's small answer is met -/
def AtS (K : KW) (Wm : Wish) (D : Ends) (ι : List Addr) (H : Hp) (r : SRes) : Prop :=
  match r with
  | .fl (.nx sm) h' => ∀ ι' H' σ', Ext ι ι' → Stp K H H' → GH K ι' h' H' → RSm K H' ι' sm σ' → D.nx σ' H'
  | .fl (.brk sm) h' => ∀ ι' H' σ', Ext ι ι' → Stp K H H' → GH K ι' h' H' → RSm K H' ι' sm σ' → D.bk σ' H'
  | .fl (.cnt sm) h' => ∀ ι' H' σ', Ext ι ι' → Stp K H H' → GH K ι' h' H' → RSm K H' ι' sm σ' → D.ct σ' H'
  | .fl (.ret x) h' => ∀ ι' H' v, Ext ι ι' → Stp K H H' → GH K ι' h' H' → RV K H' ι' x v → D.rt v H'
  | .exc c e sm h' => ∀ ι' H' σ', Ext ι ι' → Stp K H H' → GH K ι' h' H' → RSm K H' ι' sm σ' → Wm c e h' ι' σ' H'
  | .bad => False
def tS (K : KW) (Wm : Wish) (ev : Sm → Hm → SRes) : TS := fun D σ H => ∃ ι h sm, GH K ι h H ∧ RSm K H ι sm σ ∧ AtS K Wm D ι H (ev sm h)
section
variable {K : KW} {Wm : Wish} {D : Ends} {ι ι' : List Addr} {H H' : Hp} {σ : L2.St} {h : Hm} {sm : Sm}
theorem AtS.mono {r : SRes} (a : AtS K Wm D ι H r) (e : Ext ι ι') (s : Stp K H H') : AtS K Wm D ι' H' r := by
  unfold AtS at a ⊢
  split at a
  · exact fun i2 H2 σ2 e2 s2 => a i2 H2 σ2 (e.trans e2) (s.trans s2)
  · exact fun i2 H2 σ2 e2 s2 => a i2 H2 σ2 (e.trans e2) (s.trans s2)
  · exact fun i2 H2 σ2 e2 s2 => a i2 H2 σ2 (e.trans e2) (s.trans s2)
  · exact fun i2 H2 v e2 s2 => a i2 H2 v (e.trans e2) (s.trans s2)
  · exact fun i2 H2 σ2 e2 s2 => a i2 H2 σ2 (e.trans e2) (s.trans s2)
  · exact a
theorem AtS.nx {sm' : Sm} (a : AtS K Wm D ι H (.fl (.nx sm') h)) (g : GH K ι h H) (r : RSm K H ι sm' σ) : D.nx σ H := a ι H σ .refl .refl g r
/-- an expression first -/
theorem AtS.on {α : Type} {r : Res α} {f : α → Hm → SRes} (rs : RSm K H ι sm σ) (a : AtS K Wm D ι H (r.on sm f)) : AtR K Wm σ ι H r fun x h1 ι1 H1 => RSm K H1 ι1 sm σ ∧ AtS K Wm D ι1 H1 (f x h1) := by
  cases r with
  | ok x h' => exact fun i2 H2 e2 s2 _ => ⟨rs.mono e2 s2, AtS.mono a e2 s2⟩
  | exc c k h' => exact fun i2 H2 e2 s2 g2 => a i2 H2 σ e2 s2 g2 (rs.mono e2 s2)
  | bad => exact a.elim
theorem tS.parts {α : Type} {ea : Sm → Hm → Res α} {f : Sm → α → Hm → SRes} (z : tS K Wm (fun sm h => (ea sm h).on sm (f sm)) D σ H) :
    Sta K Wm ea σ H fun x h1 ι1 H1 => ∃ sm, RSm K H1 ι1 sm σ ∧ AtS K Wm D ι1 H1 (f sm x h1) := by
  obtain ⟨ι, h, sm, gh, rs, a⟩ := z
  exact ⟨ι, h, sm, gh, rs, (AtS.on rs a).mono .refl .refl fun x h1 i1 H1 _ _ _ q => ⟨sm, q⟩⟩
end
section
variable {X : Cx} {ad : Str → Option Addr} {K : KW} {Wm : Wish} {g : Genv} {pos : Pos} {e a b tg : Expr} {c : TC} {m ma mb mc : ME}
theorem PS.imp {s : Stmt} {t t' : TS} (h : PS X s t) (f : ∀ D σ H, t' D σ H → t D σ H) : PS X s t' := ⟨fun pins s σ H D I q => h.run pins s σ H D I (f D σ H q)⟩
theorem PSs.imp {s : List Stmt} {t t' : TS} (h : PSs X s t) (f : ∀ D σ H, t' D σ H → t D σ H) : PSs X s t' := ⟨fun pins s σ H D I q => h.run pins s σ H D I (f D σ H q)⟩
theorem PS.or {s : Stmt} {t t' : TS} (h : PS X s t) (h' : PS X s t') : PS X s (fun D σ H => t D σ H ∨ t' D σ H) := ⟨fun pins s σ H D I q => q.elim (h.run pins s σ H D I) (h'.run pins s σ H D I)⟩
structure GoodS (X : Cx) (K : KW) (Wm : Wish) (g : Genv) (c : TC) : Prop extends Good X K Wm g c where
  never : X.xe = fun _ _ => False
  kind : c.sc.kind = .function
abbrev SS (X : Cx) (K : KW) (Wm : Wish) (g : Genv) (s : Stmt) (m : MS) : Prop := PS X s (tS K Wm (evS g m))
/-! ### the stores -/
theorem set_imp {i : Nat} : ∀ D σ H, tS K Wm (evS g (.set i m)) D σ H → L2.tAsg (tE K Wm (evE g m)) (L2.gName i) D σ H := fun D σ H z =>
  Sta.imp (tS.parts (f := fun sm x h => .fl (.nx (sm.set i (some x))) h) z) fun x h1 i1 H1 g1 ⟨sm, rs, at1⟩ v rv => at1.nx g1 (rs.set i rv)
theorem swapsWith_lc {elt : Expr} {gens : List Comprehension} {scope : Scope} {p px : Pos} {x : Str} {n : Nat} {env : Env} (hk : env.scope.kind = .function) :
    swapsWith (.ListComp elt gens scope p) (some (.Name x px)) n env = pure (env.kindOf x == some .local && px.line == p.line && !(scope.names.any fun (n, k) => n == x && (k == .local || k == .cell))) := by
  have e : (env.blockKind == .function) = true := by
    unfold Env.blockKind
    rw [hk]
    rfl
  show (pure (env.blockKind == .function && env.kindOf x == some .local && px.line == p.line && !(scope.names.any fun (n, k) => n == x && (k == .local || k == .cell))) : Sem Bool) = _
  rw [e, Bool.true_and]
/-- what trE takes has no set, dict comprehension at its top -/
theorem trE_swap {n : Nat} (q : trE n c e = some m) (hl : isLC e = false) {t : Option Expr} {k : Nat} {env : Env} : swapsWith e t k env = pure false := by
  cases e <;> first | rfl | skip
  · cases hl
  · cases n <;> cases q
  · cases n <;> cases q
theorem swap_tup {e t : Expr} {k : Nat} {env : Env} (ht : ∀ x p, t ≠ .Name x p) : swapsWith e (some t) k env = pure false := by
  cases e <;> first | rfl | skip
  all_goals (cases t <;> first | rfl | exact absurd rfl (ht _ _))
/-- name = value -/
theorem s_set {n : Nat} {x : Str} {px : Pos} {i : Nat} (G : GoodS X K Wm g c) (hi : nameIx c (.Name x px) = some i) (q : trE n c e = some m) : SS X K Wm g (.Assign [.Name x px] e pos) (.set i m) := by
  have se := (tr_ok n).e _ _ _ _ _ _ _ G.toGood q
  have hN : X.N[i]? = some x := by
    unfold nameIx at hi
    simp only at hi
    split at hi
    · rw [G.nm.N]; exact ixOf_at hi
    · cases hi
  have hst : isStore c x = true := by
    unfold nameIx at hi
    simp only at hi
    split at hi
    · assumption
    · cases hi
  have hloc : L2.Loc X.env.scope x ∧ (X.fn x = true ∨ X.env.scope.names.lookup x = some .local) := by
    unfold isStore at hst
    split at hst
    · rename_i h
      exact ⟨.inl (by rw [G.nm.sc]; exact h), .inr (by rw [G.nm.sc]; exact h)⟩
    · rename_i h
      exact ⟨.inr (by rw [G.nm.sc]; exact h), .inl (G.nm.fn _ hst)⟩
    · cases hst
  have plain : swapsWith e (some (.Name x px)) pos.line X.env = pure false → SS X K Wm g (.Assign [.Name x px] e pos) (.set i m) := fun hs =>
    PS.imp (L2.ps_set G.nm.nd hN hloc.1 se.pe hs hloc.2) set_imp
  by_cases hl : isLC e = true
  · cases e with
    | ListComp elt gens scope p =>
      have sw := swapsWith_lc (elt := elt) (gens := gens) (scope := scope) (p := p) (px := px) (x := x) (n := pos.line) (env := X.env) (by rw [G.nm.sc]; exact G.kind)
      cases hb : (X.env.kindOf x == some NameKind.local && px.line == p.line && !(scope.names.any fun (n, k) => n == x && (k == NameKind.local || k == NameKind.cell))) with
      | false => rw [hb] at sw; exact plain sw
      | true =>
        rw [hb] at sw
        have hyl : X.env.scope.names.lookup x = some .local := by
          simp only [Bool.and_eq_true] at hb
          exact beq_iff_eq.mp hb.1.1
        cases n with
        | zero => cases q
        | succ n =>
          unfold trE at q
          split at q <;> first | cases q | skip
          all_goals first | (rename_i he; cases he; done) | skip
          rename_i heq
          cases heq
          split at q
          · rename_i hg
            obtain ⟨hb', hl'⟩ := hg
            split at q
            · rename_i it2 tg2 ifs2 elt2 h1 h2 h3 h4
              split at q
              · rename_i hin
                cases q
                have hpg : ∀ (s : Shared) (H : Hp) (C : Addr) (cl : List (Str × Addr)) (fp : List Addr), PG (X.blk s H scope (compEnvC scope cl C X.env) fp) _ (gM K.f tg2) := fun s H C cl fp => by
                  have G' := G.toGood.blk s H scope C cl fp
                  have z := tg_pg G'.calm G'.nm h2
                  rw [← G.hK]
                  exact z
                refine PS.imp (L2.ps_setLc G.calm G.nm.nd hN hyl sw ((tr_ok n).i X K Wm g c _ _ _ G.toGood h1) (L2.blkOk_by (by rw [G.nm.N, G.nm.sc]; exact hb'))
                  hpg (fun s H C cl fp => s_tests (mapEs_ses (fun e m => (tr_ok n).e _ K Wm g _ e m (G.toGood.blk s H scope C cl fp)) h3) hl') (fun s H C cl fp => ((tr_ok n).e _ K Wm g _ _ _ (G.toGood.blk s H scope C cl fp) h4).pe) (folded_ok (trI_noset h1))) fun D σ H z => ?_
                exact lc_imp hin (set_imp D σ H z)
              · cases q
            · cases q
          · cases q
    | _ => cases hl
  · exact plain (trE_swap q (by simpa using hl))
end
end R

namespace R
open PySem PySem.Spec PyProof.Rows
open L2 (V Hp HO SqL SqT TE TS TT TA VK Cx PE PT PA PS PSs upd Rd RelV Dp DpAll Inv It TI PI PIE FpOk Turn thn TG TGs PG PGs Ends)
section
variable {X : Cx} {ad : Str → Option Addr} {K : KW} {Wm : Wish} {g : Genv} {pos : Pos} {e a b tg o i v : Expr} {c : TC} {m ma mb mc mo mi mv : ME} {D : Ends} {σ : L2.St} {H : Hp}
/-! ### names = a tuple -/
theorem unp_imp {is : List Nat} : ∀ D σ H, tS K Wm (evS g (.unp is m)) D σ H → L2.tAsg (tE K Wm (evE g m)) (gM K.f (.tp is)) D σ H := fun D σ H z =>
  Sta.imp (tS.parts (ea := evE g m) (f := fun sm (x : MV) h => (match x with
    | .tup xs => match bindN is xs sm with
      | some sm => .fl (.nx sm) h
      | none => .bad
    | _ => .bad : SRes)) z) fun x h1 i1 H1 g1 ⟨sm, rs, at1⟩ v rv => by
    cases x with
    | tup xs =>
      simp only at at1
      cases hb : bindN is xs sm with
      | none => rw [hb] at at1; exact at1.elim
      | some sm' =>
        rw [hb] at at1
        exact gM_ok (t := .tp is) (x := .tup xs) hb rv rs fun σ' r1 _ _ => at1.nx g1 r1
    | _ => exact at1.elim
theorem isTup_not {e : Expr} (h : isTupE e = false) {ts : List Expr} {k : Nat} {p : Pos} {env : Env} : swappedStores [.Tuple ts k p] e env = pure none := by
  cases e <;> first | rfl | cases h
theorem noPar_none {ts vs : List Expr} {k k2 : Nat} {p p2 : Pos} {env : Env} (hsc : env.scope = c.sc) (hk : c.sc.kind = .function) (h : noPar c ts vs = true) : swappedStores [.Tuple ts k p] (.Tuple vs k2 p2) env = pure none := by
  have hbk : (env.blockKind != .function) = false := by
    unfold Env.blockKind
    rw [hsc, hk]
    rfl
  unfold noPar at h
  unfold swappedStores
  simp only [hbk, Bool.or_false]
  have hkn : ∀ id, env.kindOf id = c.sc.names.lookup id := fun id => by rw [← hsc]; rfl
  simp only [← hkn] at h
  rw [Bool.or_eq_true, Bool.or_eq_true] at h
  split
  · rfl
  · rename_i n1
    split
    · rfl
    · split
      · rfl
      · rename_i n3
        split
        · rfl
        · rename_i n4
          rcases h with (h | h) | h
          · exact absurd h n1
          · exact absurd h n4
          · exact absurd h n3
theorem parOk_par {ts vs : List Expr} {env : Env} (hsc : env.scope = c.sc) (hk : c.sc.kind = .function) (h : parOk c ts vs = true) :
    vs.length = 2 ∧ ∃ x px y py, ts = [.Name x px, .Name y py] ∧ c.sc.names.lookup x = some .local ∧ c.sc.names.lookup y = some .local ∧ x ≠ y ∧ noStar vs = true ∧ ∀ k k2 p p2, swappedStores [.Tuple ts k p] (.Tuple vs k2 p2) env = pure (some [x, y]) := by
  have hbk : (env.blockKind != .function) = false := by
    unfold Env.blockKind
    rw [hsc, hk]
    rfl
  unfold parOk at h
  split at h
  · rename_i x px y py
    simp only [Bool.and_eq_true, decide_eq_true_eq, Bool.not_eq_true'] at h
    obtain ⟨⟨⟨⟨⟨⟨⟨h1, h2⟩, h3⟩, h4⟩, h5⟩, h6⟩, h7⟩, hl⟩ := h
    refine ⟨hl, x, px, y, py, rfl, h1, h2, h4, h7, fun k k2 p p2 => ?_⟩
    have hkx : env.kindOf x = some .local := by show env.scope.names.lookup x = _; rw [hsc]; exact h1
    have hky : env.kindOf y = some .local := by show env.scope.names.lookup y = _; rw [hsc]; exact h2
    have hline : py.line = px.line := (beq_iff_eq.mp h3).symm
    have hst : (vs.any fun x => match x with
        | .Starred _ _ => true
        | _ => false) = false := by
      rw [List.any_eq_false]
      intro e he
      have := List.all_eq_true.mp h7 e he
      cases e <;> first | (intro z; cases z; done) | cases this
    have hnames : ([Expr.Name x px, Expr.Name y py].filterMap fun
      | .Name id pos => if env.kindOf id == some .local && pos.line == ((([Expr.Name x px, Expr.Name y py] : List Expr).head?.map (·.pos.line)).getD 0) then some id else none
      | _ => none) = [x, y] := by
      show ([Expr.Name x px, Expr.Name y py].filterMap fun
      | .Name id pos => if env.kindOf id == some .local && pos.line == px.line then some id else none
      | _ => none) = [x, y]
      simp [hkx, hky, hline]
    have hd : ([x, y] : List Str).eraseDups.length = 2 := by
      simp [List.eraseDups_cons, h4, Ne.symm h4]
    unfold swappedStores
    simp only [hbk, Bool.or_false]
    rw [if_neg (by simp [hl])]
    split
    · rename_i z
      exact (Bool.false_ne_true (hst.symm.trans z)).elim
    · have key : ∀ l : List Str, l = [x, y] → (if (l.length != 2 || l.eraseDups.length != l.length) = true then (pure none : Sem (Option (List Str))) else if vs.all (foldedForSure 8) = true then pure none
          else if vs.all (constantsAlone 8) = true then (do
            unsupported "assign.tuple-of-constant-expressions:order-of-the-stores"
            pure (some l)) else pure (some l)) = pure (some [x, y]) := by
        rintro _ rfl
        rw [hd, h5, h6]
        rfl
      exact key _ hnames
  · cases h
theorem trT_tp {ts : List Expr} {k : Nat} {p : Pos} {is : List Nat} (h : allNames c ts = some is) : trT c (.Tuple ts k p) = some (.tp is) := by
  show (allNames c ts).map MT.tp = _
  rw [h]
  rfl
theorem s_unp {n : Nat} {ts : List Expr} {k : Nat} {p : Pos} {is : List Nat} (G : GoodS X K Wm g c) (hi : allNames c ts = some is) (q : trE n c e = some m) (hw : swappedStores [.Tuple ts k p] e X.env = pure none) :
    SS X K Wm g (.Assign [.Tuple ts k p] e pos) (.unp is m) := by
  have se := (tr_ok n).e _ _ _ _ _ _ _ G.toGood q
  have z := tg_pg (X := X) G.calm G.nm (trT_tp (k := k) (p := p) hi)
  refine PS.imp (L2.ps_asg se.pe z (show swapsWith e (some (.Tuple ts k p)) pos.line X.env = pure false from swap_tup fun _ _ h => nomatch h) hw) fun D σ H z => ?_
  have z := unp_imp D σ H z
  have e : K.f = X.K := by rw [← G.hK]
  rw [e] at z
  exact z
theorem names2 {ts : List Expr} {is : List Nat} {x y : Str} {px py : Pos} (h : allNames c [.Name x px, .Name y py] = some is) : ∃ i j, is = [i, j] ∧ nameIx c (.Name x px) = some i ∧ nameIx c (.Name y py) = some j := by
  unfold allNames at h
  split at h
  · rename_i i js h1 h2
    cases h
    unfold allNames at h2
    split at h2
    · rename_i j ks h3 h4
      cases h2
      cases h4
      exact ⟨i, j, rfl, h1, h3⟩
    · cases h2
  · cases h
theorem nameIx_at {x : Str} {p : Pos} {i : Nat} (h : nameIx c (.Name x p) = some i) : c.N[i]? = some x := by
  unfold nameIx at h
  simp only at h
  split at h
  · exact ixOf_at h
  · cases h
theorem s_par {x y : Str} {px py p p2 : Pos} {k k2 : Nat} {i j : Nat} (G : GoodS X K Wm g c) (hx : nameIx c (.Name x px) = some i) (hy : nameIx c (.Name y py) = some j) (lx : c.sc.names.lookup x = some .local) (ly : c.sc.names.lookup y = some .local) (ne : x ≠ y)
    (hs : noStar [a, b] = true) (ha : SE X K Wm g a ma) (hb : SE X K Wm g b mb) (hw : swappedStores [.Tuple [.Name x px, .Name y py] k p] (.Tuple [a, b] k2 p2) X.env = pure (some [x, y])) :
    SS X K Wm g (.Assign [.Tuple [.Name x px, .Name y py] k p] (.Tuple [a, b] k2 p2) pos) (.par i j (.cons ma (.cons mb .nil))) := by
  have nx := nameIx_at hx
  have ny := nameIx_at hy
  have hij : i ≠ j := fun e => by
    subst e
    rw [nx] at ny
    exact ne (Option.some.inj ny)
  refine PS.imp (L2.ps_par G.calm G.nm.nd (by rw [G.nm.N]; exact nx) (by rw [G.nm.N]; exact ny) hij (by rw [G.nm.sc]; exact lx) (by rw [G.nm.sc]; exact ly) (pa_of (.cons ha (.cons hb .nil)) hs) hw) fun D σ H z => ?_
  refine Sta.imp (tS.parts (ea := evEs g (.cons ma (.cons mb .nil))) (f := fun sm (xs : List MV) h => (match xs with
    | [x, y] => .fl (.nx ((sm.set i (some x)).set j (some y))) h
    | _ => .bad : SRes)) z) fun xs h1 i1 H1 g1 ⟨sm, rs, at1⟩ vs rvs => ?_
  split at at1
  · obtain ⟨v, w, rfl, rv, rw'⟩ := rvs2 rvs
    exact ⟨v, w, rfl, at1.nx g1 ((rs.set i rv).set j rw')⟩
  · exact at1.elim
/-! ### o[i] = v -/
theorem mPut_putK {ι : List Addr} {xs : List (L2.Key × MV)} {vs : List (L2.Key × V)} {k : L2.Key} {x : MV} {v : V} (r : RK K H ι xs vs) (rv : RV K H ι x v) : RK K H ι (mPut xs k x) (L2.putK vs k v) := by
  have any : (vs.any fun p => decide (p.1 = k)) = xs.any fun p => decide (p.1 = k) := by
    induction r with
    | nil => rfl
    | cons h1 r ih => rw [List.any_cons, List.any_cons, ih]
  have map : RK K H ι (xs.map fun p => if p.1 = k then (p.1, x) else p) (vs.map fun p => if p.1 = k then (p.1, v) else p) := by
    clear any
    induction r with
    | nil => exact .nil
    | @cons j y w xs vs h1 r ih =>
      rw [List.map_cons, List.map_cons]
      by_cases e : j = k
      · rw [if_pos e, if_pos e]; exact .cons rv ih
      · rw [if_neg e, if_neg e]; exact .cons h1 ih
  unfold L2.putK mPut
  rw [any]
  split
  · exact map
  · exact r.append (.cons rv .nil)
end
end R

namespace R
open PySem PySem.Spec PyProof.Rows
open L2 (V Hp HO SqL SqT TE TS TT TA VK Cx PE PT PA PS PSs upd Rd RelV Dp DpAll Inv It TI PI PIE FpOk Turn thn TG TGs PG PGs Ends)
section
variable {X : Cx} {ad : Str → Option Addr} {K : KW} {Wm : Wish} {g : Genv} {pos : Pos} {e a b tg o i v : Expr} {c : TC} {m ma mb mc mo mi mv : ME} {D : Ends} {σ : L2.St} {H : Hp}
def rSetAny (X : Cx) : L2.TSet := fun o i v H Q => ∃ r, L2.PSet X r ∧ r o i v H Q
theorem set_any : L2.PSet X (rSetAny X) := fun pins s σ H o i v ov iv u Q I ro ri rv ⟨r, hr, q⟩ => hr pins s σ H o i v ov iv u Q I ro ri rv q
theorem set_dct (hu : X.A.units + 1 < cLine) : L2.PSet X (fun o i v H Q => ∃ a H', o = .ref a ∧ L2.DPut H a i v H' ∧ Q H') := by
  intro pins s σ H o i v ov iv u Q I ro ri rv h
  obtain ⟨a, H', rfl, g, q⟩ := h
  obtain rfl : ov = Value.ref a := ro
  exact L2.d_setItem hu I g ri rv fun s4 I4 => ⟨H', I4, q⟩
def setAt (x y v : MV) (sm : Sm) (h : Hm) : SRes := match x with
    | .ref j => match h[j]? with
      | some (.list xs) => match y with
        | .int k => match L2.ixN xs.length k with
          | some p => .fl (.nx sm) (h.set j (.list (xs.set p v)))
          | none => .bad
        | _ => .bad
      | some (.dict kvs) => match keyOf y with
        | some k => if kvs.length < sizeLine then .fl (.nx sm) (h.set j (.dict (mPut kvs k v))) else .bad
        | none => .bad
      | _ => .bad
    | _ => .bad
theorem RVs.set {K : KW} {H : Hp} {ι : List Addr} {x : MV} {v : V} : ∀ {xs : List MV} {vs : List V} (i : Nat), RVs K H ι xs vs → RV K H ι x v → RVs K H ι (xs.set i x) (vs.set i v)
  | _, _, _, .nil, _ => .nil
  | _, _, 0, .cons _ t, r => .cons r t
  | _, _, i + 1, .cons h t, r => .cons h (RVs.set i t r)
theorem setIx_imp (hu : X.A.units + 65 < cLine) (hK : KW.mk X.K X.w ad = K) : ∀ D σ H, tS K Wm (evS g (.setIx mo mi mv)) D σ H → L2.tAsg (tE K Wm (evE g mv)) (L2.gSub (tE K Wm (evE g mo)) (tE K Wm (evE g mi)) (rSetAny X)) D σ H := fun D σ H z => by
  refine Sta.imp (tS.parts (ea := evE g mv) (f := fun sm (v : MV) h => (evE g mo sm h).on sm fun x h => (evE g mi sm h).on sm fun y h => setAt x y v sm h) z) fun w h1 i1 H1 g1 ⟨sm, rs, at1⟩ v rv => ?_
  refine ⟨i1, h1, sm, g1, rs, (AtS.on rs at1).mono .refl .refl fun x h2 i2 H2 e2 s2 g2 ⟨rs2, at2⟩ u ru => ?_⟩
  refine ⟨i2, h2, sm, g2, rs2, (AtS.on rs2 at2).mono .refl .refl fun y h3 i3 H3 e3 s3 g3 ⟨rs3, at3⟩ t rt => ?_⟩
  have rv3 := rv.mono (e2.trans e3) (s2.trans s3)
  have ru3 := ru.mono e3 s3
  subst hK
  unfold setAt at at3
  split at at3
  · rename_i j _ _
    cases ru3 with
    | @ref _ p ej =>
      split at at3
      · rename_i xs hx
        cases g3.obj j _ p hx ej with
        | @list _ _ ws ha r =>
          split at at3
          · rename_i k _
            cases rt
            split at at3
            · rename_i q hq
              refine ⟨_, L2.set_list, p, ws, k, q, rfl, rfl, ha, by rw [← r.length]; exact hq, ?_⟩
              have st : Stp ⟨X.K, X.w, ad⟩ H3 (upd H3 p (.lst (ws.set q v))) := stp_upd ha trivial
              exact at3 _ _ σ .refl st (g3.upd ej ha trivial (fun ⟨_, z⟩ => by rw [hx] at z; cases z) (.list L2.upd_same ((RVs.set q r rv3).mono .refl st)) rfl) (rs3.mono .refl st)
            · exact at3.elim
          · exact at3.elim
      · rename_i xs hx
        cases g3.obj j _ p hx ej with
        | @dict _ _ ws ha r =>
          split at at3
          · rename_i k hk
            have e := keyOf_rv hk rt
            subst e
            split at at3
            · rename_i hl
              rw [r.length] at hl
              refine ⟨_, set_dct (by omega), p, _, rfl, .inl ⟨ws, k, ha, rfl, hl, rfl⟩, ?_⟩
              have st : Stp ⟨X.K, X.w, ad⟩ H3 (upd H3 p (.dK (L2.putK ws k v))) := stp_upd ha trivial
              exact at3 _ _ σ .refl st (g3.upd ej ha trivial (fun ⟨_, z⟩ => by rw [hx] at z; cases z) (.dict L2.upd_same ((mPut_putK r rv3).mono .refl st)) rfl) (rs3.mono .refl st)
            · exact at3.elim
          · exact at3.elim
      · exact at3.elim
  · exact at3.elim
theorem s_setIx {n : Nat} {p : Pos} (G : GoodS X K Wm g c) (hs : isSlice i = false) (ho : trE n c o = some mo) (hi : trE n c i = some mi) (he : trE n c e = some mv) : SS X K Wm g (.Assign [.Subscript o i p] e pos) (.setIx mo mi mv) := by
  have se := (tr_ok n).e _ _ _ _ _ _ _ G.toGood he
  have so := (tr_ok n).e _ _ _ _ _ _ _ G.toGood ho
  have si := (tr_ok n).e _ _ _ _ _ _ _ G.toGood hi
  exact PS.imp (L2.ps_asg se.pe (L2.pg_sub so.pe si.pe set_any (by cases i <;> first | (intro _; rfl) | cases hs)) (show swapsWith e (some (.Subscript o i p)) pos.line X.env = pure false from swap_tup fun _ _ h => nomatch h) (by cases e <;> rfl)) (setIx_imp G.un G.hK)
/-! ### o.f = e -/
theorem setF_imp {f : Str} (hK : KW.mk X.K X.w ad = K) : ∀ D σ H, tS K Wm (evS g (.setF mo f mv)) D σ H → L2.sFld X.K (tE K Wm (evE g mo)) (tE K Wm (evE g mv)) f D σ H := fun D σ H z => by
  refine Sta.imp (tS.parts (ea := evE g mv) (f := fun sm v h => (evE g mo sm h).on sm fun x h => setFR x f v sm h) z) fun v h1 i1 H1 g1 ⟨sm, rs, at1⟩ y ry => ?_
  refine ⟨i1, h1, sm, g1, rs, (AtS.on rs at1).mono .refl .refl fun x h2 i2 H2 e2 s2 g2 ⟨rs2, at2⟩ t rt => ?_⟩
  have ry2 := ry.mono e2 s2
  subst hK
  unfold setFR at at2
  split at at2
  · rename_i j _
    cases rt with
    | @ref _ a ej =>
      split at at2
      · rename_i ci fs hx
        cases g2.obj j _ a hx ej with
        | @ins _ _ _ C dx ws ha cf r =>
          split at at2
          · rename_i hc
            refine ⟨a, C, dx, ws, rfl, ha, cf.cls, cf.no f hc.1, by rw [← r.length]; exact hc.2, ?_⟩
            have st : Stp ⟨X.K, X.w, ad⟩ H2 (upd H2 a (.ins C dx (L2.putF f y ws))) := stp_upd ha trivial
            exact at2 _ _ σ .refl st (g2.upd ej ha trivial (fun ⟨_, z⟩ => by rw [hx] at z; cases z) (.ins L2.upd_same cf ((RF.put ry2 r).mono .refl st)) rfl) (rs2.mono .refl st)
          · exact at2.elim
      · exact at2.elim
  · exact at2.elim
theorem s_setF {n : Nat} {p : Pos} {f : Str} (G : GoodS X K Wm g c) (ho : trE n c o = some mo) (he : trE n c e = some mv) : SS X K Wm g (.Assign [.Attribute o f p] e pos) (.setF mo f mv) := by
  have se := (tr_ok n).e _ _ _ _ _ _ _ G.toGood he
  have so := (tr_ok n).e _ _ _ _ _ _ _ G.toGood ho
  exact PS.imp (L2.ps_fld so.pe se.pe (swap_tup fun _ _ h => nomatch h)) (setF_imp G.hK)
/-! ### small statements -/
theorem s_expr {n : Nat} (G : GoodS X K Wm g c) (q : trE n c e = some m) (hl : isLC e = false) : SS X K Wm g (.Expr e pos) (.expr m) := by
  have se := (tr_ok n).e _ _ _ _ _ _ _ G.toGood q
  exact PS.imp (L2.ps_expr se.pe (trE_swap q hl)) fun D σ H z => Sta.imp (tS.parts (ea := evE g m) (f := fun sm (_ : MV) h => .fl (.nx sm) h) z) fun x h1 i1 H1 g1 ⟨sm, rs, at1⟩ v rv => at1.nx g1 rs
theorem s_ret {n : Nat} (G : GoodS X K Wm g c) (q : trE n c e = some m) : SS X K Wm g (.Return (some e) pos) (.ret m) := by
  have se := (tr_ok n).e _ _ _ _ _ _ _ G.toGood q
  exact PS.imp (L2.ps_ret se.pe) fun D σ H z => Sta.imp (tS.parts (ea := evE g m) (f := fun sm (x : MV) h => .fl (.ret x) h) z) fun x h1 i1 H1 g1 ⟨sm, rs, at1⟩ v rv => at1 i1 H1 v .refl .refl g1 rv
theorem s_retN : SS X K Wm g (.Return none pos) .retN := PS.imp L2.ps_retN fun D σ H ⟨ι, h, sm, gh, rs, z⟩ => z ι H _ .refl .refl gh .non
theorem s_pass : SS X K Wm g (.Pass pos) .pass := PS.imp L2.ps_pass fun D σ H ⟨ι, h, sm, gh, rs, z⟩ => AtS.nx z gh rs
theorem s_brk : SS X K Wm g (.Break pos) .brk := PS.imp L2.ps_break fun D σ H ⟨ι, h, sm, gh, rs, z⟩ => z ι H σ .refl .refl gh rs
theorem s_cnt : SS X K Wm g (.Continue pos) .cnt := PS.imp L2.ps_continue fun D σ H ⟨ι, h, sm, gh, rs, z⟩ => z ι H σ .refl .refl gh rs
theorem s_doc {x : Str} {k : Nat} {p : Pos} : SS X K Wm g (.Expr (.Constant (.str x) k p) pos) .pass := PS.imp L2.ps_doc fun D σ H ⟨ι, h, sm, gh, rs, z⟩ => AtS.nx z gh rs
abbrev SSs (X : Cx) (K : KW) (Wm : Wish) (g : Genv) (s : List Stmt) (m : MSs) : Prop := PSs X s (tS K Wm (evSs g m))
theorem s_nil : SSs X K Wm g [] .nil := PSs.imp L2.pss_nil fun D σ H ⟨ι, h, sm, gh, rs, z⟩ => AtS.nx z gh rs
theorem s_cons {s : Stmt} {ss : List Stmt} {ms : MS} {mss : MSs} (h1 : SS X K Wm g s ms) (h2 : SSs X K Wm g ss mss) : SSs X K Wm g (s :: ss) (.cons ms mss) := PSs.imp (L2.pss_cons h1 h2) fun D σ H ⟨ι, h, sm, gh, rs, z⟩ => by
  have z : AtS K Wm D ι H ((evS g ms sm h).seq fun sm h => evSs g mss sm h) := z
  refine ⟨ι, h, sm, gh, rs, ?_⟩
  cases e : evS g ms sm h with
  | bad => rw [e] at z; exact z
  | exc c k sm' h' => rw [e] at z; exact z
  | fl f h' =>
    rw [e] at z
    cases f with
    | nx sm' => exact fun i2 H2 σ2 e2 s2 g2 rs2 => ⟨i2, h', sm', g2, rs2, AtS.mono z e2 s2⟩
    | brk sm' => exact z
    | cnt sm' => exact z
    | ret x => exact z
/-- a test first -/
theorem tS.test {f1 f0 : Sm → Hm → SRes} (z : tS K Wm (fun sm h => (evE g m sm h).on sm fun x h => match truth h x with
    | some true => f1 sm h
    | some false => f0 sm h
    | none => .bad) D σ H) : tT K Wm (evT g m) σ H fun k H1 => tS K Wm (fun sm h => if k = true then f1 sm h else f0 sm h) D σ H1 := by
  obtain ⟨ι, h, sm, gh, rs, z⟩ := z
  refine ⟨ι, h, sm, gh, rs, ?_⟩
  have z : AtS K Wm D ι H ((evE g m sm h).on sm fun x h => match truth h x with
    | some true => f1 sm h
    | some false => f0 sm h
    | none => .bad) := z
  show AtR K Wm σ ι H ((evE g m sm h).bind truthR) _
  cases e : evE g m sm h with
  | bad => rw [e] at z; exact z
  | exc c k h' => have z := AtS.on rs z; rw [e] at z; exact z
  | ok x h' =>
    rw [e] at z
    have z : AtS K Wm D ι H (match truth h' x with
      | some true => f1 sm h'
      | some false => f0 sm h'
      | none => .bad) := z
    show AtR K Wm σ ι H (truthR x h') _
    unfold truthR
    cases ht : truth h' x with
    | none => rw [ht] at z; exact z.elim
    | some k =>
      rw [ht] at z
      intro i2 H2 e2 s2 g2
      cases k with
      | true => exact ⟨i2, h', sm, g2, rs.mono e2 s2, AtS.mono z e2 s2⟩
      | false => exact ⟨i2, h', sm, g2, rs.mono e2 s2, AtS.mono z e2 s2⟩
theorem s_if {n : Nat} {p q : List Stmt} {mp mq : MSs} (G : GoodS X K Wm g c) (h : trE n c e = some m) (hp : SSs X K Wm g p mp) (hq : SSs X K Wm g q mq) : SS X K Wm g (.If e p q pos) (.ife m mp mq) := by
  have se := (tr_ok n).e _ _ _ _ _ _ _ G.toGood h
  refine PS.imp (L2.ps_if se.pt hp hq) fun D σ H z => ?_
  refine Sta.imp (tS.test (f1 := evSs g mp) (f0 := evSs g mq) z) fun k h1 i1 H1 _ z => ?_
  obtain ⟨ι, h, sm, gh, rs, z⟩ := z
  cases k with
  | true => exact ⟨ι, h, sm, gh, rs, z⟩
  | false => exact ⟨ι, h, sm, gh, rs, z⟩
/-! ### loops -/
theorem s_while {n : Nat} {body : List Stmt} {mb : MSs} (G : GoodS X K Wm g c) (h : trE n c e = some m) (hb : SSs X K Wm g body mb) : SS X K Wm g (.While e body [] pos) (.while m mb) := by
  have se := (tr_ok n).e _ _ _ _ _ _ _ G.toGood h
  refine PS.imp (L2.ps_while (by rw [G.never]; exact PassesOwn.never) se.pt hb) fun D σ H z => ?_
  generalize hT : (fun (sm : Sm) (h : Hm) => ((evE g m sm h).bind fun x h => match truth h x with
      | some k => .ok k h
      | none => .bad : Res Bool)) = T
  have z : tS K Wm (fun sm h => whileGo T (fun sm h => evSs g mb sm h) whileMost sm h) D σ H := by rw [← hT]; exact z
  generalize whileMost = f0 at z
  refine ⟨fun f σ H => tS K Wm (fun sm h => whileGo T (fun sm h => evSs g mb sm h) f sm h) D σ H, ⟨f0, z⟩, fun f σ H z => ?_⟩
  obtain ⟨ι, h, sm, gh, rs, z⟩ := z
  cases f with
  | zero => exact z.elim
  | succ f =>
    have z : AtS K Wm D ι H ((T sm h).on sm fun k h => match k with
      | false => .fl (.nx sm) h
      | true => match evSs g mb sm h with
        | .fl (.nx sm') h' => whileGo T (fun sm h => evSs g mb sm h) f sm' h'
        | .fl (.cnt sm') h' => whileGo T (fun sm h => evSs g mb sm h) f sm' h'
        | .fl (.brk sm') h' => .fl (.nx sm') h'
        | r => r) := z
    refine ⟨ι, h, sm, gh, rs, ?_⟩
    have eT : T sm h = (evE g m sm h).bind truthR := by rw [← hT]; rfl
    show AtR K Wm σ ι H ((evE g m sm h).bind truthR) _
    rw [← eT]
    cases e : T sm h with
    | bad => rw [e] at z; exact z
    | exc c k h' => have z := AtS.on rs z; rw [e] at z; exact z
    | ok k h' =>
      rw [e] at z
      intro i2 H2 e2 s2 g2
      have rs2 := rs.mono e2 s2
      cases k with
      | false => show D.nx σ H2; exact AtS.nx (AtS.mono z e2 s2) g2 rs2
      | true =>
        show (if true = true then (_ : Prop) else _)
        rw [if_pos rfl]
        have z := AtS.mono z e2 s2
        refine ⟨fun σ' H' => tS K Wm (fun sm h => whileGo T (fun sm h => evSs g mb sm h) f sm h) D σ' H', fun σ' H' q => ⟨f, Nat.lt_succ_self f, q⟩, i2, h', sm, g2, rs2, ?_⟩
        have z : AtS K Wm D i2 H2 (match evSs g mb sm h' with
          | .fl (.nx sm') h' => whileGo T (fun sm h => evSs g mb sm h) f sm' h'
          | .fl (.cnt sm') h' => whileGo T (fun sm h => evSs g mb sm h) f sm' h'
          | .fl (.brk sm') h' => .fl (.nx sm') h'
          | r => r) := z
        cases eb : evSs g mb sm h' with
        | bad => rw [eb] at z; exact z
        | exc c k sm' h3 => rw [eb] at z; exact z
        | fl fl h3 =>
          rw [eb] at z
          cases fl with
          | nx sm' => exact fun i3 H3 σ3 e3 s3 g3 rs3 => ⟨i3, h3, sm', g3, rs3, AtS.mono z e3 s3⟩
          | cnt sm' => exact fun i3 H3 σ3 e3 s3 g3 rs3 => ⟨i3, h3, sm', g3, rs3, AtS.mono z e3 s3⟩
          | brk sm' => exact z
          | ret x => exact z
theorem s_for {n : Nat} {it : Expr} {body : List Stmt} {mb : MSs} {mi : MI} {mt : MT} (G : GoodS X K Wm g c) (h : trI n c tg it = some mi) (ht : trT c tg = some mt) (hb : SSs X K Wm g body mb) : SS X K Wm g (.For tg it body [] pos) (.for mt mi mb) := by
  have hi := (tr_ok n).i _ _ Wm _ _ _ _ _ G.toGood h
  have hg : PG X tg (gM K.f mt) := by
    have z := tg_pg (X := X) G.calm G.nm ht
    rw [← G.hK]
    exact z
  refine PS.imp (L2.ps_for (by rw [G.never]; exact PassesOwn.never) G.calm hi hg hb (folded_ok (trI_noset h))) fun D σ H z => ?_
  generalize hB : (fun (x : MV) (sm : Sm) (h : Hm) => (match bindT mt x sm with
      | some sm => evSs g mb sm h
      | none => .bad : SRes)) = B
  have z : tS K Wm (fun sm h => (evI g mi sm h).on sm fun it h => forGo it B (turns h it + 1) 0 sm h) D σ H := by rw [← hB]; exact z
  refine Sta.imp (tS.parts (ea := evI g mi) (f := fun sm (it : IT) h => forGo it B (turns h it + 1) 0 sm h) z) fun it h1 i1 H1 g1 ⟨sm, rs, at1⟩ J jok => ?_
  generalize turns h1 it + 1 = f0 at at1
  refine ⟨fun i f σ H => ∃ ι h sm, GH K ι h H ∧ RSm K H ι sm σ ∧ Ext i1 ι ∧ Stp K H1 H ∧ AtS K Wm D ι H (forGo it B f i sm h), ⟨f0, i1, h1, sm, g1, rs, .refl, .refl, at1⟩, fun i f σ H z => ?_⟩
  obtain ⟨ι, h, sm, gh, rs, ex, st, z⟩ := z
  cases f with
  | zero => exact z.elim
  | succ f =>
    have j2 := jok ι h H ex st gh i
    unfold forGo at z
    cases hn : nxt h it i with
    | none => rw [hn] at z; exact z.elim
    | some o =>
      rw [hn] at z
      cases o with
      | none => exact .inl ⟨j2.1 hn, AtS.nx z gh rs⟩
      | some x =>
        obtain ⟨hgo, hy⟩ := j2.2 x hn
        refine .inr ⟨hgo, fun σ H => ∃ ι h sm, GH K ι h H ∧ RSm K H ι sm σ ∧ Ext i1 ι ∧ Stp K H1 H ∧ AtS K Wm D ι H (forGo it B f (i + 1) sm h), fun σ' H' q => ⟨f, Nat.lt_succ_self f, q⟩, fun v H' y => ?_⟩
        obtain ⟨s2, g2, rv⟩ := hy v H' y
        have rs2 := rs.mono .refl s2
        have z : AtS K Wm D ι H (match B x sm h with
          | .fl (.nx sm') h' => forGo it B f (i + 1) sm' h'
          | .fl (.cnt sm') h' => forGo it B f (i + 1) sm' h'
          | .fl (.brk sm') h' => .fl (.nx sm') h'
          | r => r) := z
        cases hb2 : bindT mt x sm with
        | none =>
          have eB : B x sm h = .bad := by
            rw [← hB]
            show (match bindT mt x sm with
              | some sm => evSs g mb sm h
              | none => .bad : SRes) = _
            rw [hb2]
          rw [eB] at z
          exact z.elim
        | some sm2 =>
          have eB : B x sm h = evSs g mb sm2 h := by
            rw [← hB]
            show (match bindT mt x sm with
              | some sm => evSs g mb sm h
              | none => .bad : SRes) = _
            rw [hb2]
          rw [eB] at z
          refine gM_ok hb2 rv rs2 fun σ3 rs3 _ _ => ⟨ι, h, sm2, g2, rs3, ?_⟩
          have z := AtS.mono z .refl s2
          cases eb : evSs g mb sm2 h with
          | bad => rw [eb] at z; exact z
          | exc c k sm' h3 => rw [eb] at z; exact z
          | fl fl h3 =>
            rw [eb] at z
            cases fl with
            | nx sm' => exact fun i3 H3 σ3 e3 s3 g3 rs3 => ⟨i3, h3, sm', g3, rs3, ex.trans e3, (st.trans s2).trans s3, AtS.mono z e3 s3⟩
            | cnt sm' => exact fun i3 H3 σ3 e3 s3 g3 rs3 => ⟨i3, h3, sm', g3, rs3, ex.trans e3, (st.trans s2).trans s3, AtS.mono z e3 s3⟩
            | brk sm' => exact z
            | ret x => exact z
end
end R

namespace R
open PySem PySem.Spec PyProof.Rows
open L2 (V Hp HO SqL SqT TE TS TT TA VK Cx PE PT PA PS PSs upd Rd RelV Dp DpAll Inv It TI PI PIE FpOk Turn thn TG TGs PG PGs Ends)
section
variable {X : Cx} {ad : Str → Option Addr} {K : KW} {Wm : Wish} {g : Genv} {pos : Pos} {e a b tg o i v : Expr} {c : TC} {m ma mb mc mo mi mv : ME} {D : Ends} {σ : L2.St} {H : Hp}
theorem s_aug {n : Nat} {x : Str} {px : Pos} {k : Nat} {op : Operator} {bop : BK} (G : GoodS X K Wm g c) (hi : nameIx c (.Name x px) = some k) (ho : bkOf op = some bop) (hb : bop = .add ∨ bop = .sub) (q : trE n c e = some m) :
    SS X K Wm g (.AugAssign (.Name x px) op e pos) (.aug k bop m) := by
  have se := (tr_ok n).e _ _ _ _ _ _ _ G.toGood q
  have nx := nameIx_at hi
  have hloc : L2.Loc X.env.scope x ∧ (X.fn x = true ∨ X.env.scope.names.lookup x = some .local) := by
    have hst : isStore c x = true := by
      unfold nameIx at hi
      simp only at hi
      split at hi
      · assumption
      · cases hi
    unfold isStore at hst
    split at hst
    · rename_i h
      exact ⟨.inl (by rw [G.nm.sc]; exact h), .inr (by rw [G.nm.sc]; exact h)⟩
    · rename_i h
      exact ⟨.inr (by rw [G.nm.sc]; exact h), .inl (G.nm.fn _ hst)⟩
    · cases hst
  have hop : L2.PIp X op (rAny X (inplaceOp op)) := op_any (f := inplaceOp op)
  refine PS.imp (L2.ps_aug G.nm.nd (by rw [G.nm.N]; exact nx) hloc.1 se.pe hop hloc.2) fun D σ H z => ?_
  obtain ⟨ι, h, sm, gh, rs, z⟩ := z
  have z : AtS K Wm D ι H (match sm[k]? with
    | some (some x) => (evE g m sm h).on sm fun y h => (augOp bop x y h).on sm fun z h => .fl (.nx (sm.set k (some z))) h
    | _ => .bad) := z
  cases e1 : sm[k]? with
  | none => rw [e1] at z; exact z.elim
  | some o =>
    cases o with
    | none => rw [e1] at z; exact z.elim
    | some x =>
      rw [e1] at z
      obtain ⟨v, hv, rv⟩ := rs.2 k x e1
      refine ⟨v, hv, ι, h, sm, gh, rs, (AtS.on rs z).mono .refl .refl fun y h1 i1 H1 ex st g1 ⟨rs1, z1⟩ u ru => ?_⟩
      have rv1 := rv.mono ex st
      have z2 := AtS.on rs1 z1
      unfold augOp at z2
      split at z2
      · cases rv1
        cases ru
        split at z2
        · cases op <;> cases ho
          have z3 := AtR.ok z2 g1
          exact ⟨_, L2.iop_add, _, _, rfl, rfl, AtS.nx z3.2 g1 (rs1.set k (.int _))⟩
        · cases op <;> cases ho
          have z3 := AtR.ok z2 g1
          exact ⟨_, L2.iop_sub, _, _, rfl, rfl, AtS.nx z3.2 g1 (rs1.set k (.int _))⟩
        · exact z2.elim
      · cases rv1
        cases ru
        split at z2
        · rename_i hc
          obtain ⟨rfl, hc⟩ := hc
          cases op <;> cases ho
          have z3 := AtR.ok z2 g1
          exact ⟨_, L2.iop_add_str, _, _, rfl, rfl, hc, AtS.nx z3.2 g1 (rs1.set k (.str _))⟩
        · exact z2.elim
      · exact z2.elim
/-! ### all statements -/
structure TsOk (n : Nat) : Prop where
  s : ∀ (X : Cx) (K : KW) (Wm : Wish) (g : Genv) (c : TC) (s : Stmt) (m : MS), GoodS X K Wm g c → trS n c s = some m → SS X K Wm g s m
  ss : ∀ (X : Cx) (K : KW) (Wm : Wish) (g : Genv) (c : TC) (s : List Stmt) (m : MSs), GoodS X K Wm g c → trSs n c s = some m → SSs X K Wm g s m
theorem trS_step {n : Nat} (ih : TsOk n) {s : Stmt} {m : MS} (G : GoodS X K Wm g c) (q : trS (n + 1) c s = some m) : SS X K Wm g s m := by
  unfold trS at q
  split at q
  · split at q
    · rename_i h1 h2
      cases q
      exact s_set G h1 h2
    · cases q
  · split at q
    · cases q
    · rename_i is hi
      split at q
      · rename_i vs k p
        split at q
        · rename_i hp
          split at q
          · rename_i i j ms hms
            cases q
            obtain ⟨hl, x, px, y, py, rfl, lx, ly, ne, hs, hw⟩ := parOk_par G.nm.sc G.kind hp
            obtain ⟨i', j', e, hx, hy⟩ := names2 (ts := []) hi
            cases e
            match vs, hl, hms, hs, hw with
            | [a, b], _, hms, hs, hw =>
              unfold mapEs at hms
              split at hms
              · rename_i ma mbs ha hbs
                cases hms
                unfold mapEs at hbs
                split at hbs
                · rename_i mb mcs hb hcs
                  cases hbs
                  cases hcs
                  exact s_par G hx hy lx ly ne hs ((tr_ok n).e _ _ _ _ _ _ _ G.toGood ha) ((tr_ok n).e _ _ _ _ _ _ _ G.toGood hb) (hw _ _ _ _)
                · cases hbs
              · cases hms
          · cases q
        · split at q
          · rename_i hn
            rw [Option.map_eq_some_iff] at q
            obtain ⟨m', h1, h2⟩ := q
            subst h2
            exact s_unp G hi h1 (noPar_none G.nm.sc G.kind hn)
          · cases q
      · cases q
      · rename_i hnt hnl
        rw [Option.map_eq_some_iff] at q
        obtain ⟨m', h1, h2⟩ := q
        subst h2
        refine s_unp G hi h1 (isTup_not ?_)
        unfold isTupE
        split
        · exact absurd rfl (hnt _ _ _)
        · rfl
  · split at q
    · cases q
    · rename_i hs
      split at q
      · rename_i h1 h2 h3
        cases q
        exact s_setIx G (by simpa using hs) h1 h2 h3
      · cases q
  · split at q
    · rename_i h1 h2
      cases q
      exact s_setF G h1 h2
    · cases q
  · split at q
    · rename_i h1 h2 h3
      split at q
      · rename_i hb
        cases q
        exact s_aug G h1 h2 hb h3
      · cases q
    · cases q
  · split at q
    · cases q
    · cases q
      exact s_doc
    · rename_i hnl _
      rw [Option.map_eq_some_iff] at q
      obtain ⟨m', h1, h2⟩ := q
      subst h2
      refine s_expr G h1 ?_
      unfold isLC
      split
      · exact absurd rfl (hnl _ _ _ _)
      · rfl
  · rw [Option.map_eq_some_iff] at q
    obtain ⟨m', h1, h2⟩ := q
    subst h2
    exact s_ret G h1
  · cases q
    exact s_retN
  · split at q
    · rename_i h1 h2 h3
      cases q
      exact s_if G h1 (ih.ss _ _ _ _ _ _ _ G h2) (ih.ss _ _ _ _ _ _ _ G h3)
    · cases q
  · split at q
    · rename_i h1 h2 h3
      cases q
      exact s_for G h1 h2 (ih.ss _ _ _ _ _ _ _ G h3)
    · cases q
  · split at q
    · rename_i h1 h2
      cases q
      exact s_while G h1 (ih.ss _ _ _ _ _ _ _ G h2)
    · cases q
  · cases q; exact s_pass
  · cases q; exact s_brk
  · cases q; exact s_cnt
  · cases q
theorem trSs_step {n : Nat} (ih : TsOk n) {s : List Stmt} {m : MSs} (G : GoodS X K Wm g c) (q : trSs (n + 1) c s = some m) : SSs X K Wm g s m := by
  cases s with
  | nil => cases q; exact s_nil
  | cons s ss =>
    unfold trSs at q
    split at q
    · rename_i h1 h2
      cases q
      exact s_cons (ih.s _ _ _ _ _ _ _ G h1) (ih.ss _ _ _ _ _ _ _ G h2)
    · cases q
theorem ts_ok (n : Nat) : TsOk n := by
  induction n with
  | zero =>
    refine ⟨?_, ?_⟩
    · intro X K Wm g c s m G q; cases q
    · intro X K Wm g c s m G q; cases q
  | succ n ih =>
    refine ⟨?_, ?_⟩
    · intro X K Wm g c s m G q; exact trS_step ih G q
    · intro X K Wm g c s m G q; exact trSs_step ih G q
end
end R

namespace R
open PySem PySem.Spec PyProof.Rows
open L2 (V Hp HO SqL SqT TE TS TT TA VK Cx PE PT PA PS PSs upd Rd RelV Dp DpAll Inv It TI PI PIE FpOk Turn thn TG TGs PG PGs Ends)
abbrev W0 : Wish := fun _ _ _ _ _ _ => False
section
variable {P : Program} {w : World} {K : PySem.W.Frag} {mg : Str → Option Value} {ad : Str → Option Addr} {base : Heap}
/-- how a def's promise follows from its body -/
def FnRule (P : Program) (w : World) (K : PySem.W.Frag) (mg : Str → Option Value) (base : Heap) (st : Stmt) (N : List Str) (f : Str) (fa : Addr) (fd : FuncData) (ps : List Str) : Prop :=
  ∀ (k : Nat) (sp : L2.Sp), (∀ vs H Q E, sp vs H Q E → vs.length = ps.length) →
    (∀ (cdv : Value) (A : Around) (outer : List Env) (s : Shared) (H : Hp) (vs : List V) (Q : VK) (E : L2.XK), L2.Room k (A.deeper (envOfC f (L2.defScope st) s.heap.objs.size fa cdv)) → sp vs H Q E →
      ∃ t, PSs (L2.cxOf L2.CX0 P w K mg base N f (L2.defScope st) fa cdv A outer s H E).nox (L2.defBody st) t ∧ t { nx := fun _ H' => Q .non H', rt := Q } (L2.start N vs) H) → L2.FnOk P w K mg base L2.CX0 (k + 1) fa fd ps sp
theorem FnRule.of {st : Stmt} {N ps : List Str} {x f : Str} {fa : Addr} {fd : FuncData} (F : L2.Fun K x f st fa fd) (S : L2.FnScope N ps (L2.defScope st)) : FnRule P w K mg base st N f fa fd ps := fun k sp len h => F.ok S len h
/-- a look at a def's names -/
def okN (N : List Str) : Bool := N.all fun x => !(x == ("__debug__" : Str)) && !(x == ("__classdict__" : Str))
/-- a def of the text, its place, its small form -/
structure EntAt (P : Program) (w : World) (K : PySem.W.Frag) (mg : Str → Option Value) (ad : Str → Option Addr) (pg : Pg) (p : Prog) (f : Str) (d : DI) (fa : Addr) (fd : FuncData) : Prop where
  ex : ∃ (st : Stmt) (N : List Str) (body : MSs) (n : Nat), (∀ base, FnRule P w K mg base st N f fa fd d.ps) ∧
    (∀ j, j ≤ d.ds.length → ∃ (ds : List Value) (dvs : List V), L2.Binds K fd d.ps ds ∧ L2.Vals dvs ds ∧ ∀ H ι, RVs (KW.mk K w ad) H ι (d.ds.drop j) dvs) ∧ (∀ z ∈ d.kws, KwB (KW.mk K w ad) fd d.ps d.ds z) ∧
    N.Nodup ∧ okN N = true ∧ (L2.defScope st).kind = .function ∧ d.ps.length ≤ N.length ∧ trSs n ⟨pg, N, L2.defScope st, fun _ => true⟩ (L2.defBody st) = some body ∧ p.defs f = some ⟨d.ps.length, N.length, body⟩
structure Ent (P : Program) (w : World) (K : PySem.W.Frag) (mg : Str → Option Value) (ad : Str → Option Addr) (pg : Pg) (p : Prog) (f : Str) (d : DI) : Prop where
  ex : ∃ (fa : Addr) (fd : FuncData), EntAt P w K mg ad pg p f d fa fd ∧ mg f = some (.ref fa) ∧ PySem.W.keepIn K (.ref fa) = true ∧ (f == ("__debug__" : Str)) = false
/-- a class of the text -/
structure ClsEnt (P : Program) (w : World) (K : PySem.W.Frag) (mg : Str → Option Value) (ad : Str → Option Addr) (pg : Pg) (p : Prog) (x : Str) (k : KI) : Prop where
  ex : ∃ (C fa : Addr) (fd : FuncData), EntAt P w K mg ad pg p k.ki.init k.d fa fd ∧ mg x = some (.ref C) ∧ L2.Mk K C fa ∧ ClsFact (KW.mk K w ad) k.ki.ci C ∧ p.cls x = some k.ki ∧ p.defs x = none ∧ (x == ("__debug__" : Str)) = false
/-- the text as the small program tells -/
structure TextOk (P : Program) (w : World) (K : PySem.W.Frag) (mg : Str → Option Value) (ad : Str → Option Addr) (pg : Pg) (p : Prog) : Prop where
  defs : ∀ f d, lkS pg.defs f = some d → Ent P w K mg ad pg p f d
  clss : ∀ x k, lkS pg.clss x = some k → ClsEnt P w K mg ad pg p x k
  glob : ∀ x, x ∈ bltNames → mg x = none
  exts : ∀ x, lkS pg.exts x = some "math.gcd" → mg x = some (.builtin "math.gcd") ∧ (x == ("__debug__" : Str)) = false
  cons : ∀ x v, pg.cons.contains x = true → p.cons x = some v → (x == ("__debug__" : Str)) = false ∧ ∃ u w', mg x = some u ∧ RelV w' u ∧ ∀ H ι, RV (KW.mk K w ad) H ι v w'
theorem callN_len {p : Prog} {f : Str} {n : Nat} {d : Def} (hd : p.defs f = some d) {xs : List MV} {h : Hm} (hl : xs.length ≠ d.ps) : callN p n f xs h = .bad := by
  cases n with
  | zero => rfl
  | succ n =>
    unfold callN
    rw [hd]
    exact if_neg hl
theorem start_rsm {K : KW} {H : Hp} {ι : List Addr} {N : List Str} {xs : List MV} {vs : List V} (r : RVs K H ι xs vs) (hl : xs.length ≤ N.length) : RSm K H ι (xs.map some ++ List.replicate (N.length - xs.length) none) (L2.start N vs) := by
  have el : xs.length = vs.length := r.length
  refine ⟨?_, fun i x e => ?_⟩
  · unfold L2.start
    rw [List.length_append, List.length_append, List.length_map, List.length_map, List.length_replicate, List.length_replicate, el]
    exact Nat.le_refl _
  · by_cases hi : i < xs.length
    · rw [List.getElem?_append_left (by rw [List.length_map]; exact hi), List.getElem?_map, Option.map_eq_some_iff] at e
      obtain ⟨y, e1, e2⟩ := e
      cases e2
      obtain ⟨v, h1, h2⟩ := r.get e1
      refine ⟨v, ?_, h2⟩
      unfold L2.start
      rw [List.getElem?_append_left (by rw [List.length_map, ← el]; exact hi), List.getElem?_map, h1]
      rfl
    · rw [List.getElem?_append_right (by rw [List.length_map]; omega)] at e
      have := (List.mem_replicate.mp (List.mem_of_getElem? e)).2
      cases this
/-- a promise of nothing -/
theorem fn_vac {K' : KW} {k m : Nat} {fa : Addr} {fd : FuncData} {ps : List Str} (hm : m = ps.length) {F : List MV → Hm → Res MV} (hF : ∀ xs h, F xs h = .bad) : L2.FnOk P w K mg base L2.CX0 k fa fd ps (spG K' F m) := by
  refine ⟨fun vs H Q E z => z.1.trans hm, fun A outer s H args us vs Q E _ _ _ _ z => ?_⟩
  obtain ⟨_, ι, h, xs, _, _, z⟩ := z
  rw [hF] at z
  exact z.elim
/-- the small program's answers are the text's -/
theorem defs_ok {pg : Pg} {p : Prog} (T : TextOk P w K mg ad pg p) : ∀ (n : Nat) (f : Str) (d : DI) (fa : Addr) (fd : FuncData), EntAt P w K mg ad pg p f d fa fd →
    L2.FnOk P w K mg base L2.CX0 (n + 1) fa fd d.ps (spG (KW.mk K w ad) (callN p n f) d.ps.length) := by
  intro n
  induction n using Nat.strongRecOn with
  | ind n ihs =>
  intro f d fa fd En
  cases n with
  | zero => exact fn_vac rfl fun _ _ => rfl
  | succ n =>
    have ih := ihs n (Nat.lt_succ_self n)
    obtain ⟨st, N, body, k, hr, hb, hkb, nd, hN, hkd, hpl, htr, hp⟩ := En.ex
    refine hr base (n + 1) _ (fun vs H Q E z => z.1) fun cdv A outer s H vs Q E room z => ?_
    obtain ⟨hl, ι, hh, xs, gh, rv, z⟩ := z
    have good : GoodS (L2.cxOf L2.CX0 P w K mg base N f (L2.defScope st) fa cdv A outer s H E).nox (KW.mk K w ad) W0 ⟨p.cons, callN p n⟩ ⟨pg, N, L2.defScope st, fun _ => true⟩ :=
      { nm := ⟨rfl, nd, rfl, fun _ _ => rfl⟩
        hK := rfl
        hW := fun _ _ _ _ _ _ z => z
        calm := rfl
        un := by
          have := room.un
          show (A.deeper (envOfC f (L2.defScope st) s.heap.objs.size fa cdv)).units + 65 < cLine
          omega
        nn := fun x hx => by
          have := List.all_eq_true.mp hN x hx
          simpa using this
        defs := fun f' d' h' => by
          obtain ⟨fa', fd', En', hm', hk', hdb'⟩ := (T.defs f' d' h').ex
          have F' := ih f' d' fa' fd' En'
          obtain ⟨_, N', body', _, _, hb', hkb', _, _, _, _, _, hp'⟩ := En'.ex
          exact ⟨⟨fun xs h hne => callN_len hp' hne, n + 1, fa', fd', F', room, hm', hk', hb', hkb'⟩, hdb'⟩
        clss := fun x' k' h' => by
          obtain ⟨C', fa', fd', En', hm', mk', cf', hc', hd', hdb'⟩ := (T.clss x' k' h').ex
          have hb' := En'.ex
          obtain ⟨_, N', body', _, _, hb', _, _, _, _, _, _, hp'⟩ := hb'
          refine ⟨⟨?_⟩, hdb'⟩
          cases n with
          | zero => exact ⟨0, fun _ _ => .bad, fa', C', fd', fun _ _ _ => rfl, fun _ _ => rfl, fn_vac rfl fun _ _ => rfl, room, hm', mk', cf', hb'⟩
          | succ m =>
            refine ⟨m + 1, callN p m k'.ki.init, fa', C', fd', fun xs h hne => callN_len hp' hne, fun xs h => ?_, ihs m (by omega) _ _ _ _ En', room, hm', mk', cf', hb'⟩
            show callN p (m + 1) x' xs h = _
            unfold callN
            rw [hd', hc']
        glob := T.glob
        exts := T.exts
        cons := fun x v h1 h2 => T.cons x v h1 h2
        never := rfl
        kind := hkd }
    refine ⟨_, (ts_ok k).ss _ _ _ _ _ _ _ good htr, ι, hh, xs.map some ++ List.replicate (N.length - xs.length) none, gh, start_rsm rv (by rw [rv.length, hl]; exact hpl), ?_⟩
    have z : AtR (KW.mk K w ad) (fun _ _ _ _ _ _ => False) [] ι H (match p.defs f with
      | some d => if xs.length = d.ps then match evSs ⟨p.cons, callN p n⟩ d.body (xs.map some ++ List.replicate (d.ns - xs.length) none) hh with
          | .fl (.ret v) h => .ok v h
          | .fl (.nx _) h => .ok .non h
          | .exc c e _ h => .exc c e h
          | _ => .bad
        else .bad
      | none => match p.cls f with
        | some k => mkR k.ci (callN p n k.init) xs hh
        | none => .bad) (PQ (KW.mk K w ad) Q) := z
    rw [hp] at z
    simp only at z
    rw [if_pos (by rw [rv.length, hl])] at z
    cases e : evSs ⟨p.cons, callN p n⟩ body (xs.map some ++ List.replicate (N.length - xs.length) none) hh with
    | bad => rw [e] at z; exact z.elim
    | exc c k sm h' => rw [e] at z; exact fun i2 H2 σ2 e2 s2 g2 _ => z i2 H2 e2 s2 g2
    | fl fl h' =>
      rw [e] at z
      cases fl with
      | nx sm => exact fun i2 H2 σ2 e2 s2 g2 _ => z i2 H2 e2 s2 g2 _ .non
      | brk sm => exact z.elim
      | cnt sm => exact z.elim
      | ret v => exact fun i2 H2 v e2 s2 g2 rv => z i2 H2 e2 s2 g2 v rv
/-- the law's own end: a small program whose law answers True -/
theorem fz_of {K : KW} {H : Hp} {a : Addr} {vs : List V} (hO : L2.Only H) (h : SqL K.f H a vs) : FzL K H a vs := by
  rcases h with (h | h) | h
  · rcases hO a with z | ⟨o, xs, z⟩
    · rw [h] at z; cases z
    · rw [h] at z; cases z
  · exact .inl h
  · exact .inr h
theorem law_sp {p : Prog} {n : Nat} {K : KW} {H : Hp} {a : Addr} {ns : List Int} (hO : L2.Only H) (hS : SqL K.f H a (ns.map V.int)) {h' : Hm} (z : callN p n "law" [.ref 0] [.frz (ns.map .int)] = .ok (.bl true) h') :
    spG K (callN p n "law") 1 [.ref a] H (fun v _ => v = .bl true) fun _ _ _ => False := by
  refine ⟨rfl, [a], [.frz (ns.map .int)], [.ref 0], ⟨rfl, fun i o b e1 e2 => ?_, fun i j b e1 e2 => ?_⟩, .cons (.ref rfl) .nil, ?_⟩
  · cases i with
    | zero =>
      cases e1
      cases e2
      exact .frz (fz_of hO hS) (ints_rvs ns)
    | succ i => simp at e1
  · cases i with
    | zero =>
      cases j with
      | zero => exact .inl rfl
      | succ j => simp at e2
    | succ i => simp at e1
  · rw [z]
    intro i2 H2 _ _ _ v rv
    cases rv
    rfl
theorem walk {l : PySem.W.OpenLaw} {q : Program} {loose : List Str} {XP : (Str → Option Value) → Heap → Prop} {YP : World → Heap → Prop} {d : DefRec} {K : Params → PySem.W.Frag} {pg : Pg} {p : Prog} {n : Nat} (hn : l.most = some 63) (hdf : d.params.defaults = []) (hd : d.name = "law")
    (hr : L2.Room (n + 1) callerA) (hY : ∀ (w : World) (h : Heap), YP w h → (K w.params).In h)
    (F : ∀ (w : World) (mg : Str → Option Value) (fa : Addr) (h : Heap), (K w.params).In h → h.Ns mainGlobals mg → mg "law" = some (.ref fa) →
      ∃ (fd : FuncData) (ad : Str → Option Addr), (∀ (s : Shared) (u : Value), BindsTo s fd ⟨[u], []⟩ [("script", u)]) ∧ TextOk l.prog w (K w.params) mg ad pg p ∧ EntAt l.prog w (K w.params) mg ad pg p "law" ⟨["script"], [], []⟩ fa fd)
    (spec : ∀ ns : List Int, ns.length ≤ 63 → ∃ h', callN p n "law" [.ref 0] [.frz (ns.map .int)] = .ok (.bl true) h') :
    PySem.W.WalkO q loose XP YP l.row.toRowW d [] (fun f vs => PySem.call f vs) :=
  L2.walk_of (n := 63) (k := n + 1) (x := "script") (CX := fun _ => L2.CX0) (sp := fun w vs H Q E => ∀ ad, spG (KW.mk (K w.params) w ad) (callN p n "law") 1 vs H Q E) hn (by decide) hdf hr hY (fun w mg fa h h1 h2 h3 => by
    rw [hd] at h3
    obtain ⟨fd, ad, hb, T, E⟩ := F w mg fa h h1 h2 h3
    exact ⟨fd, hb, fun base _ _ => (defs_ok T n _ _ fa fd E).imp (fun _ _ _ _ z => z ad)⟩) (fun w H a ns hl hO hS => by
    obtain ⟨h', z⟩ := spec ns hl
    exact fun ad => law_sp hO hS z) fun _ _ _ _ _ z => z
inductive AllE (Q : Str → DI → Prop) : List (Str × DI) → Prop where
  | nil : AllE Q []
  | cons {f : Str} {d : DI} {r : List (Str × DI)} : Q f d → AllE Q r → AllE Q ((f, d) :: r)
theorem AllE.at {Q : Str → DI → Prop} {l : List (Str × DI)} (a : AllE Q l) {f : Str} {d : DI} (h : lkS l f = some d) : Q f d := by
  induction a with
  | nil => cases h
  | cons q r ih =>
    unfold lkS at h
    split at h
    · rename_i e
      cases h
      rw [← e]
      exact q
    · exact ih h
inductive AllN (Q : Str → Prop) : List Str → Prop where
  | nil : AllN Q []
  | cons {x : Str} {r : List Str} : Q x → AllN Q r → AllN Q (x :: r)
theorem AllN.at {Q : Str → Prop} {l : List Str} (a : AllN Q l) {x : Str} (h : x ∈ l) : Q x := by
  induction a with
  | nil => cases h
  | cons q r ih =>
    rcases List.mem_cons.mp h with e | h
    · rw [e]; exact q
    · exact ih h
end
/-- the body of a class statement -/
def cBody : Stmt → List Stmt := C8.clsBody
end R

/-! R: reasoning about the small programs. -/
universe u
namespace R
open PySem
section
variable {α β : Type} {P Q : α → Hm → Prop}
/-- it ends well, and P holds of the answer -/
def Res.ens (r : Res α) (P : α → Hm → Prop) : Prop := match r with
  | .ok a h => P a h
  | _ => False
theorem ens_ok {a : α} {h : Hm} : (Res.ok a h).ens P = P a h := rfl
theorem ens_bad : (Res.bad : Res α).ens P = False := rfl
theorem ens_bind {r : Res α} {f : α → Hm → Res β} {P : β → Hm → Prop} : (r.bind f).ens P = r.ens fun a h => (f a h).ens P := by cases r <;> rfl
theorem Res.ens.mono {r : Res α} (h : r.ens P) (f : ∀ a h, P a h → Q a h) : r.ens Q := by
  cases r <;> first | exact f _ _ h | exact h
theorem Res.ens.get {r : Res α} (h : r.ens P) : ∃ a h', r = .ok a h' ∧ P a h' := by
  cases r <;> first | exact ⟨_, _, rfl, h⟩ | exact h.elim
theorem ens_ite {c : Prop} [Decidable c] {r : Res α} : (if c then r else .bad).ens P = (c ∧ r.ens P) := by
  by_cases h : c <;> simp [h, Res.ens]
theorem ens_itn {c : Prop} [Decidable c] {r s : Res α} : (if c then r else s).ens P = ((c → r.ens P) ∧ (¬ c → s.ens P)) := by
  by_cases h : c <;> simp [h]
theorem ens_congr {r r' : Res α} (h : r = r') : r.ens P = r'.ens P := by rw [h]
/-- statements -/
def SRes.ens (r : SRes) (P : Fl → Hm → Prop) : Prop := match r with
  | .fl f h => P f h
  | _ => False
theorem sens_congr {r r' : SRes} {P : Fl → Hm → Prop} (h : r = r') : r.ens P = r'.ens P := by rw [h]
def seqP (f : Sm → Hm → SRes) (P : Fl → Hm → Prop) : Fl → Hm → Prop := fun fl h => match fl with
  | .nx sm => (f sm h).ens P
  | fl => P fl h
theorem sens_fl {f : Fl} {h : Hm} {P : Fl → Hm → Prop} : (SRes.fl f h).ens P = P f h := rfl
theorem sens_bad {P : Fl → Hm → Prop} : SRes.bad.ens P = False := rfl
theorem sens_on {r : Res α} {sm : Sm} {f : α → Hm → SRes} {P : Fl → Hm → Prop} : (r.on sm f).ens P = r.ens fun a h => (f a h).ens P := by cases r <;> rfl
theorem sens_seq {r : SRes} {f : Sm → Hm → SRes} {P : Fl → Hm → Prop} : (r.seq f).ens P = r.ens (seqP f P) := by
  cases r with
  | fl g h => cases g <;> rfl
  | exc _ _ _ _ => rfl
  | bad => rfl
theorem SRes.ens.mono {r : SRes} {P Q : Fl → Hm → Prop} (h : r.ens P) (f : ∀ a h, P a h → Q a h) : r.ens Q := by
  cases r <;> first | exact f _ _ h | exact h
theorem seqP_nx {f : Sm → Hm → SRes} {P : Fl → Hm → Prop} {sm : Sm} {h : Hm} : seqP f P (.nx sm) h = (f sm h).ens P := rfl
theorem seqP_ret {f : Sm → Hm → SRes} {P : Fl → Hm → Prop} {v : MV} {h : Hm} : seqP f P (.ret v) h = P (.ret v) h := rfl
theorem seqP_brk {f : Sm → Hm → SRes} {P : Fl → Hm → Prop} {sm : Sm} {h : Hm} : seqP f P (.brk sm) h = P (.brk sm) h := rfl
theorem seqP_cnt {f : Sm → Hm → SRes} {P : Fl → Hm → Prop} {sm : Sm} {h : Hm} : seqP f P (.cnt sm) h = P (.cnt sm) h := rfl
theorem sens_ite {c : Prop} [Decidable c] {r : SRes} {P : Fl → Hm → Prop} : (if c then r else .bad).ens P = (c ∧ r.ens P) := by
  by_cases h : c <;> simp [h, SRes.ens]
/-- by a truth -/
def byT (t : Option Bool) (a b : Res α) : Res α := match t with
  | some true => a
  | some false => b
  | none => .bad
theorem ens_byT {k : Bool} {a b : Res α} : (byT (some k) a b).ens P = ((k = true → a.ens P) ∧ (k = false → b.ens P)) := by
  cases k <;> simp [byT]
def byS (t : Option Bool) (a b : SRes) : SRes := match t with
  | some true => a
  | some false => b
  | none => .bad
theorem sens_byS {k : Bool} {a b : SRes} {P : Fl → Hm → Prop} : (byS (some k) a b).ens P = ((k = true → a.ens P) ∧ (k = false → b.ens P)) := by
  cases k <;> simp [byS]
def truB (t : Option Bool) (f : Bool → Res α) : Res α := match t with
  | some k => f k
  | none => .bad
theorem truB_some {k : Bool} {f : Bool → Res α} : truB (some k) f = f k := rfl
end
section
variable {g : Genv} {sm : Sm} {h : Hm} {P : MV → Hm → Prop} {a b c e : ME} {as : MEs} {i : Nat}
theorem e_lit {v : MV} : evE g (.lit v) sm h = .ok v h := rfl
/-- a new object's end -/
def newE (o : MO) (P : MV → Hm → Prop) (h : Hm) : Prop := P (.ref h.length) (h ++ [o])
theorem newE_congr {o o' : MO} {P : MV → Hm → Prop} {h : Hm} (e : o = o') : newE o P h = newE o' P h := by rw [e]
def varR (o : Option (Option MV)) (h : Hm) : Res MV := match o with
  | some (some v) => .ok v h
  | _ => .bad
theorem varR_some {v : MV} : varR (some (some v)) h = .ok v h := rfl
theorem e_vr : evE g (.var i) sm h = varR sm[i]? h := rfl
theorem e_var {v : MV} (q : sm[i]? = some (some v)) : evE g (.var i) sm h = .ok v h := by
  show (match sm[i]? with
    | some (some v) => (.ok v h : Res MV)
    | _ => .bad) = _
  rw [q]
theorem e_bin {op : BK} : evE g (.bin op a b) sm h = (evE g a sm h).bind fun x h => (evE g b sm h).bind fun y h => binop op x y h := rfl
def negR (x : MV) (h : Hm) : Res MV := match x with
  | .int i => .ok (.int (-i)) h
  | _ => .bad
theorem negR_int {i : Int} : negR (.int i) h = .ok (.int (-i)) h := rfl
theorem e_neg : evE g (.neg a) sm h = (evE g a sm h).bind negR := rfl
theorem e_and : evE g (.and a b) sm h = (evE g a sm h).bind fun x h => byT (truth h x) (evE g b sm h) (.ok x h) := rfl
theorem e_or : evE g (.or a b) sm h = (evE g a sm h).bind fun x h => byT (truth h x) (.ok x h) (evE g b sm h) := rfl
theorem e_not : evE g (.not a) sm h = (evE g a sm h).bind fun x h => truB (truth h x) fun k => .ok (.bl (!k)) h := rfl
theorem e_cmp {op : CK} : evE g (.cmp op a b) sm h = (evE g a sm h).bind fun x h => (evE g b sm h).bind fun y h => cmpR op x y h := rfl
theorem e_chn {op op' : CK} : evE g (.chn op op' a b c) sm h = (evE g a sm h).bind fun x h => (evE g b sm h).bind fun y h => byT (cmp op x y h) ((evE g c sm h).bind fun z h => cmpR op' y z h) (.ok (.bl false) h) := rfl
theorem e_ife : evE g (.ife c a b) sm h = (evE g c sm h).bind fun x h => byT (truth h x) (evE g a sm h) (evE g b sm h) := rfl
theorem e_tup : evE g (.tup as) sm h = (evEs g as sm h).bind fun xs h => if xs.length ≤ sizeLine then .ok (.tup xs) h else .bad := rfl
theorem e_lst : evE g (.lst as) sm h = (evEs g as sm h).bind fun xs h => if xs.length ≤ sizeLine then new (.list xs) h else .bad := rfl
theorem e_dnew : evE g .dnew sm h = new (.dict []) h := rfl
theorem e_ix : evE g (.ix a b) sm h = (evE g a sm h).bind fun x h => (evE g b sm h).bind fun y h => ixAt x y h := rfl
theorem e_rev : evE g (.rev a) sm h = (evE g a sm h).bind fun x h => revAt x h := rfl
theorem e_call {f : Str} {ds : List MV} : evE g (.call f as ds) sm h = (evEs g as sm h).bind fun xs h => g.call f (xs ++ ds) h := rfl
theorem e_bi {f : BI} : evE g (.bi f as) sm h = (evEs g as sm h).bind fun xs h => bi f xs h := rfl
theorem e_meth {m : MK} : evE g (.meth m a as) sm h = (evE g a sm h).bind fun x h => if kind h x = some (mkind m) then (evEs g as sm h).bind fun xs h => meth m x xs h else .bad := rfl
theorem e_nil : evEs g .nil sm h = .ok [] h := rfl
theorem e_cons : evEs g (.cons a as) sm h = (evE g a sm h).bind fun x h => (evEs g as sm h).bind fun xs h => .ok (x :: xs) h := rfl
theorem t_nil : evTs g .nil sm h = .ok true h := rfl
theorem t_one : evTs g (.cons a .nil) sm h = (evE g a sm h).bind fun x h => truB (truth h x) fun k => .ok k h := rfl
/-! the same, under «it ends well, and P» -/
theorem w_lit {v : MV} : (evE g (.lit v) sm h).ens P = P v h := rfl
theorem w_var : (evE g (.var i) sm h).ens P = (varR sm[i]? h).ens P := rfl
theorem w_varS {v : MV} : (varR (some (some v)) h).ens P = P v h := rfl
theorem w_bin {op : BK} : (evE g (.bin op a b) sm h).ens P = (evE g a sm h).ens fun x h => (evE g b sm h).ens fun y h => (binop op x y h).ens P := by rw [e_bin]; simp only [ens_bind]
theorem w_neg : (evE g (.neg a) sm h).ens P = (evE g a sm h).ens fun x h => (negR x h).ens P := by rw [e_neg]; simp only [ens_bind]
theorem w_and : (evE g (.and a b) sm h).ens P = (evE g a sm h).ens fun x h => (byT (truth h x) (evE g b sm h) (.ok x h)).ens P := by rw [e_and]; simp only [ens_bind]
theorem w_or : (evE g (.or a b) sm h).ens P = (evE g a sm h).ens fun x h => (byT (truth h x) (.ok x h) (evE g b sm h)).ens P := by rw [e_or]; simp only [ens_bind]
theorem w_not : (evE g (.not a) sm h).ens P = (evE g a sm h).ens fun x h => (truB (truth h x) fun k => .ok (.bl (!k)) h).ens P := by rw [e_not]; simp only [ens_bind]
theorem w_cmp {op : CK} : (evE g (.cmp op a b) sm h).ens P = (evE g a sm h).ens fun x h => (evE g b sm h).ens fun y h => (cmpR op x y h).ens P := by rw [e_cmp]; simp only [ens_bind]
theorem w_chn {op op' : CK} : (evE g (.chn op op' a b c) sm h).ens P = (evE g a sm h).ens fun x h => (evE g b sm h).ens fun y h => (byT (cmp op x y h) ((evE g c sm h).bind fun z h => cmpR op' y z h) (.ok (.bl false) h)).ens P := by rw [e_chn]; simp only [ens_bind]
theorem w_ife : (evE g (.ife c a b) sm h).ens P = (evE g c sm h).ens fun x h => (byT (truth h x) (evE g a sm h) (evE g b sm h)).ens P := by rw [e_ife]; simp only [ens_bind]
theorem w_tup : (evE g (.tup as) sm h).ens P = (evEs g as sm h).ens fun xs h => xs.length ≤ sizeLine ∧ P (.tup xs) h := by rw [e_tup]; simp only [ens_bind, ens_ite, ens_ok]
theorem w_lst : (evE g (.lst as) sm h).ens P = (evEs g as sm h).ens fun xs h => xs.length ≤ sizeLine ∧ newE (.list xs) P h := by rw [e_lst]; simp only [ens_bind, ens_ite]; rfl
theorem w_dnew : (evE g .dnew sm h).ens P = newE (.dict []) P h := rfl
theorem w_ix : (evE g (.ix a b) sm h).ens P = (evE g a sm h).ens fun x h => (evE g b sm h).ens fun y h => (ixAt x y h).ens P := by rw [e_ix]; simp only [ens_bind]
theorem w_rev : (evE g (.rev a) sm h).ens P = (evE g a sm h).ens fun x h => (revAt x h).ens P := by rw [e_rev]; simp only [ens_bind]
theorem e_callK {f : Str} {bs : MEs} {n m : Nat} {sl : List Sl} {ds : List MV} : evE g (.callK f as bs n m sl ds) sm h = (evEs g as sm h).bind fun xs h => (evEs g bs sm h).bind fun zs h => callO (g.call f) (pickL n m sl ds xs zs) h := rfl
theorem w_callK {f : Str} {bs : MEs} {n m : Nat} {sl : List Sl} {ds : List MV} : (evE g (.callK f as bs n m sl ds) sm h).ens P = (evEs g as sm h).ens fun xs h => (evEs g bs sm h).ens fun zs h => (callO (g.call f) (pickL n m sl ds xs zs) h).ens P := by rw [e_callK]; simp only [ens_bind]
theorem e_fmt : evE g (.fmt a) sm h = (evE g a sm h).bind fun x h => fmtR x h := rfl
theorem w_fmt : (evE g (.fmt a) sm h).ens P = (evE g a sm h).ens fun x h => (fmtR x h).ens P := by rw [e_fmt]; simp only [ens_bind]
theorem e_fs : evE g (.fs as) sm h = (evFs g as Str.empty sm h).bind fun s h => .ok (.str s) h := rfl
theorem w_fs : (evE g (.fs as) sm h).ens P = (evFs g as Str.empty sm h).ens fun s h => P (.str s) h := by rw [e_fs]; simp only [ens_bind]; rfl
theorem e_fcons {acc : Str} : evFs g (.cons a as) acc sm h = (evE g a sm h).bind fun x h => (catR acc x h).bind fun acc h => evFs g as acc sm h := rfl
theorem w_fcons {acc : Str} {P : Str → Hm → Prop} : (evFs g (.cons a as) acc sm h).ens P = (evE g a sm h).ens fun x h => (catR acc x h).ens fun acc h => (evFs g as acc sm h).ens P := by rw [e_fcons]; simp only [ens_bind]
theorem w_fnil {acc : Str} {P : Str → Hm → Prop} : (evFs g .nil acc sm h).ens P = P acc h := rfl
theorem w_call {f : Str} {ds : List MV} : (evE g (.call f as ds) sm h).ens P = (evEs g as sm h).ens fun xs h => (g.call f (xs ++ ds) h).ens P := by rw [e_call]; simp only [ens_bind]
theorem w_bi {f : BI} : (evE g (.bi f as) sm h).ens P = (evEs g as sm h).ens fun xs h => (bi f xs h).ens P := by rw [e_bi]; simp only [ens_bind]
theorem w_meth {m : MK} : (evE g (.meth m a as) sm h).ens P = (evE g a sm h).ens fun x h => kind h x = some (mkind m) ∧ (evEs g as sm h).ens fun xs h => (meth m x xs h).ens P := by rw [e_meth]; simp only [ens_bind, ens_ite]
theorem w_nil {P : List MV → Hm → Prop} : (evEs g .nil sm h).ens P = P [] h := rfl
theorem w_cons {P : List MV → Hm → Prop} : (evEs g (.cons a as) sm h).ens P = (evE g a sm h).ens fun x h => (evEs g as sm h).ens fun xs h => P (x :: xs) h := by rw [e_cons]; simp only [ens_bind, ens_ok]
theorem w_tnil {P : Bool → Hm → Prop} : (evTs g .nil sm h).ens P = P true h := rfl
theorem w_tone {P : Bool → Hm → Prop} : (evTs g (.cons a .nil) sm h).ens P = (evE g a sm h).ens fun x h => (truB (truth h x) fun k => .ok k h).ens P := by rw [t_one]; simp only [ens_bind]
theorem w_truB {α : Type} {k : Bool} {f : Bool → Res α} {P : α → Hm → Prop} : (truB (some k) f).ens P = (f k).ens P := rfl
/-- the bounds of a slice -/
def slcR (x : MV) (l u : List MV) (h : Hm) : Res MV := match allS asInt l, allS asInt u with
  | some l, some u => cutAt x l.head? u.head? h
  | _, _ => .bad
theorem w_slc {lo hi : MEs} {P : MV → Hm → Prop} : (evE g (.slc a lo hi) sm h).ens P = ((evE g a sm h).ens fun x h => (evEs g lo sm h).ens fun l h => ∃ l', allS asInt l = some l' ∧ (evEs g hi sm h).ens fun u h => ∃ u', allS asInt u = some u' ∧ (cutAt x l'.head? u'.head? h).ens P) := by
  show ((evE g a sm h).bind fun x h => (evEs g lo sm h).bind fun l h => match allS asInt l with
    | none => (.bad : Res MV)
    | some l => (evEs g hi sm h).bind fun u h => match allS asInt u with
      | none => .bad
      | some u => cutAt x l.head? u.head? h).ens P = _
  rw [ens_bind]
  congr 1
  funext x h1
  rw [ens_bind]
  congr 1
  funext l h2
  cases allS asInt l with
  | none => simp [Res.ens]
  | some l' =>
    simp only [ens_bind, Option.some.injEq, exists_eq_left']
    congr 1
    funext u h3
    cases allS asInt u with
    | none => simp [Res.ens]
    | some u' => simp only [Option.some.injEq, exists_eq_left']
end
section
variable {g : Genv} {sm : Sm} {h : Hm} {a b c e : ME} {as : MEs} {i j : Nat} {ss s1 s2 : MSs} {s : MS}
theorem s_set' : evS g (.set i e) sm h = (evE g e sm h).on sm fun x h => .fl (.nx (sm.set i (some x))) h := rfl
def unpR (is : List Nat) (sm : Sm) (x : MV) (h : Hm) : SRes := match x with
  | .tup xs => match bindN is xs sm with
    | some sm => .fl (.nx sm) h
    | none => .bad
  | _ => .bad
theorem s_unp' {is : List Nat} : evS g (.unp is e) sm h = (evE g e sm h).on sm fun x h => unpR is sm x h := rfl
theorem unpR_two {x y : MV} : unpR [i, j] sm (.tup [x, y]) h = .fl (.nx ((sm.set i (some x)).set j (some y))) h := rfl
def parR (i j : Nat) (sm : Sm) (xs : List MV) (h : Hm) : SRes := match xs with
  | [x, y] => .fl (.nx ((sm.set i (some x)).set j (some y))) h
  | _ => .bad
theorem parR_two {x y : MV} : parR i j sm [x, y] h = .fl (.nx ((sm.set i (some x)).set j (some y))) h := rfl
theorem s_par' : evS g (.par i j as) sm h = (evEs g as sm h).on sm fun xs h => parR i j sm xs h := rfl
def setR (x y v : MV) (sm : Sm) (h : Hm) : SRes := match x with
  | .ref j => match h[j]? with
    | some (.list xs) => match y with
      | .int k => match L2.ixN xs.length k with
        | some p => .fl (.nx sm) (h.set j (.list (xs.set p v)))
        | none => .bad
      | _ => .bad
    | some (.dict kvs) => match keyOf y with
      | some k => if kvs.length < sizeLine then .fl (.nx sm) (h.set j (.dict (mPut kvs k v))) else .bad
      | none => .bad
    | _ => .bad
  | _ => .bad
theorem s_setIx' : evS g (.setIx a b e) sm h = (evE g e sm h).on sm fun v h => (evE g a sm h).on sm fun x h => (evE g b sm h).on sm fun y h => setR x y v sm h := rfl
theorem setR_list {xs : List MV} {v : MV} {k : Int} {p : Nat} (h1 : h[j]? = some (.list xs)) (h2 : L2.ixN xs.length k = some p) : setR (.ref j) (.int k) v sm h = .fl (.nx sm) (h.set j (.list (xs.set p v))) := by
  unfold setR
  simp only [h1, h2]
theorem s_expr' : evS g (.expr e) sm h = (evE g e sm h).on sm fun _ h => .fl (.nx sm) h := rfl
theorem s_ret' : evS g (.ret e) sm h = (evE g e sm h).on sm fun x h => .fl (.ret x) h := rfl
theorem s_retN' : evS g .retN sm h = .fl (.ret .non) h := rfl
theorem s_ife2 : evS g (.ife e s1 s2) sm h = (evE g e sm h).on sm fun x h => byS (truth h x) (evSs g s1 sm h) (evSs g s2 sm h) := rfl
theorem s_pass' : evS g .pass sm h = .fl (.nx sm) h := rfl
theorem s_brk' : evS g .brk sm h = .fl (.brk sm) h := rfl
theorem s_cnt' : evS g .cnt sm h = .fl (.cnt sm) h := rfl
theorem s_nil' : evSs g .nil sm h = .fl (.nx sm) h := rfl
theorem s_cons' : evSs g (.cons s ss) sm h = (evS g s sm h).seq fun sm h => evSs g ss sm h := rfl
def augS (op : BK) (x y : MV) (i : Nat) (sm : Sm) (h : Hm) : SRes := (augOp op x y h).on sm fun z h => .fl (.nx (sm.set i (some z))) h
theorem s_aug' {op : BK} {x : MV} (q : sm[i]? = some (some x)) : evS g (.aug i op e) sm h = (evE g e sm h).on sm fun y h => augS op x y i sm h := by
  show (match sm[i]? with
    | some (some x) => (evE g e sm h).on sm fun y h => (augOp op x y h).on sm fun z h => .fl (.nx (sm.set i (some z))) h
    | _ => .bad) = _
  rw [q]
  rfl
end
def forB (g : Genv) (tg : MT) (body : MSs) (x : MV) (sm : Sm) (h : Hm) : SRes := match bindT tg x sm with
  | some sm => evSs g body sm h
  | none => .bad
theorem s_for' {g : Genv} {tg : MT} {it : MI} {body : MSs} {sm : Sm} {h : Hm} : evS g (.for tg it body) sm h = (evI g it sm h).on sm fun it h => forGo it (forB g tg body) (turns h it + 1) 0 sm h := rfl
section
variable {g : Genv} {sm : Sm} {h : Hm} {a b c e : ME} {as : MEs} {i j : Nat} {ss s1 s2 : MSs} {s : MS} {P : Fl → Hm → Prop}
theorem w_set : (evS g (.set i e) sm h).ens P = (evE g e sm h).ens fun x h => P (.nx (sm.set i (some x))) h := by rw [s_set']; simp only [sens_on, sens_fl]
theorem w_unp {is : List Nat} : (evS g (.unp is e) sm h).ens P = (evE g e sm h).ens fun x h => (unpR is sm x h).ens P := by rw [s_unp']; simp only [sens_on]
theorem w_unp2 {x y : MV} : (unpR [i, j] sm (.tup [x, y]) h).ens P = P (.nx ((sm.set i (some x)).set j (some y))) h := rfl
theorem w_par : (evS g (.par i j as) sm h).ens P = (evEs g as sm h).ens fun xs h => (parR i j sm xs h).ens P := by rw [s_par']; simp only [sens_on]
theorem w_par2 {x y : MV} : (parR i j sm [x, y] h).ens P = P (.nx ((sm.set i (some x)).set j (some y))) h := rfl
theorem w_setIx : (evS g (.setIx a b e) sm h).ens P = (evE g e sm h).ens fun v h => (evE g a sm h).ens fun x h => (evE g b sm h).ens fun y h => (setR x y v sm h).ens P := by rw [s_setIx']; simp only [sens_on]
theorem w_expr : (evS g (.expr e) sm h).ens P = (evE g e sm h).ens fun _ h => P (.nx sm) h := by rw [s_expr']; simp only [sens_on, sens_fl]
theorem w_ret : (evS g (.ret e) sm h).ens P = (evE g e sm h).ens fun x h => P (.ret x) h := by rw [s_ret']; simp only [sens_on, sens_fl]
theorem w_retN : (evS g .retN sm h).ens P = P (.ret .non) h := rfl
theorem w_if : (evS g (.ife e s1 s2) sm h).ens P = (evE g e sm h).ens fun x h => (byS (truth h x) (evSs g s1 sm h) (evSs g s2 sm h)).ens P := by rw [s_ife2]; simp only [sens_on]
theorem w_pass : (evS g .pass sm h).ens P = P (.nx sm) h := rfl
theorem w_brk : (evS g .brk sm h).ens P = P (.brk sm) h := rfl
theorem w_cnt : (evS g .cnt sm h).ens P = P (.cnt sm) h := rfl
theorem w_snil : (evSs g .nil sm h).ens P = P (.nx sm) h := rfl
theorem w_scons : (evSs g (.cons s ss) sm h).ens P = (evS g s sm h).ens (seqP (fun sm h => evSs g ss sm h) P) := by rw [s_cons']; exact sens_seq
theorem w_for {tg : MT} {it : MI} {body : MSs} : (evS g (.for tg it body) sm h).ens P = (evI g it sm h).ens fun it h => (forGo it (forB g tg body) (turns h it + 1) 0 sm h).ens P := by rw [s_for']; simp only [sens_on]
theorem w_aug {op : BK} : (evS g (.aug i op e) sm h).ens P = ∃ x, sm[i]? = some (some x) ∧ (evE g e sm h).ens fun y h => (augOp op x y h).ens fun z h => P (.nx (sm.set i (some z))) h := by
  show (match sm[i]? with
    | some (some x) => (evE g e sm h).on sm fun y h => (augOp op x y h).on sm fun z h => .fl (.nx (sm.set i (some z))) h
    | _ => .bad : SRes).ens P = _
  cases h1 : sm[i]? with
  | none => simp [SRes.ens]
  | some o =>
    cases o with
    | none => simp [SRes.ens]
    | some x => simp only [sens_on, sens_fl, Option.some.injEq, exists_eq_left']
end
section
variable {p : Prog} {n : Nat} {f : Str} {d : Def} {xs : List MV} {h : Hm} {P : MV → Hm → Prop}
/-- what a body's end is to a call -/
def retP (P : MV → Hm → Prop) : Fl → Hm → Prop := fun fl h => match fl with
  | .ret v => P v h
  | .nx _ => P .non h
  | _ => False
theorem retP_ret {v : MV} : retP P (.ret v) h = P v h := rfl
theorem retP_nx {sm : Sm} : retP P (.nx sm) h = P .non h := rfl
theorem callN_ens (hd : p.defs f = some d) (hl : xs.length = d.ps) (z : (evSs ⟨p.cons, callN p n⟩ d.body (xs.map some ++ List.replicate (d.ns - xs.length) none) h).ens (retP P)) : (callN p (n + 1) f xs h).ens P := by
  unfold callN
  rw [hd]
  simp only
  rw [if_pos hl]
  revert z
  cases evSs ⟨p.cons, callN p n⟩ d.body (xs.map some ++ List.replicate (d.ns - xs.length) none) h with
  | bad => exact fun z => z.elim
  | exc _ _ _ _ => exact fun z => z.elim
  | fl fl h' => cases fl <;> exact fun z => z
end
section
variable {P : Fl → Hm → Prop} {it : IT} {body : MV → Sm → Hm → SRes}
/-- a for loop over known items, by an invariant -/
theorem forGo_ens (xs : List MV) (I : Nat → Sm → Hm → Prop) (hn : ∀ k sm h, k ≤ xs.length → I k sm h → nxt h it k = some xs[k]?)
    (step : ∀ k x sm h, xs[k]? = some x → I k sm h → (body x sm h).ens fun fl h' => match fl with
      | .nx sm' => I (k + 1) sm' h'
      | .cnt sm' => I (k + 1) sm' h'
      | .brk sm' => P (.nx sm') h'
      | .ret v => P (.ret v) h')
    (fin : ∀ sm h, I xs.length sm h → P (.nx sm) h) : ∀ (f k : Nat) (sm : Sm) (h : Hm), k ≤ xs.length → xs.length + 1 ≤ k + f → I k sm h → (forGo it body f k sm h).ens P := by
  intro f
  induction f with
  | zero =>
    intro k sm h l e i
    omega
  | succ f ih =>
    intro k sm h l e i
    unfold forGo
    rw [hn k sm h l i]
    by_cases hk : k < xs.length
    · rw [List.getElem?_eq_getElem hk]
      have z := step k _ sm h (List.getElem?_eq_getElem hk) i
      simp only
      revert z
      cases body xs[k] sm h with
      | bad => exact fun z => z.elim
      | exc _ _ _ _ => exact fun z => z.elim
      | fl fl h' =>
        cases fl with
        | nx sm' => exact fun z => ih (k + 1) sm' h' hk (by omega) z
        | cnt sm' => exact fun z => ih (k + 1) sm' h' hk (by omega) z
        | brk sm' => exact fun z => z
        | ret v => exact fun z => z
    · rw [List.getElem?_eq_none (by omega)]
      have e2 : k = xs.length := by omega
      subst e2
      exact fin sm h i
end
theorem forB_nm {g : Genv} {i : Nat} {body : MSs} {x : MV} {sm : Sm} {h : Hm} : forB g (.nm i) body x sm h = evSs g body (sm.set i (some x)) h := rfl
theorem forB_two {g : Genv} {i j : Nat} {body : MSs} {x y : MV} {sm : Sm} {h : Hm} : forB g (.tp [i, j]) body (.tup [x, y]) sm h = evSs g body ((sm.set i (some x)).set j (some y)) h := rfl
/-! ### what is walked -/
section
variable {g : Genv} {sm : Sm} {h : Hm} {a b c : ME} {P : IT → Hm → Prop}
theorem i_val' : evI g (.val a) sm h = (evE g a sm h).bind fun x h => itVal x h := rfl
def rng1R (x : MV) (h : Hm) : Res IT := match x with
  | .int n => itRng 0 n 1 h
  | _ => .bad
theorem i_rng1' : evI g (.rng1 a) sm h = (evE g a sm h).bind rng1R := rfl
def rng2R (x y : MV) (h : Hm) : Res IT := match x, y with
  | .int m, .int n => itRng m n 1 h
  | _, _ => .bad
theorem i_rng2' : evI g (.rng2 a b) sm h = (evE g a sm h).bind fun x h => (evE g b sm h).bind fun y h => rng2R x y h := rfl
theorem i_zip' : evI g (.zip a b) sm h = (evE g a sm h).bind fun x h => (evE g b sm h).bind fun y h => itZip x y h := rfl
theorem i_enum' : evI g (.enum a) sm h = (evE g a sm h).bind fun x h => itEnum x h := rfl
theorem i_rev' : evI g (.rev a) sm h = (evE g a sm h).bind fun x h => itRev x h := rfl
theorem rng1_ens {n : Int} : (rng1R (.int n) h).ens P = ((-(2 ^ 62) ≤ n ∧ n < 2 ^ 62) ∧ P (.rng 0 1 n.toNat) h) := by
  unfold rng1R itRng
  simp only [ens_ite, if_true, ens_ok, Int.sub_zero]
  apply propext
  constructor
  · rintro ⟨⟨_, _, h1, h2⟩, h3⟩; exact ⟨⟨h1, h2⟩, h3⟩
  · rintro ⟨⟨h1, h2⟩, h3⟩; exact ⟨⟨by decide, by decide, h1, h2⟩, h3⟩
theorem rng2_ens {m n : Int} : (rng2R (.int m) (.int n) h).ens P = ((-(2 ^ 62) ≤ m ∧ m < 2 ^ 62 ∧ -(2 ^ 62) ≤ n ∧ n < 2 ^ 62) ∧ P (.rng m 1 (n - m).toNat) h) := by
  unfold rng2R itRng
  simp only [ens_ite, if_true, ens_ok]
/-- the items of a range -/
def rngL (lo : Int) (n : Nat) : List MV := (List.range n).map fun (k : Nat) => .int (lo + (k : Int))
theorem rngL_length {lo : Int} {n : Nat} : (rngL lo n).length = n := by simp [rngL]
theorem nxt_rng {lo : Int} {n k : Nat} : nxt h (.rng lo 1 n) k = some (rngL lo n)[k]? := by
  unfold nxt rngL
  simp only
  by_cases hk : k < n
  · rw [if_pos hk, List.getElem?_map, List.getElem?_range hk]
    simp
  · rw [if_neg hk, List.getElem?_eq_none (by simpa using hk)]
theorem items_lst {h : Hm} {j : Nat} {xs : List MV} (q : h[j]? = some (.list xs)) : items h (.ref j) = some xs := by
  unfold items
  simp only [q]
theorem items_frz {h : Hm} {j : Nat} {xs : List MV} (q : h[j]? = some (.frz xs)) : items h (.ref j) = some xs := by
  unfold items
  simp only [q]
theorem items_tup {h : Hm} {xs : List MV} : items h (.tup xs) = some xs := rfl
/-- a walk over a list or a tuple -/
theorem itVal_ens {x : MV} {xs : List MV} (q : items h x = some xs) : ∃ s, itVal x h = .ok (.src s) h ∧ srcI h s = some xs ∧ (∀ h' : Hm, items h' x = some xs → srcI h' s = some xs) := by
  cases x with
  | tup ys =>
    cases q
    exact ⟨.tup xs, rfl, rfl, fun _ _ => rfl⟩
  | ref j =>
    refine ⟨.lst j, ?_, q, fun h' q' => q'⟩
    unfold itVal srcOf
    simp only [q]
  | _ => cases q
theorem nxt_src {s : SR} {xs : List MV} {k : Nat} (q : srcI h s = some xs) : nxt h (.src s) k = some xs[k]? := by
  unfold nxt
  simp only [q]
theorem turns_src {s : SR} {xs : List MV} (q : srcI h s = some xs) : turns h (.src s) = xs.length := by
  unfold turns turnsS
  simp only [q]
end
/-! ### list comprehensions -/
section
variable {P : MV → Hm → Prop} {it : IT} {step : MV → Hm → Res (Option MV)} {d : Nat}
/-- by an invariant over the turn, the heap, what has been found -/
theorem lcGo_ens (xs : List MV) (I : Nat → List MV → Hm → Prop) (hn : ∀ k acc h, k ≤ xs.length → I k acc h → h[d]? = some (.list acc) → nxt h it k = some xs[k]?) (hs : ∀ k acc h, I k acc h → acc.length < sizeLine)
    (hstep : ∀ k x acc h, xs[k]? = some x → I k acc h → h[d]? = some (.list acc) → (step x h).ens fun o h' => h'[d]? = some (.list acc) ∧ match o with
      | none => I (k + 1) acc h'
      | some y => I (k + 1) (acc ++ [y]) (h'.set d (.list (acc ++ [y]))))
    (fin : ∀ acc h, I xs.length acc h → h[d]? = some (.list acc) → P (.ref d) h) : ∀ (f k : Nat) (acc : List MV) (h : Hm), k ≤ xs.length → xs.length + 1 ≤ k + f → I k acc h → h[d]? = some (.list acc) → (lcGo it step d f k h).ens P := by
  intro f
  induction f with
  | zero =>
    intro k acc h l e i hd
    omega
  | succ f ih =>
    intro k acc h l e i hd
    unfold lcGo
    rw [hn k acc h l i hd]
    by_cases hk : k < xs.length
    · rw [List.getElem?_eq_getElem hk]
      have z := hstep k _ acc h (List.getElem?_eq_getElem hk) i hd
      simp only
      revert z
      cases step xs[k] h with
      | bad => exact fun z => z.elim
      | exc _ _ _ => exact fun z => z.elim
      | ok o h' =>
        cases o with
        | none =>
          rintro ⟨z1, z2⟩
          exact ih (k + 1) acc h' hk (by omega) z2 z1
        | some y =>
          rintro ⟨z1, z2⟩
          have em : mList h' d = some acc := by unfold mList; simp only [z1]
          simp only [em]
          rw [if_pos (hs k acc h i)]
          have hlt : d < h'.length := (List.getElem?_eq_some_iff.mp z1).1
          exact ih (k + 1) (acc ++ [y]) _ hk (by omega) z2 (by rw [List.getElem?_set_self hlt])
    · rw [List.getElem?_eq_none (by omega)]
      have e2 : k = xs.length := by omega
      subst e2
      exact fin acc h i hd
end
def lcStep (g : Genv) (elt : ME) (tg : MT) (ifs : MEs) (own : List Nat) (sm : Sm) (x : MV) (h : Hm) : Res (Option MV) := match bindT tg x (wipeM sm own) with
  | none => .bad
  | some sm => match evTs g ifs sm h with
    | .ok true h => match evE g elt sm h with
      | .ok y h => .ok (some y) h
      | _ => .bad
    | .ok false h => .ok none h
    | _ => .bad
theorem e_lc {g : Genv} {elt : ME} {tg : MT} {it : MI} {ifs : MEs} {own : List Nat} {sm : Sm} {h : Hm} : evE g (.lc elt tg it ifs own) sm h = (evI g it sm h).bind fun it h => lcGo it (lcStep g elt tg ifs own sm) h.length (turns h it + 1) 0 (h ++ [.list []]) := rfl
theorem lcStep_ens {g : Genv} {elt : ME} {tg : MT} {ifs : MEs} {own : List Nat} {sm sm' : Sm} {x : MV} {h : Hm} {P : Option MV → Hm → Prop} (hb : bindT tg x (wipeM sm own) = some sm')
    (z : (evTs g ifs sm' h).ens fun k h => (k = true → (evE g elt sm' h).ens fun y h => P (some y) h) ∧ (k = false → P none h)) : (lcStep g elt tg ifs own sm x h).ens P := by
  unfold lcStep
  rw [hb]
  simp only
  revert z
  cases evTs g ifs sm' h with
  | bad => exact fun z => z.elim
  | exc _ _ _ => exact fun z => z.elim
  | ok k h' =>
    cases k with
    | false => exact fun z => z.2 rfl
    | true =>
      intro z
      have z := z.1 rfl
      simp only
      revert z
      cases evE g elt sm' h' with
      | bad => exact fun z => z.elim
      | exc _ _ _ => exact fun z => z.elim
      | ok y h2 => exact fun z => z
/-! ### operations on known values -/
section
variable {h : Hm} {P : MV → Hm → Prop} {i j k : Int} {n : Nat}
def atR (o : Option MV) (h : Hm) : Res MV := match o with
  | some v => .ok v h
  | none => .bad
theorem w_at {v : MV} : (atR (some v) h).ens P = P v h := rfl
theorem w_atE {o : Option MV} : (atR o h).ens P = ∃ v, o = some v ∧ P v h := by
  cases o <;> simp [atR, Res.ens]
def ixO (o : Option MO) (k : Int) (h : Hm) : Res MV := match o with
  | some (.dict kvs) => match mLook kvs (.inl k) with
    | some v => .ok v h
    | none => .bad
  | some (.list xs) => atR (L2.atI xs k) h
  | some (.frz xs) => atR (L2.atI xs k) h
  | _ => .bad
theorem w_ixr : (ixAt (.ref n) (.int k) h).ens P = (ixO h[n]? k h).ens P := by
  unfold ixAt ixO
  simp only
  cases e : h[n]? with
  | none => simp only [items, e] <;> rfl
  | some o =>
    cases o with
    | list xs => simp only [items, e]; rfl
    | frz xs => simp only [items, e]; rfl
    | dict kvs => rfl
    | set ns => simp only [items, e] <;> rfl
    | ins ci fs => simp only [items, e] <;> rfl
theorem w_ixl {xs : List MV} : (ixO (some (.list xs)) k h).ens P = (atR (L2.atI xs k) h).ens P := rfl
theorem w_ixf {xs : List MV} : (ixO (some (.frz xs)) k h).ens P = (atR (L2.atI xs k) h).ens P := rfl
theorem w_ixd {kvs : List (L2.Key × MV)} : (ixO (some (.dict kvs)) k h).ens P = (atR (mLook kvs (.inl k)) h).ens P := by
  cases e : mLook kvs (.inl k) <;> simp only [ixO, e, atR]
theorem w_ixt {xs : List MV} : (ixAt (.tup xs) (.int k) h).ens P = (atR (L2.atI xs k) h).ens P := rfl
theorem atI_nat {α : Type} {xs : List α} {n : Nat} : L2.atI xs (n : Int) = xs[n]? := by
  unfold L2.atI L2.ixN
  rw [if_pos (Int.natCast_nonneg n)]
  by_cases e : n < xs.length
  · rw [if_pos (by omega)]; simp
  · rw [if_neg (by omega), List.getElem?_eq_none (by omega)]; rfl
theorem atI_ok {α : Type} {xs : List α} {k : Int} (h0 : 0 ≤ k) : L2.atI xs k = xs[k.toNat]? := by
  obtain ⟨n, rfl⟩ := Int.eq_ofNat_of_zero_le h0
  rw [atI_nat]; rfl
theorem at_0 {α : Type} {a : α} {xs : List α} : L2.atI (a :: xs) 0 = some a := atI_nat (n := 0)
theorem at_1 {α : Type} {a b : α} {xs : List α} : L2.atI (a :: b :: xs) 1 = some b := atI_nat (n := 1)
theorem at_2 {α : Type} {a b c : α} {xs : List α} : L2.atI (a :: b :: c :: xs) 2 = some c := atI_nat (n := 2)
theorem at_3 {α : Type} {a b c d : α} {xs : List α} : L2.atI (a :: b :: c :: d :: xs) 3 = some d := atI_nat (n := 3)
theorem at_4 {α : Type} {a b c d e : α} {xs : List α} : L2.atI (a :: b :: c :: d :: e :: xs) 4 = some e := atI_nat (n := 4)
def setO (o : Option MO) (j : Nat) (k : Int) (v : MV) (sm : Sm) (h : Hm) : SRes := match o with
  | some (.list xs) => match L2.ixN xs.length k with
    | some p => .fl (.nx sm) (h.set j (.list (xs.set p v)))
    | none => .bad
  | some (.dict kvs) => if kvs.length < sizeLine then .fl (.nx sm) (h.set j (.dict (mPut kvs (.inl k) v))) else .bad
  | _ => .bad
theorem w_setr {v : MV} {sm : Sm} {P : Fl → Hm → Prop} : (setR (.ref n) (.int k) v sm h).ens P = (setO h[n]? n k v sm h).ens P := by
  unfold setR setO
  simp only
  cases h[n]? with
  | none => rfl
  | some o => cases o <;> rfl
theorem w_setl {xs : List MV} {v : MV} {sm : Sm} {P : Fl → Hm → Prop} : (setO (some (.list xs)) n k v sm h).ens P = ∃ p, L2.ixN xs.length k = some p ∧ P (.nx sm) (h.set n (.list (xs.set p v))) := by
  unfold setO
  simp only
  cases L2.ixN xs.length k with
  | none => simp [SRes.ens]
  | some p => simp [SRes.ens]
theorem ixN_nat {m n : Nat} (h : n < m) : L2.ixN m (n : Int) = some n := by
  unfold L2.ixN
  rw [if_pos (Int.natCast_nonneg n), if_pos (by omega)]; simp
/-- the place of a store among five -/
theorem set5 {xs : List MV} {v : MV} {sm : Sm} {P : Fl → Hm → Prop} {q : Nat} (hq : q < xs.length) : (setO (some (.list xs)) n (q : Int) v sm h).ens P = P (.nx sm) (h.set n (.list (xs.set q v))) := by
  rw [w_setl, ixN_nat hq]
  simp
theorem set_0 {a v : MV} {xs : List MV} {sm : Sm} {P : Fl → Hm → Prop} : (setO (some (.list (a :: xs))) n 0 v sm h).ens P = P (.nx sm) (h.set n (.list (v :: xs))) := set5 (q := 0) (by simp)
theorem set_1 {a b v : MV} {xs : List MV} {sm : Sm} {P : Fl → Hm → Prop} : (setO (some (.list (a :: b :: xs))) n 1 v sm h).ens P = P (.nx sm) (h.set n (.list (a :: v :: xs))) := set5 (q := 1) (by simp)
theorem set_2 {a b c v : MV} {xs : List MV} {sm : Sm} {P : Fl → Hm → Prop} : (setO (some (.list (a :: b :: c :: xs))) n 2 v sm h).ens P = P (.nx sm) (h.set n (.list (a :: b :: v :: xs))) := set5 (q := 2) (by simp)
theorem set_3 {a b c d v : MV} {xs : List MV} {sm : Sm} {P : Fl → Hm → Prop} : (setO (some (.list (a :: b :: c :: d :: xs))) n 3 v sm h).ens P = P (.nx sm) (h.set n (.list (a :: b :: c :: v :: xs))) := set5 (q := 3) (by simp)
theorem set_4 {a b c d e v : MV} {xs : List MV} {sm : Sm} {P : Fl → Hm → Prop} : (setO (some (.list (a :: b :: c :: d :: e :: xs))) n 4 v sm h).ens P = P (.nx sm) (h.set n (.list (a :: b :: c :: d :: v :: xs))) := set5 (q := 4) (by simp)
theorem eqv_int : PyData.eqv (.int i) (.int j) = decide (i = j) := by
  unfold PyData.eqv
  first | rfl | simp [BEq.beq]
theorem w_eqI : (cmpR .eq (.int i) (.int j) h).ens P = P (.bl (decide (i = j))) h := by
  show P (.bl (PyData.eqv (.int i) (.int j))) h = _
  rw [eqv_int]
theorem w_neI : (cmpR .ne (.int i) (.int j) h).ens P = P (.bl (!decide (i = j))) h := by
  show P (.bl (!PyData.eqv (.int i) (.int j))) h = _
  rw [eqv_int]
theorem w_ltI : (cmpR .lt (.int i) (.int j) h).ens P = P (.bl (decide (i < j))) h := rfl
theorem w_leI : (cmpR .le (.int i) (.int j) h).ens P = P (.bl (decide (i ≤ j))) h := rfl
theorem w_gtI : (cmpR .gt (.int i) (.int j) h).ens P = P (.bl (decide (j < i))) h := rfl
theorem w_geI : (cmpR .ge (.int i) (.int j) h).ens P = P (.bl (decide (j ≤ i))) h := rfl
theorem w_isN {x : MV} : (cmpR .isnone x .non h).ens P = P (.bl (isNon x)) h := rfl
theorem w_noN {x : MV} : (cmpR .notnone x .non h).ens P = P (.bl (!isNon x)) h := rfl
theorem w_add : (binop .add (.int i) (.int j) h).ens P = P (.int (i + j)) h := rfl
theorem w_sub : (binop .sub (.int i) (.int j) h).ens P = P (.int (i - j)) h := rfl
theorem all_eq {α : Sort u} {a : α} {p : α → Prop} : (∀ r, r = a → p r) = p a := propext ⟨fun h => h a rfl, fun h r e => e ▸ h⟩
theorem w_mul : (binop .mul (.int i) (.int j) h).ens P = (i.natAbs.log2 + j.natAbs.log2 < 1000000 ∧ ∀ r, r = i * j → P (.int r) h) := by rw [all_eq]; exact ens_ite
theorem w_fdiv : (binop .fdiv (.int i) (.int j) h).ens P = ((j ≠ 0 ∧ j.natAbs.log2 < 9000) ∧ ∀ r, r = i.fdiv j → P (.int r) h) := by rw [all_eq]; exact ens_ite
theorem w_mod : (binop .mod (.int i) (.int j) h).ens P = (j ≠ 0 ∧ ∀ r, r = i.fmod j → P (.int r) h) := by rw [all_eq]; exact ens_ite
theorem w_pow : (binop .pow (.int i) (.int j) h).ens P = ((0 ≤ j ∧ j ≤ 100000 ∧ i.natAbs < 2 ^ 200) ∧ ∀ r, r = i ^ j.toNat → P (.int r) h) := by rw [all_eq]; exact ens_ite
def lenO (o : Option MO) (h : Hm) : Res MV := match o with
  | some (.list xs) => .ok (.int xs.length) h
  | some (.frz xs) => .ok (.int xs.length) h
  | _ => .bad
theorem w_lenr : (bi .len [.ref n] h).ens P = (lenO h[n]? h).ens P := by
  unfold bi lenO items
  simp only
  cases h[n]? with
  | none => rfl
  | some o => cases o <;> rfl
theorem w_lenl {xs : List MV} : (lenO (some (.list xs)) h).ens P = P (.int xs.length) h := rfl
theorem w_lenf {xs : List MV} : (lenO (some (.frz xs)) h).ens P = P (.int xs.length) h := rfl
theorem w_lent {xs : List MV} : (bi .len [.tup xs] h).ens P = P (.int xs.length) h := rfl
theorem w_intI : (bi .int [.int i] h).ens P = P (.int i) h := rfl
theorem w_absI : (bi .abs [.int i] h).ens P = P (.int (if i < 0 then -i else i)) h := rfl
theorem t_bl {b : Bool} : truth h (.bl b) = some b := rfl
theorem t_int : truth h (.int i) = some (i != 0) := rfl
end
end R

namespace R
open PySem
/-! ### what is walked, as a list -/
def zl : List MV → List MV → List MV
  | x :: xs, y :: ys => .tup [x, y] :: zl xs ys
  | _, _ => []
def enl (k : Nat) : List MV → List MV
  | [] => []
  | x :: xs => .tup [.int (k : Nat), x] :: enl (k + 1) xs
def itI (h : Hm) : IT → Option (List MV)
  | .src s => srcI h s
  | .rng lo step n => some ((List.range n).map fun (k : Nat) => .int (lo + (k : Nat) * step))
  | .zip a b => match srcI h a, srcI h b with
    | some xs, some ys => some (zl xs ys)
    | _, _ => none
  | .enm a => match items h (.ref a) with
    | some xs => some (enl 0 xs)
    | none => none
  | .rev a n => match items h (.ref a) with
    | some xs => if xs.length = n then some xs.reverse else none
    | none => none
theorem zl_length : ∀ xs ys : List MV, (zl xs ys).length = min xs.length ys.length
  | [], _ => by simp [zl]
  | _ :: _, [] => by simp [zl]
  | x :: xs, y :: ys => by simp only [zl, List.length_cons, zl_length xs ys]; omega
def pairO : Option MV → Option MV → Option MV
  | some x, some y => some (.tup [x, y])
  | _, _ => none
theorem zl_get : ∀ (xs ys : List MV) (k : Nat), (zl xs ys)[k]? = pairO xs[k]? ys[k]?
  | [], _, k => by simp [zl, pairO]
  | _ :: _, [], k => by
    simp only [zl, List.getElem?_nil]
    unfold pairO
    split
    · rename_i h; cases h
    · rfl
  | x :: xs, y :: ys, 0 => rfl
  | x :: xs, y :: ys, k + 1 => by simp only [zl, List.getElem?_cons_succ]; exact zl_get xs ys k
theorem enl_get : ∀ (xs : List MV) (j k : Nat), (enl j xs)[k]? = xs[k]?.map fun x => .tup [.int ((j + k : Nat) : Int), x]
  | [], j, k => by simp [enl]
  | x :: xs, j, 0 => rfl
  | x :: xs, j, k + 1 => by
    simp only [enl, List.getElem?_cons_succ]
    rw [enl_get xs (j + 1) k, show j + 1 + k = j + (k + 1) by omega]
theorem enl_length : ∀ (xs : List MV) (j : Nat), (enl j xs).length = xs.length
  | [], _ => rfl
  | x :: xs, j => by simp only [enl, List.length_cons, enl_length xs (j + 1)]
theorem itI_nxt {h : Hm} {it : IT} {xs : List MV} {k : Nat} (q : itI h it = some xs) (hk : k ≤ xs.length) : nxt h it k = some xs[k]? := by
  cases it with
  | src s =>
    have q : srcI h s = some xs := q
    unfold nxt
    simp only [q]
  | rng lo step n =>
    cases q
    unfold nxt
    simp only
    by_cases e : k < n
    · rw [if_pos e, List.getElem?_map, List.getElem?_range e]; rfl
    · rw [if_neg e, List.getElem?_eq_none (by simpa using e)]
  | zip a b =>
    unfold itI at q
    simp only at q
    split at q
    · rename_i us vs h1 h2
      cases q
      unfold nxt
      simp only [h1, h2]
      rw [zl_get]
      rw [zl_length] at hk
      cases e1 : us[k]? with
      | none =>
        have := List.getElem?_eq_none_iff.mp e1
        simp only [pairO]
        rw [if_pos (by omega)]
      | some x =>
        cases e2 : vs[k]? with
        | none =>
          have := List.getElem?_eq_none_iff.mp e2
          simp only [pairO]
          rw [if_pos (by omega)]
        | some y => rfl
    · cases q
  | enm a =>
    unfold itI at q
    simp only at q
    split at q
    · rename_i us h1
      cases q
      unfold nxt
      simp only [h1]
      rw [enl_get, Nat.zero_add]
      cases us[k]? <;> rfl
    · cases q
  | rev a n =>
    unfold itI at q
    simp only at q
    split at q
    · rename_i us h1
      split at q
      · rename_i hn
        cases q
        unfold nxt
        simp only [h1]
        rw [List.length_reverse] at hk
        by_cases e : k < n
        · rw [if_pos e, List.getElem?_reverse (by omega), hn]
          rw [List.getElem?_eq_getElem (by omega)]
        · rw [if_neg e, List.getElem?_eq_none (by rw [List.length_reverse]; omega)]
      · cases q
    · cases q
theorem itI_turns {h : Hm} {it : IT} {xs : List MV} (q : itI h it = some xs) : xs.length ≤ turns h it := by
  cases it with
  | src s =>
    have q : srcI h s = some xs := q
    unfold turns turnsS
    simp only [q]
    exact Nat.le_refl _
  | rng lo step n => cases q; simp [turns]
  | zip a b =>
    unfold itI at q
    simp only at q
    split at q
    · rename_i us vs h1 h2
      cases q
      unfold turns turnsS
      simp only [h1]
      rw [zl_length]
      omega
    · cases q
  | enm a =>
    unfold itI at q
    simp only at q
    split at q
    · rename_i us h1
      cases q
      unfold turns turnsS srcI
      simp only [h1]
      rw [enl_length]
      exact Nat.le_refl _
    · cases q
  | rev a n =>
    unfold itI at q
    simp only at q
    split at q
    · split at q
      · rename_i us h1 hn
        cases q
        show us.reverse.length ≤ n
        rw [List.length_reverse]
        omega
      · cases q
    · cases q
theorem items_app {h t : Hm} {x : MV} {xs : List MV} (q : items h x = some xs) : items (h ++ t) x = some xs := by
  cases x with
  | tup ys => exact q
  | ref j =>
    unfold items at q ⊢
    simp only at q ⊢
    cases e : h[j]? with
    | none => rw [e] at q; cases q
    | some o =>
      rw [List.getElem?_append_left (List.getElem?_eq_some_iff.mp e).1, e]
      rw [e] at q
      exact q
  | _ => cases q
theorem srcI_app {h t : Hm} {s : SR} {xs : List MV} (q : srcI h s = some xs) : srcI (h ++ t) s = some xs := by
  cases s with
  | lst j => exact items_app (x := .ref j) q
  | tup ys => exact q
  | str cs => exact q
theorem itI_app {h t : Hm} {it : IT} {xs : List MV} (q : itI h it = some xs) : itI (h ++ t) it = some xs := by
  cases it with
  | src s => exact srcI_app q
  | rng lo step n => exact q
  | zip a b =>
    unfold itI at q ⊢
    simp only at q ⊢
    split at q
    · rename_i us vs h1 h2
      rw [srcI_app h1, srcI_app h2]
      exact q
    · cases q
  | enm a =>
    unfold itI at q ⊢
    simp only at q ⊢
    split at q
    · rename_i us h1
      rw [items_app h1]
      exact q
    · cases q
  | rev a n =>
    unfold itI at q ⊢
    simp only at q ⊢
    split at q
    · rename_i us h1
      rw [items_app h1]
      exact q
    · cases q
/-! ### loops over known items -/
section
variable {g : Genv} {sm : Sm} {h : Hm} {P : Fl → Hm → Prop} {Q : MV → Hm → Prop} {it : IT} {tg : MT} {body : MSs}
theorem for_inv (xs : List MV) (I : Nat → Sm → Hm → Prop) (q : itI h it = some xs) (hI : ∀ k sm h, I k sm h → itI h it = some xs)
    (step : ∀ k x sm h, xs[k]? = some x → I k sm h → (forB g tg body x sm h).ens fun fl h' => match fl with
      | .nx sm' => I (k + 1) sm' h'
      | .cnt sm' => I (k + 1) sm' h'
      | .brk sm' => P (.nx sm') h'
      | .ret v => P (.ret v) h')
    (fin : ∀ sm h, I xs.length sm h → P (.nx sm) h) (i0 : I 0 sm h) : (forGo it (forB g tg body) (turns h it + 1) 0 sm h).ens P :=
  forGo_ens xs I (fun k sm h l i => itI_nxt (hI k sm h i) l) step fin _ _ _ _ (Nat.zero_le _) (by have := itI_turns q; omega) i0
theorem w_lc {elt : ME} {mi : MI} {ifs : MEs} {own : List Nat} : (evE g (.lc elt tg mi ifs own) sm h).ens Q = (evI g mi sm h).ens fun it h => (lcGo it (lcStep g elt tg ifs own sm) h.length (turns h it + 1) 0 (h ++ [.list []])).ens Q := by
  rw [e_lc, ens_bind]
/-- a comprehension that leaves the heap as it is -/
theorem lc_pure {step : MV → Hm → Res (Option MV)} (xs : List MV) (f : MV → Option MV) (q : itI h it = some xs) (hz : xs.length < sizeLine)
    (hstep : ∀ x, x ∈ xs → ∀ acc : List MV, (step x (h ++ [.list acc])).ens fun o h' => o = f x ∧ h' = h ++ [.list acc])
    (fin : newE (.list (xs.filterMap f)) Q h) : (lcGo it step h.length (turns h it + 1) 0 (h ++ [.list []])).ens Q := by
  refine lcGo_ens xs (fun k acc h' => acc = (xs.take k).filterMap f ∧ h' = h ++ [.list acc]) (fun k acc h' l i _ => ?_) (fun k acc h' i => ?_) (fun k x acc h' hx i _ => ?_) (fun acc h' i _ => ?_) _ _ [] _ (Nat.zero_le _) (by have := itI_turns q; omega) ⟨rfl, rfl⟩ (by simp)
  · rw [i.2]; exact itI_nxt (itI_app q) l
  · rw [i.1]
    refine Nat.lt_of_le_of_lt (List.length_filterMap_le _ _) (Nat.lt_of_le_of_lt ?_ hz)
    rw [List.length_take]; omega
  · obtain ⟨i1, i2⟩ := i
    subst i2
    refine (hstep x (List.mem_of_getElem? hx) acc).mono fun o h2 e => ?_
    obtain ⟨e1, e2⟩ := e
    subst e2
    have take : (xs.take (k + 1)).filterMap f = acc ++ (f x).toList := by
      rw [List.take_add_one, hx, List.filterMap_append, ← i1]
      show acc ++ [x].filterMap f = _
      rw [List.filterMap_cons]
      cases f x <;> rfl
    refine ⟨by simp, ?_⟩
    cases o with
    | none => exact ⟨by rw [take, ← e1]; simp, rfl⟩
    | some y => exact ⟨by rw [take, ← e1]; simp, by simp⟩
  · obtain ⟨i1, i2⟩ := i
    rw [i2, i1, List.take_length]
    exact fin
/-- .. with an invariant of the heap and of what has been found -/
theorem lc_inv {step : MV → Hm → Res (Option MV)} (xs : List MV) (I : Nat → List MV → Hm → Prop) (q : itI h it = some xs) (hI : ∀ k acc h', I k acc h' → itI h' it = some xs) (hz : ∀ k acc h', I k acc h' → acc.length < sizeLine)
    (hstep : ∀ k x acc h', xs[k]? = some x → I k acc h' → h'[h.length]? = some (.list acc) → (step x h').ens fun o h2 => h2[h.length]? = some (.list acc) ∧ match o with
      | none => I (k + 1) acc h2
      | some y => I (k + 1) (acc ++ [y]) (h2.set h.length (.list (acc ++ [y]))))
    (i0 : I 0 [] (h ++ [.list []])) (fin : ∀ acc h', I xs.length acc h' → h'[h.length]? = some (.list acc) → Q (.ref h.length) h') : (lcGo it step h.length (turns h it + 1) 0 (h ++ [.list []])).ens Q :=
  lcGo_ens xs I (fun k acc h' l i _ => itI_nxt (hI k acc h' i) l) hz hstep fin _ _ [] _ (Nat.zero_le _) (by have := itI_turns q; omega) i0 (by simp)
end
/-! ### readings of what is walked -/
section
variable {g : Genv} {sm : Sm} {h : Hm} {a b c : ME} {P : IT → Hm → Prop} {xs ys : List MV} {j k : Nat}
theorem w_ival : (evI g (.val a) sm h).ens P = (evE g a sm h).ens fun x h => (itVal x h).ens P := by rw [i_val']; simp only [ens_bind]
theorem w_izip : (evI g (.zip a b) sm h).ens P = (evE g a sm h).ens fun x h => (evE g b sm h).ens fun y h => (itZip x y h).ens P := by rw [i_zip']; simp only [ens_bind]
theorem w_ienum : (evI g (.enum a) sm h).ens P = (evE g a sm h).ens fun x h => (itEnum x h).ens P := by rw [i_enum']; simp only [ens_bind]
theorem w_irev : (evI g (.rev a) sm h).ens P = (evE g a sm h).ens fun x h => (itRev x h).ens P := by rw [i_rev']; simp only [ens_bind]
theorem w_irng1 : (evI g (.rng1 a) sm h).ens P = (evE g a sm h).ens fun x h => (rng1R x h).ens P := by rw [i_rng1']; simp only [ens_bind]
theorem w_irng2 : (evI g (.rng2 a b) sm h).ens P = (evE g a sm h).ens fun x h => (evE g b sm h).ens fun y h => (rng2R x y h).ens P := by rw [i_rng2']; simp only [ens_bind]
/-- what may be walked: its source -/
def srO : MV → SR
  | .ref j => .lst j
  | .tup xs => .tup xs
  | .str s => .str s.cps.toList
  | _ => .tup []
theorem srO_src {x : MV} (q : items h x = some xs) : srcOf x h = some (srO x) ∧ srcI h (srO x) = some xs := by
  cases x with
  | tup ys => exact ⟨rfl, q⟩
  | ref j =>
    refine ⟨?_, q⟩
    unfold srcOf
    simp only [q]
    rfl
  | _ => cases q
theorem w_val {x : MV} (q : items h x = some xs) : (itVal x h).ens P = P (.src (srO x)) h := by
  unfold itVal
  rw [(srO_src q).1]
  rfl
theorem w_zip {x y : MV} (q : items h x = some xs) (q' : items h y = some ys) : (itZip x y h).ens P = P (.zip (srO x) (srO y)) h := by
  unfold itZip
  rw [(srO_src q).1, (srO_src q').1]
  rfl
theorem itI_src {x : MV} (q : items h x = some xs) : itI h (.src (srO x)) = some xs := (srO_src q).2
theorem itI_zip {x y : MV} (q : items h x = some xs) (q' : items h y = some ys) : itI h (.zip (srO x) (srO y)) = some (zl xs ys) := by
  unfold itI
  simp only [(srO_src q).2, (srO_src q').2]
theorem itI_rng {lo : Int} {n : Nat} : itI h (.rng lo 1 n) = some (rngL lo n) := by
  unfold itI rngL
  simp
theorem srO_ref : srO (.ref j) = .lst j := rfl
end
end R

namespace R
open PySem
section
variable {g : Genv} {sm : Sm} {h t : Hm} {a b c e : ME} {P : MV → Hm → Prop} {xs ys : List MV} {v x y : MV} {j k : Nat} {o : MO} {ns : List Int}
theorem items_new : items (h ++ [.list xs]) (.ref h.length) = some xs := by
  unfold items
  simp
theorem items_set (hj : j < h.length) : items (h.set j (.list xs)) (.ref j) = some xs := by
  unfold items
  simp [hj]
theorem items_sne {o : MO} (ne : v ≠ .ref j) : items (h.set j o) v = items h v := by
  cases v with
  | ref k =>
    have : j ≠ k := fun z => ne (by rw [z])
    unfold items
    simp only [List.getElem?_set_ne this]
  | _ => rfl
theorem lt_items (q : items h (.ref j) = some xs) : j < h.length := by
  unfold items at q
  simp only at q
  cases e : h[j]? with
  | none => rw [e] at q; cases q
  | some o => exact (List.getElem?_eq_some_iff.mp e).1
theorem get_new : (h ++ [o])[h.length]? = some o := by simp
theorem get_app (q : h[j]? = some o) : (h ++ t)[j]? = some o := by
  rw [List.getElem?_append_left (List.getElem?_eq_some_iff.mp q).1]; exact q
/-! slices -/
def cutI (x : MV) (lo hi : List MV) (h : Hm) : Res MV := slcR x lo hi h
theorem w_slcU : (evE g (.slc a .nil (.cons b .nil)) sm h).ens P = (evE g a sm h).ens fun x h => (evE g b sm h).ens fun y h => (slcR x [] [y] h).ens P := by
  rw [w_slc]
  congr 1
  funext x h1
  simp only [w_nil, w_cons]
  simp only [allS, Option.some.injEq, exists_eq_left']
  congr 1
  funext y h2
  unfold slcR
  simp only [allS]
  cases asInt y <;> simp [Res.ens]
theorem w_slcL : (evE g (.slc a (.cons b .nil) .nil) sm h).ens P = (evE g a sm h).ens fun x h => (evE g b sm h).ens fun y h => (slcR x [y] [] h).ens P := by
  rw [w_slc]
  congr 1
  funext x h1
  simp only [w_nil, w_cons]
  congr 1
  funext y h2
  unfold slcR
  simp only [allS]
  cases asInt y <;> simp [Res.ens]
theorem w_slcB : (evE g (.slc a (.cons b .nil) (.cons c .nil)) sm h).ens P = (evE g a sm h).ens fun x h => (evE g b sm h).ens fun y h => ∃ i, asInt y = some i ∧ (evE g c sm h).ens fun z h => (slcR x [.int i] [z] h).ens P := by
  rw [w_slc]
  congr 1
  funext x h1
  simp only [w_nil, w_cons]
  congr 1
  funext y h2
  simp only [allS]
  cases e : asInt y with
  | none => simp
  | some i =>
    simp only [Option.some.injEq, exists_eq_left']
    congr 1
    funext z h3
    unfold slcR
    rw [show allS asInt [.int i] = some [i] from rfl]
    simp only [allS]
    cases asInt z <;> simp [Res.ens]
theorem w_cutU {k : Int} : (slcR x [] [.int k] h).ens P = (cutAt x none (some k) h).ens P := rfl
theorem w_cutL {k : Int} : (slcR x [.int k] [] h).ens P = (cutAt x (some k) none h).ens P := rfl
theorem w_cutB {k m : Int} : (slcR x [.int k] [.int m] h).ens P = (cutAt x (some k) (some m) h).ens P := rfl
theorem w_cut {lo hi : Option Int} (q : items h (.ref j) = some xs) : (cutAt (.ref j) lo hi h).ens P = newE (.list (cutL xs lo hi)) P h := by
  unfold cutAt
  simp only [q]
  rfl
theorem cutL_upto {α : Type} (xs : List α) (k : Nat) : cutL xs none (some (k : Int)) = xs.take k := by
  unfold cutL
  rw [HT.sIx_none, HT.sIx_nat, List.drop_zero, Nat.sub_zero]
  by_cases e : k ≤ xs.length
  · rw [Nat.min_eq_left e]
  · rw [Nat.min_eq_right (by omega), List.take_of_length_le (Nat.le_refl _), List.take_of_length_le (by omega)]
theorem cutL_from {α : Type} (xs : List α) (k : Nat) : cutL xs (some (k : Int)) none = xs.drop k := by
  unfold cutL
  rw [HT.sIx_none, HT.sIx_nat]
  by_cases e : k ≤ xs.length
  · rw [Nat.min_eq_left e, List.take_of_length_le (by rw [List.length_drop]; exact Nat.le_refl _)]
  · rw [Nat.min_eq_right (by omega), List.drop_of_length_le (Nat.le_refl _), List.drop_of_length_le (by omega)]; simp
/-! built-in functions -/
theorem w_len (q : items h v = some xs) : (bi .len [v] h).ens P = P (.int xs.length) h := by
  cases v with
  | tup ys => cases q; rfl
  | ref j =>
    unfold bi
    simp only [q]
    rfl
  | _ => cases q
theorem w_list (q : items h v = some xs) : (bi .list [v] h).ens P = newE (.list xs) P h := by
  unfold bi
  simp only [q]
  rfl
theorem w_listD {kvs : List (L2.Key × MV)} (q : h[j]? = some (.dict kvs)) : (bi .list [.ref j] h).ens P = newE (.list (kvs.map fun p => ofKey p.1)) P h := by
  have : items h (.ref j) = none := by unfold items; simp only [q]
  unfold bi
  simp only [this, q]
  rfl
theorem w_tuple (q : items h v = some xs) : (bi .tuple [v] h).ens P = P (.tup xs) h := by
  unfold bi
  simp only [q]
  rfl
theorem allS_c {α β : Type} {f : α → Option β} {a : α} {as : List α} {b : β} {bs : List β} (h1 : f a = some b) (h2 : allS f as = some bs) : allS f (a :: as) = some (b :: bs) := by
  unfold allS
  rw [h1, h2]
theorem allS_ints : ∀ ns : List Int, allS asInt (ns.map .int) = some ns
  | [] => rfl
  | n :: ns => allS_c rfl (allS_ints ns)
theorem allS_bools : ∀ ns : List Bool, allS asBool (ns.map .bl) = some ns
  | [] => rfl
  | n :: ns => allS_c rfl (allS_bools ns)
theorem w_sum (q : items h (.ref j) = some (ns.map .int)) : (bi .sum [.ref j] h).ens P = P (.int ns.sum) h := by
  unfold bi
  simp only [q, allS_ints]
  rfl
theorem w_any {bs : List Bool} (q : items h (.ref j) = some (bs.map .bl)) : (bi .any [.ref j] h).ens P = P (.bl (bs.any id)) h := by
  unfold bi
  simp only [q, allS_bools]
  rfl
theorem w_all {bs : List Bool} (q : items h (.ref j) = some (bs.map .bl)) : (bi .all [.ref j] h).ens P = P (.bl (bs.all id)) h := by
  unfold bi
  simp only [q, allS_bools]
  rfl
theorem w_sset (q : items h v = some (ns.map .int)) (hl : ns.length ≤ 4000) : (bi .set [v] h).ens P = newE (.set (setI ns)) P h := by
  unfold bi
  simp only [q, allS_ints]
  rw [if_pos hl]
  rfl
theorem w_sorted (q : items h (.ref j) = some (ns.map .int)) : (bi .sorted [.ref j] h).ens P = newE (.list ((sortI ns).map .int)) P h := by
  unfold bi
  cases e : h[j]? with
  | none => simp only [q, e, allS_ints]; rfl
  | some o =>
    cases o with
    | set ms => unfold items at q; simp only [e] at q; cases q
    | _ => simp only [q, e, allS_ints]; rfl
theorem w_sortedS (q : h[j]? = some (.set ns)) : (bi .sorted [.ref j] h).ens P = newE (.list ((sortI ns).map .int)) P h := by
  unfold bi
  simp only [q]
  rfl
/-! methods -/
theorem k_list (q : h[j]? = some (.list xs)) : kind h (.ref j) = some "list" := by unfold kind; simp only [q]
theorem k_dict {kvs : List (L2.Key × MV)} (q : h[j]? = some (.dict kvs)) : kind h (.ref j) = some "dict" := by unfold kind; simp only [q]
theorem w_append (q : h[j]? = some (.list xs)) (hl : xs.length < sizeLine) : (meth .append (.ref j) [v] h).ens P = P .non (h.set j (.list (xs ++ [v]))) := by
  unfold meth
  simp only [q]
  rw [if_pos hl]
  rfl
theorem w_extend (q : h[j]? = some (.list xs)) (q' : h[k]? = some (.list ys)) (hl : xs.length + ys.length ≤ sizeLine) : (meth .extend (.ref j) [.ref k] h).ens P = P .non (h.set j (.list (xs ++ ys))) := by
  have : mList h k = some ys := by unfold mList; simp only [q']
  unfold meth
  simp only [q, this]
  rw [if_pos hl]
  rfl
theorem w_reverse (q : h[j]? = some (.list xs)) : (meth .reverse (.ref j) [] h).ens P = P .non (h.set j (.list xs.reverse)) := by
  unfold meth
  simp only [q]
  rfl
def setdE (o : Option MV) (j : Nat) (kvs : List (L2.Key × MV)) (k : L2.Key) (v : MV) (P : MV → Hm → Prop) (h : Hm) : Prop := match o with
  | some w => P w h
  | none => P v (h.set j (.dict (kvs ++ [(k, v)])))
theorem w_setd {kvs : List (L2.Key × MV)} {l : Int} (q : h[j]? = some (.dict kvs)) (hl : kvs.length < sizeLine) : (meth .setdefault (.ref j) [.int l, v] h).ens P = setdE (mLook kvs (.inl l)) j kvs (.inl l) v P h := by
  unfold meth
  simp only [q, keyOf]
  rw [if_pos hl]
  cases mLook kvs (.inl l) <;> rfl
theorem w_ixD {kvs : List (L2.Key × MV)} {l : Int} {w : MV} (q : h[j]? = some (.dict kvs)) (q' : mLook kvs (.inl l) = some w) : (ixAt (.ref j) (.int l) h).ens P = P w h := by
  unfold ixAt
  simp only [q, q']
  rfl
/-! lists as data -/
theorem den_ints : ∀ ns : List Int, allS (den h (k + 1)) (ns.map .int) = some (ns.map PyData.int)
  | [] => rfl
  | n :: ns => allS_c rfl (den_ints ns)
end
theorem map_get {α β : Type} {f : α → β} {l : List α} {k : Nat} {y : β} (h : (l.map f)[k]? = some y) : ∃ x, l[k]? = some x ∧ f x = y := by
  rw [List.getElem?_map] at h
  exact Option.map_eq_some_iff.mp h
/-! ### heaps that grow: all but S stays -/
def Fr (S : List Nat) (h h' : Hm) : Prop := h.length ≤ h'.length ∧ ∀ i, i < h.length → i ∉ S → h'[i]? = h[i]?
abbrev Ex := Fr []
section
variable {S T : List Nat} {h h1 h2 t : Hm} {o : MO} {j : Nat} {v : MV} {xs : List MV} {it : IT}
theorem Fr.refl : Fr S h h := ⟨Nat.le_refl _, fun _ _ _ => rfl⟩
theorem Fr.mono (f : Fr S h h1) (s : ∀ i, i ∈ S → i ∈ T) : Fr T h h1 := ⟨f.1, fun i hi ne => f.2 i hi fun z => ne (s i z)⟩
theorem Fr.ex (f : Ex h h1) : Fr S h h1 := f.mono fun _ z => by cases z
theorem Fr.trans (f : Fr S h h1) (g : Fr S h1 h2) : Fr S h h2 := ⟨Nat.le_trans f.1 g.1, fun i hi ne => by rw [g.2 i (Nat.lt_of_lt_of_le hi f.1) ne, f.2 i hi ne]⟩
theorem Fr.at (f : Fr S h h1) (e : h[j]? = some o) (ne : j ∉ S) : h1[j]? = some o := by
  rw [f.2 j (List.getElem?_eq_some_iff.mp e).1 ne]; exact e
theorem Fr.app : Fr S h (h ++ t) := ⟨by simp, fun i hi _ => by rw [List.getElem?_append_left hi]⟩
theorem Fr.set (hj : j ∈ S) : Fr S h (h.set j o) := ⟨by simp, fun i _ ne => by rw [List.getElem?_set_ne (fun z => ne (by rw [← z]; exact hj))]⟩
/-- what changed is newer -/
theorem Fr.drop (f : Fr S h h1) (s : ∀ i, i ∈ S → i ∈ T ∨ h.length ≤ i) : Fr T h h1 := ⟨f.1, fun i hi ne => f.2 i hi fun z => (s i z).elim ne fun z => by omega⟩
theorem Fr.items (f : Fr S h h1) (q : items h v = some xs) (ne : ∀ k, v = .ref k → k ∉ S) : R.items h1 v = some xs := by
  cases v with
  | tup ys => exact q
  | ref k =>
    unfold R.items at q ⊢
    simp only at q ⊢
    cases e : h[k]? with
    | none => rw [e] at q; cases q
    | some o => rw [f.at e (ne k rfl)]; rw [e] at q; exact q
  | _ => cases q
theorem Fr.len (f : Fr S h h1) : h.length ≤ h1.length := f.1
theorem Ex.at (a : Ex h h1) (q : h[j]? = some o) : h1[j]? = some o := Fr.at a q (by simp)
theorem Ex.items (a : Ex h h1) (q : R.items h v = some xs) : R.items h1 v = some xs := Fr.items a q fun _ _ => by simp
theorem Ex.trans (f : Ex h h1) (g : Ex h1 h2) : Ex h h2 := Fr.trans f g
theorem ne_sing {b k : Nat} (h : k ≠ b) : k ∉ [b] := by simpa using h
/-- a new object -/
theorem newE_of {P : MV → Hm → Prop} (f : ∀ j h', Ex h h' → h'[j]? = some o → h.length ≤ j → P (.ref j) h') : newE o P h := f _ _ .app get_new (Nat.le_refl _)
theorem newL_of {P : MV → Hm → Prop} (f : ∀ j h', Ex h h' → items h' (.ref j) = some xs → h.length ≤ j → P (.ref j) h') : newE (.list xs) P h := f _ _ .app items_new (Nat.le_refl _)
end
/-- a comprehension whose steps make new objects alone -/
theorem lc_ex {α : Type} {h : Hm} {it : IT} {step : MV → Hm → Res (Option MV)} {Q : MV → Hm → Prop} (L : List α) (φ : α → MV) (ψ : α → Option MV) (hq : ∀ h', Ex h h' → itI h' it = some (L.map φ)) (hz : L.length < sizeLine)
    (hstep : ∀ a, a ∈ L → ∀ h', Ex h h' → (step (φ a) h').ens fun o h2 => o = ψ a ∧ Ex h' h2)
    (fin : ∀ j h', Ex h h' → h'[j]? = some (.list (L.filterMap ψ)) → h.length ≤ j → Q (.ref j) h') : (lcGo it step h.length (turns h it + 1) 0 (h ++ [.list []])).ens Q := by
  have dr : ∀ {h'}, Fr [h.length] (h ++ [.list []]) h' → Ex h h' := fun f => (Fr.app.trans f).drop fun i hi => .inr (by cases List.mem_singleton.mp hi; exact Nat.le_refl _)
  refine lc_inv (L.map φ) (fun k acc h' => acc = (L.take k).filterMap ψ ∧ Fr [h.length] (h ++ [.list []]) h') (hq h .refl) (fun k acc h' i => hq h' (dr i.2)) (fun k acc h' i => ?_) (fun k x acc h' hx i hd => ?_) ⟨rfl, .refl⟩ (fun acc h' i hd => ?_)
  · rw [i.1]
    refine Nat.lt_of_le_of_lt (List.length_filterMap_le _ _) (Nat.lt_of_le_of_lt ?_ hz)
    rw [List.length_take]; omega
  · obtain ⟨i1, i2⟩ := i
    obtain ⟨a, ha, rfl⟩ := map_get hx
    refine (hstep a (List.mem_of_getElem? ha) h' (dr i2)).mono fun o h2 q => ?_
    obtain ⟨rfl, x2⟩ := q
    have take : (L.take (k + 1)).filterMap ψ = acc ++ (ψ a).toList := by
      rw [List.take_add_one, ha, List.filterMap_append, ← i1]
      show acc ++ [a].filterMap ψ = _
      rw [List.filterMap_cons]
      cases ψ a <;> rfl
    refine ⟨x2.at hd, ?_⟩
    cases e : ψ a with
    | none => exact ⟨by rw [take, e]; simp, i2.trans x2.ex⟩
    | some y => exact ⟨by rw [take, e]; rfl, (i2.trans x2.ex).trans (Fr.set (by simp))⟩
  · obtain ⟨i1, i2⟩ := i
    rw [List.length_map, List.take_length] at i1
    exact fin _ _ (dr i2) (by rw [hd, i1]) (Nat.le_refl _)
end R

namespace R
open PySem
/-! ### data, through and through -/
inductive Dt where
  | non | bl (b : Bool) | int (i : Int) | str (s : Str) | tup (l : List Dt) | lst (l : List Dt)
mutual
inductive Rep (S : List Nat) (h : Hm) : Dt → MV → Prop where
  | non : Rep S h .non .non
  | bl (b : Bool) : Rep S h (.bl b) (.bl b)
  | int (i : Int) : Rep S h (.int i) (.int i)
  | str (s : Str) : Rep S h (.str s) (.str s)
  | tup {ds : List Dt} {vs : List MV} : Reps S h ds vs → Rep S h (.tup ds) (.tup vs)
  | lst {ds : List Dt} {vs : List MV} {j : Nat} : j ∉ S → items h (.ref j) = some vs → Reps S h ds vs → Rep S h (.lst ds) (.ref j)
inductive Reps (S : List Nat) (h : Hm) : List Dt → List MV → Prop where
  | nil : Reps S h [] []
  | cons {d : Dt} {ds : List Dt} {v : MV} {vs : List MV} : Rep S h d v → Reps S h ds vs → Reps S h (d :: ds) (v :: vs)
end
section
variable {S T : List Nat} {h h1 : Hm}
mutual
theorem Rep.fr (f : Fr S h h1) : ∀ {d : Dt} {v : MV}, Rep S h d v → Rep S h1 d v
  | _, _, .non => .non
  | _, _, .bl b => .bl b
  | _, _, .int i => .int i
  | _, _, .str s => .str s
  | _, _, .tup r => .tup (Reps.fr f r)
  | _, _, .lst n q r => .lst n (f.items q fun k e => by cases e; exact n) (Reps.fr f r)
theorem Reps.fr (f : Fr S h h1) : ∀ {d : List Dt} {v : List MV}, Reps S h d v → Reps S h1 d v
  | _, _, .nil => .nil
  | _, _, .cons a b => .cons (Rep.fr f a) (Reps.fr f b)
end
mutual
theorem Rep.sub (s : ∀ i, i ∈ T → i ∈ S) : ∀ {d : Dt} {v : MV}, Rep S h d v → Rep T h d v
  | _, _, .non => .non
  | _, _, .bl b => .bl b
  | _, _, .int i => .int i
  | _, _, .str s => .str s
  | _, _, .tup r => .tup (Reps.sub s r)
  | _, _, .lst n q r => .lst (fun z => n (s _ z)) q (Reps.sub s r)
theorem Reps.sub (s : ∀ i, i ∈ T → i ∈ S) : ∀ {d : List Dt} {v : List MV}, Reps S h d v → Reps T h d v
  | _, _, .nil => .nil
  | _, _, .cons a b => .cons (Rep.sub s a) (Reps.sub s b)
end
/-- what is newer than a representation is not in it -/
theorem rep_lt {h : Hm} {j : Nat} {xs : List MV} (q : items h (.ref j) = some xs) : j < h.length := lt_items q
mutual
theorem Rep.more (s : ∀ i, i ∈ T → i ∈ S ∨ h.length ≤ i) : ∀ {d : Dt} {v : MV}, Rep S h d v → Rep T h d v
  | _, _, .non => .non
  | _, _, .bl b => .bl b
  | _, _, .int i => .int i
  | _, _, .str s => .str s
  | _, _, .tup r => .tup (Reps.more s r)
  | _, _, .lst n q r => .lst (fun z => (s _ z).elim n fun l => by have := lt_items q; omega) q (Reps.more s r)
theorem Reps.more (s : ∀ i, i ∈ T → i ∈ S ∨ h.length ≤ i) : ∀ {d : List Dt} {v : List MV}, Reps S h d v → Reps T h d v
  | _, _, .nil => .nil
  | _, _, .cons a b => .cons (Rep.more s a) (Reps.more s b)
end
theorem Rep.ex (f : Ex h h1) {d : Dt} {v : MV} (r : Rep S h d v) : Rep S h1 d v := r.fr f.ex
theorem Reps.ex (f : Ex h h1) {d : List Dt} {v : List MV} (r : Reps S h d v) : Reps S h1 d v := r.fr f.ex
theorem Reps.length : ∀ {d : List Dt} {v : List MV}, Reps S h d v → d.length = v.length
  | _, _, .nil => rfl
  | _, _, .cons _ r => by rw [List.length_cons, List.length_cons, Reps.length r]
theorem Reps.get {d : List Dt} {v : List MV} {k : Nat} {x : MV} (r : Reps S h d v) (e : v[k]? = some x) : ∃ y, d[k]? = some y ∧ Rep S h y x := by
  induction k generalizing d v with
  | zero =>
    cases r with
    | nil => cases e
    | cons a _ => cases e; exact ⟨_, rfl, a⟩
  | succ k ih =>
    cases r with
    | nil => cases e
    | cons _ r => exact ih r e
theorem Reps.ints : ∀ ns : List Int, Reps S h (ns.map .int) (ns.map .int)
  | [] => .nil
  | n :: ns => .cons (.int n) (Reps.ints ns)
theorem Reps.append : ∀ {d e : List Dt} {v w : List MV}, Reps S h d v → Reps S h e w → Reps S h (d ++ e) (v ++ w)
  | _, _, _, _, .nil, r => r
  | _, _, _, _, .cons a b, r => .cons a (Reps.append b r)
end
mutual
def Dt.deep : Dt → Nat
  | .tup l => 1 + deeps l
  | .lst l => 1 + deeps l
  | _ => 1
def deeps : List Dt → Nat
  | [] => 0
  | d :: ds => max d.deep (deeps ds)
end
theorem deeps_mem : ∀ {l : List Dt} {d : Dt}, d ∈ l → d.deep ≤ deeps l
  | x :: l, d, h => by
    unfold deeps
    rcases List.mem_cons.mp h with e | h
    · rw [e]; exact Nat.le_max_left _ _
    · exact Nat.le_trans (deeps_mem h) (Nat.le_max_right _ _)
mutual
/-- the longest list in it -/
def Dt.wide : Dt → Nat
  | .tup l => max l.length (wides l)
  | .lst l => max l.length (wides l)
  | _ => 0
def wides : List Dt → Nat
  | [] => 0
  | d :: ds => max d.wide (wides ds)
end
theorem wides_mem : ∀ {l : List Dt} {d : Dt}, d ∈ l → d.wide ≤ wides l
  | x :: l, d, h => by
    unfold wides
    rcases List.mem_cons.mp h with e | h
    · rw [e]; exact Nat.le_max_left _ _
    · exact Nat.le_trans (wides_mem h) (Nat.le_max_right _ _)
/-! ### comparisons of the simple ones -/
section
variable {h : Hm} {P : MV → Hm → Prop} {a b : Bool} {s t : Str}
theorem w_neB : (cmpR .ne (.bl a) (.bl b) h).ens P = P (.bl (!decide (a = b))) h := by cases a <;> cases b <;> rfl
theorem w_eqB : (cmpR .eq (.bl a) (.bl b) h).ens P = P (.bl (decide (a = b))) h := by cases a <;> cases b <;> rfl
theorem w_eqS : (cmpR .eq (.str s) (.str t) h).ens P = P (.bl (decide (s = t))) h := rfl
theorem w_neS : (cmpR .ne (.str s) (.str t) h).ens P = P (.bl (!decide (s = t))) h := rfl
/-! lists of ints compared -/
theorem lay_ints : ∀ ns : List Int, PyData.canLayAll0 (ns.map PyData.int) = true
  | [] => rfl
  | n :: ns => by
    show (true && PyData.canLayAll0 (ns.map PyData.int)) = true
    rw [lay_ints ns]
    rfl
theorem deep_ints (ns : List Int) : SeqAt.shaped (.list (ns.map PyData.int)) = true := by
  unfold SeqAt.shaped
  rw [Bool.and_eq_true]
  have d : ∀ ns : List Int, PyData.depthAll (ns.map PyData.int) = 0 := by
    intro ns
    induction ns with
    | nil => rfl
    | cons n ns ih => show max 0 (PyData.depthAll (ns.map PyData.int)) = 0; rw [ih]; rfl
  refine ⟨lay_ints ns, decide_eq_true ?_⟩
  show PyData.depthAll (ns.map PyData.int) + 1 ≤ 64
  rw [d]
  decide
theorem eqv_ints : ∀ ns ms : List Int, PyData.eqvAll (ns.map PyData.int) (ms.map PyData.int) = decide (ns = ms)
  | [], [] => rfl
  | [], _ :: _ => rfl
  | _ :: _, [] => rfl
  | n :: ns, m :: ms => by
    show (PyData.eqv (.int n) (.int m) && PyData.eqvAll (ns.map PyData.int) (ms.map PyData.int)) = _
    rw [eqv_ints ns ms, eqv_int]
    by_cases e : n = m <;> by_cases e2 : ns = ms <;> simp [e, e2]
theorem denV_ints {j : Nat} {ns : List Int} (q : items h (.ref j) = some (ns.map .int)) : denV h (.ref j) = some (.list (ns.map PyData.int)) := by
  have d : den h 30 (.ref j) = some (.list (ns.map PyData.int)) := by
    unfold items at q
    simp only at q
    unfold den
    cases e : h[j]? with
    | none => rw [e] at q; cases q
    | some o =>
      rw [e] at q
      cases o <;> first | (cases q; simp only [den_ints]; rfl) | cases q
  unfold denV
  rw [d]
  show (if SeqAt.shaped (.list (ns.map PyData.int)) = true then _ else _) = _
  rw [if_pos (deep_ints ns)]
theorem w_neL {i j : Nat} {ns ms : List Int} (q : items h (.ref i) = some (ns.map .int)) (q' : items h (.ref j) = some (ms.map .int)) : (cmpR .ne (.ref i) (.ref j) h).ens P = P (.bl (!decide (ns = ms))) h := by
  unfold cmpR cmp eqO
  simp only [denV_ints q, denV_ints q', Option.map_some]
  show P (.bl (!(PyData.eqvAll _ _))) h = _
  rw [eqv_ints]
theorem any_ints (n : Int) : ∀ ms : List Int, ((ms.map PyData.int).any fun z => PyData.eqv z (.int n)) = decide (n ∈ ms)
  | [] => rfl
  | m :: ms => by
    rw [List.map_cons, List.any_cons, any_ints n ms, eqv_int]
    by_cases e : m = n
    · simp [e]
    · simp [e, Ne.symm e]
theorem denV_int {n : Int} : denV h (.int n) = some (.int n) := rfl
theorem denV_tints {ns : List Int} : denV h (.tup (ns.map .int)) = some (.tuple (ns.map PyData.int)) := by
  have d : den h 30 (.tup (ns.map .int)) = some (.tuple (ns.map PyData.int)) := by
    unfold den
    simp only [den_ints]
    rfl
  unfold denV
  rw [d]
  show (if SeqAt.shaped (.tuple (ns.map PyData.int)) = true then _ else _) = _
  rw [show SeqAt.shaped (.tuple (ns.map PyData.int)) = true from deep_ints ns, if_pos rfl]
theorem w_inT {n : Int} {ms : List Int} : (cmpR .isin (.int n) (.tup (ms.map .int)) h).ens P = P (.bl (decide (n ∈ ms))) h := by
  unfold cmpR cmp inD
  simp only [denV_int, denV_tints]
  rw [any_ints]
  rfl
theorem find_int {n : Int} : ∀ {ns : List Int} {i : Nat}, ns.Nodup → ns[i]? = some n → ((ns.map PyData.int).findIdx? fun z => PyData.eqv z (.int n)) = some i
  | m :: ns, 0, _, h => by
    cases h
    rw [List.map_cons, List.findIdx?_cons, eqv_int, if_pos (by simp)]
  | m :: ns, i + 1, nd, h => by
    obtain ⟨n1, n2⟩ := List.nodup_cons.mp nd
    have h : ns[i]? = some n := h
    have ne : m ≠ n := fun z => n1 (by rw [z]; exact List.mem_of_getElem? h)
    rw [List.map_cons, List.findIdx?_cons, eqv_int, if_neg (by simp [ne]), find_int n2 h]
    rfl
theorem w_index {j : Nat} {n : Int} {ns : List Int} {i : Nat} (q : h[j]? = some (.list (ns.map .int))) (nd : ns.Nodup) (hi : ns[i]? = some n) : (meth .index (.ref j) [.int n] h).ens P = P (.int (i : Nat)) h := by
  unfold meth
  simp only [q, denV_ints (items_lst q), denV_int, find_int nd hi]
  rfl
/-! isinstance -/
def isiO (k : Option String) (c : String) (h : Hm) : Res MV := match k with
  | some k => if tyKnown c = true then .ok (.bl (isSub k c)) h else .bad
  | none => .bad
def isiT (k : Option String) (cs : Option (List String)) (h : Hm) : Res MV := match k, cs with
  | some k, some ts => if ts.all tyKnown = true then .ok (.bl (ts.any (isSub k))) h else .bad
  | _, _ => .bad
variable {x : MV} {c k : String} {cs : List MV} {xs : List MV} {j : Nat}
theorem w_isi : (bi .isinstance [x, .ty c] h).ens P = (isiO (kind h x) c h).ens P := rfl
theorem w_isiT : (bi .isinstance [x, .tup cs] h).ens P = (isiT (kind h x) (allS asTy cs) h).ens P := rfl
theorem isi_list : (isiO (some k) "list" h).ens P = P (.bl (isSub k "list")) h := rfl
theorem isi_tuple : (isiO (some k) "tuple" h).ens P = P (.bl (isSub k "tuple")) h := rfl
theorem isi_str : (isiO (some k) "str" h).ens P = P (.bl (isSub k "str")) h := rfl
theorem isi_int : (isiO (some k) "int" h).ens P = P (.bl (isSub k "int")) h := rfl
theorem isi_bool : (isiO (some k) "bool" h).ens P = P (.bl (isSub k "bool")) h := rfl
theorem isi_lt : (isiT (some k) (allS asTy [.ty "list", .ty "tuple"]) h).ens P = P (.bl (isSub k "list" || (isSub k "tuple" || false))) h := rfl
theorem k_non : kind h .non = some "NoneType" := rfl
theorem k_bl : kind h (.bl a) = some "bool" := rfl
theorem k_int {i : Int} : kind h (.int i) = some "int" := rfl
theorem k_str : kind h (.str s) = some "str" := rfl
theorem k_tup : kind h (.tup xs) = some "tuple" := rfl
theorem k_items (q : items h (.ref j) = some xs) : kind h (.ref j) = some "list" := by
  unfold items at q
  simp only at q
  unfold kind
  cases e : h[j]? with
  | none => rw [e] at q; cases q
  | some o => rw [e] at q; cases o <;> first | (simp only [e]; done) | cases q
theorem sub_tab : (["NoneType", "bool", "int", "str", "tuple", "list"].all fun k => isSub k "list" == (k == "list") && isSub k "tuple" == (k == "tuple") && isSub k "str" == (k == "str") && isSub k "bool" == (k == "bool")) = true := by decide
end
end R

/-! R: defaults, keywords, constants: the facts of a text's top. -/
namespace R
open PySem PySem.Spec PyProof.Rows
open L2 (V Hp HO SqL SqT TE TS TT TA VK Cx PE PT PA PS PSs upd Rd RelV Dp DpAll Inv It TI PI PIE FpOk Turn thn TG TGs PG PGs Ends)
inductive LR {α β : Type} (Q : α → β → Prop) : List α → List β → Prop where
  | nil : LR Q [] []
  | cons {a : α} {b : β} {as : List α} {bs : List β} : Q a b → LR Q as bs → LR Q (a :: as) (b :: bs)
theorem LR.get {α β : Type} {Q : α → β → Prop} {as : List α} {bs : List β} (r : LR Q as bs) : ∀ i : Nat, (∃ a b, as[i]? = some a ∧ bs[i]? = some b ∧ Q a b) ∨ (as[i]? = none ∧ bs[i]? = none) := by
  induction r with
  | nil => intro i; exact .inr ⟨by simp, by simp⟩
  | cons h _ ih =>
    intro i
    cases i with
    | zero => exact .inl ⟨_, _, rfl, rfl, h⟩
    | succ i => simpa using ih i
theorem pick_lr {α β : Type} {Q : α → β → Prop} {ds xs zs : List α} {ds' xs' zs' : List β} (d : LR Q ds ds') (x : LR Q xs xs') (z : LR Q zs zs') : ∀ sl : List Sl,
    (∃ ys ys', pick ds xs zs sl = some ys ∧ pick ds' xs' zs' sl = some ys' ∧ LR Q ys ys') ∨ (pick ds xs zs sl = none ∧ pick ds' xs' zs' sl = none)
  | [] => .inl ⟨[], [], rfl, rfl, .nil⟩
  | s :: r => by
    have ih := pick_lr d x z r
    cases s with
    | pos i =>
      rcases x.get i with ⟨a, b, e1, e2, q⟩ | ⟨e1, e2⟩
      · rcases ih with ⟨ys, ys', i1, i2, i3⟩ | ⟨i1, i2⟩
        · exact .inl ⟨a :: ys, b :: ys', by simp [pick, e1, i1], by simp [pick, e2, i2], .cons q i3⟩
        · exact .inr ⟨by simp [pick, e1, i1], by simp [pick, e2, i2]⟩
      · exact .inr ⟨by simp [pick, e1], by simp [pick, e2]⟩
    | kw i =>
      rcases z.get i with ⟨a, b, e1, e2, q⟩ | ⟨e1, e2⟩
      · rcases ih with ⟨ys, ys', i1, i2, i3⟩ | ⟨i1, i2⟩
        · exact .inl ⟨a :: ys, b :: ys', by simp [pick, e1, i1], by simp [pick, e2, i2], .cons q i3⟩
        · exact .inr ⟨by simp [pick, e1, i1], by simp [pick, e2, i2]⟩
      · exact .inr ⟨by simp [pick, e1], by simp [pick, e2]⟩
    | dfl i =>
      rcases d.get i with ⟨a, b, e1, e2, q⟩ | ⟨e1, e2⟩
      · rcases ih with ⟨ys, ys', i1, i2, i3⟩ | ⟨i1, i2⟩
        · exact .inl ⟨a :: ys, b :: ys', by simp [pick, e1, i1], by simp [pick, e2, i2], .cons q i3⟩
        · exact .inr ⟨by simp [pick, e1, i1], by simp [pick, e2, i2]⟩
      · exact .inr ⟨by simp [pick, e1], by simp [pick, e2]⟩
theorem lr_vals : ∀ {xs : List V} {us : List Value}, L2.Vals xs us → LR RelV xs us
  | _, _, .nil => .nil
  | _, _, .cons h r => .cons h (lr_vals r)
theorem vals_lr : ∀ {xs : List V} {us : List Value}, LR RelV xs us → L2.Vals xs us
  | _, _, .nil => .nil
  | _, _, .cons h r => .cons h (vals_lr r)
theorem lr_rvs {K : KW} {H : Hp} {ι : List Addr} : ∀ {xs : List MV} {vs : List V}, RVs K H ι xs vs → LR (RV K H ι) xs vs
  | _, _, .nil => .nil
  | _, _, .cons h r => .cons h (lr_rvs r)
theorem rvs_lr {K : KW} {H : Hp} {ι : List Addr} : ∀ {xs : List MV} {vs : List V}, LR (RV K H ι) xs vs → RVs K H ι xs vs
  | _, _, .nil => .nil
  | _, _, .cons h r => .cons h (rvs_lr r)
/-- a call with keywords binds as the slots say -/
theorem kwb_of {K : KW} {fd : FuncData} {ps : List Str} {ds : List MV} {z : KSh} {dvs : List V} {its : List Value} (rv : L2.Vals dvs its) (rd : ∀ H ι, RVs K H ι ds dvs)
    (h : ∀ (s : Shared) (us ws : List Value), K.f.In s.heap → us.length = z.n → ws.length = z.ks.length → BindsTo s fd ⟨us, z.ks.zip ws⟩ (ps.zip ((pick its us ws z.sl).getD []))) : KwB K fd ps ds z := by
  refine ⟨fun us ws => (pick its us ws z.sl).getD [], fun vs us => (pick dvs vs us z.sl).getD [], ⟨h, fun {vs us zs ws} r1 r2 => ?_⟩, fun H ι xs vs zs us ys rx rz e => ?_⟩
  · rcases pick_lr (lr_vals rv) (lr_vals r1) (lr_vals r2) z.sl with ⟨ys, ys', e1, e2, r⟩ | ⟨e1, e2⟩
    · rw [e1, e2]; exact vals_lr r
    · rw [e1, e2]; exact .nil
  · unfold pickL at e
    split at e
    · rcases pick_lr (lr_rvs (rd H ι)) (lr_rvs rx) (lr_rvs rz) z.sl with ⟨ys1, ys', e1, e2, r⟩ | ⟨e1, e2⟩
      · rw [e1] at e
        cases e
        show RVs K H ι ys ((pick dvs vs us z.sl).getD [])
        rw [e2]
        exact rvs_lr r
      · rw [e1] at e; cases e
    · cases e
theorem fund_mk {K : PySem.W.Frag} {x qual : Str} {st : Stmt} {f T : Addr} {oc oc' : Value} {od od' an : Option Addr} {osl osl' : Array (Option Value)} {kV doc pm cdv ct : Value} {its : List Value} {n : Nat} {dvs : List V}
    (l : K.lookup f = some ⟨oc, od, .func (PySem.W.fnOf x qual (L2.defArgs st) (L2.defBody st) (L2.defScope st) (.ref T) kV doc pm an cdv ct), osl⟩)
    (c : PySem.W.codeIn K cdv qual = true) (k : PySem.W.keepIn K (.ref f) = true) (lT : K.lookup T = some ⟨oc', od', .seq its.toArray n, osl'⟩) (rv : L2.Vals dvs its) (hd : dvs ≠ []) :
    L2.FunD K x qual (L2.defArgs st) (L2.defBody st) (L2.defScope st) dvs [] f (PySem.W.fnOf x qual (L2.defArgs st) (L2.defBody st) (L2.defScope st) (.ref T) kV doc pm an cdv ct) :=
  ⟨⟨oc, od, .ref T, kV, doc, pm, an, cdv, ct, osl, rfl, l, c, .inr ⟨hd, T, _, its, n, rfl, lT, rfl, rv⟩, .inl rfl⟩, k⟩
theorem FnRule.ofD {P : Program} {w : World} {K : PySem.W.Frag} {mg : Str → Option Value} {base : Heap} {st : Stmt} {N ps : List Str} {x f : Str} {fa : Addr} {fd : FuncData} {dvs : List V} {kws : List (Str × V)}
    (F : L2.FunD K x f (L2.defArgs st) (L2.defBody st) (L2.defScope st) dvs kws fa fd) (S : L2.FnScope N ps (L2.defScope st)) : FnRule P w K mg base st N f fa fd ps := fun k sp len h => F.ok S len fun cdv A outer s H vs Q E hr hsp => by
  obtain ⟨t, a, q⟩ := h cdv A outer s H vs Q E hr hsp
  exact ⟨t, L2.PSs.nox a, q⟩
inductive AllA {α : Type} (Q : Str → α → Prop) : List (Str × α) → Prop where
  | nil : AllA Q []
  | cons {f : Str} {d : α} {r : List (Str × α)} : Q f d → AllA Q r → AllA Q ((f, d) :: r)
theorem AllA.at {α : Type} {Q : Str → α → Prop} {l : List (Str × α)} (a : AllA Q l) {f : Str} {d : α} (h : lkS l f = some d) : Q f d := by
  induction a with
  | nil => cases h
  | cons q r ih =>
    unfold lkS at h
    split at h
    · rename_i e
      cases h
      rw [← e]
      exact q
    · exact ih h
section
variable {K : PySem.W.Frag} {w : World} {h : Heap} {mg : Str → Option Value} {ad : Str → Option Addr}
theorem con_int {x : Str} {i : Int} {t : Tok} (X : K.In h) (G : h.Ns mainGlobals mg) (a : PySem.W.nsIn K mainGlobals x = some (some (.int i t))) : ∃ u w', mg x = some u ∧ RelV w' u ∧ ∀ H ι, RV (KW.mk K w ad) H ι (.int i) w' :=
  ⟨_, .int i, PySem.W.mg_of X G a, ⟨t, rfl⟩, fun _ _ => .int _⟩
theorem con_str {x : Str} {i : Str} {t : Tok} (X : K.In h) (G : h.Ns mainGlobals mg) (a : PySem.W.nsIn K mainGlobals x = some (some (.str i t))) : ∃ u w', mg x = some u ∧ RelV w' u ∧ ∀ H ι, RV (KW.mk K w ad) H ι (.str i) w' :=
  ⟨_, .str i, PySem.W.mg_of X G a, ⟨t, rfl⟩, fun _ _ => .str _⟩
theorem con_tup {x : Str} {T : Addr} {od : Option Addr} {its : List Value} {n : Nat} {sl : Array (Option Value)} {xs : List MV} {vs : List V} (X : K.In h) (G : h.Ns mainGlobals mg) (a : PySem.W.nsIn K mainGlobals x = some (some (.ref T)))
    (l : K.lookup T = some ⟨.type "tuple", od, .seq its.toArray n, sl⟩) (hz : its.length ≤ 1000) (rv : L2.Vals vs its) (rs : ∀ H ι, RVs (KW.mk K w ad) H ι xs vs) : ∃ u w', mg x = some u ∧ RelV w' u ∧ ∀ H ι, RV (KW.mk K w ad) H ι (.tup xs) w' :=
  ⟨_, .ref T, PySem.W.mg_of X G a, rfl, fun H ι => .tup (.inr ⟨_, its.toArray, n, l, rfl, rfl, by rw [sizeLine_eq]; simp; omega, rv⟩) (rs H ι)⟩
end
theorem kit_sub {K : PySem.W.Frag} {C : Addr} {T : String} {b : Bool} (hm : PySem.W.kitMeta T = true) (h : PySem.W.subIn K (.ref C) (.type T) = some b) : PySem.W.kitOne K (.ref C) (.type T) = some b := by
  unfold PySem.W.kitOne PySem.W.kitCls
  rw [if_neg (by simp)]
  show (if PySem.W.kitMeta T = true then PySem.W.subIn K (.ref C) (.type T) else none) = _
  rw [if_pos hm, h]
/-- a class's facts from what the top has made -/
theorem cls_mk {K : PySem.W.Frag} {w : World} {ad : Str → Option Addr} {ci : CI} {C : Addr} (had : ad ci.name = some C) (pg : PySem.W.plainGet K C Str.empty = true) (hd : PySem.W.hasDictIn K C = true) (po : PySem.W.plainOver K C = true)
    (sa : PySem.W.findIn K (.ref C) "__setattr__" = some (some (.builtin "object.__setattr__"))) (no : ∀ f, ci.flds.contains f = true → PySem.W.findIn K (.ref C) f = some none)
    (ha : PySem.W.findIn K (.ref C) "__class__" = some (some (.builtin "object.__class__"))) (hn : PySem.W.specialIn K (.builtin "object.__class__") "__get__" = some (some (.builtin "getset_descriptor.__get__")))
    (htk : PySem.W.takesIn K (.builtin "object.__class__") = some true) (hm : PySem.W.mroIn K C (.type "object") = some true)
    (b0 : PySem.W.subIn K (.ref C) (.type "int") = some false) (b1 : PySem.W.subIn K (.ref C) (.type "bool") = some false) (b2 : PySem.W.subIn K (.ref C) (.type "str") = some false)
    (b3 : PySem.W.subIn K (.ref C) (.type "tuple") = some false) (b4 : PySem.W.subIn K (.ref C) (.type "list") = some false) (b5 : PySem.W.subIn K (.ref C) (.type "dict") = some false)
    (isi : ∀ c b, (c, b) ∈ ci.isi → ∃ C', ad c = some C' ∧ PySem.W.kitOne K (.ref C) (.ref C') = some b) : ClsFact (KW.mk K w ad) ci C :=
  ⟨had, ⟨pg, hd, po, sa⟩, no, ha, hn, htk, hm, fun T hT => by
    have : T = "int" ∨ T = "bool" ∨ T = "str" ∨ T = "tuple" ∨ T = "list" ∨ T = "dict" := by
      unfold tyKnown at hT
      simpa using hT
    rcases this with rfl | rfl | rfl | rfl | rfl | rfl <;> exact kit_sub (by decide +kernel) (by assumption), isi⟩
end R

namespace R
open PySem
/-- the bag: its cells, its places; no more than Z draws so far -/
def Bag (b Z : Nat) (h : Hm) : Prop := ∃ (c : Nat) (cells : List Int) (i x y z : Int), h[b]? = some (.list [.ref c, .int i, .int x, .int y, .int z]) ∧ c < b ∧ h[c]? = some (.list (cells.map .int)) ∧
  0 ≤ i ∧ 0 ≤ x ∧ 0 ≤ y ∧ y < 2 ^ 40 ∧ 0 ≤ z ∧ z ≤ Z
theorem mulOk {i j : Int} (h1 : i.natAbs < 2 ^ 1000) (h2 : j.natAbs < 2 ^ 1000) : i.natAbs.log2 + j.natAbs.log2 < 1000000 := by
  have a : i.natAbs.log2 < 1000 := by
    by_cases e : i.natAbs = 0
    · rw [e]; decide
    · exact (Nat.log2_lt e).mpr h1
  have b : j.natAbs.log2 < 1000 := by
    by_cases e : j.natAbs = 0
    · rw [e]; decide
    · exact (Nat.log2_lt e).mpr h2
  omega
/-- what a bag holds -/
structure BagS (b c : Nat) (cells : List Int) (i x y z : Int) (Z : Nat) (h : Hm) : Prop where
  hb : h[b]? = some (.list [.ref c, .int i, .int x, .int y, .int z])
  ne : c < b
  hc : h[c]? = some (.list (cells.map .int))
  i0 : 0 ≤ i
  x0 : 0 ≤ x
  y0 : 0 ≤ y
  y1 : y < 2 ^ 40
  z0 : 0 ≤ z
  z1 : z ≤ Z
theorem BagS.bag {b c : Nat} {cells : List Int} {i x y z : Int} {Z : Nat} {h : Hm} (B : BagS b c cells i x y z Z h) : Bag b Z h := ⟨c, cells, i, x, y, z, B.hb, B.ne, B.hc, B.i0, B.x0, B.y0, B.y1, B.z0, B.z1⟩
theorem BagS.put {b c : Nat} {cells : List Int} {i x y z i' x' y' z' : Int} {Z Z' : Nat} {h : Hm} (B : BagS b c cells i x y z Z h) (i0 : 0 ≤ i') (x0 : 0 ≤ x') (y0 : 0 ≤ y') (y1 : y' < 2 ^ 40) (z0 : 0 ≤ z') (z1 : z' ≤ Z') :
    BagS b c cells i' x' y' z' Z' (h.set b (.list [.ref c, .int i', .int x', .int y', .int z'])) :=
  ⟨List.getElem?_set_self (List.getElem?_eq_some_iff.mp B.hb).1, B.ne, by rw [List.getElem?_set_ne (Nat.ne_of_gt B.ne)]; exact B.hc, i0, x0, y0, y1, z0, z1⟩
def tlS : MSs → MSs
  | .cons _ t => t
  | .nil => .nil
theorem fmod_pos {a m : Int} (h : 0 < m) : a.fmod m = a % m := Int.fmod_eq_emod_of_nonneg a (by omega)
theorem fdiv_pos {a m : Int} (h : 0 < m) : a.fdiv m = a / m := Int.fdiv_eq_ediv_of_nonneg a (by omega)
theorem log_small {m : Int} (h0 : 0 < m) (h : m < 2 ^ 1000) : m.natAbs.log2 < 9000 := by
  have : m.natAbs.log2 < 1000 := (Nat.log2_lt (by omega)).mpr (by omega)
  omega
theorem small_abs {m : Int} (h0 : 0 ≤ m) (h : m < 2 ^ 1000) : m.natAbs < 2 ^ 1000 := by omega
theorem Bag.ex {b Z : Nat} {h h' : Hm} (B : Bag b Z h) (x : Ex h h') : Bag b Z h' := by
  obtain ⟨c, cells, i, x', y, z, hb, hcb, hc, r⟩ := B
  exact ⟨c, cells, i, x', y, z, x.at hb, hcb, x.at hc, r⟩
theorem Bag.fr {b Z : Nat} {S : List Nat} {h h' : Hm} (B : Bag b Z h) (f : Fr S h h') (l : ∀ i, i ∈ S → b < i) : Bag b Z h' := by
  obtain ⟨c, cells, i, x', y, z, hb, hcb, hc, r⟩ := B
  exact ⟨c, cells, i, x', y, z, f.at hb (fun z => Nat.lt_irrefl _ (l _ z)), hcb, f.at hc (fun z => by have := l _ z; omega), r⟩
theorem Bag.le {b Z Z' : Nat} {h : Hm} (B : Bag b Z h) (l : Z ≤ Z') : Bag b Z' h := by
  obtain ⟨c, cells, i, x', y, z, hb, hcb, hc, i0, x0, y0, y1, z0, z1⟩ := B
  exact ⟨c, cells, i, x', y, z, hb, hcb, hc, i0, x0, y0, y1, z0, by omega⟩
theorem Bag.lt {b Z : Nat} {h : Hm} (B : Bag b Z h) : b < h.length := by
  obtain ⟨_, _, _, _, _, _, hb, _⟩ := B
  exact (List.getElem?_eq_some_iff.mp hb).1
theorem Bag.set {b Z f : Nat} {h : Hm} {o : MO} (B : Bag b Z h) (l : b < f) : Bag b Z (h.set f o) := by
  obtain ⟨c, cells, i, x', y, z, hb, hcb, hc, r⟩ := B
  exact ⟨c, cells, i, x', y, z, by rw [List.getElem?_set_ne (by omega)]; exact hb, hcb, by rw [List.getElem?_set_ne (by omega)]; exact hc, r⟩
/-- a comprehension whose steps draw -/
theorem lc_bag {α : Type} {h : Hm} {it : IT} {step : MV → Hm → Res (Option MV)} {Q : MV → Hm → Prop} {b Z : Nat} (c : Nat) (L : List α) (φ : α → MV) (R : α → MV → Prop) (B : Bag b Z h) (hq : ∀ h', Fr [b] h h' → itI h' it = some (L.map φ)) (hz : L.length < sizeLine)
    (hstep : ∀ a, a ∈ L → ∀ (k : Nat) (h' : Hm), k < L.length → Fr [b] h h' → Bag b (Z + c * k) h' → (step (φ a) h').ens fun o h2 => ∃ y, o = some y ∧ R a y ∧ Bag b (Z + c * k + c) h2 ∧ Fr [b] h' h2)
    (fin : ∀ (j : Nat) (h' : Hm) (ys : List MV), Fr [b] h h' → h'[j]? = some (.list ys) → ys.length = L.length → (∀ (k : Nat) (a : α) (y : MV), L[k]? = some a → ys[k]? = some y → R a y) → Bag b (Z + c * L.length) h' → h.length ≤ j → Q (.ref j) h') :
    (lcGo it step h.length (turns h it + 1) 0 (h ++ [.list []])).ens Q := by
  have bl := B.lt
  have dr : ∀ {h'}, Fr [b, h.length] (h ++ [.list []]) h' → Fr [b] h h' := fun f => (Fr.app.trans f).drop fun i hi => by
    simp only [List.mem_cons, List.not_mem_nil, or_false] at hi ⊢
    rcases hi with rfl | rfl
    · exact .inl rfl
    · exact .inr (Nat.le_refl _)
  refine lc_inv (L.map φ) (fun k acc h' => acc.length = k ∧ k ≤ L.length ∧ (∀ (i : Nat) (a : α) (y : MV), L[i]? = some a → acc[i]? = some y → R a y) ∧ Bag b (Z + c * k) h' ∧ Fr [b, h.length] (h ++ [.list []]) h') (hq h .refl) (fun k acc h' i => hq h' (dr i.2.2.2.2)) (fun k acc h' i => by have := i.1; have := i.2.1; omega) (fun k x acc h' hx i hd => ?_) ⟨rfl, Nat.zero_le _, by simp, B.ex .app, .refl⟩ (fun acc h' i hd => ?_)
  · obtain ⟨i1, i2, i3, i4, i5⟩ := i
    obtain ⟨a, ha, rfl⟩ := map_get hx
    have kl := (List.getElem?_eq_some_iff.mp ha).1
    refine (hstep a (List.mem_of_getElem? ha) k h' kl (dr i5) i4).mono fun o h2 q => ?_
    obtain ⟨y, rfl, r, B2, f2⟩ := q
    refine ⟨f2.at hd (ne_sing (by omega)), by simp [i1], kl, fun i a' y' h1 h3 => ?_, (B2.set bl).le (by rw [Nat.mul_add]; omega), (i5.trans (f2.mono (by simp))).trans (Fr.set (by simp))⟩
    by_cases e : i < acc.length
    · rw [List.getElem?_append_left e] at h3
      exact i3 i a' y' h1 h3
    · rw [List.getElem?_append_right (by omega)] at h3
      have : i = k := by
        have := (List.getElem?_eq_some_iff.mp h3).1
        simp at this
        omega
      subst this
      rw [i1] at h3
      simp at h3
      rw [ha] at h1
      cases h1
      rw [← h3]
      exact r
  · obtain ⟨i1, i2, i3, i4, i5⟩ := i
    rw [List.length_map] at i1 i4
    exact fin _ _ acc (dr i5) hd i1 i3 i4 (Nat.le_refl _)
theorem sum_nn : ∀ {l : List Int}, (∀ x ∈ l, 0 ≤ x) → 0 ≤ l.sum
  | [], _ => by simp
  | x :: l, h => by
    have h1 := h x (.head _)
    have h2 := sum_nn fun y hy => h y (.tail _ hy)
    rw [List.sum_cons]; omega
theorem sum_le {m : Int} : ∀ {l : List Int}, (∀ x ∈ l, x ≤ m) → l.sum ≤ m * l.length
  | [], _ => by simp
  | x :: l, h => by
    have h1 := h x (.head _)
    have h2 := sum_le fun y hy => h y (.tail _ hy)
    rw [List.sum_cons, List.length_cons, Int.natCast_add, Int.mul_add]
    simp only [Int.natCast_one, Int.mul_one]
    omega
end R

namespace R
open PySem
section
variable {α : Type} {g : Genv} {sm : Sm} {h : Hm} {t : ME} {body : MSs} {P : Fl → Hm → Prop} {Q : MV → Hm → Prop}
theorem w_while : (evS g (.while t body) sm h).ens P = (whileGo (fun sm h => (evE g t sm h).bind fun x h => truB (truth h x) fun k => .ok k h) (fun sm h => evSs g body sm h) whileMost sm h).ens P := rfl
/-- a while loop, by an invariant and a number that falls -/
theorem whileGo_ens {test : Sm → Hm → Res Bool} {bd : Sm → Hm → SRes} (I : Nat → Sm → Hm → Prop)
    (step : ∀ m sm h, I m sm h → (test sm h).ens fun k h' => (k = true → (bd sm h').ens fun fl h'' => match fl with
        | .nx sm' => ∃ m', m' < m ∧ I m' sm' h''
        | .cnt sm' => ∃ m', m' < m ∧ I m' sm' h''
        | .brk sm' => P (.nx sm') h''
        | .ret v => P (.ret v) h'') ∧ (k = false → P (.nx sm) h')) : ∀ (f m : Nat) (sm : Sm) (h : Hm), m < f → I m sm h → (whileGo test bd f sm h).ens P := by
  intro f
  induction f with
  | zero => intro m sm h l; omega
  | succ f ih =>
    intro m sm h l i
    unfold whileGo
    rw [sens_on]
    refine (step m sm h i).mono fun k h' q => ?_
    cases k with
    | false => exact q.2 rfl
    | true =>
      have z := q.1 rfl
      revert z
      simp only
      cases bd sm h' with
      | bad => exact fun z => z.elim
      | exc _ _ _ _ => exact fun z => z.elim
      | fl fl h'' =>
        cases fl with
        | nx sm' => exact fun ⟨m', l', i'⟩ => ih m' sm' h'' (by omega) i'
        | cnt sm' => exact fun ⟨m', l', i'⟩ => ih m' sm' h'' (by omega) i'
        | brk sm' => exact fun z => z
        | ret v => exact fun z => z
theorem while_inv (I : Nat → Sm → Hm → Prop) (m : Nat) (hm : m < whileMost)
    (step : ∀ m sm h, I m sm h → ((evE g t sm h).ens fun x h => (truB (truth h x) fun k => (.ok k h : Res Bool)).ens fun k h' => (k = true → (evSs g body sm h').ens fun fl h'' => match fl with
        | .nx sm' => ∃ m', m' < m ∧ I m' sm' h''
        | .cnt sm' => ∃ m', m' < m ∧ I m' sm' h''
        | .brk sm' => P (.nx sm') h''
        | .ret v => P (.ret v) h'') ∧ (k = false → P (.nx sm) h'))) (i : I m sm h) : (evS g (.while t body) sm h).ens P := by
  rw [w_while]
  refine whileGo_ens I (fun m sm h i => ?_) whileMost m sm h hm i
  rw [ens_bind]
  exact step m sm h i
def conR (o : Option MV) (h : Hm) : Res MV := match o with
  | some v => .ok v h
  | none => .bad
theorem w_con {x : Str} : (evE g (.con x) sm h).ens Q = (conR (g.cons x) h).ens Q := rfl
theorem w_conS {v : MV} : (conR (some v) h).ens Q = Q v h := rfl
theorem w_callO {F : List MV → Hm → Res MV} {ys : List MV} : (callO F (some ys) h).ens Q = (F ys h).ens Q := rfl
theorem w_gcd {i j : Int} : (bi .gcd [.int i, .int j] h).ens Q = Q (.int (Int.gcd i j : Int)) h := rfl
theorem w_maxI {i j : Int} : (bi .max [.int i, .int j] h).ens Q = Q (.int (if j > i then j else i)) h := rfl
theorem w_minI {i j : Int} : (bi .min [.int i, .int j] h).ens Q = Q (.int (if j < i then j else i)) h := rfl
/-- an answer that leaves the heap -/
theorem ens_eq {α : Type} {r : Res α} {a : α} {h : Hm} (q : r.ens fun v h' => v = a ∧ h' = h) (P : α → Hm → Prop) : r.ens P = P a h := by
  cases r with
  | ok v h' => obtain ⟨rfl, rfl⟩ := q; rfl
  | _ => exact q.elim
theorem w_eq2 {a b c d : Int} : (cmpR .eq (.tup [.int a, .int b]) (.tup [.int c, .int d]) h).ens Q = Q (.bl (decide (a = c) && decide (b = d))) h := by
  have e1 := denV_tints (h := h) (ns := [a, b])
  have e2 := denV_tints (h := h) (ns := [c, d])
  unfold cmpR cmp eqO
  simp only [List.map_cons, List.map_nil] at e1 e2
  simp only [e1, e2]
  show Q (.bl (PyData.eqvAll [.int a, .int b] [.int c, .int d])) h = _
  have := eqv_ints [a, b] [c, d]
  simp only [List.map_cons, List.map_nil] at this
  rw [this]
  congr 2
  by_cases h1 : a = c <;> by_cases h2 : b = d <;> simp [h1, h2]
theorem w_ne2 {a b c d : Int} : (cmpR .ne (.tup [.int a, .int b]) (.tup [.int c, .int d]) h).ens Q = Q (.bl (!(decide (a = c) && decide (b = d)))) h := by
  have e1 := denV_tints (h := h) (ns := [a, b])
  have e2 := denV_tints (h := h) (ns := [c, d])
  unfold cmpR cmp eqO
  simp only [List.map_cons, List.map_nil] at e1 e2
  simp only [e1, e2, Option.map_some]
  show Q (.bl (!(PyData.eqvAll [.int a, .int b] [.int c, .int d]))) h = _
  have := eqv_ints [a, b] [c, d]
  simp only [List.map_cons, List.map_nil] at this
  rw [this]
  congr 3
  by_cases h1 : a = c <;> by_cases h2 : b = d <;> simp [h1, h2]
end
/-! ### instances -/
section
variable {g : Genv} {sm : Sm} {h : Hm} {a e : ME} {f : Str} {j : Nat} {ci : CI} {fs : List (Str × MV)} {v : MV}
theorem w_fld {P : MV → Hm → Prop} : (evE g (.fld a f) sm h).ens P = (evE g a sm h).ens fun x h => (fldR x f h).ens P := by
  show ((evE g a sm h).bind fun x h => fldR x f h).ens P = _
  rw [ens_bind]
theorem w_fldI {P : MV → Hm → Prop} (q : h[j]? = some (.ins ci fs)) (hc : ci.flds.contains f = true) (hl : fs.lookup f = some v) : (fldR (.ref j) f h).ens P = P v h := by
  unfold fldR
  simp only [q]
  rw [if_pos hc, hl]
  rfl
theorem w_setF {P : Fl → Hm → Prop} : (evS g (.setF a f e) sm h).ens P = (evE g e sm h).ens fun v h => (evE g a sm h).ens fun x h => (setFR x f v sm h).ens P := by
  show ((evE g e sm h).on sm fun v h => (evE g a sm h).on sm fun x h => setFR x f v sm h).ens P = _
  simp only [sens_on]
theorem w_setFI {P : Fl → Hm → Prop} (q : h[j]? = some (.ins ci fs)) (hc : ci.flds.contains f = true) (hl : fs.length < 1000) : (setFR (.ref j) f v sm h).ens P = P (.nx sm) (h.set j (.ins ci (putFm f v fs))) := by
  unfold setFR
  simp only [q]
  rw [if_pos ⟨hc, hl⟩]
  rfl
theorem k_ins (q : h[j]? = some (.ins ci fs)) : kind h (.ref j) = some "object" := by unfold kind; simp only [q]
theorem make_ens {p : Prog} {n : Nat} {x : Str} {k : Ki} {xs : List MV} {P : MV → Hm → Prop} (hd : p.defs x = none) (hc : p.cls x = some k) (z : (callN p n k.init (.ref h.length :: xs) (h ++ [.ins k.ci []])).ens fun v h' => v = .non ∧ P (.ref h.length) h') : (callN p (n + 1) x xs h).ens P := by
  unfold callN
  rw [hd, hc]
  simp only [mkR, ens_bind]
  refine z.mono fun v h' q => ?_
  obtain ⟨rfl, q⟩ := q
  exact q
end
end R

namespace R.G
open PySem R
/-- is_name(value); 0:value 1:sign -/
def b_is_name : MSs :=
 (.cons (.ife (.or (.not (.bi .isinstance (.cons (.var 0) (.cons (.lit (.ty "str")) .nil)))) (.not (.chn .le .le (.lit (.int 1)) (.bi .len (.cons (.var 0) .nil)) (.con "MOST_LETTERS"))))
   (.cons (.ret (.lit (.bl false)))
   .nil)
   .nil)
 (.cons (.for (.nm 1) (.val (.var 0))
   (.cons (.ife (.cmp .notin (.var 1) (.con "LETTERS"))
     (.cons (.ret (.lit (.bl false)))
     .nil)
     .nil)
   .nil))
 (.cons (.ret (.lit (.bl true)))
 .nil)))
/-- is_number(value, least, most); 0:value 1:least 2:most -/
def b_is_number : MSs :=
 (.cons (.ife (.or (.bi .isinstance (.cons (.var 0) (.cons (.lit (.ty "bool")) .nil))) (.not (.bi .isinstance (.cons (.var 0) (.cons (.lit (.ty "int")) .nil)))))
   (.cons (.ret (.lit (.bl false)))
   .nil)
   .nil)
 (.cons (.ret (.chn .le .le (.var 1) (.var 0) (.var 2)))
 .nil))
/-- _law_bag(script); 0:script 1:mixed 2:piece -/
def b_law_bag : MSs :=
 (.cons (.set 1 (.lit (.int 13964)))
 (.cons (.for (.nm 2) (.val (.slc (.var 0) .nil (.cons (.lit (.int 63)) .nil)))
   (.cons (.set 1 (.bin .mod (.bi .int (.cons (.bin .add (.bin .add (.bin .mul (.var 1) (.lit (.int 48271))) (.bin .mod (.bi .int (.cons (.var 2) .nil)) (.lit (.int 2147483587)))) (.lit (.int 211))) .nil)) (.lit (.int 2147483629))))
   .nil))
 (.cons (.ret (.lst (.cons (.bi .list (.cons (.slc (.var 0) .nil (.cons (.lit (.int 63)) .nil)) .nil)) (.cons (.lit (.int 0)) (.cons (.lit (.int 0)) (.cons (.var 1) (.cons (.lit (.int 0)) .nil)))))))
 .nil)))
/-- _law_draw(bag, size); 0:bag 1:size 2:piece 3:digit -/
def b_law_draw : MSs :=
 (.cons (.setIx (.var 0) (.lit (.int 4)) (.bin .add (.ix (.var 0) (.lit (.int 4))) (.lit (.int 1))))
 (.cons (.ife (.and (.cmp .eq (.ix (.var 0) (.lit (.int 2))) (.lit (.int 0))) (.cmp .lt (.ix (.var 0) (.lit (.int 1))) (.bi .len (.cons (.ix (.var 0) (.lit (.int 0))) .nil))))
   (.cons (.set 2 (.bi .int (.cons (.ix (.ix (.var 0) (.lit (.int 0))) (.ix (.var 0) (.lit (.int 1)))) .nil)))
   (.cons (.setIx (.var 0) (.lit (.int 1)) (.bin .add (.ix (.var 0) (.lit (.int 1))) (.lit (.int 1))))
   (.cons (.ife (.cmp .ge (.var 2) (.bin .pow (.lit (.int 10)) (.lit (.int 18))))
     (.cons (.setIx (.var 0) (.lit (.int 2)) (.var 2))
     .nil)
     (.cons (.setIx (.var 0) (.lit (.int 3)) (.bin .mod (.bi .int (.cons (.bin .add (.bin .add (.bin .mul (.ix (.var 0) (.lit (.int 3))) (.lit (.int 69621))) (.bin .mul (.bin .mod (.bi .int (.cons (.var 2) .nil)) (.lit (.int 2147483549))) (.lit (.int 30103)))) (.lit (.int 97))) .nil)) (.lit (.int 2147483579))))
     .nil))
   .nil)))
   .nil)
 (.cons (.ife (.cmp .gt (.ix (.var 0) (.lit (.int 2))) (.lit (.int 0)))
   (.cons (.set 3 (.bin .mod (.bi .int (.cons (.ix (.var 0) (.lit (.int 2))) .nil)) (.var 1)))
   (.cons (.setIx (.var 0) (.lit (.int 2)) (.bin .fdiv (.ix (.var 0) (.lit (.int 2))) (.var 1)))
   (.cons (.ret (.var 3))
   .nil)))
   .nil)
 (.cons (.setIx (.var 0) (.lit (.int 3)) (.bin .mod (.bi .int (.cons (.bin .add (.bin .add (.bin .pow (.ix (.var 0) (.lit (.int 3))) (.lit (.int 3))) (.bin .mul (.ix (.var 0) (.lit (.int 4))) (.lit (.int 1299709)))) (.lit (.int 70001))) .nil)) (.lit (.int 2147483579))))
 (.cons (.ret (.bin .mod (.bi .int (.cons (.bin .add (.bin .fdiv (.ix (.var 0) (.lit (.int 3))) (.lit (.int 89))) (.bin .mul (.bin .mod (.bi .int (.cons (.ix (.var 0) (.lit (.int 3))) .nil)) (.lit (.int 7919))) (.lit (.int 61)))) .nil)) (.var 1)))
 .nil)))))
/-- _law_of(bag, things); 0:bag 1:things -/
def b_law_of : MSs :=
 (.cons (.ret (.ix (.var 1) (.call "_law_draw" (.cons (.var 0) (.cons (.bi .len (.cons (.var 1) .nil)) .nil)) [])))
 .nil)
/-- _law_like(told_v, due); 0:told_v 1:due 2:a 3:b -/
def b_law_like : MSs :=
 (.cons (.ife (.bi .isinstance (.cons (.var 1) (.cons (.tup (.cons (.lit (.ty "list")) (.cons (.lit (.ty "tuple")) .nil))) .nil)))
   (.cons (.ife (.or (.cmp .ne (.bi .isinstance (.cons (.var 0) (.cons (.lit (.ty "list")) .nil))) (.bi .isinstance (.cons (.var 1) (.cons (.lit (.ty "list")) .nil)))) (.cmp .ne (.bi .isinstance (.cons (.var 0) (.cons (.lit (.ty "tuple")) .nil))) (.bi .isinstance (.cons (.var 1) (.cons (.lit (.ty "tuple")) .nil)))))
     (.cons (.ret (.lit (.bl false)))
     .nil)
     .nil)
   (.cons (.ret (.and (.cmp .eq (.bi .len (.cons (.var 0) .nil)) (.bi .len (.cons (.var 1) .nil))) (.bi .all (.cons (.lc (.call "_law_like" (.cons (.var 2) (.cons (.var 3) .nil)) []) (.tp [2, 3]) (.zip (.var 0) (.var 1)) .nil [2, 3]) .nil))))
   .nil))
   .nil)
 (.cons (.ife (.or (.cmp .isnone (.var 1) (.lit .non)) (.cmp .isnone (.var 0) (.lit .non)))
   (.cons (.ret (.and (.cmp .isnone (.var 1) (.lit .non)) (.cmp .isnone (.var 0) (.lit .non))))
   .nil)
   .nil)
 (.cons (.ife (.or (.bi .isinstance (.cons (.var 0) (.cons (.tup (.cons (.lit (.ty "list")) (.cons (.lit (.ty "tuple")) .nil))) .nil))) (.cmp .ne (.bi .isinstance (.cons (.var 0) (.cons (.lit (.ty "bool")) .nil))) (.bi .isinstance (.cons (.var 1) (.cons (.lit (.ty "bool")) .nil)))))
   (.cons (.ret (.lit (.bl false)))
   .nil)
   .nil)
 (.cons (.ife (.or (.cmp .ne (.bi .isinstance (.cons (.var 0) (.cons (.lit (.ty "str")) .nil))) (.bi .isinstance (.cons (.var 1) (.cons (.lit (.ty "str")) .nil)))) (.cmp .ne (.bi .isinstance (.cons (.var 0) (.cons (.lit (.ty "int")) .nil))) (.bi .isinstance (.cons (.var 1) (.cons (.lit (.ty "int")) .nil)))))
   (.cons (.ret (.lit (.bl false)))
   .nil)
   .nil)
 (.cons (.ret (.cmp .eq (.var 0) (.var 1)))
 .nil)))))
/-- _law_listed(); 0:first 1:second -/
def b_law_listed : MSs :=
 (.cons (.set 0 (.tup (.cons (.lit (.str "rule")) (.cons (.lit (.str "form")) (.cons (.lit (.str "seats")) (.cons (.lit (.str "row")) (.cons (.lit (.str "num")) (.cons (.lit (.str "begin")) (.cons (.lit (.str "let")) (.cons (.lit (.str "be")) (.cons (.lit (.str "if")) (.cons (.lit (.str "else")) (.cons (.lit (.str "end")) (.cons (.lit (.str "each")) (.cons (.lit (.str "times")) .nil)))))))))))))))
 (.cons (.set 1 (.tup (.cons (.lit (.str "leave")) (.cons (.lit (.str "ask")) (.cons (.lit (.str "where")) (.cons (.lit (.str "tally")) (.cons (.lit (.str "sum")) (.cons (.lit (.str "weigh")) (.cons (.lit (.str "by")) (.cons (.lit (.str "seat")) (.cons (.lit (.str "tell")) (.cons (.lit (.str "lot")) (.cons (.lit (.str "votes")) (.cons (.lit (.str "names")) (.cons (.lit (.str "seated")) .nil)))))))))))))))
 (.cons (.ret (.bin .add (.bin .add (.var 0) (.var 1)) (.tup (.cons (.lit (.str "and")) (.cons (.lit (.str "or")) (.cons (.lit (.str "not")) (.cons (.lit (.str "floor")) (.cons (.lit (.str "min")) (.cons (.lit (.str "max")) (.cons (.lit (.str "top")) (.cons (.lit (.str "mark")) (.cons (.lit (.str "from")) (.cons (.lit (.str "over")) .nil)))))))))))))
 .nil)))
/-- _law_odd(bag); 0:bag 1:some -/
def b_law_odd : MSs :=
 (.cons (.set 1 (.lst (.cons (.lit .non) (.cons (.lit (.bl true)) (.cons (.lit (.bl false)) (.cons (.tup (.cons (.lit (.str "a")) .nil)) (.cons (.lst (.cons (.lit (.str "a")) .nil)) (.cons (.tup .nil) (.cons (.lst .nil) (.cons (.call "One" .nil []) (.cons (.tup (.cons (.lit (.str "ann")) (.cons (.lit (.int 1)) .nil))) (.cons (.lst (.cons (.lst (.cons (.lit (.int 1)) .nil)) .nil)) (.cons (.tup (.cons (.lit (.bl true)) (.cons (.lit .non) .nil))) .nil)))))))))))))
 (.cons (.ret (.ix (.var 1) (.call "_law_draw" (.cons (.var 0) (.cons (.bi .len (.cons (.var 1) .nil)) .nil)) [])))
 .nil))
/-- _law_string(bag); 0:bag 1:signs 2:pick 3:size 4:word 5:spot 6:k -/
def b_law_string : MSs :=
 (.cons (.set 1 (.bin .add (.bin .add (.lit (.str "abcdefghijklmnopqrstuvwxyz")) (.lit (.str "ABCDEFGHIJKLMNOPQRSTUVWXYZ0123456789 !#$&'()*+,-./:;<=>?\x40[]^_{|}~"))) (.lit (.str "\n"))))
 (.cons (.set 2 (.call "_law_draw" (.cons (.var 0) (.cons (.lit (.int 6)) .nil)) []))
 (.cons (.set 3 (.call "_law_of" (.cons (.var 0) (.cons (.lst (.cons (.lit (.int 1)) (.cons (.lit (.int 8)) (.cons (.lit (.int 9)) (.cons (.call "_law_draw" (.cons (.var 0) (.cons (.lit (.int 11)) .nil)) []) .nil))))) .nil)) []))
 (.cons (.ife (.cmp .eq (.var 2) (.lit (.int 0)))
   (.cons (.ret (.meth .join (.lit (.str "")) (.cons (.lc (.call "_law_of" (.cons (.var 0) (.cons (.var 1) .nil)) []) (.nm 6) (.rng1 (.var 3)) .nil [6]) .nil)))
   .nil)
   .nil)
 (.cons (.set 4 (.meth .join (.lit (.str "")) (.cons (.lc (.call "_law_of" (.cons (.var 0) (.cons (.slc (.var 1) .nil (.cons (.lit (.int 26)) .nil)) .nil)) []) (.nm 6) (.rng1 (.var 3)) .nil [6]) .nil)))
 (.cons (.ife (.cmp .lt (.var 2) (.lit (.int 4)))
   (.cons (.ret (.var 4))
   .nil)
   .nil)
 (.cons (.set 5 (.call "_law_draw" (.cons (.var 0) (.cons (.bin .add (.var 3) (.lit (.int 1))) .nil)) []))
 (.cons (.ret (.bin .add (.bin .add (.slc (.var 4) .nil (.cons (.var 5) .nil)) (.call "_law_of" (.cons (.var 0) (.cons (.bin .add (.slc (.var 1) (.cons (.lit (.int 26)) .nil) .nil) (.bin .mul (.lit (.str "\n")) (.lit (.int 12)))) .nil)) [])) (.slc (.var 4) (.cons (.bin .add (.var 5) (.call "_law_draw" (.cons (.var 0) (.cons (.lit (.int 2)) .nil)) [])) .nil) .nil)))
 .nil))))))))
/-- _law_named(thing); 0:thing -/
def b_law_named : MSs :=
 (.cons (.ife (.not (.bi .isinstance (.cons (.var 0) (.cons (.lit (.ty "str")) .nil))))
   (.cons (.ret (.lit (.bl false)))
   .nil)
   .nil)
 (.cons (.ret (.and (.cmp .ne (.var 0) (.lit (.str ""))) (.and (.cmp .le (.bi .len (.cons (.var 0) .nil)) (.lit (.int 8))) (.cmp .eq (.meth .strip (.var 0) (.cons (.lit (.str "abcdefghijklmnopqrstuvwxyz")) .nil)) (.lit (.str ""))))))
 .nil))
/-- _law_amount(bag); 0:bag 1:size 2:some -/
def b_law_amount : MSs :=
 (.cons (.set 1 (.call "_law_of" (.cons (.var 0) (.cons (.lst (.cons (.lit (.int 2)) (.cons (.lit (.int 5)) (.cons (.lit (.int 100)) (.cons (.bin .pow (.lit (.int 10)) (.lit (.int 9))) .nil))))) .nil)) []))
 (.cons (.set 2 (.bin .add (.bin .mul (.call "_law_draw" (.cons (.var 0) (.cons (.var 1) .nil)) []) (.call "_law_of" (.cons (.var 0) (.cons (.lst (.cons (.lit (.int 1)) (.cons (.lit (.int 1)) (.cons (.bin .add (.bin .pow (.lit (.int 10)) (.lit (.int 9))) (.lit (.int 7))) (.cons (.bin .add (.bin .pow (.lit (.int 10)) (.lit (.int 31))) (.lit (.int 3))) .nil))))) .nil)) [])) (.call "_law_draw" (.cons (.var 0) (.cons (.var 1) .nil)) [])))
 (.cons (.ret (.ife (.cmp .gt (.call "_law_draw" (.cons (.var 0) (.cons (.lit (.int 3)) .nil)) []) (.lit (.int 0))) (.var 2) (.bin .sub (.lit (.int 0)) (.var 2))))
 .nil)))
/-- law(script); 0:script 1:bag 2:lap 3:thing 4:due 5:near 6:answers 7:low 8:high 9:word -/
def b_law : MSs :=
 (.cons (.set 1 (.call "_law_bag" (.cons (.var 0) .nil) []))
 (.cons (.for (.nm 2) (.rng1 (.lit (.int 12)))
   (.cons (.set 3 (.ife (.cmp .gt (.call "_law_draw" (.cons (.var 1) (.cons (.lit (.int 5)) .nil)) []) (.lit (.int 0))) (.call "_law_string" (.cons (.var 1) .nil) []) (.call "_law_odd" (.cons (.var 1) .nil) [])))
   (.cons (.set 4 (.call "_law_named" (.cons (.var 3) .nil) []))
   (.cons (.ife (.not (.call "_law_like" (.cons (.lst (.cons (.call "is_name" (.cons (.var 3) .nil) []) (.cons (.callK "is_name" .nil (.cons (.var 3) .nil) 0 1 [.kw 0] []) .nil))) (.cons (.lst (.cons (.var 4) (.cons (.var 4) .nil))) .nil)) []))
     (.cons (.ret (.lit (.bl false)))
     .nil)
     .nil)
   .nil))))
 (.cons (.for (.nm 2) (.rng1 (.lit (.int 12)))
   (.cons (.par 7 8 (.cons (.call "_law_amount" (.cons (.var 1) .nil) []) (.cons (.call "_law_amount" (.cons (.var 1) .nil) []) .nil)))
   (.cons (.ife (.cmp .gt (.call "_law_draw" (.cons (.var 1) (.cons (.lit (.int 5)) .nil)) []) (.lit (.int 0)))
     (.cons (.par 7 8 (.cons (.bi .min (.cons (.var 7) (.cons (.var 8) .nil))) (.cons (.bi .max (.cons (.var 7) (.cons (.var 8) .nil))) .nil)))
     .nil)
     .nil)
   (.cons (.set 5 (.lst (.cons (.var 7) (.cons (.var 8) (.cons (.bin .sub (.var 7) (.lit (.int 1))) (.cons (.bin .add (.var 8) (.lit (.int 1))) (.cons (.bin .fdiv (.bin .add (.var 7) (.var 8)) (.lit (.int 2))) (.cons (.lit (.int 0)) (.cons (.lit (.int 1)) (.cons (.call "_law_amount" (.cons (.var 1) .nil) []) (.cons (.bi .str (.cons (.var 7) .nil)) (.cons (.tup (.cons (.var 7) .nil)) .nil))))))))))))
   (.cons (.expr (.meth .append (.var 5) (.cons (.call "_law_odd" (.cons (.var 1) .nil) []) .nil)))
   (.cons (.set 3 (.ix (.var 5) (.call "_law_draw" (.cons (.var 1) (.cons (.bi .len (.cons (.var 5) .nil)) .nil)) [])))
   (.cons (.set 4 (.and (.bi .isinstance (.cons (.var 3) (.cons (.lit (.ty "int")) .nil))) (.and (.not (.bi .isinstance (.cons (.var 3) (.cons (.lit (.ty "bool")) .nil)))) (.and (.cmp .le (.var 7) (.var 3)) (.cmp .le (.var 3) (.var 8))))))
   (.cons (.set 6 (.lst (.cons (.call "is_number" (.cons (.var 3) (.cons (.var 7) (.cons (.var 8) .nil))) []) (.cons (.callK "is_number" .nil (.cons (.var 3) (.cons (.var 8) (.cons (.var 7) .nil))) 0 3 [.kw 0, .kw 2, .kw 1] []) .nil))))
   (.cons (.ife (.not (.call "_law_like" (.cons (.var 6) (.cons (.lst (.cons (.var 4) (.cons (.var 4) .nil))) .nil)) []))
     (.cons (.ret (.lit (.bl false)))
     .nil)
     .nil)
   .nil)))))))))
 (.cons (.ife (.not (.call "_law_like" (.cons (.lst (.cons (.call "is_number" (.cons (.lit (.bl true)) (.cons (.lit (.int 0)) (.cons (.lit (.int 1)) .nil))) []) (.cons (.call "is_number" (.cons (.lit (.int 1)) (.cons (.lit (.int 1)) (.cons (.lit (.int 1)) .nil))) []) (.cons (.call "is_number" (.cons (.lit (.bl false)) (.cons (.lit (.int 0)) (.cons (.lit (.int 0)) .nil))) []) .nil)))) (.cons (.lst (.cons (.lit (.bl false)) (.cons (.lit (.bl true)) (.cons (.lit (.bl false)) .nil)))) .nil)) []))
   (.cons (.ret (.lit (.bl false)))
   .nil)
   .nil)
 (.cons (.ife (.not (.call "_law_like" (.cons (.con "OWN") (.cons (.call "_law_listed" .nil []) .nil)) []))
   (.cons (.ret (.lit (.bl false)))
   .nil)
   .nil)
 (.cons (.ret (.call "_law_like" (.cons (.lc (.call "is_name" (.cons (.var 9) .nil) []) (.nm 9) (.val (.con "OWN")) .nil [9]) (.cons (.bin .mul (.lst (.cons (.lit (.bl true)) .nil)) (.lit (.int 36))) .nil)) []))
 .nil))))))
/-- One.__init__(self); 0:self -/
def b_One___init__ : MSs :=
 (.cons (.setF (.var 0) "word" (.lit (.str "one")))
 (.cons (.setF (.var 0) "number" (.lit (.int 0)))
 .nil))
def defs (f : Str) : Option Def :=
  if f = "is_name" then some ⟨1, 2, b_is_name⟩ else
  if f = "is_number" then some ⟨3, 3, b_is_number⟩ else
  if f = "_law_bag" then some ⟨1, 3, b_law_bag⟩ else
  if f = "_law_draw" then some ⟨2, 4, b_law_draw⟩ else
  if f = "_law_of" then some ⟨2, 2, b_law_of⟩ else
  if f = "_law_like" then some ⟨2, 4, b_law_like⟩ else
  if f = "_law_listed" then some ⟨0, 2, b_law_listed⟩ else
  if f = "_law_odd" then some ⟨1, 2, b_law_odd⟩ else
  if f = "_law_string" then some ⟨1, 7, b_law_string⟩ else
  if f = "_law_named" then some ⟨1, 1, b_law_named⟩ else
  if f = "_law_amount" then some ⟨1, 3, b_law_amount⟩ else
  if f = "law" then some ⟨1, 10, b_law⟩ else
  if f = "One.__init__" then some ⟨1, 1, b_One___init__⟩ else
  none
def consL : List (Str × MV) := [("LETTERS", (.str "abcdefghijklmnopqrstuvwxyz")), ("MOST_LETTERS", (.int 8)), ("OWN", (.tup [(.str "rule"), (.str "form"), (.str "seats"), (.str "row"), (.str "num"), (.str "begin"), (.str "let"), (.str "be"), (.str "if"), (.str "else"), (.str "end"), (.str "each"), (.str "times"), (.str "leave"), (.str "ask"), (.str "where"), (.str "tally"), (.str "sum"), (.str "weigh"), (.str "by"), (.str "seat"), (.str "tell"), (.str "lot"), (.str "votes"), (.str "names"), (.str "seated"), (.str "and"), (.str "or"), (.str "not"), (.str "floor"), (.str "min"), (.str "max"), (.str "top"), (.str "mark"), (.str "from"), (.str "over")]))]
def cons (x : Str) : Option MV := lkS consL x
def clsL : List (Str × KI) := [("One", ⟨⟨{ name := "One", flds := ["word", "number"] }, "One.__init__"⟩, ⟨["self"], [], []⟩⟩)]
def cls (x : Str) : Option Ki := (lkS clsL x).map (·.ki)
def prog : Prog := { defs := defs, cons := cons, cls := cls }
def pg : Pg := { defs := [("is_name", ⟨["value"], [], [⟨0, ["value"], [.kw 0]⟩]⟩), ("is_number", ⟨["value", "least", "most"], [], [⟨0, ["value", "most", "least"], [.kw 0, .kw 2, .kw 1]⟩]⟩), ("_law_bag", ⟨["script"], [], []⟩), ("_law_draw", ⟨["bag", "size"], [], []⟩), ("_law_of", ⟨["bag", "things"], [], []⟩), ("_law_like", ⟨["told_v", "due"], [], []⟩), ("_law_listed", ⟨[], [], []⟩), ("_law_odd", ⟨["bag"], [], []⟩), ("_law_string", ⟨["bag"], [], []⟩), ("_law_named", ⟨["thing"], [], []⟩), ("_law_amount", ⟨["bag"], [], []⟩), ("law", ⟨["script"], [], []⟩)], cons := ["LETTERS", "MOST_LETTERS", "OWN"], exts := [], clss := clsL }
end R.G

/-! R: texts by their signs. -/
namespace R
open PySem
/-- the text of these signs -/
abbrev T (l : List Nat) : Str := SX.S l
theorem T_len (l : List Nat) : (T l).length = l.length := SX.S_len l
theorem T_inj {a b : List Nat} (h : T a = T b) : a = b := SX.S_inj h
theorem T_eq {a b : List Nat} : decide (T a = T b) = decide (a = b) := decide_eq_decide.mpr ⟨T_inj, fun h => by rw [h]⟩
theorem T_cat (a b : List Nat) : T a ++ T b = T (a ++ b) := SX.S_cat a b
theorem T_of (s : Str) : T s.cps.toList = s := SX.S_tl s
/-- strip(signs): nothing stays exactly if all are signs -/
theorem tw_all {p : Nat → Bool} : ∀ {l : List Nat}, (∀ c ∈ l, p c = true) → l.takeWhile p = l
  | [], _ => rfl
  | a :: l, h => by rw [List.takeWhile_cons, if_pos (h a (.head _)), tw_all fun c m => h c (.tail _ m)]
theorem tw_lt {p : Nat → Bool} : ∀ {l : List Nat} {c : Nat}, c ∈ l → p c = false → (l.takeWhile p).length < l.length
  | a :: l, c, m, h => by
    rw [List.takeWhile_cons]
    by_cases e : p a = true
    · rw [if_pos e]
      rcases List.mem_cons.mp m with rfl | m
      · rw [h] at e; cases e
      · exact Nat.succ_lt_succ (tw_lt m h)
    · rw [if_neg e]; exact Nat.zero_lt_succ _
theorem tw_drop {p : Nat → Bool} : ∀ (l : List Nat), (∀ a r, l.drop (l.takeWhile p).length = a :: r → p a = false)
  | [], a, r, h => by cases h
  | b :: l, a, r, h => by
    rw [List.takeWhile_cons] at h
    by_cases e : p b = true
    · rw [if_pos e] at h
      exact tw_drop l a r h
    · rw [if_neg e] at h
      cases h
      simpa using e
theorem strip_T (a b : List Nat) : Txt.stripChars (T a) (T b) = T [] ↔ ∀ c ∈ a, c ∈ b := by
  have pc : ∀ c : Nat, (T b).cps.contains c = decide (c ∈ b) := fun c => by
    show (b.toArray).contains c = _
    rw [List.contains_toArray]
    by_cases h : c ∈ b <;> simp [h]
  have et : (T a).cps.toList = a := rfl
  have len : (T a).length = a.length := T_len a
  unfold Txt.stripChars Txt.stripBy stripSame
  have lo : stripLo (T b).cps.contains true (T a) = (a.takeWhile fun c => decide (c ∈ b)).length := by
    unfold stripLo
    rw [if_pos rfl, et]
    congr 2
    funext c
    exact pc c
  rw [lo]
  have hi : ∀ k : Nat, stripHi (T b).cps.contains true (T a) k = a.length - ((a.drop k).reverse.takeWhile fun c => decide (c ∈ b)).length := fun k => by
    unfold stripHi
    rw [if_pos rfl, et, len]
    congr 3
    funext c
    exact pc c
  rw [hi, len]
  have str : ∀ i j : Nat, Txt.stripChars (T a) (T b) = Txt.stripChars (T a) (T b) → True := fun _ _ _ => trivial
  constructor
  · intro h
    by_cases all : ∀ c ∈ a, c ∈ b
    · exact all
    · exfalso
      have : ∃ c ∈ a, ¬ c ∈ b := by
        refine Classical.byContradiction fun z => all fun c m => Classical.byContradiction fun y => z ⟨c, m, y⟩
      obtain ⟨c, m, nb⟩ := this
      have l1 := tw_lt (p := fun c => decide (c ∈ b)) m (decide_eq_false nb)
      split at h
      · have : a = [] := T_inj h
        rw [this] at m; cases m
      · have e := congrArg TL.tl h
        unfold stripped at e
        rw [TL.tl_strSub, lo, hi] at e
        have e : (a.drop (a.takeWhile fun c => decide (c ∈ b)).length).take _ = [] := e
        have dn : ∃ x r, a.drop (a.takeWhile fun c => decide (c ∈ b)).length = x :: r := by
          cases d : a.drop (a.takeWhile fun c => decide (c ∈ b)).length with
          | nil => have := List.drop_eq_nil_iff.mp d; omega
          | cons x r => exact ⟨x, r, rfl⟩
        obtain ⟨x, r, d⟩ := dn
        have px := tw_drop a x r d
        have dl : (a.drop (a.takeWhile fun c => decide (c ∈ b)).length).length = a.length - (a.takeWhile fun c => decide (c ∈ b)).length := List.length_drop
        have l2 := tw_lt (p := fun c => decide (c ∈ b)) (l := (a.drop (a.takeWhile fun c => decide (c ∈ b)).length).reverse) (c := x) (by rw [d]; simp) px
        rw [List.length_reverse] at l2
        rw [List.take_eq_nil_iff] at e
        rcases e with e | e
        · omega
        · rw [d] at e; cases e
  · intro all
    have t1 : (a.takeWhile fun c => decide (c ∈ b)) = a := tw_all fun c m => decide_eq_true (all c m)
    split
    · rename_i h
      rw [t1] at h
      cases a with
      | nil => rfl
      | cons x a => simp at h
    · refine TL.ext_tl ?_
      unfold stripped
      rw [TL.tl_strSub, lo, t1]
      have : TL.tl (T a) = a := rfl
      rw [this]
      simp
theorem in_T (a : List Nat) (c : Nat) : (!(Builtin.Str.occurrences (T a) (T [c]) 0 (T a).length 1).isEmpty) = decide (c ∈ a) := SX.in_one a c
theorem num_T (n : Nat) : Str.ofString (toString ((n : Nat) : Int)) = T (TL.numL n) := SX.num_S n
theorem int_T (p : Int) : Str.ofString (toString p) = T (if p < 0 then 45 :: TL.numL p.natAbs else TL.numL p.natAbs) := by
  by_cases h : p < 0
  · rw [if_pos h]
    obtain ⟨n, rfl⟩ : ∃ n : Nat, p = Int.negSucc n := by
      cases p with
      | ofNat n => exact absurd h (by simp)
      | negSucc n => exact ⟨n, rfl⟩
    have e : toString (Int.negSucc n) = "-" ++ toString ((n + 1 : Nat) : Int) := rfl
    rw [e]
    refine TL.ext_tl ?_
    rw [TL.tl_ofString, String.toList_append, List.map_append, ← TL.tl_ofString, ← TL.tl_ofString, TL.tl_num]
    rfl
  · rw [if_neg h]
    have : p = ((p.natAbs : Nat) : Int) := by omega
    conv => lhs; rw [this]
    exact num_T _
/-! ### equations of the run -/
section
variable {h : Hm} {P : MV → Hm → Prop} {a b : List Nat} {c : Nat}
theorem w_lenT (hl : a.length ≤ 10000) : (bi .len [.str (T a)] h).ens P = P (.int a.length) h := by
  show (if (T a).length ≤ sizeLine then (Res.ok (.int ((T a).length : Int)) h : Res MV) else .bad).ens P = _
  rw [T_len, if_pos (by rw [sizeLine_eq]; omega)]
  rfl
theorem w_eqT : (cmpR .eq (.str (T a)) (.str (T b)) h).ens P = P (.bl (decide (a = b))) h := by rw [w_eqS, T_eq]
theorem w_neT : (cmpR .ne (.str (T a)) (.str (T b)) h).ens P = P (.bl (!decide (a = b))) h := by rw [w_neS, T_eq]
theorem w_inC : (cmpR .isin (.str (T [c])) (.str (T a)) h).ens P = P (.bl (decide (c ∈ a))) h := by
  show P (.bl (!(Builtin.Str.occurrences (T a) (T [c]) 0 (T a).length 1).isEmpty)) h = _
  rw [in_T]
theorem w_notinC : (cmpR .notin (.str (T [c])) (.str (T a)) h).ens P = P (.bl (!decide (c ∈ a))) h := by
  show P (.bl (!(!(Builtin.Str.occurrences (T a) (T [c]) 0 (T a).length 1).isEmpty))) h = _
  rw [in_T]
theorem w_addT (hl : a.length + b.length ≤ 10000) : (binop .add (.str (T a)) (.str (T b)) h).ens P = P (.str (T (a ++ b))) h := by
  show (if BK.add = .add ∧ (T a).length + (T b).length ≤ sizeLine then (Res.ok (.str (T a ++ T b)) h : Res MV) else .bad).ens P = _
  rw [T_len, T_len, if_pos ⟨rfl, by rw [sizeLine_eq]; omega⟩, T_cat]
  rfl
theorem w_ixT (hl : a.length ≤ 10000) {i : Int} (e : L2.atI a i = some c) : (ixAt (.str (T a)) (.int i) h).ens P = P (.str (T [c])) h := by
  show (if (T a).length ≤ sizeLine then match L2.atI a i with
        | some c => (.ok (.str ⟨#[c]⟩) h : Res MV)
        | none => .bad
      else .bad).ens P = _
  rw [T_len, if_pos (by rw [sizeLine_eq]; omega), e]
  rfl
theorem w_cutToT (hl : a.length ≤ 10000) {i : Int} (h0 : 0 ≤ i) : (cutAt (.str (T a)) none (some i) h).ens P = P (.str (T (a.take i.toNat))) h := by
  show (if (T a).length ≤ sizeLine then (.ok (.str (L2.cutS (T a) none (some i))) h : Res MV) else .bad).ens P = _
  rw [T_len, if_pos (by rw [sizeLine_eq]; omega), C8.cutS_slice, SX.slice_to h0]
  rfl
theorem w_cutFromT (hl : a.length ≤ 10000) {i : Int} (h0 : 0 ≤ i) : (cutAt (.str (T a)) (some i) none h).ens P = P (.str (T (a.drop i.toNat))) h := by
  show (if (T a).length ≤ sizeLine then (.ok (.str (L2.cutS (T a) (some i) none)) h : Res MV) else .bad).ens P = _
  rw [T_len, if_pos (by rw [sizeLine_eq]; omega), C8.cutS_slice, SX.slice_from h0]
  rfl
theorem w_stripT (hl : a.length ≤ 10000) : (meth .strip (.str (T a)) [.str (T b)] h).ens P = P (.str (Txt.stripChars (T a) (T b))) h := by
  show (if (T a).length ≤ sizeLine then (.ok (.str (Txt.stripChars (T a) (T b))) h : Res MV) else .bad).ens P = _
  rw [T_len, if_pos (by rw [sizeLine_eq]; omega)]
  rfl
theorem w_neStrip : (cmpR .ne (.str (Txt.stripChars (T a) (T b))) (.str (T [])) h).ens P = P (.bl (!(a.all fun c => decide (c ∈ b)))) h := by
  rw [w_neS]
  congr 3
  have := strip_T a b
  by_cases z : ∀ c ∈ a, c ∈ b
  · rw [decide_eq_true (this.mpr z)]
    exact (List.all_eq_true.mpr fun c m => decide_eq_true (z c m)).symm
  · rw [decide_eq_false (fun y => z (this.mp y))]
    refine (Bool.eq_false_iff.mpr fun y => z fun c m => ?_).symm
    exact of_decide_eq_true (List.all_eq_true.mp y c m)
theorem w_eqStrip : (cmpR .eq (.str (Txt.stripChars (T a) (T b))) (.str (T [])) h).ens P = P (.bl (a.all fun c => decide (c ∈ b))) h := by
  rw [w_eqS]
  congr 2
  have := strip_T a b
  by_cases z : ∀ c ∈ a, c ∈ b
  · rw [decide_eq_true (this.mpr z)]
    exact (List.all_eq_true.mpr fun c m => decide_eq_true (z c m)).symm
  · rw [decide_eq_false (fun y => z (this.mp y))]
    refine (Bool.eq_false_iff.mpr fun y => z fun c m => ?_).symm
    exact of_decide_eq_true (List.all_eq_true.mp y c m)
theorem w_strI {i : Int} (hl : i.natAbs.log2 < 1920) : (bi .str [.int i] h).ens P = P (.str (T (if i < 0 then 45 :: TL.numL i.natAbs else TL.numL i.natAbs))) h := by
  show (if i.natAbs.log2 < 1920 then (.ok (.str (Str.ofString (toString i))) h : Res MV) else .bad).ens P = _
  rw [if_pos hl, int_T]
  rfl
theorem w_intT (h1 : (a.all fun c => decide (48 ≤ c) && decide (c ≤ 57)) = true) (h2 : a ≠ []) (hl : a.length ≤ 640) : (bi .int [.str (T a)] h).ens P = P (.int (NumText.digitsVal a : Nat)) h := by
  show (if (T a).length ≤ 640 then match intText? (T a) with
        | some n => (.ok (.int n) h : Res MV)
        | none => .bad
      else .bad).ens P = _
  rw [T_len, if_pos hl, SX.int_S h1 h2 (by omega)]
  rfl
theorem w_fmtI {i : Int} (hl : i.natAbs.log2 < 1920) : (fmtR (.int i) h).ens P = P (.str (T (if i < 0 then 45 :: TL.numL i.natAbs else TL.numL i.natAbs))) h := by
  show (if i.natAbs.log2 < 1920 then (.ok (.str (Str.ofString (toString i))) h : Res MV) else .bad).ens P = _
  rw [if_pos hl, int_T]
  rfl
theorem w_catT {Q : Str → Hm → Prop} (hl : a.length + b.length ≤ 10000) : (catR (T a) (.str (T b)) h).ens Q = Q (T (a ++ b)) h := by
  show (if (T a ++ T b).length ≤ sizeLine then (.ok (T a ++ T b) h : Res Str) else .bad).ens Q = _
  rw [T_cat, T_len, if_pos (by rw [sizeLine_eq, List.length_append]; omega)]
  rfl
theorem w_partT (hl : a.length ≤ 10000) : (meth .partition (.str (T a)) [.str (T [c])] h).ens P = P (match TL.par [c] [] a with
    | some (p, q) => .tup [.str (T p), .str (T [c]), .str (T q)]
    | none => .tup [.str (T a), .str (T []), .str (T [])]) h := by
  show (if ((T [c]).length == 0) = false ∧ (T a).length ≤ sizeLine then (.ok (.tup [.str (Txt.partition (T a) (T [c])).1, .str (Txt.partition (T a) (T [c])).2.1, .str (Txt.partition (T a) (T [c])).2.2]) h : Res MV) else .bad).ens P = _
  rw [T_len, T_len, if_pos ⟨rfl, by rw [sizeLine_eq]; omega⟩]
  cases e : TL.par [c] [] a with
  | some pq =>
    obtain ⟨p, q⟩ := pq
    rw [SX.partition_some (by simp) e]
    rfl
  | none =>
    rw [SX.partition_none (by simp) e]
    rfl
theorem w_splitT (hl : a.length ≤ 10000) (hc : c < 256) : (meth .split (.str (T a)) [.str (T [c])] h).ens P = newE (.list ((TL.spl [c] 0 [] a).map fun l => .str (T l))) P h := by
  show (if ((T [c]).length == 0) = false ∧ (T a).length + 2 ≤ sizeLine then (new (.list ((Txt.split (T a) (T [c])).map .str)) h : Res MV) else .bad).ens P = _
  rw [T_len, T_len, if_pos ⟨rfl, by rw [sizeLine_eq]; omega⟩, SX.split_S (by simp) (by simp [hc]), List.map_map]
  rfl
theorem w_startT : (meth .startswith (.str (T a)) [.str (T [c])] h).ens P = P (.bl (decide (a.head? = some c))) h := by
  show P (.bl (Txt.startswith (T a) (T [c]))) h = _
  congr 2
  unfold Txt.startswith Builtin.Str.subAt
  cases a with
  | nil => rfl
  | cons x a =>
    have e : (T (x :: a)).cps.extract 0 (0 + (T [c]).length) = #[x] := by
      rw [T_len]
      refine Array.ext' ?_
      show ((x :: a).toArray.extract 0 1).toList = [x]
      simp
    have l : decide (0 + (T [c]).length ≤ (T (x :: a)).length) = true := by rw [T_len, T_len]; simp
    rw [e, l, Bool.true_and]
    show (#[x] == #[c]) = _
    by_cases z : x = c
    · subst z; simp
    · simp [z]
theorem itVal_T : (itVal (.str (T a)) h) = .ok (.src (.str a)) h := rfl
theorem itI_T : itI h (.src (.str a)) = some (a.map fun c => .str (T [c])) := rfl
theorem k_T : kind h (.str (T a)) = some "str" := rfl
theorem truth_T (hl : a.length ≤ 10000) : truth h (.str (T a)) = some (!decide (a = [])) := by
  show (if (T a).length ≤ sizeLine then some (((T a).length : Int) != 0) else none) = _
  rw [T_len, if_pos (by rw [sizeLine_eq]; omega)]
  congr 1
  cases a with
  | nil => rfl
  | cons x a => simp; omega
end
end R

namespace R
open PySem
local macro_rules | `(tactic| walk_at "run") => `(tactic| try simp -implicitDefEqProofs only [w_scons, w_snil, w_set, w_ret, w_retN, w_if, w_expr, w_setIx, w_pass, w_unp, w_unp2, w_par, w_par2, w_aug, sens_fl, sens_bad, seqP_nx, seqP_ret, retP_ret, retP_nx, ens_ok, ens_bad, ens_bind, w_lit, w_var, w_varS, w_bin, w_neg, negR_int, w_and, w_or, w_not, w_cmp, w_chn, w_ix, w_bi, w_nil, w_cons, w_ife, w_tup, w_lst, w_truB, w_meth, w_call, w_dnew, w_lc, w_ival, w_izip, w_ienum, w_irev, w_irng1, w_irng2, w_slcU, w_slcL, w_slcB, w_cutU, w_cutL, w_cutB, w_for, w_tnil, w_tone, rng1_ens, rng2_ens, forB_nm, forB_two,
  w_at, w_ixr, w_ixl, w_ixf, w_ixt, w_ixd, at_0, at_1, at_2, at_3, at_4, w_setr, set_0, set_1, set_2, set_3, set_4, w_eqI, w_neI, w_ltI, w_leI, w_gtI, w_geI, w_isN, w_noN, w_add, w_sub, w_mul, w_fdiv, w_mod, w_pow, w_lenr, w_lenl, w_lenf, w_lent, w_intI, w_absI, t_bl, t_int, ens_byT, sens_byS, w_neB, w_eqB, w_eqS, w_neS, w_isi, w_isiT, isi_list, isi_tuple, isi_str, isi_int, isi_bool, isi_lt, k_non, k_bl, k_int, k_str, k_tup, isNon, isSub, String.reduceBEq, Bool.or_false, Bool.false_or, Bool.true_or, Bool.or_true, Bool.and_false, Bool.false_and, Bool.true_and, Bool.and_true, Bool.not_true, Bool.not_false, decide_true, decide_false, Bool.true_eq_false, Bool.false_eq_true, forall_const, false_implies, true_implies, and_true, true_and, 
  List.map_cons, List.map_nil, List.length_cons, List.length_nil, List.replicate, List.cons_append, List.nil_append, List.getElem?_cons_zero, List.getElem?_cons_succ, List.set_cons_zero, List.set_cons_succ, Nat.reduceAdd, Nat.reduceSub, Nat.zero_add, List.getElem?_set_self, List.getElem?_set_ne, List.set_set, List.length_set, *])
namespace G
def dropS : Nat → MSs → MSs
  | 0, s => s
  | n + 1, .cons _ t => dropS n t
  | _ + 1, .nil => .nil
theorem draw_tail {p : Prog} {n b c Z : Nat} {h : Hm} {size i x y z : Int} {cells : List Int} {o : Option MV} (B : BagS b c cells i x y z Z h) (hZ : Z < 10 ^ 30) (hm : 0 < size) (hm2 : size < 2 ^ 1000) :
    (evSs ⟨p.cons, callN p n⟩ (dropS 2 b_law_draw) [some (.ref b), some (.int size), o, none] h).ens (retP fun v h' => ∃ r : Int, v = .int r ∧ 0 ≤ r ∧ r < size ∧ Bag b Z h' ∧ Fr [b] h h') := by
  have hb := B.hb
  have hc := B.hc
  have y0 := B.y0
  have y1 := B.y1
  have hbl : b < h.length := (List.getElem?_eq_some_iff.mp hb).1
  have hbc : b ≠ c := Nat.ne_of_gt B.ne
  show (evSs _ (.cons _ (.cons _ (.cons _ .nil))) _ _).ens _
  walk_at "run"
  refine ⟨fun hx => ⟨by omega, fun r hr => ⟨⟨by omega, log_small hm hm2⟩, fun q hq => ⟨r, rfl, ?_, ?_, ?_, .set (by simp)⟩⟩⟩, fun _ => ⟨⟨by decide, by decide, by omega⟩, fun r hr => ⟨mulOk (by have := B.z0; have := B.z1; omega) (by decide), fun r1 h1 => ⟨by decide, fun r2 h2 => ⟨⟨by decide, by decide⟩, fun r3 h3 => ⟨by decide, fun r4 h4 => ?_⟩⟩⟩⟩⟩⟩
  · rw [hr, fmod_pos hm]; exact Int.emod_nonneg _ (by omega)
  · rw [hr, fmod_pos hm]; exact Int.emod_lt_of_pos _ hm
  · refine (B.put B.i0 ?_ B.y0 B.y1 B.z0 B.z1).bag
    rw [hq, fdiv_pos hm]
    exact Int.ediv_nonneg B.x0 (by omega)
  · rw [fmod_pos (by decide)] at h2 h4
    refine ⟨mulOk (by omega) (by decide), fun r5 h5 => ⟨by omega, fun r6 h6 => ⟨r6, rfl, ?_, ?_, ?_, .set (by simp)⟩⟩⟩
    · rw [h6, fmod_pos hm]; exact Int.emod_nonneg _ (by omega)
    · rw [h6, fmod_pos hm]; exact Int.emod_lt_of_pos _ hm
    · exact (B.put B.i0 B.x0 (by omega) (by omega) B.z0 B.z1).bag
theorem draw_ok {p : Prog} {n b Z : Nat} {h : Hm} {size : Int} (hd : p.defs "_law_draw" = some ⟨2, 4, b_law_draw⟩) (B : Bag b Z h) (hZ : Z < 10 ^ 29) (hm : 0 < size) (hm2 : size < 2 ^ 1000) :
    (callN p (n + 1) "_law_draw" [.ref b, .int size] h).ens fun v h' => ∃ r : Int, v = .int r ∧ 0 ≤ r ∧ r < size ∧ Bag b (Z + 1) h' ∧ Fr [b] h h' := by
  obtain ⟨c, cells, i, x, y, z, hb, hcb, hc, i0, x0, y0, y1, z0, z1⟩ := B
  have B : BagS b c cells i x y z Z h := ⟨hb, hcb, hc, i0, x0, y0, y1, z0, z1⟩
  have hbl : b < h.length := (List.getElem?_eq_some_iff.mp hb).1
  have hbc : b ≠ c := Nat.ne_of_gt hcb
  refine callN_ens hd rfl ?_
  show (evSs _ (.cons _ (.cons (.ife _ _ .nil) (dropS 2 b_law_draw))) [some (.ref b), some (.int size), none, none] h).ens _
  have tail : ∀ (o : Option MV) (i x y z : Int) (h1 : Hm), BagS b c cells i x y z (Z + 1) h1 → Fr [b] h h1 → (evSs ⟨p.cons, callN p n⟩ (dropS 2 b_law_draw) [some (.ref b), some (.int size), o, none] h1).ens (retP fun v h' => ∃ r : Int, v = .int r ∧ 0 ≤ r ∧ r < size ∧ Bag b (Z + 1) h' ∧ Fr [b] h h') := fun o i x y z h1 B f =>
    (draw_tail B (by omega) hm hm2).mono fun fl h' q => by
      cases fl with
      | ret v => obtain ⟨r, e, r0, r1, B', f'⟩ := q; exact ⟨r, e, r0, r1, B', f.trans f'⟩
      | nx _ => obtain ⟨r, e, r0, r1, B', f'⟩ := q; exact ⟨r, e, r0, r1, B', f.trans f'⟩
      | _ => exact q
  generalize dropS 2 b_law_draw = T at *
  have B1 : BagS b c cells i x y (z + 1) (Z + 1) (h.set b (.list [.ref c, .int i, .int x, .int y, .int (z + 1)])) := B.put i0 x0 y0 y1 (by omega) (by omega)
  have f1 : Fr [b] h (h.set b (.list [.ref c, .int i, .int x, .int y, .int (z + 1)])) := .set (by simp)
  have hb1 := B1.hb
  have hc1 := B1.hc
  rw [w_scons]
  walk_at "run"
  refine ⟨fun hx => ⟨fun hi => ?_, fun _ => tail _ _ _ _ _ _ B1 f1⟩, fun hx => ⟨fun t => absurd (hx.symm.trans t) (by decide), fun _ => tail _ _ _ _ _ _ B1 f1⟩⟩
  have hi := of_decide_eq_true hi
  rw [w_atE]
  have hi2 : i.toNat < (cells.map MV.int).length := by omega
  refine ⟨.int (cells[i.toNat]'(by simpa using hi2)), ?_, ?_⟩
  · rw [atI_ok i0, List.getElem?_eq_getElem hi2, List.getElem_map]
  generalize cells[i.toNat]'(by simpa using hi2) = cell
  walk_at "run"
  refine ⟨⟨by decide, by decide, by decide⟩, fun r hr => ⟨fun hc => ?_, fun _ => ⟨mulOk (by omega) (by decide), fun r1 h1 => ⟨by decide, fun r2 h2 => ⟨mulOk ?_ (by decide), fun r3 h3 => ⟨by decide, fun r4 h4 => ?_⟩⟩⟩⟩⟩⟩
  · have hc := of_decide_eq_true hc
    have e : (10 : Int) ^ Int.toNat 18 = 1000000000000000000 := by decide
    exact tail _ _ _ _ _ _ (B.put (by omega) (by omega) y0 y1 (by omega) (by omega)) (.set (by simp))
  · rw [fmod_pos (by decide)] at h2
    omega
  · rw [fmod_pos (by decide)] at h4
    exact tail _ _ _ _ _ _ (B.put (by omega) x0 (by omega) (by omega) (by omega) (by omega)) (.set (by simp))
theorem of_ok {p : Prog} {n b Z : Nat} {h : Hm} {v : MV} {xs : List MV} (hd : p.defs "_law_draw" = some ⟨2, 4, b_law_draw⟩) (hd2 : p.defs "_law_of" = some ⟨2, 2, b_law_of⟩) (B : Bag b Z h) (hZ : Z < 10 ^ 29) (hv : items h v = some xs) (hne : v ≠ .ref b) (h0 : xs ≠ []) (hl : xs.length < 10 ^ 30) :
    (callN p (n + 2) "_law_of" [.ref b, v] h).ens fun y h' => ∃ j : Nat, xs[j]? = some y ∧ Bag b (Z + 1) h' ∧ Fr [b] h h' := by
  have hpos : 0 < xs.length := List.length_pos_iff.mpr h0
  have len : ∀ P : MV → Hm → Prop, (bi .len [v] h).ens P = P (.int xs.length) h := fun P => w_len hv
  have keep : ∀ h', Fr [b] h h' → items h' v = some xs := fun h' f => f.items hv fun k e => ne_sing fun z => hne (by rw [e, z])
  refine callN_ens hd2 rfl ?_
  unfold b_law_of
  walk_at "run"
  refine (draw_ok (p := p) (n := n) hd B hZ (size := xs.length) (by omega) (by omega)).mono fun y h' q => ?_
  obtain ⟨r, rfl, r0, r1, B', f⟩ := q
  have hr : r.toNat < xs.length := by omega
  have at' : ∀ P : MV → Hm → Prop, P xs[r.toNat] h' → (ixAt v (.int r) h').ens P := fun P z => by
    have hv' := keep h' f
    have ea : L2.atI xs r = some xs[r.toNat] := by rw [atI_ok r0, List.getElem?_eq_getElem hr]
    cases v with
    | tup ys => cases hv'; rw [w_ixt, ea]; exact z
    | ref j =>
      rw [w_ixr]
      unfold items at hv'
      simp only at hv'
      cases e : h'[j]? with
      | none => rw [e] at hv'; cases hv'
      | some o =>
        rw [e] at hv'
        cases o <;> first | (cases hv'; unfold ixO; simp only [ea]; exact z) | cases hv'
    | _ => cases hv'
  exact at' _ ⟨r.toNat, List.getElem?_eq_getElem hr, B', f⟩
/-- the law's bag -/
theorem bag_ok {p : Prog} {n : Nat} {h : Hm} {ns : List Int} (hd : p.defs "_law_bag" = some ⟨1, 3, b_law_bag⟩) (h0 : h[0]? = some (.frz (ns.map .int))) (hl : ns.length ≤ 63) :
    (callN p (n + 1) "_law_bag" [.ref 0] h).ens fun v h' => ∃ b, v = .ref b ∧ h.length ≤ b ∧ Bag b 0 h' ∧ Ex h h' := by
  refine callN_ens hd rfl ?_
  unfold b_law_bag
  have i0 := items_frz h0
  have cut : cutL (ns.map MV.int) none (some 63) = ns.map MV.int := by
    rw [show (63 : Int) = ((63 : Nat) : Int) from rfl, cutL_upto, List.take_of_length_le (by rw [List.length_map]; exact hl)]
  walk_at "run"
  rw [w_cut i0, cut]
  refine newL_of fun j1 h1 x1 i1 l1 => ?_
  rw [w_val i1]
  walk_at "run"
  refine for_inv (ns.map .int) (fun k sm h' => h' = h1 ∧ ∃ (m : Int) (o : Option MV), sm = [some (.ref 0), some (.int m), o] ∧ 0 ≤ m ∧ m < 2 ^ 40) (itI_src i1) (fun k sm h' i => by rw [i.1]; exact itI_src i1) (fun k x sm h' hx i => ?_) (fun sm h' i => ?_) ⟨rfl, 13964, none, rfl, by decide, by decide⟩
  · obtain ⟨rfl, m, o, rfl, m0, m1⟩ := i
    obtain ⟨cell, _, rfl⟩ := map_get hx
    walk_at "run"
    refine ⟨mulOk (by omega) (by decide), fun r1 e1 => ⟨by decide, fun r2 e2 => ⟨by decide, fun r3 e3 => ⟨_, _, rfl, ?_⟩⟩⟩⟩
    rw [fmod_pos (by decide)] at e2 e3
    omega
  · obtain ⟨rfl, m, o, rfl, m0, m1⟩ := i
    have i0' := x1.items i0
    walk_at "run"
    rw [w_cut i0', cut]
    refine newL_of fun j2 h2 x2 i2 l2 => ?_
    rw [w_list i2]
    refine newE_of fun j5 h5 x5 i5 l5 => ?_
    refine ⟨by rw [sizeLine_eq]; omega, newE_of fun j6 h6 x6 i6 l6 => ?_⟩
    have xx := x1.trans (x2.trans (x5.trans x6))
    have lt5 := (List.getElem?_eq_some_iff.mp i5).1
    have e1 := (x1.trans (x2.trans x5)).len
    exact ⟨j6, rfl, by omega, ⟨j5, ns, 0, 0, _, 0, i6, by omega, x6.at i5, by omega, by omega, m0, m1, by omega, by omega⟩, xx⟩
end G
end R

/-! the plain law of k02: fractions in lowest terms -/
namespace R.K2
def wr (a b : Int) : Int × Int := if b = 0 then (0, 1) else (a.fdiv (if b < 0 then -(Int.gcd a b : Int) else (Int.gcd a b : Int)), b.fdiv (if b < 0 then -(Int.gcd a b : Int) else (Int.gcd a b : Int)))
def Low (x : Int × Int) : Prop := 1 ≤ x.2 ∧ Int.gcd x.1 x.2 = 1
theorem dvd_cop {a b d : Int} (h : b ∣ a * d) (g : Int.gcd a b = 1) : b ∣ d := by
  have : b.natAbs ∣ a.natAbs * d.natAbs := by rw [← Int.natAbs_mul]; exact Int.natAbs_dvd_natAbs.mpr h
  exact Int.natAbs_dvd_natAbs.mp (Nat.Coprime.dvd_of_dvd_mul_left (show Nat.gcd b.natAbs a.natAbs = 1 by rw [Nat.gcd_comm]; exact g) this)
theorem low_unique {x y : Int × Int} (hx : Low x) (hy : Low y) (e : x.1 * y.2 = y.1 * x.2) : x = y := by
  obtain ⟨a, b⟩ := x
  obtain ⟨c, d⟩ := y
  obtain ⟨hb, hg⟩ := hx
  obtain ⟨hd, hg'⟩ := hy
  simp only at *
  have h1 : b ∣ d := by
    have : b ∣ a * d := ⟨c, by rw [e, Int.mul_comm]⟩
    exact dvd_cop this hg
  have h2 : d ∣ b := by
    have : d ∣ c * b := ⟨a, by rw [← e, Int.mul_comm]⟩
    exact dvd_cop this hg'
  have hbd : b = d := Int.le_antisymm (Int.le_of_dvd (by omega) h1) (Int.le_of_dvd (by omega) h2)
  subst hbd
  have := Int.eq_of_mul_eq_mul_right (by omega) e
  rw [this]
/-- the parts of a fraction by its sign -/
theorem wr_parts {a b : Int} (hb : b ≠ 0) : ∃ s : Int, s ≠ 0 ∧ a = s * (wr a b).1 ∧ b = s * (wr a b).2 ∧ s.natAbs = Int.gcd a b ∧ 1 ≤ (wr a b).2 := by
  have g0 : 0 < Int.gcd a b := Int.gcd_pos_of_ne_zero_right a hb
  have hs : ∃ s : Int, s = (if b < 0 then -(Int.gcd a b : Int) else (Int.gcd a b : Int)) := ⟨_, rfl⟩
  obtain ⟨s, hs⟩ := hs
  have e : wr a b = (a.fdiv s, b.fdiv s) := by unfold wr; rw [if_neg hb, ← hs]
  have s0 : s ≠ 0 := by rw [hs]; split <;> omega
  have sa : s.natAbs = Int.gcd a b := by rw [hs]; split <;> simp
  have d1 : s ∣ a := by rw [← Int.natAbs_dvd, sa]; exact Int.gcd_dvd_left ..
  have d2 : s ∣ b := by rw [← Int.natAbs_dvd, sa]; exact Int.gcd_dvd_right ..
  refine ⟨s, s0, ?_, ?_, sa, ?_⟩
  · rw [e]; exact (Int.mul_fdiv_cancel' d1).symm
  · rw [e]; exact (Int.mul_fdiv_cancel' d2).symm
  · rw [e]
    have eb : b = s * b.fdiv s := (Int.mul_fdiv_cancel' d2).symm
    show 1 ≤ b.fdiv s
    generalize b.fdiv s = q at *
    by_cases h : b < 0
    · rw [if_pos h] at hs
      have s1 : s < 0 := by omega
      have : ¬ q ≤ 0 := fun hq => by
        have := Int.mul_nonneg_of_nonpos_of_nonpos (Int.le_of_lt s1) hq
        omega
      omega
    · rw [if_neg h] at hs
      have s1 : 0 < s := by omega
      have : ¬ q ≤ 0 := fun hq => by
        have := Int.mul_nonpos_of_nonneg_of_nonpos (Int.le_of_lt s1) hq
        omega
      omega
theorem wr_low (a b : Int) : Low (wr a b) := by
  by_cases hb : b = 0
  · subst hb; exact ⟨by show (1 : Int) ≤ 1; decide, by show Int.gcd 0 1 = 1; decide⟩
  · obtain ⟨s, s0, ea, eb, sa, h1⟩ := wr_parts (a := a) hb
    refine ⟨h1, ?_⟩
    generalize hw : wr a b = w at *
    have : Int.gcd a b = s.natAbs * Int.gcd w.1 w.2 := by
      conv => lhs; rw [ea, eb]
      exact Int.gcd_mul_left ..
    rw [← sa] at this
    have p : 0 < s.natAbs := by omega
    have : s.natAbs * 1 = s.natAbs * Int.gcd w.1 w.2 := by omega
    exact (Nat.eq_of_mul_eq_mul_left p this).symm
theorem wr_eq {a b : Int} (hb : b ≠ 0) : (wr a b).1 * b = a * (wr a b).2 := by
  obtain ⟨s, s0, ea, eb, sa, h1⟩ := wr_parts (a := a) hb
  generalize wr a b = w at *
  subst ea; subst eb
  grind
theorem wr_of {a b : Int} {x : Int × Int} (hb : b ≠ 0) (hx : Low x) (e : x.1 * b = a * x.2) : wr a b = x := by
  refine low_unique (wr_low a b) hx ?_
  have := wr_eq (a := a) hb
  generalize wr a b = w at *
  have : (w.1 * x.2) * b = (x.1 * w.2) * b := by grind
  exact Int.eq_of_mul_eq_mul_right hb this
theorem wr_one (a : Int) : wr a 1 = (a, 1) := wr_of (by decide) ⟨by show (1 : Int) ≤ 1; decide, by simp⟩ (by simp)
theorem wr_zero (a : Int) : wr a 0 = (0, 1) := rfl
theorem wr_nought (b : Int) : wr 0 b = (0, 1) := by
  by_cases hb : b = 0
  · subst hb; rfl
  · exact wr_of hb ⟨by decide, by decide⟩ (by simp)
theorem wr_times {a b t : Int} (hb : b ≠ 0) (ht : t ≠ 0) : wr (a * t) (b * t) = wr a b := by
  refine wr_of (Int.mul_ne_zero hb ht) (wr_low a b) ?_
  have := wr_eq (a := a) hb
  generalize wr a b = w at *
  grind
def plus (x y : Int × Int) : Int × Int := wr (x.1 * y.2 + y.1 * x.2) (x.2 * y.2)
def minus (x y : Int × Int) : Int × Int := wr (x.1 * y.2 - y.1 * x.2) (x.2 * y.2)
def prod (x y : Int × Int) : Int × Int := wr (x.1 * y.1) (x.2 * y.2)
def quot (x y : Int × Int) : Int × Int := wr (x.1 * y.2) (x.2 * y.1)
theorem pos2 {x y : Int × Int} (hx : Low x) (hy : Low y) : x.2 * y.2 ≠ 0 := Int.mul_ne_zero (by have := hx.1; omega) (by have := hy.1; omega)
theorem minus_plus {x y : Int × Int} (hx : Low x) (hy : Low y) : minus (plus x y) y = x := by
  have h1 := wr_eq (a := x.1 * y.2 + y.1 * x.2) (pos2 hx hy)
  have l1 : Low (plus x y) := wr_low ..
  have e1 : (plus x y).1 * (x.2 * y.2) = (x.1 * y.2 + y.1 * x.2) * (plus x y).2 := h1
  generalize plus x y = s at *
  refine wr_of (pos2 l1 hy) hx ?_
  have : (x.1 * (s.2 * y.2)) * 1 = ((s.1 * y.2 - y.1 * s.2) * x.2) * 1 := by grind
  omega
theorem plus_minus {x y : Int × Int} (hx : Low x) (hy : Low y) : plus (minus x y) y = x := by
  have h1 := wr_eq (a := x.1 * y.2 - y.1 * x.2) (pos2 hx hy)
  have l1 : Low (minus x y) := wr_low ..
  have e1 : (minus x y).1 * (x.2 * y.2) = (x.1 * y.2 - y.1 * x.2) * (minus x y).2 := h1
  generalize minus x y = s at *
  refine wr_of (pos2 l1 hy) hx ?_
  have : (x.1 * (s.2 * y.2)) * 1 = ((s.1 * y.2 + y.1 * s.2) * x.2) * 1 := by grind
  omega
theorem quot_prod {x y : Int × Int} (hx : Low x) (hy : Low y) (h0 : y.1 ≠ 0) : quot (prod x y) y = x := by
  have e1 : (prod x y).1 * (x.2 * y.2) = (x.1 * y.1) * (prod x y).2 := wr_eq (a := x.1 * y.1) (pos2 hx hy)
  have l1 : Low (prod x y) := wr_low ..
  generalize prod x y = s at *
  refine wr_of (Int.mul_ne_zero (by have := l1.1; omega) h0) hx ?_
  grind
theorem prod_quot {x y : Int × Int} (hx : Low x) (hy : Low y) (h0 : y.1 ≠ 0) : prod (quot x y) y = x := by
  have e1 : (quot x y).1 * (x.2 * y.1) = (x.1 * y.2) * (quot x y).2 := wr_eq (a := x.1 * y.2) (Int.mul_ne_zero (by have := hx.1; omega) h0)
  have l1 : Low (quot x y) := wr_low ..
  generalize quot x y = s at *
  refine wr_of (pos2 l1 hy) hx ?_
  grind
/-- the law's own look -/
def so (x : Int × Int) (a b : Int) : Bool := if x.2 < 1 then false else if b = 0 then decide (x.1 = 0) && decide (x.2 = 1) else decide ((Int.gcd x.1 x.2 : Int) = 1) && decide (x.1 * b = a * x.2)
theorem so_wr (a b : Int) : so (wr a b) a b = true := by
  have l := wr_low a b
  unfold so
  rw [if_neg (by have := l.1; omega)]
  by_cases hb : b = 0
  · subst hb; rfl
  · rw [if_neg hb, l.2, wr_eq hb]
    simp
theorem low_by {a b : Int} (hb : 0 < b) : Low (a.fdiv (Int.gcd a b), b.fdiv (Int.gcd a b)) := by
  have := wr_low a b
  unfold wr at this
  rw [if_neg (by omega), if_neg (by omega)] at this
  exact this
theorem low_one (a : Int) : Low (a, 1) := ⟨by show (1 : Int) ≤ 1; decide, by simp⟩
theorem low_up {a : Int} (h : a ≠ 0) (s : Int) (hs : s = 1 ∨ s = -1) : Low (s, (a.natAbs : Int)) := ⟨by show (1 : Int) ≤ _; omega, by rcases hs with rfl | rfl <;> simp⟩
theorem floor_lo {a b : Int} (hb : 1 ≤ b) : a.fdiv b * b ≤ a := by
  rw [Int.fdiv_eq_ediv_of_nonneg a (by omega)]
  exact Int.ediv_mul_le a (by omega)
theorem floor_hi {a b : Int} (hb : 1 ≤ b) : a < (a.fdiv b + 1) * b := by
  rw [Int.fdiv_eq_ediv_of_nonneg a (by omega)]
  exact Int.lt_ediv_add_one_mul_self a (by omega)
/-! sizes -/
def Sz (k : Nat) (i : Int) : Prop := i.natAbs < 2 ^ k
theorem Sz.mono {k l : Nat} {i : Int} (h : Sz k i) (e : k ≤ l) : Sz l i := Nat.lt_of_lt_of_le h (Nat.pow_le_pow_right (by decide) e)
theorem Sz.mul {k l : Nat} {i j : Int} (h1 : Sz k i) (h2 : Sz l j) : Sz (k + l) (i * j) := by
  unfold Sz at *
  rw [Int.natAbs_mul, Nat.pow_add]
  exact Nat.mul_lt_mul'' h1 h2
theorem Sz.add {k : Nat} {i j : Int} (h1 : Sz k i) (h2 : Sz k j) : Sz (k + 1) (i + j) := by
  unfold Sz at *
  rw [Nat.pow_succ]
  omega
theorem Sz.sub {k : Nat} {i j : Int} (h1 : Sz k i) (h2 : Sz k j) : Sz (k + 1) (i - j) := by
  unfold Sz at *
  rw [Nat.pow_succ]
  omega
theorem Sz.log {k : Nat} {i : Int} (h : Sz k i) (hk : 0 < k) : i.natAbs.log2 < k := by
  by_cases e : i.natAbs = 0
  · rw [e]; simpa using hk
  · exact (Nat.log2_lt e).mpr h
theorem Sz.of_le {k : Nat} {i j : Int} (h : Sz k j) (e : i.natAbs ≤ j.natAbs) : Sz k i := Nat.lt_of_le_of_lt e h
theorem wr_sz {k : Nat} {a b : Int} (hk : 1 ≤ k) (ha : Sz k a) (hb : Sz k b) : Sz k (wr a b).1 ∧ Sz k (wr a b).2 := by
  by_cases h : b = 0
  · subst h
    exact ⟨Nat.lt_of_lt_of_le (show (0 : Int).natAbs < 2 ^ 1 by decide) (Nat.pow_le_pow_right (by decide) hk), Nat.lt_of_lt_of_le (show (1 : Int).natAbs < 2 ^ 1 by decide) (Nat.pow_le_pow_right (by decide) hk)⟩
  · obtain ⟨s, s0, ea, eb, sa, h1⟩ := wr_parts (a := a) h
    generalize wr a b = w at *
    have p : 1 ≤ s.natAbs := by omega
    refine ⟨ha.of_le ?_, hb.of_le ?_⟩
    · rw [ea, Int.natAbs_mul]; exact Nat.le_mul_of_pos_left _ p
    · rw [eb, Int.natAbs_mul]; exact Nat.le_mul_of_pos_left _ p
theorem gcd_sz {k : Nat} {a b : Int} (h : b ≠ 0) (hb : Sz k b) : Sz k (Int.gcd a b : Int) := by
  unfold Sz
  have : Int.gcd a b ≤ b.natAbs := Nat.le_of_dvd (by omega) (Int.gcd_dvd_natAbs_right a b)
  have := (show b.natAbs < 2 ^ k from hb)
  simp only [Int.natAbs_natCast]
  omega
end R.K2

namespace R
open PySem
local macro_rules | `(tactic| walk_at "run") => `(tactic| try simp -implicitDefEqProofs only [w_scons, w_snil, w_set, w_ret, w_retN, w_if, w_expr, w_setIx, w_pass, w_unp, w_unp2, w_par, w_par2, w_aug, sens_fl, sens_bad, seqP_nx, seqP_ret, retP_ret, retP_nx, ens_ok, ens_bad, ens_bind, w_lit, w_var, w_varS, w_bin, w_neg, negR_int, w_and, w_or, w_not, w_cmp, w_chn, w_ix, w_bi, w_nil, w_cons, w_ife, w_tup, w_lst, w_truB, w_meth, w_call, w_dnew, w_lc, w_ival, w_izip, w_ienum, w_irev, w_irng1, w_irng2, w_slcU, w_slcL, w_slcB, w_cutU, w_cutL, w_cutB, w_for, w_tnil, w_tone, rng1_ens, rng2_ens, forB_nm, forB_two,
  w_at, w_ixr, w_ixl, w_ixf, w_ixt, w_ixd, at_0, at_1, at_2, at_3, at_4, w_setr, set_0, set_1, set_2, set_3, set_4, w_eqI, w_neI, w_ltI, w_leI, w_gtI, w_geI, w_isN, w_noN, w_add, w_sub, w_mul, w_fdiv, w_mod, w_pow, w_lenr, w_lenl, w_lenf, w_lent, w_intI, w_absI, t_bl, t_int, ens_byT, sens_byS, w_neB, w_eqB, w_eqS, w_neS, w_isi, w_isiT, isi_list, isi_tuple, isi_str, isi_int, isi_bool, isi_lt, k_non, k_bl, k_int, k_str, k_tup, isNon, isSub, String.reduceBEq, Bool.or_false, Bool.false_or, Bool.true_or, Bool.or_true, Bool.and_false, Bool.false_and, Bool.true_and, Bool.and_true, Bool.not_true, Bool.not_false, decide_true, decide_false, Bool.true_eq_false, Bool.false_eq_true, forall_const, false_implies, true_implies, and_true, true_and, 
  List.map_cons, List.map_nil, List.length_cons, List.length_nil, List.replicate, List.cons_append, List.nil_append, List.getElem?_cons_zero, List.getElem?_cons_succ, List.set_cons_zero, List.set_cons_succ, Nat.reduceAdd, Nat.reduceSub, Nat.zero_add, List.getElem?_set_self, List.getElem?_set_ne, List.set_set, List.length_set, *])
namespace G
theorem all_true (k : Nat) : (List.replicate k true).all id = true := by
  rw [List.all_eq_true]
  intro x hx
  exact (List.mem_replicate.mp hx).2
theorem like_all {p : Prog} {S : List Nat} {n : Nat} {h : Hm} {a b : MV} {ds : List Dt} {vs us : List MV}
    (ih : ∀ (d : Dt) (h : Hm) (a b : MV), d ∈ ds → Rep S h d a → Rep S h d b → (callN p n "_law_like" [a, b] h).ens fun v h' => v = .bl true ∧ Ex h h')
    (qa : items h a = some vs) (qb : items h b = some us) (ra : Reps S h ds vs) (rb : Reps S h ds us) (hz : ds.length < sizeLine) :
    (lcGo (.zip (srO a) (srO b)) (lcStep ⟨p.cons, callN p n⟩ (.call "_law_like" (.cons (.var 2) (.cons (.var 3) .nil)) []) (.tp [2, 3]) .nil [2, 3] [some a, some b, none, none]) h.length (turns h (.zip (srO a) (srO b)) + 1) 0 (h ++ [.list []])).ens
      fun x h2 => (bi .all [x] h2).ens fun v h' => v = .bl true ∧ Ex h h' := by
  have na : ∀ k, a = .ref k → k ∉ [h.length] := fun k e => ne_sing (by rw [e] at qa; have := lt_items qa; omega)
  have nb : ∀ k, b = .ref k → k ∉ [h.length] := fun k e => ne_sing (by rw [e] at qb; have := lt_items qb; omega)
  have f0 : ∀ {h'}, Fr [h.length] (h ++ [.list []]) h' → Fr [h.length] h h' := fun f => (Fr.app).trans f
  have lz : (zl vs us).length = ds.length := by rw [zl_length, ← ra.length, ← rb.length]; omega
  refine lc_inv (zl vs us) (fun k acc h' => acc = List.replicate k (.bl true) ∧ k ≤ ds.length ∧ Fr [h.length] (h ++ [.list []]) h') (itI_zip qa qb) (fun k acc h' i => ?_) (fun k acc h' i => ?_) (fun k x acc h' hx i hd => ?_) ⟨rfl, Nat.zero_le _, .refl⟩ (fun acc h' i hd => ?_)
  · exact itI_zip ((f0 i.2.2).items qa na) ((f0 i.2.2).items qb nb)
  · rw [i.1, List.length_replicate]
    omega
  · obtain ⟨i1, i2, i3⟩ := i
    rw [zl_get] at hx
    cases e1 : vs[k]? with
    | none => rw [e1] at hx; cases hx
    | some v =>
      cases e2 : us[k]? with
      | none => rw [e1, e2] at hx; cases hx
      | some u =>
        rw [e1, e2] at hx
        cases hx
        obtain ⟨d, hd1, rv⟩ := ra.get e1
        obtain ⟨d', hd2, ru⟩ := rb.get e2
        rw [hd1] at hd2
        cases hd2
        have fr : Fr [h.length] h h' := f0 i3
        have ex : Ex h h' := fr.drop (T := []) (fun i hi => .inr (by cases List.mem_singleton.mp hi; omega))
        refine lcStep_ens (sm' := [some a, some b, some v, some u]) rfl ?_
        walk_at "run"
        refine (ih d h' v u (List.mem_of_getElem? hd1) (rv.ex ex) (ru.ex ex)).mono fun w h2 q => ?_
        obtain ⟨rfl, x2⟩ := q
        rw [i1] at hd
        have hk : k < ds.length := (List.getElem?_eq_some_iff.mp hd1).1
        refine ⟨x2.at hd, by rw [← List.replicate_succ', ← List.replicate_succ], hk, (i3.trans x2.ex).trans (.set (by simp))⟩
  · obtain ⟨i1, i2, i3⟩ := i
    rw [lz] at i1
    subst i1
    have it : items h' (.ref h.length) = some ((List.replicate ds.length true).map .bl) := by
      rw [List.map_replicate]; exact items_lst hd
    rw [w_all it, all_true]
    exact ⟨rfl, (f0 i3).drop (fun i hi => .inr (by cases List.mem_singleton.mp hi; omega))⟩
theorem like_ok {p : Prog} {S : List Nat} (hd : p.defs "_law_like" = some ⟨2, 4, b_law_like⟩) : ∀ (n : Nat) (d : Dt) (h : Hm) (a b : MV), d.deep ≤ n → d.wide < sizeLine → Rep S h d a → Rep S h d b → (callN p n "_law_like" [a, b] h).ens fun v h' => v = .bl true ∧ Ex h h' := by
  intro n
  induction n with
  | zero => intro d h a b hn; cases d <;> simp [Dt.deep] at hn
  | succ n ih =>
    intro d h a b hn hw ra rb
    refine callN_ens hd rfl ?_
    have two : 2 ≤ sizeLine := by rw [sizeLine_eq]; omega
    unfold b_law_like
    cases ra with
    | non => cases rb; walk_at "run"; exact .refl
    | bl x => cases rb; walk_at "run"; exact .refl
    | int i => cases rb; walk_at "run"; exact .refl
    | str s => cases rb; walk_at "run"; exact .refl
    | @tup ds vs r =>
      cases rb with
      | @tup _ us r' =>
        have e : vs.length = us.length := by rw [← r.length, ← r'.length]
        simp only [Dt.wide, Dt.deep] at hw hn
        have go := like_all (p := p) (n := n) (h := h) (a := .tup vs) (b := .tup us) (fun d h a b hm => ih d h a b (by have := deeps_mem hm; omega) (by have := wides_mem hm; omega)) rfl rfl r r' (by omega)
        walk_at "run"
        rw [w_zip (items_tup (h := h) (xs := vs)) (items_tup (h := h) (xs := us))]
        exact go
    | @lst ds vs j nj q r =>
      cases rb with
      | @lst _ us j' nj' q' r' =>
        have e : vs.length = us.length := by rw [← r.length, ← r'.length]
        simp only [Dt.wide, Dt.deep] at hw hn
        have go := like_all (p := p) (n := n) (h := h) (a := .ref j) (b := .ref j') (fun d h a b hm => ih d h a b (by have := deeps_mem hm; omega) (by have := wides_mem hm; omega)) q q' r r' (by omega)
        have k1 := k_items q
        have k2 := k_items q'
        have l1 : ∀ P, (lenO h[j]? h).ens P = P (.int vs.length) h := fun P => by rw [← w_lenr, w_len q]
        have l2 : ∀ P, (lenO h[j']? h).ens P = P (.int us.length) h := fun P => by rw [← w_lenr, w_len q']
        have z1 := fun P => w_zip (P := P) q q'
        walk_at "run"
end G
end R

namespace R
open PySem
theorem w_unp3 {i j k : Nat} {sm : Sm} {h : Hm} {P : Fl → Hm → Prop} {x y z : MV} : (unpR [i, j, k] sm (.tup [x, y, z]) h).ens P = P (.nx (((sm.set i (some x)).set j (some y)).set k (some z))) h := rfl
theorem cmp_le {i j : Int} {h : Hm} : cmp .le (.int i) (.int j) h = some (decide (i ≤ j)) := rfl
theorem cmp_lt {i j : Int} {h : Hm} : cmp .lt (.int i) (.int j) h = some (decide (i < j)) := rfl
theorem mk_start : mkind .startswith = "str" := rfl
theorem mk_part : mkind .partition = "str" := rfl
theorem mk_strip : mkind .strip = "str" := rfl
theorem mk_split : mkind .split = "str" := rfl
theorem mk_extend : mkind .extend = "list" := rfl
theorem mk_append : mkind .append = "list" := rfl
theorem w_ivT {a : List Nat} {h : Hm} {P : IT → Hm → Prop} : (itVal (.str (T a)) h).ens P = P (.src (.str a)) h := rfl
theorem mk_join : mkind .join = "str" := rfl
theorem s00 : Str.ofString "" = T [] := TL.ext_tl (by rw [TL.tl_ofString]; rfl)
abbrev letL : List Nat := [97, 98, 99, 100, 101, 102, 103, 104, 105, 106, 107, 108, 109, 110, 111, 112, 113, 114, 115, 116, 117, 118, 119, 120, 121, 122]
theorem sLet : Str.ofString "abcdefghijklmnopqrstuvwxyz" = T letL := TL.ext_tl (by rw [TL.tl_ofString]; rfl)
theorem w_addTup {xs ys : List MV} {h : Hm} {P : MV → Hm → Prop} : (binop .add (.tup xs) (.tup ys) h).ens P = (xs.length + ys.length ≤ sizeLine ∧ P (.tup (xs ++ ys)) h) := by
  show (if BK.add = .add ∧ xs.length + ys.length ≤ sizeLine then (.ok (.tup (xs ++ ys)) h : Res MV) else .bad).ens P = _
  rw [ens_ite]
  simp only [true_and]
  rfl
theorem w_mulL {xs : List MV} {h : Hm} {j : Nat} {k : Int} {P : MV → Hm → Prop} (q : h[j]? = some (.list xs)) (hk : 0 ≤ k ∧ k ≤ 1000 ∧ xs.length ≤ 10) : (binop .mul (.ref j) (.int k) h).ens P = newE (.list (List.replicate k.toNat xs).flatten) P h := by
  have e : mList h j = some xs := by unfold mList; simp only [q]
  show (match mList h j with
    | some xs => if BK.mul = BK.mul ∧ -(2 ^ 63) ≤ k ∧ k < 2 ^ 63 ∧ xs.length * k.toNat ≤ sizeLine then (new (.list (List.replicate k.toNat xs).flatten) h : Res MV) else .bad
    | _ => .bad).ens P = _
  simp only [e]
  have : xs.length * k.toNat ≤ 10 * 1000 := Nat.mul_le_mul hk.2.2 (by omega)
  rw [if_pos ⟨trivial, by omega, by omega, by rw [sizeLine_eq]; omega⟩]
  rfl
theorem w_mulS {a : List Nat} {k : Int} {h : Hm} {P : MV → Hm → Prop} (hk : 0 ≤ k ∧ k ≤ 100000 ∧ a.length ≤ 100) : (binop .mul (.str (T a)) (.int k) h).ens P = P (.str (Txt.mul (T a) k)) h := by
  show (if BK.mul = BK.mul ∧ 0 ≤ k ∧ k ≤ 100000 ∧ (T a).length ≤ 100 then (.ok (.str (Txt.mul (T a) k)) h : Res MV) else .bad).ens P = _
  rw [T_len, if_pos ⟨rfl, hk⟩]
  rfl
/-- "".join(..) of single signs -/
theorem w_join0 {h : Hm} {j : Nat} {ls : List (List Nat)} {P : MV → Hm → Prop} (q : items h (.ref j) = some (ls.map fun l => .str (T l))) (hz : ls.length ≤ 1000) (hs : ∀ l ∈ ls, l.length ≤ 10) : (meth .join (.str (T [])) [.ref j] h).ens P = P (.str (T ls.flatten)) h := by
  have a1 : allS asStr (ls.map fun l => MV.str (T l)) = some (ls.map T) := by
    clear q hz hs
    induction ls with
    | nil => rfl
    | cons l ls ih => exact allS_c rfl ih
  have fl : ∀ ls : List (List Nat), TL.joinL [] ls = ls.flatten := by
    intro ls
    induction ls with
    | nil => rfl
    | cons a r ih =>
      cases r with
      | nil => simp [TL.joinL]
      | cons b r =>
        show a ++ ([] ++ TL.joinL [] (b :: r)) = _
        rw [ih]
        simp
  have sm : (List.map (fun (s : Str) => s.length) (ls.map T)).sum ≤ 10 * ls.length := by
    clear q hz a1
    induction ls with
    | nil => simp
    | cons l ls ih =>
      have := ih fun l m => hs l (.tail _ m)
      have := hs l (.head _)
      simp only [List.map_cons, List.sum_cons, List.length_cons]
      have e : (T l).length = l.length := T_len l
      omega
  show (match items h (.ref j) with
    | some ys => match allS asStr ys with
      | some ts => if (List.map (fun (s : Str) => s.length) ts).sum + ts.length * (T []).length ≤ 16777216 then (.ok (.str (Txt.join (T []) ts)) h : Res MV) else .bad
      | none => .bad
    | none => .bad).ens P = _
  rw [q]
  simp only [a1]
  rw [if_pos (by rw [T_len, List.length_map]; simp only [List.length_nil, Nat.mul_zero]; omega)]
  show P (.str (Txt.join (SX.S []) (ls.map SX.S))) h = _
  rw [SX.join_S, fl]
local macro_rules | `(tactic| walk_at "run") => `(tactic| try simp -implicitDefEqProofs only [w_fld, w_setF, w_addTup, w_join0, k_ins, mk_join, mk_start, mk_part, mk_strip, mk_split, mk_extend, mk_append, cmp_le, cmp_lt, w_ivT, w_lenT, w_ixT, w_unp3, s00, sLet, w_eqT, w_neT, w_inC, w_notinC, w_neStrip, w_eqStrip, w_startT, k_T, w_fmt, w_fs, w_fcons, w_fnil, w_con, w_conS, w_callK, w_callO, pickL, pick, w_gcd, w_maxI, w_minI, w_eq2, w_ne2, and_self, if_true, w_scons, w_snil, w_set, w_ret, w_retN, w_if, w_expr, w_setIx, w_pass, w_unp, w_unp2, w_par, w_par2, w_aug, sens_fl, sens_bad, seqP_nx, seqP_ret, retP_ret, retP_nx, ens_ok, ens_bad, ens_bind, w_lit, w_var, w_varS, w_bin, w_neg, negR_int, w_and, w_or, w_not, w_cmp, w_chn, w_ix, w_bi, w_nil, w_cons, w_ife, w_tup, w_lst, w_truB, w_meth, w_call, w_dnew, w_lc, w_ival, w_izip, w_ienum, w_irev, w_irng1, w_irng2, w_slcU, w_slcL, w_slcB, w_cutU, w_cutL, w_cutB, w_for, w_tnil, w_tone, rng1_ens, rng2_ens, forB_nm, forB_two,
  w_at, w_ixr, w_ixl, w_ixf, w_ixt, w_ixd, at_0, at_1, at_2, at_3, at_4, w_setr, set_0, set_1, set_2, set_3, set_4, w_eqI, w_neI, w_ltI, w_leI, w_gtI, w_geI, w_isN, w_noN, w_add, w_sub, w_mul, w_fdiv, w_mod, w_pow, w_lenr, w_lenl, w_lenf, w_lent, w_intI, w_absI, t_bl, t_int, ens_byT, sens_byS, w_neB, w_eqB, w_isi, w_isiT, isi_list, isi_tuple, isi_str, isi_int, isi_bool, isi_lt, k_non, k_bl, k_int, k_str, k_tup, isNon, isSub, String.reduceBEq, Bool.or_false, Bool.false_or, Bool.true_or, Bool.or_true, Bool.and_false, Bool.false_and, Bool.true_and, Bool.and_true, Bool.not_true, Bool.not_false, decide_true, decide_false, Bool.true_eq_false, Bool.false_eq_true, forall_const, false_implies, true_implies, and_true, true_and, 
  List.map_cons, List.map_nil, List.length_cons, List.length_nil, List.replicate, List.cons_append, List.nil_append, List.getElem?_cons_zero, List.getElem?_cons_succ, List.set_cons_zero, List.set_cons_succ, Nat.reduceAdd, Nat.reduceSub, Nat.zero_add, List.getElem?_set_self, List.getElem?_set_ne, List.set_set, List.length_set, *])
namespace G
open K2
section
variable {p : Prog} {n b Z : Nat} {h : Hm} {P : MV → Hm → Prop}
theorem draw_c (hd : p.defs "_law_draw" = some ⟨2, 4, b_law_draw⟩) {size : Int} (B : Bag b Z h) (hZ : Z < 10 ^ 29) (hm : 0 < size) (hm2 : size < 2 ^ 200) (f : ∀ r h', 0 ≤ r → r < size → Bag b (Z + 1) h' → Fr [b] h h' → P (.int r) h') : (callN p (n + 1) "_law_draw" [.ref b, .int size] h).ens P :=
  (draw_ok hd B (by omega) hm (by omega)).mono fun v h' ⟨r, e, r0, r1, B', fr⟩ => by rw [e]; exact f r h' r0 r1 B' fr
theorem of_c (hd : p.defs "_law_draw" = some ⟨2, 4, b_law_draw⟩) (hd2 : p.defs "_law_of" = some ⟨2, 2, b_law_of⟩) {v : MV} {xs : List MV} (B : Bag b Z h) (hZ : Z < 10 ^ 29) (hv : items h v = some xs) (hne : v ≠ .ref b) (h0 : xs ≠ []) (hl : xs.length < 10 ^ 30) (f : ∀ y h', y ∈ xs → Bag b (Z + 1) h' → Fr [b] h h' → P y h') :
    (callN p (n + 2) "_law_of" [.ref b, v] h).ens P :=
  (of_ok hd hd2 B hZ hv hne h0 hl).mono fun y h' ⟨j, e, B', fr⟩ => f y h' (List.mem_of_getElem? e) B' fr
theorem Sz.lt {k : Nat} {i : Int} (h0 : -(2 ^ k) < i) (h1 : i < 2 ^ k) : Sz k i := by
  unfold Sz
  have e : (2 : Int) ^ k = ((2 ^ k : Nat) : Int) := by rw [Int.natCast_pow]; rfl
  omega
theorem like_c (hd : p.defs "_law_like" = some ⟨2, 4, b_law_like⟩) {a c : MV} (d : Dt) (hn : d.deep ≤ n) (hw : d.wide < 100) (ra : Rep [] h d a) (rb : Rep [] h d c) (f : ∀ h', Ex h h' → P (.bl true) h') : (callN p n "_law_like" [a, c] h).ens P :=
  (like_ok (S := []) hd n d h a c hn (by rw [sizeLine_eq]; omega) ra rb).mono fun v h' ⟨e, x⟩ => by rw [e]; exact f h' x
theorem of_s (hd : p.defs "_law_draw" = some ⟨2, 4, b_law_draw⟩) (hd2 : p.defs "_law_of" = some ⟨2, 2, b_law_of⟩) {a : List Nat} (B : Bag b Z h) (hZ : Z < 10 ^ 29) (h0 : a ≠ []) (hl : a.length ≤ 10000) (f : ∀ c h', c ∈ a → Bag b (Z + 1) h' → Fr [b] h h' → P (.str (T [c])) h') :
    (callN p (n + 2) "_law_of" [.ref b, .str (T a)] h).ens P := by
  refine callN_ens hd2 rfl ?_
  unfold b_law_of
  have hpos : 0 < a.length := List.length_pos_iff.mpr h0
  walk_at "run"
  refine draw_c (n := n) hd B hZ (by omega) (by omega) fun r h' r0 r1 B' fr => ?_
  have hr : r.toNat < a.length := by omega
  have ea : L2.atI a r = some a[r.toNat] := by rw [atI_ok r0, List.getElem?_eq_getElem hr]
  rw [w_ixT hl ea]
  exact f _ _ (List.getElem_mem hr) B' fr
end
/-- a name -/
def nameB (l : List Nat) : Bool := decide (1 ≤ l.length) && decide (l.length ≤ 8) && l.all fun c => decide (c ∈ letL)
structure Defs1 (p : Prog) : Prop where
  name : p.defs "is_name" = some ⟨1, 2, b_is_name⟩
  number : p.defs "is_number" = some ⟨3, 3, b_is_number⟩
  bag : p.defs "_law_bag" = some ⟨1, 3, b_law_bag⟩
  draw : p.defs "_law_draw" = some ⟨2, 4, b_law_draw⟩
  of : p.defs "_law_of" = some ⟨2, 2, b_law_of⟩
  like : p.defs "_law_like" = some ⟨2, 4, b_law_like⟩
  listed : p.defs "_law_listed" = some ⟨0, 2, b_law_listed⟩
  odd : p.defs "_law_odd" = some ⟨1, 2, b_law_odd⟩
  string : p.defs "_law_string" = some ⟨1, 7, b_law_string⟩
  named : p.defs "_law_named" = some ⟨1, 1, b_law_named⟩
  amount : p.defs "_law_amount" = some ⟨1, 3, b_law_amount⟩
  law : p.defs "law" = some ⟨1, 10, b_law⟩
  init : p.defs "One.__init__" = some ⟨1, 1, b_One___init__⟩
  one : p.defs "One" = none
  cls : p.cls "One" = some ⟨{ name := "One", flds := ["word", "number"] }, "One.__init__"⟩
  most : p.cons "MOST_LETTERS" = some (.int 8)
  let_ : p.cons "LETTERS" = some (.str (T letL))
section
variable {p : Prog} {n b Z : Nat} {h : Hm} {P : MV → Hm → Prop}
theorem name_ok (D : Defs1 p) {l : List Nat} (hl : l.length ≤ 10000) (h : Hm) (P : MV → Hm → Prop) : (callN p (n + 1) "is_name" [.str (T l)] h).ens P = P (.bl (nameB l)) h := by
  refine ens_eq (callN_ens D.name rfl ?_) P
  unfold b_is_name
  have m := D.most
  have s := D.let_
  walk_at "run"
  have fig : ∀ b, nameB l = b → ∀ h' : Hm, h' = h → (MV.bl b = MV.bl (nameB l) ∧ h' = h) := fun b e h' e' => ⟨by rw [e], e'⟩
  refine ⟨fun h1 => ⟨fun h2 => ?_, fun h2 => ?_⟩, fun h1 => ?_⟩
  · refine (fig _ ?_ _ rfl).1
    have h2 : ¬ ((l.length : Int) ≤ 8) := by simpa using h2
    unfold nameB
    rw [decide_eq_false (p := l.length ≤ 8) (by omega), Bool.and_false]
    rfl
  · have h1 := of_decide_eq_true h1
    have h2 : l.length ≤ 8 := by
      have : decide ((l.length : Int) ≤ 8) = true := by simpa using h2
      have := of_decide_eq_true this
      omega
    have fg : nameB l = l.all fun c => decide (c ∈ letL) := by
      unfold nameB
      rw [decide_eq_true (by omega), decide_eq_true (by omega)]
      rfl
    refine for_inv (l.map fun c => .str (T [c])) (fun k sm h' => h' = h ∧ (∃ o, sm = [some (.str (T l)), o]) ∧ ((l.take k).all fun c => decide (c ∈ letL)) = true) itI_T (fun _ _ _ _ => itI_T) (fun k x sm h' hx i => ?_) (fun sm h' i => ?_) ⟨rfl, ⟨none, rfl⟩, rfl⟩
    · obtain ⟨rfl, ⟨o, rfl⟩, al⟩ := i
      obtain ⟨c, hc, rfl⟩ := map_get hx
      generalize letL = F at *
      walk_at "run"
      refine ⟨fun e => ?_, fun e => ?_⟩
      · refine (fig _ ?_ _ rfl).1
        rw [fg]
        refine Bool.eq_false_iff.mpr fun z => ?_
        have z2 := List.all_eq_true.mp z c (List.mem_of_getElem? hc)
        rw [z2] at e
        cases e
      · rw [List.take_add_one, hc, List.all_append, al]
        simp only [Option.toList_some, List.all_cons, List.all_nil, Bool.and_true, Bool.true_and]
        simpa using e
    · obtain ⟨rfl, ⟨o, rfl⟩, al⟩ := i
      rw [List.length_map, List.take_length] at al
      have fg2 : nameB l = true := by rw [fg, al]
      walk_at "run"
  · refine (fig _ ?_ _ rfl).1
    have h1 := of_decide_eq_false h1
    unfold nameB
    rw [decide_eq_false (p := 1 ≤ l.length) (by omega)]
    rfl
theorem name_non (D : Defs1 p) {v : MV} {k : String} {h : Hm} (hk : kind h v = some k) (hs : isSub k "str" = false) (P : MV → Hm → Prop) : (callN p (n + 1) "is_name" [v] h).ens P = P (.bl false) h := by
  refine ens_eq (callN_ens D.name rfl ?_) P
  unfold b_is_name
  rw [w_scons]
  have hs : ∀ P : MV → Hm → Prop, (isiO (some k) "str" h).ens P = P (.bl false) h := fun P => by rw [isi_str, hs]
  walk_at "run"
theorem named_ok (D : Defs1 p) {l : List Nat} (hl : l.length ≤ 10000) (h : Hm) (P : MV → Hm → Prop) : (callN p (n + 1) "_law_named" [.str (T l)] h).ens P = P (.bl (nameB l)) h := by
  refine ens_eq (callN_ens D.named rfl ?_) P
  have st : ∀ (h : Hm) (P : MV → Hm → Prop), (meth .strip (.str (T l)) [.str (T letL)] h).ens P = P (.str (Txt.stripChars (T l) (T letL))) h := fun h P => w_stripT hl
  have nb : nameB l = (decide (1 ≤ l.length) && decide (l.length ≤ 8) && l.all fun c => decide (c ∈ letL)) := rfl
  rw [nb]
  unfold b_law_named
  have e1 : decide (1 ≤ l.length) = !decide (l = []) := by
    cases l with
    | nil => rfl
    | cons a l => simp
  have e2 : decide ((l.length : Int) ≤ 8) = decide (l.length ≤ 8) := decide_eq_decide.mpr (by omega)
  rw [e1]
  clear e1 nb
  generalize hB1 : decide (l = []) = B1 at *
  generalize hB2 : decide (l.length ≤ 8) = B2 at *
  generalize hB3 : (l.all fun c => decide (c ∈ letL)) = B3 at *
  cases B1 with
  | true => walk_at "run"
  | false =>
    cases B2 with
    | false => walk_at "run"
    | true => walk_at "run"
theorem named_non (D : Defs1 p) {v : MV} {k : String} {h : Hm} (hk : kind h v = some k) (hs : isSub k "str" = false) (P : MV → Hm → Prop) : (callN p (n + 1) "_law_named" [v] h).ens P = P (.bl false) h := by
  refine ens_eq (callN_ens D.named rfl ?_) P
  unfold b_law_named
  rw [w_scons]
  have hs : ∀ P : MV → Hm → Prop, (isiO (some k) "str" h).ens P = P (.bl false) h := fun P => by rw [isi_str, hs]
  walk_at "run"
theorem number_int (D : Defs1 p) {i low high : Int} (h : Hm) (P : MV → Hm → Prop) : (callN p (n + 1) "is_number" [.int i, .int low, .int high] h).ens P = P (.bl (decide (low ≤ i) && decide (i ≤ high))) h := by
  refine ens_eq (callN_ens D.number rfl ?_) P
  unfold b_is_number
  generalize hB1 : decide (low ≤ i) = B1 at *
  cases B1 with
  | true => walk_at "run"
  | false => walk_at "run"
theorem number_bl (D : Defs1 p) {i : Bool} {low high : Int} (h : Hm) (P : MV → Hm → Prop) : (callN p (n + 1) "is_number" [.bl i, .int low, .int high] h).ens P = P (.bl false) h := by
  refine ens_eq (callN_ens D.number rfl ?_) P
  unfold b_is_number
  walk_at "run"
theorem number_non (D : Defs1 p) {v : MV} {k : String} {low high : Int} {h : Hm} (hk : kind h v = some k) (h1 : isSub k "bool" = false) (h2 : isSub k "int" = false) (P : MV → Hm → Prop) : (callN p (n + 1) "is_number" [v, .int low, .int high] h).ens P = P (.bl false) h := by
  refine ens_eq (callN_ens D.number rfl ?_) P
  unfold b_is_number
  rw [w_scons]
  have h1 : ∀ P : MV → Hm → Prop, (isiO (some k) "bool" h).ens P = P (.bl false) h := fun P => by rw [isi_bool, h1]
  have h2 : ∀ P : MV → Hm → Prop, (isiO (some k) "int" h).ens P = P (.bl false) h := fun P => by rw [isi_int, h2]
  walk_at "run"
end
end G
end R

namespace R
open PySem
local macro_rules | `(tactic| walk_at "run") => `(tactic| try simp -implicitDefEqProofs only [w_fld, w_setF, w_addTup, w_join0, k_ins, mk_join, mk_start, mk_part, mk_strip, mk_split, mk_extend, mk_append, cmp_le, cmp_lt, w_ivT, w_lenT, w_ixT, w_unp3, s00, sLet, w_eqT, w_neT, w_inC, w_notinC, w_neStrip, w_eqStrip, w_startT, k_T, w_fmt, w_fs, w_fcons, w_fnil, w_con, w_conS, w_callK, w_callO, pickL, pick, w_gcd, w_maxI, w_minI, w_eq2, w_ne2, and_self, if_true, w_scons, w_snil, w_set, w_ret, w_retN, w_if, w_expr, w_setIx, w_pass, w_unp, w_unp2, w_par, w_par2, w_aug, sens_fl, sens_bad, seqP_nx, seqP_ret, retP_ret, retP_nx, ens_ok, ens_bad, ens_bind, w_lit, w_var, w_varS, w_bin, w_neg, negR_int, w_and, w_or, w_not, w_cmp, w_chn, w_ix, w_bi, w_nil, w_cons, w_ife, w_tup, w_lst, w_truB, w_meth, w_call, w_dnew, w_lc, w_ival, w_izip, w_ienum, w_irev, w_irng1, w_irng2, w_slcU, w_slcL, w_slcB, w_cutU, w_cutL, w_cutB, w_for, w_tnil, w_tone, rng1_ens, rng2_ens, forB_nm, forB_two,
  w_at, w_ixr, w_ixl, w_ixf, w_ixt, w_ixd, at_0, at_1, at_2, at_3, at_4, w_setr, set_0, set_1, set_2, set_3, set_4, w_eqI, w_neI, w_ltI, w_leI, w_gtI, w_geI, w_isN, w_noN, w_add, w_sub, w_mul, w_fdiv, w_mod, w_pow, w_lenr, w_lenl, w_lenf, w_lent, w_intI, w_absI, t_bl, t_int, ens_byT, sens_byS, w_neB, w_eqB, w_isi, w_isiT, isi_list, isi_tuple, isi_str, isi_int, isi_bool, isi_lt, k_non, k_bl, k_int, k_str, k_tup, isNon, isSub, String.reduceBEq, Bool.or_false, Bool.false_or, Bool.true_or, Bool.or_true, Bool.and_false, Bool.false_and, Bool.true_and, Bool.and_true, Bool.not_true, Bool.not_false, decide_true, decide_false, Bool.true_eq_false, Bool.false_eq_true, forall_const, false_implies, true_implies, and_true, true_and, 
  List.map_cons, List.map_nil, List.length_cons, List.length_nil, List.replicate, List.cons_append, List.nil_append, List.getElem?_cons_zero, List.getElem?_cons_succ, List.set_cons_zero, List.set_cons_succ, Nat.reduceAdd, Nat.reduceSub, Nat.zero_add, List.getElem?_set_self, List.getElem?_set_ne, List.set_set, List.length_set, *])
abbrev upL : List Nat := (Str.ofString "ABCDEFGHIJKLMNOPQRSTUVWXYZ0123456789 !#$&'()*+,-./:;<=>?\x40[]^_{|}~").cps.toList
theorem sUp : Str.ofString "ABCDEFGHIJKLMNOPQRSTUVWXYZ0123456789 !#$&'()*+,-./:;<=>?\x40[]^_{|}~" = T upL := (T_of _).symm
theorem sNl : Str.ofString "\n" = T [10] := TL.ext_tl (by rw [TL.tl_ofString]; rfl)
abbrev nlL : List Nat := (Txt.mul (T [10]) 12).cps.toList
theorem ix_mem {h : Hm} {v : MV} {xs : List MV} {r : Int} {P : MV → Hm → Prop} (hv : items h v = some xs) (r0 : 0 ≤ r) (r1 : r < xs.length) (f : ∀ y, y ∈ xs → P y h) : (ixAt v (.int r) h).ens P := by
  have hr : r.toNat < xs.length := by omega
  have ea : L2.atI xs r = some xs[r.toNat] := by rw [atI_ok r0, List.getElem?_eq_getElem hr]
  have z := f xs[r.toNat] (List.getElem_mem hr)
  cases v with
  | tup ys => cases hv; rw [w_ixt, ea]; exact z
  | ref j =>
    rw [w_ixr]
    unfold items at hv
    simp only at hv
    cases e : h[j]? with
    | none => rw [e] at hv; cases hv
    | some o =>
      rw [e] at hv
      cases o <;> first | (cases hv; unfold ixO; simp only [ea]; exact z) | cases hv
  | _ => cases hv
namespace G
open K2
/-- a value that is no text and no number -/
def Od (h : Hm) (v : MV) : Prop := (∃ k, v = .bl k) ∨ ∃ k, kind h v = some k ∧ isSub k "str" = false ∧ isSub k "int" = false ∧ isSub k "bool" = false
section
variable {p : Prog} {n b Z : Nat} {h : Hm} {P : MV → Hm → Prop}
theorem one_ok (D : Defs1 p) (f : ∀ j h', Ex h h' → (∃ ci fs, h'[j]? = some (.ins ci fs)) → h.length ≤ j → P (.ref j) h') : (callN p (n + 2) "One" [] h).ens P := by
  refine make_ens D.one D.cls ?_
  refine callN_ens D.init rfl ?_
  have k1 : (h ++ [.ins { name := "One", flds := ["word", "number"] } []])[h.length]? = some (.ins { name := "One", flds := ["word", "number"] } []) := by simp
  have q1 := fun P v => w_setFI (sm := [some (.ref h.length)]) (f := "word") (v := v) (P := P) k1 (by decide +kernel) (by simp)
  have k2 : (List.set (h ++ [MO.ins { name := "One", flds := ["word", "number"] } []]) h.length (.ins { name := "One", flds := ["word", "number"] } (putFm "word" (.str "one") [])))[h.length]? = some (.ins { name := "One", flds := ["word", "number"] } (putFm "word" (.str "one") [])) := List.getElem?_set_self (by simp)
  have q2 := fun P v => w_setFI (sm := [some (.ref h.length)]) (f := "number") (v := v) (P := P) k2 (by decide +kernel) (by simp [putFm])
  clear k1 k2
  unfold b_One___init__
  walk_at "run"
  refine f _ _ ?_ ⟨_, _, List.getElem?_set_self (by simp)⟩ (Nat.le_refl _)
  refine ((Fr.app.trans (Fr.set (S := [h.length]) (by simp))).drop fun i hi => .inr ?_)
  cases List.mem_singleton.mp hi
  exact Nat.le_refl _
theorem odd_ok (D : Defs1 p) (B : Bag b Z h) (hZ : Z < 10 ^ 27) (f : ∀ v h', Od h' v → Bag b (Z + 1) h' → Fr [b] h h' → P v h') : (callN p (n + 3) "_law_odd" [.ref b] h).ens P := by
  have k0 : 0 ≤ sizeLine := Nat.zero_le _
  have k1 : 1 ≤ sizeLine := by rw [sizeLine_eq]; omega
  have k2 : 2 ≤ sizeLine := by rw [sizeLine_eq]; omega
  have k11 : 11 ≤ sizeLine := by rw [sizeLine_eq]; omega
  refine callN_ens D.odd rfl ?_
  show (evSs _ (.cons _ (.cons (.ret (.ix _ _)) .nil)) _ _).ens _
  walk_at "run"
  refine newL_of fun j1 h1 x1 i1 l1 => ?_
  walk_at "run"
  refine newL_of fun j2 h2 x2 i2 l2 => ?_
  refine one_ok (n := n) D fun j3 h3 x3 q3 l3 => ?_
  walk_at "run"
  refine newL_of fun j4 h4 x4 i4 l4 => ?_
  walk_at "run"
  refine newL_of fun j5 h5 x5 i5 l5 => ?_
  walk_at "run"
  refine newL_of fun j6 h6 x6 i6 l6 => ?_
  have B6 := (((((B.ex x1).ex x2).ex x3).ex x4).ex x5).ex x6
  have lb := B.lt
  have m1 := x1.len
  have m2 := x2.len
  have m3 := x3.len
  have m4 := x4.len
  have m5 := x5.len
  rw [w_len i6]
  refine draw_c (n := n + 1) D.draw B6 (by omega) (by simp) (by simp) fun r h7 r0 r1 B7 fr7 => ?_
  have i6' := fr7.items i6 (fun k e => by cases e; exact ne_sing (by omega))
  refine ix_mem i6' r0 (by simpa using r1) fun y hy => ?_
  have fa : Fr [b] h h7 := (x1.ex.trans (x2.ex.trans (x3.ex.trans (x4.ex.trans (x5.ex.trans (x6.ex.trans fr7))))))
  have lst : ∀ {j : Nat} {xs : List MV} {h0 : Hm}, items h0 (.ref j) = some xs → Fr [b] h0 h7 → j ≠ b → Od h7 (.ref j) := fun i fr ne => .inr ⟨"list", k_items (fr.items i fun k e => by cases e; exact ne_sing ne), by decide, by decide, by decide⟩
  refine f y h7 ?_ B7 fa
  simp only [List.mem_cons, List.not_mem_nil, or_false] at hy
  rcases hy with rfl | rfl | rfl | rfl | rfl | rfl | rfl | rfl | rfl | rfl | rfl
  · exact .inr ⟨"NoneType", rfl, by decide, by decide, by decide⟩
  · exact .inl ⟨_, rfl⟩
  · exact .inl ⟨_, rfl⟩
  · exact .inr ⟨"tuple", rfl, by decide, by decide, by decide⟩
  · exact lst i1 (x2.ex.trans (x3.ex.trans (x4.ex.trans (x5.ex.trans (x6.ex.trans fr7))))) (by omega)
  · exact .inr ⟨"tuple", rfl, by decide, by decide, by decide⟩
  · exact lst i2 (x3.ex.trans (x4.ex.trans (x5.ex.trans (x6.ex.trans fr7)))) (by omega)
  · obtain ⟨ci, fs, q3⟩ := q3
    have q7 := ((x4.ex (S := [b])).trans (x5.ex.trans (x6.ex.trans fr7))).at q3 (ne_sing (by omega))
    exact .inr ⟨"object", k_ins q7, by decide, by decide, by decide⟩
  · exact .inr ⟨"tuple", rfl, by decide, by decide, by decide⟩
  · exact lst i5 (x6.ex.trans fr7) (by omega)
  · exact .inr ⟨"tuple", rfl, by decide, by decide, by decide⟩
theorem amount_ok (D : Defs1 p) (B : Bag b Z h) (hZ : Z < 10 ^ 27) (f : ∀ r h', Sz 200 r → Bag b (Z + 10) h' → Fr [b] h h' → P (.int r) h') : (callN p (n + 3) "_law_amount" [.ref b] h).ens P := by
  have k4 : 4 ≤ sizeLine := by rw [sizeLine_eq]; omega
  refine callN_ens D.amount rfl ?_
  unfold b_law_amount
  walk_at "run"
  refine ⟨by decide, fun q1 e1 => ?_⟩
  have e1' : q1 = 1000000000 := by rw [e1]; decide
  clear e1
  subst e1'
  refine newL_of fun j1 h1 x1 i1 l1 => ?_
  have lb := B.lt
  refine of_c (n := n) D.draw D.of (B.ex x1) (by omega) i1 (fun z => by cases z; omega) (by simp) (by simp) fun y h2 hy B2 fr2 => ?_
  have hy : ∃ t : Int, y = .int t ∧ 1 ≤ t ∧ t ≤ 1000000000 := by
    simp only [List.mem_cons, List.not_mem_nil, or_false] at hy
    rcases hy with rfl | rfl | rfl | rfl <;> exact ⟨_, rfl, by decide, by decide⟩
  obtain ⟨sz, rfl, z0, z1⟩ := hy
  walk_at "run"
  refine draw_c (n := n + 1) D.draw B2 (by omega) (by omega) (by omega) fun d1 h3 d10 d11 B3 fr3 => ?_
  walk_at "run"
  refine ⟨by decide, fun q1 e1 => ⟨by decide, fun q2 e2 => ?_⟩⟩
  have e1' : q1 = 1000000000 := by rw [e1]; decide
  have e2' : q2 = 10000000000000000000000000000000 := by rw [e2]; decide
  clear e1 e2
  subst e1' e2'
  refine newL_of fun j2 h4 x4 i4 l4 => ?_
  have lb3 := B3.lt
  refine of_c (n := n) D.draw D.of (B3.ex x4) (by omega) i4 (fun z => by cases z; omega) (by simp) (by simp) fun y h5 hy B5 fr5 => ?_
  have hy : ∃ t : Int, y = .int t ∧ 1 ≤ t ∧ t ≤ 10 ^ 32 := by
    simp only [List.mem_cons, List.not_mem_nil, or_false] at hy
    rcases hy with rfl | rfl | rfl | rfl <;> exact ⟨_, rfl, by decide, by decide⟩
  obtain ⟨m, rfl, m0, m1⟩ := hy
  walk_at "run"
  refine ⟨mulOk (by omega) (by omega), fun q3 e3 => ?_⟩
  have q3a : 0 ≤ q3 := by rw [e3]; exact Int.mul_nonneg d10 (by omega)
  have q3b : q3 ≤ 10 ^ 42 := by
    rw [e3]
    have a : d1 * m ≤ 1000000000 * m := Int.mul_le_mul_of_nonneg_right (by omega) (by omega)
    omega
  clear e3
  refine draw_c (n := n + 1) D.draw B5 (by omega) (by omega) (by omega) fun d2 h6 d20 d21 B6 fr6 => ?_
  walk_at "run"
  refine draw_c (n := n + 1) D.draw B6 (by omega) (by decide) (by decide) fun d3 h7 d30 d31 B7 fr7 => ?_
  have fa : Fr [b] h h7 := x1.ex.trans (fr2.trans (fr3.trans (x4.ex.trans (fr5.trans (fr6.trans fr7)))))
  walk_at "run"
  exact ⟨fun _ => f _ _ (Sz.lt (by omega) (by omega)) (B7.le (by omega)) fa, fun _ => f _ _ (Sz.lt (by omega) (by omega)) (B7.le (by omega)) fa⟩
end
end G
end R

namespace R
open PySem
local macro_rules | `(tactic| walk_at "run") => `(tactic| try simp -implicitDefEqProofs only [w_fld, w_setF, w_addTup, w_join0, k_ins, mk_join, mk_start, mk_part, mk_strip, mk_split, mk_extend, mk_append, cmp_le, cmp_lt, w_ivT, w_lenT, w_ixT, w_unp3, s00, w_eqT, w_neT, w_inC, w_notinC, w_neStrip, w_eqStrip, w_startT, k_T, w_fmt, w_fs, w_fcons, w_fnil, w_con, w_conS, w_callK, w_callO, pickL, pick, w_gcd, w_maxI, w_minI, w_eq2, w_ne2, and_self, if_true, w_scons, w_snil, w_set, w_ret, w_retN, w_if, w_expr, w_setIx, w_pass, w_unp, w_unp2, w_par, w_par2, w_aug, sens_fl, sens_bad, seqP_nx, seqP_ret, retP_ret, retP_nx, ens_ok, ens_bad, ens_bind, w_lit, w_var, w_varS, w_bin, w_neg, negR_int, w_and, w_or, w_not, w_cmp, w_chn, w_ix, w_bi, w_nil, w_cons, w_ife, w_tup, w_lst, w_truB, w_meth, w_call, w_dnew, w_lc, w_ival, w_izip, w_ienum, w_irev, w_irng1, w_irng2, w_slcU, w_slcL, w_slcB, w_cutU, w_cutL, w_cutB, w_for, w_tnil, w_tone, rng1_ens, rng2_ens, forB_nm, forB_two,
  w_at, w_ixr, w_ixl, w_ixf, w_ixt, w_ixd, at_0, at_1, at_2, at_3, at_4, w_setr, set_0, set_1, set_2, set_3, set_4, w_eqI, w_neI, w_ltI, w_leI, w_gtI, w_geI, w_isN, w_noN, w_add, w_sub, w_mul, w_fdiv, w_mod, w_pow, w_lenr, w_lenl, w_lenf, w_lent, w_intI, w_absI, t_bl, t_int, ens_byT, sens_byS, w_neB, w_eqB, w_isi, w_isiT, isi_list, isi_tuple, isi_str, isi_int, isi_bool, isi_lt, k_non, k_bl, k_int, k_str, k_tup, isNon, isSub, String.reduceBEq, Bool.or_false, Bool.false_or, Bool.true_or, Bool.or_true, Bool.and_false, Bool.false_and, Bool.true_and, Bool.and_true, Bool.not_true, Bool.not_false, decide_true, decide_false, Bool.true_eq_false, Bool.false_eq_true, forall_const, false_implies, true_implies, and_true, true_and, 
  List.map_cons, List.map_nil, List.length_cons, List.length_nil, List.replicate, List.cons_append, List.nil_append, List.getElem?_cons_zero, List.getElem?_cons_succ, List.set_cons_zero, List.set_cons_succ, Nat.reduceAdd, Nat.reduceSub, Nat.zero_add, List.getElem?_set_self, List.getElem?_set_ne, List.set_set, List.length_set, *])
theorem ones_of : ∀ {ys : List MV}, (∀ y ∈ ys, ∃ c, y = MV.str (T [c])) → ∃ ls : List (List Nat), ys = ls.map (fun l => MV.str (T l)) ∧ (∀ l ∈ ls, l.length = 1) ∧ ls.length = ys.length
  | [], _ => ⟨[], rfl, by simp, rfl⟩
  | y :: ys, h => by
    obtain ⟨c, rfl⟩ := h y (.head _)
    obtain ⟨ls, e1, e2, e3⟩ := ones_of fun y m => h y (.tail _ m)
    refine ⟨[c] :: ls, by rw [e1]; rfl, fun l m => ?_, by simp [e3]⟩
    rcases List.mem_cons.mp m with rfl | m
    · rfl
    · exact e2 l m
theorem flat_len : ∀ {ls : List (List Nat)}, (∀ l ∈ ls, l.length = 1) → ls.flatten.length = ls.length
  | [], _ => rfl
  | l :: ls, h => by
    rw [List.flatten_cons, List.length_append, flat_len fun l m => h l (.tail _ m), h l (.head _), List.length_cons]
    omega
namespace G
open K2
section
variable {p : Prog} {n b Z : Nat} {h : Hm} {P : MV → Hm → Prop}
/-- a word of drawn signs -/
theorem word_ok (D : Defs1 p) {a : List Nat} {k : Int} {sm : Sm} {elt : ME} (B : Bag b Z h) (hZ : Z < 10 ^ 27) (h0 : a ≠ []) (ha : a.length ≤ 10000) (k0 : 0 ≤ k) (k1 : k ≤ 20)
    (hs : ∀ (x : MV) (h' : Hm) (P : MV → Hm → Prop), (∀ c h2, c ∈ a → Bag b (Z + 1) h2 → P (.str (T [c])) h2) → True)
    (step : ∀ (x : MV) (Z' : Nat) (h' : Hm) (Q : Option MV → Hm → Prop), Z' < 10 ^ 28 → Bag b Z' h' → (∀ c h2, c ∈ a → Bag b (Z' + 1) h2 → Fr [b] h' h2 → Q (some (.str (T [c]))) h2) → (lcStep ⟨p.cons, callN p (n + 3)⟩ elt (.nm 6) .nil [6] sm x h').ens Q)
    (f : ∀ l h', l.length = k.toNat → Bag b (Z + k.toNat) h' → Fr [b] h h' → P (.str (T l)) h') :
    (lcGo (.rng 0 1 k.toNat) (lcStep ⟨p.cons, callN p (n + 3)⟩ elt (.nm 6) .nil [6] sm) h.length (turns h (.rng 0 1 k.toNat) + 1) 0 (h ++ [.list []])).ens fun x h1 => (meth .join (.str (T [])) [x] h1).ens P := by
  refine lc_bag 1 (List.range k.toNat) (fun i => .int (0 + (i : Int))) (fun _ y => ∃ c, y = .str (T [c])) B (fun h' _ => itI_rng) (by rw [List.length_range, sizeLine_eq]; omega) (fun i _ q h' hk fr B' => ?_) (fun j h' ys fr hj hl hr B' lj => ?_)
  · rw [List.length_range] at hk
    refine step _ _ _ _ (by omega) B' fun c h2 _ B2 fr2 => ⟨_, rfl, ⟨c, rfl⟩, B2.le (by omega), fr2⟩
  · rw [List.length_range] at hl B'
    obtain ⟨ls, e1, e2, e3⟩ := ones_of (ys := ys) fun y m => by
      obtain ⟨i, hi⟩ := List.mem_iff_getElem?.mp m
      have lt := (List.getElem?_eq_some_iff.mp hi).1
      exact hr i i y (List.getElem?_range (by omega)) hi
    subst e1
    rw [w_join0 (items_lst hj) (by omega) (fun l m => by rw [e2 l m]; decide)]
    exact f _ _ (by rw [flat_len e2, e3, hl]) (B'.le (by omega)) fr
theorem string_ok (D : Defs1 p) (B : Bag b Z h) (hZ : Z < 10 ^ 26) (f : ∀ l h', l.length ≤ 30 → Bag b (Z + 40) h' → P (.str (T l)) h') : (callN p (n + 4) "_law_string" [.ref b] h).ens P := by
  have k4 : 4 ≤ sizeLine := by rw [sizeLine_eq]; omega
  have u0 := sLet
  have u1 := sUp
  have u2 := sNl
  have ul : upL.length ≤ 100 := by decide +kernel
  have ll26 : letL.length = 26 := by decide +kernel
  generalize letL = LL at *
  have ml : nlL.length ≤ 100 := by decide +kernel
  have mt : T nlL = Txt.mul (T [10]) 12 := T_of _
  have a1 : ∀ (h : Hm) (P : MV → Hm → Prop), (binop .add (.str (T LL)) (.str (T upL)) h).ens P = P (.str (T (LL ++ upL))) h := fun h P => w_addT (by omega)
  have a2 : ∀ (h : Hm) (P : MV → Hm → Prop), (binop .add (.str (T (LL ++ upL))) (.str (T [10])) h).ens P = P (.str (T (LL ++ upL ++ [10]))) h := fun h P => w_addT (by simp only [List.length_append, List.length_cons, List.length_nil]; omega)
  have sl : (LL ++ upL ++ [10]).length ≤ 200 := by simp only [List.length_append, List.length_cons, List.length_nil]; omega
  have sg : 27 ≤ (LL ++ upL ++ [10]).length := by simp only [List.length_append, List.length_cons, List.length_nil]; omega
  generalize LL ++ upL ++ [10] = S at *
  generalize LL ++ upL = LU at *
  have c1 : ∀ (h : Hm) (P : MV → Hm → Prop), (cutAt (.str (T S)) none (some 26) h).ens P = P (.str (T (S.take 26))) h := fun h P => w_cutToT (by omega) (by decide)
  have c2 : ∀ (h : Hm) (P : MV → Hm → Prop), (cutAt (.str (T S)) (some 26) none h).ens P = P (.str (T (S.drop 26))) h := fun h P => w_cutFromT (by omega) (by decide)
  have t1 : S.take 26 ≠ [] := fun z => by have := congrArg List.length z; rw [List.length_take, List.length_nil] at this; omega
  have t2 : (S.take 26).length ≤ 200 := by rw [List.length_take]; omega
  have t3 : S.drop 26 ≠ [] := fun z => by have := congrArg List.length z; rw [List.length_drop, List.length_nil] at this; omega
  have t4 : (S.drop 26).length ≤ 200 := by rw [List.length_drop]; omega
  have a3 : ∀ (h : Hm) (P : MV → Hm → Prop), (binop .mul (.str (T [10])) (.int 12) h).ens P = P (.str (T nlL)) h := fun h P => by rw [w_mulS (by simp), mt]
  have a4 : ∀ (h : Hm) (P : MV → Hm → Prop), (binop .add (.str (T (S.drop 26))) (.str (T nlL)) h).ens P = P (.str (T (S.drop 26 ++ nlL))) h := fun h P => w_addT (by omega)
  have t5 : S.drop 26 ++ nlL ≠ [] := fun z => t3 (List.append_eq_nil_iff.mp z).1
  have t6 : (S.drop 26 ++ nlL).length ≤ 300 := by rw [List.length_append]; omega
  have sne : S ≠ [] := fun z => by rw [z] at sg; simp at sg
  clear mt ml ul sg ll26
  generalize S.drop 26 = S2 at *
  generalize S.take 26 = S1 at *
  generalize nlL = M at *
  generalize S2 ++ M = S3 at *
  -- the steps of the comprehensions
  have st : ∀ (o1 o2 o3 o4 o5 o6 : Option MV) (a : List Nat) (elt : ME), a ≠ [] → a.length ≤ 10000 →
      (∀ (x : MV) (h' : Hm) (Q : MV → Hm → Prop), (evE ⟨p.cons, callN p (n + 3)⟩ elt [some (.ref b), o1, o2, o3, o4, o5, some x] h').ens Q = (callN p (n + 3) "_law_of" [.ref b, .str (T a)] h').ens Q) →
      ∀ (x : MV) (Z' : Nat) (h' : Hm) (Q : Option MV → Hm → Prop), Z' < 10 ^ 28 → Bag b Z' h' → (∀ c h2, c ∈ a → Bag b (Z' + 1) h2 → Fr [b] h' h2 → Q (some (.str (T [c]))) h2) → (lcStep ⟨p.cons, callN p (n + 3)⟩ elt (.nm 6) .nil [6] [some (.ref b), o1, o2, o3, o4, o5, o6] x h').ens Q := by
    intro o1 o2 o3 o4 o5 o6 a elt h0 ha he x Z' h' Q hz B' g
    refine lcStep_ens (sm' := [some (.ref b), o1, o2, o3, o4, o5, some x]) rfl ?_
    rw [w_tnil]
    refine ⟨fun _ => ?_, fun z => by cases z⟩
    rw [he]
    exact of_s (n := n + 1) D.draw D.of B' (by omega) h0 ha fun c h2 hc B2 fr2 => g c h2 hc B2 fr2
  refine callN_ens D.string rfl ?_
  unfold b_law_string
  rw [w_scons]
  walk_at "run"
  refine draw_c (n := n + 2) D.draw B (by omega) (by decide) (by decide) fun pick h1 p0 p1 B1 fr1 => ?_
  walk_at "run"
  refine draw_c (n := n + 2) D.draw B1 (by omega) (by decide) (by decide) fun d h2 d0 d1 B2 fr2 => ?_
  refine newL_of fun j1 h3 x3 i3 l3 => ?_
  have lb := B2.lt
  refine of_c (n := n + 1) D.draw D.of (B2.ex x3) (by omega) i3 (fun z => by cases z; omega) (by simp) (by simp) fun y h4 hy B4 fr4 => ?_
  have hy : ∃ t : Int, y = .int t ∧ 0 ≤ t ∧ t ≤ 10 := by
    simp only [List.mem_cons, List.not_mem_nil, or_false] at hy
    rcases hy with rfl | rfl | rfl | rfl
    · exact ⟨_, rfl, by decide, by decide⟩
    · exact ⟨_, rfl, by decide, by decide⟩
    · exact ⟨_, rfl, by decide, by decide⟩
    · exact ⟨_, rfl, d0, by omega⟩
  obtain ⟨sz, rfl, z0, z1⟩ := hy
  walk_at "run"
  refine ⟨fun _ => ⟨by omega, ?_⟩, fun _ => ⟨by omega, ?_⟩⟩
  · refine word_ok D (a := S) B4 (by omega) sne (by omega) z0 (by omega) (fun _ _ _ _ => trivial) (st _ _ _ _ _ _ S _ sne (by omega) fun x h' Q => ?_) fun l h5 hl B5 fr5 => f l h5 (by omega) (B5.le (by omega))
    walk_at "run"
  · refine word_ok D (a := S1) B4 (by omega) t1 (by omega) z0 (by omega) (fun _ _ _ _ => trivial) (st _ _ _ _ _ _ S1 _ t1 (by omega) fun x h' Q => ?_) fun l h5 hl B5 fr5 => ?_
    · walk_at "run"
    walk_at "run"
    refine ⟨fun _ => f l h5 (by omega) (B5.le (by omega)), fun _ => ?_⟩
    refine draw_c (n := n + 2) D.draw B5 (by omega) (by omega) (by omega) fun sp h6 s0 s1 B6 fr6 => ?_
    have ll : l.length ≤ 10000 := by omega
    have e1 : ∀ (h : Hm) (P : MV → Hm → Prop), (cutAt (.str (T l)) none (some sp) h).ens P = P (.str (T (l.take sp.toNat))) h := fun h P => w_cutToT ll s0
    have e2 : (l.take sp.toNat).length ≤ 10 := by rw [List.length_take]; omega
    generalize l.take sp.toNat = la at *
    walk_at "run"
    refine of_s (n := n + 1) D.draw D.of B6 (by omega) t5 (by omega) fun c h7 _ B7 fr7 => ?_
    have e3 : ∀ (h : Hm) (P : MV → Hm → Prop), (binop .add (.str (T la)) (.str (T [c])) h).ens P = P (.str (T (la ++ [c]))) h := fun h P => w_addT (by simp; omega)
    walk_at "run"
    refine draw_c (n := n + 2) D.draw B7 (by omega) (by decide) (by decide) fun q h8 q0 q1 B8 fr8 => ?_
    have e4 : ∀ (h : Hm) (P : MV → Hm → Prop), (cutAt (.str (T l)) (some (sp + q)) none h).ens P = P (.str (T (l.drop (sp + q).toNat))) h := fun h P => w_cutFromT ll (by omega)
    have e5 : (l.drop (sp + q).toNat).length ≤ 10 := by rw [List.length_drop]; omega
    generalize l.drop (sp + q).toNat = lz at *
    have e6 : ∀ (h : Hm) (P : MV → Hm → Prop), (binop .add (.str (T (la ++ [c]))) (.str (T lz)) h).ens P = P (.str (T (la ++ [c] ++ lz))) h := fun h P => w_addT (by simp; omega)
    walk_at "run"
    exact f _ h8 (by simp; omega) (B8.le (by omega))
end
end G
end R

namespace R
open PySem
local macro_rules | `(tactic| walk_at "run") => `(tactic| try simp -implicitDefEqProofs only [w_fld, w_setF, w_addTup, w_join0, k_ins, mk_join, mk_start, mk_part, mk_strip, mk_split, mk_extend, mk_append, cmp_le, cmp_lt, w_ivT, w_lenT, w_ixT, w_unp3, s00, sLet, w_eqT, w_neT, w_inC, w_notinC, w_neStrip, w_eqStrip, w_startT, k_T, w_fmt, w_fs, w_fcons, w_fnil, w_con, w_conS, w_callK, w_callO, pickL, pick, w_gcd, w_maxI, w_minI, w_eq2, w_ne2, and_self, if_true, w_scons, w_snil, w_set, w_ret, w_retN, w_if, w_expr, w_setIx, w_pass, w_unp, w_unp2, w_par, w_par2, w_aug, sens_fl, sens_bad, seqP_nx, seqP_ret, retP_ret, retP_nx, ens_ok, ens_bad, ens_bind, w_lit, w_var, w_varS, w_bin, w_neg, negR_int, w_and, w_or, w_not, w_cmp, w_chn, w_ix, w_bi, w_nil, w_cons, w_ife, w_tup, w_lst, w_truB, w_meth, w_call, w_dnew, w_lc, w_ival, w_izip, w_ienum, w_irev, w_irng1, w_irng2, w_slcU, w_slcL, w_slcB, w_cutU, w_cutL, w_cutB, w_for, w_tnil, w_tone, rng1_ens, rng2_ens, forB_nm, forB_two,
  w_at, w_ixr, w_ixl, w_ixf, w_ixt, w_ixd, at_0, at_1, at_2, at_3, at_4, w_setr, set_0, set_1, set_2, set_3, set_4, w_eqI, w_neI, w_ltI, w_leI, w_gtI, w_geI, w_isN, w_noN, w_add, w_sub, w_mul, w_fdiv, w_mod, w_pow, w_lenr, w_lenl, w_lenf, w_lent, w_intI, w_absI, t_bl, t_int, ens_byT, sens_byS, w_neB, w_eqB, w_isi, w_isiT, isi_list, isi_tuple, isi_str, isi_int, isi_bool, isi_lt, k_non, k_bl, k_int, k_str, k_tup, isNon, isSub, String.reduceBEq, Bool.or_false, Bool.false_or, Bool.true_or, Bool.or_true, Bool.and_false, Bool.false_and, Bool.true_and, Bool.and_true, Bool.not_true, Bool.not_false, decide_true, decide_false, Bool.true_eq_false, Bool.false_eq_true, forall_const, false_implies, true_implies, and_true, true_and, 
  List.map_cons, List.map_nil, List.length_cons, List.length_nil, List.replicate, List.cons_append, List.nil_append, List.getElem?_cons_zero, List.getElem?_cons_succ, List.set_cons_zero, List.set_cons_succ, Nat.reduceAdd, Nat.reduceSub, Nat.zero_add, List.getElem?_set_self, List.getElem?_set_ne, List.set_set, List.length_set, *])
def ownS : List Str := [("rule" : Str), ("form" : Str), ("seats" : Str), ("row" : Str), ("num" : Str), ("begin" : Str), ("let" : Str), ("be" : Str), ("if" : Str), ("else" : Str), ("end" : Str), ("each" : Str), ("times" : Str), ("leave" : Str), ("ask" : Str), ("where" : Str), ("tally" : Str), ("sum" : Str), ("weigh" : Str), ("by" : Str), ("seat" : Str), ("tell" : Str), ("lot" : Str), ("votes" : Str), ("names" : Str), ("seated" : Str), ("and" : Str), ("or" : Str), ("not" : Str), ("floor" : Str), ("min" : Str), ("max" : Str), ("top" : Str), ("mark" : Str), ("from" : Str), ("over" : Str)]
theorem Reps.strs {S : List Nat} {h : Hm} : ∀ ss : List Str, Reps S h (ss.map .str) (ss.map .str)
  | [] => .nil
  | s :: ss => .cons (.str s) (Reps.strs ss)
theorem Reps.bls {S : List Nat} {h : Hm} {b : Bool} : ∀ n : Nat, Reps S h (List.replicate n (.bl b)) (List.replicate n (.bl b))
  | 0 => .nil
  | n + 1 => .cons (.bl b) (Reps.bls n)
theorem kind_set {h : Hm} {j : Nat} {xs ys : List MV} (q : h[j]? = some (.list xs)) (v : MV) : kind (h.set j (.list ys)) v = kind h v := by
  cases v with
  | ref k =>
    by_cases e : k = j
    · subst e
      rw [k_list q, k_list (List.getElem?_set_self (List.getElem?_eq_some_iff.mp q).1)]
    · unfold kind
      simp only
      rw [List.getElem?_set_ne (Ne.symm e)]
  | _ => rfl
namespace G
open K2
def atS : Nat → MSs → MS
  | 0, .cons s _ => s
  | n + 1, .cons _ t => atS n t
  | _, .nil => .pass
def bodyS : MS → MSs
  | .for _ _ b => b
  | _ => .nil
def loop2B : MSs := bodyS (atS 2 b_law)
theorem own_names : (ownS.all fun s => nameB s.cps.toList) = true := by decide +kernel
/-- what a number may be asked of -/
def Nm (h : Hm) (v : MV) : Prop := (∃ i, v = .int i) ∨ (∃ k, v = .bl k) ∨ ∃ k, kind h v = some k ∧ isSub k "int" = false ∧ isSub k "bool" = false
section
variable {p : Prog} {n b Z : Nat} {h : Hm} {P : MV → Hm → Prop}
theorem due_ok (D : Defs1 p) {v : MV} {low high : Int} {o2 o4 o5 o6 o9 : Option MV} (k : Nm h v) :
    ∃ B : Bool, (∀ P : MV → Hm → Prop, (evE ⟨p.cons, callN p (n + 5)⟩ (.and (.bi .isinstance (.cons (.var 3) (.cons (.lit (.ty "int")) .nil))) (.and (.not (.bi .isinstance (.cons (.var 3) (.cons (.lit (.ty "bool")) .nil)))) (.and (.cmp .le (.var 7) (.var 3)) (.cmp .le (.var 3) (.var 8))))) [some (.ref 0), some (.ref b), o2, some v, o4, o5, o6, some (.int low), some (.int high), o9] h).ens P = P (.bl B) h) ∧
      ∀ P : MV → Hm → Prop, (callN p (n + 5) "is_number" [v, .int low, .int high] h).ens P = P (.bl B) h := by
  rcases k with ⟨i, rfl⟩ | ⟨k, rfl⟩ | ⟨k, hk, h1, h2⟩
  · refine ⟨decide (low ≤ i) && decide (i ≤ high), fun P => ens_eq ?_ P, number_int (n := n + 4) D h⟩
    generalize hB1 : decide (low ≤ i) = B1 at *
    cases B1 with
    | true => walk_at "run"
    | false => walk_at "run"
  · refine ⟨false, fun P => ens_eq ?_ P, number_bl (n := n + 4) D h⟩
    walk_at "run"
  · refine ⟨false, fun P => ens_eq ?_ P, number_non (n := n + 4) D hk h2 h1⟩
    have h1 : ∀ P : MV → Hm → Prop, (isiO (some k) "int" h).ens P = P (.bl false) h := fun P => by rw [isi_int, h1]
    walk_at "run"
theorem loop1 (D : Defs1 p) (B : Bag b Z h) (hZ : Z < 10 ^ 20) (o2 o3 o4 o5 o6 o7 o8 o9 : Option MV) :
    (evS ⟨p.cons, callN p (n + 6)⟩ (atS 1 b_law) [some (.ref 0), some (.ref b), o2, o3, o4, o5, o6, o7, o8, o9] h).ens fun fl h' => ∃ o2 o3 o4 o5 o6 o7 o8 o9 : Option MV, fl = .nx [some (.ref 0), some (.ref b), o2, o3, o4, o5, o6, o7, o8, o9] ∧ Bag b (Z + 2000) h' := by
  have k2 : 2 ≤ sizeLine := by rw [sizeLine_eq]; omega
  show (evS _ (.for (.nm 2) (.rng1 _) _) _ _).ens _
  walk_at "run"
  refine ⟨by decide, ?_⟩
  refine for_inv (rngL 0 12) (fun k sm h' => ∃ o2 o3 o4 o5 o6 o7 o8 o9 : Option MV, sm = [some (.ref 0), some (.ref b), o2, o3, o4, o5, o6, o7, o8, o9] ∧ Bag b (Z + 100 * k) h') itI_rng (fun _ _ _ _ => itI_rng) (fun k x sm h' hx i => ?_) (fun sm h' i => ?_) ⟨o2, o3, o4, o5, o6, o7, o8, o9, rfl, B⟩
  · obtain ⟨o2, o3, o4, o5, o6, o7, o8, o9, rfl, B1⟩ := i
    have hk : k < 12 := by have := (List.getElem?_eq_some_iff.mp hx).1; rwa [rngL_length] at this
    have lk : ∀ (B : Bool) (h : Hm) (j1 j2 : Nat) (P : MV → Hm → Prop), items h (.ref j1) = some [.bl B, .bl B] → items h (.ref j2) = some [.bl B, .bl B] → (∀ h', Ex h h' → P (.bl true) h') → (callN p (n + 6) "_law_like" [.ref j1, .ref j2] h).ens P := fun B h j1 j2 P i1 i2 f =>
      like_c D.like (.lst [.bl B, .bl B]) (by simp [Dt.deep, deeps]) (by simp [Dt.wide, wides]) (.lst (by simp) i1 (.cons (.bl _) (.cons (.bl _) .nil))) (.lst (by simp) i2 (.cons (.bl _) (.cons (.bl _) .nil))) f
    -- behind the thing
    have rest : ∀ (v : MV) (B : Bool) (Z' : Nat) (h1 : Hm), Z' ≤ Z + 100 * (k + 1) → Bag b Z' h1 → (∀ P : MV → Hm → Prop, (callN p (n + 6) "_law_named" [v] h1).ens P = P (.bl B) h1) → (∀ P : MV → Hm → Prop, (callN p (n + 6) "is_name" [v] h1).ens P = P (.bl B) h1) →
        (evSs ⟨p.cons, callN p (n + 6)⟩ (dropS 1 (bodyS (atS 1 b_law))) [some (.ref 0), some (.ref b), some x, some v, o4, o5, o6, o7, o8, o9] h1).ens fun fl h' => ∃ o2 o3 o4 o5 o6 o7 o8 o9 : Option MV, fl = .nx [some (.ref 0), some (.ref b), o2, o3, o4, o5, o6, o7, o8, o9] ∧ Bag b (Z + 100 * (k + 1)) h' := by
      intro v B Z' h1 hz B1 e1 e2
      show (evSs _ (.cons _ (.cons _ .nil)) _ _).ens _
      walk_at "run"
      refine newL_of fun j1 h2 x2 i2 l2 => ?_
      walk_at "run"
      refine newL_of fun j2 h3 x3 i3 l3 => ?_
      refine lk B _ _ _ _ (x3.items i2) i3 fun h4 x4 => ?_
      have B4 := (((B1.ex x2).ex x3).ex x4).le hz
      walk_at "run"
      exact ⟨_, _, _, _, _, _, _, _, rfl⟩
    show (evSs _ (.cons (.set 3 _) (dropS 1 (bodyS (atS 1 b_law)))) [some (.ref 0), some (.ref b), some x, o3, o4, o5, o6, o7, o8, o9] _).ens _
    generalize dropS 1 (bodyS (atS 1 b_law)) = TT at *
    rw [w_scons]
    walk_at "run"
    refine draw_c (n := n + 5) D.draw B1 (by omega) (by decide) (by decide) fun r h1 r0 r1 B2 fr2 => ?_
    walk_at "run"
    refine ⟨fun _ => ?_, fun _ => ?_⟩
    · refine string_ok (n := n + 2) D B2 (by omega) fun l h2 hl B3 => ?_
      walk_at "run"
      exact (rest _ (nameB l) _ h2 (by omega) B3 (named_ok (n := n + 5) D (by omega) h2) (name_ok (n := n + 5) D (by omega) h2)).mono fun fl h' q => by
        obtain ⟨_, _, _, _, _, _, _, _, rfl, B⟩ := q
        exact ⟨_, _, _, _, _, _, _, _, rfl, B⟩
    · refine odd_ok (n := n + 3) D B2 (by omega) fun v h2 od B3 fr3 => ?_
      have kd : ∃ k, kind h2 v = some k ∧ isSub k "str" = false := by
        rcases od with ⟨k, rfl⟩ | ⟨k, h1, h2, _⟩
        · exact ⟨"bool", rfl, by decide⟩
        · exact ⟨k, h1, h2⟩
      obtain ⟨kk, k1, k2'⟩ := kd
      have en := fun P => named_non (n := n + 5) D k1 k2' P
      have em := fun P => name_non (n := n + 5) D k1 k2' P
      clear k1
      walk_at "run"
      exact (rest _ false _ h2 (by omega) B3 en em).mono fun fl h' q => by
        obtain ⟨_, _, _, _, _, _, _, _, rfl, B⟩ := q
        exact ⟨_, _, _, _, _, _, _, _, rfl, B⟩
  · obtain ⟨o2, o3, o4, o5, o6, o7, o8, o9, rfl, B1⟩ := i
    rw [rngL_length] at B1
    exact ⟨o2, o3, o4, o5, o6, o7, o8, o9, rfl, B1.le (by omega)⟩
end
end G
end R

namespace R
open PySem
local macro_rules | `(tactic| walk_at "run") => `(tactic| try simp -implicitDefEqProofs only [w_fld, w_setF, w_addTup, w_join0, k_ins, mk_join, mk_start, mk_part, mk_strip, mk_split, mk_extend, mk_append, cmp_le, cmp_lt, w_ivT, w_lenT, w_ixT, w_unp3, s00, sLet, w_eqT, w_neT, w_inC, w_notinC, w_neStrip, w_eqStrip, w_startT, k_T, w_fmt, w_fs, w_fcons, w_fnil, w_con, w_conS, w_callK, w_callO, pickL, pick, w_gcd, w_maxI, w_minI, w_eq2, w_ne2, and_self, if_true, w_scons, w_snil, w_set, w_ret, w_retN, w_if, w_expr, w_setIx, w_pass, w_unp, w_unp2, w_par, w_par2, w_aug, sens_fl, sens_bad, seqP_nx, seqP_ret, retP_ret, retP_nx, ens_ok, ens_bad, ens_bind, w_lit, w_var, w_varS, w_bin, w_neg, negR_int, w_and, w_or, w_not, w_cmp, w_chn, w_ix, w_bi, w_nil, w_cons, w_ife, w_tup, w_lst, w_truB, w_meth, w_call, w_dnew, w_lc, w_ival, w_izip, w_ienum, w_irev, w_irng1, w_irng2, w_slcU, w_slcL, w_slcB, w_cutU, w_cutL, w_cutB, w_for, w_tnil, w_tone, rng1_ens, rng2_ens, forB_nm, forB_two,
  w_at, w_ixr, w_ixl, w_ixf, w_ixt, w_ixd, at_0, at_1, at_2, at_3, at_4, w_setr, set_0, set_1, set_2, set_3, set_4, w_eqI, w_neI, w_ltI, w_leI, w_gtI, w_geI, w_isN, w_noN, w_add, w_sub, w_mul, w_fdiv, w_mod, w_pow, w_lenr, w_lenl, w_lenf, w_lent, w_intI, w_absI, t_bl, t_int, ens_byT, sens_byS, w_neB, w_eqB, w_isi, w_isiT, isi_list, isi_tuple, isi_str, isi_int, isi_bool, isi_lt, k_non, k_bl, k_int, k_str, k_tup, isNon, isSub, String.reduceBEq, Bool.or_false, Bool.false_or, Bool.true_or, Bool.or_true, Bool.and_false, Bool.false_and, Bool.true_and, Bool.and_true, Bool.not_true, Bool.not_false, decide_true, decide_false, Bool.true_eq_false, Bool.false_eq_true, forall_const, false_implies, true_implies, and_true, true_and, 
  List.map_cons, List.map_nil, List.length_cons, List.length_nil, List.replicate, List.cons_append, List.nil_append, List.getElem?_cons_zero, List.getElem?_cons_succ, List.set_cons_zero, List.set_cons_succ, Nat.reduceAdd, Nat.reduceSub, Nat.zero_add, List.getElem?_set_self, List.getElem?_set_ne, List.set_set, List.length_set, *])
namespace G
open K2
structure Hid (p : Prop) : Prop where
  out : p
section
variable {p : Prog} {n b Z : Nat} {h : Hm} {P : MV → Hm → Prop}
theorem kind_fr {Z Z' : Nat} {h h' : Hm} {v : MV} {k : String} (B : Bag b Z h) (B' : Bag b Z' h') (f : Fr [b] h h') (q : kind h v = some k) : kind h' v = some k := by
  cases v with
  | ref i =>
    by_cases e : i = b
    · subst e
      obtain ⟨_, _, _, _, _, _, hb, _⟩ := B
      obtain ⟨_, _, _, _, _, _, hb', _⟩ := B'
      rw [k_list hb] at q
      rw [k_list hb', q]
    · cases ho : h[i]? with
      | none => unfold kind at q; simp only [ho] at q; cases q
      | some o =>
        have ho' := f.at ho (ne_sing e)
        unfold kind at q ⊢
        simp only [ho] at q
        simp only [ho']
        exact q
  | _ => exact q
theorem loop2_rest (D : Defs1 p) {x : MV} {o3 o4 o5 o6 o9 : Option MV} {low high : Int} (sl : Sz 200 low) (sh : Sz 200 high) (B : Bag b Z h) (hZ : Z < 10 ^ 21) :
    (evSs ⟨p.cons, callN p (n + 6)⟩ (dropS 2 loop2B) [some (.ref 0), some (.ref b), some x, o3, o4, o5, o6, some (.int low), some (.int high), o9] h).ens fun fl h' => ∃ o2 o3 o4 o5 o6 o7 o8 o9 : Option MV, fl = .nx [some (.ref 0), some (.ref b), o2, o3, o4, o5, o6, o7, o8, o9] ∧ Bag b (Z + 40) h' := by
  have k1 : 1 ≤ sizeLine := by rw [sizeLine_eq]; omega
  have k2 : 2 ≤ sizeLine := by rw [sizeLine_eq]; omega
  have k10 : 10 ≤ sizeLine := by rw [sizeLine_eq]; omega
  have f1 : ∀ (h : Hm) (P : MV → Hm → Prop), (bi .str [.int low] h).ens P = P (.str (T (if low < 0 then 45 :: TL.numL low.natAbs else TL.numL low.natAbs))) h := fun h P => w_strI (Nat.lt_trans (sl.log (by decide)) (by decide))
  generalize (if low < 0 then 45 :: TL.numL low.natAbs else TL.numL low.natAbs) = tl at *
  have lk : ∀ (B : Bool) (h : Hm) (j1 j2 : Nat) (P : MV → Hm → Prop), items h (.ref j1) = some [.bl B, .bl B] → items h (.ref j2) = some [.bl B, .bl B] → (∀ h', Ex h h' → P (.bl true) h') → (callN p (n + 6) "_law_like" [.ref j1, .ref j2] h).ens P := fun B h j1 j2 P i1 i2 f =>
    like_c D.like (.lst [.bl B, .bl B]) (by simp [Dt.deep, deeps]) (by simp [Dt.wide, wides]) (.lst (by simp) i1 (.cons (.bl _) (.cons (.bl _) .nil))) (.lst (by simp) i2 (.cons (.bl _) (.cons (.bl _) .nil))) f
  -- behind the thing
  have rest : ∀ (v : MV) (o5 : Option MV) (Z' : Nat) (h1 : Hm), Z' ≤ Z + 40 → Bag b Z' h1 → Nm h1 v →
      (evSs ⟨p.cons, callN p (n + 6)⟩ (dropS 5 loop2B) [some (.ref 0), some (.ref b), some x, some v, o4, o5, o6, some (.int low), some (.int high), o9] h1).ens fun fl h' => ∃ o2 o3 o4 o5 o6 o7 o8 o9 : Option MV, fl = .nx [some (.ref 0), some (.ref b), o2, o3, o4, o5, o6, o7, o8, o9] ∧ Bag b (Z + 40) h' := by
    intro v o5 Z' h1 hz B1 nm
    obtain ⟨B, e1, e2⟩ := due_ok (n := n + 1) (b := b) (o2 := some x) (o4 := o4) (o5 := o5) (o6 := o6) (o9 := o9) (low := low) (high := high) D nm
    show (evSs _ (.cons (.set 4 _) (.cons _ (.cons _ .nil))) _ _).ens _
    rw [w_scons, w_set, e1]
    clear e1
    walk_at "run"
    refine newL_of fun j1 h2 x2 i2 l2 => ?_
    walk_at "run"
    refine newL_of fun j2 h3 x3 i3 l3 => ?_
    refine lk B _ _ _ _ (x3.items i2) i3 fun h4 x4 => ?_
    have B4 := (((B1.ex x2).ex x3).ex x4).le hz
    walk_at "run"
    exact ⟨_, _, _, _, _, _, _, _, rfl⟩
  show (evSs _ (.cons (.set 5 _) (.cons (.expr _) (.cons (.set 3 _) (dropS 5 loop2B)))) _ _).ens _
  generalize dropS 5 loop2B = TT at *
  rw [w_scons]
  walk_at "run"
  refine ⟨⟨by decide, by decide⟩, fun q1 eq1 => ?_⟩
  clear eq1
  refine amount_ok (n := n + 3) D B (by omega) fun am h1 sa B1 fr1 => ?_
  walk_at "run"
  refine newE_of fun j h2 x2 i2 l2 => ?_
  have lb := B1.lt
  have kl := k_list i2
  walk_at "run"
  refine odd_ok (n := n + 3) D (B1.ex x2) (by omega) fun v h3 od B3 fr3 => ?_
  have i3 := fr3.at i2 (ne_sing (by omega))
  rw [w_append i3 (by rw [sizeLine_eq]; simp)]
  walk_at "run"
  have jl := (List.getElem?_eq_some_iff.mp i3).1
  have ks := kind_set (ys := [.int low, .int high, .int (low - 1), .int (high + 1), .int q1, .int 0, .int 1, .int am, .str (T tl), .tup [.int low]] ++ [v]) i3
  have i4 : (h3.set j (.list ([.int low, .int high, .int (low - 1), .int (high + 1), .int q1, .int 0, .int 1, .int am, .str (T tl), .tup [.int low]] ++ [v])))[j]? = some (.list ([.int low, .int high, .int (low - 1), .int (high + 1), .int q1, .int 0, .int 1, .int am, .str (T tl), .tup [.int low]] ++ [v])) := List.getElem?_set_self jl
  have B4 : Bag b (Z + 10 + 1) (h3.set j (.list ([.int low, .int high, .int (low - 1), .int (high + 1), .int q1, .int 0, .int 1, .int am, .str (T tl), .tup [.int low]] ++ [v]))) := B3.set (by omega)
  have od4 : Nm (h3.set j (.list ([.int low, .int high, .int (low - 1), .int (high + 1), .int q1, .int 0, .int 1, .int am, .str (T tl), .tup [.int low]] ++ [v]))) v := by
    rcases od with ⟨k, rfl⟩ | ⟨k, a1, a2, a3, a4⟩
    · exact .inr (.inl ⟨k, rfl⟩)
    · exact .inr (.inr ⟨k, by rw [ks]; exact a1, a3, a4⟩)
  clear ks
  simp only [List.cons_append, List.nil_append] at i4 B4 od4
  generalize List.set h3 j (.list [.int low, .int high, .int (low - 1), .int (high + 1), .int q1, .int 0, .int 1, .int am, .str (T tl), .tup [.int low], v]) = h4 at *
  have i4' := items_lst i4
  walk_at "run"
  refine draw_c (n := n + 5) (Z := Z + 10 + 1) D.draw B4 (by omega) (by simp) (by simp) fun r h5 r0 r1 B5 fr5 => ?_
  have i5 := fr5.items i4' (fun k e => by cases e; exact ne_sing (by omega))
  refine ix_mem i5 r0 (by simpa using r1) fun y hy => ?_
  have ny : Nm h5 y := by
    simp only [List.mem_cons, List.not_mem_nil, or_false] at hy
    rcases hy with rfl | rfl | rfl | rfl | rfl | rfl | rfl | rfl | rfl | rfl | rfl
    · exact .inl ⟨_, rfl⟩
    · exact .inl ⟨_, rfl⟩
    · exact .inl ⟨_, rfl⟩
    · exact .inl ⟨_, rfl⟩
    · exact .inl ⟨_, rfl⟩
    · exact .inl ⟨_, rfl⟩
    · exact .inl ⟨_, rfl⟩
    · exact .inl ⟨_, rfl⟩
    · exact .inr (.inr ⟨"str", rfl, by decide, by decide⟩)
    · exact .inr (.inr ⟨"tuple", rfl, by decide, by decide⟩)
    · rcases od4 with ⟨i, rfl⟩ | ⟨k, rfl⟩ | ⟨k, a1, a2, a3⟩
      · exact .inl ⟨i, rfl⟩
      · exact .inr (.inl ⟨k, rfl⟩)
      · exact .inr (.inr ⟨k, kind_fr B4 B5 fr5 a1, a2, a3⟩)
  walk_at "run"
  exact (rest y _ _ h5 (by omega) B5 ny).mono fun fl h' q => by
    obtain ⟨_, _, _, _, _, _, _, _, rfl, B⟩ := q
    exact ⟨_, _, _, _, _, _, _, _, rfl, B⟩
theorem loop2 (D : Defs1 p) (B : Bag b Z h) (hZ : Z < 10 ^ 20) (o2 o3 o4 o5 o6 o7 o8 o9 : Option MV) :
    (evS ⟨p.cons, callN p (n + 6)⟩ (atS 2 b_law) [some (.ref 0), some (.ref b), o2, o3, o4, o5, o6, o7, o8, o9] h).ens fun fl h' => ∃ o2 o3 o4 o5 o6 o7 o8 o9 : Option MV, fl = .nx [some (.ref 0), some (.ref b), o2, o3, o4, o5, o6, o7, o8, o9] ∧ Bag b (Z + 2000) h' := by
  show (evS _ (.for (.nm 2) (.rng1 _) loop2B) _ _).ens _
  have R := fun {Z h x o3 o4 o5 o6 o9 low high} => loop2_rest (p := p) (n := n) (b := b) (Z := Z) (h := h) D (x := x) (o3 := o3) (o4 := o4) (o5 := o5) (o6 := o6) (o9 := o9) (low := low) (high := high)
  walk_at "run"
  refine ⟨by decide, ?_⟩
  refine for_inv (rngL 0 12) (fun k sm h' => ∃ o2 o3 o4 o5 o6 o7 o8 o9 : Option MV, sm = [some (.ref 0), some (.ref b), o2, o3, o4, o5, o6, o7, o8, o9] ∧ Bag b (Z + 100 * k) h') itI_rng (fun _ _ _ _ => itI_rng) (fun k x sm h' hx i => ?_) (fun sm h' i => ?_) ⟨o2, o3, o4, o5, o6, o7, o8, o9, rfl, B⟩
  · obtain ⟨o2, o3, o4, o5, o6, o7, o8, o9, rfl, B1⟩ := i
    have hk : k < 12 := by have := (List.getElem?_eq_some_iff.mp hx).1; rwa [rngL_length] at this
    show (evSs _ (.cons (.par 7 8 _) (.cons (.ife _ _ .nil) (dropS 2 loop2B))) [some (.ref 0), some (.ref b), some x, o3, o4, o5, o6, o7, o8, o9] _).ens _
    generalize dropS 2 loop2B = TT at *
    rw [w_scons]
    walk_at "run"
    refine amount_ok (n := n + 3) D B1 (by omega) fun u h2 su B2 fr2 => ?_
    refine amount_ok (n := n + 3) D B2 (by omega) fun v h3 sv B3 fr3 => ?_
    walk_at "run"
    refine draw_c (n := n + 5) D.draw B3 (by omega) (by decide) (by decide) fun r h4 r0 r1 B4 fr4 => ?_
    have s1 : Sz 200 (if v < u then v else u) := by split; exact sv; exact su
    have s2 : Sz 200 (if u < v then v else u) := by split; exact sv; exact su
    walk_at "run"
    refine ⟨fun _ => ?_, fun _ => ?_⟩
    · exact (R s1 s2 B4 (by omega)).mono fun fl h' q => by
        obtain ⟨_, _, _, _, _, _, _, _, rfl, B⟩ := q
        exact ⟨_, _, _, _, _, _, _, _, rfl, B.le (by omega)⟩
    · exact (R su sv B4 (by omega)).mono fun fl h' q => by
        obtain ⟨_, _, _, _, _, _, _, _, rfl, B⟩ := q
        exact ⟨_, _, _, _, _, _, _, _, rfl, B.le (by omega)⟩
  · obtain ⟨o2, o3, o4, o5, o6, o7, o8, o9, rfl, B1⟩ := i
    rw [rngL_length] at B1
    exact ⟨o2, o3, o4, o5, o6, o7, o8, o9, rfl, B1.le (by omega)⟩
theorem listed_ok (D : Defs1 p) (h : Hm) (P : MV → Hm → Prop) : (callN p (n + 1) "_law_listed" [] h).ens P = P (.tup (ownS.map .str)) h := by
  have k13 : 13 ≤ sizeLine := by rw [sizeLine_eq]; omega
  have k26 : 26 ≤ sizeLine := by rw [sizeLine_eq]; omega
  have k36 : 36 ≤ sizeLine := by rw [sizeLine_eq]; omega
  have k10 : 10 ≤ sizeLine := by rw [sizeLine_eq]; omega
  refine ens_eq (callN_ens D.listed rfl ?_) P
  unfold b_law_listed
  walk_at "run"
  rfl
end
end G
end R

namespace R
open PySem
local macro_rules | `(tactic| walk_at "run") => `(tactic| try simp -implicitDefEqProofs only [w_fld, w_setF, w_addTup, w_join0, k_ins, mk_join, mk_start, mk_part, mk_strip, mk_split, mk_extend, mk_append, cmp_le, cmp_lt, w_ivT, w_lenT, w_ixT, w_unp3, s00, sLet, w_eqT, w_neT, w_inC, w_notinC, w_neStrip, w_eqStrip, w_startT, k_T, w_fmt, w_fs, w_fcons, w_fnil, w_con, w_conS, w_callK, w_callO, pickL, pick, w_gcd, w_maxI, w_minI, w_eq2, w_ne2, and_self, if_true, w_scons, w_snil, w_set, w_ret, w_retN, w_if, w_expr, w_setIx, w_pass, w_unp, w_unp2, w_par, w_par2, w_aug, sens_fl, sens_bad, seqP_nx, seqP_ret, retP_ret, retP_nx, ens_ok, ens_bad, ens_bind, w_lit, w_var, w_varS, w_bin, w_neg, negR_int, w_and, w_or, w_not, w_cmp, w_chn, w_ix, w_bi, w_nil, w_cons, w_ife, w_tup, w_lst, w_truB, w_meth, w_call, w_dnew, w_lc, w_ival, w_izip, w_ienum, w_irev, w_irng1, w_irng2, w_slcU, w_slcL, w_slcB, w_cutU, w_cutL, w_cutB, w_for, w_tnil, w_tone, rng1_ens, rng2_ens, forB_nm, forB_two,
  w_at, w_ixr, w_ixl, w_ixf, w_ixt, w_ixd, at_0, at_1, at_2, at_3, at_4, w_setr, set_0, set_1, set_2, set_3, set_4, w_eqI, w_neI, w_ltI, w_leI, w_gtI, w_geI, w_isN, w_noN, w_add, w_sub, w_mul, w_fdiv, w_mod, w_pow, w_lenr, w_lenl, w_lenf, w_lent, w_intI, w_absI, t_bl, t_int, ens_byT, sens_byS, w_neB, w_eqB, w_isi, w_isiT, isi_list, isi_tuple, isi_str, isi_int, isi_bool, isi_lt, k_non, k_bl, k_int, k_str, k_tup, isNon, isSub, String.reduceBEq, Bool.or_false, Bool.false_or, Bool.true_or, Bool.or_true, Bool.and_false, Bool.false_and, Bool.true_and, Bool.and_true, Bool.not_true, Bool.not_false, decide_true, decide_false, Bool.true_eq_false, Bool.false_eq_true, forall_const, false_implies, true_implies, and_true, true_and, 
  List.map_cons, List.map_nil, List.length_cons, List.length_nil, List.replicate, List.cons_append, List.nil_append, List.getElem?_cons_zero, List.getElem?_cons_succ, List.set_cons_zero, List.set_cons_succ, Nat.reduceAdd, Nat.reduceSub, Nat.zero_add, List.getElem?_set_self, List.getElem?_set_ne, List.set_set, List.length_set, *])
namespace G
open K2
theorem defs1 : Defs1 prog := ⟨rfl, rfl, rfl, rfl, rfl, rfl, rfl, rfl, rfl, rfl, rfl, rfl, rfl, rfl, rfl, rfl, by rw [← sLet]; rfl⟩
section
variable {p : Prog} {n b Z : Nat} {h : Hm} {P : MV → Hm → Prop}
theorem own_name (D : Defs1 p) {s : Str} (hs : s ∈ ownS) (h : Hm) (P : MV → Hm → Prop) : (callN p (n + 1) "is_name" [.str s] h).ens P = P (.bl true) h := by
  have nb : nameB s.cps.toList = true := List.all_eq_true.mp own_names s hs
  have hl : s.cps.toList.length ≤ 10000 := by
    unfold nameB at nb
    rw [Bool.and_eq_true, Bool.and_eq_true] at nb
    have := of_decide_eq_true nb.1.2
    omega
  have := name_ok (n := n) D hl h P
  rw [T_of, nb] at this
  exact this
theorem own_all (D : Defs1 p) (own : p.cons "OWN" = some (.tup (ownS.map .str))) {o0 o1 o2 o3 o4 o5 o6 o7 o8 : Option MV} {o9 : Option MV} (h : Hm) (P : MV → Hm → Prop) (f : ∀ j h', Ex h h' → items h' (.ref j) = some (List.replicate 36 (.bl true)) → P (.ref j) h') :
    (evE ⟨p.cons, callN p (n + 6)⟩ (.lc (.call "is_name" (.cons (.var 9) .nil) []) (.nm 9) (.val (.con "OWN")) .nil [9]) [o0, o1, o2, o3, o4, o5, o6, o7, o8, o9] h).ens P := by
  rw [w_lc, w_ival, w_con]
  show (conR (p.cons "OWN") h).ens _
  rw [own, w_conS, w_val (items_tup (h := h) (xs := ownS.map .str))]
  refine lc_pure (ownS.map .str) (fun _ => some (.bl true)) (itI_src items_tup) (by rw [List.length_map, sizeLine_eq]; decide) (fun y hy acc => ?_) ?_
  · obtain ⟨s, hs, rfl⟩ := List.mem_map.mp hy
    refine lcStep_ens (sm' := [o0, o1, o2, o3, o4, o5, o6, o7, o8, some (.str s)]) rfl ?_
    have e := fun h P => own_name (n := n + 5) D hs h P
    walk_at "run"
  · have e : ((ownS.map MV.str).filterMap fun _ => some (MV.bl true)) = List.replicate 36 (.bl true) := rfl
    rw [e]
    exact newL_of fun j h' x i _ => f j h' x i
theorem law_ok (D : Defs1 p) (own : p.cons "OWN" = some (.tup (ownS.map .str))) {ns : List Int} (hl : ns.length ≤ 63) : (callN p (n + 7) "law" [.ref 0] [.frz (ns.map .int)]).ens fun v _ => v = .bl true := by
  have k1 : 1 ≤ sizeLine := by rw [sizeLine_eq]; omega
  have k3 : 3 ≤ sizeLine := by rw [sizeLine_eq]; omega
  refine callN_ens D.law rfl ?_
  show (evSs _ (.cons _ (.cons (atS 1 b_law) (.cons (atS 2 b_law) (.cons _ (.cons _ (.cons (.ret (.call "_law_like" (.cons (.lc (.call "is_name" (.cons (.var 9) .nil) []) (.nm 9) (.val (.con "OWN")) .nil [9]) _) [])) .nil)))))) _ _).ens _
  have L1 := fun b Z h B hZ o2 o3 o4 o5 o6 o7 o8 o9 => loop1 (p := p) (n := n) (b := b) (Z := Z) (h := h) D B hZ o2 o3 o4 o5 o6 o7 o8 o9
  have L2 := fun b Z h B hZ o2 o3 o4 o5 o6 o7 o8 o9 => loop2 (p := p) (n := n) (b := b) (Z := Z) (h := h) D B hZ o2 o3 o4 o5 o6 o7 o8 o9
  have OA := fun {o0 o1 o2 o3 o4 o5 o6 o7 o8 o9 : Option MV} => own_all (p := p) (n := n) D own (o0 := o0) (o1 := o1) (o2 := o2) (o3 := o3) (o4 := o4) (o5 := o5) (o6 := o6) (o7 := o7) (o8 := o8) (o9 := o9)
  generalize ME.lc (.call "is_name" (.cons (.var 9) .nil) []) (.nm 9) (.val (.con "OWN")) .nil [9] = LC at *
  generalize atS 1 b_law = S1 at *
  generalize atS 2 b_law = S2 at *
  rw [w_scons]
  walk_at "run"
  refine (bag_ok (n := n + 5) D.bag rfl hl).mono fun v h1 q => ?_
  obtain ⟨b, rfl, lb, B1, x1⟩ := q
  walk_at "run"
  refine (L1 b _ h1 B1 (by decide) _ _ _ _ _ _ _ _).mono fun fl h3 q => ?_
  obtain ⟨o2, o3, o4, o5, o6, o7, o8, o9, rfl, B3⟩ := q
  walk_at "run"
  refine (L2 b _ h3 B3 (by decide) _ _ _ _ _ _ _ _).mono fun fl h4 q => ?_
  obtain ⟨o2, o3, o4, o5, o6, o7, o8, o9, rfl, B4⟩ := q
  have n1 : ∀ (h : Hm) (P : MV → Hm → Prop), (callN p (n + 6) "is_number" [.bl true, .int 0, .int 1] h).ens P = P (.bl false) h := fun h P => number_bl (n := n + 5) D h P
  have n2 : ∀ (h : Hm) (P : MV → Hm → Prop), (callN p (n + 6) "is_number" [.int 1, .int 1, .int 1] h).ens P = P (.bl true) h := fun h P => number_int (n := n + 5) D h P
  have n3 : ∀ (h : Hm) (P : MV → Hm → Prop), (callN p (n + 6) "is_number" [.bl false, .int 0, .int 0] h).ens P = P (.bl false) h := fun h P => number_bl (n := n + 5) D h P
  have ls : ∀ (h : Hm) (P : MV → Hm → Prop), (callN p (n + 6) "_law_listed" [] h).ens P = P (.tup (ownS.map .str)) h := listed_ok (n := n + 5) D
  clear L1 L2
  walk_at "run"
  refine newL_of fun j1 h5 x5 i5 l5 => ?_
  walk_at "run"
  refine newL_of fun j2 h6 x6 i6 l6 => ?_
  have i5' := x6.items i5
  refine like_c D.like (.lst [.bl false, .bl true, .bl false]) (by simp [Dt.deep, deeps]) (by simp [Dt.wide, wides]) (.lst (by simp) i5' (.cons (.bl _) (.cons (.bl _) (.cons (.bl _) .nil)))) (.lst (by simp) i6 (.cons (.bl _) (.cons (.bl _) (.cons (.bl _) .nil)))) fun h7 x7 => ?_
  have dd : (Dt.tup (ownS.map Dt.str)).deep ≤ n + 6 := Nat.le_trans (m := 2) (by decide +kernel) (by omega)
  have dw' : (Dt.tup (ownS.map Dt.str)).wide < 100 := by decide +kernel
  have rr : ∀ h : Hm, Rep [] h (.tup (ownS.map Dt.str)) (.tup (ownS.map MV.str)) := fun h => .tup (Reps.strs _)
  generalize hO : MV.tup (ownS.map MV.str) = OW at *
  walk_at "run"
  refine like_c D.like _ dd dw' (rr _) (rr _) fun h8 x8 => ?_
  walk_at "run"
  refine OA _ _ fun j3 h9 x9 i9 => ?_
  walk_at "run"
  refine newE_of fun j4 h10 x10 i10 l10 => ?_
  rw [w_mulL i10 (by simp)]
  refine newL_of fun j5 h11 x11 i11 l11 => ?_
  have i9' := (x10.trans x11).items i9
  refine like_c D.like (.lst (List.replicate 36 (.bl true))) (Nat.le_trans (m := 2) (by decide +kernel) (by omega)) (by decide +kernel) (.lst (by simp) i9' (Reps.bls 36)) (.lst (by simp) i11 (Reps.bls 36)) fun h12 x12 => ?_
  walk_at "run"
end
theorem spec (ns : List Int) (h : ns.length ≤ 63) : ∃ h', callN prog 16 "law" [.ref 0] [.frz (ns.map .int)] = .ok (.bl true) h' := by
  obtain ⟨v, h', e, r⟩ := (law_ok (n := 9) defs1 rfl h).get
  exact ⟨h', by rw [e, r]⟩
end G
end R

namespace R.G
open PySem R
def top (i : Nat) : Stmt := PySem.Challenge.pw_soleheld_k01_words_judged.main.body.getD i (.Pass ⟨0, 0, 0, 0⟩)
abbrev st_is_name : Stmt := top 5
abbrev st_is_number : Stmt := top 6
abbrev st_law_bag : Stmt := top 21
abbrev st_law_draw : Stmt := top 22
abbrev st_law_of : Stmt := top 23
abbrev st_law_like : Stmt := top 24
abbrev st_law_listed : Stmt := top 25
abbrev st_law_odd : Stmt := top 26
abbrev st_law_string : Stmt := top 27
abbrev st_law_named : Stmt := top 28
abbrev st_law_amount : Stmt := top 29
abbrev st_law : Stmt := top 30
abbrev st_One___init__ : Stmt := (cBody (top 19)).getD 0 (.Pass ⟨0, 0, 0, 0⟩)
def N_is_name : List Str := ["value", "sign"]
theorem sc_is_name : L2.FnScope N_is_name ["value"] (L2.defScope st_is_name) := ⟨rfl, rfl, rfl, by decide +kernel, rfl, by decide +kernel, by decide +kernel⟩
theorem tr_is_name : trSs 60 ⟨pg, N_is_name, L2.defScope st_is_name, fun _ => true⟩ (L2.defBody st_is_name) = some b_is_name := by kernel_rfl
def N_is_number : List Str := ["value", "least", "most"]
theorem sc_is_number : L2.FnScope N_is_number ["value", "least", "most"] (L2.defScope st_is_number) := ⟨rfl, rfl, rfl, by decide +kernel, rfl, by decide +kernel, by decide +kernel⟩
theorem tr_is_number : trSs 60 ⟨pg, N_is_number, L2.defScope st_is_number, fun _ => true⟩ (L2.defBody st_is_number) = some b_is_number := by kernel_rfl
def N_law_bag : List Str := ["script", "mixed", "piece"]
theorem sc_law_bag : L2.FnScope N_law_bag ["script"] (L2.defScope st_law_bag) := ⟨rfl, rfl, rfl, by decide +kernel, rfl, by decide +kernel, by decide +kernel⟩
theorem tr_law_bag : trSs 60 ⟨pg, N_law_bag, L2.defScope st_law_bag, fun _ => true⟩ (L2.defBody st_law_bag) = some b_law_bag := by kernel_rfl
def N_law_draw : List Str := ["bag", "size", "piece", "digit"]
theorem sc_law_draw : L2.FnScope N_law_draw ["bag", "size"] (L2.defScope st_law_draw) := ⟨rfl, rfl, rfl, by decide +kernel, rfl, by decide +kernel, by decide +kernel⟩
theorem tr_law_draw : trSs 60 ⟨pg, N_law_draw, L2.defScope st_law_draw, fun _ => true⟩ (L2.defBody st_law_draw) = some b_law_draw := by kernel_rfl
def N_law_of : List Str := ["bag", "things"]
theorem sc_law_of : L2.FnScope N_law_of ["bag", "things"] (L2.defScope st_law_of) := ⟨rfl, rfl, rfl, by decide +kernel, rfl, by decide +kernel, by decide +kernel⟩
theorem tr_law_of : trSs 60 ⟨pg, N_law_of, L2.defScope st_law_of, fun _ => true⟩ (L2.defBody st_law_of) = some b_law_of := by kernel_rfl
def N_law_like : List Str := ["told_v", "due", "a", "b"]
theorem sc_law_like : L2.FnScope N_law_like ["told_v", "due"] (L2.defScope st_law_like) := ⟨rfl, rfl, rfl, by decide +kernel, rfl, by decide +kernel, by decide +kernel⟩
theorem tr_law_like : trSs 60 ⟨pg, N_law_like, L2.defScope st_law_like, fun _ => true⟩ (L2.defBody st_law_like) = some b_law_like := by kernel_rfl
def N_law_listed : List Str := ["first", "second"]
theorem sc_law_listed : L2.FnScope N_law_listed [] (L2.defScope st_law_listed) := ⟨rfl, rfl, rfl, by decide +kernel, rfl, by decide +kernel, by decide +kernel⟩
theorem tr_law_listed : trSs 60 ⟨pg, N_law_listed, L2.defScope st_law_listed, fun _ => true⟩ (L2.defBody st_law_listed) = some b_law_listed := by kernel_rfl
def N_law_odd : List Str := ["bag", "some"]
theorem sc_law_odd : L2.FnScope N_law_odd ["bag"] (L2.defScope st_law_odd) := ⟨rfl, rfl, rfl, by decide +kernel, rfl, by decide +kernel, by decide +kernel⟩
theorem tr_law_odd : trSs 60 ⟨pg, N_law_odd, L2.defScope st_law_odd, fun _ => true⟩ (L2.defBody st_law_odd) = some b_law_odd := by kernel_rfl
def N_law_string : List Str := ["bag", "signs", "pick", "size", "word", "spot", "k"]
theorem sc_law_string : L2.FnScope N_law_string ["bag"] (L2.defScope st_law_string) := ⟨rfl, rfl, rfl, by decide +kernel, rfl, by decide +kernel, by decide +kernel⟩
theorem tr_law_string : trSs 60 ⟨pg, N_law_string, L2.defScope st_law_string, fun _ => true⟩ (L2.defBody st_law_string) = some b_law_string := by kernel_rfl
def N_law_named : List Str := ["thing"]
theorem sc_law_named : L2.FnScope N_law_named ["thing"] (L2.defScope st_law_named) := ⟨rfl, rfl, rfl, by decide +kernel, rfl, by decide +kernel, by decide +kernel⟩
theorem tr_law_named : trSs 60 ⟨pg, N_law_named, L2.defScope st_law_named, fun _ => true⟩ (L2.defBody st_law_named) = some b_law_named := by kernel_rfl
def N_law_amount : List Str := ["bag", "size", "some"]
theorem sc_law_amount : L2.FnScope N_law_amount ["bag"] (L2.defScope st_law_amount) := ⟨rfl, rfl, rfl, by decide +kernel, rfl, by decide +kernel, by decide +kernel⟩
theorem tr_law_amount : trSs 60 ⟨pg, N_law_amount, L2.defScope st_law_amount, fun _ => true⟩ (L2.defBody st_law_amount) = some b_law_amount := by kernel_rfl
def N_law : List Str := ["script", "bag", "lap", "thing", "due", "near", "answers", "low", "high", "word"]
theorem sc_law : L2.FnScope N_law ["script"] (L2.defScope st_law) := ⟨rfl, rfl, rfl, by decide +kernel, rfl, by decide +kernel, by decide +kernel⟩
theorem tr_law : trSs 60 ⟨pg, N_law, L2.defScope st_law, fun _ => true⟩ (L2.defBody st_law) = some b_law := by kernel_rfl
def N_One___init__ : List Str := ["self"]
theorem sc_One___init__ : L2.FnScope N_One___init__ ["self"] (L2.defScope st_One___init__) := ⟨rfl, rfl, rfl, by decide +kernel, rfl, by decide +kernel, by decide +kernel⟩
theorem tr_One___init__ : trSs 60 ⟨pg, N_One___init__, L2.defScope st_One___init__, fun _ => true⟩ (L2.defBody st_One___init__) = some b_One___init__ := by kernel_rfl
section
variable {l : PySem.W.OpenLaw} {w : World} {K : PySem.W.Frag} {h : Heap} {mg : Str → Option Value} {ad : Str → Option Addr}
theorem en_is_name (X : K.In h) (G : h.Ns mainGlobals mg) {f0 : Addr} {od0 an0 : Option Addr} {sl0 : Array (Option Value)} {oc0 kV0 dc0 pm0 cd0 ct0 : Value} (a0 : PySem.W.nsIn K mainGlobals "is_name" = some (some (.ref f0)))
    (l0 : K.lookup f0 = some ⟨oc0, od0, .func (PySem.W.fnOf "is_name" "is_name" (L2.defArgs st_is_name) (L2.defBody st_is_name) (L2.defScope st_is_name) .none kV0 dc0 pm0 an0 cd0 ct0), sl0⟩)
    (c0 : PySem.W.codeIn K cd0 "is_name" = true) (k0 : PySem.W.keepIn K (.ref f0) = true) :
    EntAt l.prog w K mg ad pg prog "is_name" ⟨["value"], [], [⟨0, ["value"], [.kw 0]⟩]⟩ f0 (PySem.W.fnOf "is_name" "is_name" (L2.defArgs st_is_name) (L2.defBody st_is_name) (L2.defScope st_is_name) .none kV0 dc0 pm0 an0 cd0 ct0) := by
  refine ⟨_, N_is_name, b_is_name, 60, fun base => FnRule.of (L2.fun_mk (st := st_is_name) l0 c0 k0) sc_is_name, fun j hj => ⟨[], [], (L2.fun_mk (st := st_is_name) l0 c0 k0).binds (ps := ["value"]) fun _ _ _ _ _ _ us hl => match us, hl with | [_], _ => rfl, .nil, fun _ _ => ?_⟩, ?_, sc_is_name.nd, by decide +kernel, rfl, by decide, tr_is_name, rfl⟩
  · cases Nat.le_zero.mp hj
    exact .nil
  · intro z hz
    simp only [List.mem_cons, List.not_mem_nil, or_false] at hz
    rcases hz with rfl
    · refine kwb_of (dvs := []) (its := []) .nil (fun H ι => .nil) fun s us ws X h1 h2 => ?_
      match us, ws, h1, h2 with
      | [], [_], _, _ => exact .of_eq rfl
theorem en_is_number (X : K.In h) (G : h.Ns mainGlobals mg) {f0 : Addr} {od0 an0 : Option Addr} {sl0 : Array (Option Value)} {oc0 kV0 dc0 pm0 cd0 ct0 : Value} (a0 : PySem.W.nsIn K mainGlobals "is_number" = some (some (.ref f0)))
    (l0 : K.lookup f0 = some ⟨oc0, od0, .func (PySem.W.fnOf "is_number" "is_number" (L2.defArgs st_is_number) (L2.defBody st_is_number) (L2.defScope st_is_number) .none kV0 dc0 pm0 an0 cd0 ct0), sl0⟩)
    (c0 : PySem.W.codeIn K cd0 "is_number" = true) (k0 : PySem.W.keepIn K (.ref f0) = true) :
    EntAt l.prog w K mg ad pg prog "is_number" ⟨["value", "least", "most"], [], [⟨0, ["value", "most", "least"], [.kw 0, .kw 2, .kw 1]⟩]⟩ f0 (PySem.W.fnOf "is_number" "is_number" (L2.defArgs st_is_number) (L2.defBody st_is_number) (L2.defScope st_is_number) .none kV0 dc0 pm0 an0 cd0 ct0) := by
  refine ⟨_, N_is_number, b_is_number, 60, fun base => FnRule.of (L2.fun_mk (st := st_is_number) l0 c0 k0) sc_is_number, fun j hj => ⟨[], [], (L2.fun_mk (st := st_is_number) l0 c0 k0).binds (ps := ["value", "least", "most"]) fun _ _ _ _ _ _ us hl => match us, hl with | [_, _, _], _ => rfl, .nil, fun _ _ => ?_⟩, ?_, sc_is_number.nd, by decide +kernel, rfl, by decide, tr_is_number, rfl⟩
  · cases Nat.le_zero.mp hj
    exact .nil
  · intro z hz
    simp only [List.mem_cons, List.not_mem_nil, or_false] at hz
    rcases hz with rfl
    · refine kwb_of (dvs := []) (its := []) .nil (fun H ι => .nil) fun s us ws X h1 h2 => ?_
      match us, ws, h1, h2 with
      | [], [_, _, _], _, _ => exact .of_eq rfl
theorem en_law_bag (X : K.In h) (G : h.Ns mainGlobals mg) {f0 : Addr} {od0 an0 : Option Addr} {sl0 : Array (Option Value)} {oc0 kV0 dc0 pm0 cd0 ct0 : Value} (a0 : PySem.W.nsIn K mainGlobals "_law_bag" = some (some (.ref f0)))
    (l0 : K.lookup f0 = some ⟨oc0, od0, .func (PySem.W.fnOf "_law_bag" "_law_bag" (L2.defArgs st_law_bag) (L2.defBody st_law_bag) (L2.defScope st_law_bag) .none kV0 dc0 pm0 an0 cd0 ct0), sl0⟩)
    (c0 : PySem.W.codeIn K cd0 "_law_bag" = true) (k0 : PySem.W.keepIn K (.ref f0) = true) :
    EntAt l.prog w K mg ad pg prog "_law_bag" ⟨["script"], [], []⟩ f0 (PySem.W.fnOf "_law_bag" "_law_bag" (L2.defArgs st_law_bag) (L2.defBody st_law_bag) (L2.defScope st_law_bag) .none kV0 dc0 pm0 an0 cd0 ct0) := by
  refine ⟨_, N_law_bag, b_law_bag, 60, fun base => FnRule.of (L2.fun_mk (st := st_law_bag) l0 c0 k0) sc_law_bag, fun j hj => ⟨[], [], (L2.fun_mk (st := st_law_bag) l0 c0 k0).binds (ps := ["script"]) fun _ _ _ _ _ _ us hl => match us, hl with | [_], _ => rfl, .nil, fun _ _ => ?_⟩, ?_, sc_law_bag.nd, by decide +kernel, rfl, by decide, tr_law_bag, rfl⟩
  · cases Nat.le_zero.mp hj
    exact .nil
  · intro z hz; cases hz
theorem en_law_draw (X : K.In h) (G : h.Ns mainGlobals mg) {f0 : Addr} {od0 an0 : Option Addr} {sl0 : Array (Option Value)} {oc0 kV0 dc0 pm0 cd0 ct0 : Value} (a0 : PySem.W.nsIn K mainGlobals "_law_draw" = some (some (.ref f0)))
    (l0 : K.lookup f0 = some ⟨oc0, od0, .func (PySem.W.fnOf "_law_draw" "_law_draw" (L2.defArgs st_law_draw) (L2.defBody st_law_draw) (L2.defScope st_law_draw) .none kV0 dc0 pm0 an0 cd0 ct0), sl0⟩)
    (c0 : PySem.W.codeIn K cd0 "_law_draw" = true) (k0 : PySem.W.keepIn K (.ref f0) = true) :
    EntAt l.prog w K mg ad pg prog "_law_draw" ⟨["bag", "size"], [], []⟩ f0 (PySem.W.fnOf "_law_draw" "_law_draw" (L2.defArgs st_law_draw) (L2.defBody st_law_draw) (L2.defScope st_law_draw) .none kV0 dc0 pm0 an0 cd0 ct0) := by
  refine ⟨_, N_law_draw, b_law_draw, 60, fun base => FnRule.of (L2.fun_mk (st := st_law_draw) l0 c0 k0) sc_law_draw, fun j hj => ⟨[], [], (L2.fun_mk (st := st_law_draw) l0 c0 k0).binds (ps := ["bag", "size"]) fun _ _ _ _ _ _ us hl => match us, hl with | [_, _], _ => rfl, .nil, fun _ _ => ?_⟩, ?_, sc_law_draw.nd, by decide +kernel, rfl, by decide, tr_law_draw, rfl⟩
  · cases Nat.le_zero.mp hj
    exact .nil
  · intro z hz; cases hz
theorem en_law_of (X : K.In h) (G : h.Ns mainGlobals mg) {f0 : Addr} {od0 an0 : Option Addr} {sl0 : Array (Option Value)} {oc0 kV0 dc0 pm0 cd0 ct0 : Value} (a0 : PySem.W.nsIn K mainGlobals "_law_of" = some (some (.ref f0)))
    (l0 : K.lookup f0 = some ⟨oc0, od0, .func (PySem.W.fnOf "_law_of" "_law_of" (L2.defArgs st_law_of) (L2.defBody st_law_of) (L2.defScope st_law_of) .none kV0 dc0 pm0 an0 cd0 ct0), sl0⟩)
    (c0 : PySem.W.codeIn K cd0 "_law_of" = true) (k0 : PySem.W.keepIn K (.ref f0) = true) :
    EntAt l.prog w K mg ad pg prog "_law_of" ⟨["bag", "things"], [], []⟩ f0 (PySem.W.fnOf "_law_of" "_law_of" (L2.defArgs st_law_of) (L2.defBody st_law_of) (L2.defScope st_law_of) .none kV0 dc0 pm0 an0 cd0 ct0) := by
  refine ⟨_, N_law_of, b_law_of, 60, fun base => FnRule.of (L2.fun_mk (st := st_law_of) l0 c0 k0) sc_law_of, fun j hj => ⟨[], [], (L2.fun_mk (st := st_law_of) l0 c0 k0).binds (ps := ["bag", "things"]) fun _ _ _ _ _ _ us hl => match us, hl with | [_, _], _ => rfl, .nil, fun _ _ => ?_⟩, ?_, sc_law_of.nd, by decide +kernel, rfl, by decide, tr_law_of, rfl⟩
  · cases Nat.le_zero.mp hj
    exact .nil
  · intro z hz; cases hz
theorem en_law_like (X : K.In h) (G : h.Ns mainGlobals mg) {f0 : Addr} {od0 an0 : Option Addr} {sl0 : Array (Option Value)} {oc0 kV0 dc0 pm0 cd0 ct0 : Value} (a0 : PySem.W.nsIn K mainGlobals "_law_like" = some (some (.ref f0)))
    (l0 : K.lookup f0 = some ⟨oc0, od0, .func (PySem.W.fnOf "_law_like" "_law_like" (L2.defArgs st_law_like) (L2.defBody st_law_like) (L2.defScope st_law_like) .none kV0 dc0 pm0 an0 cd0 ct0), sl0⟩)
    (c0 : PySem.W.codeIn K cd0 "_law_like" = true) (k0 : PySem.W.keepIn K (.ref f0) = true) :
    EntAt l.prog w K mg ad pg prog "_law_like" ⟨["told_v", "due"], [], []⟩ f0 (PySem.W.fnOf "_law_like" "_law_like" (L2.defArgs st_law_like) (L2.defBody st_law_like) (L2.defScope st_law_like) .none kV0 dc0 pm0 an0 cd0 ct0) := by
  refine ⟨_, N_law_like, b_law_like, 60, fun base => FnRule.of (L2.fun_mk (st := st_law_like) l0 c0 k0) sc_law_like, fun j hj => ⟨[], [], (L2.fun_mk (st := st_law_like) l0 c0 k0).binds (ps := ["told_v", "due"]) fun _ _ _ _ _ _ us hl => match us, hl with | [_, _], _ => rfl, .nil, fun _ _ => ?_⟩, ?_, sc_law_like.nd, by decide +kernel, rfl, by decide, tr_law_like, rfl⟩
  · cases Nat.le_zero.mp hj
    exact .nil
  · intro z hz; cases hz
theorem en_law_listed (X : K.In h) (G : h.Ns mainGlobals mg) {f0 : Addr} {od0 an0 : Option Addr} {sl0 : Array (Option Value)} {oc0 kV0 dc0 pm0 cd0 ct0 : Value} (a0 : PySem.W.nsIn K mainGlobals "_law_listed" = some (some (.ref f0)))
    (l0 : K.lookup f0 = some ⟨oc0, od0, .func (PySem.W.fnOf "_law_listed" "_law_listed" (L2.defArgs st_law_listed) (L2.defBody st_law_listed) (L2.defScope st_law_listed) .none kV0 dc0 pm0 an0 cd0 ct0), sl0⟩)
    (c0 : PySem.W.codeIn K cd0 "_law_listed" = true) (k0 : PySem.W.keepIn K (.ref f0) = true) :
    EntAt l.prog w K mg ad pg prog "_law_listed" ⟨[], [], []⟩ f0 (PySem.W.fnOf "_law_listed" "_law_listed" (L2.defArgs st_law_listed) (L2.defBody st_law_listed) (L2.defScope st_law_listed) .none kV0 dc0 pm0 an0 cd0 ct0) := by
  refine ⟨_, N_law_listed, b_law_listed, 60, fun base => FnRule.of (L2.fun_mk (st := st_law_listed) l0 c0 k0) sc_law_listed, fun j hj => ⟨[], [], (L2.fun_mk (st := st_law_listed) l0 c0 k0).binds (ps := []) fun _ _ _ _ _ _ us hl => match us, hl with | [], _ => rfl, .nil, fun _ _ => ?_⟩, ?_, sc_law_listed.nd, by decide +kernel, rfl, by decide, tr_law_listed, rfl⟩
  · cases Nat.le_zero.mp hj
    exact .nil
  · intro z hz; cases hz
theorem en_law_odd (X : K.In h) (G : h.Ns mainGlobals mg) {f0 : Addr} {od0 an0 : Option Addr} {sl0 : Array (Option Value)} {oc0 kV0 dc0 pm0 cd0 ct0 : Value} (a0 : PySem.W.nsIn K mainGlobals "_law_odd" = some (some (.ref f0)))
    (l0 : K.lookup f0 = some ⟨oc0, od0, .func (PySem.W.fnOf "_law_odd" "_law_odd" (L2.defArgs st_law_odd) (L2.defBody st_law_odd) (L2.defScope st_law_odd) .none kV0 dc0 pm0 an0 cd0 ct0), sl0⟩)
    (c0 : PySem.W.codeIn K cd0 "_law_odd" = true) (k0 : PySem.W.keepIn K (.ref f0) = true) :
    EntAt l.prog w K mg ad pg prog "_law_odd" ⟨["bag"], [], []⟩ f0 (PySem.W.fnOf "_law_odd" "_law_odd" (L2.defArgs st_law_odd) (L2.defBody st_law_odd) (L2.defScope st_law_odd) .none kV0 dc0 pm0 an0 cd0 ct0) := by
  refine ⟨_, N_law_odd, b_law_odd, 60, fun base => FnRule.of (L2.fun_mk (st := st_law_odd) l0 c0 k0) sc_law_odd, fun j hj => ⟨[], [], (L2.fun_mk (st := st_law_odd) l0 c0 k0).binds (ps := ["bag"]) fun _ _ _ _ _ _ us hl => match us, hl with | [_], _ => rfl, .nil, fun _ _ => ?_⟩, ?_, sc_law_odd.nd, by decide +kernel, rfl, by decide, tr_law_odd, rfl⟩
  · cases Nat.le_zero.mp hj
    exact .nil
  · intro z hz; cases hz
theorem en_law_string (X : K.In h) (G : h.Ns mainGlobals mg) {f0 : Addr} {od0 an0 : Option Addr} {sl0 : Array (Option Value)} {oc0 kV0 dc0 pm0 cd0 ct0 : Value} (a0 : PySem.W.nsIn K mainGlobals "_law_string" = some (some (.ref f0)))
    (l0 : K.lookup f0 = some ⟨oc0, od0, .func (PySem.W.fnOf "_law_string" "_law_string" (L2.defArgs st_law_string) (L2.defBody st_law_string) (L2.defScope st_law_string) .none kV0 dc0 pm0 an0 cd0 ct0), sl0⟩)
    (c0 : PySem.W.codeIn K cd0 "_law_string" = true) (k0 : PySem.W.keepIn K (.ref f0) = true) :
    EntAt l.prog w K mg ad pg prog "_law_string" ⟨["bag"], [], []⟩ f0 (PySem.W.fnOf "_law_string" "_law_string" (L2.defArgs st_law_string) (L2.defBody st_law_string) (L2.defScope st_law_string) .none kV0 dc0 pm0 an0 cd0 ct0) := by
  refine ⟨_, N_law_string, b_law_string, 60, fun base => FnRule.of (L2.fun_mk (st := st_law_string) l0 c0 k0) sc_law_string, fun j hj => ⟨[], [], (L2.fun_mk (st := st_law_string) l0 c0 k0).binds (ps := ["bag"]) fun _ _ _ _ _ _ us hl => match us, hl with | [_], _ => rfl, .nil, fun _ _ => ?_⟩, ?_, sc_law_string.nd, by decide +kernel, rfl, by decide, tr_law_string, rfl⟩
  · cases Nat.le_zero.mp hj
    exact .nil
  · intro z hz; cases hz
theorem en_law_named (X : K.In h) (G : h.Ns mainGlobals mg) {f0 : Addr} {od0 an0 : Option Addr} {sl0 : Array (Option Value)} {oc0 kV0 dc0 pm0 cd0 ct0 : Value} (a0 : PySem.W.nsIn K mainGlobals "_law_named" = some (some (.ref f0)))
    (l0 : K.lookup f0 = some ⟨oc0, od0, .func (PySem.W.fnOf "_law_named" "_law_named" (L2.defArgs st_law_named) (L2.defBody st_law_named) (L2.defScope st_law_named) .none kV0 dc0 pm0 an0 cd0 ct0), sl0⟩)
    (c0 : PySem.W.codeIn K cd0 "_law_named" = true) (k0 : PySem.W.keepIn K (.ref f0) = true) :
    EntAt l.prog w K mg ad pg prog "_law_named" ⟨["thing"], [], []⟩ f0 (PySem.W.fnOf "_law_named" "_law_named" (L2.defArgs st_law_named) (L2.defBody st_law_named) (L2.defScope st_law_named) .none kV0 dc0 pm0 an0 cd0 ct0) := by
  refine ⟨_, N_law_named, b_law_named, 60, fun base => FnRule.of (L2.fun_mk (st := st_law_named) l0 c0 k0) sc_law_named, fun j hj => ⟨[], [], (L2.fun_mk (st := st_law_named) l0 c0 k0).binds (ps := ["thing"]) fun _ _ _ _ _ _ us hl => match us, hl with | [_], _ => rfl, .nil, fun _ _ => ?_⟩, ?_, sc_law_named.nd, by decide +kernel, rfl, by decide, tr_law_named, rfl⟩
  · cases Nat.le_zero.mp hj
    exact .nil
  · intro z hz; cases hz
theorem en_law_amount (X : K.In h) (G : h.Ns mainGlobals mg) {f0 : Addr} {od0 an0 : Option Addr} {sl0 : Array (Option Value)} {oc0 kV0 dc0 pm0 cd0 ct0 : Value} (a0 : PySem.W.nsIn K mainGlobals "_law_amount" = some (some (.ref f0)))
    (l0 : K.lookup f0 = some ⟨oc0, od0, .func (PySem.W.fnOf "_law_amount" "_law_amount" (L2.defArgs st_law_amount) (L2.defBody st_law_amount) (L2.defScope st_law_amount) .none kV0 dc0 pm0 an0 cd0 ct0), sl0⟩)
    (c0 : PySem.W.codeIn K cd0 "_law_amount" = true) (k0 : PySem.W.keepIn K (.ref f0) = true) :
    EntAt l.prog w K mg ad pg prog "_law_amount" ⟨["bag"], [], []⟩ f0 (PySem.W.fnOf "_law_amount" "_law_amount" (L2.defArgs st_law_amount) (L2.defBody st_law_amount) (L2.defScope st_law_amount) .none kV0 dc0 pm0 an0 cd0 ct0) := by
  refine ⟨_, N_law_amount, b_law_amount, 60, fun base => FnRule.of (L2.fun_mk (st := st_law_amount) l0 c0 k0) sc_law_amount, fun j hj => ⟨[], [], (L2.fun_mk (st := st_law_amount) l0 c0 k0).binds (ps := ["bag"]) fun _ _ _ _ _ _ us hl => match us, hl with | [_], _ => rfl, .nil, fun _ _ => ?_⟩, ?_, sc_law_amount.nd, by decide +kernel, rfl, by decide, tr_law_amount, rfl⟩
  · cases Nat.le_zero.mp hj
    exact .nil
  · intro z hz; cases hz
theorem en_law (X : K.In h) (G : h.Ns mainGlobals mg) {f0 : Addr} {od0 an0 : Option Addr} {sl0 : Array (Option Value)} {oc0 kV0 dc0 pm0 cd0 ct0 : Value} (a0 : PySem.W.nsIn K mainGlobals "law" = some (some (.ref f0)))
    (l0 : K.lookup f0 = some ⟨oc0, od0, .func (PySem.W.fnOf "law" "law" (L2.defArgs st_law) (L2.defBody st_law) (L2.defScope st_law) .none kV0 dc0 pm0 an0 cd0 ct0), sl0⟩)
    (c0 : PySem.W.codeIn K cd0 "law" = true) (k0 : PySem.W.keepIn K (.ref f0) = true) :
    EntAt l.prog w K mg ad pg prog "law" ⟨["script"], [], []⟩ f0 (PySem.W.fnOf "law" "law" (L2.defArgs st_law) (L2.defBody st_law) (L2.defScope st_law) .none kV0 dc0 pm0 an0 cd0 ct0) := by
  refine ⟨_, N_law, b_law, 60, fun base => FnRule.of (L2.fun_mk (st := st_law) l0 c0 k0) sc_law, fun j hj => ⟨[], [], (L2.fun_mk (st := st_law) l0 c0 k0).binds (ps := ["script"]) fun _ _ _ _ _ _ us hl => match us, hl with | [_], _ => rfl, .nil, fun _ _ => ?_⟩, ?_, sc_law.nd, by decide +kernel, rfl, by decide, tr_law, rfl⟩
  · cases Nat.le_zero.mp hj
    exact .nil
  · intro z hz; cases hz
theorem en_One___init__ (X : K.In h) (G : h.Ns mainGlobals mg) {f0 : Addr} {od0 an0 : Option Addr} {sl0 : Array (Option Value)} {oc0 kV0 dc0 pm0 cd0 ct0 : Value} 
    (l0 : K.lookup f0 = some ⟨oc0, od0, .func (PySem.W.fnOf "__init__" "One.__init__" (L2.defArgs st_One___init__) (L2.defBody st_One___init__) (L2.defScope st_One___init__) .none kV0 dc0 pm0 an0 cd0 ct0), sl0⟩)
    (c0 : PySem.W.codeIn K cd0 "One.__init__" = true) (k0 : PySem.W.keepIn K (.ref f0) = true) :
    EntAt l.prog w K mg ad pg prog "One.__init__" ⟨["self"], [], []⟩ f0 (PySem.W.fnOf "__init__" "One.__init__" (L2.defArgs st_One___init__) (L2.defBody st_One___init__) (L2.defScope st_One___init__) .none kV0 dc0 pm0 an0 cd0 ct0) := by
  refine ⟨_, N_One___init__, b_One___init__, 60, fun base => FnRule.of (L2.fun_mk (st := st_One___init__) l0 c0 k0) sc_One___init__, fun j hj => ⟨[], [], (L2.fun_mk (st := st_One___init__) l0 c0 k0).binds (ps := ["self"]) fun _ _ _ _ _ _ us hl => match us, hl with | [_], _ => rfl, .nil, fun _ _ => ?_⟩, ?_, sc_One___init__.nd, by decide +kernel, rfl, by decide, tr_One___init__, rfl⟩
  · cases Nat.le_zero.mp hj
    exact .nil
  · intro z hz; cases hz
theorem all_mk (X : K.In h) (G : h.Ns mainGlobals mg) {fa : Addr} (hfa : mg "law" = some (.ref fa))
    {f0 : Addr} {od0 an0 : Option Addr} {sl0 : Array (Option Value)} {oc0 kV0 dc0 pm0 cd0 ct0 : Value} (a0 : PySem.W.nsIn K mainGlobals "is_name" = some (some (.ref f0)))
    (l0 : K.lookup f0 = some ⟨oc0, od0, .func (PySem.W.fnOf "is_name" "is_name" (L2.defArgs st_is_name) (L2.defBody st_is_name) (L2.defScope st_is_name) .none kV0 dc0 pm0 an0 cd0 ct0), sl0⟩)
    (c0 : PySem.W.codeIn K cd0 "is_name" = true) (k0 : PySem.W.keepIn K (.ref f0) = true)
    {f1 : Addr} {od1 an1 : Option Addr} {sl1 : Array (Option Value)} {oc1 kV1 dc1 pm1 cd1 ct1 : Value} (a1 : PySem.W.nsIn K mainGlobals "is_number" = some (some (.ref f1)))
    (l1 : K.lookup f1 = some ⟨oc1, od1, .func (PySem.W.fnOf "is_number" "is_number" (L2.defArgs st_is_number) (L2.defBody st_is_number) (L2.defScope st_is_number) .none kV1 dc1 pm1 an1 cd1 ct1), sl1⟩)
    (c1 : PySem.W.codeIn K cd1 "is_number" = true) (k1 : PySem.W.keepIn K (.ref f1) = true)
    {f2 : Addr} {od2 an2 : Option Addr} {sl2 : Array (Option Value)} {oc2 kV2 dc2 pm2 cd2 ct2 : Value} (a2 : PySem.W.nsIn K mainGlobals "_law_bag" = some (some (.ref f2)))
    (l2 : K.lookup f2 = some ⟨oc2, od2, .func (PySem.W.fnOf "_law_bag" "_law_bag" (L2.defArgs st_law_bag) (L2.defBody st_law_bag) (L2.defScope st_law_bag) .none kV2 dc2 pm2 an2 cd2 ct2), sl2⟩)
    (c2 : PySem.W.codeIn K cd2 "_law_bag" = true) (k2 : PySem.W.keepIn K (.ref f2) = true)
    {f3 : Addr} {od3 an3 : Option Addr} {sl3 : Array (Option Value)} {oc3 kV3 dc3 pm3 cd3 ct3 : Value} (a3 : PySem.W.nsIn K mainGlobals "_law_draw" = some (some (.ref f3)))
    (l3 : K.lookup f3 = some ⟨oc3, od3, .func (PySem.W.fnOf "_law_draw" "_law_draw" (L2.defArgs st_law_draw) (L2.defBody st_law_draw) (L2.defScope st_law_draw) .none kV3 dc3 pm3 an3 cd3 ct3), sl3⟩)
    (c3 : PySem.W.codeIn K cd3 "_law_draw" = true) (k3 : PySem.W.keepIn K (.ref f3) = true)
    {f4 : Addr} {od4 an4 : Option Addr} {sl4 : Array (Option Value)} {oc4 kV4 dc4 pm4 cd4 ct4 : Value} (a4 : PySem.W.nsIn K mainGlobals "_law_of" = some (some (.ref f4)))
    (l4 : K.lookup f4 = some ⟨oc4, od4, .func (PySem.W.fnOf "_law_of" "_law_of" (L2.defArgs st_law_of) (L2.defBody st_law_of) (L2.defScope st_law_of) .none kV4 dc4 pm4 an4 cd4 ct4), sl4⟩)
    (c4 : PySem.W.codeIn K cd4 "_law_of" = true) (k4 : PySem.W.keepIn K (.ref f4) = true)
    {f5 : Addr} {od5 an5 : Option Addr} {sl5 : Array (Option Value)} {oc5 kV5 dc5 pm5 cd5 ct5 : Value} (a5 : PySem.W.nsIn K mainGlobals "_law_like" = some (some (.ref f5)))
    (l5 : K.lookup f5 = some ⟨oc5, od5, .func (PySem.W.fnOf "_law_like" "_law_like" (L2.defArgs st_law_like) (L2.defBody st_law_like) (L2.defScope st_law_like) .none kV5 dc5 pm5 an5 cd5 ct5), sl5⟩)
    (c5 : PySem.W.codeIn K cd5 "_law_like" = true) (k5 : PySem.W.keepIn K (.ref f5) = true)
    {f6 : Addr} {od6 an6 : Option Addr} {sl6 : Array (Option Value)} {oc6 kV6 dc6 pm6 cd6 ct6 : Value} (a6 : PySem.W.nsIn K mainGlobals "_law_listed" = some (some (.ref f6)))
    (l6 : K.lookup f6 = some ⟨oc6, od6, .func (PySem.W.fnOf "_law_listed" "_law_listed" (L2.defArgs st_law_listed) (L2.defBody st_law_listed) (L2.defScope st_law_listed) .none kV6 dc6 pm6 an6 cd6 ct6), sl6⟩)
    (c6 : PySem.W.codeIn K cd6 "_law_listed" = true) (k6 : PySem.W.keepIn K (.ref f6) = true)
    {f7 : Addr} {od7 an7 : Option Addr} {sl7 : Array (Option Value)} {oc7 kV7 dc7 pm7 cd7 ct7 : Value} (a7 : PySem.W.nsIn K mainGlobals "_law_odd" = some (some (.ref f7)))
    (l7 : K.lookup f7 = some ⟨oc7, od7, .func (PySem.W.fnOf "_law_odd" "_law_odd" (L2.defArgs st_law_odd) (L2.defBody st_law_odd) (L2.defScope st_law_odd) .none kV7 dc7 pm7 an7 cd7 ct7), sl7⟩)
    (c7 : PySem.W.codeIn K cd7 "_law_odd" = true) (k7 : PySem.W.keepIn K (.ref f7) = true)
    {f8 : Addr} {od8 an8 : Option Addr} {sl8 : Array (Option Value)} {oc8 kV8 dc8 pm8 cd8 ct8 : Value} (a8 : PySem.W.nsIn K mainGlobals "_law_string" = some (some (.ref f8)))
    (l8 : K.lookup f8 = some ⟨oc8, od8, .func (PySem.W.fnOf "_law_string" "_law_string" (L2.defArgs st_law_string) (L2.defBody st_law_string) (L2.defScope st_law_string) .none kV8 dc8 pm8 an8 cd8 ct8), sl8⟩)
    (c8 : PySem.W.codeIn K cd8 "_law_string" = true) (k8 : PySem.W.keepIn K (.ref f8) = true)
    {f9 : Addr} {od9 an9 : Option Addr} {sl9 : Array (Option Value)} {oc9 kV9 dc9 pm9 cd9 ct9 : Value} (a9 : PySem.W.nsIn K mainGlobals "_law_named" = some (some (.ref f9)))
    (l9 : K.lookup f9 = some ⟨oc9, od9, .func (PySem.W.fnOf "_law_named" "_law_named" (L2.defArgs st_law_named) (L2.defBody st_law_named) (L2.defScope st_law_named) .none kV9 dc9 pm9 an9 cd9 ct9), sl9⟩)
    (c9 : PySem.W.codeIn K cd9 "_law_named" = true) (k9 : PySem.W.keepIn K (.ref f9) = true)
    {f10 : Addr} {od10 an10 : Option Addr} {sl10 : Array (Option Value)} {oc10 kV10 dc10 pm10 cd10 ct10 : Value} (a10 : PySem.W.nsIn K mainGlobals "_law_amount" = some (some (.ref f10)))
    (l10 : K.lookup f10 = some ⟨oc10, od10, .func (PySem.W.fnOf "_law_amount" "_law_amount" (L2.defArgs st_law_amount) (L2.defBody st_law_amount) (L2.defScope st_law_amount) .none kV10 dc10 pm10 an10 cd10 ct10), sl10⟩)
    (c10 : PySem.W.codeIn K cd10 "_law_amount" = true) (k10 : PySem.W.keepIn K (.ref f10) = true)
    {f11 : Addr} {od11 an11 : Option Addr} {sl11 : Array (Option Value)} {oc11 kV11 dc11 pm11 cd11 ct11 : Value} (a11 : PySem.W.nsIn K mainGlobals "law" = some (some (.ref f11)))
    (l11 : K.lookup f11 = some ⟨oc11, od11, .func (PySem.W.fnOf "law" "law" (L2.defArgs st_law) (L2.defBody st_law) (L2.defScope st_law) .none kV11 dc11 pm11 an11 cd11 ct11), sl11⟩)
    (c11 : PySem.W.codeIn K cd11 "law" = true) (k11 : PySem.W.keepIn K (.ref f11) = true)
    {f12 : Addr} {od12 an12 : Option Addr} {sl12 : Array (Option Value)} {oc12 kV12 dc12 pm12 cd12 ct12 : Value} 
    (l12 : K.lookup f12 = some ⟨oc12, od12, .func (PySem.W.fnOf "__init__" "One.__init__" (L2.defArgs st_One___init__) (L2.defBody st_One___init__) (L2.defScope st_One___init__) .none kV12 dc12 pm12 an12 cd12 ct12), sl12⟩)
    (c12 : PySem.W.codeIn K cd12 "One.__init__" = true) (k12 : PySem.W.keepIn K (.ref f12) = true)
    {C0 : Addr} (ac0 : PySem.W.nsIn K mainGlobals "One" = some (some (.ref C0))) (ai0 : PySem.W.findIn K (.ref C0) "__init__" = some (some (.ref f12))) (ii0 : PySem.W.isFn K (.ref f12) = true)
    (pg0 : PySem.W.plainGet K C0 Str.empty = true) (hd0 : PySem.W.hasDictIn K C0 = true) (po0 : PySem.W.plainOver K C0 = true) (sa0 : PySem.W.findIn K (.ref C0) "__setattr__" = some (some (.builtin "object.__setattr__"))) (mk0 : PySem.W.makesIn K C0 = true) (kc0 : PySem.W.keepIn K (.ref C0) = true)
    (ha0 : PySem.W.findIn K (.ref C0) "__class__" = some (some (.builtin "object.__class__"))) (hn0 : PySem.W.specialIn K (.builtin "object.__class__") "__get__" = some (some (.builtin "getset_descriptor.__get__"))) (ht0 : PySem.W.takesIn K (.builtin "object.__class__") = some true) (hm0 : PySem.W.mroIn K C0 (.type "object") = some true)
    (bt0_0 : PySem.W.subIn K (.ref C0) (.type "int") = some false)
    (bt0_1 : PySem.W.subIn K (.ref C0) (.type "bool") = some false)
    (bt0_2 : PySem.W.subIn K (.ref C0) (.type "str") = some false)
    (bt0_3 : PySem.W.subIn K (.ref C0) (.type "tuple") = some false)
    (bt0_4 : PySem.W.subIn K (.ref C0) (.type "list") = some false)
    (bt0_5 : PySem.W.subIn K (.ref C0) (.type "dict") = some false)
    (nf0_0 : PySem.W.findIn K (.ref C0) "word" = some none)
    (nf0_1 : PySem.W.findIn K (.ref C0) "number" = some none)
    {q0 : Tok} (y0 : PySem.W.nsIn K mainGlobals "LETTERS" = some (some (.str "abcdefghijklmnopqrstuvwxyz" q0)))
    {q1 : Tok} (y1 : PySem.W.nsIn K mainGlobals "MOST_LETTERS" = some (some (.int (8) q1)))
    {q2_0 q2_1 q2_2 q2_3 q2_4 q2_5 q2_6 q2_7 q2_8 q2_9 q2_10 q2_11 q2_12 q2_13 q2_14 q2_15 q2_16 q2_17 q2_18 q2_19 q2_20 q2_21 q2_22 q2_23 q2_24 q2_25 q2_26 q2_27 q2_28 q2_29 q2_30 q2_31 q2_32 q2_33 q2_34 q2_35 : Tok} {TT2 : Addr} {dT2 : Option Addr} {nT2 : Nat} {sT2 : Array (Option Value)} (y2 : PySem.W.nsIn K mainGlobals "OWN" = some (some (.ref TT2)))
    (yt2 : K.lookup TT2 = some ⟨.type "tuple", dT2, .seq [.str "rule" q2_0, .str "form" q2_1, .str "seats" q2_2, .str "row" q2_3, .str "num" q2_4, .str "begin" q2_5, .str "let" q2_6, .str "be" q2_7, .str "if" q2_8, .str "else" q2_9, .str "end" q2_10, .str "each" q2_11, .str "times" q2_12, .str "leave" q2_13, .str "ask" q2_14, .str "where" q2_15, .str "tally" q2_16, .str "sum" q2_17, .str "weigh" q2_18, .str "by" q2_19, .str "seat" q2_20, .str "tell" q2_21, .str "lot" q2_22, .str "votes" q2_23, .str "names" q2_24, .str "seated" q2_25, .str "and" q2_26, .str "or" q2_27, .str "not" q2_28, .str "floor" q2_29, .str "min" q2_30, .str "max" q2_31, .str "top" q2_32, .str "mark" q2_33, .str "from" q2_34, .str "over" q2_35].toArray nT2, sT2⟩)
    (z0 : PySem.W.nsIn K mainGlobals "int" = some none)
    (z1 : PySem.W.nsIn K mainGlobals "bool" = some none)
    (z2 : PySem.W.nsIn K mainGlobals "str" = some none)
    (z3 : PySem.W.nsIn K mainGlobals "tuple" = some none)
    (z4 : PySem.W.nsIn K mainGlobals "list" = some none)
    (z5 : PySem.W.nsIn K mainGlobals "dict" = some none)
    (z6 : PySem.W.nsIn K mainGlobals "len" = some none)
    (z7 : PySem.W.nsIn K mainGlobals "abs" = some none)
    (z8 : PySem.W.nsIn K mainGlobals "sum" = some none)
    (z9 : PySem.W.nsIn K mainGlobals "any" = some none)
    (z10 : PySem.W.nsIn K mainGlobals "all" = some none)
    (z11 : PySem.W.nsIn K mainGlobals "sorted" = some none)
    (z12 : PySem.W.nsIn K mainGlobals "max" = some none)
    (z13 : PySem.W.nsIn K mainGlobals "min" = some none)
    (z14 : PySem.W.nsIn K mainGlobals "isinstance" = some none)
    (z15 : PySem.W.nsIn K mainGlobals "set" = some none)
    (z16 : PySem.W.nsIn K mainGlobals "range" = some none)
    (z17 : PySem.W.nsIn K mainGlobals "zip" = some none)
    (z18 : PySem.W.nsIn K mainGlobals "enumerate" = some none)
    (z19 : PySem.W.nsIn K mainGlobals "reversed" = some none)
    : ∃ (fd : FuncData) (ad : Str → Option Addr), (∀ (s : Shared) (u : Value), BindsTo s fd ⟨[u], []⟩ [("script", u)]) ∧ TextOk l.prog w K mg ad pg prog ∧ EntAt l.prog w K mg ad pg prog "law" ⟨["script"], [], []⟩ fa fd := by
  have e := hfa.symm.trans (PySem.W.mg_of X G a11)
  cases e
  refine ⟨_, fun x => lkS [("One", C0)] x, fun s v => ?_, ⟨fun f d hf => ?_, fun x k hk => ?_, fun x hx => ?_, fun x hx => ?_, fun x v _ hv => ?_⟩, en_law X G a11 l11 c11 k11⟩
  · exact .of_eq rfl
  · exact AllE.at (Q := fun f d => Ent l.prog w K mg _ pg prog f d) (.cons ⟨_, _, en_is_name X G a0 l0 c0 k0, PySem.W.mg_of X G a0, k0, by decide +kernel⟩ (.cons ⟨_, _, en_is_number X G a1 l1 c1 k1, PySem.W.mg_of X G a1, k1, by decide +kernel⟩ (.cons ⟨_, _, en_law_bag X G a2 l2 c2 k2, PySem.W.mg_of X G a2, k2, by decide +kernel⟩ (.cons ⟨_, _, en_law_draw X G a3 l3 c3 k3, PySem.W.mg_of X G a3, k3, by decide +kernel⟩ (.cons ⟨_, _, en_law_of X G a4 l4 c4 k4, PySem.W.mg_of X G a4, k4, by decide +kernel⟩ (.cons ⟨_, _, en_law_like X G a5 l5 c5 k5, PySem.W.mg_of X G a5, k5, by decide +kernel⟩ (.cons ⟨_, _, en_law_listed X G a6 l6 c6 k6, PySem.W.mg_of X G a6, k6, by decide +kernel⟩ (.cons ⟨_, _, en_law_odd X G a7 l7 c7 k7, PySem.W.mg_of X G a7, k7, by decide +kernel⟩ (.cons ⟨_, _, en_law_string X G a8 l8 c8 k8, PySem.W.mg_of X G a8, k8, by decide +kernel⟩ (.cons ⟨_, _, en_law_named X G a9 l9 c9 k9, PySem.W.mg_of X G a9, k9, by decide +kernel⟩ (.cons ⟨_, _, en_law_amount X G a10 l10 c10 k10, PySem.W.mg_of X G a10, k10, by decide +kernel⟩ (.cons ⟨_, _, en_law X G a11 l11 c11 k11, PySem.W.mg_of X G a11, k11, by decide +kernel⟩ (.nil))))))))))))) hf
  · refine AllA.at (Q := fun x k => ClsEnt l.prog w K mg _ pg prog x k) (.cons ?cl0 (.nil)) hk
    case cl0 =>
      refine ⟨C0, _, _, en_One___init__ X G l12 c12 k12, PySem.W.mg_of X G ac0, ⟨mk0, ai0, ii0, kc0⟩, cls_mk (by simp [lkS]) pg0 hd0 po0 sa0 (fun f hf => ?_) ha0 hn0 ht0 hm0 bt0_0 bt0_1 bt0_2 bt0_3 bt0_4 bt0_5 (fun c b hb => ?_), rfl, rfl, by decide +kernel⟩
      · have hf : f = ("word" : Str) ∨ f = ("number" : Str) := by simpa using hf
        rcases hf with rfl | rfl
        · exact nf0_0
        · exact nf0_1
      · cases hb
  · exact AllN.at (Q := fun x => mg x = none) (.cons (PySem.W.mg_none_of X G z0) (.cons (PySem.W.mg_none_of X G z1) (.cons (PySem.W.mg_none_of X G z2) (.cons (PySem.W.mg_none_of X G z3) (.cons (PySem.W.mg_none_of X G z4) (.cons (PySem.W.mg_none_of X G z5) (.cons (PySem.W.mg_none_of X G z6) (.cons (PySem.W.mg_none_of X G z7) (.cons (PySem.W.mg_none_of X G z8) (.cons (PySem.W.mg_none_of X G z9) (.cons (PySem.W.mg_none_of X G z10) (.cons (PySem.W.mg_none_of X G z11) (.cons (PySem.W.mg_none_of X G z12) (.cons (PySem.W.mg_none_of X G z13) (.cons (PySem.W.mg_none_of X G z14) (.cons (PySem.W.mg_none_of X G z15) (.cons (PySem.W.mg_none_of X G z16) (.cons (PySem.W.mg_none_of X G z17) (.cons (PySem.W.mg_none_of X G z18) (.cons (PySem.W.mg_none_of X G z19) (.nil))))))))))))))))))))) hx
  · cases hx
  · exact AllA.at (Q := fun x v => (x == ("__debug__" : Str)) = false ∧ ∃ u w2, mg x = some u ∧ L2.RelV w2 u ∧ ∀ H ι, RV (KW.mk K w _) H ι v w2) (.cons ⟨by decide +kernel, con_str X G y0⟩ (.cons ⟨by decide +kernel, con_int X G y1⟩ (.cons ⟨by decide +kernel, con_tup (vs := [.str "rule", .str "form", .str "seats", .str "row", .str "num", .str "begin", .str "let", .str "be", .str "if", .str "else", .str "end", .str "each", .str "times", .str "leave", .str "ask", .str "where", .str "tally", .str "sum", .str "weigh", .str "by", .str "seat", .str "tell", .str "lot", .str "votes", .str "names", .str "seated", .str "and", .str "or", .str "not", .str "floor", .str "min", .str "max", .str "top", .str "mark", .str "from", .str "over"]) X G y2 yt2 (by simp) (by repeat (first | exact .nil | refine .cons ⟨_, rfl⟩ ?_)) (fun H ι => by repeat (first | exact .nil | refine .cons (.str _) ?_))⟩ (.nil)))) hv
end
end R.G
open PySem PySem.W PyProof.Rows
set_option maxRecDepth 100000 in
set_option maxHeartbeats 0 in
theorem PySem.Challenge.cw_soleheld_k01_words_judged_holds : PySem.Challenge.rw_soleheld_k01_words_judged.Holds := by
  w_on; o_law; k_head; (case hw => w_witness2)
  k_fill
  refine R.walk (l := PySem.Challenge.rw_soleheld_k01_words_judged) (pg := R.G.pg) (p := R.G.prog) (n := 16) rfl rfl rfl ⟨rfl, by decide, by decide⟩ (fun w h Y => PySem.W.kIn_of Y) ?F R.G.spec
  case F =>
    intro w mg fa h KX G hmg
    refine' R.G.all_mk KX G hmg ?a0 ?l0 ?c0 ?k0 ?a1 ?l1 ?c1 ?k1 ?a2 ?l2 ?c2 ?k2 ?a3 ?l3 ?c3 ?k3 ?a4 ?l4 ?c4 ?k4 ?a5 ?l5 ?c5 ?k5 ?a6 ?l6 ?c6 ?k6 ?a7 ?l7 ?c7 ?k7 ?a8 ?l8 ?c8 ?k8 ?a9 ?l9 ?c9 ?k9 ?a10 ?l10 ?c10 ?k10 ?a11 ?l11 ?c11 ?k11 ?l12 ?c12 ?k12 ?ac0 ?ai0 ?ii0 ?pg0 ?hd0 ?po0 ?sa0 ?mk0 ?kc0 ?ha0 ?hn0 ?ht0 ?hm0 ?bt0_0 ?bt0_1 ?bt0_2 ?bt0_3 ?bt0_4 ?bt0_5 ?nf0_0 ?nf0_1 ?y0 ?y1 ?yt2 ?y2 ?z0 ?z1 ?z2 ?z3 ?z4 ?z5 ?z6 ?z7 ?z8 ?z9 ?z10 ?z11 ?z12 ?z13 ?z14 ?z15 ?z16 ?z17 ?z18 ?z19
    (case ac0 => k_is); (case ai0 => k_is); (case a0 => k_is); (case l0 => k_is)
    (case c0 => k_is); (case k0 => k_is); (case a1 => k_is); (case l1 => k_is)
    (case c1 => k_is); (case k1 => k_is); (case a2 => k_is); (case l2 => k_is)
    (case c2 => k_is); (case k2 => k_is); (case a3 => k_is); (case l3 => k_is)
    (case c3 => k_is); (case k3 => k_is); (case a4 => k_is); (case l4 => k_is)
    (case c4 => k_is); (case k4 => k_is); (case a5 => k_is); (case l5 => k_is)
    (case c5 => k_is); (case k5 => k_is); (case a6 => k_is); (case l6 => k_is)
    (case c6 => k_is); (case k6 => k_is); (case a7 => k_is); (case l7 => k_is)
    (case c7 => k_is); (case k7 => k_is); (case a8 => k_is); (case l8 => k_is)
    (case c8 => k_is); (case k8 => k_is); (case a9 => k_is); (case l9 => k_is)
    (case c9 => k_is); (case k9 => k_is); (case a10 => k_is); (case l10 => k_is)
    (case c10 => k_is); (case k10 => k_is); (case a11 => k_is); (case l11 => k_is)
    (case c11 => k_is); (case k11 => k_is); (case l12 => k_is); (case c12 => k_is)
    (case k12 => k_is); (case ii0 => k_is); (case pg0 => k_is); (case hd0 => k_is)
    (case po0 => k_is); (case sa0 => k_is); (case mk0 => k_is); (case kc0 => k_is)
    (case ha0 => k_is); (case hn0 => k_is); (case ht0 => k_is); (case hm0 => k_is)
    (case bt0_0 => k_is); (case bt0_1 => k_is); (case bt0_2 => k_is); (case bt0_3 => k_is)
    (case bt0_4 => k_is); (case bt0_5 => k_is); (case nf0_0 => k_is); (case nf0_1 => k_is)
    (case y0 => k_is); (case y1 => k_is); (case yt2 => k_is); (case y2 => k_is)
    (case z0 => k_is); (case z1 => k_is); (case z2 => k_is); (case z3 => k_is)
    (case z4 => k_is); (case z5 => k_is); (case z6 => k_is); (case z7 => k_is)
    (case z8 => k_is); (case z9 => k_is); (case z10 => k_is); (case z11 => k_is)
    (case z12 => k_is); (case z13 => k_is); (case z14 => k_is); (case z15 => k_is)
    (case z16 => k_is); (case z17 => k_is); (case z18 => k_is); (case z19 => k_is)
