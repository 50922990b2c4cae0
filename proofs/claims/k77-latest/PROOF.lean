import PyProof.Rows.All
import Wide.All
import OpenK.AllK
import Wide.FinOn
import HandS.ForMost
import HandS.Exc
import HandS.WordsExc
import HandS.Defaults
import HandS.Dict
import HandS.Iter
import HandS.Text
import HandS.More
import HandS.Conv
import HandS.StrMore
import HandS.Lambda
import HandS.Sort
import HandS.Small
import HandS.Gcd
import HandS.TupMul
import KE.GoesEnum
import HandS.Style
import KE.DataMinMax
import KE.SortData
import KE.KMathGC
import HandS.EndTab
import HandS.HeadHook4
import HandS.SortKw
import KE.SortKeyHeap
import KE.KSortKey
import HandS.Head0
import HandS.Head1
import HandS.Head2
import HandS.Head3
import HandS.HeadEnd
import HandS.HeadHook1
import HandS.HeadHook2
import PySem.Challenge.RW_portsched_k77_whole_latest_departures_an
set_option Elab.async false
set_option linter.all false
set_option maxRecDepth 100000
set_option autoImplicit false
set_option maxHeartbeats 0
/-! PV: plain values, a small language over them, its evaluator (part 0: the data). -/
namespace L2.PV
open PySem PySem.Spec PyProof.Rows LamX

/-! ### plain values -/
inductive D where
  | non | bl (b : Bool) | int (i : Int) | str (s : Str)
  | tup (xs : List D) | lst (xs : List D)
  /-- a list that is only read, whoever holds it (the script) -/
  | scr (xs : List D)
  /-- a list or dict that is changed: its number in the store -/
  | loc (n : Nat)
inductive Cell where
  | lst (xs : List D) | dic (kvs : List (Key × D)) | gone
abbrev Sto := List Cell
abbrev En := List (Option D)
/-- an exception: its class by name, its fields -/
structure Xn where
  cls : Str
  fs : List (Str × D)
inductive R (α : Type) where
  | ok (a : α) (S : Sto) | ex (x : Xn) (S : Sto) | bad
def R.bind {α β : Type} (r : R α) (f : α → Sto → R β) : R β := match r with
  | .ok a S => f a S
  | .ex x S => .ex x S
  | .bad => .bad
def R.of {α : Type} (o : Option α) (S : Sto) : R α := match o with
  | some a => .ok a S
  | none => .bad

/-! ### the language -/
inductive Blt where
  | len | int | abs | sum | max1 | min1 | max2 | min2 | list | tuple | lcm | str
  deriving DecidableEq
inductive Mth where
  | append | pop1 | find2 | rfind1 | join | dget1 | ins
  deriving DecidableEq
/-- what isinstance asks -/
inductive Ty where
  | tuple | str | bool | int | list
  deriving DecidableEq
inductive Tg where
  | nm (i : Nat)
  | tp (is : List Nat)
mutual
inductive IE where
  | var (i : Nat)
  | cst (c : D)
  | bin (op : Operator) (a b : IE)
  | neg (a : IE)
  | not (a : IE)
  | cmp (op : CmpOp) (a b : IE)
  | chn (op op' : CmpOp) (a b c : IE)
  | and (es : IEs)
  | or (es : IEs)
  | ife (t a b : IE)
  | tup (es : IEs)
  | lst (tr : Bool) (es : IEs)
  | dct
  | idx (a i : IE)
  | slc (a : IE) (lo hi : IEs)
  | call (f : Nat) (es : IEs) (ds : List D)
  | callk (f : Nat) (es : IEs) (ks : List Str) (kes : IEs)
  | blt (b : Blt) (tr : Bool) (es : IEs)
  | isi (a : IE) (t : Ty)
  | met (m : Mth) (o : IE) (es : IEs)
  | lc (tr : Bool) (own : List (Str × Nat)) (tg : Tg) (it : II) (ifs : IEs) (elt : IE)
  | srt (a : IE)
  | srtk (a : IE)
  | lrg1 (tr : Bool) (a : IE)
  | lrg2 (tr : Bool) (a b : IE)
  | frz (a : IE)
  | rev (a : IE)
inductive IEs where
  | nil
  | cons (e : IE) (es : IEs)
inductive II where
  | seq (e : IE)
  | rng1 (a : IE)
  | rng2 (a b : IE)
  | rng3 (a b c : IE)
  | enum (a : IE)
end
mutual
inductive IS where
  | ex (e : IE)
  | ret (e : IE)
  | retN
  | set (i : Nat) (e : IE)
  | par (i j : Nat) (a b : IE)
  | setT (is : List Nat) (e : IE)
  | setI (o i e : IE)
  | ite (t : IE) (a b : ISs)
  | «for» (tg : Tg) (it : II) (body : ISs)
  | «while» (t : IE) (body : ISs)
  | pass | brk | cnt | never
inductive ISs where
  | nil
  | cons (s : IS) (ss : ISs)
end

/-! ### operations on plain values -/
/-- a list that stands in the store, read -/
def rd (S : Sto) (d : D) : D := match d with
  | .loc n => (match S[n]? with
    | some (.lst xs) => .lst xs
    | _ => .loc n)
  | d => d
def MulOk (i j : Int) : Prop := (-(2 ^ 64) < j ∧ j < 2 ^ 64) ∨ (-(2 ^ 64) < i ∧ i < 2 ^ 64)
instance (i j : Int) : Decidable (MulOk i j) := inferInstanceAs (Decidable (_ ∨ _))
def rep {α : Type} (xs : List α) (k : Int) : List α := (List.replicate k.toNat xs).flatten
def addF (x y : D) : Option D := match x with
  | .int i => (match y with
    | .int j => some (.int (i + j))
    | _ => none)
  | .str a => (match y with
    | .str b => if a.length + b.length ≤ 16777216 then some (.str (a ++ b)) else none
    | _ => none)
  | .tup a => (match y with
    | .tup b => if a.length + b.length ≤ 16777216 then some (.tup (a ++ b)) else none
    | _ => none)
  | .lst a => (match y with
    | .lst b => if a.length + b.length ≤ 16777216 then some (.lst (a ++ b)) else none
    | _ => none)
  | _ => none
def mulF (x y : D) : Option D := match x with
  | .int i => (match y with
    | .int j => if MulOk i j then some (.int (i * j)) else none
    | _ => none)
  | .str a => (match y with
    | .int k => if -(2 ^ 62) ≤ k ∧ k < 2 ^ 62 ∧ a.length * k.toNat ≤ 16777216 then some (.str ⟨(rep a.cps.toList k).toArray⟩) else none
    | _ => none)
  | .tup a => (match y with
    | .int k => if -(2 ^ 62) ≤ k ∧ k < 2 ^ 62 ∧ a.length * k.toNat ≤ 16777216 then some (.tup (rep a k)) else none
    | _ => none)
  | .lst a => (match y with
    | .int k => if -(2 ^ 62) ≤ k ∧ k < 2 ^ 62 ∧ a.length * k.toNat ≤ 16777216 then some (.lst (rep a k)) else none
    | _ => none)
  | _ => none
def int2 (x y : D) (f : Int → Int → Option D) : Option D := match x with
  | .int i => (match y with
    | .int j => f i j
    | _ => none)
  | _ => none
def binF (op : Operator) (x y : D) : Option D := match op with
  | .Add => addF x y
  | .Sub => int2 x y fun i j => some (.int (i - j))
  | .Mult => mulF x y
  | .FloorDiv => int2 x y fun i j => if 0 < j ∧ j < 1073741824 then some (.int (i / j)) else none
  | .Mod => int2 x y fun i j => if 0 < j then some (.int (i % j)) else none
  | .Pow => int2 x y fun i j => if 0 ≤ j ∧ j ≤ 1000000 ∧ i.natAbs < 2 ^ 64 then some (.int (i ^ j.toNat)) else none
  | _ => none
/-! data, compared at any depth -/
mutual
def D.dat : D → Option PyData
  | .non => some .none
  | .bl b => some (.bool b)
  | .int i => some (.int i)
  | .str s => some (.str s)
  | .tup xs => (D.dats xs).map PyData.tuple
  | .lst xs => (D.dats xs).map PyData.list
  | .scr _ => none
  | .loc _ => none
def D.dats : List D → Option (List PyData)
  | [] => some []
  | x :: xs => match D.dat x with
    | some d => (D.dats xs).map (d :: ·)
    | none => none
end
def eqDp (x y : D) : Option Bool := match x.dat with
  | some d => (match y.dat with
    | some e => if SeqAt.shaped d = true ∧ SeqAt.shaped e = true then some (PyData.eqv d e) else none
    | none => none)
  | none => none
/-- == of scalars, of tuples, of lists -/
def eqF (x y : D) : Option Bool := match x with
  | .int i => (match y with
    | .int j => some (decide (i = j))
    | .str _ => some false
    | .non => some false
    | _ => none)
  | .str i => (match y with
    | .str j => some (decide (i = j))
    | .int _ => some false
    | .bl _ => some false
    | .non => some false
    | _ => none)
  | .bl i => (match y with
    | .bl j => some (decide (i = j))
    | .str _ => some false
    | .non => some false
    | _ => none)
  | .non => (match y with
    | .non => some true
    | .int _ => some false
    | .str _ => some false
    | .bl _ => some false
    | _ => none)
  | .tup xs => eqDp (.tup xs) y
  | .lst xs => eqDp (.lst xs) y
  | _ => none
def D.isNon (x : D) : Bool := match x with
  | .non => true
  | _ => false
/-- flat values: what an «in» compares -/
def eqFl (x y : D) : Option Bool := match x with
  | .int i => (match y with
    | .int j => some (decide (i = j))
    | .str _ => some false
    | _ => none)
  | .str i => (match y with
    | .str j => some (decide (i = j))
    | .int _ => some false
    | _ => none)
  | _ => none
def inF (x : D) : List D → Option Bool
  | [] => some false
  | y :: ys => match eqFl x y with
    | some b => (inF x ys).map (b || ·)
    | none => none
def D.key (d : D) : Option Key := match d with
  | .int i => some (.inl i)
  | .str s => some (.inr s)
  | _ => none
def D.ofKey (k : Key) : D := match k with
  | .inl i => .int i
  | .inr s => .str s
def dLook (kvs : List (Key × D)) (k : Key) : Option D := (kvs.find? fun kv => decide (kv.1 = k)).map (·.2)
def dPut (kvs : List (Key × D)) (k : Key) (v : D) : List (Key × D) :=
  if kvs.any (fun kv => decide (kv.1 = k)) then kvs.map (fun kv => if kv.1 = k then (kv.1, v) else kv) else kvs ++ [(k, v)]
def containsF (S : Sto) (x y : D) : Option Bool := match y with
  | .tup ys => (match x.key with
    | some _ => inF x ys
    | none => none)
  | .lst ys => (match x.key with
    | some _ => inF x ys
    | none => none)
  | .str s => (match x with
    | .str z => some (!(Builtin.Str.occurrences s z 0 s.length 1).isEmpty)
    | _ => none)
  | .loc n => (match S[n]? with
    | some (.dic kvs) => (x.key).map fun k => (dLook kvs k).isSome
    | _ => none)
  | _ => none
def cmpF (S : Sto) (op : CmpOp) (x y : D) : Option Bool := match op with
  | .Eq => eqF x y
  | .NotEq => (eqF x y).map (!·)
  | .Lt => (match x with | .int i => (match y with | .int j => some (decide (i < j)) | _ => none) | _ => none)
  | .LtE => (match x with | .int i => (match y with | .int j => some (decide (i ≤ j)) | _ => none) | _ => none)
  | .Gt => (match x with | .int i => (match y with | .int j => some (decide (j < i)) | _ => none) | _ => none)
  | .GtE => (match x with | .int i => (match y with | .int j => some (decide (j ≤ i)) | _ => none) | _ => none)
  | .Is => if y.isNon then some x.isNon else none
  | .IsNot => if y.isNon then some (!x.isNon) else none
  | .In => containsF S x (rd S y)
  | .NotIn => (containsF S x (rd S y)).map (!·)
/-- truth -/
def truF (S : Sto) (d : D) : Option Bool := match rd S d with
  | .non => some false
  | .bl b => some b
  | .int i => some (i != 0)
  | .str s => if s.length ≤ 16777216 then some ((s.length : Int) != 0) else none
  | .tup xs => some (!xs.isEmpty)
  | .lst xs => some (!xs.isEmpty)
  | _ => none
def idxF (S : Sto) (a i : D) : Option D := match i with
  | .int k => (match rd S a with
    | .tup xs => atI xs k
    | .lst xs => atI xs k
    | .scr xs => atI xs k
    | .str z => if z.length ≤ 16777216 then (atI z.cps.toList k).map fun c => .str ⟨#[c]⟩ else none
    | .loc n => (match S[n]? with
      | some (.dic kvs) => dLook kvs (.inl k)
      | _ => none)
    | _ => none)
  | .str s => (match a with
    | .loc n => (match S[n]? with
      | some (.dic kvs) => dLook kvs (.inr s)
      | _ => none)
    | _ => none)
  | _ => none
def cutD {α : Type} (xs : List α) (lo hi : Option Int) : List α := (xs.drop (HT.sIx xs.length 0 lo)).take (HT.sIx xs.length xs.length hi - HT.sIx xs.length 0 lo)
def slcF (S : Sto) (a : D) (lo hi : Option Int) : Option D := match rd S a with
  | .tup xs => some (.tup (cutD xs lo hi))
  | .lst xs => some (.lst (cutD xs lo hi))
  | .str z => if z.length ≤ 16777216 then some (.str (cutS z lo hi)) else none
  | _ => none
def asInt (d : D) : Option Int := match d with
  | .int i => some i
  | _ => none
def asInts : List D → Option (List Int)
  | [] => some []
  | d :: ds => match d with
    | .int i => (asInts ds).map (i :: ·)
    | _ => none
def asStrs : List D → Option (List Str)
  | [] => some []
  | d :: ds => match d with
    | .str i => (asStrs ds).map (i :: ·)
    | _ => none
def maxL : Int → List Int → Int
  | m, [] => m
  | m, x :: xs => maxL (if m < x then x else m) xs
def minL : Int → List Int → Int
  | m, [] => m
  | m, x :: xs => minL (if x < m then x else m) xs
def isiF (S : Sto) (d : D) (t : Ty) : Option Bool := match d with
  | .non => some false
  | .bl _ => some (match t with | .bool => true | .int => true | _ => false)
  | .int _ => some (match t with | .int => true | _ => false)
  | .str _ => some (match t with | .str => true | _ => false)
  | .tup _ => some (match t with | .tuple => true | _ => false)
  | .lst _ => some (match t with | .list => true | _ => false)
  | _ => none
/-- turned round, as new -/
def revF (S : Sto) (a : D) : Option D := match rd S a with
  | .tup xs => some (.tup xs.reverse)
  | .lst xs => some (.lst xs.reverse)
  | _ => none
/-- items of a sequence -/
def seqF (S : Sto) (d : D) : Option (List D) := match d with
  | .tup xs => some xs
  | .lst xs => some xs
  | .scr xs => some xs
  | _ => none
/-- items, numbered -/
def enumD : Nat → List D → List D
  | _, [] => []
  | i, x :: xs => .tup [.int (i : Nat), x] :: enumD (i + 1) xs
/-- a new list: frozen, or kept in the store -/
def newL (tr : Bool) (xs : List D) (S : Sto) : R D := match tr with
  | false => .ok (.lst xs) S
  | true => .ok (.loc S.length) (S ++ [.lst xs])
def bltF (b : Blt) (tr : Bool) (ds : List D) (S : Sto) : R D := match b with
  | .len => (match ds with
    | [d] => (match rd S d with
      | .tup xs => .ok (.int xs.length) S
      | .lst xs => .ok (.int xs.length) S
      | .scr xs => .ok (.int xs.length) S
      | .str z => if z.length ≤ 16777216 then .ok (.int z.length) S else .bad
      | _ => .bad)
    | _ => .bad)
  | .int => (match ds with
    | [.int i] => .ok (.int i) S
    | _ => .bad)
  | .abs => (match ds with
    | [.int i] => .ok (.int (if i < 0 then -i else i)) S
    | _ => .bad)
  | .max2 => (match ds with
    | [.int i, .int j] => .ok (.int (if j > i then j else i)) S
    | _ => .bad)
  | .min2 => (match ds with
    | [.int i, .int j] => .ok (.int (if j < i then j else i)) S
    | _ => .bad)
  | .sum => (match ds with
    | [d] => (match rd S d with
      | .lst xs => (match asInts xs with
        | some ns => .ok (.int ns.sum) S
        | none => .bad)
      | _ => .bad)
    | _ => .bad)
  | .max1 => (match ds with
    | [d] => (match rd S d with
      | .lst xs => (match asInts xs with
        | some (n :: ns) => .ok (.int (maxL n ns)) S
        | _ => .bad)
      | .tup xs => (match asInts xs with
        | some (n :: ns) => .ok (.int (maxL n ns)) S
        | _ => .bad)
      | _ => .bad)
    | _ => .bad)
  | .min1 => (match ds with
    | [d] => (match rd S d with
      | .lst xs => (match asInts xs with
        | some (n :: ns) => .ok (.int (minL n ns)) S
        | _ => .bad)
      | .tup xs => (match asInts xs with
        | some (n :: ns) => .ok (.int (minL n ns)) S
        | _ => .bad)
      | _ => .bad)
    | _ => .bad)
  | .list => (match ds with
    | [d] => (match rd S d with
      | .tup xs => newL tr xs S
      | .lst xs => newL tr xs S
      | .scr xs => newL tr xs S
      | _ => .bad)
    | _ => .bad)
  | .tuple => (match ds with
    | [d] => (match rd S d with
      | .tup xs => .ok (.tup xs) S
      | .lst xs => .ok (.tup xs) S
      | _ => .bad)
    | _ => .bad)
  | .str => (match ds with
    | [.int i] => if i.natAbs.log2 < 1920 then .ok (.str (toString i)) S else .bad
    | _ => .bad)
  | .lcm => (match ds with
    | [.int i, .int j] => if 0 < i ∧ 0 < j ∧ i < 2 ^ 31 ∧ j < 2 ^ 31 then .ok (.int (Nat.lcm i.toNat j.toNat : Nat)) S else .bad
    | _ => .bad)
def isLst (S : Sto) (o : D) : Bool := match o with
  | .loc n => (match S[n]? with
    | some (.lst _) => true
    | _ => false)
  | _ => false
def isDic (S : Sto) (o : D) : Bool := match o with
  | .loc n => (match S[n]? with
    | some (.dic _) => true
    | _ => false)
  | _ => false
def isStr (o : D) : Bool := match o with
  | .str _ => true
  | _ => false
/-- what a method's receiver must be -/
def metP (m : Mth) (o : D) (S : Sto) : Bool := match m with
  | .append => isLst S o
  | .pop1 => isLst S o
  | .dget1 => isDic S o
  | .ins => isLst S o
  | .find2 => isStr o
  | .rfind1 => isStr o
  | .join => isStr o
def metF (m : Mth) (o : D) (ds : List D) (S : Sto) : R D := match m with
  | .append => (match o with
    | .loc n => (match S[n]? with
      | some (.lst xs) => (match ds with
        | [d] => if xs.length < 16777216 then .ok .non (S.set n (.lst (xs ++ [d]))) else .bad
        | _ => .bad)
      | _ => .bad)
    | _ => .bad)
  | .pop1 => (match o with
    | .loc n => (match S[n]? with
      | some (.lst xs) => (match ds with
        | [.int i] => if 0 ≤ i ∧ i < 2 ^ 62 then (match xs[i.toNat]? with
            | some y => .ok y (S.set n (.lst (xs.eraseIdx i.toNat)))
            | none => .bad) else .bad
        | _ => .bad)
      | _ => .bad)
    | _ => .bad)
  | .ins => (match o with
    | .loc n => (match S[n]? with
      | some (.lst xs) => (match ds with
        | [.int i, d] => if 0 ≤ i ∧ i < 2 ^ 62 ∧ xs.length < 16777216 then .ok .non (S.set n (.lst (xs.take i.toNat ++ [d] ++ xs.drop i.toNat))) else .bad
        | _ => .bad)
      | _ => .bad)
    | _ => .bad)
  | .find2 => (match o with
    | .str a => (match ds with
      | [.str b, .int i] => .ok (.int (Txt.find3 a b i)) S
      | _ => .bad)
    | _ => .bad)
  | .rfind1 => (match o with
    | .str a => (match ds with
      | [.str b] => .ok (.int (Txt.rfind a b)) S
      | _ => .bad)
    | _ => .bad)
  | .join => (match o with
    | .str a => (match ds with
      | [d] => (match rd S d with
        | .lst xs => (match asStrs xs with
          | some ys => if (ys.map (·.length)).sum + ys.length * a.length ≤ 16777216 then .ok (.str (Txt.join a ys)) S else .bad
          | none => .bad)
        | _ => .bad)
      | _ => .bad)
    | _ => .bad)
  | .dget1 => (match o with
    | .loc n => (match S[n]? with
      | some (.dic kvs) => (match ds with
        | [d] => (match d.key with
          | some k => .ok ((dLook kvs k).getD .non) S
          | none => .bad)
        | _ => .bad)
      | _ => .bad)
    | _ => .bad)
end L2.PV

/-! PV, part 1: how plain values lie in the abstract heap. -/
namespace L2.PV
open PySem PySem.Spec PyProof.Rows LamX

def Cell.live (c : Cell) : Bool := match c with
  | .gone => false
  | _ => true
/-- a state of the heap, the addresses of the store's cells, the store -/
structure Wd where
  H : Hp
  θ : List Addr
  S : Sto
  hid : List Addr
def Live (W : Wd) (a : Addr) : Prop := (∃ (n : Nat) (c : Cell), W.θ[n]? = some a ∧ W.S[n]? = some c ∧ c.live = true) ∨ a ∈ W.hid
/-- a list of the written part -/
def KSq (K : PySem.W.Frag) (a : Addr) (xs : List V) : Prop :=
  ∃ (o : Obj) (its : Array Value) (n : Nat), K.lookup a = some o ∧ o.cls = .type "list" ∧ o.dict = none ∧ o.data = .seq its n ∧ its.size ≤ sizeLine ∧ Vals xs its.toList
mutual
def VR (K : PySem.W.Frag) (W : Wd) : D → V → Prop
  | .non, v => v = .non
  | .bl b, v => v = .bl b
  | .int i, v => v = .int i
  | .str s, v => v = .str s
  | .tup xs, v => ∃ a vs, v = .ref a ∧ W.H a = some (.tup vs) ∧ VRs K W xs vs
  | .lst xs, v => ∃ a vs, v = .ref a ∧ W.H a = some (.lst vs) ∧ ¬ Live W a ∧ VRs K W xs vs
  | .scr xs, v => ∃ a vs, v = .ref a ∧ ((∃ o, W.H a = some (.frz o (.lst vs))) ∨ KSq K a vs) ∧ VRs K W xs vs
  | .loc n, v => ∃ a, v = .ref a ∧ W.θ[n]? = some a
def VRs (K : PySem.W.Frag) (W : Wd) : List D → List V → Prop
  | [], vs => vs = []
  | d :: ds, vs => ∃ x r, vs = x :: r ∧ VR K W d x ∧ VRs K W ds r
end
def CR (K : PySem.W.Frag) (W : Wd) (c : Cell) (o : Option HO) : Prop := match c with
  | .lst xs => ∃ vs, o = some (.lst vs) ∧ VRs K W xs vs
  | .dic kvs => ∃ vs, o = some (.dK vs) ∧ Paired (fun (p : Key × D) (q : Key × V) => p.1 = q.1 ∧ VR K W p.2 q.2) kvs vs
  | .gone => True
/-- the lambdas' tables that stand (by address and name) -/
structure Tb where
  tabs : List (Addr × Str)
  /-- what is wished of an exception -/
  ex : Xn → Wd → Prop
/-- a list or a dict -/
def LD (o : Option HO) : Prop := (∃ vs, o = some (.lst vs)) ∨ ∃ vs, o = some (.dK vs)
structure SR (K : PySem.W.Frag) (T : Tb) (W : Wd) : Prop where
  len : W.θ.length = W.S.length
  nd : W.θ.Nodup
  cell : ∀ (n : Nat) (c : Cell) (a : Addr), W.S[n]? = some c → W.θ[n]? = some a → CR K W c (W.H a)
  res : ∀ a ∈ W.θ, LD (W.H a)
  tabs : Tabs T.tabs W.H
  hid : ∀ a ∈ W.hid, a ∉ W.θ ∧ ∃ vs, W.H a = some (.lst vs)
structure Ext0 (W W' : Wd) : Prop where
  th : ∀ (n : Nat) (a : Addr), W.θ[n]? = some a → W'.θ[n]? = some a
  keep : ∀ (a : Addr) (o : HO), W.H a = some o → ¬ Live W a → (∀ ps, o ≠ .tbl ps) → W'.H a = some o ∧ ¬ Live W' a
structure Ext (W W' : Wd) : Prop extends Ext0 W W' where
  hid : ∀ a ∈ W.hid, a ∈ W'.hid ∧ W'.H a = W.H a
theorem Ext.refl (W : Wd) : Ext W W := ⟨⟨fun _ _ h => h, fun _ _ h l _ => ⟨h, l⟩⟩, fun _ h => ⟨h, rfl⟩⟩
theorem Ext.trans {A B C : Wd} (x : Ext A B) (y : Ext B C) : Ext A C :=
  ⟨⟨fun n a h => y.th n a (x.th n a h), fun a o h l t => let ⟨h1, l1⟩ := x.keep a o h l t; y.keep a o h1 l1 t⟩, fun a h => let ⟨h1, e1⟩ := x.hid a h; let ⟨h2, e2⟩ := y.hid a h1; ⟨h2, e2.trans e1⟩⟩

section
variable {K : PySem.W.Frag} {T : Tb} {W W' : Wd}
theorem VRs.iff : ∀ {ds : List D} {vs : List V}, VRs K W ds vs ↔ Paired (VR K W) ds vs
  | [], vs => ⟨fun h => by cases (show vs = [] from h); exact .nil, fun h => by cases h; rfl⟩
  | d :: ds, vs => ⟨fun h => by
      obtain ⟨x, r, rfl, h1, h2⟩ := h
      exact .cons h1 (VRs.iff.mp h2), fun h => by
      cases h with
      | cons h1 h2 => exact ⟨_, _, rfl, h1, VRs.iff.mpr h2⟩⟩
theorem VRs.nil : VRs K W [] [] := rfl
theorem VRs.cons {d : D} {v : V} {ds : List D} {vs : List V} (h : VR K W d v) (t : VRs K W ds vs) : VRs K W (d :: ds) (v :: vs) := ⟨v, vs, rfl, h, t⟩
theorem VRs.len : ∀ {ds : List D} {vs : List V}, VRs K W ds vs → ds.length = vs.length
  | [], vs, h => by cases (show vs = [] from h); rfl
  | d :: ds, vs, h => by
    obtain ⟨x, r, rfl, _, h2⟩ := h
    rw [List.length_cons, List.length_cons, h2.len]
theorem VRs.get : ∀ {ds : List D} {vs : List V} {i : Nat} {d : D}, VRs K W ds vs → ds[i]? = some d → ∃ v, vs[i]? = some v ∧ VR K W d v
  | [], _, _, _, _, e => by simp at e
  | d :: ds, vs, 0, d', h, e => by
    obtain ⟨x, r, rfl, h1, _⟩ := h
    have e' : d = d' := by simpa using e
    subst e'
    exact ⟨x, by simp, h1⟩
  | d :: ds, vs, i + 1, d', h, e => by
    obtain ⟨x, r, rfl, _, h2⟩ := h
    obtain ⟨v, e1, e2⟩ := h2.get (i := i) (d := d') (by simpa using e)
    exact ⟨v, by simpa using e1, e2⟩
theorem VRs.getV : ∀ {ds : List D} {vs : List V} {i : Nat} {v : V}, VRs K W ds vs → vs[i]? = some v → ∃ d, ds[i]? = some d ∧ VR K W d v
  | [], vs, _, _, h, e => by cases (show vs = [] from h); simp at e
  | d :: ds, vs, 0, v, h, e => by
    obtain ⟨x, r, rfl, h1, _⟩ := h
    have e' : x = v := by simpa using e
    subst e'
    exact ⟨d, by simp, h1⟩
  | d :: ds, vs, i + 1, v, h, e => by
    obtain ⟨x, r, rfl, _, h2⟩ := h
    obtain ⟨d', e1, e2⟩ := h2.getV (i := i) (v := v) (by simpa using e)
    exact ⟨d', by simpa using e1, e2⟩
theorem VRs.append : ∀ {ds es : List D} {vs us : List V}, VRs K W ds vs → VRs K W es us → VRs K W (ds ++ es) (vs ++ us)
  | [], _, vs, _, h, h' => by cases (show vs = [] from h); exact h'
  | d :: ds, _, vs, _, h, h' => by
    obtain ⟨x, r, rfl, h1, h2⟩ := h
    exact ⟨x, _, rfl, h1, h2.append h'⟩
theorem VRs.take : ∀ {ds : List D} {vs : List V} (n : Nat), VRs K W ds vs → VRs K W (ds.take n) (vs.take n)
  | [], vs, n, h => by cases (show vs = [] from h); simp [VRs]
  | d :: ds, vs, 0, h => by simp [VRs]
  | d :: ds, vs, n + 1, h => by
    obtain ⟨x, r, rfl, h1, h2⟩ := h
    exact ⟨x, _, rfl, h1, h2.take n⟩
theorem VRs.drop : ∀ {ds : List D} {vs : List V} (n : Nat), VRs K W ds vs → VRs K W (ds.drop n) (vs.drop n)
  | [], vs, n, h => by cases (show vs = [] from h); simp [VRs]
  | d :: ds, vs, 0, h => h
  | d :: ds, vs, n + 1, h => by
    obtain ⟨x, r, rfl, h1, h2⟩ := h
    exact h2.drop n
theorem VRs.cut {ds : List D} {vs : List V} (lo hi : Option Int) (h : VRs K W ds vs) : VRs K W (cutD ds lo hi) (cutV vs lo hi) := by
  unfold cutD cutV
  rw [← h.len]
  exact (h.drop _).take _
theorem VRs.rev : ∀ {ds : List D} {vs : List V}, VRs K W ds vs → VRs K W ds.reverse vs.reverse
  | [], vs, h => by cases (show vs = [] from h); exact h
  | d :: ds, vs, h => by
    obtain ⟨x, r, rfl, h1, h2⟩ := h
    rw [List.reverse_cons, List.reverse_cons]
    exact h2.rev.append ⟨x, [], rfl, h1, rfl⟩
theorem VRs.eraseIdx : ∀ {ds : List D} {vs : List V} (i : Nat), VRs K W ds vs → VRs K W (ds.eraseIdx i) (vs.eraseIdx i)
  | [], vs, n, h => by cases (show vs = [] from h); simp [VRs]
  | d :: ds, vs, 0, h => by
    obtain ⟨x, r, rfl, h1, h2⟩ := h
    exact h2
  | d :: ds, vs, i + 1, h => by
    obtain ⟨x, r, rfl, h1, h2⟩ := h
    exact ⟨x, _, rfl, h1, h2.eraseIdx i⟩
theorem VRs.set {d : D} {v : V} (r : VR K W d v) : ∀ {ds : List D} {vs : List V} (i : Nat), VRs K W ds vs → VRs K W (ds.set i d) (vs.set i v)
  | [], vs, n, h => by cases (show vs = [] from h); simp [VRs]
  | d :: ds, vs, 0, h => by
    obtain ⟨x, r', rfl, h1, h2⟩ := h
    exact ⟨v, _, rfl, r, h2⟩
  | d :: ds, vs, i + 1, h => by
    obtain ⟨x, r', rfl, h1, h2⟩ := h
    exact ⟨x, _, rfl, h1, VRs.set r i h2⟩
theorem VRs.rep {ds : List D} {vs : List V} (h : VRs K W ds vs) : ∀ n : Nat, VRs K W (List.replicate n ds).flatten (List.replicate n vs).flatten
  | 0 => rfl
  | n + 1 => by
    rw [List.replicate_succ, List.replicate_succ, List.flatten_cons, List.flatten_cons]
    exact h.append (h.rep n)
theorem VRs.at {ds : List D} {vs : List V} {i : Int} {d : D} (h : VRs K W ds vs) (e : atI ds i = some d) : ∃ v, atI vs i = some v ∧ VR K W d v := by
  unfold atI at e ⊢
  rw [← h.len]
  cases q : ixN ds.length i with
  | none => rw [q] at e; cases e
  | some j =>
    rw [q] at e
    obtain ⟨v, e1, e2⟩ := h.get (i := j) (d := d) e
    exact ⟨v, e1, e2⟩
theorem VRs.ints : ∀ {ds : List D} {vs : List V} {ns : List Int}, VRs K W ds vs → asInts ds = some ns → vs = ns.map V.int
  | [], vs, ns, h, e => by
    cases (show vs = [] from h)
    cases e
    rfl
  | d :: ds, vs, ns, h, e => by
    obtain ⟨x, r, rfl, h1, h2⟩ := h
    cases d with
    | int i =>
      have e' : (asInts ds).map (i :: ·) = some ns := e
      cases q : asInts ds with
      | none => rw [q] at e'; cases e'
      | some ms =>
        rw [q] at e'
        cases e'
        cases (show x = V.int i from h1)
        rw [h2.ints q]
        rfl
    | _ => cases e
theorem VRs.strs : ∀ {ds : List D} {vs : List V} {ns : List Str}, VRs K W ds vs → asStrs ds = some ns → vs = ns.map V.str
  | [], vs, ns, h, e => by
    cases (show vs = [] from h)
    cases e
    rfl
  | d :: ds, vs, ns, h, e => by
    obtain ⟨x, r, rfl, h1, h2⟩ := h
    cases d with
    | str i =>
      have e' : (asStrs ds).map (i :: ·) = some ns := e
      cases q : asStrs ds with
      | none => rw [q] at e'; cases e'
      | some ms =>
        rw [q] at e'
        cases e'
        cases (show x = V.str i from h1)
        rw [h2.strs q]
        rfl
    | _ => cases e
/-- a live address holds a list or a dict -/
theorem SR.live (s : SR K T W) {a : Addr} (l : Live W a) : (∃ vs, W.H a = some (.lst vs)) ∨ ∃ vs, W.H a = some (.dK vs) := by
  rcases l with ⟨n, c, h1, h2, h3⟩ | l
  · have q := s.cell n c a h2 h1
    cases c with
    | lst xs => obtain ⟨vs, e, _⟩ := q; exact .inl ⟨vs, e⟩
    | dic kvs => obtain ⟨vs, e, _⟩ := q; exact .inr ⟨vs, e⟩
    | gone => cases h3
  · exact .inl (s.hid a l).2
theorem SR.notLive (s : SR K T W) {a : Addr} {o : HO} (e : W.H a = some o) (h1 : ∀ vs, o ≠ .lst vs) (h2 : ∀ vs, o ≠ .dK vs) : ¬ Live W a := fun l => by
  rcases s.live l with ⟨vs, q⟩ | ⟨vs, q⟩
  · rw [e] at q; cases q; exact h1 _ rfl
  · rw [e] at q; cases q; exact h2 _ rfl
theorem SR.freshLive (s : SR K T W) {p : Addr} (e : W.H p = none) : ¬ Live W p := fun l => by
  rcases s.live l with ⟨vs, q⟩ | ⟨vs, q⟩ <;> (rw [e] at q; cases q)
theorem SR.freshTh (s : SR K T W) {p : Addr} (e : W.H p = none) : p ∉ W.θ := fun l => by
  rcases s.res p l with ⟨vs, q⟩ | ⟨vs, q⟩ <;> (rw [e] at q; cases q)
theorem CR.ld {c : Cell} {o : Option HO} (hl : c.live = true) (h : CR K W c o) : LD o := by
  cases c with
  | lst xs => obtain ⟨vs, e, _⟩ := h; exact .inl ⟨vs, e⟩
  | dic kvs => obtain ⟨vs, e, _⟩ := h; exact .inr ⟨vs, e⟩
  | gone => cases hl
mutual
theorem VR.mono (s : SR K T W) (x : Ext0 W W') : ∀ {d : D} {v : V}, VR K W d v → VR K W' d v
  | .non, v, h => h
  | .bl b, v, h => h
  | .int i, v, h => h
  | .str s, v, h => h
  | .tup xs, v, h => by
    obtain ⟨a, vs, e, h1, h2⟩ := h
    exact ⟨a, vs, e, (x.keep a _ h1 (s.notLive h1 (fun _ z => nomatch z) fun _ z => nomatch z) fun _ z => nomatch z).1, VRs.mono s x h2⟩
  | .lst xs, v, h => by
    obtain ⟨a, vs, e, h1, h2, h3⟩ := h
    obtain ⟨k1, k2⟩ := x.keep a _ h1 h2 fun _ z => nomatch z
    exact ⟨a, vs, e, k1, k2, VRs.mono s x h3⟩
  | .scr xs, v, h => by
    obtain ⟨a, vs, e, h1, h2⟩ := h
    refine ⟨a, vs, e, ?_, VRs.mono s x h2⟩
    rcases h1 with ⟨o, h1⟩ | h1
    · exact .inl ⟨o, (x.keep a _ h1 (s.notLive h1 (fun _ z => nomatch z) fun _ z => nomatch z) fun _ z => nomatch z).1⟩
    · exact .inr h1
  | .loc n, v, h => by
    obtain ⟨a, e, h1⟩ := h
    exact ⟨a, e, x.th n a h1⟩
theorem VRs.mono (s : SR K T W) (x : Ext0 W W') : ∀ {ds : List D} {vs : List V}, VRs K W ds vs → VRs K W' ds vs
  | [], vs, h => h
  | d :: ds, vs, h => by
    obtain ⟨y, r, e, h1, h2⟩ := h
    exact ⟨y, r, e, VR.mono s x h1, VRs.mono s x h2⟩
end
theorem CR.mono (s : SR K T W) (x : Ext0 W W') {c : Cell} {o : Option HO} (h : CR K W c o) : CR K W' c o := by
  cases c with
  | lst xs => obtain ⟨vs, e, h⟩ := h; exact ⟨vs, e, VRs.mono s x h⟩
  | dic kvs => obtain ⟨vs, e, h⟩ := h; exact ⟨vs, e, Paired.mapP h fun p q z => ⟨z.1, VR.mono s x z.2⟩⟩
  | gone => trivial
/-! ### the names' places -/
structure ER (K : PySem.W.Frag) (W : Wd) (env : En) (σ : St) : Prop where
  len : env.length = σ.length
  get : ∀ (i : Nat) (d : D), env[i]? = some (some d) → ∃ v, σ[i]? = some (some v) ∧ VR K W d v
theorem ER.mono (s : SR K T W) (x : Ext0 W W') {env : En} {σ : St} (h : ER K W env σ) : ER K W' env σ :=
  ⟨h.len, fun i d e => let ⟨v, e1, e2⟩ := h.get i d e; ⟨v, e1, VR.mono s x e2⟩⟩
theorem ER.set {env : En} {σ : St} {d : D} {v : V} (i : Nat) (h : ER K W env σ) (r : VR K W d v) : ER K W (env.set i (some d)) (σ.set i (some v)) := by
  refine ⟨by rw [List.length_set, List.length_set]; exact h.len, fun j d' e => ?_⟩
  by_cases hj : i = j
  · subst hj
    by_cases hl : i < env.length
    · rw [List.getElem?_set_self hl] at e
      cases e
      exact ⟨v, List.getElem?_set_self (by rw [← h.len]; exact hl), r⟩
    · rw [List.getElem?_eq_none (by simpa using hl)] at e
      cases e
  · rw [List.getElem?_set_ne hj] at e ⊢
    exact h.get j d' e

/-! ### what is new, what is written -/
theorem SR.hidNe (s : SR K T W) {p a : Addr} (hp : W.H p = none) (h : a ∈ W.hid) : a ≠ p := fun e => by
  obtain ⟨_, vs, q⟩ := s.hid a h
  rw [e, hp] at q
  cases q
/-- a new object at p, not in the store -/
theorem ext_new {p : Addr} {o : HO} (s : SR K T W) (hp : W.H p = none) : Ext W ⟨upd W.H p o, W.θ, W.S, W.hid⟩ :=
  ⟨⟨fun _ _ h => h, fun a u h l _ => ⟨by show upd W.H p o a = _; rw [upd_ne (ne_of_none h hp)]; exact h, l⟩⟩, fun a h => ⟨h, by
    show upd W.H p o a = _
    rw [upd_ne (s.hidNe hp h)]⟩⟩
theorem tabs_new {H : Hp} {p : Addr} {o : HO} (t : Tabs T.tabs H) (hp : H p = none) : Tabs T.tabs (upd H p o) := t.ext fun b u e => by rw [upd_ne (ne_of_none e hp)]; exact e
theorem sr_new {p : Addr} {o : HO} (s : SR K T W) (hp : W.H p = none) : SR K T ⟨upd W.H p o, W.θ, W.S, W.hid⟩ := by
  refine ⟨s.len, s.nd, fun n c a h1 h2 => ?_, fun a ha => ?_, tabs_new s.tabs hp, fun a ha => ⟨(s.hid a ha).1, ?_⟩⟩
  · have hne : a ≠ p := fun e => s.freshTh hp (by rw [← e]; exact List.mem_of_getElem? h2)
    show CR K _ c (upd W.H p o a)
    rw [upd_ne hne]
    exact (s.cell n c a h1 h2).mono s (ext_new s hp).toExt0
  · show LD (upd W.H p o a)
    rw [upd_ne (fun e => s.freshTh hp (by rw [← e]; exact ha))]
    exact s.res a ha
  · show ∃ vs, upd W.H p o a = _
    rw [upd_ne (s.hidNe hp ha)]
    exact (s.hid a ha).2
theorem vr_newTup {p : Addr} {ds : List D} {vs : List V} (s : SR K T W) (hp : W.H p = none) (h : VRs K W ds vs) : VR K ⟨upd W.H p (.tup vs), W.θ, W.S, W.hid⟩ (.tup ds) (.ref p) :=
  ⟨p, vs, rfl, upd_same, h.mono s (ext_new s hp).toExt0⟩
theorem vr_newLst {p : Addr} {ds : List D} {vs : List V} (s : SR K T W) (hp : W.H p = none) (h : VRs K W ds vs) : VR K ⟨upd W.H p (.lst vs), W.θ, W.S, W.hid⟩ (.lst ds) (.ref p) :=
  ⟨p, vs, rfl, upd_same, s.freshLive hp, h.mono s (ext_new s hp).toExt0⟩
/-- a new object at p, in the store -/
theorem get_snoc {α : Type} {l : List α} {x y : α} {n : Nat} (h : (l ++ [x])[n]? = some y) : (l[n]? = some y) ∨ (n = l.length ∧ y = x) := by
  by_cases hn : n < l.length
  · rw [List.getElem?_append_left hn] at h
    exact .inl h
  · rw [List.getElem?_append_right (by omega)] at h
    have e : n - l.length = 0 := by
      by_cases q : n - l.length = 0
      · exact q
      · rw [List.getElem?_eq_none (by simp; omega)] at h
        cases h
    rw [e] at h
    have h' : x = y := by simpa using h
    exact .inr ⟨by omega, h'.symm⟩
theorem live_newC {p : Addr} {H : Hp} {c : Cell} (s : SR K T W) {a : Addr} (ha : a ≠ p) (q : Live ⟨H, W.θ ++ [p], W.S ++ [c], W.hid⟩ a) : Live W a := by
  rcases q with ⟨n, c', h1, h2, h3⟩ | q
  · rcases get_snoc h1 with h1 | ⟨_, e⟩
    · rcases get_snoc h2 with h2 | ⟨e, _⟩
      · exact .inl ⟨n, c', h1, h2, h3⟩
      · have := (List.getElem?_eq_some_iff.mp h1).1
        rw [s.len] at this
        omega
    · exact absurd e ha
  · exact .inr q
theorem ext_newC {p : Addr} {o : HO} {c : Cell} (s : SR K T W) (hp : W.H p = none) : Ext W ⟨upd W.H p o, W.θ ++ [p], W.S ++ [c], W.hid⟩ := by
  refine ⟨⟨fun n a h => ?_, fun a u h l _ => ⟨by show upd W.H p o a = _; rw [upd_ne (ne_of_none h hp)]; exact h, fun q => l (live_newC s (ne_of_none h hp) q)⟩⟩, fun a h => ⟨h, by
    show upd W.H p o a = _
    rw [upd_ne (s.hidNe hp h)]⟩⟩
  show (W.θ ++ [p])[n]? = some a
  rw [List.getElem?_append_left (List.getElem?_eq_some_iff.mp h).1]
  exact h
/-- the store grows by the object at p that stands already, hidden or new -/
theorem sr_grow {p : Addr} {H' : Hp} {o : HO} {c : Cell} {hid' : List Addr} (s : SR K T W) (hθ : p ∉ W.θ) (e : ∀ a, a ≠ p → H' a = W.H a) (ep : H' p = some o) (hs : ∀ a ∈ hid', a ∈ W.hid ∧ a ≠ p)
    (x : Ext0 W ⟨H', W.θ ++ [p], W.S ++ [c], hid'⟩) (h : CR K W c (some o)) (tb : Tabs T.tabs H') (hcl : c.live = true) : SR K T ⟨H', W.θ ++ [p], W.S ++ [c], hid'⟩ := by
  refine ⟨by simp [s.len], List.nodup_append.mpr ⟨s.nd, by simp, fun a ha b hb => ?_⟩, fun n c' a h1 h2 => ?_, fun a ha => ?_, tb, fun a ha => ?_⟩
  · have hb' : b = p := by simpa using hb
    subst hb'
    exact fun e => hθ (by rw [← e]; exact ha)
  · show CR K _ c' (H' a)
    rcases get_snoc h1 with q1 | ⟨e1, e2⟩
    · rcases get_snoc h2 with q2 | ⟨e, _⟩
      · have hne : a ≠ p := fun e => hθ (by rw [← e]; exact List.mem_of_getElem? q2)
        rw [e _ hne]
        exact (s.cell n c' a q1 q2).mono s x
      · have := (List.getElem?_eq_some_iff.mp q1).1
        rw [← s.len] at this
        omega
    · rcases get_snoc h2 with q2 | ⟨_, e⟩
      · have := (List.getElem?_eq_some_iff.mp q2).1
        rw [s.len] at this
        omega
      · rw [e, e2, ep]
        exact h.mono s x
  · show LD (H' a)
    by_cases ea : a = p
    · rw [ea, ep]; exact h.ld hcl
    · rw [e _ ea]
      rcases List.mem_append.mp ha with q | q
      · exact s.res a q
      · exact absurd (by simpa using q) ea
  · obtain ⟨h1, h2⟩ := hs a ha
    obtain ⟨h3, vs, h4⟩ := s.hid a h1
    refine ⟨fun z => ?_, vs, (e _ h2).trans h4⟩
    rcases List.mem_append.mp z with q | q
    · exact h3 q
    · exact h2 (by simpa using q)
theorem sr_newC {p : Addr} {o : HO} {c : Cell} (s : SR K T W) (hp : W.H p = none) (h : CR K W c (some o)) (hcl : c.live = true := by rfl) : SR K T ⟨upd W.H p o, W.θ ++ [p], W.S ++ [c], W.hid⟩ :=
  sr_grow s (s.freshTh hp) (fun a ha => upd_ne ha) upd_same (fun a ha => ⟨ha, s.hidNe hp ha⟩) (ext_newC s hp).toExt0 h (tabs_new s.tabs hp) hcl
theorem vr_newC {p : Addr} {H : Hp} {c : Cell} {hid : List Addr} (s : SR K T W) : VR K ⟨H, W.θ ++ [p], W.S ++ [c], hid⟩ (.loc W.S.length) (.ref p) :=
  ⟨p, rfl, by show (W.θ ++ [p])[W.S.length]? = some p; rw [← s.len, List.getElem?_append_right (Nat.le_refl _), Nat.sub_self]; rfl⟩
theorem nodup_at {α : Type} {N : List α} (hN : N.Nodup) {i j : Nat} {x : α} (a : N[i]? = some x) (b : N[j]? = some x) : i = j := by
  obtain ⟨h1, e1⟩ := List.getElem?_eq_some_iff.mp a
  obtain ⟨h2, e2⟩ := List.getElem?_eq_some_iff.mp b
  exact (List.getElem_inj hN).mp (e1.trans e2.symm)
/-- a cell is written -/
theorem set_live {n : Nat} {c c' : Cell} (h : W.S[n]? = some c') (hl : c'.live = true) {H : Hp} {a : Addr} : Live ⟨H, W.θ, W.S.set n c, W.hid⟩ a → Live W a := fun q => by
  rcases q with ⟨m, d, h1, h2, h3⟩ | q
  · by_cases e : n = m
    · subst e
      exact .inl ⟨n, c', h1, h, hl⟩
    · have h2' : (W.S.set n c)[m]? = some d := h2
      rw [List.getElem?_set_ne e] at h2'
      exact .inl ⟨m, d, h1, h2', h3⟩
  · exact .inr q
theorem SR.hidTh (s : SR K T W) {n : Nat} {a b : Addr} (ha : W.θ[n]? = some a) (h : b ∈ W.hid) : b ≠ a := fun e => (s.hid b h).1 (by rw [e]; exact List.mem_of_getElem? ha)
theorem ext_set {n : Nat} {a : Addr} {o : HO} {c c' : Cell} (s : SR K T W) (ha : W.θ[n]? = some a) (h : W.S[n]? = some c') (hl : c'.live = true) : Ext W ⟨upd W.H a o, W.θ, W.S.set n c, W.hid⟩ :=
  ⟨⟨fun _ _ h => h, fun b u q l _ => ⟨by
    show upd W.H a o b = _
    rw [upd_ne fun e => l (by rw [e]; exact .inl ⟨n, c', ha, h, hl⟩)]
    exact q, fun z => l (set_live h hl z)⟩⟩, fun b hb => ⟨hb, by
    show upd W.H a o b = _
    rw [upd_ne (s.hidTh ha hb)]⟩⟩
theorem tabs_set {H : Hp} {a : Addr} {o u : HO} (t : Tabs T.tabs H) (ha : H a = some u) (h1 : (∃ vs, u = .lst vs) ∨ ∃ vs, u = .dK vs) : Tabs T.tabs (upd H a o) := fun p hp => by
  obtain ⟨ps, e, ok, hc⟩ := t p hp
  have ne1 : p.1 ≠ a := fun z => by
    rw [z, ha] at e
    rcases h1 with ⟨vs, rfl⟩ | ⟨vs, rfl⟩ <;> cases e
  refine ⟨ps, by rw [upd_ne ne1]; exact e, ok, fun pos cv q => ?_⟩
  obtain ⟨c, e1, e2⟩ := hc pos cv q
  refine ⟨c, e1, ?_⟩
  rw [upd_ne fun z => ?_]
  · exact e2
  · rw [z, ha] at e2
    unfold CodeO at e2
    rcases h1 with ⟨vs, rfl⟩ | ⟨vs, rfl⟩ <;> cases e2
theorem sr_set {n : Nat} {a : Addr} {o : HO} {c c' : Cell} (s : SR K T W) (ha : W.θ[n]? = some a) (h : W.S[n]? = some c') (hl : c'.live = true) (hc : CR K W c (some o)) (hcl : c.live = true := by rfl) : SR K T ⟨upd W.H a o, W.θ, W.S.set n c, W.hid⟩ := by
  have x : Ext W ⟨upd W.H a o, W.θ, W.S.set n c, W.hid⟩ := ext_set s ha h hl
  refine ⟨by simp [s.len], s.nd, fun m d b h1 h2 => ?_, fun b hb => ?_, ?_, fun b hb => ⟨(s.hid b hb).1, ?_⟩⟩
  · show CR K _ d (upd W.H a o b)
    have h1' : (W.S.set n c)[m]? = some d := h1
    by_cases e : n = m
    · subst e
      rw [List.getElem?_set_self (List.getElem?_eq_some_iff.mp h).1] at h1'
      cases h1'
      have e2 : b = a := by
        have h2' : W.θ[n]? = some b := h2
        rw [ha] at h2'
        exact (Option.some.inj h2').symm
      rw [e2, upd_same]
      exact hc.mono s x.toExt0
    · rw [List.getElem?_set_ne e] at h1'
      have hne : b ≠ a := fun z => e (nodup_at s.nd ha (by rw [← z]; exact h2))
      rw [upd_ne hne]
      exact (s.cell m d b h1' h2).mono s x.toExt0
  · show LD (upd W.H a o b)
    by_cases e : b = a
    · rw [e, upd_same]; exact hc.ld hcl
    · rw [upd_ne e]; exact s.res b hb
  · rcases s.live (.inl ⟨n, c', ha, h, hl⟩) with ⟨vs, e⟩ | ⟨vs, e⟩
    · exact tabs_set s.tabs e (.inl ⟨_, rfl⟩)
    · exact tabs_set s.tabs e (.inr ⟨_, rfl⟩)
  · show ∃ vs, upd W.H a o b = _
    rw [upd_ne (s.hidTh ha hb)]
    exact (s.hid b hb).2
/-- a cell leaves the store: its list stays as it is -/
theorem gone_live {n : Nat} {H : Hp} {a : Addr} : Live ⟨H, W.θ, W.S.set n .gone, W.hid⟩ a → Live W a := fun q => by
  rcases q with ⟨m, d, h1, h2, h3⟩ | q
  · have h2' : (W.S.set n .gone)[m]? = some d := h2
    by_cases e : n = m
    · subst e
      by_cases hl : n < W.S.length
      · rw [List.getElem?_set_self hl] at h2'
        cases h2'
        cases h3
      · rw [List.getElem?_eq_none (by simpa using hl)] at h2'
        cases h2'
    · rw [List.getElem?_set_ne e] at h2'
      exact .inl ⟨m, d, h1, h2', h3⟩
  · exact .inr q
theorem ext_gone {n : Nat} : Ext W ⟨W.H, W.θ, W.S.set n .gone, W.hid⟩ := ⟨⟨fun _ _ h => h, fun b u q l _ => ⟨q, fun z => l (gone_live z)⟩⟩, fun b hb => ⟨hb, rfl⟩⟩
theorem sr_gone {n : Nat} (s : SR K T W) : SR K T ⟨W.H, W.θ, W.S.set n .gone, W.hid⟩ := by
  refine ⟨by simp [s.len], s.nd, fun m d b h1 h2 => ?_, s.res, s.tabs, s.hid⟩
  have h1' : (W.S.set n .gone)[m]? = some d := h1
  by_cases e : n = m
  · subst e
    by_cases hl : n < W.S.length
    · rw [List.getElem?_set_self hl] at h1'
      cases h1'
      trivial
    · rw [List.getElem?_eq_none (by simpa using hl)] at h1'
      cases h1'
  · rw [List.getElem?_set_ne e] at h1'
    exact (s.cell m d b h1' h2).mono s ext_gone.toExt0
theorem vr_gone {n : Nat} {a : Addr} {ds : List D} (s : SR K T W) (ha : W.θ[n]? = some a) (h : W.S[n]? = some (.lst ds)) : VR K ⟨W.H, W.θ, W.S.set n .gone, W.hid⟩ (.lst ds) (.ref a) := by
  obtain ⟨vs, e, r⟩ := s.cell n _ a h ha
  refine ⟨a, vs, rfl, e, fun q => ?_, r.mono s ext_gone.toExt0⟩
  rcases q with ⟨m, d, h1, h2, h3⟩ | q
  · have em : n = m := nodup_at s.nd ha h1
    subst em
    have h2' : (W.S.set n .gone)[n]? = some d := h2
    rw [List.getElem?_set_self (List.getElem?_eq_some_iff.mp h).1] at h2'
    cases h2'
    cases h3
  · exact s.hidTh ha q rfl
/-- a list that is being built: hidden -/
theorem ext_hide {p : Addr} {vs : List V} (s : SR K T W) (hp : W.H p = none) : Ext W ⟨upd W.H p (.lst vs), W.θ, W.S, p :: W.hid⟩ :=
  ⟨⟨fun _ _ h => h, fun a u h l _ => ⟨by show upd W.H p _ a = _; rw [upd_ne (ne_of_none h hp)]; exact h, fun q => by
    rcases q with q | q
    · exact l (.inl q)
    · rcases List.mem_cons.mp q with q | q
      · exact ne_of_none h hp q
      · exact l (.inr q)⟩⟩, fun a h => ⟨List.mem_cons_of_mem _ h, by
    show upd W.H p _ a = _
    rw [upd_ne (s.hidNe hp h)]⟩⟩
theorem sr_hide {p : Addr} {vs : List V} (s : SR K T W) (hp : W.H p = none) : SR K T ⟨upd W.H p (.lst vs), W.θ, W.S, p :: W.hid⟩ := by
  have s1 := sr_new (o := .lst vs) s hp
  refine ⟨s1.len, s1.nd, fun n c a h1 h2 => ?_, s1.res, s1.tabs, fun a ha => ?_⟩
  · have hne : a ≠ p := fun e => s.freshTh hp (by rw [← e]; exact List.mem_of_getElem? h2)
    show CR K _ c (upd W.H p _ a)
    rw [upd_ne hne]
    exact (s.cell n c a h1 h2).mono s (ext_hide s hp).toExt0
  · rcases List.mem_cons.mp ha with e | ha
    · subst e
      exact ⟨s.freshTh hp, vs, upd_same⟩
    · exact s1.hid a ha
/-- it grows -/
theorem ext_hset {p : Addr} {vs : List V} (hp : p ∈ W.hid) : Ext0 W ⟨upd W.H p (.lst vs), W.θ, W.S, W.hid⟩ :=
  ⟨fun _ _ h => h, fun a u h l _ => ⟨by
    show upd W.H p _ a = _
    rw [upd_ne fun e => l (by rw [e]; exact .inr hp)]
    exact h, l⟩⟩
theorem sr_hset {p : Addr} {vs : List V} (s : SR K T W) (hp : p ∈ W.hid) : SR K T ⟨upd W.H p (.lst vs), W.θ, W.S, W.hid⟩ := by
  obtain ⟨h1, us, h2⟩ := s.hid p hp
  refine ⟨s.len, s.nd, fun n c a q1 q2 => ?_, fun a ha => ?_, tabs_set s.tabs h2 (.inl ⟨_, rfl⟩), fun a ha => ⟨(s.hid a ha).1, ?_⟩⟩
  · show CR K _ c (upd W.H p _ a)
    rw [upd_ne fun e => h1 (by rw [← e]; exact List.mem_of_getElem? q2)]
    exact (s.cell n c a q1 q2).mono s (ext_hset hp)
  · show LD (upd W.H p _ a)
    by_cases e : a = p
    · rw [e, upd_same]; exact .inl ⟨_, rfl⟩
    · rw [upd_ne e]; exact s.res a ha
  · show ∃ vs, upd W.H p _ a = _
    by_cases e : a = p
    · rw [e, upd_same]; exact ⟨_, rfl⟩
    · rw [upd_ne e]; exact (s.hid a ha).2
/-- it is done: no longer hidden, read from now on -/
theorem ext_bare {p : Addr} {hid : List Addr} (h : W.hid = p :: hid) : Ext0 W ⟨W.H, W.θ, W.S, hid⟩ :=
  ⟨fun _ _ q => q, fun a u q l _ => ⟨q, fun z => l (by
    rcases z with z | z
    · exact .inl z
    · exact .inr (by rw [h]; exact List.mem_cons_of_mem _ z))⟩⟩
theorem sr_bare {p : Addr} {hid : List Addr} (s : SR K T W) (h : W.hid = p :: hid) : SR K T ⟨W.H, W.θ, W.S, hid⟩ :=
  ⟨s.len, s.nd, fun n c a h1 h2 => (s.cell n c a h1 h2).mono s (ext_bare h), s.res, s.tabs, fun a ha => s.hid a (by rw [h]; exact List.mem_cons_of_mem _ ha)⟩
theorem vr_bare {p : Addr} {hid : List Addr} {ds : List D} {vs : List V} (s : SR K T W) (h : W.hid = p :: hid) (hn : p ∉ hid) (e : W.H p = some (.lst vs)) (r : VRs K W ds vs) : VR K ⟨W.H, W.θ, W.S, hid⟩ (.lst ds) (.ref p) := by
  refine ⟨p, vs, rfl, e, fun q => ?_, r.mono s (ext_bare h)⟩
  rcases q with ⟨n, c, h1, _⟩ | q
  · exact (s.hid p (by rw [h]; exact List.mem_cons_self)).1 (List.mem_of_getElem? h1)
  · exact hn q
/-- .. or into the store -/
theorem ext_hstore {p : Addr} {hid : List Addr} {c : Cell} (s : SR K T W) (h : W.hid = p :: hid) : Ext0 W ⟨W.H, W.θ ++ [p], W.S ++ [c], hid⟩ :=
  ⟨fun n a q => by
    show (W.θ ++ [p])[n]? = some a
    rw [List.getElem?_append_left (List.getElem?_eq_some_iff.mp q).1]
    exact q, fun a u q l _ => ⟨q, fun z => by
    by_cases e : a = p
    · exact l (by rw [e]; exact .inr (by rw [h]; exact List.mem_cons_self))
    · refine l (live_newC (H := W.H) (c := c) s e ?_)
      rcases z with z | z
      · exact .inl z
      · exact .inr (by show a ∈ W.hid; rw [h]; exact List.mem_cons_of_mem _ z)⟩⟩
theorem sr_hstore {p : Addr} {hid : List Addr} {ds : List D} {vs : List V} (s : SR K T W) (h : W.hid = p :: hid) (hn : p ∉ hid) (e : W.H p = some (.lst vs)) (r : VRs K W ds vs) : SR K T ⟨W.H, W.θ ++ [p], W.S ++ [.lst ds], hid⟩ :=
  sr_grow s (s.hid p (by rw [h]; exact List.mem_cons_self)).1 (fun _ _ => rfl) e (fun a ha => ⟨by rw [h]; exact List.mem_cons_of_mem _ ha, fun z => hn (by rw [← z]; exact ha)⟩) (c := .lst ds) (ext_hstore s h) ⟨vs, rfl, r⟩ s.tabs rfl
/-- reading -/
theorem rd_lst {d : D} {v : V} {xs : List D} (s : SR K T W) (h : VR K W d v) (e : rd W.S d = .lst xs) : ∃ a vs, v = .ref a ∧ W.H a = some (.lst vs) ∧ VRs K W xs vs := by
  cases d with
  | lst ys =>
    cases (show D.lst ys = .lst xs from e)
    obtain ⟨a, vs, e1, e2, _, e3⟩ := h
    exact ⟨a, vs, e1, e2, e3⟩
  | loc n =>
    have e' : (match W.S[n]? with
      | some (.lst xs) => D.lst xs
      | _ => .loc n) = .lst xs := e
    obtain ⟨a, e1, e2⟩ := h
    cases q : W.S[n]? with
    | none => rw [q] at e'; cases e'
    | some c =>
      rw [q] at e'
      cases c with
      | lst ys =>
        cases (show D.lst ys = .lst xs from e')
        obtain ⟨vs, e3, e4⟩ := s.cell n _ a q e2
        exact ⟨a, vs, e1, e3, e4⟩
      | _ => cases e'
  | _ => cases e
theorem rd_other {d : D} {S : Sto} {d' : D} (e : rd S d = d') (h1 : ∀ xs, d' ≠ .lst xs) : d = d' := by
  cases d with
  | loc n =>
    have e' : (match S[n]? with
      | some (.lst xs) => D.lst xs
      | _ => .loc n) = d' := e
    cases q : S[n]? with
    | none => rw [q] at e'; exact e'
    | some c =>
      rw [q] at e'
      cases c with
      | lst ys => exact absurd e'.symm (h1 _)
      | _ => exact e'
  | _ => exact e
end
end L2.PV

/-! PV, part 2: the evaluator. -/
namespace L2.PV
open PySem PySem.Spec PyProof.Rows LamX

inductive Fl where
  | nx | ret (d : D) | brk | cnt
/-- what the defs do, by number -/
abbrev Den := Nat → List D → Sto → R D
def wipeD (e : En) : List Nat → En
  | [] => e
  | v :: vs => (wipeD e vs).set v none
def asgs : List Nat → List D → En → En
  | i :: is, d :: ds, e => asgs is ds (e.set i (some d))
  | _, _, e => e
def asgT (tg : Tg) (d : D) (e : En) : Option En := match tg with
  | .nm i => some (e.set i (some d))
  | .tp is => (match d with
    | .tup ds => if is.length = ds.length then some (asgs is ds e) else none
    | _ => none)
/-- the items of a comprehension -/
def lcL (f : D → Sto → R (Option D)) : List D → Sto → R (List D)
  | [], S => .ok [] S
  | x :: xs, S => match f x S with
    | .ok none S1 => lcL f xs S1
    | .ok (some y) S1 => (match lcL f xs S1 with
      | .ok ys S2 => .ok (y :: ys) S2
      | _ => .bad)
    | _ => .bad
def forL (f : D → En → Sto → R (Fl × En)) : List D → En → Sto → R (Fl × En)
  | [], e, S => .ok (.nx, e) S
  | x :: xs, e, S => match f x e S with
    | .ok (.nx, e1) S1 => forL f xs e1 S1
    | .ok (.cnt, e1) S1 => forL f xs e1 S1
    | .ok (.brk, e1) S1 => .ok (.nx, e1) S1
    | r => r
def whileL (t : En → Sto → R Bool) (b : En → Sto → R (Fl × En)) : Nat → En → Sto → R (Fl × En)
  | 0, _, _ => .bad
  | n + 1, e, S => (t e S).bind fun k S1 => match k with
    | false => .ok (.nx, e) S1
    | true => match b e S1 with
      | .ok (.nx, e1) S2 => whileL t b n e1 S2
      | .ok (.cnt, e1) S2 => whileL t b n e1 S2
      | .ok (.brk, e1) S2 => .ok (.nx, e1) S2
      | r => r
def whileMax : Nat := 100000
def rngD (lo st : Int) (n : Nat) : List D := (List.range n).map fun (k : Nat) => .int (lo + (k : Int) * st)
/-- how many turns a range takes -/
def rngN (i j c : Int) : Nat := if 0 < c then ((j - i + c - 1) / c).toNat else ((i - j - c - 1) / (-c)).toNat
def small62 (i : Int) : Prop := -(2 ^ 62) ≤ i ∧ i < 2 ^ 62
instance (i : Int) : Decidable (small62 i) := inferInstanceAs (Decidable (_ ∧ _))
/-- pairs sorted: lexicographic order of tuples of ints (the second place where the first are equal) -/
def pairOf (d : D) : Option (Int × Int) := match d with
  | .tup [.int i, .int j] => some (i, j)
  | _ => none
def pairsOf : List D → Option (List (Int × Int))
  | [] => some []
  | d :: ds => match pairOf d with
    | some p => (pairsOf ds).map (p :: ·)
    | none => none
def lexLe (p q : Int × Int) : Bool := decide (p.1 < q.1) || (decide (p.1 = q.1) && decide (p.2 ≤ q.2))
def srtF (S : Sto) (d : D) : Option D := match rd S d with
  | .lst xs => (match pairsOf xs with
    | some ps => if xs.length ≤ 1000 then some (.lst ((ps.mergeSort lexLe).map fun p => .tup [.int p.1, .int p.2])) else none
    | none => none)
  | _ => none
/-- pairs sorted by the second place, the greatest first -/
def negLe (p q : Int × Int) : Bool := decide (-p.2 ≤ -q.2)
def srtkF (S : Sto) (d : D) : Option D := match rd S d with
  | .lst xs => (match pairsOf xs with
    | some ps => if xs.length ≤ 1000 then some (.lst ((ps.mergeSort negLe).map fun p => .tup [.int p.1, .int p.2])) else none
    | none => none)
  | _ => none
mutual
def evE (Δ : Den) : IE → En → Sto → R D
  | .var i, e, S => (match e[i]? with
    | some (some d) => .ok d S
    | _ => .bad)
  | .cst c, e, S => .ok c S
  | .bin op a b, e, S => (evE Δ a e S).bind fun x S1 => (evE Δ b e S1).bind fun y S2 => R.of (binF op (rd S2 x) (rd S2 y)) S2
  | .neg a, e, S => (evE Δ a e S).bind fun x S1 => (match x with
    | .int i => .ok (.int (-i)) S1
    | _ => .bad)
  | .not a, e, S => (evE Δ a e S).bind fun x S1 => (match x with
    | .bl k => .ok (.bl (!k)) S1
    | _ => .bad)
  | .cmp op a b, e, S => (evE Δ a e S).bind fun x S1 => (evE Δ b e S1).bind fun y S2 => R.of ((cmpF S2 op x y).map D.bl) S2
  | .chn op op' a b c, e, S => (evE Δ a e S).bind fun x S1 => (evE Δ b e S1).bind fun y S2 => (match cmpF S2 op x y with
    | some true => (evE Δ c e S2).bind fun z S3 => R.of ((cmpF S3 op' y z).map D.bl) S3
    | some false => .ok (.bl false) S2
    | none => .bad)
  | .and es, e, S => evAnd Δ es e S
  | .or es, e, S => evOr Δ es e S
  | .ife t a b, e, S => (evT Δ t e S).bind fun k S1 => (match k with
    | true => evE Δ a e S1
    | false => evE Δ b e S1)
  | .tup es, e, S => (evEs Δ es e S).bind fun ds S1 => .ok (.tup ds) S1
  | .lst tr es, e, S => (evEs Δ es e S).bind fun ds S1 => newL tr ds S1
  | .dct, e, S => .ok (.loc S.length) (S ++ [.dic []])
  | .idx a i, e, S => (evE Δ a e S).bind fun x S1 => (evE Δ i e S1).bind fun y S2 => R.of (idxF S2 x y) S2
  | .slc a lo hi, e, S => (evE Δ a e S).bind fun x S1 => (evO Δ lo e S1).bind fun l S2 => (evO Δ hi e S2).bind fun u S3 => R.of (slcF S3 x l u) S3
  | .call f es vs, e, S => (evEs Δ es e S).bind fun ds S1 => Δ f (ds ++ vs) S1
  | .callk f es _ kes, e, S => (evEs Δ es e S).bind fun ds S1 => (evEs Δ kes e S1).bind fun zs S2 => Δ f (ds ++ zs) S2
  | .blt b tr es, e, S => (evEs Δ es e S).bind fun ds S1 => bltF b tr ds S1
  | .isi a t, e, S => (evE Δ a e S).bind fun x S1 => R.of ((isiF S1 x t).map D.bl) S1
  | .met m o es, e, S => (evE Δ o e S).bind fun x S1 => (match metP m x S1 with
    | true => (evEs Δ es e S1).bind fun ds S2 => metF m x ds S2
    | false => .bad)
  | .lc tr own tg it ifs elt, e, S => (evI Δ it e S).bind fun xs S1 => (lcL (fun x S2 => (match asgT tg x (wipeD e (own.map (·.2))) with
      | some e1 => (evIf Δ ifs e1 S2).bind fun k S3 => (match k with
        | true => (evE Δ elt e1 S3).bind fun y S4 => .ok (some y) S4
        | false => .ok none S3)
      | none => .bad)) xs S1).bind fun ys S5 => newL tr ys S5
  | .srt a, e, S => (evE Δ a e S).bind fun x S1 => R.of (srtF S1 x) S1
  | .srtk a, e, S => (evE Δ a e S).bind fun x S1 => R.of (srtkF S1 x) S1
  | .lrg1 tr a, e, S => (evE Δ a e S).bind fun x S1 => (match x with
    | .int j => if small62 j ∧ j ≤ 16777216 then newL tr (rngD 0 1 j.toNat) S1 else .bad
    | _ => .bad)
  | .lrg2 tr a b, e, S => (evE Δ a e S).bind fun x S1 => (evE Δ b e S1).bind fun y S2 => (match x with
    | .int i => (match y with
      | .int j => if small62 i ∧ small62 j ∧ j - i ≤ 16777216 then newL tr (rngD i 1 (j - i).toNat) S2 else .bad
      | _ => .bad)
    | _ => .bad)
  | .rev a, e, S => (evE Δ a e S).bind fun x S1 => R.of (revF S1 x) S1
  | .frz a, e, S => (evE Δ a e S).bind fun x S1 => (match x with
    | .loc n => (match S1[n]? with
      | some (.lst xs) => .ok (.lst xs) (S1.set n .gone)
      | _ => .bad)
    | _ => .bad)
def evEs (Δ : Den) : IEs → En → Sto → R (List D)
  | .nil, e, S => .ok [] S
  | .cons a as, e, S => (evE Δ a e S).bind fun x S1 => (evEs Δ as e S1).bind fun xs S2 => .ok (x :: xs) S2
/-- an optional part of a slice -/
def evO (Δ : Den) : IEs → En → Sto → R (Option Int)
  | .nil, e, S => .ok none S
  | .cons a _, e, S => (evE Δ a e S).bind fun x S1 => (match x with
    | .int i => .ok (some i) S1
    | _ => .bad)
def evAnd (Δ : Den) : IEs → En → Sto → R D
  | .nil, e, S => .bad
  | .cons a .nil, e, S => evE Δ a e S
  | .cons a (.cons b bs), e, S => (evE Δ a e S).bind fun x S1 => (match x with
    | .bl true => evAnd Δ (.cons b bs) e S1
    | .bl false => .ok (.bl false) S1
    | _ => .bad)
def evOr (Δ : Den) : IEs → En → Sto → R D
  | .nil, e, S => .bad
  | .cons a .nil, e, S => evE Δ a e S
  | .cons a (.cons b bs), e, S => (evE Δ a e S).bind fun x S1 => (match x with
    | .bl true => .ok (.bl true) S1
    | .bl false => evOr Δ (.cons b bs) e S1
    | _ => .bad)
/-- a test -/
def evT (Δ : Den) : IE → En → Sto → R Bool
  | .not a, e, S => (evT Δ a e S).bind fun k S1 => .ok (!k) S1
  | .and es, e, S => evTA Δ es e S
  | .or es, e, S => evTO Δ es e S
  | .cmp op a b, e, S => (evE Δ a e S).bind fun x S1 => (evE Δ b e S1).bind fun y S2 => R.of (cmpF S2 op x y) S2
  | .chn op op' a b c, e, S => (evE Δ a e S).bind fun x S1 => (evE Δ b e S1).bind fun y S2 => (match cmpF S2 op x y with
    | some true => (evE Δ c e S2).bind fun z S3 => R.of (cmpF S3 op' y z) S3
    | some false => .ok false S2
    | none => .bad)
  | .var i, e, S => (match e[i]? with
    | some (some d) => R.of (truF S d) S
    | _ => .bad)
  | .idx a i, e, S => (evE Δ a e S).bind fun x S1 => (evE Δ i e S1).bind fun y S2 => (R.of (idxF S2 x y) S2).bind fun z S3 => R.of (truF S3 z) S3
  | .cst c, e, S => R.of (truF S c) S
  | .call f es vs, e, S => ((evEs Δ es e S).bind fun ds S1 => Δ f (ds ++ vs) S1).bind fun z S3 => R.of (truF S3 z) S3
  | .blt b tr es, e, S => ((evEs Δ es e S).bind fun ds S1 => bltF b tr ds S1).bind fun z S3 => R.of (truF S3 z) S3
  | .isi a t, e, S => (evE Δ a e S).bind fun x S1 => R.of (isiF S1 x t) S1
  | _, e, S => .bad
def evTA (Δ : Den) : IEs → En → Sto → R Bool
  | .nil, e, S => .bad
  | .cons a .nil, e, S => evT Δ a e S
  | .cons a (.cons b bs), e, S => (evT Δ a e S).bind fun k S1 => (match k with
    | true => evTA Δ (.cons b bs) e S1
    | false => .ok false S1)
def evTO (Δ : Den) : IEs → En → Sto → R Bool
  | .nil, e, S => .bad
  | .cons a .nil, e, S => evT Δ a e S
  | .cons a (.cons b bs), e, S => (evT Δ a e S).bind fun k S1 => (match k with
    | true => .ok true S1
    | false => evTO Δ (.cons b bs) e S1)
/-- a comprehension's tests: none, or one -/
def evIf (Δ : Den) : IEs → En → Sto → R Bool
  | .nil, e, S => .ok true S
  | .cons a _, e, S => evT Δ a e S
/-- the items that are walked -/
def evI (Δ : Den) : II → En → Sto → R (List D)
  | .seq a, e, S => (evE Δ a e S).bind fun x S1 => R.of (seqF S1 x) S1
  | .rng1 a, e, S => (evE Δ a e S).bind fun x S1 => (match x with
    | .int j => if small62 j ∧ j ≤ 16777216 then .ok (rngD 0 1 j.toNat) S1 else .bad
    | _ => .bad)
  | .rng2 a b, e, S => (evE Δ a e S).bind fun x S1 => (evE Δ b e S1).bind fun y S2 => (match x with
    | .int i => (match y with
      | .int j => if small62 i ∧ small62 j ∧ j - i ≤ 16777216 then .ok (rngD i 1 (j - i).toNat) S2 else .bad
      | _ => .bad)
    | _ => .bad)
  | .rng3 a b c, e, S => (evE Δ a e S).bind fun x S1 => (evE Δ b e S1).bind fun y S2 => (evE Δ c e S2).bind fun z S3 => (match x with
    | .int i => (match y with
      | .int j => (match z with
        | .int k => if k = -1 ∧ -(2 ^ 61) ≤ i ∧ i < 2 ^ 61 ∧ -(2 ^ 61) ≤ j ∧ j < 2 ^ 61 ∧ i - j ≤ 16777216 then .ok (rngD i (-1) (i - j).toNat) S3 else .bad
        | _ => .bad)
      | _ => .bad)
    | _ => .bad)
  | .enum a, e, S => (evE Δ a e S).bind fun x S1 => R.of ((seqF S1 x).map (enumD 0)) S1
end
mutual
def exS (Δ : Den) : IS → En → Sto → R (Fl × En)
  | .ex a, e, S => (evE Δ a e S).bind fun _ S1 => .ok (.nx, e) S1
  | .ret a, e, S => (evE Δ a e S).bind fun x S1 => .ok (.ret x, e) S1
  | .retN, e, S => .ok (.ret .non, e) S
  | .set i a, e, S => (evE Δ a e S).bind fun x S1 => .ok (.nx, e.set i (some x)) S1
  | .par i j a b, e, S => (evE Δ a e S).bind fun x S1 => (evE Δ b e S1).bind fun y S2 => .ok (.nx, (e.set i (some x)).set j (some y)) S2
  | .setT is a, e, S => (evE Δ a e S).bind fun x S1 => (match asgT (.tp is) x e with
    | some e1 => .ok (.nx, e1) S1
    | none => .bad)
  | .setI o i a, e, S => (evE Δ a e S).bind fun x S1 => (evE Δ o e S1).bind fun y S2 => (evE Δ i e S2).bind fun z S3 => (match y with
    | .loc n => (match S3[n]? with
      | some (.lst xs) => (match z with
        | .int k => (match ixN xs.length k with
          | some j => .ok (.nx, e) (S3.set n (.lst (xs.set j x)))
          | none => .bad)
        | _ => .bad)
      | some (.dic kvs) => (match z.key with
        | some k => if kvs.length < 16777216 then .ok (.nx, e) (S3.set n (.dic (dPut kvs k x))) else .bad
        | none => .bad)
      | _ => .bad)
    | _ => .bad)
  | .ite t a b, e, S => (evT Δ t e S).bind fun k S1 => (match k with
    | true => exSs Δ a e S1
    | false => exSs Δ b e S1)
  | .for tg it body, e, S => (evI Δ it e S).bind fun xs S1 => forL (fun x e1 S2 => (match asgT tg x e1 with
      | some e2 => exSs Δ body e2 S2
      | none => .bad)) xs e S1
  | .while t body, e, S => whileL (fun e1 S1 => evT Δ t e1 S1) (fun e1 S1 => exSs Δ body e1 S1) whileMax e S
  | .pass, e, S => .ok (.nx, e) S
  | .brk, e, S => .ok (.brk, e) S
  | .cnt, e, S => .ok (.cnt, e) S
  | .never, e, S => .bad
def exSs (Δ : Den) : ISs → En → Sto → R (Fl × En)
  | .nil, e, S => .ok (.nx, e) S
  | .cons s ss, e, S => (exS Δ s e S).bind fun o S1 => (match o.1 with
    | .nx => exSs Δ ss o.2 S1
    | _ => .ok o S1)
end
/-- a def: how many parameters, how many names, the body -/
structure Fn where
  ar : Nat
  sl : Nat
  body : ISs
def runF (Δ : Den) (f : Fn) (ds : List D) (S : Sto) : R D := if ds.length = f.ar then
    (match exSs Δ f.body (ds.map some ++ List.replicate (f.sl - f.ar) none) S with
      | .ok (.nx, _) S1 => .ok .non S1
      | .ok (.ret d, _) S1 => .ok d S1
      | .ok _ _ => .bad
      | .ex x S1 => .ex x S1
      | .bad => .bad)
  else .bad
/-- what the defs do, so many calls deep -/
def den (fs : List Fn) : Nat → Den
  | 0 => fun _ _ _ => .bad
  | k + 1 => fun f ds S => (match fs[f]? with
    | some fn => runF (den fs k) fn ds S
    | none => .bad)
end L2.PV

/-! PV, part 3: the operations on plain values are the machine's. -/
namespace L2.PV
open PySem PySem.Spec PyProof.Rows LamX

/-! ### what follows a result -/
/-- P holds of the result, wherever the heap has come -/
def After {α : Type} (K : PySem.W.Frag) (T : Tb) (W : Wd) (r : R α) (P : α → Wd → Prop) : Prop := match r with
  | .ok a S' => ∀ W' : Wd, W'.S = S' → Ext W W' → SR K T W' → P a W'
  | .ex x S' => ∀ W' : Wd, W'.S = S' → Ext W W' → SR K T W' → T.ex x W'
  | .bad => False
/-- the wish Q of the value d -/
def Gv (K : PySem.W.Frag) (Q : VK) (d : D) (W' : Wd) : Prop := ∀ v, VR K W' d v → Q v W'.H
section
variable {K : PySem.W.Frag} {T : Tb} {W : Wd} {α β : Type}
theorem After.mono {r : R α} {P P' : α → Wd → Prop} (h : After K T W r P) (f : ∀ a W', r = .ok a W'.S → Ext W W' → SR K T W' → P a W' → P' a W') : After K T W r P' := by
  cases r with
  | ok a S' =>
    intro W' e x s
    subst e
    exact f a W' rfl x s (h W' rfl x s)
  | ex _ _ => exact h
  | bad => exact h
theorem After.bind {r : R α} {g : α → Sto → R β} {P : β → Wd → Prop} (h : After K T W (r.bind g) P) : After K T W r fun a W1 => After K T W1 (g a W1.S) P := by
  cases r with
  | ok a S' =>
    intro W' e x s
    subst e
    exact After.mono (W := W') (by
      have h' : After K T W (g a W'.S) P := h
      cases q : g a W'.S with
      | ok b S2 =>
        rw [q] at h'
        intro W2 e2 x2 s2
        exact h' W2 e2 (x.trans x2) s2
      | ex y S2 =>
        rw [q] at h'
        intro W2 e2 x2 s2
        exact h' W2 e2 (x.trans x2) s2
      | bad => rw [q] at h'; exact h') fun _ _ _ _ _ z => z
  | ex _ _ => exact h
  | bad => exact h
theorem After.of {o : Option α} {S : Sto} {P : α → Wd → Prop} (h : After K T W (R.of o S) P) : ∃ a, o = some a ∧ After K T W (.ok a S) P := by
  cases o with
  | none => exact h.elim
  | some a => exact ⟨a, rfl, h⟩
/-- nothing has happened -/
theorem After.here {a : α} {P : α → Wd → Prop} (s : SR K T W) (h : After K T W (.ok a W.S) P) : P a W := h W rfl (Ext.refl W) s
theorem After.newTup {ds : List D} {vs : List V} {Q : VK} {p : Addr} (s : SR K T W) (h : After K T W (.ok (.tup ds) W.S) (Gv K Q)) (r : VRs K W ds vs) (hp : W.H p = none) : Q (.ref p) (upd W.H p (.tup vs)) :=
  h ⟨upd W.H p (.tup vs), W.θ, W.S, W.hid⟩ rfl (ext_new s hp) (sr_new s hp) _ (vr_newTup s hp r)
theorem After.newLst {ds : List D} {vs : List V} {Q : VK} {p : Addr} (s : SR K T W) (h : After K T W (.ok (.lst ds) W.S) (Gv K Q)) (r : VRs K W ds vs) (hp : W.H p = none) : Q (.ref p) (upd W.H p (.lst vs)) :=
  h ⟨upd W.H p (.lst vs), W.θ, W.S, W.hid⟩ rfl (ext_new s hp) (sr_new s hp) _ (vr_newLst s hp r)
theorem After.newL {tr : Bool} {ds : List D} {vs : List V} {Q : VK} {p : Addr} (s : SR K T W) (h : After K T W (newL tr ds W.S) (Gv K Q)) (r : VRs K W ds vs) (hp : W.H p = none) : Q (.ref p) (upd W.H p (.lst vs)) := by
  cases tr with
  | false => exact After.newLst s h r hp
  | true => exact h ⟨upd W.H p (.lst vs), W.θ ++ [p], W.S ++ [.lst ds], W.hid⟩ rfl (ext_newC s hp) (sr_newC s hp (show CR K W (.lst ds) (some (.lst vs)) from ⟨vs, rfl, r⟩)) _ (vr_newC s)
end

/-! ### two places -/
def rBin (K : PySem.W.Frag) (T : Tb) (op : Operator) : R2 := fun x y H Q => ∃ (W : Wd) (a b d : D), W.H = H ∧ SR K T W ∧ VR K W a x ∧ VR K W b y ∧ binF op (rd W.S a) (rd W.S b) = some d ∧ After K T W (.ok d W.S) (Gv K Q)
theorem rd_int {S : Sto} {d : D} {i : Int} (h : rd S d = .int i) : d = .int i := rd_other h fun _ z => nomatch z
theorem rd_str {S : Sto} {d : D} {i : Str} (h : rd S d = .str i) : d = .str i := rd_other h fun _ z => nomatch z
theorem rd_tup {S : Sto} {d : D} {i : List D} (h : rd S d = .tup i) : d = .tup i := rd_other h fun _ z => nomatch z
theorem rd_scr {S : Sto} {d : D} {i : List D} (h : rd S d = .scr i) : d = .scr i := rd_other h fun _ z => nomatch z
theorem rd_non {S : Sto} {d : D} (h : rd S d = .non) : d = .non := rd_other h fun _ z => nomatch z
theorem rd_bl {S : Sto} {d : D} {b : Bool} (h : rd S d = .bl b) : d = .bl b := rd_other h fun _ z => nomatch z
theorem rd_loc {S : Sto} {d : D} {n : Nat} (h : rd S d = .loc n) : d = .loc n := rd_other h fun _ z => nomatch z
theorem ite_some {α : Type} {c : Prop} [Decidable c] {a b : α} (h : (if c then some a else none) = some b) : c ∧ a = b := by
  by_cases hc : c
  · rw [if_pos hc] at h; exact ⟨hc, Option.some.inj h⟩
  · rw [if_neg hc] at h; cases h
theorem int2_ok {x y d : D} {f : Int → Int → Option D} (h : int2 x y f = some d) : ∃ i j, x = .int i ∧ y = .int j ∧ f i j = some d := by
  cases x with
  | int i => cases y with
    | int j => exact ⟨i, j, rfl, rfl, h⟩
    | _ => cases h
  | _ => cases h
section
variable {X : Cx} {T : Tb}
theorem op_catT0 {pins : List (Addr × Obj)} {s : Shared} {σ : St} {H : Hp} {a b : Addr} {ys : List V} {Q : VK} (I : Inv X pins σ H s) (ha : SqT X.K H a []) (hb : SqT X.K H b ys) (q : Q (.ref b) H) :
    wpAny (model X.prog X.w) X.A (binaryOp .Add (.ref a) (.ref b)) (EP X pins σ Q) X.xe s := by
  obtain ⟨its, r1, p1, _⟩ := I.tuple ha
  obtain ⟨its2, r2, p2, _⟩ := I.tuple hb
  cases r1
  obtain ⟨⟨cls, dd, data, sl⟩, ho, hc, n, hd⟩ := p1
  obtain ⟨⟨cls2, dd2, data2, sl2⟩, ho2, hc2, n2, hd2⟩ := p2
  simp only at hc hd hc2 hd2
  subst hc hd hc2 hd2
  exact concat_meets ⟨_, ho, rfl⟩ ⟨_, ho2, rfl⟩ noFill_tuple_add seq_tuple_add PySem.F.slot_tuple_add PySem.F.entry_tuple_add (PySem.F.args_tuple_add_2 _ _)
    (tuple_addW0 a b [].toArray its2.toArray n n2 dd dd2 sl sl2 rfl) ⟨ho, ho2, ⟨.ref b, H, I, rfl, q⟩⟩
theorem op_addD : OpR X (binaryOp .Add) (rBin X.K T .Add) := by
  intro pins s σ H x y v u Q I rx ry h
  obtain ⟨W, a, b, d, rfl, sr, ra, rb, e, q⟩ := h
  have e : addF (rd W.S a) (rd W.S b) = some d := e
  cases ha : rd W.S a with
  | int i =>
    rw [ha] at e
    cases hb : rd W.S b with
    | int j =>
      rw [hb] at e
      cases rd_int ha
      cases rd_int hb
      cases (show some (D.int (i + j)) = some d from e)
      exact op_add pins s σ W.H x y v u Q I rx ry ⟨i, j, ra, rb, q.here sr _ rfl⟩
    | _ => rw [hb] at e; cases e
  | str i =>
    rw [ha] at e
    cases hb : rd W.S b with
    | str j =>
      rw [hb] at e
      cases rd_str ha
      cases rd_str hb
      have e : (if i.length + j.length ≤ 16777216 then some (D.str (i ++ j)) else none) = some d := e
      by_cases hz : i.length + j.length ≤ 16777216
      · rw [if_pos hz] at e
        cases e
        exact op_add_str pins s σ W.H x y v u Q I rx ry ⟨i, j, ra, rb, by rw [sizeLine_eq]; exact hz, q.here sr _ rfl⟩
      · rw [if_neg hz] at e; cases e
    | _ => rw [hb] at e; cases e
  | tup xs =>
    rw [ha] at e
    cases hb : rd W.S b with
    | tup ys =>
      rw [hb] at e
      cases rd_tup ha
      cases rd_tup hb
      have e : (if xs.length + ys.length ≤ 16777216 then some (D.tup (xs ++ ys)) else none) = some d := e
      by_cases hz : xs.length + ys.length ≤ 16777216
      · rw [if_pos hz] at e
        cases e
        obtain ⟨p1, vs, rfl, h1, r1⟩ := ra
        obtain ⟨p2, us, rfl, h2, r2⟩ := rb
        have l1 := r1.len
        have l2 := r2.len
        cases vs with
        | nil =>
          have ex : xs = [] := List.eq_nil_of_length_eq_zero (by simpa using l1)
          subst ex
          cases rx
          cases ry
          exact op_catT0 I (.inl (.inl h1)) (.inl (.inl h2)) (q.here sr _ ⟨p2, us, rfl, h2, r2⟩)
        | cons z vs =>
          refine op_catT pins s σ W.H _ _ v u Q I rx ry ⟨p1, p2, z :: vs, us, rfl, rfl, .inl (.inl h1), .inl (.inl h2), List.cons_ne_nil _ _, by rw [sizeLine_eq]; omega, fun hu => ?_, fun hu p hp => ?_⟩
          · subst hu
            have ey : ys = [] := List.eq_nil_of_length_eq_zero (by simpa using l2)
            subst ey
            rw [List.append_nil] at q
            exact q.here sr _ ⟨p1, z :: vs, rfl, h1, r1⟩
          · exact After.newTup sr q (r1.append r2) hp
      · rw [if_neg hz] at e; cases e
    | _ => rw [hb] at e; cases e
  | lst xs =>
    rw [ha] at e
    cases hb : rd W.S b with
    | lst ys =>
      rw [hb] at e
      have e : (if xs.length + ys.length ≤ 16777216 then some (D.lst (xs ++ ys)) else none) = some d := e
      by_cases hz : xs.length + ys.length ≤ 16777216
      · rw [if_pos hz] at e
        cases e
        obtain ⟨p1, vs, rfl, h1, r1⟩ := rd_lst sr ra ha
        obtain ⟨p2, us, rfl, h2, r2⟩ := rd_lst sr rb hb
        exact op_cat pins s σ W.H _ _ v u Q I rx ry ⟨p1, p2, vs, us, rfl, rfl, h1, h2, by rw [sizeLine_eq, ← r1.len, ← r2.len]; exact hz, fun p hp => After.newLst sr q (r1.append r2) hp⟩
      · rw [if_neg hz] at e; cases e
    | _ => rw [hb] at e; cases e
  | _ => rw [ha] at e; cases e
theorem op_subD : OpR X (binaryOp .Sub) (rBin X.K T .Sub) := by
  intro pins s σ H x y v u Q I rx ry h
  obtain ⟨W, a, b, d, rfl, sr, ra, rb, e, q⟩ := h
  obtain ⟨i, j, ha, hb, e2⟩ := int2_ok (show int2 (rd W.S a) (rd W.S b) _ = some d from e)
  cases rd_int ha
  cases rd_int hb
  cases e2
  exact op_sub pins s σ W.H x y v u Q I rx ry ⟨i, j, ra, rb, q.here sr _ rfl⟩
theorem op_fdivD : OpR X (binaryOp .FloorDiv) (rBin X.K T .FloorDiv) := by
  intro pins s σ H x y v u Q I rx ry h
  obtain ⟨W, a, b, d, rfl, sr, ra, rb, e, q⟩ := h
  obtain ⟨i, j, ha, hb, e2⟩ := int2_ok (show int2 (rd W.S a) (rd W.S b) _ = some d from e)
  cases rd_int ha
  cases rd_int hb
  obtain ⟨hz, rfl⟩ := ite_some e2
  exact op_fdiv pins s σ W.H x y v u Q I rx ry ⟨i, j, ra, rb, hz, q.here sr _ rfl⟩
theorem op_modD : OpR X (binaryOp .Mod) (rBin X.K T .Mod) := by
  intro pins s σ H x y v u Q I rx ry h
  obtain ⟨W, a, b, d, rfl, sr, ra, rb, e, q⟩ := h
  obtain ⟨i, j, ha, hb, e2⟩ := int2_ok (show int2 (rd W.S a) (rd W.S b) _ = some d from e)
  cases rd_int ha
  cases rd_int hb
  obtain ⟨hz, rfl⟩ := ite_some e2
  exact op_mod pins s σ W.H x y v u Q I rx ry ⟨i, j, ra, rb, hz, q.here sr _ rfl⟩
theorem op_powD : OpR X (binaryOp .Pow) (rBin X.K T .Pow) := by
  intro pins s σ H x y v u Q I rx ry h
  obtain ⟨W, a, b, d, rfl, sr, ra, rb, e, q⟩ := h
  obtain ⟨i, j, ha, hb, e2⟩ := int2_ok (show int2 (rd W.S a) (rd W.S b) _ = some d from e)
  cases rd_int ha
  cases rd_int hb
  obtain ⟨hz, rfl⟩ := ite_some e2
  exact op_pow pins s σ W.H x y v u Q I rx ry ⟨i, j, ra, rb, hz, q.here sr _ rfl⟩
theorem flat_fold {α : Type} (xs : List α) (n : Nat) : ((List.replicate n xs.toArray).foldl (· ++ ·) #[]).toList = (List.replicate n xs).flatten := by
  have g : ∀ (m : Nat) (acc : Array α), ((List.replicate m xs.toArray).foldl (· ++ ·) acc).toList = acc.toList ++ (List.replicate m xs).flatten := by
    intro m
    induction m with
    | zero => intro acc; simp
    | succ m ih =>
      intro acc
      rw [List.replicate_succ, List.foldl_cons, ih, List.replicate_succ, List.flatten_cons, Array.toList_append, List.append_assoc]
  have := g n #[]
  simpa using this
theorem op_mul_strD {pins : List (Addr × Obj)} {s : Shared} {σ : St} {H : Hp} {a : Str} {k : Int} {t u : Tok} {Q : VK} (I : Inv X pins σ H s) (h1 : -(2 ^ 62) ≤ k) (h2 : k < 2 ^ 62) (h3 : a.length * k.toNat ≤ 16777216)
    (q : Q (.str ⟨(rep a.cps.toList k).toArray⟩) H) : wpAny (model X.prog X.w) X.A (binaryOp .Mult (.str a t) (.int k u)) (EP X pins σ Q) X.xe s := by
  have er : ∀ n : Nat, a.cps.toList = [] → (List.replicate n a.cps.toList).flatten = [] := fun n e => by rw [e]; simp
  have hr : (decide (k < -(2 ^ 63 : Int)) || decide (k ≥ 2 ^ 63)) = false := by
    rw [decide_eq_false (by omega), decide_eq_false (by omega)]; rfl
  have hlen : a.length = a.cps.toList.length := Array.length_toList.symm
  refine PySem.P.mul_str hr (fun n1 n2 => ?_) (fun n1 n2 => ?_) ?_
  · rw [Bool.or_eq_false_iff] at n2
    have hk : 0 < k := by omega
    have e1 : (a.length : Int) * k ≤ 16777216 := by
      have : ((a.length * k.toNat : Nat) : Int) ≤ 16777216 := Int.ofNat_le.mpr h3
      rw [Int.natCast_mul, Int.toNat_of_nonneg (by omega)] at this
      exact this
    have e2 : (a.length : Int) ≤ (2 ^ 63 - 1) / k := by
      rw [Int.le_ediv_iff_mul_le hk]
      omega
    omega
  · unfold Builtin.Str.tooLong
    first
      | (rw [sizeLine_eq]; exact decide_eq_false (by omega))
      | exact decide_eq_false (by have := sizeLine_eq; omega)
  · have fin : ∀ z : Str, z = ⟨(rep a.cps.toList k).toArray⟩ → ∀ (v : Value) (tk : Nat), (∃ t', v = .str z t') → EP X pins σ Q v { s with toks := tk } := fun z ez v tk hv => ⟨.str z, H, I.tok _, hv, by rw [ez]; exact q⟩
    by_cases c1 : k < 1
    · rw [if_pos c1]
      refine ⟨by decide, fin _ ?_ _ _ ⟨_, rfl⟩⟩
      have : k.toNat = 0 := by omega
      unfold rep
      rw [this]
      rfl
    · rw [if_neg c1]
      by_cases c2 : (k == 1 || a.length == 0) = true
      · rw [if_pos c2]
        refine fin a ?_ _ s.toks ⟨_, rfl⟩
        rw [Bool.or_eq_true, beq_iff_eq, beq_iff_eq] at c2
        have e3 : a = ⟨a.cps.toList.toArray⟩ := by simp
        unfold rep
        rcases c2 with c2 | c2
        · subst c2
          show a = ⟨(List.replicate 1 a.cps.toList).flatten.toArray⟩
          rw [List.replicate_one, List.flatten_singleton]
        · have e4 : a.cps.toList = [] := List.eq_nil_of_length_eq_zero (by rw [← hlen]; exact c2)
          rw [er _ e4]
          rw [e4] at e3
          exact e3
      · rw [if_neg c2]
        have e5 : (⟨(List.replicate k.toNat a.cps).foldl (· ++ ·) #[]⟩ : Str) = ⟨(rep a.cps.toList k).toArray⟩ := by
          have z := flat_fold a.cps.toList k.toNat
          rw [Array.toArray_toList] at z
          unfold rep
          rw [← z]
        refine ⟨?_, fin _ e5 _ _ ⟨_, rfl⟩⟩
        rw [e5]
        show (rep a.cps.toList k).toArray.size ≤ sizeLine
        rw [List.size_toArray, sizeLine_eq]
        unfold rep
        rw [PyProof.Rows.lm_len_rep_flat, ← hlen, Nat.mul_comm]
        exact h3
end
end L2.PV

/-! PV, part 4: tuples times a number, slices that are the whole. -/
namespace L2
open PySem PySem.Spec PyProof.Rows
theorem tuple_mulW1 (l : Addr) (items : Array Value) (n : Nat) (dd : Option Addr) (sl : Array (Option Value)) (x : Int) (u : Tok) (c0 : (decide (x < -(2 ^ 63)) || decide (x ≥ 2 ^ 63)) = false) (c1 : (items.isEmpty || x == 1) = true) :
    Meets (Builtin.«tuple.__mul__» ⟨[.ref l, .int x u], []⟩) (fun _ R s => s.heap.get? l = some { cls := .type "tuple", dict := dd, data := .seq items n, slots := sl } ∧
      R (.ok (.ret (Value.ref l))) s) :=
  .of_wp fun prog w A R s h => by
    obtain ⟨hp, g, d, tk, os⟩ := s
    obtain ⟨hl, h⟩ := h
    have f1 := AutoSeq1.idx_int
    wp_walk using wpAny_loadPart' hl
    repeat (first
      | (refine wpAny_ite_false (decide_eq_false (by rw [c0]; exact Bool.false_ne_true)) ?_; wp_walk using wpAny_loadPart' hl)
      | (refine wpAny_ite_true (decide_eq_true (by rw [c1])) ?_; wp_walk using wpAny_loadPart' hl))
    exact ⟨_, rfl, h⟩
theorem tuple_mulW2 (l : Addr) (items : Array Value) (n : Nat) (dd : Option Addr) (sl : Array (Option Value)) (x : Int) (u : Tok) (c0 : (decide (x < -(2 ^ 63)) || decide (x ≥ 2 ^ 63)) = false) (c1 : (items.isEmpty || x == 1) = false) (c2 : (decide (x ≤ 0) || items.isEmpty) = true) :
    Meets (Builtin.«tuple.__mul__» ⟨[.ref l, .int x u], []⟩) (fun _ R s => s.heap.get? l = some { cls := .type "tuple", dict := dd, data := .seq items n, slots := sl } ∧
      R (.ok (.ret (Value.ref s.heap.objs.size))) { s with heap := s.heap.push { cls := Value.type "tuple", data := Data.seq #[] }, toks := s.toks }) :=
  .of_wp fun prog w A R s h => by
    obtain ⟨hp, g, d, tk, os⟩ := s
    obtain ⟨hl, h⟩ := h
    have f1 := AutoSeq1.idx_int
    wp_walk using wpAny_loadPart' hl
    repeat (first
      | (refine wpAny_ite_false (decide_eq_false (by rw [c0]; exact Bool.false_ne_true)) ?_; wp_walk using wpAny_loadPart' hl)
      | (refine wpAny_ite_false (decide_eq_false (by rw [c1]; exact Bool.false_ne_true)) ?_; wp_walk using wpAny_loadPart' hl)
      | (refine wpAny_ite_true (decide_eq_true (by rw [c2])) ?_; wp_walk using wpAny_loadPart' hl))
    exact ⟨_, rfl, h⟩
/-- t[a:b] that is the whole of t: t itself -/
theorem getItem_tuple_all {prog : Program} {w : World} {A : Around} {E : Value → Shared → Prop} {s : Shared} {t sl : Addr} {items : Array Value} {vl vu : Value} {lo hi : Option Int} {Q : Value → Shared → Prop} (ht : IsTup s.heap t items) (hs : s.heap.IsSliceOf sl vl vu .none) (pl : IsPart vl lo) (pu : IsPart vu hi)
    (hw : HT.sIx items.size 0 lo = 0 ∧ HT.sIx items.size items.size hi = items.size) (h : Q (.ref t) s) : wpAny (model prog w) A (getItem (.ref t) (.ref sl)) Q E s := by
  obtain ⟨os, hos, hcs, hds⟩ := id hs
  have hTs : s.TypeIs (.ref sl) "slice" := ⟨os, hos, hcs⟩
  unfold getItem
  try with_reducible refine wpAny_holding ?_
  first | refine wpAny_bind (wpAny_pure ?_) | skip
  refine wpAny_bind (wpAny_sequenceKey ht.typeIs (by decide) ?_)
  refine wpAny_bind (wpAny_callSpecial?_slot (name := Str.ofString "__getitem__") ht.typeIs PyProof.Rows.slot_tuple_getitem
    (wpAny_call_entry PyProof.Rows.slot_tuple_getitem ht.typeIs PySem.F.entry_tuple_getitem ?_ (PySem.F.args_tuple_getitem_2 _ _)))
  show wpAny _ _ (Builtin.Tuple.tupleItemsOf (.ref t) >>= _) _ _ s
  refine wpAny_bind (tupleItemsOf_ ht ?_)
  refine wpAny_bind (wpAny_typeOf hTs ?_)
  rw [if_pos (by decide)]
  refine wpAny_bind (HT.sliceApplied_gen hs pl pu ?_)
  have hyes : (((HT.sIx items.size 0 lo : Nat) : Int) == 0 && (1 : Int) == 1 && (HT.sIx items.size items.size hi - HT.sIx items.size 0 lo) == items.size) = true := by
    rw [hw.1, hw.2]
    simp
  show wpAny _ _ (if (((HT.sIx items.size 0 lo : Nat) : Int) == 0 && (1 : Int) == 1 && (HT.sIx items.size items.size hi - HT.sIx items.size 0 lo) == items.size) = true then _ else _) _ _ s
  rw [if_pos hyes]
  first
    | (refine wpAny_bind (m := Builtin.Tuple.tupleIsExact _) (wpAny_bind (wpAny_typeOf ht.typeIs (wpAny_pure ?_)))
       rw [if_pos (by decide)]
       first
         | exact wpAny_bind (wpAny_rule (wpAny_pure ⟨_, rfl, wpAny_pure h⟩))
         | exact wpAny_bind (wpAny_rule (wpAny_bind (wpAny_pure (wpAny_pure ⟨_, rfl, wpAny_pure h⟩))))
         | exact wpAny_rule (wpAny_pure ⟨_, rfl, wpAny_pure h⟩))
end L2

/-! enumerate of a tuple. -/
namespace PySem
open Sem (wp)
theorem enumNew1 {v : Value} {o : Obj} {H : Heap → Prop} (B : Begins v o H) :
    Meets (Builtin.«enumerate.__new__» ⟨[.type "enumerate", v], []⟩) (fun _ R s => H s.heap ∧ R (.ok (.ret (.ref (s.heap.push o).objs.size)))
      { s with heap := (s.heap.push o).push { cls := .type "enumerate", data := .fields #[.none, .bool false, .ref s.heap.objs.size, rawInt 0, .none, .none] } }) :=
  .of_wp fun prog w A R s h => by
    obtain ⟨hp, gl, dd, tk, os⟩ := s; obtain ⟨h1, h⟩ := h
    have hsub := sub_enumerate
    have q1 : ∀ {A2 : Around} {E2 : Value → Shared → Prop} {Q2 : Value → Shared → Prop}, Q2 (.ref hp.objs.size) ⟨hp.push o, gl, dd, tk, os⟩ → wpAny (model prog w) A2 (pyIter v) Q2 E2 ⟨hp, gl, dd, tk, os⟩ :=
      fun q => B.iter prog w _ _ ⟨hp, gl, dd, tk, os⟩ _ h1 q
    wp_walk using q1
    refine wpAny_stack_any fun st2 => wpAny_pure ?_
    split
    · rename_i c0 _ _ _ _ _
      cases (c0 == Value.type "enumerate")
      all_goals
        wp_walk using q1
        exact ⟨_, rfl, h⟩
    · wp_walk using q1
      exact ⟨_, rfl, h⟩
section
variable {prog : Program} {w : World} {A : Around} {E : Value → Shared → Prop} {s : Shared}
theorem enumCall1 {v : Value} {o : Obj} {H : Heap → Prop} {Q : Value → Shared → Prop} (B : Begins v o H) (h1 : H s.heap)
    (h : ∀ h', IsEnum h' (s.heap.objs.size + 1) s.heap.objs.size 0 .none → h'.get? s.heap.objs.size = some o → (∀ b u, s.heap.get? b = some u → h'.get? b = some u) → Q (.ref (s.heap.objs.size + 1)) { s with heap := h' }) :
    wpAny (model prog w) A (call (.type "enumerate") [v]) Q E s := by
  refine callType_new F.called_enumerate (by decide) (F.typeCall_enumerate_1 _) (F.newCall_enumerate_1 _) (fun ob => F.args_object_init_2 ob _) F.entry_enumerate_new (enumNew1 B) ⟨h1, ?_⟩
  have hz : (s.heap.push o).objs.size = s.heap.objs.size + 1 := Heap.size_push ..
  show _ ∧ _
  rw [hz]
  have he : IsEnum ((s.heap.push o).push { cls := .type "enumerate", data := .fields #[.none, .bool false, .ref s.heap.objs.size, rawInt 0, .none, .none] }) (s.heap.objs.size + 1) s.heap.objs.size 0 .none := by
    have z := Heap.get?_push_size (s.heap.push o) (o := { cls := .type "enumerate", data := .fields #[.none, .bool false, .ref s.heap.objs.size, rawInt 0, .none, .none] }) rfl
    rw [hz] at z
    exact z
  refine ⟨⟨_, he, rfl⟩, h _ he (Heap.get?_push_of_some _ (Heap.get?_push_size _ B.free)) fun b u x => Heap.get?_push_of_some _ (Heap.get?_push_of_some _ x)⟩
end
end PySem
namespace L2
open PySem PySem.Spec PyProof.Rows
/-- a tuple's items, numbered -/
def IteT (K : PySem.W.Frag) (a : Addr) : It :=
  ⟨fun i H => ∃ (xs : List V) (x : V), SqT K H a xs ∧ xs[i]? = some x, fun i H v H' => ∃ T x, v = .ref T ∧ H T = none ∧ H' = upd H T (.tup [.int (i : Nat), x]) ∧ ∀ xs, SqT K H a xs → xs[i]? = some x, fun i H => ∃ xs : List V, SqT K H a xs ∧ xs.length = i⟩
theorem turn_enumT {P : Program} {w : World} {K : PySem.W.Frag} {elts : List Expr} {kk : Nat} {tpos : Pos} (a e it : Addr) :
    Turn P w K (.Tuple elts kk tpos) (IteT K a) [e, it] e (fun i h => (∃ old, IsEnum h e it ((i : Nat) : Int) old) ∧ h.IsTupleIter it a i ∧ e ≠ it) where
  mem := by simp
  obj := fun i h st b hb => by
    obtain ⟨⟨old, he⟩, ⟨o, ho, hc, hd⟩, _⟩ := st
    have hb2 : b = e ∨ b = it := by simpa using hb
    rcases hb2 with z | z
    · subst z; exact ⟨_, he, fun v q => nomatch q⟩
    · subst z; exact ⟨o, ho, fun v q => by rw [hd] at q; cases q⟩
  keep := fun i h h' st k => by
    obtain ⟨⟨old, he⟩, hi, hne⟩ := st
    exact ⟨⟨old, k e (by simp) _ he⟩, hi.at fun o q => k it (by simp) o q, hne⟩
  item := by
    intro X hP hw hK hc i pins s σ H E I hf st hg
    subst hP hw hK
    obtain ⟨⟨old, he⟩, hit, hne⟩ := st
    obtain ⟨xs, x, hq, hx⟩ := hg
    obtain ⟨its, rv, p, hz⟩ := I.tuple hq
    obtain ⟨u, hu, ru⟩ := rv.get hx
    have hT : s.heap.IsTuple a its.toArray := p
    have nai : a ≠ it := fun z => by
      obtain ⟨o1, e1, c1, _⟩ := hT
      obtain ⟨o2, e2, c2, _⟩ := hit
      rw [z, e2] at e1
      cases e1
      rw [c2] at c1
      exact absurd c1 (by decide)
    have nea : e ≠ a := fun z => by
      obtain ⟨o1, e1, c1, _⟩ := hT
      have he2 : s.heap.get? e = some _ := he
      rw [z, e1] at he2
      cases he2
      exact absurd (show Value.type "enumerate" = Value.type "tuple" from c1) (by decide)
    have hel : e < s.heap.objs.size := Heap.lt_size he
    have hil : it < s.heap.objs.size := by obtain ⟨_, q, _⟩ := hit; exact Heap.lt_size q
    have Dr := Draws.tuple (prog := X.prog) (w := X.w) (A := X.A.in1) (I.ok.hd hc) it a nai its.toArray
    have hlt : i < its.toArray.size := by
      obtain ⟨hl, _⟩ := List.getElem?_eq_some_iff.mp hu
      simpa using hl
    refine wpAny_pyNext_enum_itemC Dr he ⟨hit, hT⟩ hlt hne (by simp; exact ⟨hne, nea⟩) fun u2 h' tk hP ho hS hT2 hsz hk => ?_
    have eu : u2 = u := by
      have q1 : its.toArray[i]? = some u := by simpa using hu
      rw [q1] at hP
      cases hP
      rfl
    subst eu
    refine ⟨_, rfl, wpAny_letOwnedTupleGo_enum (s := { s with heap := h', toks := tk + 1 }) ho fun h'' he' sb => ?_⟩
    have hT3 : h''.get? s.heap.objs.size = some { cls := .type "tuple", data := .seq #[.int i tk, u2] } := (sb.2 _ (Nat.ne_of_gt hel)).trans hT2
    have new : ObjOk X.prog X.w (upd H s.heap.objs.size (.tup [.int (i : Nat), x])) h'' s.heap.objs.size (.tup [.int (i : Nat), x]) :=
      ⟨by show 2 ≤ sizeLine; decide, [.int i tk, u2], .cons ⟨_, rfl⟩ (.cons ru .nil), ⟨_, hT3, rfl, _, rfl⟩⟩
    have I1 : Inv X pins σ (upd H s.heap.objs.size (.tup [.int (i : Nat), x])) { s with heap := h'', toks := tk + 1 } :=
      I.turnedNew (ch := [e, it]) (fun b ob hb q => (sb.2 b (fun z => hb (by simp [z]))).trans (hk b ob (fun z => hb (by simp [z])) (fun z => hb (by simp [z])) q)) hf (Nat.le_refl _) new
    refine ⟨.ref s.heap.objs.size, _, I1, rfl, ⟨_, x, rfl, I.hok.fresh (Nat.le_refl _), rfl, fun ys hy => by rw [I.tuple_inj hy hq]; exact hx⟩, ⟨⟨u2, ?_⟩, hS.1.at fun o q => (sb.2 it (Ne.symm hne)).trans q, hne⟩, fun b hb => ?_⟩
    · have e1 : ((i + 1 : Nat) : Int) = (i : Int) + 1 := by omega
      rw [e1]
      exact he'
    · have hb' : b < s.heap.objs.size := by
        have hb2 : b = e ∨ b = it := by simpa using hb
        rcases hb2 with z | z
        · subst z; exact hel
        · subst z; exact hil
      rw [upd_ne (Nat.ne_of_lt hb')]
      exact (hf b hb).1
  done := by
    intro X hP hw hK hc i pins s σ H E I hf st hg
    subst hP hw hK
    obtain ⟨⟨old, he⟩, hit, hne⟩ := st
    obtain ⟨xs, hq, hx⟩ := hg
    obtain ⟨its, rv, p, hz⟩ := I.tuple hq
    have hT : s.heap.IsTuple a its.toArray := p
    obtain ⟨f0, f1, f2, f3, f4, f5⟩ := hf it (by simp)
    have hl := rv.length
    have nai : a ≠ it := fun z => by
      obtain ⟨o1, e1, c1, _⟩ := hT
      obtain ⟨o2, e2, c2, _⟩ := hit
      rw [z, e2] at e1
      cases e1
      rw [c2] at c1
      exact absurd c1 (by decide)
    have Dr := Draws.tuple (prog := X.prog) (w := X.w) (A := X.A.in1) (I.ok.hd hc) it a nai its.toArray
    have hsz : its.toArray.size = i := by simp; omega
    exact wpAny_pyNext_enum_endD Dr he (by rw [hsz]; exact ⟨hit, hT⟩) fun h' eb => ⟨rfl, I.turned (t' := s.toks) (fun b o hb q => eb b o hb q) f0 f1 f3 f4 f5⟩
  self := fun A i s Q E st h => let ⟨⟨_, he⟩, _⟩ := st; wpAny_pyIter_enum he h
section
variable {X : Cx} {e : Expr} {ta : TA} {p pos tpos : Pos} {elts : List Expr} {kk : Nat}
/-- enumerate of a list or a tuple -/
theorem pi_enumLT (hg : Gl X "enumerate") (hm : X.mg "enumerate" = none) (ha : PA X [e] ta) (hs : starEach [e] X.env = [(false, eval e X.env)]) :
    PI X (.Tuple elts kk tpos) (.Call (.Name "enumerate" p) [e] [] pos) (fun σ H R => ta σ H fun vs H1 => ∃ a, vs = [.ref a] ∧
      ((∃ xs, SqL X.K H1 a xs ∧ (xs.length ≤ 16777216 → R (Ite X.K a) H1)) ∨ (∃ xs, SqT X.K H1 a xs ∧ (xs.length ≤ 16777216 → R (IteT X.K a) H1)))) := by
  refine ⟨fun pins s σ H R I h => ?_⟩
  refine Call_ (ld_blt I hg hm boot_enumerate (PyProof.Rows.callWith_type1 (thn (ha.run pos pins s σ H _ I h) fun us s1 ⟨vs, H1, I1, r1, q1⟩ => ?_) hs rfl))
  obtain ⟨a, ev, q⟩ := q1
  subst ev
  cases r1 with
  | cons r rr =>
    cases rr
    cases r
    have two : ∀ b, b ∈ [s1.heap.objs.size + 1, s1.heap.objs.size] → FpOk X pins H1 b := fun b hb => by
      have e2 : b = s1.heap.objs.size + 1 ∨ b = s1.heap.objs.size := by simpa using hb
      have hle : s1.heap.objs.size ≤ b := by omega
      exact I1.fpOk hle (I1.hok.fresh hle)
    rcases q with ⟨xs, hq, q⟩ | ⟨xs, hq, q⟩
    · obtain ⟨its, rv, p', hz⟩ := I1.list hq
      rw [sizeLine_eq] at hz
      refine enumCall1 (begins_list a its.toArray) p'.isList fun h' hE hI hk => wpAny_pyIter_enum hE ?_
      exact ⟨s1.heap.objs.size + 1, [s1.heap.objs.size + 1, s1.heap.objs.size], _, _, H1, rfl, I1.kept (t' := s1.toks) hk, turn_enum a (s1.heap.objs.size + 1) s1.heap.objs.size, ⟨⟨.none, hE⟩, ⟨_, hI, rfl, rfl⟩, Nat.succ_ne_self _⟩, two, q hz⟩
    · obtain ⟨its, rv, p', hz⟩ := I1.tuple hq
      rw [sizeLine_eq] at hz
      refine enumCall1 (begins_tuple a its.toArray) p' fun h' hE hI hk => wpAny_pyIter_enum hE ?_
      exact ⟨s1.heap.objs.size + 1, [s1.heap.objs.size + 1, s1.heap.objs.size], _, _, H1, rfl, I1.kept (t' := s1.toks) hk, turn_enumT a (s1.heap.objs.size + 1) s1.heap.objs.size, ⟨⟨.none, hE⟩, ⟨_, hI, rfl, rfl⟩, Nat.succ_ne_self _⟩, two, q hz⟩
end
end L2

/-! t[::-1] of a tuple. -/
namespace L2
open PySem PySem.Spec PyProof.Rows
section
variable {prog : Program} {w : World} {A : Around} {E : Value → Shared → Prop} {s : Shared}
theorem adjust_rev (n : Nat) : Builtin.Slice.sliceAdjust none none (-1) (n : Int) = ((n : Int) - 1, -1) := by
  have h1 : ((-1 : Int) < 0) := by omega
  unfold Builtin.Slice.sliceAdjust
  simp only [h1, if_true]
theorem places_rev (n : Nat) : Builtin.Slice.slicePlaces ((n : Int) - 1) (-1) (-1) = n := by
  unfold Builtin.Slice.slicePlaces
  have h1 : ¬ ((-1 : Int) > 0) := by omega
  simp only [h1, if_false]
  split
  · rw [show (- -1 : Int) = 1 by decide, Int.ediv_one]; omega
  · omega
theorem sliceApplied_rev {sl : Addr} {vs : Value} {n : Nat} {Q : Int × Int × Nat → Shared → Prop} (hs : s.heap.IsSliceOf sl .none .none vs) (ps : IsPart vs (some (-1)))
    (h : Q ((n : Int) - 1, -1, n) s) : wpAny (model prog w) A (Builtin.Slice.sliceApplied (.ref sl) (pure (n : Int))) Q E s := by
  obtain ⟨os, hos, hcs, hds⟩ := id hs
  unfold Builtin.Slice.sliceApplied Builtin.Slice.sliceFields
  refine wpAny_bind (wpAny_bind (wpAny_field hos hds (x := .none) rfl (wpAny_bind (wpAny_field hos hds (x := .none) rfl (wpAny_bind (wpAny_field hos hds (x := vs) rfl (wpAny_pure ?_)))))))
  refine wpAny_bind (HT.slicePart_ ps ?_)
  show wpAny _ _ (if ((-1 : Int) == 0) = true then _ else _) _ _ s
  rw [if_neg (by decide)]
  refine wpAny_bind (slicePart_none (wpAny_bind (slicePart_none (wpAny_bind (wpAny_pure ?_)))))
  show wpAny _ _ (match Builtin.Slice.sliceAdjust none none (-1) (n : Int) with | (lo, hi) => pure (lo, (-1 : Int), Builtin.Slice.slicePlaces lo hi (-1))) _ _ s
  rw [adjust_rev n]
  show wpAny _ _ (pure ((n : Int) - 1, (-1 : Int), Builtin.Slice.slicePlaces ((n : Int) - 1) (-1) (-1))) _ _ s
  rw [places_rev]
  exact wpAny_pure h
theorem pick_rev (xs : Array Value) : ((List.range xs.size).filterMap fun (m : Nat) => xs[(((xs.size : Int) - 1) + (m : Int) * (-1)).toNat]?).toArray = xs.toList.reverse.toArray := by
  congr 1
  apply List.ext_getElem?
  intro i
  have e : (List.range xs.size).filterMap (fun (m : Nat) => xs[(((xs.size : Int) - 1) + (m : Int) * (-1)).toNat]?) = (List.range xs.size).map fun m => (xs[xs.size - 1 - m]?).getD .none := by
    have fm : ∀ (l : List Nat) (f : Nat → Option Value) (g : Nat → Value), (∀ m ∈ l, f m = some (g m)) → l.filterMap f = l.map g := by
      intro l f g h
      induction l with
      | nil => rfl
      | cons x l ih => rw [List.filterMap_cons, h x List.mem_cons_self, ih fun m hm => h m (List.mem_cons_of_mem _ hm)]; rfl
    refine fm _ _ _ fun m hm => ?_
    have hm := List.mem_range.mp hm
    have h2 : (((xs.size : Int) - 1) + (m : Int) * (-1)).toNat = xs.size - 1 - m := by omega
    rw [h2]
    rw [Array.getElem?_eq_getElem (by omega)]
    rfl
  rw [e, List.getElem?_map]
  by_cases hi : i < xs.size
  · rw [List.getElem?_range hi, List.getElem?_reverse (by simpa using hi)]
    simp only [Option.map_some, Array.length_toList, Array.getElem?_toList]
    rw [Array.getElem?_eq_getElem (by omega)]
    rfl
  · rw [List.getElem?_eq_none (by simpa using hi), List.getElem?_eq_none (by simpa using hi)]
    rfl
theorem getItem_tuple_rev {t sl : Addr} {items : Array Value} {vs : Value} {Q : Value → Shared → Prop} (ht : IsTup s.heap t items) (hs : s.heap.IsSliceOf sl .none .none vs) (ps : IsPart vs (some (-1)))
    (h : Q (.ref s.heap.objs.size) { s with heap := s.heap.push { cls := .type "tuple", data := .seq items.toList.reverse.toArray } })
    (hsz : items.size ≤ sizeLine) : wpAny (model prog w) A (getItem (.ref t) (.ref sl)) Q E s := by
  have htake : sizeOk (.seq items.toList.reverse.toArray) := by
    show items.toList.reverse.toArray.size ≤ sizeLine
    rw [List.size_toArray, List.length_reverse, Array.length_toList]
    exact hsz
  obtain ⟨os, hos, hcs, hds⟩ := id hs
  have hTs : s.TypeIs (.ref sl) "slice" := ⟨os, hos, hcs⟩
  unfold getItem
  try with_reducible refine wpAny_holding ?_
  first | refine wpAny_bind (wpAny_pure ?_) | skip
  refine wpAny_bind (wpAny_sequenceKey ht.typeIs (by decide) ?_)
  refine wpAny_bind (wpAny_callSpecial?_slot (name := Str.ofString "__getitem__") ht.typeIs PyProof.Rows.slot_tuple_getitem
    (wpAny_call_entry PyProof.Rows.slot_tuple_getitem ht.typeIs PySem.F.entry_tuple_getitem ?_ (PySem.F.args_tuple_getitem_2 _ _)))
  show wpAny _ _ (Builtin.Tuple.tupleItemsOf (.ref t) >>= _) _ _ s
  refine wpAny_bind (tupleItemsOf_ ht ?_)
  refine wpAny_bind (wpAny_typeOf hTs ?_)
  rw [if_pos (by decide)]
  refine wpAny_bind (sliceApplied_rev hs ps ?_)
  have hno : ¬ ((((items.size : Int) - 1) == 0 && (-1 : Int) == 1 && items.size == items.size) = true) := by
    intro q
    rw [Bool.and_eq_true, Bool.and_eq_true] at q
    exact absurd q.1.2 (by decide)
  show wpAny _ _ (if (((items.size : Int) - 1) == 0 && (-1 : Int) == 1 && items.size == items.size) = true then _ else _) _ _ s
  rw [if_neg hno, pick_rev]
  first
    | exact wpAny_bind (m := Builtin.Tuple.tupleExact _) (wpAny_newObj_type (wpAny_pure ⟨_, rfl, wpAny_pure h⟩) htake)
    | exact wpAny_bind (m := Builtin.Tuple.tupleExact _) (wpAny_newObj_type (wpAny_bind (wpAny_pure (wpAny_pure ⟨_, rfl, wpAny_pure h⟩))) htake)
    | exact wpAny_bind (wpAny_bind (m := Builtin.Tuple.tupleExact _) (wpAny_newObj_type (wpAny_pure (wpAny_pure ⟨_, rfl, wpAny_pure h⟩)) htake))
    | exact wpAny_bind (wpAny_bind (m := Builtin.Tuple.tupleExact _) (wpAny_newObj_type (wpAny_pure ⟨_, rfl, wpAny_pure h⟩) htake))
end
/-- x[::-1] of a list or a tuple -/
def tRevA (K : PySem.W.Frag) (te : TE) : TE := fun σ H Q => te σ H fun x H1 => ∃ a xs, x = .ref a ∧ ((SqL K H1 a xs ∧ ∀ p, H1 p = none → Q (.ref p) (upd H1 p (.lst xs.reverse))) ∨ (SqT K H1 a xs ∧ ∀ p, H1 p = none → Q (.ref p) (upd H1 p (.tup xs.reverse))))
theorem pe_revA {X : Cx} {e : Expr} {te : TE} {k : Nat} {p1 p2 p3 pos : Pos} (he : PE X e te) : PE X (.Subscript e (.Slice none none (some (.UnaryOp .USub (.Constant (.int 1) k p1) p2)) p3) pos) (tRevA X.K te) := by
  refine ⟨fun pins s σ H Q I h => ?_⟩
  refine Subscript_ (thn (he.run pins s σ H _ I h) fun v s1 ⟨x, H1, I1, r1, q1⟩ => ?_)
  obtain ⟨a, xs, ex, q1⟩ := q1
  subst ex
  cases r1
  have hst : PO X (some (.UnaryOp .USub (.Constant (.int 1) k p1) p2)) (tPart (tUn (rU fun i => .int (-i)) (tC (.int 1)))) := po_some (pe_un un_neg pe_int)
  refine wpAny_Slice (thn (po_none.run pins s1 σ H1 (fun o H2 => o = none ∧ H2 = H1) I1 ⟨rfl, rfl⟩) fun vl s2 ⟨l, H2, I2, pl, el, e2⟩ => ?_)
  subst el e2
  refine thn (po_none.run pins s2 σ H2 (fun o H3 => o = none ∧ H3 = H2) I2 ⟨rfl, rfl⟩) fun vu s3 ⟨u, H3, I3, pu, eu, e3⟩ => ?_
  subst eu e3
  refine thn (hst.run pins s3 σ H3 (fun o H4 => o = some (-1) ∧ H4 = H3) I3 ⟨1, rfl, -1, rfl, rfl, rfl⟩) fun vs s4 ⟨o, H4, I4, ps, eo, e4⟩ => ?_
  subst eo e4
  have I5 : Inv X pins σ H4 { s4 with heap := s4.heap.push { cls := .type "slice", data := .fields #[vl, vu, vs] } } := I4.kept (t' := s4.toks) fun b ob q => Heap.get?_push_of_some _ q
  show wpAny (model X.prog X.w) X.A (subscriptTail e (.Slice none none (some (.UnaryOp .USub (.Constant (.int 1) k p1) p2)) p3) (.ref a) (.ref s4.heap.objs.size)) (EP X pins σ Q) X.xe { s4 with heap := s4.heap.push { cls := .type "slice", data := .fields #[vl, vu, vs] } }
  cases pl
  cases pu
  rcases q1 with ⟨hx, q⟩ | ⟨hx, q⟩
  · obtain ⟨its, r, ht, hz⟩ := I5.list hx
    have hlen := r.length
    refine tail_any (ops := [.ref a, .ref s4.heap.objs.size]) ht.isList.typeIs (PySem.slot_list_getitem.lookup) ?_ (by with_unfolding_all rfl)
    refine wpAny_getItem_list_slice ht.isList (Heap.IsSliceOf.new _ .none .none vs) .none .none ps (by decide) ?_ (by rw [List.size_toArray]; omega)
    rw [PySem.W.krv_pick]
    refine ⟨.ref _, _, I5.laid (t' := s4.toks) (o := .lst xs.reverse) (fun b ob q => Heap.get?_push_of_some _ q) (Nat.le_refl _) ?_, rfl, q _ (I5.hok.fresh (Nat.le_refl _))⟩
    exact ⟨by rw [List.length_reverse]; exact hz, _, 0, r.reverse, Heap.get?_push_size _ rfl⟩
  · obtain ⟨its, r, ht, hz⟩ := I5.tuple hx
    have hlen := r.length
    refine tail_any (ops := [.ref a, .ref s4.heap.objs.size]) ht.typeIs (PyProof.Rows.slot_tuple_getitem.lookup) ?_ (by with_unfolding_all rfl)
    refine getItem_tuple_rev ht (Heap.IsSliceOf.new _ .none .none vs) ps ?_ (by rw [List.size_toArray]; omega)
    refine ⟨.ref _, _, I5.laid (t' := s4.toks) (o := .tup xs.reverse) (fun b ob q => Heap.get?_push_of_some _ q) (Nat.le_refl _) ?_, rfl, q _ (I5.hok.fresh (Nat.le_refl _))⟩
    exact ⟨by rw [List.length_reverse]; exact hz, _, r.reverse, IsTup.new _ _⟩
end L2

/-! min, max of a tuple of ints. -/
namespace L2
open PySem PySem.Spec PyProof.Rows PySem.W
theorem reads_ints {h : Heap} : ∀ {its : List Value} {ns : List Int}, IntsAre its ns → ReadsAll h its (ns.map PyData.int) []
  | _, _, .nil => .nil
  | _, _, .cons n t r => ReadsAll.cons (as := []) (bs := []) (.int n t) (reads_ints r)
theorem alike_all_ints (ns : List Int) : AlikeAll (ns.map PyData.int) := by
  refine ⟨fun x hx y hy => ?_, fun x hx => ?_⟩
  · obtain ⟨i, _, rfl⟩ := List.mem_map.mp hx
    obtain ⟨j, _, rfl⟩ := List.mem_map.mp hy
    rfl
  · obtain ⟨i, _, rfl⟩ := List.mem_map.mp hx
    intro z
    cases z
theorem reads_int {h : Heap} {v : Value} {i : Int} {bs : List Addr} (r : Reads h v (.int i) bs) : ∃ t, v = .int i t := by
  cases r with
  | int i t => exact ⟨t, rfl⟩
section
variable {X : Cx}
theorem cr_maxT (hc : X.calm = true) (hu : X.A.units + 64 < cLine) : CallR X (.builtin "max") (fun vs H Q => ∃ (a : Addr) (n : Int) (ns : List Int), vs = [V.ref a] ∧ SqT X.K H a ((n :: ns).map V.int) ∧ Q (.int (ns.foldl max n)) H) := by
  intro pins s σ H vs us Q I r h
  obtain ⟨a, n, ns, rfl, hs, q⟩ := h
  obtain ⟨its, rv, hl, _⟩ := I.tuple hs
  rw [Vals.ref1 r]
  refine max_tuple_data (I.ok.hd hc) (show s.heap.IsTuple a its.toArray from hl) (x := .int n) (xs := ns.map PyData.int) (as := []) (reads_ints (ns := n :: ns) rv.ints) (alike_all_ints (n :: ns)) (by rw [show PyData.int n :: ns.map PyData.int = (n :: ns).map PyData.int from rfl, PySem.W.depth_ints]; omega) fun i v h' tk bs _ hr hk => ?_
  rw [maxD_ints] at hr
  obtain ⟨t, rfl⟩ := reads_int hr
  exact ⟨.int _, H, I.kept hk, ⟨t, rfl⟩, q⟩
theorem cr_minT (hc : X.calm = true) (hu : X.A.units + 64 < cLine) : CallR X (.builtin "min") (fun vs H Q => ∃ (a : Addr) (n : Int) (ns : List Int), vs = [V.ref a] ∧ SqT X.K H a ((n :: ns).map V.int) ∧ Q (.int (ns.foldl min n)) H) := by
  intro pins s σ H vs us Q I r h
  obtain ⟨a, n, ns, rfl, hs, q⟩ := h
  obtain ⟨its, rv, hl, _⟩ := I.tuple hs
  rw [Vals.ref1 r]
  refine min_tuple_data (I.ok.hd hc) (show s.heap.IsTuple a its.toArray from hl) (x := .int n) (xs := ns.map PyData.int) (as := []) (reads_ints (ns := n :: ns) rv.ints) (alike_all_ints (n :: ns)) (by rw [show PyData.int n :: ns.map PyData.int = (n :: ns).map PyData.int from rfl, PySem.W.depth_ints]; omega) fun i v h' tk bs _ hr hk => ?_
  rw [minD_ints] at hr
  obtain ⟨t, rfl⟩ := reads_int hr
  exact ⟨.int _, H, I.kept hk, ⟨t, rfl⟩, q⟩
end
end L2

/-! PV, part 5: the operations, on. -/
namespace L2.PV
open PySem PySem.Spec PyProof.Rows LamX
section
variable {X : Cx} {T : Tb}
theorem op_mulTD {pins : List (Addr × Obj)} {s : Shared} {σ : St} {H : Hp} {l : Addr} {xs : List V} {k : Int} {t : Tok} {Q : VK} (I : Inv X pins σ H s) (hT : SqT X.K H l xs) (h1 : -(2 ^ 62) ≤ k) (h2 : k < 2 ^ 62) (h3 : xs.length * k.toNat ≤ 16777216)
    (q1 : rep xs k = xs → Q (.ref l) H) (q2 : ∀ p, H p = none → Q (.ref p) (upd H p (.tup (rep xs k)))) : wpAny (model X.prog X.w) X.A (binaryOp .Mult (.ref l) (.int k t)) (EP X pins σ Q) X.xe s := by
  obtain ⟨its, r, ⟨⟨cls, dd, data, sl⟩, ho, hc, n, hd⟩, hs⟩ := I.tuple hT
  simp only at hc hd
  subst hc hd
  have hle : its.length = xs.length := r.length.symm
  have c0 : (decide (k < -(2 ^ 63)) || decide (k ≥ 2 ^ 63)) = false := by
    rw [decide_eq_false (by omega), decide_eq_false (by omega)] <;> rfl
  refine wpAny_binaryOp_repeat_ref (T := "tuple") (U := "int") (by decide) ⟨_, ho, rfl⟩ (fun s' => typeIs_int s' k t) noFill_tuple_mul F.fills_int_mul F.slot_int_rmul repeat_tuple F.slot_int_index.lookup
    (call_meets F.slot_int_rmul (typeIs_int s k t) F.entry_int_rmul (F.args_int_rmul_2 _ _) (int_rmul_tuple k t l its.toArray n dd sl)
      ⟨ho, rfl, ⟨_, ho, rfl⟩, ?_⟩)
  cases c1 : (its.toArray.isEmpty || k == 1) with
  | true =>
    refine call_meets F.slot_tuple_mul ⟨_, ho, rfl⟩ F.entry_tuple_mul (F.args_tuple_mul_2 _ _) (tuple_mulW1 l its.toArray n dd sl k t c0 c1) ⟨ho, ⟨.ref l, H, I, rfl, q1 ?_⟩⟩
    rw [Bool.or_eq_true, beq_iff_eq] at c1
    unfold rep
    rcases c1 with c1 | c1
    · have e : xs = [] := by
        cases its with
        | nil => exact List.eq_nil_of_length_eq_zero hle.symm
        | cons a b => cases c1
      rw [e]
      simp
    · subst c1
      show (List.replicate 1 xs).flatten = xs
      rw [List.replicate_one, List.flatten_singleton]
  | false =>
    cases c2 : (decide (k ≤ 0) || its.toArray.isEmpty) with
    | true =>
      refine call_meets F.slot_tuple_mul ⟨_, ho, rfl⟩ F.entry_tuple_mul (F.args_tuple_mul_2 _ _) (tuple_mulW2 l its.toArray n dd sl k t c0 c1 c2) ⟨ho, ?_⟩
      rw [Bool.or_eq_false_iff] at c1
      rw [c1.1, Bool.or_false, decide_eq_true_eq] at c2
      have e : rep xs k = [] := by
        unfold rep
        rw [show k.toNat = 0 by omega]
        rfl
      rw [e] at q2
      refine ⟨.ref s.heap.objs.size, _, I.laid (t' := s.toks) (o := .tup []) (fun b ob q => Heap.get?_push_of_some _ q) (Nat.le_refl _) ?_, rfl, q2 _ (I.hok.fresh (Nat.le_refl _))⟩
      exact ⟨Nat.zero_le _, [], .nil, IsTup.new _ _⟩
    | false =>
      have hi : its.toArray.isEmpty = false := by rw [Bool.or_eq_false_iff] at c1; exact c1.1
      have hk : 0 < k := by
        rw [Bool.or_eq_false_iff, decide_eq_false_iff_not] at c2
        omega
      have hm : ((its.toArray.size : Nat) : Int) * k ≤ 16777216 := by
        have : ((xs.length * k.toNat : Nat) : Int) ≤ 16777216 := Int.ofNat_le.mpr h3
        rw [Int.natCast_mul, Int.toNat_of_nonneg (by omega)] at this
        rw [List.size_toArray, hle]
        exact this
      have flen : (List.replicate k.toNat its).flatten.length ≤ sizeLine := by
        rw [PyProof.Rows.lm_len_rep_flat, hle, sizeLine_eq, Nat.mul_comm]
        exact h3
      have c4 : Builtin.Tuple.tupleTooMany (((its.toArray.size : Nat) : Int) * k) = false := by
        unfold Builtin.Tuple.tupleTooMany
        rw [sizeLine_eq]
        exact decide_eq_false (by omega)
      refine call_meets F.slot_tuple_mul ⟨_, ho, rfl⟩ F.entry_tuple_mul (F.args_tuple_mul_2 _ _) (tuple_mulW l its.toArray n dd sl k t c0 c1 c2 (by omega) c4 (by rw [size_rep, List.size_toArray]; exact flen)) ⟨ho, ?_⟩
      rw [size_rep]
      refine ⟨.ref s.heap.objs.size, _, I.laid (t' := s.toks) (o := .tup (rep xs k)) (fun b ob q => Heap.get?_push_of_some _ q) (Nat.le_refl _) ?_, rfl, q2 _ (I.hok.fresh (Nat.le_refl _))⟩
      refine ⟨?_, _, r.rep k.toNat, IsTup.new _ _⟩
      unfold rep
      rw [PyProof.Rows.lm_len_rep_flat, sizeLine_eq, Nat.mul_comm]
      exact h3
theorem op_mulD : OpR X (binaryOp .Mult) (rBin X.K T .Mult) := by
  intro pins s σ H x y v u Q I rx ry h
  obtain ⟨W, a, b, d, rfl, sr, ra, rb, e, q⟩ := h
  replace e : mulF (rd W.S a) (rd W.S b) = some d := e
  cases ha : rd W.S a with
  | int i =>
    rw [ha] at e
    cases hb : rd W.S b with
    | int j =>
      rw [hb] at e
      cases rd_int ha
      cases rd_int hb
      obtain ⟨hz, rfl⟩ := ite_some (show (if MulOk i j then some (D.int (i * j)) else none) = some d from e)
      exact op_mul pins s σ W.H x y v u Q I rx ry ⟨i, j, ra, rb, hz.symm, q.here sr _ rfl⟩
    | _ => rw [hb] at e; cases e
  | str i =>
    rw [ha] at e
    cases hb : rd W.S b with
    | int k =>
      rw [hb] at e
      cases rd_str ha
      cases rd_int hb
      obtain ⟨⟨h1, h2, h3⟩, rfl⟩ := ite_some (show (if -(2 ^ 62) ≤ k ∧ k < 2 ^ 62 ∧ i.length * k.toNat ≤ 16777216 then some (D.str ⟨(rep i.cps.toList k).toArray⟩) else none) = some d from e)
      cases ra
      cases rb
      obtain ⟨t, rfl⟩ := rx
      obtain ⟨t', rfl⟩ := ry
      exact op_mul_strD I h1 h2 h3 (q.here sr _ rfl)
    | _ => rw [hb] at e; cases e
  | tup xs =>
    rw [ha] at e
    cases hb : rd W.S b with
    | int k =>
      rw [hb] at e
      cases rd_tup ha
      cases rd_int hb
      obtain ⟨⟨h1, h2, h3⟩, rfl⟩ := ite_some (show (if -(2 ^ 62) ≤ k ∧ k < 2 ^ 62 ∧ xs.length * k.toNat ≤ 16777216 then some (D.tup (rep xs k)) else none) = some d from e)
      obtain ⟨p1, vs, rfl, g1, r1⟩ := id ra
      cases rb
      cases rx
      obtain ⟨t', rfl⟩ := ry
      refine op_mulTD I (.inl (.inl g1)) h1 h2 (by rw [← r1.len]; exact h3) (fun er => ?_) fun p hp => After.newTup sr q (r1.rep k.toNat) hp
      have ed : rep xs k = xs := by
        have rr := r1.rep k.toNat
        -- the lengths are the same
        by_cases hx : xs = []
        · subst hx; unfold rep; simp
        · have hl : (rep vs k).length = vs.length := by rw [er]
          unfold rep at hl
          rw [PyProof.Rows.lm_len_rep_flat] at hl
          have hv : 0 < vs.length := by
            rw [← r1.len]
            exact List.length_pos_iff.mpr hx
          have hk : k.toNat = 1 := by
            have := Nat.eq_of_mul_eq_mul_right hv (hl.trans (Nat.one_mul _).symm)
            exact this
          unfold rep
          rw [hk, List.replicate_one, List.flatten_singleton]
      rw [ed] at q
      exact q.here sr _ ra
    | _ => rw [hb] at e; cases e
  | lst xs =>
    rw [ha] at e
    cases hb : rd W.S b with
    | int k =>
      rw [hb] at e
      cases rd_int hb
      obtain ⟨⟨h1, h2, h3⟩, rfl⟩ := ite_some (show (if -(2 ^ 62) ≤ k ∧ k < 2 ^ 62 ∧ xs.length * k.toNat ≤ 16777216 then some (D.lst (rep xs k)) else none) = some d from e)
      obtain ⟨p1, vs, rfl, g1, r1⟩ := rd_lst sr ra ha
      exact op_rep pins s σ W.H _ _ v u Q I rx ry ⟨p1, k, vs, rfl, rb, g1, by omega, by omega, by rw [sizeLine_eq, ← r1.len]; exact h3, fun p hp => After.newLst sr q (r1.rep k.toNat) hp⟩
    | _ => rw [hb] at e; cases e
  | _ => rw [ha] at e; cases e
theorem op_binD : ∀ op : Operator, OpR X (binaryOp op) (rBin X.K T op)
  | .Add => op_addD
  | .Sub => op_subD
  | .Mult => op_mulD
  | .FloorDiv => op_fdivD
  | .Mod => op_modD
  | .Pow => op_powD
  | .MatMult => fun _ _ _ _ _ _ _ _ _ _ _ _ ⟨_, _, _, _, _, _, _, _, e, _⟩ => nomatch e
  | .Div => fun _ _ _ _ _ _ _ _ _ _ _ _ ⟨_, _, _, _, _, _, _, _, e, _⟩ => nomatch e
  | .LShift => fun _ _ _ _ _ _ _ _ _ _ _ _ ⟨_, _, _, _, _, _, _, _, e, _⟩ => nomatch e
  | .RShift => fun _ _ _ _ _ _ _ _ _ _ _ _ ⟨_, _, _, _, _, _, _, _, e, _⟩ => nomatch e
  | .BitOr => fun _ _ _ _ _ _ _ _ _ _ _ _ ⟨_, _, _, _, _, _, _, _, e, _⟩ => nomatch e
  | .BitXor => fun _ _ _ _ _ _ _ _ _ _ _ _ ⟨_, _, _, _, _, _, _, _, e, _⟩ => nomatch e
  | .BitAnd => fun _ _ _ _ _ _ _ _ _ _ _ _ ⟨_, _, _, _, _, _, _, _, e, _⟩ => nomatch e
/-! ### comparisons -/
def rCmp (K : PySem.W.Frag) (T : Tb) (op : CmpOp) : R2 := fun x y H Q => ∃ (W : Wd) (a b : D) (k : Bool), W.H = H ∧ SR K T W ∧ VR K W a x ∧ VR K W b y ∧ cmpF W.S op a b = some k ∧ Q (.bl k) H
mutual
theorem dat_ok {K : PySem.W.Frag} {W : Wd} : ∀ {a : D} {x : V} {d : PyData}, VR K W a x → a.dat = some d → Dp K W.H x d
  | .non, x, d, r, e => by cases r; cases e; exact .non
  | .bl b, x, d, r, e => by cases r; cases e; exact .bl b
  | .int i, x, d, r, e => by cases r; cases e; exact .int i
  | .str i, x, d, r, e => by cases r; cases e; exact .str i
  | .tup xs, x, d, r, e => by
    obtain ⟨p, vs, rfl, h1, h2⟩ := r
    obtain ⟨ds, e1, e2⟩ := Option.map_eq_some_iff.mp (show (D.dats xs).map PyData.tuple = some d from e)
    subst e2
    exact .tup (.inl (.inl h1)) (dats_ok h2 e1)
  | .lst xs, x, d, r, e => by
    obtain ⟨p, vs, rfl, h1, _, h2⟩ := r
    obtain ⟨ds, e1, e2⟩ := Option.map_eq_some_iff.mp (show (D.dats xs).map PyData.list = some d from e)
    subst e2
    exact .lst (.inl (.inl h1)) (dats_ok h2 e1)
  | .scr _, x, d, r, e => by cases (show (none : Option PyData) = some d from e)
  | .loc _, x, d, r, e => by cases (show (none : Option PyData) = some d from e)
theorem dats_ok {K : PySem.W.Frag} {W : Wd} : ∀ {as : List D} {xs : List V} {ds : List PyData}, VRs K W as xs → D.dats as = some ds → DpAll K W.H xs ds
  | [], xs, ds, r, e => by
    cases (show xs = [] from r)
    cases (show some [] = some ds from e)
    exact .nil
  | a :: as, xs, ds, r, e => by
    obtain ⟨x, r', rfl, h1, h2⟩ := r
    replace e : (match D.dat a with
      | some d => (D.dats as).map (d :: ·)
      | none => none) = some ds := e
    cases hd : D.dat a with
    | none => rw [hd] at e; cases e
    | some d =>
      rw [hd] at e
      obtain ⟨es, e1, e2⟩ := Option.map_eq_some_iff.mp e
      subst e2
      exact .cons (dat_ok h1 hd) (dats_ok h2 e1)
end
theorem eqDp_ok {K : PySem.W.Frag} {W : Wd} {a b : D} {k : Bool} {x y : V} (ra : VR K W a x) (rb : VR K W b y) (e : eqDp a b = some k) : ∃ d f, Dp K W.H x d ∧ Dp K W.H y f ∧ SeqAt.shaped d = true ∧ SeqAt.shaped f = true ∧ k = PyData.eqv d f := by
  replace e : (match a.dat with
    | some d => (match b.dat with
      | some e => if SeqAt.shaped d = true ∧ SeqAt.shaped e = true then some (PyData.eqv d e) else none
      | none => none)
    | none => none) = some k := e
  cases ha : a.dat with
  | none => rw [ha] at e; cases e
  | some d =>
    rw [ha] at e
    cases hb : b.dat with
    | none => rw [hb] at e; cases e
    | some f =>
      rw [hb] at e
      obtain ⟨⟨h1, h2⟩, h3⟩ := ite_some (show (if SeqAt.shaped d = true ∧ SeqAt.shaped f = true then some (PyData.eqv d f) else none) = some k from e)
      exact ⟨d, f, dat_ok ra ha, dat_ok rb hb, h1, h2, h3.symm⟩
theorem eqF_ok {K : PySem.W.Frag} {W : Wd} {a b : D} {k : Bool} {x y : V} (ra : VR K W a x) (rb : VR K W b y) (e : eqF a b = some k) : (scal x y = true ∧ k = decide (x = y)) ∨ ∃ d f, Dp K W.H x d ∧ Dp K W.H y f ∧ SeqAt.shaped d = true ∧ SeqAt.shaped f = true ∧ k = PyData.eqv d f := by
  cases a with
  | non =>
    cases ra
    cases b with
    | non => cases rb; cases e; exact .inl ⟨rfl, by simp⟩
    | bl j => cases rb; cases e; exact .inl ⟨rfl, by simp⟩
    | int j => cases rb; cases e; exact .inl ⟨rfl, by simp⟩
    | str j => cases rb; cases e; exact .inl ⟨rfl, by simp⟩
    | _ => cases e
  | bl i =>
    cases ra
    cases b with
    | non => cases rb; cases e; exact .inl ⟨rfl, by simp⟩
    | bl j => cases rb; cases e; exact .inl ⟨rfl, by simp⟩
    | str j => cases rb; cases e; exact .inl ⟨rfl, by simp⟩
    | _ => cases e
  | int i =>
    cases ra
    cases b with
    | non => cases rb; cases e; exact .inl ⟨rfl, by simp⟩
    | int j => cases rb; cases e; exact .inl ⟨rfl, by simp⟩
    | str j => cases rb; cases e; exact .inl ⟨rfl, by simp⟩
    | _ => cases e
  | str i =>
    cases ra
    cases b with
    | non => cases rb; cases e; exact .inl ⟨rfl, by simp⟩
    | bl j => cases rb; cases e; exact .inl ⟨rfl, by simp⟩
    | int j => cases rb; cases e; exact .inl ⟨rfl, by simp⟩
    | str j => cases rb; cases e; exact .inl ⟨rfl, by simp⟩
    | _ => cases e
  | tup xs => exact .inr (eqDp_ok ra rb e)
  | lst xs => exact .inr (eqDp_ok ra rb e)
  | _ => cases e
theorem int_lt_ok {a b : D} {p : Int → Int → Bool} {k : Bool} (e : (match a with | .int i => (match b with | .int j => some (p i j) | _ => none) | _ => none) = some k) : ∃ i j, a = .int i ∧ b = .int j ∧ k = p i j := by
  cases a with
  | int i => cases b with
    | int j => cases e; exact ⟨i, j, rfl, rfl, rfl⟩
    | _ => cases e
  | _ => cases e
theorem isNon_ok {K : PySem.W.Frag} {W : Wd} {a : D} {x : V} (ra : VR K W a x) : a.isNon = decide (x = .non) := by
  cases a with
  | non => cases ra; rfl
  | bl i => cases ra; rfl
  | int i => cases ra; rfl
  | str i => cases ra; rfl
  | tup i => obtain ⟨_, _, rfl, _⟩ := ra; rfl
  | lst i => obtain ⟨_, _, rfl, _⟩ := ra; rfl
  | scr i => obtain ⟨_, _, rfl, _⟩ := ra; rfl
  | loc i => obtain ⟨_, rfl, _⟩ := ra; rfl
theorem dec_sym {α : Type} [DecidableEq α] [BEq α] [LawfulBEq α] (i j : α) : decide (i = j) = (j == i) := by
  by_cases h : i = j
  · subst h
    rw [decide_eq_true rfl]
    exact (beq_self_eq_true i).symm
  · rw [decide_eq_false h]
    exact (beq_eq_false_iff_ne.mpr (Ne.symm h)).symm
theorem inF_ok {K : PySem.W.Frag} {W : Wd} {a : D} {x : V} (ra : VR K W a x) {kk : Key} (hk : a.key = some kk) : ∀ {ds : List D} {vs : List V} {k : Bool}, VRs K W ds vs → inF a ds = some k → flatV x = true ∧ vs.all flatV = true ∧ k = inV x vs
  | [], vs, k, h, e => by
    cases (show vs = [] from h)
    cases e
    refine ⟨?_, rfl, rfl⟩
    cases a <;> first | (cases ra; rfl) | cases hk
  | d :: ds, vs, k, h, e => by
    obtain ⟨y, r, rfl, h1, h2⟩ := h
    have e : (match eqFl a d with
      | some b => (inF a ds).map (b || ·)
      | none => none) = some k := e
    cases q : eqFl a d with
    | none => rw [q] at e; cases e
    | some b =>
      rw [q] at e
      cases q2 : inF a ds with
      | none => rw [q2] at e; cases e
      | some k' =>
        rw [q2] at e
        cases (show some (b || k') = some k from e)
        obtain ⟨g1, g2, g3⟩ := inF_ok ra hk h2 q2
        have : flatV y = true ∧ b = eqV y x := by
          cases a with
          | int i =>
            cases ra
            cases d with
            | int j => cases h1; cases q; exact ⟨rfl, dec_sym i j⟩
            | str j => cases h1; cases q; exact ⟨rfl, rfl⟩
            | _ => cases q
          | str i =>
            cases ra
            cases d with
            | str j => cases h1; cases q; exact ⟨rfl, dec_sym i j⟩
            | int j => cases h1; cases q; exact ⟨rfl, rfl⟩
            | _ => cases q
          | _ => cases q
        refine ⟨g1, by rw [List.all_cons, this.1, g2]; rfl, ?_⟩
        show (b || k') = (eqV y x || inV x r)
        rw [← this.2, ← g3]
theorem key_ok {K : PySem.W.Frag} {W : Wd} {a : D} {x : V} (ra : VR K W a x) {kk : Key} (hk : a.key = some kk) : x = kV kk := by
  cases a with
  | int i => cases ra; cases hk; rfl
  | str i => cases ra; cases hk; rfl
  | _ => cases hk
theorem dLook_ok {K : PySem.W.Frag} {W : Wd} (k : Key) : ∀ {kvs : List (Key × D)} {vs : List (Key × V)}, Paired (fun (p : Key × D) (q : Key × V) => p.1 = q.1 ∧ VR K W p.2 q.2) kvs vs →
    (dLook kvs k = none ∧ valV vs k = none) ∨ ∃ d v, dLook kvs k = some d ∧ valV vs k = some v ∧ VR K W d v := by
  intro kvs vs h
  induction h with
  | nil => exact .inl ⟨rfl, rfl⟩
  | @cons p q ps qs h1 h2 ih =>
    obtain ⟨e1, r1⟩ := h1
    unfold dLook valV
    rw [List.find?_cons, List.find?_cons, ← e1]
    by_cases hk : p.1 = k
    · rw [decide_eq_true hk]
      exact .inr ⟨p.2, q.2, rfl, rfl, r1⟩
    · rw [decide_eq_false hk]
      exact ih
/-- a dict cell's lookup -/
theorem dget_ok {K : PySem.W.Frag} {T : Tb} {W : Wd} {n : Nat} {a : Addr} {kvs : List (Key × D)} (sr : SR K T W) (ha : W.θ[n]? = some a) (e : W.S[n]? = some (.dic kvs)) {b : D} {y : V} (rb : VR K W b y) {k : Key} (hk : b.key = some k) :
    (dLook kvs k = none ∧ DGet W.H a y none) ∨ ∃ d v, dLook kvs k = some d ∧ DGet W.H a y (some v) ∧ VR K W d v := by
  obtain ⟨vs, e1, pr⟩ := sr.cell n _ a e ha
  have ey := key_ok rb hk
  subst ey
  rcases dLook_ok k pr with ⟨h1, h2⟩ | ⟨d, v, h1, h2, h3⟩
  · exact .inl ⟨h1, .inl ⟨vs, k, .inl e1, rfl, h2.symm⟩⟩
  · exact .inr ⟨d, v, h1, .inl ⟨vs, k, .inl e1, rfl, h2.symm⟩, h3⟩
end
end L2.PV

/-! PV, part 6: comparisons, truth, places, slices, types. -/
namespace L2.PV
open PySem PySem.Spec PyProof.Rows LamX
section
variable {X : Cx} {T : Tb}
theorem op_inD (hu : X.A.units + 1 < cLine) (neg : Bool) : OpR X (compareOp (if neg then .NotIn else .In)) (fun x y H Q => ∃ (W : Wd) (a b : D) (k : Bool), W.H = H ∧ SR X.K T W ∧ VR X.K W a x ∧ VR X.K W b y ∧ containsF W.S a (rd W.S b) = some k ∧ Q (.bl (if neg then !k else k)) H) := by
  intro pins s σ H x y v u Q I rx ry h
  obtain ⟨W, a, b, k, rfl, sr, ra, rb, e, q⟩ := h
  have seq : ∀ (ys : List D) (p : Addr) (vs : List V), y = .ref p → W.H p = some (.lst vs) ∨ W.H p = some (.tup vs) → VRs X.K W ys vs → (match a.key with
      | some _ => inF a ys
      | none => none) = some k → wpAny (model X.prog X.w) X.A (compareOp (if neg then .NotIn else .In) v u) (EP X pins σ Q) X.xe s := by
    intro ys p vs ey hp r1 e1
    cases hk : a.key with
    | none => rw [hk] at e1; cases e1
    | some kk =>
      rw [hk] at e1
      obtain ⟨g1, g2, g3⟩ := inF_ok ra hk r1 e1
      have hq : SqL X.K W.H p vs ∨ SqT X.K W.H p vs := hp.elim (fun z => .inl (.inl (.inl z))) fun z => .inr (.inl (.inl z))
      cases neg with
      | false => exact op_in_seq pins s σ W.H x y v u Q I rx ry ⟨p, vs, ey, hq, g1, g2, by rw [← g3]; exact q⟩
      | true => exact op_notIn_seq pins s σ W.H x y v u Q I rx ry ⟨p, vs, ey, hq, g1, g2, by rw [← g3]; exact q⟩
  cases hb : rd W.S b with
  | tup ys =>
    rw [hb] at e
    cases rd_tup hb
    obtain ⟨p, vs, ey, h1, r1⟩ := rb
    exact seq ys p vs ey (.inr h1) r1 e
  | lst ys =>
    rw [hb] at e
    obtain ⟨p, vs, ey, h1, r1⟩ := rd_lst sr rb hb
    exact seq ys p vs ey (.inl h1) r1 e
  | str z =>
    rw [hb] at e
    cases rd_str hb
    cases rb
    cases a with
    | str c =>
      cases ra
      cases e
      cases neg with
      | false => exact op_in_str pins s σ W.H _ _ v u Q I rx ry ⟨c, z, rfl, rfl, q⟩
      | true => exact op_notIn_str pins s σ W.H _ _ v u Q I rx ry ⟨c, z, rfl, rfl, q⟩
    | _ => cases e
  | loc n =>
    rw [hb] at e
    cases rd_loc hb
    obtain ⟨p, ey, hp⟩ := rb
    replace e : (match W.S[n]? with
      | some (.dic kvs) => (a.key).map fun k => (dLook kvs k).isSome
      | _ => none) = some k := e
    cases hc : W.S[n]? with
    | none => rw [hc] at e; cases e
    | some c =>
      rw [hc] at e
      cases c with
      | dic kvs =>
        cases hk : a.key with
        | none => rw [hk] at e; cases e
        | some kk =>
          rw [hk] at e
          cases (show some (dLook kvs kk).isSome = some k from e)
          subst ey
          cases ry
          rcases dget_ok sr hp hc ra hk with ⟨h1, h2⟩ | ⟨d, w', h1, h2, _⟩
          · rw [h1] at q
            cases neg with
            | false => exact d_in hu I h2 rx fun s3 I3 => ⟨.bl false, W.H, I3, rfl, q⟩
            | true => exact d_notIn hu I h2 rx fun s3 I3 => ⟨.bl true, W.H, I3, rfl, q⟩
          · rw [h1] at q
            cases neg with
            | false => exact d_in hu I h2 rx fun s3 I3 => ⟨.bl true, W.H, I3, rfl, q⟩
            | true => exact d_notIn hu I h2 rx fun s3 I3 => ⟨.bl false, W.H, I3, rfl, q⟩
      | _ => cases e
  | _ => rw [hb] at e; cases e
theorem op_cmpD (hu : X.A.units + 64 < cLine) : ∀ op : CmpOp, OpR X (compareOp op) (rCmp X.K T op)
  | .Eq => fun pins s σ H x y v u Q I rx ry ⟨W, a, b, k, eH, sr, ra, rb, e, q⟩ => by
    subst eH
    rcases eqF_ok ra rb e with ⟨h1, h2⟩ | ⟨d, f, h1, h2, h3, h4, h5⟩
    · exact op_eq pins s σ W.H x y v u Q I rx ry ⟨h1, by rw [← h2]; exact q⟩
    · exact op_eqD hu pins s σ W.H x y v u Q I rx ry ⟨d, f, h1, h2, h3, h4, by rw [← h5]; exact q⟩
  | .NotEq => fun pins s σ H x y v u Q I rx ry ⟨W, a, b, k, eH, sr, ra, rb, e, q⟩ => by
    subst eH
    obtain ⟨k', e', ek⟩ := Option.map_eq_some_iff.mp (show (eqF a b).map (!·) = some k from e)
    subst ek
    rcases eqF_ok ra rb e' with ⟨h1, h2⟩ | ⟨d, f, h1, h2, h3, h4, h5⟩
    · exact op_ne pins s σ W.H x y v u Q I rx ry ⟨h1, by rw [← h2]; exact q⟩
    · exact op_neD hu pins s σ W.H x y v u Q I rx ry ⟨d, f, h1, h2, h3, h4, by rw [← h5]; exact q⟩
  | .Lt => fun pins s σ H x y v u Q I rx ry ⟨W, a, b, k, eH, sr, ra, rb, e, q⟩ => by
    subst eH
    obtain ⟨i, j, rfl, rfl, rfl⟩ := int_lt_ok e
    exact op_lt pins s σ W.H x y v u Q I rx ry ⟨i, j, ra, rb, q⟩
  | .LtE => fun pins s σ H x y v u Q I rx ry ⟨W, a, b, k, eH, sr, ra, rb, e, q⟩ => by
    subst eH
    obtain ⟨i, j, rfl, rfl, rfl⟩ := int_lt_ok e
    exact op_le pins s σ W.H x y v u Q I rx ry ⟨i, j, ra, rb, q⟩
  | .Gt => fun pins s σ H x y v u Q I rx ry ⟨W, a, b, k, eH, sr, ra, rb, e, q⟩ => by
    subst eH
    obtain ⟨i, j, rfl, rfl, rfl⟩ := int_lt_ok e
    exact op_gt pins s σ W.H x y v u Q I rx ry ⟨i, j, ra, rb, q⟩
  | .GtE => fun pins s σ H x y v u Q I rx ry ⟨W, a, b, k, eH, sr, ra, rb, e, q⟩ => by
    subst eH
    obtain ⟨i, j, rfl, rfl, rfl⟩ := int_lt_ok e
    exact op_ge pins s σ W.H x y v u Q I rx ry ⟨i, j, ra, rb, q⟩
  | .Is => fun pins s σ H x y v u Q I rx ry ⟨W, a, b, k, eH, sr, ra, rb, e, q⟩ => by
    subst eH
    obtain ⟨hz, rfl⟩ := ite_some (show (if b.isNon then some a.isNon else none) = some k from e)
    rw [isNon_ok rb] at hz
    exact op_isN pins s σ W.H x y v u Q I rx ry ⟨of_decide_eq_true hz, by rw [← isNon_ok ra]; exact q⟩
  | .IsNot => fun pins s σ H x y v u Q I rx ry ⟨W, a, b, k, eH, sr, ra, rb, e, q⟩ => by
    subst eH
    obtain ⟨hz, rfl⟩ := ite_some (show (if b.isNon then some (!a.isNon) else none) = some k from e)
    rw [isNon_ok rb] at hz
    exact op_notN pins s σ W.H x y v u Q I rx ry ⟨of_decide_eq_true hz, by rw [← isNon_ok ra]; exact q⟩
  | .In => fun pins s σ H x y v u Q I rx ry ⟨W, a, b, k, eH, sr, ra, rb, e, q⟩ =>
    op_inD (T := T) (by omega) false pins s σ H x y v u Q I rx ry ⟨W, a, b, k, eH, sr, ra, rb, e, q⟩
  | .NotIn => fun pins s σ H x y v u Q I rx ry ⟨W, a, b, k, eH, sr, ra, rb, e, q⟩ => by
    obtain ⟨k', e', ek⟩ := Option.map_eq_some_iff.mp (show (containsF W.S a (rd W.S b)).map (!·) = some k from e)
    exact op_inD (T := T) (by omega) true pins s σ H x y v u Q I rx ry ⟨W, a, b, k', eH, sr, ra, rb, e', by subst ek; exact q⟩
/-! ### truth -/
theorem truF_ok {W : Wd} {d : D} {x : V} {k : Bool} (sr : SR X.K T W) (r : VR X.K W d x) (e : truF W.S d = some k) : TruV X.K x W.H k := by
  replace e : (match rd W.S d with
    | .non => some false
    | .bl b => some b
    | .int i => some (i != 0)
    | .str s => if s.length ≤ 16777216 then some ((s.length : Int) != 0) else none
    | .tup xs => some (!xs.isEmpty)
    | .lst xs => some (!xs.isEmpty)
    | _ => none) = some k := e
  have emp : ∀ {ds : List D} {vs : List V}, VRs X.K W ds vs → ds.isEmpty = vs.isEmpty := fun {ds vs} h => by
    cases ds with
    | nil => cases (show vs = [] from h); rfl
    | cons a b => obtain ⟨_, _, rfl, _⟩ := h; rfl
  cases hd : rd W.S d with
  | non => rw [hd] at e; cases rd_non hd; cases r; cases e; rfl
  | bl b => rw [hd] at e; cases rd_bl hd; cases r; cases e; rfl
  | int i => rw [hd] at e; cases rd_int hd; cases r; cases e; rfl
  | str i =>
    rw [hd] at e
    cases rd_str hd
    cases r
    obtain ⟨hz, rfl⟩ := ite_some (show (if i.length ≤ 16777216 then some ((i.length : Int) != 0) else none) = some k from e)
    exact ⟨by rw [sizeLine_eq]; exact hz, rfl⟩
  | tup xs =>
    rw [hd] at e
    cases rd_tup hd
    obtain ⟨p, vs, rfl, h1, r1⟩ := r
    cases (show some (!xs.isEmpty) = some k from e)
    exact .inr (.inl ⟨vs, .inl (.inl h1), by rw [emp r1]⟩)
  | lst xs =>
    rw [hd] at e
    obtain ⟨p, vs, rfl, h1, r1⟩ := rd_lst sr r hd
    cases (show some (!xs.isEmpty) = some k from e)
    exact .inl ⟨vs, .inl (.inl h1), by rw [emp r1]⟩
  | _ => rw [hd] at e; cases e
/-! ### places -/
def rIdx (K : PySem.W.Frag) (T : Tb) : R2 := fun x y H Q => ∃ (W : Wd) (a b d : D), W.H = H ∧ SR K T W ∧ VR K W a x ∧ VR K W b y ∧ idxF W.S a b = some d ∧ After K T W (.ok d W.S) (Gv K Q)
theorem atI_cps {z : Str} {k : Int} {d : D} (e : (atI z.cps.toList k).map (fun c => D.str ⟨#[c]⟩) = some d) : ∃ c, atI z.cps.toList k = some c ∧ d = .str ⟨#[c]⟩ := by
  obtain ⟨c, h1, h2⟩ := Option.map_eq_some_iff.mp e
  exact ⟨c, h1, h2.symm⟩
theorem ix_dict (hu : X.A.units + 1 < cLine) {value slice : Expr} {pins : List (Addr × Obj)} {s : Shared} {σ : St} {H : Hp} {p : Addr} {y x : V} {u : Value} {Q : VK} (I : Inv X pins σ H s) (ry : RelV y u) (g : DGet H p y (some x)) (q : Q x H)
    (hs : subscripted slice false (.ref p) u = operate [.ref p, u] (getItem (.ref p) u)) : wpAny (model X.prog X.w) X.A (subscriptTail value slice (.ref p) u) (EP X pins σ Q) X.xe s :=
  tail_any (dict_typeIs I g) PySem.F.slot_dict_getitem.lookup (d_getItem hu I g ry fun w' s3 I3 rw' => ⟨x, H, I3, rw', q⟩) hs
theorem ix_D (hu : X.A.units + 1 < cLine) : IxR X (rIdx X.K T) := by
  intro value slice pins s σ H x y v u Q I rx ry h hs
  obtain ⟨W, a, b, d, rfl, sr, ra, rb, e, q⟩ := h
  have dic : ∀ (n : Nat) (kk : Key), a = .loc n → b.key = some kk → (match W.S[n]? with
      | some (.dic kvs) => dLook kvs kk
      | _ => none) = some d → wpAny (model X.prog X.w) X.A (subscriptTail value slice v u) (EP X pins σ Q) X.xe s := by
    intro n kk ea hk e2
    subst ea
    obtain ⟨p, ex, hp⟩ := ra
    subst ex
    cases rx
    cases hc : W.S[n]? with
    | none => rw [hc] at e2; cases e2
    | some c =>
      rw [hc] at e2
      cases c with
      | dic kvs =>
        rcases dget_ok sr hp hc rb hk with ⟨h1, h2⟩ | ⟨d', w', h1, h2, h3⟩
        · rw [show dLook kvs kk = some d from e2] at h1; cases h1
        · rw [show dLook kvs kk = some d from e2] at h1
          cases h1
          exact ix_dict hu I ry h2 (q.here sr _ h3) hs
      | _ => cases e2
  cases b with
  | int k =>
    replace e : (match rd W.S a with
      | .tup xs => atI xs k
      | .lst xs => atI xs k
      | .scr xs => atI xs k
      | .str z => if z.length ≤ 16777216 then (atI z.cps.toList k).map fun c => .str ⟨#[c]⟩ else none
      | .loc n => (match W.S[n]? with
        | some (.dic kvs) => dLook kvs (.inl k)
        | _ => none)
      | _ => none) = some d := e
    cases ha : rd W.S a with
    | tup xs =>
      rw [ha] at e
      cases rd_tup ha
      obtain ⟨p, vs, rfl, h1, r1⟩ := ra
      obtain ⟨w, e1, r2⟩ := r1.at e
      exact ix_tup value slice pins s σ W.H _ y v u Q I rx ry ⟨p, vs, k, w, rfl, rb, .inl (.inl h1), e1, q.here sr _ r2⟩ hs
    | lst xs =>
      rw [ha] at e
      obtain ⟨p, vs, rfl, h1, r1⟩ := rd_lst sr ra ha
      obtain ⟨w, e1, r2⟩ := r1.at e
      exact ix_list value slice pins s σ W.H _ y v u Q I rx ry ⟨p, vs, k, w, rfl, rb, .inl (.inl h1), e1, q.here sr _ r2⟩ hs
    | scr xs =>
      rw [ha] at e
      cases rd_scr ha
      obtain ⟨p, vs, rfl, h1, r1⟩ := ra
      obtain ⟨w, e1, r2⟩ := r1.at e
      have hq : SqL X.K W.H p vs := h1.elim (fun z => .inl (.inr z)) fun z => .inr z
      exact ix_list value slice pins s σ W.H _ y v u Q I rx ry ⟨p, vs, k, w, rfl, rb, hq, e1, q.here sr _ r2⟩ hs
    | str z =>
      rw [ha] at e
      cases rd_str ha
      obtain ⟨hz, e2⟩ : z.length ≤ 16777216 ∧ (atI z.cps.toList k).map (fun c => D.str ⟨#[c]⟩) = some d := by
        replace e : (if z.length ≤ 16777216 then (atI z.cps.toList k).map (fun c => D.str ⟨#[c]⟩) else none) = some d := e
        by_cases hc : z.length ≤ 16777216
        · rw [if_pos hc] at e; exact ⟨hc, e⟩
        · rw [if_neg hc] at e; cases e
      obtain ⟨c, e3, rfl⟩ := atI_cps e2
      exact ix_str value slice pins s σ W.H x y v u Q I rx ry ⟨z, k, c, ra, rb, by rw [sizeLine_eq]; exact hz, e3, q.here sr _ rfl⟩ hs
    | loc n =>
      rw [ha] at e
      exact dic n (.inl k) (rd_loc ha) rfl e
    | _ => rw [ha] at e; cases e
  | str z =>
    cases a with
    | loc n => exact dic n (.inr z) rfl rfl e
    | _ => cases e
  | _ => cases e
/-! ### slices -/
def rSl (K : PySem.W.Frag) (T : Tb) : V → Option Int → Option Int → Hp → VK → Prop := fun x lo hi H Q => ∃ (W : Wd) (a d : D), W.H = H ∧ SR K T W ∧ VR K W a x ∧ slcF W.S a lo hi = some d ∧ After K T W (.ok d W.S) (Gv K Q)
theorem cutV_whole {xs : List V} {lo hi : Option Int} (h1 : HT.sIx xs.length 0 lo = 0) (h2 : HT.sIx xs.length xs.length hi = xs.length) : cutV xs lo hi = xs := by
  unfold cutV
  rw [h1, h2]
  simp
theorem cutD_whole {α : Type} {xs : List α} {lo hi : Option Int} (h1 : HT.sIx xs.length 0 lo = 0) (h2 : HT.sIx xs.length xs.length hi = xs.length) : cutD xs lo hi = xs := by
  unfold cutD
  rw [h1, h2]
  simp
theorem sl_tupAll : SlR X (fun x lo hi H Q => ∃ a xs, x = .ref a ∧ SqT X.K H a xs ∧ HT.sIx xs.length 0 lo = 0 ∧ HT.sIx xs.length xs.length hi = xs.length ∧ Q (.ref a) H) := by
  intro pins s σ H x v vl vu lo hi sl Q I rx hs pl pu h
  obtain ⟨a, xs, rfl, hx, h1, h2, q⟩ := h
  cases rx
  obtain ⟨its, r, ht, hz⟩ := I.tuple hx
  have hlen : its.toArray.size = xs.length := by rw [List.size_toArray]; exact r.length.symm
  refine ⟨"tuple", _, PyProof.Rows.slot_tuple_getitem.lookup, ht.typeIs, ?_⟩
  exact getItem_tuple_all ht hs pl pu (by rw [hlen]; exact ⟨h1, h2⟩) ⟨.ref a, H, I, rfl, q⟩
theorem sl_D : SlR X (rSl X.K T) := by
  intro pins s σ H x v vl vu lo hi sl Q I rx hs pl pu h
  obtain ⟨W, a, d, rfl, sr, ra, e, q⟩ := h
  replace e : (match rd W.S a with
    | .tup xs => some (D.tup (cutD xs lo hi))
    | .lst xs => some (.lst (cutD xs lo hi))
    | .str z => if z.length ≤ 16777216 then some (.str (cutS z lo hi)) else none
    | _ => none) = some d := e
  cases ha : rd W.S a with
  | tup xs =>
    rw [ha] at e
    cases rd_tup ha
    obtain ⟨p, vs, rfl, h1, r1⟩ := id ra
    cases (show some (D.tup (cutD xs lo hi)) = some d from e)
    by_cases hw : HT.sIx vs.length 0 lo = 0 ∧ HT.sIx vs.length vs.length hi = vs.length
    · refine sl_tupAll pins s σ W.H _ v vl vu lo hi sl Q I rx hs pl pu ⟨p, vs, rfl, .inl (.inl h1), hw.1, hw.2, ?_⟩
      rw [cutD_whole (by rw [r1.len]; exact hw.1) (by rw [r1.len]; exact hw.2)] at q
      exact q.here sr _ ra
    · exact sl_tup pins s σ W.H _ v vl vu lo hi sl Q I rx hs pl pu ⟨p, vs, rfl, .inl (.inl h1), hw, fun p' hp => After.newTup sr q (r1.cut lo hi) hp⟩
  | lst xs =>
    rw [ha] at e
    obtain ⟨p, vs, rfl, h1, r1⟩ := rd_lst sr ra ha
    cases (show some (D.lst (cutD xs lo hi)) = some d from e)
    exact sl_list pins s σ W.H _ v vl vu lo hi sl Q I rx hs pl pu ⟨p, vs, rfl, .inl (.inl h1), fun p' hp => After.newLst sr q (r1.cut lo hi) hp⟩
  | str z =>
    rw [ha] at e
    cases rd_str ha
    obtain ⟨hz, rfl⟩ := ite_some (show (if z.length ≤ 16777216 then some (D.str (cutS z lo hi)) else none) = some d from e)
    exact sl_str pins s σ W.H x v vl vu lo hi sl Q I rx hs pl pu ⟨z, ra, by rw [sizeLine_eq]; exact hz, q.here sr _ rfl⟩
  | _ => rw [ha] at e; cases e
/-! ### types -/
def Ty.name (t : Ty) : String := match t with
  | .tuple => "tuple" | .str => "str" | .bool => "bool" | .int => "int" | .list => "list"
def tyAns (n : String) (t : Ty) : Bool := n == t.name || (n == "bool" && t.name == "int")
theorem kit_all (K : PySem.W.Frag) : ∀ n ∈ ["NoneType", "bool", "int", "str", "tuple", "list"], ∀ t : Ty, PySem.W.kitOne K (.type n) (.type t.name) = some (tyAns n t) := by
  intro n hn t
  simp only [List.mem_cons, List.mem_nil_iff, or_false] at hn
  rcases hn with rfl | rfl | rfl | rfl | rfl | rfl <;> cases t <;> first | rfl | (with_unfolding_all rfl)
theorem isi_D {t : Ty} : CallR X (.builtin "isinstance") (fun xs H Q => ∃ (W : Wd) (a : D) (x : V) (k : Bool), xs = [x, .ty t.name] ∧ W.H = H ∧ SR X.K T W ∧ VR X.K W a x ∧ isiF W.S a t = some k ∧ Q (.bl k) H) := by
  intro pins s σ H xs us Q I r h
  obtain ⟨W, a, x, k, rfl, rfl, sr, ra, e, q⟩ := h
  obtain ⟨u, w', rfl, ru, rw'⟩ := vals2 r
  cases rw'
  have go : ∀ n : String, TyOf X.K W.H x (.type n) → n ∈ ["NoneType", "bool", "int", "str", "tuple", "list"] → k = tyAns n t → wpAny (model X.prog X.w) X.A (call (.builtin "isinstance") [u, .type t.name]) (EP X pins σ Q) X.xe s := fun n ty hn ek =>
    isinst_ok (b := k) I ru ty (by rw [ek]; exact kit_all X.K n hn t) fun tk => ⟨.bl k, W.H, I.tok tk, rfl, q⟩
  cases a with
  | non => cases ra; exact go "NoneType" .non (by simp) (by cases e; cases t <;> rfl)
  | bl b => cases ra; exact go "bool" (.bl b) (by simp) (by cases t <;> (cases e; rfl))
  | int i => cases ra; exact go "int" (.int i) (by simp) (by cases t <;> (cases e; rfl))
  | str i => cases ra; exact go "str" (.str i) (by simp) (by cases t <;> (cases e; rfl))
  | tup xs => obtain ⟨p, vs, rfl, h1, _⟩ := ra; exact go "tuple" (.tup h1) (by simp) (by cases t <;> (cases e; rfl))
  | lst xs => obtain ⟨p, vs, rfl, h1, _⟩ := ra; exact go "list" (.lst h1) (by simp) (by cases t <;> (cases e; rfl))
  | _ => cases e
end
end L2.PV

/-! PV, part 7: built-in functions, methods. -/
namespace L2.PV
open PySem PySem.Spec PyProof.Rows LamX
theorem maxL_mem : ∀ (m : Int) (l : List Int), maxL m l ∈ m :: l ∧ ∀ y ∈ m :: l, y ≤ maxL m l
  | m, [] => ⟨by simp [maxL], fun y hy => by
    have e : y = m := by simpa using hy
    rw [e]
    exact Int.le_refl _⟩
  | m, x :: xs => by
    obtain ⟨h1, h2⟩ := maxL_mem (if m < x then x else m) xs
    show maxL (if m < x then x else m) xs ∈ m :: x :: xs ∧ _
    refine ⟨?_, fun y hy => ?_⟩
    · rcases List.mem_cons.mp h1 with e | e
      · rw [e]
        split
        · simp
        · simp
      · exact List.mem_cons_of_mem _ (List.mem_cons_of_mem _ e)
    · have h3 := h2 (if m < x then x else m) List.mem_cons_self
      rcases List.mem_cons.mp hy with e | hy
      · rw [e]
        refine Int.le_trans ?_ h3
        split <;> omega
      · rcases List.mem_cons.mp hy with e | hy
        · rw [e]
          refine Int.le_trans ?_ h3
          split <;> omega
        · exact h2 y (List.mem_cons_of_mem _ hy)
theorem minL_mem : ∀ (m : Int) (l : List Int), minL m l ∈ m :: l ∧ ∀ y ∈ m :: l, minL m l ≤ y
  | m, [] => ⟨by simp [minL], fun y hy => by
    have e : y = m := by simpa using hy
    rw [e]
    exact Int.le_refl _⟩
  | m, x :: xs => by
    obtain ⟨h1, h2⟩ := minL_mem (if x < m then x else m) xs
    show minL (if x < m then x else m) xs ∈ m :: x :: xs ∧ _
    refine ⟨?_, fun y hy => ?_⟩
    · rcases List.mem_cons.mp h1 with e | e
      · rw [e]
        split
        · simp
        · simp
      · exact List.mem_cons_of_mem _ (List.mem_cons_of_mem _ e)
    · have h3 := h2 (if x < m then x else m) List.mem_cons_self
      rcases List.mem_cons.mp hy with e | hy
      · rw [e]
        refine Int.le_trans h3 ?_
        split <;> omega
      · rcases List.mem_cons.mp hy with e | hy
        · rw [e]
          refine Int.le_trans h3 ?_
          split <;> omega
        · exact h2 y (List.mem_cons_of_mem _ hy)
section
variable {X : Cx} {T : Tb}
def Blt.val (b : Blt) : Value := match b with
  | .len => .builtin "len" | .int => .type "int" | .abs => .builtin "abs" | .sum => .builtin "sum" | .max1 => .builtin "max" | .min1 => .builtin "min" | .max2 => .builtin "max" | .min2 => .builtin "min"
  | .list => .type "list" | .tuple => .type "tuple" | .lcm => .builtin "math.lcm" | .str => .type "str"
def rBlt (K : PySem.W.Frag) (T : Tb) (b : Blt) (tr : Bool) : List V → Hp → VK → Prop := fun vs H Q => ∃ (W : Wd) (ds : List D), W.H = H ∧ SR K T W ∧ VRs K W ds vs ∧ After K T W (bltF b tr ds W.S) (Gv K Q)
theorem one_of {K : PySem.W.Frag} {W : Wd} {d : D} {vs : List V} (h : VRs K W [d] vs) : ∃ v, vs = [v] ∧ VR K W d v := by
  obtain ⟨v, r, rfl, h1, h2⟩ := h
  cases (show r = [] from h2)
  exact ⟨v, rfl, h1⟩
theorem two_of {K : PySem.W.Frag} {W : Wd} {d e : D} {vs : List V} (h : VRs K W [d, e] vs) : ∃ v u, vs = [v, u] ∧ VR K W d v ∧ VR K W e u := by
  obtain ⟨v, r, rfl, h1, h2⟩ := h
  obtain ⟨u, rfl, h3⟩ := one_of h2
  exact ⟨v, u, rfl, h1, h3⟩
theorem blt_len {tr : Bool} : CallR X (.builtin "len") (rBlt X.K T .len tr) := by
  intro pins s σ H xs us Q I r h
  obtain ⟨W, ds, rfl, sr, rs, q⟩ := h
  match ds, rs, q with
  | [d], rs, q =>
    obtain ⟨v, rfl, rv⟩ := one_of rs
    replace q : After X.K T W (match rd W.S d with
      | .tup xs => .ok (.int xs.length) W.S
      | .lst xs => .ok (.int xs.length) W.S
      | .scr xs => .ok (.int xs.length) W.S
      | .str z => if z.length ≤ 16777216 then .ok (.int z.length) W.S else .bad
      | _ => .bad) (Gv X.K Q) := q
    cases hd : rd W.S d with
    | tup ys =>
      rw [hd] at q
      cases rd_tup hd
      obtain ⟨p, vs, rfl, h1, r1⟩ := rv
      refine call_len pins s σ W.H _ us Q I r ⟨_, vs.length, rfl, .inr ⟨vs, .inl (.inl h1), rfl⟩, ?_⟩
      rw [← r1.len]
      exact q.here sr _ rfl
    | lst ys =>
      rw [hd] at q
      obtain ⟨p, vs, rfl, h1, r1⟩ := rd_lst sr rv hd
      refine call_len pins s σ W.H _ us Q I r ⟨_, vs.length, rfl, .inl ⟨vs, .inl (.inl h1), rfl⟩, ?_⟩
      rw [← r1.len]
      exact q.here sr _ rfl
    | scr ys =>
      rw [hd] at q
      cases rd_scr hd
      obtain ⟨p, vs, rfl, h1, r1⟩ := rv
      have hq : SqL X.K W.H p vs := h1.elim (fun z => .inl (.inr z)) fun z => .inr z
      refine call_len pins s σ W.H _ us Q I r ⟨_, vs.length, rfl, .inl ⟨vs, hq, rfl⟩, ?_⟩
      rw [← r1.len]
      exact q.here sr _ rfl
    | str z =>
      rw [hd] at q
      cases rd_str hd
      cases rv
      by_cases hz : z.length ≤ 16777216
      · replace q : After X.K T W (if z.length ≤ 16777216 then .ok (.int z.length) W.S else .bad) (Gv X.K Q) := q
        rw [if_pos hz] at q
        exact call_len pins s σ W.H _ us Q I r ⟨.str z, z.length, rfl, ⟨by rw [sizeLine_eq]; exact hz, rfl⟩, q.here sr _ rfl⟩
      · replace q : After X.K T W (if z.length ≤ 16777216 then .ok (.int z.length) W.S else .bad) (Gv X.K Q) := q
        rw [if_neg hz] at q
        exact q.elim
    | _ => rw [hd] at q; exact q.elim
  | [], _, q => exact q.elim
  | _ :: _ :: _, _, q => exact q.elim
theorem blt_int {tr : Bool} : CallR X (.type "int") (rBlt X.K T .int tr) := by
  intro pins s σ H xs us Q I r h
  obtain ⟨W, ds, rfl, sr, rs, q⟩ := h
  unfold bltF at q
  dsimp only at q
  split at q
  · rename_i i
    obtain ⟨v, rfl, rv⟩ := one_of rs
    cases rv
    exact call_int1 pins s σ W.H _ us Q I r (.inl ⟨i, rfl, q.here sr _ rfl⟩)
  · exact q.elim
theorem blt_abs {tr : Bool} : CallR X (.builtin "abs") (rBlt X.K T .abs tr) := by
  intro pins s σ H xs us Q I r h
  obtain ⟨W, ds, rfl, sr, rs, q⟩ := h
  unfold bltF at q
  dsimp only at q
  split at q
  · rename_i i
    obtain ⟨v, rfl, rv⟩ := one_of rs
    cases rv
    exact call_abs pins s σ W.H _ us Q I r ⟨i, rfl, q.here sr _ rfl⟩
  · exact q.elim
theorem int2_of {ds : List D} {S : Sto} {f : Int → Int → R D} {K : PySem.W.Frag} {W : Wd} {P : D → Wd → Prop} (q : After K T W (match ds with
      | [.int i, .int j] => f i j
      | _ => .bad) P) : ∃ i j, ds = [.int i, .int j] ∧ After K T W (f i j) P := by
  split at q
  · exact ⟨_, _, rfl, q⟩
  · exact q.elim
theorem blt_max2 {tr : Bool} (hc : X.calm = true) : CallR X (.builtin "max") (rBlt X.K T .max2 tr) := by
  intro pins s σ H xs us Q I r h
  obtain ⟨W, ds, rfl, sr, rs, q⟩ := h
  obtain ⟨i, j, rfl, q⟩ := int2_of (S := W.S) (f := fun i j => .ok (.int (if j > i then j else i)) W.S) q
  obtain ⟨v, u, rfl, rv, ru⟩ := two_of rs
  cases rv
  cases ru
  exact call_max2 hc pins s σ W.H _ us Q I r ⟨i, j, rfl, q.here sr _ rfl⟩
theorem blt_min2 {tr : Bool} (hc : X.calm = true) : CallR X (.builtin "min") (rBlt X.K T .min2 tr) := by
  intro pins s σ H xs us Q I r h
  obtain ⟨W, ds, rfl, sr, rs, q⟩ := h
  obtain ⟨i, j, rfl, q⟩ := int2_of (S := W.S) (f := fun i j => .ok (.int (if j < i then j else i)) W.S) q
  obtain ⟨v, u, rfl, rv, ru⟩ := two_of rs
  cases rv
  cases ru
  exact call_min2 hc pins s σ W.H _ us Q I r ⟨i, j, rfl, q.here sr _ rfl⟩
theorem blt_lcm {tr : Bool} : CallR X (.builtin "math.lcm") (rBlt X.K T .lcm tr) := by
  intro pins s σ H xs us Q I r h
  obtain ⟨W, ds, rfl, sr, rs, q⟩ := h
  obtain ⟨i, j, rfl, q2⟩ := int2_of (S := W.S) (f := fun i j => if 0 < i ∧ 0 < j ∧ i < 2 ^ 31 ∧ j < 2 ^ 31 then .ok (.int (Nat.lcm i.toNat j.toNat : Nat)) W.S else .bad) q
  obtain ⟨v, u, rfl, rv, ru⟩ := two_of rs
  cases rv
  cases ru
  by_cases hz : 0 < i ∧ 0 < j ∧ i < 2 ^ 31 ∧ j < 2 ^ 31
  · rw [if_pos hz] at q2
    obtain ⟨w1, w2, rfl, ⟨t, rfl⟩, ⟨t', rfl⟩⟩ := vals2 r
    refine PySem.W.mc_lcm (by omega) (by omega) fun _ => ⟨.int ((i.natAbs.lcm j.natAbs : Nat) : Int), W.H, I.tok _, ⟨_, rfl⟩, ?_⟩
    rw [show i.natAbs = i.toNat by omega, show j.natAbs = j.toNat by omega]
    exact q2.here sr _ rfl
  · rw [if_neg hz] at q2
    exact q2.elim
/-- a list of ints -/
theorem ints_of {ds : List D} {f : List Int → R D} {W : Wd} {P : D → Wd → Prop} (q : After X.K T W (match ds with
      | [d] => (match rd W.S d with
        | .lst xs => (match asInts xs with
          | some ns => f ns
          | none => .bad)
        | _ => .bad)
      | _ => .bad) P) (sr : SR X.K T W) {vs : List V} (rs : VRs X.K W ds vs) : ∃ a ns, vs = [.ref a] ∧ SqL X.K W.H a (ns.map V.int) ∧ After X.K T W (f ns) P := by
  match ds, rs, q with
  | [d], rs, q =>
    obtain ⟨v, rfl, rv⟩ := one_of rs
    replace q : After X.K T W (match rd W.S d with
        | .lst xs => (match asInts xs with
          | some ns => f ns
          | none => .bad)
        | _ => .bad) P := q
    cases hd : rd W.S d with
    | lst ys =>
      rw [hd] at q
      obtain ⟨p, vs, rfl, h1, r1⟩ := rd_lst sr rv hd
      replace q : After X.K T W (match asInts ys with
          | some ns => f ns
          | none => .bad) P := q
      cases hn : asInts ys with
      | none => rw [hn] at q; exact q.elim
      | some ns =>
        rw [hn] at q
        refine ⟨p, ns, rfl, .inl (.inl ?_), q⟩
        rw [← r1.ints hn]
        exact h1
    | _ => rw [hd] at q; exact q.elim
  | [], _, q => exact q.elim
  | _ :: _ :: _, _, q => exact q.elim
theorem blt_sum {tr : Bool} (hc : X.calm = true) : CallR X (.builtin "sum") (rBlt X.K T .sum tr) := by
  intro pins s σ H xs us Q I r h
  obtain ⟨W, ds, rfl, sr, rs, q⟩ := h
  obtain ⟨a, ns, rfl, h1, q⟩ := ints_of (f := fun ns => .ok (.int ns.sum) W.S) q sr rs
  exact cr_sum hc pins s σ W.H _ us Q I r ⟨a, ns, rfl, h1, q.here sr _ rfl⟩
theorem maxL_fold : ∀ (n : Int) (ns : List Int), maxL n ns = ns.foldl max n
  | _, [] => rfl
  | n, x :: ns => by
    show maxL (if n < x then x else n) ns = ns.foldl max (max n x)
    rw [maxL_fold]
    congr 1
    split <;> omega
theorem blt_max1 {tr : Bool} (hc : X.calm = true) (hu : X.A.units + 64 < cLine) : CallR X (.builtin "max") (rBlt X.K T .max1 tr) := by
  intro pins s σ H xs us Q I r h
  obtain ⟨W, ds, rfl, sr, rs, q⟩ := h
  by_cases ht : ∃ d xs, ds = [d] ∧ rd W.S d = .tup xs
  · obtain ⟨d, ys, rfl, hd⟩ := ht
    obtain ⟨v, rfl, rv⟩ := one_of rs
    replace q : After X.K T W (match rd W.S d with
        | .lst xs => (match asInts xs with
          | some (n :: ns) => .ok (.int (maxL n ns)) W.S
          | _ => .bad)
        | .tup xs => (match asInts xs with
          | some (n :: ns) => .ok (.int (maxL n ns)) W.S
          | _ => .bad)
        | _ => .bad) (Gv X.K Q) := q
    rw [hd] at q
    cases rd_tup hd
    obtain ⟨p, vs, rfl, h1, r1⟩ := rv
    replace q : After X.K T W (match asInts ys with
          | some (n :: ns) => .ok (.int (maxL n ns)) W.S
          | _ => .bad) (Gv X.K Q) := q
    cases hn : asInts ys with
    | none => rw [hn] at q; exact q.elim
    | some ns =>
      rw [hn] at q
      cases ns with
      | nil => exact q.elim
      | cons n ns =>
        have h2 := h1
        rw [r1.ints hn] at h2
        refine cr_maxT hc hu pins s σ W.H _ us Q I r ⟨p, n, ns, rfl, .inl (.inl h2), ?_⟩
        rw [← maxL_fold]
        exact q.here sr _ rfl
  have q2 : After X.K T W (match ds with
      | [d] => (match rd W.S d with
        | .lst xs => (match asInts xs with
          | some ns => (match ns with
            | n :: ns => .ok (.int (maxL n ns)) W.S
            | [] => .bad)
          | none => .bad)
        | _ => .bad)
      | _ => .bad) (Gv X.K Q) := by
    refine After.mono (Eq.mp (congrArg (fun r => After X.K T W r (Gv X.K Q)) ?_) q) fun _ _ _ _ _ z => z
    unfold bltF
    match ds with
    | [d] =>
      dsimp only
      cases hd : rd W.S d with
      | lst ys => dsimp only; cases asInts ys with
        | none => rfl
        | some ns => cases ns <;> rfl
      | tup ys => exact absurd ⟨d, ys, rfl, hd⟩ ht
      | _ => rfl
    | [] => rfl
    | _ :: _ :: _ => rfl
  obtain ⟨a, ns, rfl, h1, q⟩ := ints_of (f := fun ns => (match ns with
            | n :: ns => .ok (.int (maxL n ns)) W.S
            | [] => .bad)) q2 sr rs
  cases ns with
  | nil => exact q.elim
  | cons n ns =>
    refine cr_max hc pins s σ W.H _ us Q I r ⟨a, n :: ns, rfl, h1, Nat.succ_pos _, fun m hm hy => ?_⟩
    obtain ⟨m1, m2⟩ := maxL_mem n ns
    have e : m = maxL n ns := Int.le_antisymm (m2 m hm) (hy _ m1)
    rw [e]
    exact q.here sr _ rfl
theorem minL_fold : ∀ (n : Int) (ns : List Int), minL n ns = ns.foldl min n
  | _, [] => rfl
  | n, x :: ns => by
    show minL (if x < n then x else n) ns = ns.foldl min (min n x)
    rw [minL_fold]
    congr 1
    split <;> omega
theorem blt_min1 {tr : Bool} (hc : X.calm = true) (hu : X.A.units + 64 < cLine) : CallR X (.builtin "min") (rBlt X.K T .min1 tr) := by
  intro pins s σ H xs us Q I r h
  obtain ⟨W, ds, rfl, sr, rs, q⟩ := h
  by_cases ht : ∃ d xs, ds = [d] ∧ rd W.S d = .tup xs
  · obtain ⟨d, ys, rfl, hd⟩ := ht
    obtain ⟨v, rfl, rv⟩ := one_of rs
    replace q : After X.K T W (match rd W.S d with
        | .lst xs => (match asInts xs with
          | some (n :: ns) => .ok (.int (minL n ns)) W.S
          | _ => .bad)
        | .tup xs => (match asInts xs with
          | some (n :: ns) => .ok (.int (minL n ns)) W.S
          | _ => .bad)
        | _ => .bad) (Gv X.K Q) := q
    rw [hd] at q
    cases rd_tup hd
    obtain ⟨p, vs, rfl, h1, r1⟩ := rv
    replace q : After X.K T W (match asInts ys with
          | some (n :: ns) => .ok (.int (minL n ns)) W.S
          | _ => .bad) (Gv X.K Q) := q
    cases hn : asInts ys with
    | none => rw [hn] at q; exact q.elim
    | some ns =>
      rw [hn] at q
      cases ns with
      | nil => exact q.elim
      | cons n ns =>
        have h2 := h1
        rw [r1.ints hn] at h2
        refine cr_minT hc hu pins s σ W.H _ us Q I r ⟨p, n, ns, rfl, .inl (.inl h2), ?_⟩
        rw [← minL_fold]
        exact q.here sr _ rfl
  have q2 : After X.K T W (match ds with
      | [d] => (match rd W.S d with
        | .lst xs => (match asInts xs with
          | some ns => (match ns with
            | n :: ns => .ok (.int (minL n ns)) W.S
            | [] => .bad)
          | none => .bad)
        | _ => .bad)
      | _ => .bad) (Gv X.K Q) := by
    refine After.mono (Eq.mp (congrArg (fun r => After X.K T W r (Gv X.K Q)) ?_) q) fun _ _ _ _ _ z => z
    unfold bltF
    match ds with
    | [d] =>
      dsimp only
      cases hd : rd W.S d with
      | lst ys => dsimp only; cases asInts ys with
        | none => rfl
        | some ns => cases ns <;> rfl
      | tup ys => exact absurd ⟨d, ys, rfl, hd⟩ ht
      | _ => rfl
    | [] => rfl
    | _ :: _ :: _ => rfl
  obtain ⟨a, ns, rfl, h1, q⟩ := ints_of (f := fun ns => (match ns with
            | n :: ns => .ok (.int (minL n ns)) W.S
            | [] => .bad)) q2 sr rs
  cases ns with
  | nil => exact q.elim
  | cons n ns =>
    refine cr_min hc pins s σ W.H _ us Q I r ⟨a, n :: ns, rfl, h1, Nat.succ_pos _, fun m hm hy => ?_⟩
    obtain ⟨m1, m2⟩ := minL_mem n ns
    have e : m = minL n ns := Int.le_antisymm (hy _ m1) (m2 m hm)
    rw [e]
    exact q.here sr _ rfl
theorem blt_list {tr : Bool} : CallR X (.type "list") (rBlt X.K T .list tr) := by
  intro pins s σ H xs us Q I r h
  obtain ⟨W, ds, rfl, sr, rs, q⟩ := h
  match ds, rs, q with
  | [d], rs, q =>
    obtain ⟨v, rfl, rv⟩ := one_of rs
    replace q : After X.K T W (match rd W.S d with
      | .tup xs => newL tr xs W.S
      | .lst xs => newL tr xs W.S
      | .scr xs => newL tr xs W.S
      | _ => .bad) (Gv X.K Q) := q
    cases hd : rd W.S d with
    | tup ys =>
      rw [hd] at q
      cases rd_tup hd
      obtain ⟨p, vs, rfl, h1, r1⟩ := rv
      exact call_list_of pins s σ W.H _ us Q I r ⟨p, vs, rfl, .inr (.inl (.inl h1)), fun l hl => After.newL sr q r1 hl⟩
    | lst ys =>
      rw [hd] at q
      obtain ⟨p, vs, rfl, h1, r1⟩ := rd_lst sr rv hd
      exact call_list_of pins s σ W.H _ us Q I r ⟨p, vs, rfl, .inl (.inl (.inl h1)), fun l hl => After.newL sr q r1 hl⟩
    | scr ys =>
      rw [hd] at q
      cases rd_scr hd
      obtain ⟨p, vs, rfl, h1, r1⟩ := rv
      have hq : SqL X.K W.H p vs := h1.elim (fun z => .inl (.inr z)) fun z => .inr z
      exact call_list_of pins s σ W.H _ us Q I r ⟨p, vs, rfl, .inl hq, fun l hl => After.newL sr q r1 hl⟩
    | _ => rw [hd] at q; exact q.elim
  | [], _, q => exact q.elim
  | _ :: _ :: _, _, q => exact q.elim
theorem blt_tuple {tr : Bool} : CallR X (.type "tuple") (rBlt X.K T .tuple tr) := by
  intro pins s σ H xs us Q I r h
  obtain ⟨W, ds, rfl, sr, rs, q⟩ := h
  match ds, rs, q with
  | [d], rs, q =>
    obtain ⟨v, rfl, rv⟩ := one_of rs
    replace q : After X.K T W (match rd W.S d with
      | .tup xs => .ok (.tup xs) W.S
      | .lst xs => .ok (.tup xs) W.S
      | _ => .bad) (Gv X.K Q) := q
    cases hd : rd W.S d with
    | tup ys =>
      rw [hd] at q
      cases rd_tup hd
      obtain ⟨p, vs, rfl, h1, r1⟩ := id rv
      exact call_tuple_of pins s σ W.H _ us Q I r ⟨p, vs, rfl, .inr ⟨.inl (.inl h1), q.here sr _ rv⟩⟩
    | lst ys =>
      rw [hd] at q
      obtain ⟨p, vs, rfl, h1, r1⟩ := rd_lst sr rv hd
      exact call_tuple_of pins s σ W.H _ us Q I r ⟨p, vs, rfl, .inl ⟨.inl (.inl h1), fun l hl => After.newTup sr q r1 hl⟩⟩
    | _ => rw [hd] at q; exact q.elim
  | [], _, q => exact q.elim
  | _ :: _ :: _, _, q => exact q.elim
theorem blt_str {tr : Bool} : CallR X (.type "str") (rBlt X.K T .str tr) := by
  intro pins s σ H xs us Q I r h
  obtain ⟨W, ds, rfl, sr, rs, q⟩ := h
  unfold bltF at q
  dsimp only at q
  split at q
  · rename_i i
    obtain ⟨v, rfl, rv⟩ := one_of rs
    cases rv
    by_cases hz : i.natAbs.log2 < 1920
    · rw [if_pos hz] at q
      exact call_str_int pins s σ W.H _ us Q I r ⟨i, rfl, hz, q.here sr _ rfl⟩
    · rw [if_neg hz] at q
      exact q.elim
  · exact q.elim
theorem blt_D (hc : X.calm = true) (hu : X.A.units + 64 < cLine) (tr : Bool) : ∀ b : Blt, CallR X b.val (rBlt X.K T b tr)
  | .len => blt_len
  | .int => blt_int
  | .abs => blt_abs
  | .sum => blt_sum hc
  | .max1 => blt_max1 hc hu
  | .min1 => blt_min1 hc hu
  | .max2 => blt_max2 hc
  | .min2 => blt_min2 hc
  | .list => blt_list
  | .tuple => blt_tuple
  | .lcm => blt_lcm
  | .str => blt_str
/-! ### sorted, pairs of ints -/
open PySem.W in
theorem each_vals {K : PySem.W.Frag} {W : Wd} {enc : Int × Int → D} : ∀ {out : List Value} {bs : List (Int × Int)}, EachIs (fun v b => ∃ x, RelV x v ∧ VR K W (enc b) x) out bs → ∃ vs, Vals vs out ∧ VRs K W (bs.map enc) vs
  | _, _, .nil => ⟨[], .nil, rfl⟩
  | _, _, .cons ⟨x, h1, h2⟩ t => by
    obtain ⟨vs, h3, h4⟩ := each_vals t
    exact ⟨x :: vs, .cons h1 h3, VRs.cons h2 h4⟩
def encP (p : Int × Int) : D := .tup [.int p.1, .int p.2]
theorem pairsOf_ok : ∀ {ds : List D} {ps : List (Int × Int)}, pairsOf ds = some ps → ds = ps.map encP
  | [], ps, e => by cases e; rfl
  | d :: ds, ps, e => by
    replace e : (match pairOf d with
      | some p => (pairsOf ds).map (p :: ·)
      | none => none) = some ps := e
    cases hp : pairOf d with
    | none => rw [hp] at e; cases e
    | some p =>
      rw [hp] at e
      obtain ⟨qs, e1, e2⟩ := Option.map_eq_some_iff.mp e
      rw [pairsOf_ok e1, ← e2]
      have ed : d = encP p := by
        unfold pairOf at hp
        split at hp
        · cases hp; rfl
        · cases hp
      rw [ed]
      rfl
theorem srt_D (hu : X.A.units + 64 < cLine) : CallR X (.builtin "sorted") (fun xs H Q => ∃ (W : Wd) (a d : D) (x : V), xs = [x] ∧ W.H = H ∧ SR X.K T W ∧ VR X.K W a x ∧ srtF W.S a = some d ∧ After X.K T W (.ok d W.S) (Gv X.K Q)) := by
  intro pins s σ H xs us Q I r h
  obtain ⟨W, a, d, x, rfl, rfl, sr, ra, e, q⟩ := h
  obtain ⟨u, rfl, ru⟩ := vals1 r
  replace e : (match rd W.S a with
    | .lst xs => (match pairsOf xs with
      | some ps => if xs.length ≤ 1000 then some (D.lst ((ps.mergeSort lexLe).map fun p => .tup [.int p.1, .int p.2])) else none
      | none => none)
    | _ => none) = some d := e
  cases hd : rd W.S a with
  | lst ys =>
    rw [hd] at e
    replace e : (match pairsOf ys with
      | some ps => if ys.length ≤ 1000 then some (D.lst ((ps.mergeSort lexLe).map fun p => .tup [.int p.1, .int p.2])) else none
      | none => none) = some d := e
    obtain ⟨p, vs, rfl, h1, r1⟩ := rd_lst sr ra hd
    cases hps : pairsOf ys with
    | none => rw [hps] at e; cases e
    | some ps =>
      rw [hps] at e
      obtain ⟨hz, rfl⟩ := ite_some e
      have ey := pairsOf_ok hps
      subst ey
      cases ru
      obtain ⟨its, rv, hl, hzl⟩ := I.list (.inl (.inl h1))
      have hlen : ps.length ≤ 1000 := by rw [List.length_map] at hz; exact hz
      -- what each item is
      have each : ∀ {vs : List V} {its : List Value} {ps : List (Int × Int)}, Vals vs its → VRs X.K W (ps.map encP) vs → PySem.W.EachIs (fun v b => (∃ x, RelV x v ∧ VR X.K W (encP b) x) ∧ ∃ as, Reads s.heap v (.tuple [.int b.1, .int b.2]) as) its ps := by
        intro vs its ps
        induction ps generalizing vs its with
        | nil =>
          intro rv rr
          cases (show vs = [] from rr)
          cases rv
          exact .nil
        | cons p ps ih =>
          intro rv rr
          obtain ⟨x, r', rfl, h1, h2⟩ := rr
          cases rv with
          | @cons _ w _ _ g1 g2 =>
            refine .cons ⟨⟨x, g1, h1⟩, ?_⟩ (ih g2 h2)
            obtain ⟨b, ws, ex, hb, rb⟩ := h1
            subst ex
            cases g1
            obtain ⟨w1, w2, rfl, e1, e2⟩ := two_of rb
            cases e1
            cases e2
            obtain ⟨_, ts, rt, o, ho, hc, n, hdd⟩ := I.hok b _ hb
            obtain ⟨t1, t2, rfl, ⟨k1, rfl⟩, ⟨k2, rfl⟩⟩ := vals2 rt
            refine ⟨[] ++ ([] ++ []), .tuple ho hc hdd ?_⟩
            exact .cons (.int _ _) (.cons (.int _ _) .nil)
      have ee := each rv r1
      refine PySem.W.sorted_data hl.isList (ee.mono fun _ _ z => z.1) (ee.mono fun _ _ z => z.2) (PySem.W.AllAlike.of fun _ _ => by simp [PySem.W.alike, PySem.W.alikeAll]) (PySem.W.Sortable.tuples fun _ => ⟨_, _, rfl⟩) (by rw [sizeLine_eq]; omega) (fun b _ => ?_) fun out hol eo => ?_
      · have hdp : (PyData.tuple [.int b.1, .int b.2]).depth = 1 := by simp [PyData.depth, PyData.depthAll]
        rw [hdp]
        omega
      · rw [PySem.W.dataLe_ii (β := Int × Int) (fun p => p.1) (fun p => p.2)] at eo
        have eo2 : PySem.W.EachIs (fun v b => ∃ x, RelV x v ∧ VR X.K W (encP b) x) out (ps.mergeSort lexLe) := by
          have ef : (fun p q : Int × Int => decide (p.1 < q.1 ∨ p.1 = q.1 ∧ p.2 ≤ q.2)) = lexLe := by
            funext p q
            unfold lexLe
            rw [Bool.decide_or, Bool.decide_and]
          rw [ef] at eo
          exact eo
        obtain ⟨vs', g1, g2⟩ := each_vals eo2
        obtain ⟨ep, hat⟩ := PyProof.Rows.sortedAll_at s.heap its out.toArray
        have hfr : W.H (s.heap.objs.size + 1) = none := I.hok.fresh (Nat.le_succ _)
        refine ⟨.ref (s.heap.objs.size + 1), upd W.H (s.heap.objs.size + 1) (.lst vs'), I.laid (t' := s.toks) (fun b o z => PyProof.Rows.sortedAll_old z) (Nat.le_succ _) ⟨?_, out, ep, g1, hat⟩, rfl, After.newLst sr q g2 hfr⟩
        rw [← g2.len, List.length_map, List.length_mergeSort, sizeLine_eq]
        omega
  | _ => rw [hd] at e; cases e
/-! ### methods -/
def Mth.ty (m : Mth) : String := match m with
  | .append => "list" | .pop1 => "list" | .find2 => "str" | .rfind1 => "str" | .join => "str" | .dget1 => "dict" | .ins => "list"
def Mth.id (m : Mth) : String := match m with
  | .append => "list.append" | .pop1 => "list.pop" | .find2 => "str.find" | .rfind1 => "str.rfind" | .join => "str.join" | .dget1 => "dict.get" | .ins => "list.insert"
def Mth.name (m : Mth) : Str := match m with
  | .append => "append" | .pop1 => "pop" | .find2 => "find" | .rfind1 => "rfind" | .join => "join" | .dget1 => "get" | .ins => "insert"
def rMet (K : PySem.W.Frag) (T : Tb) (m : Mth) : V → List V → Hp → VK → Prop := fun x vs H Q => ∃ (W : Wd) (o : D) (ds : List D), W.H = H ∧ SR K T W ∧ VR K W o x ∧ VRs K W ds vs ∧ After K T W (metF m o ds W.S) (Gv K Q)
/-- the receiver's cell -/
theorem cell_of {W : Wd} {o : D} {f : Nat → List D → R D} {P : D → Wd → Prop} (q : After X.K T W (match o with
    | .loc n => (match W.S[n]? with
      | some (.lst xs) => f n xs
      | _ => .bad)
    | _ => .bad) P) (sr : SR X.K T W) {x : V} (ro : VR X.K W o x) : ∃ n xs a vs, o = .loc n ∧ W.S[n]? = some (.lst xs) ∧ x = .ref a ∧ W.θ[n]? = some a ∧ W.H a = some (.lst vs) ∧ VRs X.K W xs vs ∧ After X.K T W (f n xs) P := by
  cases o with
  | loc n =>
    obtain ⟨a, rfl, ha⟩ := ro
    replace q : After X.K T W (match W.S[n]? with
      | some (.lst xs) => f n xs
      | _ => .bad) P := q
    cases hc : W.S[n]? with
    | none => rw [hc] at q; exact q.elim
    | some c =>
      rw [hc] at q
      cases c with
      | lst xs =>
        obtain ⟨vs, e1, r1⟩ := sr.cell n _ a hc ha
        exact ⟨n, xs, a, vs, rfl, hc, rfl, ha, e1, r1, q⟩
      | _ => exact q.elim
  | _ => exact q.elim
theorem After.set {K : PySem.W.Frag} {W : Wd} {d : D} {n : Nat} {c c' : Cell} {a : Addr} {o : HO} {Q : VK} (sr : SR K T W) (ha : W.θ[n]? = some a) (h : W.S[n]? = some c') (hl : c'.live = true) (hc : CR K W c (some o)) (q : After K T W (.ok d (W.S.set n c)) (Gv K Q)) {v : V} (rv : VR K W d v) (hcl : c.live = true := by rfl) : Q v (upd W.H a o) :=
  q ⟨upd W.H a o, W.θ, W.S.set n c, W.hid⟩ rfl (ext_set sr ha h hl) (sr_set sr ha h hl hc hcl) v (rv.mono sr (ext_set sr ha h hl).toExt0)
theorem met_append : MtR X "list.append" (rMet X.K T .append) := by
  intro pins s σ H x vs v us Q I rx rs h
  obtain ⟨W, o, ds, rfl, sr, ro, rds, q⟩ := h
  obtain ⟨n, xs, a, ws, rfl, hS, rfl, ha, h1, r1, q⟩ := cell_of (f := fun n xs => (match (generalizing := false) ds with
        | [d] => if xs.length < 16777216 then .ok .non (W.S.set n (.lst (xs ++ [d]))) else .bad
        | _ => .bad)) q sr ro
  match ds, rds, q with
  | [d], rds, q =>
    obtain ⟨y, rfl, ry⟩ := one_of rds
    replace q : After X.K T W (if xs.length < 16777216 then .ok .non (W.S.set n (.lst (xs ++ [d]))) else .bad) (Gv X.K Q) := q
    by_cases hz : xs.length < 16777216
    · rw [if_pos hz] at q
      refine mt_append pins s σ W.H _ _ v us Q I rx rs ⟨a, ws, y, rfl, rfl, h1, by rw [sizeLine_eq, ← r1.len]; exact hz, ?_⟩
      exact After.set (c := .lst (xs ++ [d])) sr ha hS rfl ⟨_, rfl, r1.append (VRs.cons ry VRs.nil)⟩ q rfl
    · rw [if_neg hz] at q
      exact q.elim
  | [], _, q => exact q.elim
  | _ :: _ :: _, _, q => exact q.elim
theorem met_pop1 : MtR X "list.pop" (rMet X.K T .pop1) := by
  intro pins s σ H x vs v us Q I rx rs h
  obtain ⟨W, o, ds, rfl, sr, ro, rds, q⟩ := h
  obtain ⟨n, xs, a, ws, rfl, hS, rfl, ha, h1, r1, q⟩ := cell_of (f := fun n xs => (match (generalizing := false) ds with
        | [.int i] => if 0 ≤ i ∧ i < 2 ^ 62 then (match xs[i.toNat]? with
            | some y => .ok y (W.S.set n (.lst (xs.eraseIdx i.toNat)))
            | none => .bad) else .bad
        | _ => .bad)) q sr ro
  split at q
  · rename_i i q0
    obtain ⟨y, rfl, ry⟩ := one_of rds
    cases ry
    by_cases hz : 0 ≤ i ∧ i < 2 ^ 62
    · rw [if_pos hz] at q
      cases hy : xs[i.toNat]? with
      | none => rw [hy] at q; exact q.elim
      | some y =>
        rw [hy] at q
        obtain ⟨w, e1, r2⟩ := r1.get hy
        have hlt : i.toNat < ws.length := (List.getElem?_eq_some_iff.mp e1).1
        refine mt_popAt pins s σ W.H _ _ v us Q I rx rs ⟨a, ws, i, i.toNat, w, rfl, rfl, h1, by omega, by omega, seqIndex_of hz.1 (by omega), e1, ?_⟩
        exact After.set (c := .lst (xs.eraseIdx i.toNat)) sr ha hS rfl ⟨_, rfl, r1.eraseIdx _⟩ q r2
    · rw [if_neg hz] at q
      exact q.elim
  · exact q.elim
theorem met_ins : MtR X "list.insert" (rMet X.K T .ins) := by
  intro pins s σ H x vs v us Q I rx rs h
  obtain ⟨W, o, ds, rfl, sr, ro, rds, q⟩ := h
  obtain ⟨n, xs, a, ws, rfl, hS, rfl, ha, h1, r1, q⟩ := cell_of (f := fun n xs => (match (generalizing := false) ds with
        | [.int i, d] => if 0 ≤ i ∧ i < 2 ^ 62 ∧ xs.length < 16777216 then .ok .non (W.S.set n (.lst (xs.take i.toNat ++ [d] ++ xs.drop i.toNat))) else .bad
        | _ => .bad)) q sr ro
  split at q
  · rename_i i d q0
    obtain ⟨y, z, rfl, ry, rz⟩ := two_of rds
    cases ry
    by_cases hz : 0 ≤ i ∧ i < 2 ^ 62 ∧ xs.length < 16777216
    · rw [if_pos hz] at q
      refine mt_insert pins s σ W.H _ _ v us Q I rx rs ⟨a, ws, i, z, rfl, rfl, h1, by rw [sizeLine_eq, ← r1.len]; exact hz.2.2, hz.1, by omega, ?_⟩
      exact After.set (c := .lst (xs.take i.toNat ++ [d] ++ xs.drop i.toNat)) sr ha hS rfl ⟨_, rfl, ((r1.take _).append (VRs.cons rz VRs.nil)).append (r1.drop _)⟩ q rfl
    · rw [if_neg hz] at q
      exact q.elim
  · exact q.elim
theorem met_find2 : MtR X "str.find" (rMet X.K T .find2) := by
  intro pins s σ H x vs v us Q I rx rs h
  obtain ⟨W, o, ds, rfl, sr, ro, rds, q⟩ := h
  cases o with
  | str a =>
    cases ro
    replace q : After X.K T W (match ds with
      | [.str b, .int i] => .ok (.int (Txt.find3 a b i)) W.S
      | _ => .bad) (Gv X.K Q) := q
    split at q
    · rename_i b i
      obtain ⟨y, z, rfl, ry, rz⟩ := two_of rds
      cases ry
      cases rz
      exact mt_find3 pins s σ W.H _ _ v us Q I rx rs ⟨a, b, i, rfl, rfl, q.here sr _ rfl⟩
    · exact q.elim
  | _ => exact q.elim
theorem met_rfind1 : MtR X "str.rfind" (rMet X.K T .rfind1) := by
  intro pins s σ H x vs v us Q I rx rs h
  obtain ⟨W, o, ds, rfl, sr, ro, rds, q⟩ := h
  cases o with
  | str a =>
    cases ro
    replace q : After X.K T W (match ds with
      | [.str b] => .ok (.int (Txt.rfind a b)) W.S
      | _ => .bad) (Gv X.K Q) := q
    split at q
    · rename_i b
      obtain ⟨y, rfl, ry⟩ := one_of rds
      cases ry
      exact mt_rfind pins s σ W.H _ _ v us Q I rx rs ⟨a, b, rfl, rfl, q.here sr _ rfl⟩
    · exact q.elim
  | _ => exact q.elim
theorem met_join : MtR X "str.join" (rMet X.K T .join) := by
  intro pins s σ H x vs v us Q I rx rs h
  obtain ⟨W, o, ds, rfl, sr, ro, rds, q⟩ := h
  cases o with
  | str a =>
    cases ro
    match ds, rds, q with
    | [d], rds, q =>
      obtain ⟨y, rfl, ry⟩ := one_of rds
      replace q : After X.K T W (match rd W.S d with
        | .lst xs => (match asStrs xs with
          | some ys => if (ys.map (·.length)).sum + ys.length * a.length ≤ 16777216 then .ok (.str (Txt.join a ys)) W.S else .bad
          | none => .bad)
        | _ => .bad) (Gv X.K Q) := q
      cases hd : rd W.S d with
      | lst xs =>
        rw [hd] at q
        obtain ⟨p, ws, rfl, h1, r1⟩ := rd_lst sr ry hd
        replace q : After X.K T W (match asStrs xs with
          | some ys => if (ys.map (·.length)).sum + ys.length * a.length ≤ 16777216 then .ok (.str (Txt.join a ys)) W.S else .bad
          | none => .bad) (Gv X.K Q) := q
        cases hy : asStrs xs with
        | none => rw [hy] at q; exact q.elim
        | some ys =>
          rw [hy] at q
          replace q : After X.K T W (if (ys.map (·.length)).sum + ys.length * a.length ≤ 16777216 then .ok (.str (Txt.join a ys)) W.S else .bad) (Gv X.K Q) := q
          by_cases hz : (ys.map (·.length)).sum + ys.length * a.length ≤ 16777216
          · rw [if_pos hz] at q
            exact mt_join pins s σ W.H _ _ v us Q I rx rs ⟨a, p, ys, rfl, rfl, .inl (.inl (.inl (by rw [← r1.strs hy]; exact h1))), hz, q.here sr _ rfl⟩
          · rw [if_neg hz] at q
            exact q.elim
      | _ => rw [hd] at q; exact q.elim
    | [], _, q => exact q.elim
    | _ :: _ :: _, _, q => exact q.elim
  | _ => exact q.elim
theorem met_dget1 (hu : X.A.units + 1 < cLine) : MtR X "dict.get" (rMet X.K T .dget1) := by
  intro pins s σ H x vs v us Q I rx rs h
  obtain ⟨W, o, ds, rfl, sr, ro, rds, q⟩ := h
  cases o with
  | loc n =>
    obtain ⟨a, rfl, ha⟩ := ro
    replace q : After X.K T W (match W.S[n]? with
      | some (.dic kvs) => (match ds with
        | [d] => (match d.key with
          | some k => .ok ((dLook kvs k).getD .non) W.S
          | none => .bad)
        | _ => .bad)
      | _ => .bad) (Gv X.K Q) := q
    cases hc : W.S[n]? with
    | none => rw [hc] at q; exact q.elim
    | some c =>
      rw [hc] at q
      cases c with
      | dic kvs =>
        match ds, rds, q with
        | [d], rds, q =>
          obtain ⟨y, rfl, ry⟩ := one_of rds
          replace q : After X.K T W (match d.key with
            | some k => .ok ((dLook kvs k).getD .non) W.S
            | none => .bad) (Gv X.K Q) := q
          cases hk : d.key with
          | none => rw [hk] at q; exact q.elim
          | some k =>
            rw [hk] at q
            replace q : After X.K T W (.ok ((dLook kvs k).getD .non) W.S) (Gv X.K Q) := q
            cases rx
            obtain ⟨u, rfl, ru⟩ := vals1 rs
            rcases dget_ok sr ha hc ry hk with ⟨g1, g2⟩ | ⟨d', w', g1, g2, g3⟩
            · rw [g1] at q
              exact d_get1 hu I g2 ru fun w2 s2 I2 r2 => ⟨.non, W.H, I2, r2, q.here sr _ rfl⟩
            · rw [g1] at q
              exact d_get1 hu I g2 ru fun w2 s2 I2 r2 => ⟨w', W.H, I2, r2, q.here sr _ g3⟩
        | [], _, q => exact q.elim
        | _ :: _ :: _, _, q => exact q.elim
      | _ => exact q.elim
  | _ => exact q.elim
theorem met_D (hu : X.A.units + 1 < cLine) : ∀ m : Mth, MtR X m.id (rMet X.K T m)
  | .append => met_append
  | .pop1 => met_pop1
  | .find2 => met_find2
  | .rfind1 => met_rfind1
  | .join => met_join
  | .dget1 => met_dget1 hu
  | .ins => met_ins
end
end L2.PV

/-! PV, part 8: the readings; each form of an expression, read by the evaluator. -/
namespace L2.PV
open PySem PySem.Spec PyProof.Rows LamX

/-! ### readings -/
section
variable (K : PySem.W.Frag) (T : Tb) (Δ : Den)
def tE (a : IE) : TE := fun σ H Q => ∃ (W : Wd) (env : En), W.H = H ∧ ER K W env σ ∧ SR K T W ∧ After K T W (evE Δ a env W.S) (Gv K Q)
def tT (a : IE) : TT := fun σ H Q => ∃ (W : Wd) (env : En), W.H = H ∧ ER K W env σ ∧ SR K T W ∧ After K T W (evT Δ a env W.S) (fun k W' => Q k W'.H)
def tA (as : IEs) : TA := fun σ H Q => ∃ (W : Wd) (env : En), W.H = H ∧ ER K W env σ ∧ SR K T W ∧ After K T W (evEs Δ as env W.S) (fun ds W' => ∀ vs, VRs K W' ds vs → Q vs W'.H)
def tO (as : IEs) : TO := fun σ H Q => ∃ (W : Wd) (env : En), W.H = H ∧ ER K W env σ ∧ SR K T W ∧ After K T W (evO Δ as env W.S) (fun o W' => Q o W'.H)
def tAn (as : IEs) : TE := fun σ H Q => ∃ (W : Wd) (env : En), W.H = H ∧ ER K W env σ ∧ SR K T W ∧ After K T W (evAnd Δ as env W.S) (Gv K Q)
def tOn (as : IEs) : TE := fun σ H Q => ∃ (W : Wd) (env : En), W.H = H ∧ ER K W env σ ∧ SR K T W ∧ After K T W (evOr Δ as env W.S) (Gv K Q)
def tTA (as : IEs) : TT := fun σ H Q => ∃ (W : Wd) (env : En), W.H = H ∧ ER K W env σ ∧ SR K T W ∧ After K T W (evTA Δ as env W.S) (fun k W' => Q k W'.H)
def tTO (as : IEs) : TT := fun σ H Q => ∃ (W : Wd) (env : En), W.H = H ∧ ER K W env σ ∧ SR K T W ∧ After K T W (evTO Δ as env W.S) (fun k W' => Q k W'.H)
end

theorem PE.imp {X : Cx} {e : Expr} {t t' : TE} (h : PE X e t) (f : ∀ σ H Q, t' σ H Q → t σ H Q) : PE X e t' := ⟨fun pins s σ H Q I q => h.run pins s σ H Q I (f σ H Q q)⟩
theorem PT.imp {X : Cx} {e : Expr} {t t' : TT} (h : PT X e t) (f : ∀ σ H Q, t' σ H Q → t σ H Q) : PT X e t' := ⟨fun pins s σ H Q I q => h.run pins s σ H Q I (f σ H Q q)⟩
theorem PW.imp {X : Cx} {e : Expr} {t t' : TT} (h : PW X e t) (f : ∀ σ H Q, t' σ H Q → t σ H Q) : PW X e t' := ⟨fun wh pins s σ H Q I q => h.run wh pins s σ H Q I (f σ H Q q)⟩
theorem PW.toPT {X : Cx} {e : Expr} {t : TT} (h : PW X e t) : PT X e t := ⟨fun pins s σ H Q I q => h.run _ pins s σ H Q I q⟩
theorem PA.imp {X : Cx} {es : List Expr} {t t' : TA} (h : PA X es t) (f : ∀ σ H Q, t' σ H Q → t σ H Q) : PA X es t' := ⟨fun pos pins s σ H Q I q => h.run pos pins s σ H Q I (f σ H Q q)⟩
theorem PO.imp {X : Cx} {e : Option Expr} {t t' : TO} (h : PO X e t) (f : ∀ σ H Q, t' σ H Q → t σ H Q) : PO X e t' := ⟨fun pins s σ H Q I q => h.run pins s σ H Q I (f σ H Q q)⟩

section
variable {K : PySem.W.Frag} {T : Tb} {Δ : Den} {W : Wd} {env : En} {σ : St}
theorem tE.step {β : Type} {a : IE} {f : D → Sto → R β} {P : β → Wd → Prop} {G : V → Hp → Prop} (er : ER K W env σ) (sr : SR K T W) (h : After K T W ((evE Δ a env W.S).bind f) P)
    (k : ∀ (x : D) (W1 : Wd) (v : V), Ext W W1 → SR K T W1 → ER K W1 env σ → VR K W1 x v → After K T W1 (f x W1.S) P → G v W1.H) : tE K T Δ a σ W.H G :=
  ⟨W, env, rfl, er, sr, (After.bind h).mono fun x W1 _ ext s1 q v rv => k x W1 v ext s1 (er.mono sr ext.toExt0) rv q⟩
theorem tT.step {β : Type} {a : IE} {f : Bool → Sto → R β} {P : β → Wd → Prop} {G : Bool → Hp → Prop} (er : ER K W env σ) (sr : SR K T W) (h : After K T W ((evT Δ a env W.S).bind f) P)
    (k : ∀ (x : Bool) (W1 : Wd), Ext W W1 → SR K T W1 → ER K W1 env σ → After K T W1 (f x W1.S) P → G x W1.H) : tT K T Δ a σ W.H G :=
  ⟨W, env, rfl, er, sr, (After.bind h).mono fun x W1 _ ext s1 q => k x W1 ext s1 (er.mono sr ext.toExt0) q⟩
theorem tA.step {β : Type} {a : IEs} {f : List D → Sto → R β} {P : β → Wd → Prop} {G : List V → Hp → Prop} (er : ER K W env σ) (sr : SR K T W) (h : After K T W ((evEs Δ a env W.S).bind f) P)
    (k : ∀ (x : List D) (W1 : Wd) (v : List V), Ext W W1 → SR K T W1 → ER K W1 env σ → VRs K W1 x v → After K T W1 (f x W1.S) P → G v W1.H) : tA K T Δ a σ W.H G :=
  ⟨W, env, rfl, er, sr, (After.bind h).mono fun x W1 _ ext s1 q v rv => k x W1 v ext s1 (er.mono sr ext.toExt0) rv q⟩
theorem tO.step {β : Type} {a : IEs} {f : Option Int → Sto → R β} {P : β → Wd → Prop} {G : Option Int → Hp → Prop} (er : ER K W env σ) (sr : SR K T W) (h : After K T W ((evO Δ a env W.S).bind f) P)
    (k : ∀ (x : Option Int) (W1 : Wd), Ext W W1 → SR K T W1 → ER K W1 env σ → After K T W1 (f x W1.S) P → G x W1.H) : tO K T Δ a σ W.H G :=
  ⟨W, env, rfl, er, sr, (After.bind h).mono fun x W1 _ ext s1 q => k x W1 ext s1 (er.mono sr ext.toExt0) q⟩
/-- as tE.step, at the end -/
theorem tE.last {a : IE} {P : D → Wd → Prop} {G : V → Hp → Prop} (er : ER K W env σ) (sr : SR K T W) (h : After K T W (evE Δ a env W.S) P)
    (k : ∀ (x : D) (W1 : Wd) (v : V), Ext W W1 → SR K T W1 → ER K W1 env σ → VR K W1 x v → P x W1 → G v W1.H) : tE K T Δ a σ W.H G :=
  ⟨W, env, rfl, er, sr, h.mono fun x W1 _ ext s1 q v rv => k x W1 v ext s1 (er.mono sr ext.toExt0) rv q⟩
end

/-! ### one by one -/
section
variable {X : Cx} {T : Tb} {Δ : Den} {a b c : IE} {ea eb ec : Expr} {pos : Pos}
theorem re_var {i : Nat} {x : Str} (h : PE X (.Name x pos) (tVar i)) : PE X (.Name x pos) (tE X.K T Δ (.var i)) := PE.imp h fun σ H Q ⟨W, env, e, er, sr, q⟩ => by
  subst e
  replace q : After X.K T W (match env[i]? with
    | some (some d) => .ok d W.S
    | _ => .bad) (Gv X.K Q) := q
  cases hd : env[i]? with
  | none => rw [hd] at q; exact q.elim
  | some o =>
    rw [hd] at q
    cases o with
    | none => exact q.elim
    | some d =>
      obtain ⟨v, e1, e2⟩ := er.get i d hd
      exact ⟨v, e1, q.here sr v e2⟩
theorem re_cst {d : D} {v : V} {e : Expr} (h : PE X e (tC v)) (r : ∀ W, VR X.K W d v) : PE X e (tE X.K T Δ (.cst d)) := PE.imp h fun σ H Q ⟨W, env, e, er, sr, q⟩ => by
  subst e
  exact After.here sr (show After X.K T W (.ok d W.S) (Gv X.K Q) from q) v (r W)
theorem re_bin {op : Operator} (ha : PE X ea (tE X.K T Δ a)) (hb : PE X eb (tE X.K T Δ b)) : PE X (.BinOp ea op eb pos) (tE X.K T Δ (.bin op a b)) :=
  PE.imp (pe_op (op_binD (T := T) op) ha hb) fun σ H Q ⟨W, env, e, er, sr, q⟩ => by
    subst e
    refine tE.step er sr q fun x W1 v x1 s1 e1 r1 q1 => ?_
    refine tE.step e1 s1 q1 fun y W2 u x2 s2 e2 r2 q2 => ?_
    obtain ⟨d, ed, q3⟩ := q2.of
    exact ⟨W2, x, y, d, rfl, s2, r1.mono s1 x2.toExt0, r2, ed, q3⟩
theorem re_neg (ha : PE X ea (tE X.K T Δ a)) : PE X (.UnaryOp .USub ea pos) (tE X.K T Δ (.neg a)) :=
  PE.imp (pe_un un_neg ha) fun σ H Q ⟨W, env, e, er, sr, q⟩ => by
    subst e
    refine tE.step er sr q fun x W1 v x1 s1 e1 r1 q1 => ?_
    cases x with
    | int i =>
      cases r1
      exact ⟨i, rfl, After.here s1 (show After X.K T W1 (.ok (.int (-i)) W1.S) (Gv X.K Q) from q1) _ rfl⟩
    | _ => exact q1.elim
theorem re_not (ha : PE X ea (tE X.K T Δ a)) : PE X (.UnaryOp .Not ea pos) (tE X.K T Δ (.not a)) :=
  PE.imp (pe_not ha) fun σ H Q ⟨W, env, e, er, sr, q⟩ => by
    subst e
    refine tE.step er sr q fun x W1 v x1 s1 e1 r1 q1 => ?_
    cases x with
    | bl k =>
      cases r1
      exact ⟨k, rfl, After.here s1 (show After X.K T W1 (.ok (.bl (!k)) W1.S) (Gv X.K Q) from q1) _ rfl⟩
    | _ => exact q1.elim
theorem map_bl {o : Option Bool} {S : Sto} {K : PySem.W.Frag} {W : Wd} {P : D → Wd → Prop} (h : After K T W (R.of (o.map D.bl) S) P) : ∃ k, o = some k ∧ After K T W (.ok (D.bl k) S) P := by
  obtain ⟨d, e, q⟩ := h.of
  cases o with
  | none => cases e
  | some k => cases e; exact ⟨k, rfl, q⟩
theorem re_cmp {op : CmpOp} (hu : X.A.units + 64 < cLine) (ha : PE X ea (tE X.K T Δ a)) (hb : PE X eb (tE X.K T Δ b)) (hm : behindInMarks op eb = false) : PE X (.Compare ea [op] [eb] pos) (tE X.K T Δ (.cmp op a b)) :=
  PE.imp (pe_cmpR (op_cmpD (T := T) hu op) ha hb hm) fun σ H Q ⟨W, env, e, er, sr, q⟩ => by
    subst e
    refine tE.step er sr q fun x W1 v x1 s1 e1 r1 q1 => ?_
    refine tE.step e1 s1 q1 fun y W2 u x2 s2 e2 r2 q2 => ?_
    obtain ⟨k, ek, q3⟩ := map_bl q2
    exact ⟨W2, x, y, k, rfl, s2, r1.mono s1 x2.toExt0, r2, ek, q3.here s2 _ rfl⟩
theorem rt_cmp {op : CmpOp} (hu : X.A.units + 64 < cLine) (ha : PE X ea (tE X.K T Δ a)) (hb : PE X eb (tE X.K T Δ b)) (hm : behindInMarks op eb = false) : PT X (.Compare ea [op] [eb] pos) (tT X.K T Δ (.cmp op a b)) :=
  PT.imp (pt_cmpR (op_cmpD (T := T) hu op) ha hb hm) fun σ H Q ⟨W, env, e, er, sr, q⟩ => by
    subst e
    refine tE.step er sr q fun x W1 v x1 s1 e1 r1 q1 => ?_
    refine tE.step e1 s1 q1 fun y W2 u x2 s2 e2 r2 q2 => ?_
    obtain ⟨k, ek, q3⟩ := q2.of
    exact ⟨W2, x, y, k, rfl, s2, r1.mono s1 x2.toExt0, r2, ek, k, rfl, q3.here s2⟩
theorem chn_in {op op' : CmpOp} {W : Wd} {env : En} {σ : St} {G : VK} {β : Type} {f : Bool → β} {P : β → Wd → Prop} (er : ER X.K W env σ) (sr : SR X.K T W) (q : After X.K T W ((evE Δ a env W.S).bind fun x S1 => (evE Δ b env S1).bind fun y S2 => (match cmpF S2 op x y with
      | some true => (evE Δ c env S2).bind fun z S3 => R.of ((cmpF S3 op' y z).map f) S3
      | some false => .ok (f false) S2
      | none => .bad)) P) (hG : ∀ (k : Bool) (W1 : Wd), SR X.K T W1 → After X.K T W1 (.ok (f k) W1.S) P → G (.bl k) W1.H) : tChain (rCmp X.K T op) (rCmp X.K T op') (tE X.K T Δ a) (tE X.K T Δ b) (tE X.K T Δ c) σ W.H G := by
  refine tE.step er sr q fun x W1 v x1 s1 e1 r1 q1 => ?_
  refine tE.step e1 s1 q1 fun y W2 u x2 s2 e2 r2 q2 => ?_
  cases hk : cmpF W2.S op x y with
  | none => rw [hk] at q2; exact q2.elim
  | some k =>
    rw [hk] at q2
    refine ⟨W2, x, y, k, rfl, s2, r1.mono s1 x2.toExt0, r2, hk, k, rfl, ?_⟩
    cases k with
    | false => exact iteF (hG false W2 s2 q2)
    | true =>
      refine iteT (tE.step e2 s2 q2 fun z W3 w x3 s3 e3 r3 q3 => ?_)
      obtain ⟨d, ed, q4⟩ := q3.of
      cases hc : cmpF W3.S op' y z with
      | none => rw [hc] at ed; cases ed
      | some k' =>
        rw [hc] at ed
        cases ed
        exact ⟨W3, y, z, k', rfl, s3, r2.mono s2 x3.toExt0, r3, hc, hG k' W3 s3 q4⟩
theorem re_chn {op op' : CmpOp} (hu : X.A.units + 64 < cLine) (ha : PE X ea (tE X.K T Δ a)) (hb : PE X eb (tE X.K T Δ b)) (hc : PE X ec (tE X.K T Δ c)) (hm : lastMarks [op, op'] [eb, ec] = false) : PE X (.Compare ea [op, op'] [eb, ec] pos) (tE X.K T Δ (.chn op op' a b c)) :=
  PE.imp (pe_chain (op_cmpD (T := T) hu op) (op_cmpD (T := T) hu op') ha hb hc hm) fun σ H Q ⟨W, env, e, er, sr, q⟩ => by
    subst e
    exact chn_in (f := D.bl) er sr q fun k W1 s1 q1 => q1.here s1 _ rfl
theorem opt_id {o : Option Bool} : o.map (fun k => k) = o := by cases o <;> rfl
theorem rt_chn {op op' : CmpOp} (hu : X.A.units + 64 < cLine) (ha : PE X ea (tE X.K T Δ a)) (hb : PE X eb (tE X.K T Δ b)) (hc : PE X ec (tE X.K T Δ c)) (hm : lastMarks [op, op'] [eb, ec] = false) : PT X (.Compare ea [op, op'] [eb, ec] pos) (tT X.K T Δ (.chn op op' a b c)) :=
  PT.imp (pt_chain (op_cmpD (T := T) hu op) (op_cmpD (T := T) hu op') ha hb hc hm) fun σ H Q ⟨W, env, e, er, sr, q⟩ => by
    subst e
    refine chn_in (f := fun k => k) (P := fun k W' => Q k W'.H) er sr ?_ fun k W1 s1 q1 => ⟨k, rfl, q1.here s1⟩
    simp only [opt_id]
    exact q
theorem re_ife (hc : PT X ec (tT X.K T Δ c)) (ha : PE X ea (tE X.K T Δ a)) (hb : PE X eb (tE X.K T Δ b)) : PE X (.IfExp ec ea eb pos) (tE X.K T Δ (.ife c a b)) :=
  PE.imp (pe_ifExp hc ha hb) fun σ H Q ⟨W, env, e, er, sr, q⟩ => by
    subst e
    refine tT.step er sr q fun k W1 x1 s1 e1 q1 => ?_
    cases k with
    | true => exact iteT ⟨W1, env, rfl, e1, s1, q1⟩
    | false => exact iteF ⟨W1, env, rfl, e1, s1, q1⟩
/-! and, or: by value -/
theorem re_and1 (ha : PE X ea (tE X.K T Δ a)) : PE X (.BoolOp .And [ea] pos) (tAn X.K T Δ (.cons a .nil)) := PE.imp (pe_one ha) fun σ H Q h => h
theorem re_or1 (ha : PE X ea (tE X.K T Δ a)) : PE X (.BoolOp .Or [ea] pos) (tOn X.K T Δ (.cons a .nil)) := PE.imp (pe_one ha) fun σ H Q h => h
theorem re_and {bs : IEs} {rest : List Expr} (ha : PE X ea (tE X.K T Δ a)) (hb : PE X (.BoolOp .And (eb :: rest) pos) (tAn X.K T Δ (.cons b bs))) : PE X (.BoolOp .And (ea :: eb :: rest) pos) (tAn X.K T Δ (.cons a (.cons b bs))) :=
  PE.imp (pe_and ha hb) fun σ H Q ⟨W, env, e, er, sr, q⟩ => by
    subst e
    refine tE.step er sr q fun x W1 v x1 s1 e1 r1 q1 => ?_
    cases x with
    | bl k =>
      cases r1
      refine ⟨k, rfl, ?_⟩
      cases k with
      | true => exact iteT ⟨W1, env, rfl, e1, s1, q1⟩
      | false => exact iteF (After.here s1 (show After X.K T W1 (.ok (.bl false) W1.S) (Gv X.K Q) from q1) _ rfl)
    | _ => exact q1.elim
theorem re_or {bs : IEs} {rest : List Expr} (ha : PE X ea (tE X.K T Δ a)) (hb : PE X (.BoolOp .Or (eb :: rest) pos) (tOn X.K T Δ (.cons b bs))) : PE X (.BoolOp .Or (ea :: eb :: rest) pos) (tOn X.K T Δ (.cons a (.cons b bs))) :=
  PE.imp (pe_or ha hb) fun σ H Q ⟨W, env, e, er, sr, q⟩ => by
    subst e
    refine tE.step er sr q fun x W1 v x1 s1 e1 r1 q1 => ?_
    cases x with
    | bl k =>
      cases r1
      refine ⟨k, rfl, ?_⟩
      cases k with
      | false => exact iteF ⟨W1, env, rfl, e1, s1, q1⟩
      | true => exact iteT (After.here s1 (show After X.K T W1 (.ok (.bl true) W1.S) (Gv X.K Q) from q1) _ rfl)
    | _ => exact q1.elim
/-! and, or: as tests -/
theorem rw_and1 (ha : PT X ea (tT X.K T Δ a)) : PW X (.BoolOp .And [ea] pos) (tTA X.K T Δ (.cons a .nil)) := PW.imp (pw_and1 ha) fun σ H Q h => h
theorem rw_or1 (ha : PT X ea (tT X.K T Δ a)) : PW X (.BoolOp .Or [ea] pos) (tTO X.K T Δ (.cons a .nil)) := PW.imp (pw_or1 ha) fun σ H Q h => h
theorem rw_and {bs : IEs} {rest : List Expr} (ha : PT X ea (tT X.K T Δ a)) (hb : PW X (.BoolOp .And (eb :: rest) pos) (tTA X.K T Δ (.cons b bs))) : PW X (.BoolOp .And (ea :: eb :: rest) pos) (tTA X.K T Δ (.cons a (.cons b bs))) :=
  PW.imp (pw_and ha hb) fun σ H Q ⟨W, env, e, er, sr, q⟩ => by
    subst e
    refine tT.step er sr q fun k W1 x1 s1 e1 q1 => ?_
    cases k with
    | true => exact iteT ⟨W1, env, rfl, e1, s1, q1⟩
    | false => exact iteF (After.here s1 (show After X.K T W1 (.ok false W1.S) (fun k W' => Q k W'.H) from q1))
theorem rw_or {bs : IEs} {rest : List Expr} (ha : PT X ea (tT X.K T Δ a)) (hb : PW X (.BoolOp .Or (eb :: rest) pos) (tTO X.K T Δ (.cons b bs))) : PW X (.BoolOp .Or (ea :: eb :: rest) pos) (tTO X.K T Δ (.cons a (.cons b bs))) :=
  PW.imp (pw_or ha hb) fun σ H Q ⟨W, env, e, er, sr, q⟩ => by
    subst e
    refine tT.step er sr q fun k W1 x1 s1 e1 q1 => ?_
    cases k with
    | false => exact iteF ⟨W1, env, rfl, e1, s1, q1⟩
    | true => exact iteT (After.here s1 (show After X.K T W1 (.ok true W1.S) (fun k W' => Q k W'.H) from q1))
theorem rt_not (ha : PT X ea (tT X.K T Δ a)) : PT X (.UnaryOp .Not ea pos) (tT X.K T Δ (.not a)) :=
  PT.imp (pt_not ha) fun σ H Q ⟨W, env, e, er, sr, q⟩ => by
    subst e
    exact tT.step er sr q fun k W1 x1 s1 e1 q1 => After.here s1 (show After X.K T W1 (.ok (!k) W1.S) (fun k W' => Q k W'.H) from q1)
/-- any other test -/
theorem rt_any {g : IE} {e : Expr} (he : PE X e (tE X.K T Δ g)) (ht : ∀ (env : En) (S : Sto), evT Δ g env S = (evE Δ g env S).bind fun z S3 => R.of (truF S3 z) S3)
    (hi : ∀ whole, isTrue e X.env whole = (do let v ← whole; standAt e.pos; holding [v] (truthy v))) : PT X e (tT X.K T Δ g) :=
  PT.imp (pt_truth he hi) fun σ H Q ⟨W, env, e, er, sr, q⟩ => by
    subst e
    rw [ht] at q
    refine tE.step er sr q fun x W1 v x1 s1 e1 r1 q1 => ?_
    obtain ⟨k, ek, q2⟩ := q1.of
    exact ⟨k, truF_ok s1 r1 ek, q2.here s1⟩
/-! ### arguments -/
theorem ra_nil : PA X [] (tA X.K T Δ .nil) := PA.imp pa_nil fun σ H Q ⟨W, env, e, er, sr, q⟩ => by
  subst e
  exact After.here sr (show After X.K T W (.ok [] W.S) _ from q) [] rfl
theorem ra_cons {as : IEs} {es : List Expr} (ha : PE X ea (tE X.K T Δ a)) (hr : PA X es (tA X.K T Δ as)) (hs : starEach (ea :: es) X.env = (false, eval ea X.env) :: starEach es X.env) : PA X (ea :: es) (tA X.K T Δ (.cons a as)) :=
  PA.imp (pa_cons ha hr hs) fun σ H Q ⟨W, env, e, er, sr, q⟩ => by
    subst e
    refine tE.step er sr q fun x W1 v x1 s1 e1 r1 q1 => ?_
    refine tA.step e1 s1 q1 fun ds W2 vs x2 s2 e2 r2 q2 => ?_
    exact After.here s2 (show After X.K T W2 (.ok (x :: ds) W2.S) _ from q2) (v :: vs) ⟨v, vs, rfl, r1.mono s1 x2.toExt0, r2⟩
theorem ro_nil : PO X none (tO X.K T Δ .nil) := PO.imp po_none fun σ H Q ⟨W, env, e, er, sr, q⟩ => by
  subst e
  exact After.here sr (show After X.K T W (.ok none W.S) _ from q)
theorem ro_cons {as : IEs} (ha : PE X ea (tE X.K T Δ a)) : PO X (some ea) (tO X.K T Δ (.cons a as)) := PO.imp (po_some ha) fun σ H Q ⟨W, env, e, er, sr, q⟩ => by
  subst e
  refine tE.step er sr q fun x W1 v x1 s1 e1 r1 q1 => ?_
  cases x with
  | int i =>
    cases r1
    exact ⟨i, rfl, After.here s1 (show After X.K T W1 (.ok (some i) W1.S) _ from q1)⟩
  | _ => exact q1.elim
/-! ### displays -/
theorem evEs_len {Δ : Den} : ∀ {as : IEs} {env : En} {S S' : Sto} {ds : List D} {n : Nat}, evEs Δ as env S = .ok ds S' → (∀ m, m = n → True) → True := fun _ _ => trivial
def IEs.len : IEs → Nat
  | .nil => 0
  | .cons _ as => as.len + 1
theorem R.bind_ok {α β : Type} {r : R α} {f : α → Sto → R β} {b : β} {S : Sto} (h : r.bind f = .ok b S) : ∃ x S1, r = .ok x S1 ∧ f x S1 = .ok b S := by
  cases r with
  | ok x S1 => exact ⟨x, S1, rfl, h⟩
  | ex _ _ => cases h
  | bad => cases h
theorem evEs_length {Δ : Den} : ∀ {as : IEs} {env : En} {S S' : Sto} {ds : List D}, evEs Δ as env S = .ok ds S' → ds.length = as.len
  | .nil, env, S, S', ds, h => by
    have h' : R.ok ([] : List D) S = .ok ds S' := h
    cases h'
    rfl
  | .cons a as, env, S, S', ds, h => by
    obtain ⟨x, S1, _, h2⟩ := R.bind_ok (show (evE Δ a env S).bind (fun x S1 => (evEs Δ as env S1).bind fun xs S2 => .ok (x :: xs) S2) = .ok ds S' from h)
    obtain ⟨xs, S2, h3, h4⟩ := R.bind_ok h2
    cases h4
    rw [List.length_cons, evEs_length h3]
    rfl
/-- as tA.step, and the length -/
theorem tA.stepL {β : Type} {as : IEs} {W : Wd} {env : En} {σ : St} {f : List D → Sto → R β} {P : β → Wd → Prop} {G : List V → Hp → Prop} (er : ER X.K W env σ) (sr : SR X.K T W) (h : After X.K T W ((evEs Δ as env W.S).bind f) P)
    (k : ∀ (x : List D) (W1 : Wd) (v : List V), x.length = as.len → Ext W W1 → SR X.K T W1 → ER X.K W1 env σ → VRs X.K W1 x v → After X.K T W1 (f x W1.S) P → G v W1.H) : tA X.K T Δ as σ W.H G :=
  ⟨W, env, rfl, er, sr, (After.bind h).mono fun x W1 e ext s1 q v rv => k x W1 v (evEs_length e) ext s1 (er.mono sr ext.toExt0) rv q⟩
theorem re_tup {as : IEs} {es : List Expr} {k : Nat} (ha : PA X es (tA X.K T Δ as)) (hl : as.len ≤ 1000) : PE X (.Tuple es k pos) (tE X.K T Δ (.tup as)) :=
  PE.imp (pe_tup ha) fun σ H Q ⟨W, env, e, er, sr, q⟩ => by
    subst e
    refine tA.stepL er sr q fun ds W1 vs el x1 s1 e1 r1 q1 => ⟨?_, fun p hp => After.newTup s1 q1 r1 hp⟩
    rw [← r1.len, el]
    exact Nat.le_of_lt (small1000 hl)
theorem re_lst {as : IEs} {es : List Expr} {tr : Bool} (ha : PA X es (tA X.K T Δ as)) (hl : as.len ≤ 1000) : PE X (.List es pos) (tE X.K T Δ (.lst tr as)) :=
  PE.imp (pe_lst ha) fun σ H Q ⟨W, env, e, er, sr, q⟩ => by
    subst e
    refine tA.stepL er sr q fun ds W1 vs el x1 s1 e1 r1 q1 => ⟨?_, fun p hp => After.newL s1 q1 r1 hp⟩
    rw [← r1.len, el]
    exact Nat.le_of_lt (small1000 hl)
theorem re_dct : PE X (.Dict [] [] pos) (tE X.K T Δ .dct) :=
  PE.imp pe_dnewK fun σ H Q ⟨W, env, e, er, sr, q⟩ p hp => by
    subst e
    exact q ⟨upd W.H p (.dK []), W.θ ++ [p], W.S ++ [.dic []], W.hid⟩ rfl (ext_newC sr hp) (sr_newC sr hp (show CR X.K W (.dic []) (some (.dK [])) from ⟨[], rfl, .nil⟩)) _ (vr_newC sr)
/-! ### subscripts -/
theorem re_idx (hu : X.A.units + 1 < cLine) (ha : PE X ea (tE X.K T Δ a)) (hb : PE X eb (tE X.K T Δ b)) (hs : PlainIx eb) : PE X (.Subscript ea eb pos) (tE X.K T Δ (.idx a b)) :=
  PE.imp (pe_ix (ix_D (T := T) hu) ha hb hs) fun σ H Q ⟨W, env, e, er, sr, q⟩ => by
    subst e
    refine tE.step er sr q fun x W1 v x1 s1 e1 r1 q1 => ?_
    refine tE.step e1 s1 q1 fun y W2 u x2 s2 e2 r2 q2 => ?_
    obtain ⟨d, ed, q3⟩ := q2.of
    exact ⟨W2, x, y, d, rfl, s2, r1.mono s1 x2.toExt0, r2, ed, q3⟩
theorem re_slc {lo hi : IEs} {el eh : Option Expr} {p2 : Pos} (ha : PE X ea (tE X.K T Δ a)) (hl : PO X el (tO X.K T Δ lo)) (hh : PO X eh (tO X.K T Δ hi)) : PE X (.Subscript ea (.Slice el eh none p2) pos) (tE X.K T Δ (.slc a lo hi)) :=
  PE.imp (pe_slice (sl_D (T := T)) ha hl hh) fun σ H Q ⟨W, env, e, er, sr, q⟩ => by
    subst e
    refine tE.step er sr q fun x W1 v x1 s1 e1 r1 q1 => ?_
    refine tO.step e1 s1 q1 fun l W2 x2 s2 e2 q2 => ?_
    refine tO.step e2 s2 q2 fun u W3 x3 s3 e3 q3 => ?_
    obtain ⟨d, ed, q4⟩ := q3.of
    exact ⟨W3, x, d, rfl, s3, (r1.mono s1 x2.toExt0).mono s2 x3.toExt0, ed, q4⟩
theorem re_rev {kk : Nat} {p1 p2 p3 : Pos} (ha : PE X ea (tE X.K T Δ a)) : PE X (.Subscript ea (.Slice none none (some (.UnaryOp .USub (.Constant (.int 1) kk p1) p2)) p3) pos) (tE X.K T Δ (.rev a)) :=
  PE.imp (pe_revA ha) fun σ H Q ⟨W, env, e, er, sr, q⟩ => by
    subst e
    refine tE.step er sr q fun x W1 v x1 s1 e1 r1 q1 => ?_
    obtain ⟨d, ed, q2⟩ := q1.of
    replace ed : (match rd W1.S x with
      | .tup xs => some (D.tup xs.reverse)
      | .lst xs => some (.lst xs.reverse)
      | _ => none) = some d := ed
    cases hx : rd W1.S x with
    | tup xs =>
      rw [hx] at ed
      cases rd_tup hx
      obtain ⟨p, vs, rfl, h1, rs⟩ := id r1
      cases (show some (D.tup xs.reverse) = some d from ed)
      exact ⟨p, vs, rfl, .inr ⟨.inl (.inl h1), fun p' hp => After.newTup s1 q2 rs.rev hp⟩⟩
    | lst xs =>
      rw [hx] at ed
      obtain ⟨p, vs, rfl, h1, rs⟩ := rd_lst s1 r1 hx
      cases (show some (D.lst xs.reverse) = some d from ed)
      exact ⟨p, vs, rfl, .inl ⟨.inl (.inl h1), fun p' hp => After.newLst s1 q2 rs.rev hp⟩⟩
    | _ => rw [hx] at ed; cases ed
/-! ### calls -/
theorem re_blt {bl : Blt} {tr : Bool} {as : IEs} {e : Expr} (h : ∀ t : TA, t = tA X.K T Δ as → PE X e (tCB (rBlt X.K T bl tr) t)) : PE X e (tE X.K T Δ (.blt bl tr as)) :=
  PE.imp (h _ rfl) fun σ H Q ⟨W, env, e, er, sr, q⟩ => by
    subst e
    exact tA.step er sr q fun ds W1 vs x1 s1 e1 r1 q1 => ⟨W1, ds, rfl, s1, r1, q1⟩
theorem re_isi {t : Ty} {ta : TA} {e : Expr} (hta : ∀ σ H Q, tCons (tE X.K T Δ a) (tCons (tC (.ty t.name)) tNil) σ H Q → ta σ H Q)
    (h : PE X e (tCB (fun xs H Q => ∃ (W : Wd) (a : D) (x : V) (k : Bool), xs = [x, .ty t.name] ∧ W.H = H ∧ SR X.K T W ∧ VR X.K W a x ∧ isiF W.S a t = some k ∧ Q (.bl k) H) ta)) : PE X e (tE X.K T Δ (.isi a t)) :=
  PE.imp h fun σ H Q ⟨W, env, e, er, sr, q⟩ => by
    subst e
    refine hta _ _ _ (tE.step er sr q fun x W1 v x1 s1 e1 r1 q1 => ?_)
    obtain ⟨k, ek, q2⟩ := map_bl q1
    exact ⟨W1, x, v, k, rfl, rfl, s1, r1, ek, q2.here s1 _ rfl⟩
theorem re_srt {e : Expr} (h : PE X e (tCB (fun xs H Q => ∃ (W : Wd) (a d : D) (x : V), xs = [x] ∧ W.H = H ∧ SR X.K T W ∧ VR X.K W a x ∧ srtF W.S a = some d ∧ After X.K T W (.ok d W.S) (Gv X.K Q)) (tCons (tE X.K T Δ a) tNil))) : PE X e (tE X.K T Δ (.srt a)) :=
  PE.imp h fun σ H Q ⟨W, env, e, er, sr, q⟩ => by
    subst e
    refine tE.step er sr q fun x W1 v x1 s1 e1 r1 q1 => ?_
    obtain ⟨d, ed, q2⟩ := q1.of
    exact ⟨W1, x, d, v, rfl, rfl, s1, r1, ed, q2⟩
theorem rg_vrs {K : PySem.W.Frag} {W : Wd} {i : Int} {n : Nat} : VRs K W (rngD i 1 n) ((List.range n).map fun (k : Nat) => V.int (i + (k : Nat))) := by
  unfold rngD
  induction List.range n with
  | nil => rfl
  | cons k ks ih => exact VRs.cons (by show V.int (i + (k : Int)) = V.int (i + (k : Int) * 1); rw [Int.mul_one]) ih
theorem re_lrg1 {tr : Bool} {e1 : Expr} {p p2 pos pos2 : Pos} (hc : X.calm = true) (hg : Gl X "list") (hm : X.mg "list" = none) (hg2 : Gl X "range") (hm2 : X.mg "range" = none) (ha : PE X ea (tE X.K T Δ a)) (na : starEach [ea] X.env = (false, eval ea X.env) :: starEach [] X.env) :
    PE X (.Call (.Name "list" p) [.Call (.Name "range" p2) [ea] [] pos2] [] pos) (tE X.K T Δ (.lrg1 tr a)) :=
  PE.imp (pe_listRg hc hg hm (prg_1 hg2 hm2 ha na) (by rfl)) fun σ H Q ⟨W, env, e, er, sr, q⟩ => by
    subst e
    refine tE.step er sr q fun x W1 v x1 s1 e1 r1 q1 => ?_
    cases x with
    | int j =>
      cases r1
      replace q1 : After X.K T W1 (if small62 j ∧ j ≤ 16777216 then newL tr (rngD 0 1 j.toNat) W1.S else .bad) (Gv X.K Q) := q1
      by_cases h : small62 j ∧ j ≤ 16777216
      · rw [if_pos h] at q1
        refine ⟨j, rfl, ⟨by decide, by decide, h.1.1, h.1.2, by rw [Int.sub_zero]; have := h.2; omega⟩, fun p hp => ?_⟩
        refine After.newL s1 q1 ?_ hp
        unfold rgV
        rw [Int.sub_zero]
        exact rg_vrs
      · rw [if_neg h] at q1
        exact q1.elim
    | _ => exact q1.elim
theorem re_lrg2 {tr : Bool} {p p2 pos pos2 : Pos} (hc : X.calm = true) (hg : Gl X "list") (hm : X.mg "list" = none) (hg2 : Gl X "range") (hm2 : X.mg "range" = none) (ha : PE X ea (tE X.K T Δ a)) (hb : PE X eb (tE X.K T Δ b))
    (na : starEach [ea, eb] X.env = (false, eval ea X.env) :: starEach [eb] X.env) (nb : starEach [eb] X.env = (false, eval eb X.env) :: starEach [] X.env) (hp : (backTo pos2 (starEach [eb] X.env)).any (·.1) = false) :
    PE X (.Call (.Name "list" p) [.Call (.Name "range" p2) [ea, eb] [] pos2] [] pos) (tE X.K T Δ (.lrg2 tr a b)) :=
  PE.imp (pe_listRg hc hg hm (prg_2 hg2 hm2 ha hb na nb hp) (by rfl)) fun σ H Q ⟨W, env, e, er, sr, q⟩ => by
    subst e
    refine tE.step er sr q fun x W1 v x1 s1 e1 r1 q1 => ?_
    refine tE.step e1 s1 q1 fun y W2 u x2 s2 e2 r2 q2 => ?_
    cases x with
    | int i =>
      cases y with
      | int j =>
        cases r1
        cases r2
        replace q2 : After X.K T W2 (if small62 i ∧ small62 j ∧ j - i ≤ 16777216 then newL tr (rngD i 1 (j - i).toNat) W2.S else .bad) (Gv X.K Q) := q2
        by_cases h : small62 i ∧ small62 j ∧ j - i ≤ 16777216
        · rw [if_pos h] at q2
          refine ⟨i, j, rfl, rfl, ⟨h.1.1, h.1.2, h.2.1.1, h.2.1.2, by have := h.2.2; omega⟩, fun p hp => ?_⟩
          exact After.newL s2 q2 rg_vrs hp
        · rw [if_neg h] at q2
          exact q2.elim
      | _ => exact q2.elim
    | _ => exact q2.elim
theorem metP_ok {m : Mth} {o : D} {K : PySem.W.Frag} {W : Wd} {x : V} (sr : SR K T W) (r : VR K W o x) (h : metP m o W.S = true) : tyV K m.ty x W.H := by
  have lst : isLst W.S o = true → tyV K "list" x W.H := fun h => by
    cases o with
    | loc n =>
      obtain ⟨a, rfl, ha⟩ := r
      unfold isLst at h
      cases hc : W.S[n]? with
      | none => simp only [hc] at h; cases h
      | some c =>
        simp only [hc] at h
        cases c with
        | lst xs =>
          obtain ⟨vs, e, _⟩ := sr.cell n _ a hc ha
          exact .inl ⟨rfl, vs, .inl (.inl e)⟩
        | _ => cases h
    | _ => cases h
  have str : isStr o = true → tyV K "str" x W.H := fun h => by
    cases o with
    | str z => cases r; rfl
    | _ => cases h
  cases m with
  | append => exact lst h
  | pop1 => exact lst h
  | ins => exact lst h
  | find2 => exact str h
  | rfind1 => exact str h
  | join => exact str h
  | dget1 =>
    replace h : isDic W.S o = true := h
    cases o with
    | loc n =>
      obtain ⟨a, rfl, ha⟩ := r
      unfold isDic at h
      cases hc : W.S[n]? with
      | none => simp only [hc] at h; cases h
      | some c =>
        simp only [hc] at h
        cases c with
        | dic kvs =>
          obtain ⟨vs, e, _⟩ := sr.cell n _ a hc ha
          exact .inr (.inr (.inl ⟨rfl, .inl ⟨vs, e⟩⟩))
        | _ => cases h
    | _ => cases h
theorem re_met {m : Mth} {as : IEs} {e : Expr} (h : PE X e (tBM X.K m.ty (rMet X.K T m) (tE X.K T Δ a) (tA X.K T Δ as))) : PE X e (tE X.K T Δ (.met m a as)) :=
  PE.imp h fun σ H Q ⟨W, env, e, er, sr, q⟩ => by
    subst e
    refine tE.step er sr q fun x W1 v x1 s1 e1 r1 q1 => ?_
    cases hp : metP m x W1.S with
    | false => rw [hp] at q1; exact q1.elim
    | true =>
      rw [hp] at q1
      refine ⟨metP_ok s1 r1 hp, ?_⟩
      exact tA.step e1 s1 q1 fun ds W2 vs x2 s2 e2 r2 q2 => ⟨W2, x, ds, rfl, s2, r1.mono s1 x2.toExt0, r2, q2⟩
theorem re_frz (ha : PE X ea (tE X.K T Δ a)) : PE X ea (tE X.K T Δ (.frz a)) :=
  PE.imp ha fun σ H Q ⟨W, env, e, er, sr, q⟩ => by
    subst e
    refine tE.step er sr q fun x W1 v x1 s1 e1 r1 q1 => ?_
    cases x with
    | loc n =>
      obtain ⟨p, rfl, hp⟩ := r1
      replace q1 : After X.K T W1 (match W1.S[n]? with
        | some (.lst xs) => .ok (.lst xs) (W1.S.set n .gone)
        | _ => .bad) (Gv X.K Q) := q1
      cases hc : W1.S[n]? with
      | none => rw [hc] at q1; exact q1.elim
      | some c =>
        rw [hc] at q1
        cases c with
        | lst xs => exact q1 ⟨W1.H, W1.θ, W1.S.set n .gone, W1.hid⟩ rfl ext_gone (sr_gone s1) _ (vr_gone s1 hp hc)
        | _ => exact q1.elim
    | _ => exact q1.elim
end
end L2.PV

/-! PV, part 9: iterators, comprehensions, statements, read by the evaluator. -/
namespace L2.PV
open PySem PySem.Spec PyProof.Rows LamX

theorem Ext0.trans {A B C : Wd} (x : Ext0 A B) (y : Ext0 B C) : Ext0 A C :=
  ⟨fun n a h => y.th n a (x.th n a h), fun a o h l t => let ⟨h1, l1⟩ := x.keep a o h l t; y.keep a o h1 l1 t⟩
theorem Ext0.refl (W : Wd) : Ext0 W W := (Ext.refl W).toExt0
def Tb.mute (T : Tb) : Tb := ⟨T.tabs, fun _ _ => False⟩
section
variable {K : PySem.W.Frag} {T : Tb} {W W' : Wd}
theorem SR.mute (s : SR K T W) : SR K T.mute W := ⟨s.len, s.nd, s.cell, s.res, s.tabs, s.hid⟩
theorem SR.unmute (s : SR K T.mute W) : SR K T W := ⟨s.len, s.nd, s.cell, s.res, s.tabs, s.hid⟩
theorem After.ext {α : Type} {r : R α} {P : α → Wd → Prop} (h : After K T W r P) (x : Ext W W') : After K T W' r P := by
  cases r with
  | ok a S => exact fun W2 e x2 s2 => h W2 e (x.trans x2) s2
  | ex a S => exact fun W2 e x2 s2 => h W2 e (x.trans x2) s2
  | bad => exact h
theorem After.ofOk {α : Type} {r : R α} {a : α} {S : Sto} {P : α → Wd → Prop} (e : r = .ok a S) (h : ∀ W', W'.S = S → Ext W W' → SR K T W' → P a W') : After K T W r P := by
  subst e
  exact h
end

/-! ### what an iterator brings -/
structure ItOk (K : PySem.W.Frag) (T : Tb) (J : It) (xs : List D) (W0 : Wd) : Prop where
  len : xs.length ≤ 16777216
  stop : ∀ W, Ext0 W0 W → SR K T W → J.stop xs.length W.H
  go : ∀ W i, Ext0 W0 W → SR K T W → i < xs.length → J.go i W.H
  yld : ∀ W i d x H', Ext0 W0 W → SR K T W → xs[i]? = some d → J.yld i W.H x H' → ∃ W', W'.H = H' ∧ W'.S = W.S ∧ Ext W W' ∧ SR K T W' ∧ VR K W' d x
def tI (K : PySem.W.Frag) (T : Tb) (Δ : Den) (it : II) : TI := fun σ H R => ∃ (W : Wd) (env : En), W.H = H ∧ ER K W env σ ∧ SR K T W ∧ After K T W (evI Δ it env W.S) (fun xs W' => ∀ J, ItOk K T J xs W' → R J W'.H)
theorem PI.imp {X : Cx} {tg iter : Expr} {t t' : TI} (h : PI X tg iter t) (f : ∀ σ H Q, t' σ H Q → t σ H Q) : PI X tg iter t' := ⟨fun pins s σ H Q I q => h.run pins s σ H Q I (f σ H Q q)⟩
/-- a list or tuple, walked; its length is known -/
theorem pi_seqL {X : Cx} {tg l : Expr} {tl : TE} (hl : PE X l tl) : PI X tg l (fun σ H R => tl σ H fun x H1 => ∃ a, x = .ref a ∧
    ((∃ xs, SqL X.K H1 a xs ∧ (xs.length ≤ 16777216 → R (Itl X.K a) H1)) ∨ (∃ xs, SqT X.K H1 a xs ∧ (xs.length ≤ 16777216 → R (Itt X.K a) H1)))) := by
  refine ⟨fun pins s σ H R I h => ?_⟩
  refine thn (hl.run pins s σ H _ I h) fun v s1 ⟨x, H1, I1, r1, q1⟩ => ?_
  obtain ⟨a, e, q⟩ := q1
  subst e
  cases r1
  rcases q with ⟨xs, hq, q⟩ | ⟨xs, hq, q⟩
  · obtain ⟨its, rv, p, hz⟩ := I1.list hq
    rw [sizeLine_eq] at hz
    refine wpAny_pyIter_list p.isList ?_
    refine ⟨s1.heap.objs.size, [s1.heap.objs.size], _, _, H1, rfl, I1.kept (t' := s1.toks) fun b o e => Heap.get?_push_of_some _ e, turn_list a _, ⟨_, Heap.get?_push_size _ rfl, rfl, rfl⟩, fun b hb => ?_, q hz⟩
    have e : b = s1.heap.objs.size := by simpa using hb
    subst e
    exact I1.fpOk (Nat.le_refl _) (I1.hok.fresh (Nat.le_refl _))
  · obtain ⟨its, rv, p, hz⟩ := I1.tuple hq
    rw [sizeLine_eq] at hz
    refine wpAny_pyIter_tuple (show s1.heap.IsTuple a its.toArray from p) ?_
    refine ⟨s1.heap.objs.size, [s1.heap.objs.size], _, _, H1, rfl, I1.kept (t' := s1.toks) fun b o e => Heap.get?_push_of_some _ e, turn_tuple a _, ⟨_, Heap.get?_push_size _ rfl, rfl, rfl⟩, fun b hb => ?_, q hz⟩
    have e : b = s1.heap.objs.size := by simpa using hb
    subst e
    exact I1.fpOk (Nat.le_refl _) (I1.hok.fresh (Nat.le_refl _))
section
variable {K : PySem.W.Frag} {T : Tb} {W0 : Wd}
theorem VRs.stay {d : D} {xs : List D} {v : V} {S : Sto} (s0 : SR K T W0) (r : VR K W0 d v) (e : seqF S d = some xs) :
    ∃ a vs, v = .ref a ∧ VRs K W0 xs vs ∧ ((∀ W, Ext0 W0 W → SqL K W.H a vs) ∨ (∀ W, Ext0 W0 W → SqT K W.H a vs)) := by
  cases d with
  | tup ys =>
    cases (show some ys = some xs from e)
    obtain ⟨a, vs, rfl, h1, h2⟩ := r
    exact ⟨a, vs, rfl, h2, .inr fun W x => .inl (.inl (x.keep a _ h1 (s0.notLive h1 (fun _ z => nomatch z) fun _ z => nomatch z) fun _ z => nomatch z).1)⟩
  | lst ys =>
    cases (show some ys = some xs from e)
    obtain ⟨a, vs, rfl, h1, h2, h3⟩ := r
    exact ⟨a, vs, rfl, h3, .inl fun W x => .inl (.inl (x.keep a _ h1 h2 fun _ z => nomatch z).1)⟩
  | scr ys =>
    cases (show some ys = some xs from e)
    obtain ⟨a, vs, rfl, h1, h2⟩ := r
    refine ⟨a, vs, rfl, h2, .inl fun W x => ?_⟩
    rcases h1 with ⟨o, h1⟩ | h1
    · exact .inl (.inr ⟨o, (x.keep a _ h1 (s0.notLive h1 (fun _ z => nomatch z) fun _ z => nomatch z) fun _ z => nomatch z).1⟩)
    · exact .inr h1
  | _ => cases (show (none : Option (List D)) = some xs from e)
theorem it_list {a : Addr} {xs : List D} {vs : List V} (s0 : SR K T W0) (r : VRs K W0 xs vs) (h : ∀ W, Ext0 W0 W → SqL K W.H a vs) (hl : xs.length ≤ 16777216) : ItOk K T (Itl K a) xs W0 where
  len := hl
  stop := fun W x _ => ⟨vs, h W x, Nat.le_of_eq r.len.symm⟩
  go := fun W i x _ hi => by
    obtain ⟨v, e, _⟩ := r.get (i := i) (d := xs[i]) (List.getElem?_eq_getElem hi)
    exact ⟨vs, v, h W x, e⟩
  yld := fun W i d x H' ex s hd y => by
    obtain ⟨e, y⟩ := y
    obtain ⟨v, e1, r1⟩ := r.get hd
    rw [y vs (h W ex)] at e1
    cases e1
    exact ⟨W, e.symm, rfl, Ext.refl W, s, r1.mono s0 ex⟩
theorem it_tup {a : Addr} {xs : List D} {vs : List V} (s0 : SR K T W0) (r : VRs K W0 xs vs) (h : ∀ W, Ext0 W0 W → SqT K W.H a vs) (hl : xs.length ≤ 16777216) : ItOk K T (Itt K a) xs W0 where
  len := hl
  stop := fun W x _ => ⟨vs, h W x, Nat.le_of_eq r.len.symm⟩
  go := fun W i x _ hi => by
    obtain ⟨v, e, _⟩ := r.get (i := i) (d := xs[i]) (List.getElem?_eq_getElem hi)
    exact ⟨vs, v, h W x, e⟩
  yld := fun W i d x H' ex s hd y => by
    obtain ⟨e, y⟩ := y
    obtain ⟨v, e1, r1⟩ := r.get hd
    rw [y vs (h W ex)] at e1
    cases e1
    exact ⟨W, e.symm, rfl, Ext.refl W, s, r1.mono s0 ex⟩
theorem enumD_len : ∀ (k : Nat) (xs : List D), (enumD k xs).length = xs.length
  | _, [] => rfl
  | k, x :: xs => by
    show (enumD (k + 1) xs).length + 1 = xs.length + 1
    rw [enumD_len]
theorem enumD_get : ∀ (k : Nat) (xs : List D) (i : Nat) (d : D), (enumD k xs)[i]? = some d → ∃ x, xs[i]? = some x ∧ d = .tup [.int ((k + i : Nat) : Int), x]
  | _, [], i, d, h => by simp [enumD] at h
  | k, x :: xs, 0, d, h => by
    have e : D.tup [.int (k : Nat), x] = d := by simpa [enumD] using h
    exact ⟨x, by simp, by rw [← e]; rfl⟩
  | k, x :: xs, i + 1, d, h => by
    obtain ⟨y, e1, e2⟩ := enumD_get (k + 1) xs i d (by simpa [enumD] using h)
    exact ⟨y, by simpa using e1, by rw [e2]; congr 3; omega⟩
theorem yld_enum {W : Wd} {i : Nat} {xs : List D} {vs : List V} {d : D} {x : V} {H' : Hp} (s0 : SR K T W0) (r : VRs K W0 xs vs) (ex : Ext0 W0 W) (s : SR K T W) (hd : (enumD 0 xs)[i]? = some d)
    (y : ∃ p x', x = .ref p ∧ W.H p = none ∧ H' = upd W.H p (.tup [.int (i : Nat), x']) ∧ vs[i]? = some x') : ∃ W', W'.H = H' ∧ W'.S = W.S ∧ Ext W W' ∧ SR K T W' ∧ VR K W' d x := by
  obtain ⟨p, x', rfl, hp, rfl, hx⟩ := y
  obtain ⟨d', e1, rfl⟩ := enumD_get 0 xs i d hd
  obtain ⟨v, e2, r2⟩ := r.get e1
  have ev : v = x' := Option.some.inj (e2.symm.trans hx)
  subst ev
  refine ⟨⟨upd W.H p (.tup [.int (i : Nat), v]), W.θ, W.S, W.hid⟩, rfl, rfl, ext_new s hp, sr_new s hp, ?_⟩
  refine vr_newTup s hp (VRs.cons (d := .int ((0 + i : Nat) : Int)) ?_ (VRs.cons (r2.mono s0 ex) VRs.nil))
  show V.int (i : Nat) = V.int ((0 + i : Nat) : Int)
  rw [Nat.zero_add]
theorem it_enumL {a : Addr} {xs : List D} {vs : List V} (s0 : SR K T W0) (r : VRs K W0 xs vs) (h : ∀ W, Ext0 W0 W → SqL K W.H a vs) (hl : xs.length ≤ 16777216) : ItOk K T (Ite K a) (enumD 0 xs) W0 where
  len := by rw [enumD_len]; exact hl
  stop := fun W x _ => ⟨vs, h W x, by rw [enumD_len]; exact Nat.le_of_eq r.len.symm⟩
  go := fun W i x _ hi => by
    rw [enumD_len] at hi
    obtain ⟨v, e, _⟩ := r.get (i := i) (d := xs[i]) (List.getElem?_eq_getElem hi)
    exact ⟨vs, v, h W x, e⟩
  yld := fun W i d x H' ex s hd y => by
    obtain ⟨p, x', e1, e2, e3, e4⟩ := y
    exact yld_enum s0 r ex s hd ⟨p, x', e1, e2, e3, e4 vs (h W ex)⟩
theorem it_enumT {a : Addr} {xs : List D} {vs : List V} (s0 : SR K T W0) (r : VRs K W0 xs vs) (h : ∀ W, Ext0 W0 W → SqT K W.H a vs) (hl : xs.length ≤ 16777216) : ItOk K T (IteT K a) (enumD 0 xs) W0 where
  len := by rw [enumD_len]; exact hl
  stop := fun W x _ => ⟨vs, h W x, by rw [enumD_len]; exact r.len.symm⟩
  go := fun W i x _ hi => by
    rw [enumD_len] at hi
    obtain ⟨v, e, _⟩ := r.get (i := i) (d := xs[i]) (List.getElem?_eq_getElem hi)
    exact ⟨vs, v, h W x, e⟩
  yld := fun W i d x H' ex s hd y => by
    obtain ⟨p, x', e1, e2, e3, e4⟩ := y
    exact yld_enum s0 r ex s hd ⟨p, x', e1, e2, e3, e4 vs (h W ex)⟩
theorem rngD_len {lo st : Int} {n : Nat} : (rngD lo st n).length = n := by simp [rngD]
theorem rngD_get {lo st : Int} {n i : Nat} {d : D} (h : (rngD lo st n)[i]? = some d) : d = .int (lo + (i : Int) * st) := by
  unfold rngD at h
  rw [List.getElem?_map] at h
  by_cases hi : i < n
  · rw [List.getElem?_range hi] at h
    cases h
    rfl
  · rw [List.getElem?_eq_none (by simpa using hi)] at h
    cases h
theorem it_rng {lo : Int} {n : Nat} (hl : n ≤ 16777216) : ItOk K T (Itr lo n) (rngD lo 1 n) W0 where
  len := by rw [rngD_len]; exact hl
  stop := fun W x _ => by rw [rngD_len]; exact Nat.le_refl _
  go := fun W i x _ hi => by rw [rngD_len] at hi; exact hi
  yld := fun W i d x H' ex s hd y => by
    obtain ⟨e, y⟩ := y
    subst y
    rw [rngD_get hd]
    exact ⟨W, e.symm, rfl, Ext.refl W, s, by rw [Int.mul_one]; rfl⟩
theorem it_rngC {lo c : Int} {n : Nat} (hl : n ≤ 16777216) : ItOk K T (Itc lo c n) (rngD lo c n) W0 where
  len := by rw [rngD_len]; exact hl
  stop := fun W x _ => by rw [rngD_len]; exact Nat.le_refl _
  go := fun W i x _ hi => by rw [rngD_len] at hi; exact hi
  yld := fun W i d x H' ex s hd y => by
    obtain ⟨e, y⟩ := y
    subst y
    rw [rngD_get hd]
    exact ⟨W, e.symm, rfl, Ext.refl W, s, rfl⟩
end
section
variable {X : Cx} {T : Tb} {Δ : Den} {tg : Expr} {a b c : IE} {ea eb ec : Expr} {p pos : Pos}
theorem ri_seq (ha : PE X ea (tE X.K T Δ a)) : PI X tg ea (tI X.K T Δ (.seq a)) :=
  PI.imp (pi_seqL ha) fun σ H R ⟨W, env, e, er, sr, q⟩ => by
    subst e
    refine tE.step er sr q fun x W1 v x1 s1 e1 r1 q1 => ?_
    obtain ⟨xs, exs, q2⟩ := q1.of
    obtain ⟨l, vs, rfl, rs, h⟩ := VRs.stay s1 r1 exs
    rcases h with h | h
    · exact ⟨l, rfl, .inl ⟨vs, h W1 (Ext0.refl _), fun hz => q2.here s1 _ (it_list s1 rs h (by rw [rs.len]; exact hz))⟩⟩
    · exact ⟨l, rfl, .inr ⟨vs, h W1 (Ext0.refl _), fun hz => q2.here s1 _ (it_tup s1 rs h (by rw [rs.len]; exact hz))⟩⟩
theorem ri_enum {elts : List Expr} {kk : Nat} {tpos : Pos} (hg : Gl X "enumerate") (hm : X.mg "enumerate" = none) (ha : PE X ea (tE X.K T Δ a)) (hs : starEach [ea] X.env = [(false, eval ea X.env)]) : PI X (.Tuple elts kk tpos) (.Call (.Name "enumerate" p) [ea] [] pos) (tI X.K T Δ (.enum a)) :=
  PI.imp (pi_enumLT hg hm (pa_cons ha pa_nil hs) hs) fun σ H R ⟨W, env, e, er, sr, q⟩ => by
    subst e
    refine tE.step er sr q fun x W1 v x1 s1 e1 r1 q1 => ?_
    obtain ⟨ys, exs, q2⟩ := q1.of
    obtain ⟨xs, ex, ey⟩ := Option.map_eq_some_iff.mp exs
    subst ey
    obtain ⟨l, vs, rfl, rs, h⟩ := VRs.stay s1 r1 ex
    rcases h with h | h
    · exact ⟨l, rfl, .inl ⟨vs, h W1 (Ext0.refl _), fun hz => q2.here s1 _ (it_enumL s1 rs h (by rw [rs.len]; exact hz))⟩⟩
    · exact ⟨l, rfl, .inr ⟨vs, h W1 (Ext0.refl _), fun hz => q2.here s1 _ (it_enumT s1 rs h (by rw [rs.len]; exact hz))⟩⟩
theorem ri_rng1 (hg : Gl X "range") (hm : X.mg "range" = none) (ha : PA X [ea] (tCons (tE X.K T Δ a) tNil)) (hs : starEach [ea] X.env = [(false, eval ea X.env)]) : PI X tg (.Call (.Name "range" p) [ea] [] pos) (tI X.K T Δ (.rng1 a)) :=
  PI.imp (pi_range1 hg hm ha hs) fun σ H R ⟨W, env, e, er, sr, q⟩ => by
    subst e
    refine tE.step er sr q fun x W1 v x1 s1 e1 r1 q1 => ?_
    cases x with
    | int j =>
      cases r1
      replace q1 : After X.K T W1 (if small62 j ∧ j ≤ 16777216 then PV.R.ok (rngD 0 1 j.toNat) W1.S else .bad) _ := q1
      by_cases h : small62 j ∧ j ≤ 16777216
      · rw [if_pos h] at q1
        exact ⟨j, rfl, h.1.1, h.1.2, q1.here s1 _ (it_rng (by omega))⟩
      · rw [if_neg h] at q1
        exact q1.elim
    | _ => exact q1.elim
theorem ri_rng2 (hg : Gl X "range") (hm : X.mg "range" = none) (ha : PA X [ea, eb] (tCons (tE X.K T Δ a) (tCons (tE X.K T Δ b) tNil))) (hs : starEach [ea, eb] X.env = [(false, eval ea X.env), (false, eval eb X.env)]) (hs2 : starEach [eb] X.env = [(false, eval eb X.env)]) :
    PI X tg (.Call (.Name "range" p) [ea, eb] [] pos) (tI X.K T Δ (.rng2 a b)) :=
  PI.imp (pi_range2 hg hm ha hs hs2) fun σ H R ⟨W, env, e, er, sr, q⟩ => by
    subst e
    refine tE.step er sr q fun x W1 v x1 s1 e1 r1 q1 => ?_
    refine tE.step e1 s1 q1 fun y W2 u x2 s2 e2 r2 q2 => ?_
    cases x with
    | int i =>
      cases y with
      | int j =>
        cases r1
        cases r2
        replace q2 : After X.K T W2 (if small62 i ∧ small62 j ∧ j - i ≤ 16777216 then PV.R.ok (rngD i 1 (j - i).toNat) W2.S else .bad) _ := q2
        by_cases h : small62 i ∧ small62 j ∧ j - i ≤ 16777216
        · rw [if_pos h] at q2
          exact ⟨i, j, rfl, ⟨h.1.1, h.1.2, h.2.1.1, h.2.1.2⟩, q2.here s2 _ (it_rng (by omega))⟩
        · rw [if_neg h] at q2
          exact q2.elim
      | _ => exact q2.elim
    | _ => exact q2.elim
theorem ri_rng3 (hg : Gl X "range") (hm : X.mg "range" = none) (ha : PA X [ea, eb, ec] (tCons (tE X.K T Δ a) (tCons (tE X.K T Δ b) (tCons (tE X.K T Δ c) tNil))))
    (hs : starEach [ea, eb, ec] X.env = (false, eval ea X.env) :: starEach [eb, ec] X.env) (hpl : (backTo pos (starEach [eb, ec] X.env)).any (·.1) = false) :
    PI X tg (.Call (.Name "range" p) [ea, eb, ec] [] pos) (tI X.K T Δ (.rng3 a b c)) :=
  PI.imp (pi_range3 hg hm ha hs hpl) fun σ H R ⟨W, env, e, er, sr, q⟩ => by
    subst e
    refine tE.step er sr q fun x W1 v x1 s1 e1 r1 q1 => ?_
    refine tE.step e1 s1 q1 fun y W2 u x2 s2 e2 r2 q2 => ?_
    refine tE.step e2 s2 q2 fun z W3 w x3 s3 e3 r3 q3 => ?_
    cases x with
    | int i =>
      cases y with
      | int j =>
        cases z with
        | int k =>
          cases r1
          cases r2
          cases r3
          replace q3 : After X.K T W3 (if k = -1 ∧ -(2 ^ 61) ≤ i ∧ i < 2 ^ 61 ∧ -(2 ^ 61) ≤ j ∧ j < 2 ^ 61 ∧ i - j ≤ 16777216 then PV.R.ok (rngD i (-1) (i - j).toNat) W3.S else .bad) _ := q3
          by_cases h : k = -1 ∧ -(2 ^ 61) ≤ i ∧ i < 2 ^ 61 ∧ -(2 ^ 61) ≤ j ∧ j < 2 ^ 61 ∧ i - j ≤ 16777216
          · rw [if_pos h] at q3
            obtain ⟨rfl, h1, h2, h3, h4, h5⟩ := h
            exact ⟨i, j, -1, (i - j).toNat, rfl, RgC.neg (by omega) (by omega) (by omega) (by omega), q3.here s3 _ (it_rngC (by omega))⟩
          · rw [if_neg h] at q3
            exact q3.elim
        | _ => exact q3.elim
      | _ => exact q3.elim
    | _ => exact q3.elim
end

/-! ### targets -/
def gNs : List Nat → TGs
  | [] => gNil
  | i :: is => gCons (gName i) (gNs is)
def gR (K : PySem.W.Frag) : Tg → TG
  | .nm i => gName i
  | .tp is => gTup K is.length (gNs is)
def Tg.ixs : Tg → List Nat
  | .nm i => [i]
  | .tp is => is
theorem wipe_set {σ : St} {i : Nat} {x : Option V} : ∀ {vs : List Nat}, i ∈ vs → wipe (σ.set i x) vs = wipe σ vs
  | [], h => by cases h
  | v :: vs, h => by
    show (wipe (σ.set i x) vs).set v none = (wipe σ vs).set v none
    by_cases hi : i ∈ vs
    · rw [wipe_set hi]
    · have e : i = v := by
        rcases List.mem_cons.mp h with h | h
        · exact h
        · exact absurd h hi
      subst e
      have key : ∀ (vs : List Nat), i ∉ vs → wipe (σ.set i x) vs = (wipe σ vs).set i x := by
        intro vs
        induction vs with
        | nil => intro _; rfl
        | cons u us ih =>
          intro hn
          have h1 : u ≠ i := fun e => hn (by rw [e]; exact List.mem_cons_self)
          have h2 : i ∉ us := fun m => hn (List.mem_cons_of_mem _ m)
          show (wipe (σ.set i x) us).set u none = ((wipe σ us).set u none).set i x
          rw [ih h2, List.set_comm _ _ (Ne.symm h1)]
      rw [key vs hi, List.set_set]
section
variable {K : PySem.W.Frag} {T : Tb} {W : Wd}
theorem gNs_ok : ∀ {is : List Nat} {ds : List D} {vs : List V} {env : En} {σ : St} {H : Hp} {Q : St → Hp → Prop}, is.length = ds.length → VRs K W ds vs → ER K W env σ →
    (∀ σ2, ER K W (asgs is ds env) σ2 → (∀ own, (∀ i ∈ is, i ∈ own) → wipe σ2 own = wipe σ own) → Q σ2 H) → gNs is vs σ H Q
  | [], [], vs, env, σ, H, Q, _, r, er, h => by
    cases (show vs = [] from r)
    exact ⟨rfl, h σ er fun _ _ => rfl⟩
  | i :: is, d :: ds, vs, env, σ, H, Q, hl, r, er, h => by
    obtain ⟨x, r', rfl, h1, h2⟩ := r
    refine ⟨x, r', rfl, ?_⟩
    refine gNs_ok (env := env.set i (some d)) (by simpa using hl) h2 (er.set i h1) fun σ2 e2 hw => h σ2 e2 fun own ho => ?_
    rw [hw own fun j hj => ho j (List.mem_cons_of_mem _ hj), wipe_set (ho i List.mem_cons_self)]
  | [], d :: ds, _, _, _, _, _, hl, _, _, _ => by simp at hl
  | i :: is, [], _, _, _, _, _, hl, _, _, _ => by simp at hl
theorem gR_ok {tg : Tg} {d : D} {v : V} {env env1 : En} {σ : St} {Q : St → Hp → Prop} (r : VR K W d v) (er : ER K W env σ) (e : asgT tg d env = some env1)
    (h : ∀ σ2, ER K W env1 σ2 → (∀ own, (∀ i ∈ tg.ixs, i ∈ own) → wipe σ2 own = wipe σ own) → Q σ2 W.H) : gR K tg v σ W.H Q := by
  cases tg with
  | nm i =>
    cases (show some (env.set i (some d)) = some env1 from e)
    exact h _ (er.set i r) fun own ho => wipe_set (ho i (by simp [Tg.ixs]))
  | tp is =>
    cases d with
    | tup ds =>
      replace e : (if is.length = ds.length then some (asgs is ds env) else none) = some env1 := e
      by_cases hl : is.length = ds.length
      · rw [if_pos hl] at e
        cases e
        obtain ⟨a, vs, rfl, h1, h2⟩ := r
        exact ⟨a, vs, rfl, .inl (.inl h1), by rw [← h2.len, hl], gNs_ok hl h2 er h⟩
      · rw [if_neg hl] at e
        cases e
    | _ => cases (show (none : Option En) = some env1 from e)
theorem ER.wipe {env : En} {σ : St} (h : ER K W env σ) : ∀ vs : List Nat, ER K W (wipeD env vs) (L2.wipe σ vs)
  | [] => h
  | v :: vs => by
    have ih := h.wipe vs
    refine ⟨by show ((wipeD env vs).set v none).length = ((L2.wipe σ vs).set v none).length; rw [List.length_set, List.length_set]; exact ih.len, fun i d e => ?_⟩
    replace e : ((wipeD env vs).set v none)[i]? = some (some d) := e
    show ∃ u, ((L2.wipe σ vs).set v none)[i]? = some (some u) ∧ _
    by_cases hv : v = i
    · subst hv
      by_cases hl : v < (wipeD env vs).length
      · rw [List.getElem?_set_self hl] at e; cases e
      · rw [List.getElem?_eq_none (by simpa using hl)] at e; cases e
    · rw [List.getElem?_set_ne hv] at e ⊢
      exact ih.get i d e
end
end L2.PV

/-! PV, part 10: comprehensions and statements, read by the evaluator. -/
namespace L2.PV
open PySem PySem.Spec PyProof.Rows LamX

/-! ### comprehensions -/
def tIfs (K : PySem.W.Frag) (T : Tb) (Δ : Den) (as : IEs) : TT := fun σ H Q => ∃ (W : Wd) (env : En), W.H = H ∧ ER K W env σ ∧ SR K T W ∧ After K T W (evIf Δ as env W.S) (fun k W' => Q k W'.H)
theorem PTs.imp {X : Cx} {es : List Expr} {t t' : TT} (h : PTs X es t) (f : ∀ σ H Q, t' σ H Q → t σ H Q) : PTs X es t' := ⟨fun pins s σ H Q I q => h.run pins s σ H Q I (f σ H Q q)⟩
theorem rs_ifs0 {X : Cx} {T : Tb} {Δ : Den} : PTs X [] (tIfs X.K T Δ .nil) := PTs.imp pts_nil fun σ H Q ⟨W, env, e, er, sr, q⟩ => by
  subst e
  exact After.here sr (show After X.K T W (.ok true W.S) _ from q)
theorem rs_ifs1 {X : Cx} {T : Tb} {Δ : Den} {a : IE} {ea : Expr} {as : IEs} (h : PT X ea (tT X.K T Δ a)) : PTs X [ea] (tIfs X.K T Δ (.cons a as)) := PTs.imp (pts_one h) fun σ H Q h => h
section
variable {K : PySem.W.Frag} {T : Tb}
/-- a member of the hidden ones, put first -/
def front (W : Wd) (p : Addr) : Wd := ⟨W.H, W.θ, W.S, p :: W.hid.filter (· ≠ p)⟩
theorem front_mem {W : Wd} {p : Addr} (hp : p ∈ W.hid) (a : Addr) : a ∈ (front W p).hid ↔ a ∈ W.hid := by
  show a ∈ p :: W.hid.filter (· ≠ p) ↔ _
  rw [List.mem_cons, List.mem_filter]
  refine ⟨fun h => h.elim (fun e => e ▸ hp) fun h => h.1, fun h => ?_⟩
  by_cases e : a = p
  · exact .inl e
  · exact .inr ⟨h, by simpa using e⟩
theorem front_live {W : Wd} {p : Addr} (hp : p ∈ W.hid) {a : Addr} : Live (front W p) a ↔ Live W a := or_congr Iff.rfl (front_mem hp a)
theorem front_ext {W : Wd} {p : Addr} (hp : p ∈ W.hid) : Ext W (front W p) := ⟨⟨fun _ _ h => h, fun a o h l _ => ⟨h, fun q => l ((front_live hp).mp q)⟩⟩, fun a h => ⟨(front_mem hp a).mpr h, rfl⟩⟩
theorem front_sr {W : Wd} {p : Addr} (hp : p ∈ W.hid) (s : SR K T W) : SR K T (front W p) :=
  ⟨s.len, s.nd, fun n c a h1 h2 => CR.mono (W' := front W p) s (front_ext hp).toExt0 (s.cell n c a h1 h2), s.res, s.tabs, fun a h => s.hid a ((front_mem hp a).mp h)⟩
theorem lcL_ok {f : D → Sto → R (Option D)} : ∀ {xs : List D} {S : Sto}, (∃ ys S', lcL f xs S = .ok ys S') ∨ lcL f xs S = .bad
  | [], S => .inl ⟨[], S, rfl⟩
  | x :: xs, S => by
    show (∃ ys S', (match f x S with
    | .ok none S1 => lcL f xs S1
    | .ok (some y) S1 => (match lcL f xs S1 with
      | .ok ys S2 => .ok (y :: ys) S2
      | _ => .bad)
    | _ => .bad) = PV.R.ok ys S') ∨ (match f x S with
    | .ok none S1 => lcL f xs S1
    | .ok (some y) S1 => (match lcL f xs S1 with
      | .ok ys S2 => .ok (y :: ys) S2
      | _ => .bad)
    | _ => .bad) = PV.R.bad
    cases f x S with
    | ok o S1 =>
      cases o with
      | none => exact lcL_ok
      | some y =>
        rcases @lcL_ok f xs S1 with ⟨ys, S2, e⟩ | e
        · exact .inl ⟨y :: ys, S2, by simp only [e]⟩
        · exact .inr (by simp only [e])
    | ex _ _ => exact .inr rfl
    | bad => exact .inr rfl
theorem lcL_cons {f : D → Sto → R (Option D)} {x : D} {xs ys : List D} {S S' : Sto} (h : lcL f (x :: xs) S = .ok ys S') :
    (∃ S1, f x S = .ok none S1 ∧ lcL f xs S1 = .ok ys S') ∨ ∃ y zs S1, f x S = .ok (some y) S1 ∧ lcL f xs S1 = .ok zs S' ∧ ys = y :: zs := by
  replace h : (match f x S with
    | .ok none S1 => lcL f xs S1
    | .ok (some y) S1 => (match lcL f xs S1 with
      | .ok ys S2 => .ok (y :: ys) S2
      | _ => .bad)
    | _ => .bad) = PV.R.ok ys S' := h
  cases hf : f x S with
  | ok o S1 =>
    rw [hf] at h
    cases o with
    | none => exact .inl ⟨S1, rfl, h⟩
    | some y =>
      replace h : (match lcL f xs S1 with
      | .ok ys S2 => .ok (y :: ys) S2
      | _ => .bad) = PV.R.ok ys S' := h
      cases hg : lcL f xs S1 with
      | ok zs S2 =>
        rw [hg] at h
        cases h
        exact .inr ⟨y, zs, S1, rfl, hg, rfl⟩
      | ex _ _ => rw [hg] at h; cases h
      | bad => rw [hg] at h; cases h
  | ex _ _ => rw [hf] at h; cases h
  | bad => rw [hf] at h; cases h
theorem lc_in {Δ : Den} {tr : Bool} {own : List (Str × Nat)} {tg : Tg} {it : II} {ifs : IEs} {elt : IE} {σ : St} {H : Hp} {Q : VK} (htg : ∀ i ∈ tg.ixs, i ∈ own.map (·.2))
    (h : tE K T Δ (.lc tr own tg it ifs elt) σ H Q) : tLc (tI K T Δ it) (gR K tg) (tIfs K T.mute Δ ifs) (tE K T.mute Δ elt) (own.map (·.2)) σ H Q := by
  obtain ⟨W, env, e, er, sr, q⟩ := h
  subst e
  generalize hf : (fun x S2 => (match asgT tg x (wipeD env (own.map (·.2))) with
      | some e1 => (evIf Δ ifs e1 S2).bind fun k S3 => (match k with
        | true => (evE Δ elt e1 S3).bind fun y S4 => .ok (some y) S4
        | false => .ok none S3)
      | none => PV.R.bad)) = f
  replace q : After K T W ((evI Δ it env W.S).bind fun xs S1 => (lcL f xs S1).bind fun ys S5 => newL tr ys S5) (Gv K Q) := by subst hf; exact q
  refine ⟨W, env, rfl, er, sr, (After.bind q).mono fun xs W1 _ x1 s1 q1 J ji D hD => ?_⟩
  have e5 : ∃ ys S5, lcL f xs W1.S = .ok ys S5 := by
    rcases @lcL_ok f xs W1.S with z | z
    · exact z
    · rw [z] at q1; exact q1.elim
  obtain ⟨ys, S5, e5⟩ := e5
  rw [e5] at q1
  replace q1 : After K T W1 (newL tr ys S5) (Gv K Q) := q1
  have hDh : D ∉ W1.hid := fun z => s1.hidNe hD z rfl
  have er1 := er.mono sr x1.toExt0
  have hx0 := ext_hide (vs := []) s1 hD
  refine ⟨fun i m H => m = xs.length - i ∧ i ≤ xs.length ∧ ∃ (W' : Wd) (ds : List PV.D) (vs : List V) (zs : List PV.D), W'.H = H ∧ SR K T W' ∧ D ∈ W'.hid ∧ W'.H D = some (.lst vs) ∧ VRs K W' ds vs ∧ Ext W1 W' ∧ lcL f (xs.drop i) W'.S = .ok zs S5 ∧ ds ++ zs = ys ∧ ds.length ≤ i,
    ⟨_, rfl, Nat.zero_le _, ⟨upd W1.H D (.lst []), W1.θ, W1.S, D :: W1.hid⟩, [], [], ys, rfl, sr_hide s1 hD, List.mem_cons_self, upd_same, rfl, hx0, by simpa using e5, rfl, Nat.le_refl _⟩, ?_⟩
  rintro i m H ⟨rfl, hi, W', ds, vs, zs, rfl, s', hm, hv, rv, x', el, ez, hle⟩
  by_cases hlt : i < xs.length
  · refine .inr ⟨ji.go W' i x'.toExt0 s' hlt, fun H' => ∃ (W'' : Wd) (ds : List PV.D) (vs : List V) (zs : List PV.D), W''.H = H' ∧ SR K T W'' ∧ D ∈ W''.hid ∧ W''.H D = some (.lst vs) ∧ VRs K W'' ds vs ∧ Ext W1 W'' ∧ lcL f (xs.drop (i + 1)) W''.S = .ok zs S5 ∧ ds ++ zs = ys ∧ ds.length ≤ i + 1,
      fun H' n => ⟨xs.length - (i + 1), by omega, rfl, hlt, n⟩, fun x H' y => ?_⟩
    obtain ⟨W2, rfl, eS, x2, s2, rx⟩ := ji.yld W' i xs[i] x H' x'.toExt0 s' (List.getElem?_eq_getElem hlt) y
    rw [List.drop_eq_getElem_cons hlt, ← eS] at el
    have er2 : ER K W2 env σ := er1.mono s1 (x'.trans x2).toExt0
    -- the item's targets
    have hasg : ∃ e1, asgT tg xs[i] (wipeD env (own.map (·.2))) = some e1 := by
      cases hq : asgT tg xs[i] (wipeD env (own.map (·.2))) with
      | some e1 => exact ⟨e1, rfl⟩
      | none =>
        have : f xs[i] W2.S = .bad := by subst hf; simp only [hq]
        rcases lcL_cons el with ⟨S1, z, _⟩ | ⟨_, _, S1, z, _, _⟩ <;> (rw [this] at z; cases z)
    obtain ⟨env1, he1⟩ := hasg
    have hfx : f xs[i] W2.S = (evIf Δ ifs env1 W2.S).bind fun k S3 => (match k with
        | true => (evE Δ elt env1 S3).bind fun y S4 => .ok (some y) S4
        | false => .ok none S3) := by subst hf; simp only [he1]
    have hm2 := x2.hid D hm
    have xx := x'.trans x2
    refine gR_ok rx (er2.wipe _) he1 fun σ2 e2 hw => ⟨?_, ?_⟩
    · rw [hw _ htg]
      have : ∀ vs : List Nat, L2.wipe (L2.wipe σ vs) vs = L2.wipe σ vs := by
        intro vs
        have key : ∀ (us vs : List Nat), (∀ u ∈ us, u ∈ vs) → L2.wipe (L2.wipe σ us) vs = L2.wipe σ vs := by
          intro us
          induction us with
          | nil => intro vs _; rfl
          | cons u us ih =>
            intro vs hu
            show L2.wipe ((L2.wipe σ us).set u none) vs = _
            rw [wipe_set (hu u List.mem_cons_self)]
            exact ih vs fun w hw => hu w (List.mem_cons_of_mem _ hw)
        exact key vs vs fun _ h => h
      exact this _
    · -- the tests
      have stepE : ∃ k S3, evIf Δ ifs env1 W2.S = .ok k S3 := by
        rcases lcL_cons el with ⟨S1, z, _⟩ | ⟨_, _, S1, z, _, _⟩ <;>
        · rw [hfx] at z
          obtain ⟨k, S3, z1, _⟩ := R.bind_ok z
          exact ⟨k, S3, z1⟩
      obtain ⟨k, S3, ek⟩ := stepE
      refine ⟨W2, env1, rfl, e2, s2.mute, After.ofOk ek fun W3 eS3 x3 s3 => ?_⟩
      have s3 := s3.unmute
      have hm3 := x3.hid D hm2.1
      rw [ek] at hfx
      cases k with
      | false =>
        refine iteF ?_
        have hfx' : f xs[i] W2.S = .ok none S3 := hfx
        rcases lcL_cons el with ⟨S1, z, z2⟩ | ⟨_, _, S1, z, _, _⟩
        · rw [hfx'] at z
          cases z
          exact ⟨W3, ds, vs, zs, rfl, s3, hm3.1, by rw [hm3.2, hm2.2]; exact hv, (rv.mono s' x2.toExt0).mono s2 x3.toExt0, xx.trans x3, by rw [eS3]; exact z2, ez, by omega⟩
        · rw [hfx'] at z; cases z
      | true =>
        refine iteT ?_
        have hfx' : f xs[i] W2.S = (evE Δ elt env1 S3).bind fun y S4 => .ok (some y) S4 := hfx
        have e3 : ER K W3 env1 σ2 := e2.mono s2 x3.toExt0
        rcases lcL_cons el with ⟨S1, z, _⟩ | ⟨y, zs', S1, z, z2, z3⟩
        · rw [hfx'] at z
          obtain ⟨y, S4, _, z4⟩ := R.bind_ok z
          cases z4
        · rw [hfx'] at z
          obtain ⟨y', S4, z3', z4⟩ := R.bind_ok z
          cases z4
          refine ⟨W3, env1, rfl, e3, s3.mute, After.ofOk (by rw [eS3]; exact z3') fun W4 eS4 x4 s4 v rvv => ?_⟩
          have s4 := s4.unmute
          have hm4 := x4.hid D hm3.1
          have hv4 : W4.H D = some (.lst vs) := by rw [hm4.2, hm3.2, hm2.2]; exact hv
          have hx5 := ext_hset (vs := vs ++ [v]) hm4.1
          have rv4 : VRs K W4 ds vs := ((rv.mono s' x2.toExt0).mono s2 x3.toExt0).mono s3 x4.toExt0
          refine ⟨vs, hv4, ?_, ⟨upd W4.H D (.lst (vs ++ [v])), W4.θ, W4.S, W4.hid⟩, ds ++ [y], vs ++ [v], zs', rfl, sr_hset s4 hm4.1, hm4.1, upd_same, (rv4.mono s4 hx5).append (VRs.cons (VR.mono s4 hx5 rvv) VRs.nil), ?_, by rw [← eS4] at z2; exact z2, by rw [← ez, z3]; simp, by simp; omega⟩
          · rw [← rv.len, sizeLine_eq]
            have := ji.len
            omega
          · refine ⟨((xx.trans x3).trans x4).toExt0.trans hx5, fun a ha => ?_⟩
            have h4 := ((xx.trans x3).trans x4).hid a ha
            refine ⟨h4.1, ?_⟩
            show upd W4.H D _ a = _
            rw [upd_ne (fun e : a = D => hDh (by rw [← e]; exact ha))]
            exact h4.2
  · have ei : i = xs.length := by omega
    subst ei
    refine .inl ⟨ji.stop W' x'.toExt0 s', ?_⟩
    rw [List.drop_length] at el
    cases (show PV.R.ok [] W'.S = .ok zs S5 from el)
    rw [List.append_nil] at ez
    subst ez
    have sf := front_sr hm s'
    have rvf : VRs K (front W' D) ds vs := rv.mono s' (front_ext hm).toExt0
    have hn : D ∉ W'.hid.filter (· ≠ D) := fun z => by simp at z
    have hidk : ∀ a ∈ W1.hid, a ∈ W'.hid.filter (· ≠ D) := fun a ha => List.mem_filter.mpr ⟨(x'.hid a ha).1, by simpa using fun e : a = D => hDh (e ▸ ha)⟩
    cases tr with
    | false =>
      refine q1 ⟨W'.H, W'.θ, W'.S, W'.hid.filter (· ≠ D)⟩ rfl ⟨(x'.toExt0.trans (front_ext hm).toExt0).trans (ext_bare (W := front W' D) rfl), fun a ha => ⟨hidk a ha, (x'.hid a ha).2⟩⟩ (sr_bare (W := front W' D) sf rfl) _ (vr_bare (W := front W' D) sf rfl hn hv rvf)
    | true =>
      refine q1 ⟨W'.H, W'.θ ++ [D], W'.S ++ [Cell.lst ds], W'.hid.filter (· ≠ D)⟩ rfl ⟨(x'.toExt0.trans (front_ext hm).toExt0).trans (ext_hstore (W := front W' D) sf rfl), fun a ha => ⟨hidk a ha, (x'.hid a ha).2⟩⟩ (sr_hstore (W := front W' D) sf rfl hn hv rvf) _ ?_
      exact vr_newC (W := front W' D) sf
end
end L2.PV

/-! PV, part 11: statements, read by the evaluator. -/
namespace L2.PV
open PySem PySem.Spec PyProof.Rows LamX

def flW (K : PySem.W.Frag) (D : Ends) (o : Fl × En) (W' : Wd) : Prop := ∀ σ', ER K W' o.2 σ' → match o.1 with
  | .nx => D.nx σ' W'.H
  | .ret d => ∀ v, VR K W' d v → D.rt v W'.H
  | .brk => D.bk σ' W'.H
  | .cnt => D.ct σ' W'.H
def tS (K : PySem.W.Frag) (T : Tb) (Δ : Den) (s : IS) : TS := fun D σ H => ∃ (W : Wd) (env : En), W.H = H ∧ ER K W env σ ∧ SR K T W ∧ After K T W (exS Δ s env W.S) (flW K D)
def tSs (K : PySem.W.Frag) (T : Tb) (Δ : Den) (s : ISs) : TS := fun D σ H => ∃ (W : Wd) (env : En), W.H = H ∧ ER K W env σ ∧ SR K T W ∧ After K T W (exSs Δ s env W.S) (flW K D)
theorem PS.imp {X : Cx} {s : Stmt} {t t' : TS} (h : PS X s t) (f : ∀ D σ H, t' D σ H → t D σ H) : PS X s t' := ⟨fun pins s σ H D I q => h.run pins s σ H D I (f D σ H q)⟩
theorem PSs.imp {X : Cx} {s : List Stmt} {t t' : TS} (h : PSs X s t) (f : ∀ D σ H, t' D σ H → t D σ H) : PSs X s t' := ⟨fun pins s σ H D I q => h.run pins s σ H D I (f D σ H q)⟩
section
variable {X : Cx} {T : Tb} {Δ : Den} {a b c o i : IE} {ea eb ec eo ei : Expr} {pos : Pos} {st : Stmt} {rest body els : List Stmt}
theorem rs_nil : PSs X [] (tSs X.K T Δ .nil) := PSs.imp pss_nil fun D σ H ⟨W, env, e, er, sr, q⟩ => by
  subst e
  exact After.here sr (show After X.K T W (PV.R.ok (Fl.nx, env) W.S) (flW X.K D) from q) σ er
theorem rs_cons {s : IS} {ss : ISs} (h1 : PS X st (tS X.K T Δ s)) (h2 : PSs X rest (tSs X.K T Δ ss)) : PSs X (st :: rest) (tSs X.K T Δ (.cons s ss)) := PSs.imp (pss_cons h1 h2) fun D σ H ⟨W, env, e, er, sr, q⟩ => by
  subst e
  refine ⟨W, env, rfl, er, sr, (After.bind q).mono fun fo W1 _ x1 s1 q1 σ' er' => ?_⟩
  obtain ⟨fl, env'⟩ := fo
  cases fl with
  | nx => exact ⟨W1, env', rfl, er', s1, q1⟩
  | ret d => exact fun v rv => After.here s1 (show After X.K T W1 (PV.R.ok (Fl.ret d, env') W1.S) (flW X.K D) from q1) σ' er' v rv
  | brk => exact After.here s1 (show After X.K T W1 (PV.R.ok (Fl.brk, env') W1.S) (flW X.K D) from q1) σ' er'
  | cnt => exact After.here s1 (show After X.K T W1 (PV.R.ok (Fl.cnt, env') W1.S) (flW X.K D) from q1) σ' er'
theorem rs_pass : PS X (.Pass pos) (tS X.K T Δ .pass) := PS.imp ps_pass fun D σ H ⟨W, env, e, er, sr, q⟩ => by
  subst e
  exact After.here sr (show After X.K T W (PV.R.ok (Fl.nx, env) W.S) (flW X.K D) from q) σ er
theorem rs_brk : PS X (.Break pos) (tS X.K T Δ .brk) := PS.imp ps_break fun D σ H ⟨W, env, e, er, sr, q⟩ => by
  subst e
  exact After.here sr (show After X.K T W (PV.R.ok (Fl.brk, env) W.S) (flW X.K D) from q) σ er
theorem rs_cnt : PS X (.Continue pos) (tS X.K T Δ .cnt) := PS.imp ps_continue fun D σ H ⟨W, env, e, er, sr, q⟩ => by
  subst e
  exact After.here sr (show After X.K T W (PV.R.ok (Fl.cnt, env) W.S) (flW X.K D) from q) σ er
theorem rs_doc {x : Str} {j : Nat} {pos pos' : Pos} : PS X (.Expr (.Constant (.str x) j pos) pos') (tS X.K T Δ .pass) := PS.imp ps_doc fun D σ H ⟨W, env, e, er, sr, q⟩ => by
  subst e
  exact After.here sr (show After X.K T W (PV.R.ok (Fl.nx, env) W.S) (flW X.K D) from q) σ er
theorem rs_never : PS X st (tS X.K T Δ .never) := PS.imp ps_never fun D σ H ⟨W, env, e, er, sr, q⟩ => (q : False)
theorem rs_ex (ha : PE X ea (tE X.K T Δ a)) (hs : swapsWith ea none pos.line X.env = pure false) : PS X (.Expr ea pos) (tS X.K T Δ (.ex a)) := PS.imp (ps_expr ha hs) fun D σ H ⟨W, env, e, er, sr, q⟩ => by
  subst e
  exact tE.step er sr q fun x W1 v x1 s1 e1 r1 q1 => After.here s1 (show After X.K T W1 (PV.R.ok (Fl.nx, env) W1.S) (flW X.K D) from q1) σ e1
theorem rs_ret (ha : PE X ea (tE X.K T Δ a)) : PS X (.Return (some ea) pos) (tS X.K T Δ (.ret a)) := PS.imp (ps_ret ha) fun D σ H ⟨W, env, e, er, sr, q⟩ => by
  subst e
  exact tE.step er sr q fun x W1 v x1 s1 e1 r1 q1 => After.here s1 (show After X.K T W1 (PV.R.ok (Fl.ret x, env) W1.S) (flW X.K D) from q1) σ e1 v r1
theorem rs_retN : PS X (.Return none pos) (tS X.K T Δ .retN) := PS.imp ps_retN fun D σ H ⟨W, env, e, er, sr, q⟩ => by
  subst e
  exact After.here sr (show After X.K T W (PV.R.ok (Fl.ret .non, env) W.S) (flW X.K D) from q) σ er .non rfl
/-- a store in a name, whatever the value's reading -/
theorem set_in {te : TE} {n : Nat} {D : Ends} {σ : St} {H : Hp} (ht : ∀ σ H Q, tE X.K T Δ a σ H Q → te σ H Q) (h : tS X.K T Δ (.set n a) D σ H) : tAsg te (gName n) D σ H := by
  obtain ⟨W, env, e, er, sr, q⟩ := h
  subst e
  refine ht _ _ _ (tE.step er sr q fun x W1 v x1 s1 e1 r1 q1 => ?_)
  exact After.here s1 (show After X.K T W1 (PV.R.ok (Fl.nx, env.set n (some x)) W1.S) (flW X.K D) from q1) _ (e1.set n r1)
theorem rs_set {n : Nat} {x : Str} {pos' : Pos} (hN : X.N.Nodup) (hi : X.N[n]? = some x) (hx : Loc X.env.scope x) (ha : PE X ea (tE X.K T Δ a)) (hs : swapsWith ea (some (.Name x pos')) pos.line X.env = pure false) (hf : X.fn x = true ∨ X.env.scope.names.lookup x = some .local) :
    PS X (.Assign [.Name x pos'] ea pos) (tS X.K T Δ (.set n a)) := PS.imp (ps_set hN hi hx ha hs hf) fun D σ H h => set_in (fun _ _ _ h => h) h
theorem rs_par {n m : Nat} {x y : Str} {px py pt : Pos} {kt k2 pt2} (hc : X.calm = true) (hN : X.N.Nodup) (hi : X.N[n]? = some x) (hj : X.N[m]? = some y) (hij : n ≠ m)
    (hx : X.env.scope.names.lookup x = some .local) (hy : X.env.scope.names.lookup y = some .local) (ha : PA X [ea, eb] (tCons (tE X.K T Δ a) (tCons (tE X.K T Δ b) tNil)))
    (hw : swappedStores [.Tuple [.Name x px, .Name y py] kt pt] (.Tuple [ea, eb] k2 pt2) X.env = pure (some [x, y])) :
    PS X (.Assign [.Tuple [.Name x px, .Name y py] kt pt] (.Tuple [ea, eb] k2 pt2) pos) (tS X.K T Δ (.par n m a b)) := PS.imp (ps_par hc hN hi hj hij hx hy ha hw) fun D σ H ⟨W, env, e, er, sr, q⟩ => by
  subst e
  refine tE.step er sr q fun x W1 v x1 s1 e1 r1 q1 => ?_
  refine tE.step e1 s1 q1 fun y W2 u x2 s2 e2 r2 q2 => ?_
  exact ⟨v, u, rfl, After.here s2 (show After X.K T W2 (PV.R.ok (Fl.nx, (env.set n (some x)).set m (some y)) W2.S) (flW X.K D) from q2) _ ((e2.set n (r1.mono s1 x2.toExt0)).set m r2)⟩
theorem rs_setT {is : List Nat} {tg : Expr} (ha : PE X ea (tE X.K T Δ a)) (hg : PG X tg (gR X.K (.tp is))) (hs : swapsWithSole [tg] ea pos.line X.env = pure false) (hw : swappedStores [tg] ea X.env = pure none)
    (h1 : (assignEach [tg] X.env).map (·.2) = [assign tg X.env]) : PS X (.Assign [tg] ea pos) (tS X.K T Δ (.setT is a)) := PS.imp (ps_asg ha hg hs hw h1) fun D σ H ⟨W, env, e, er, sr, q⟩ => by
  subst e
  refine tE.step er sr q fun x W1 v x1 s1 e1 r1 q1 => ?_
  cases he : asgT (.tp is) x env with
  | none => rw [he] at q1; exact q1.elim
  | some env1 =>
    rw [he] at q1
    exact gR_ok r1 e1 he fun σ2 e2 _ => After.here s1 (show After X.K T W1 (PV.R.ok (Fl.nx, env1) W1.S) (flW X.K D) from q1) σ2 e2
/-! o[i] = v -/
theorem dPut_ok {K : PySem.W.Frag} {W : Wd} {k : Key} {d : D} {v : V} (r : VR K W d v) {kvs : List (Key × D)} {vs : List (Key × V)} (h : Paired (fun (p : Key × D) (q : Key × V) => p.1 = q.1 ∧ VR K W p.2 q.2) kvs vs) :
    Paired (fun (p : Key × D) (q : Key × V) => p.1 = q.1 ∧ VR K W p.2 q.2) (dPut kvs k d) (putK vs k v) := by
  have hany : ∀ {kvs : List (Key × D)} {vs : List (Key × V)}, Paired (fun (p : Key × D) (q : Key × V) => p.1 = q.1 ∧ VR K W p.2 q.2) kvs vs → kvs.any (fun kv => decide (kv.1 = k)) = vs.any (fun kv => decide (kv.1 = k)) := by
    intro kvs vs h
    induction h with
    | nil => rfl
    | cons r _ ih => rw [List.any_cons, List.any_cons, ih, r.1]
  have hmap : ∀ {kvs : List (Key × D)} {vs : List (Key × V)}, Paired (fun (p : Key × D) (q : Key × V) => p.1 = q.1 ∧ VR K W p.2 q.2) kvs vs →
      Paired (fun (p : Key × D) (q : Key × V) => p.1 = q.1 ∧ VR K W p.2 q.2) (kvs.map fun kv => if kv.1 = k then (kv.1, d) else kv) (vs.map fun kv => if kv.1 = k then (kv.1, v) else kv) := by
    intro kvs vs h
    induction h with
    | nil => exact .nil
    | @cons p q _ _ r' _ ih =>
      refine .cons ?_ ih
      show (if p.1 = k then (p.1, d) else p).1 = (if q.1 = k then (q.1, v) else q).1 ∧ VR K W (if p.1 = k then (p.1, d) else p).2 (if q.1 = k then (q.1, v) else q).2
      by_cases hk : p.1 = k
      · rw [if_pos hk, if_pos (r'.1 ▸ hk)]; exact ⟨r'.1, r⟩
      · rw [if_neg hk, if_neg (fun z => hk (r'.1.trans z))]; exact r'
  have happ : ∀ {kvs : List (Key × D)} {vs : List (Key × V)}, Paired (fun (p : Key × D) (q : Key × V) => p.1 = q.1 ∧ VR K W p.2 q.2) kvs vs →
      Paired (fun (p : Key × D) (q : Key × V) => p.1 = q.1 ∧ VR K W p.2 q.2) (kvs ++ [(k, d)]) (vs ++ [(k, v)]) := by
    intro kvs vs h
    induction h with
    | nil => exact .cons ⟨rfl, r⟩ .nil
    | cons r' _ ih => exact .cons r' ih
  unfold dPut putK
  rw [hany h]
  by_cases hb : (vs.any fun kv => decide (kv.1 = k)) = true
  · rw [if_pos hb, if_pos hb]; exact hmap h
  · rw [if_neg hb, if_neg hb]; exact happ h
def setF (x y z : D) (S3 : Sto) : R Sto := match y with
    | .loc n => (match S3[n]? with
      | some (.lst xs) => (match z with
        | .int k => (match ixN xs.length k with
          | some j => .ok (S3.set n (.lst (xs.set j x))) (S3.set n (.lst (xs.set j x)))
          | none => .bad)
        | _ => .bad)
      | some (.dic kvs) => (match z.key with
        | some k => if kvs.length < 16777216 then .ok (S3.set n (.dic (dPut kvs k x))) (S3.set n (.dic (dPut kvs k x))) else .bad
        | none => .bad)
      | _ => .bad)
    | _ => .bad
def rSet (K : PySem.W.Frag) (T : Tb) : TSet := fun o i v H Q => (∃ p xs k j, o = .ref p ∧ i = .int k ∧ H p = some (.lst xs) ∧ ixN xs.length k = some j ∧ Q (upd H p (.lst (xs.set j v)))) ∨ ∃ a H', o = .ref a ∧ DPut H a i v H' ∧ Q H'
theorem set_D (hu : X.A.units + 1 < cLine) : PSet X (rSet X.K T) := by
  intro pins s σ H o i v ov iv u Q I ro ri rv h
  rcases h with h | h
  · exact set_list pins s σ H o i v ov iv u Q I ro ri rv h
  · exact set_dict hu pins s σ H o i v ov iv u Q I ro ri rv h
theorem rs_setI {tg : Expr} (ha : PE X ea (tE X.K T Δ a)) (hg : PG X tg (gSub (tE X.K T Δ o) (tE X.K T Δ i) (rSet X.K T))) (hs : swapsWithSole [tg] ea pos.line X.env = pure false) (hw : swappedStores [tg] ea X.env = pure none)
    (h1 : (assignEach [tg] X.env).map (·.2) = [assign tg X.env]) : PS X (.Assign [tg] ea pos) (tS X.K T Δ (.setI o i a)) := PS.imp (ps_asg ha hg hs hw h1) fun D σ H ⟨W, env, e, er, sr, q⟩ => by
  subst e
  refine tE.step er sr q fun x W1 v x1 s1 e1 r1 q1 => ?_
  refine tE.step e1 s1 q1 fun y W2 u x2 s2 e2 r2 q2 => ?_
  refine tE.step e2 s2 q2 fun z W3 w x3 s3 e3 r3 q3 => ?_
  have r13 := (r1.mono s1 x2.toExt0).mono s2 x3.toExt0
  have r23 := r2.mono s2 x3.toExt0
  cases y with
  | loc n =>
    obtain ⟨p, rfl, hp⟩ := r23
    replace q3 : After X.K T W3 (match W3.S[n]? with
      | some (.lst xs) => (match z with
        | .int k => (match ixN xs.length k with
          | some j => .ok (.nx, env) (W3.S.set n (.lst (xs.set j x)))
          | none => .bad)
        | _ => .bad)
      | some (.dic kvs) => (match z.key with
        | some k => if kvs.length < 16777216 then .ok (.nx, env) (W3.S.set n (.dic (dPut kvs k x))) else .bad
        | none => .bad)
      | _ => .bad) (flW X.K D) := q3
    cases hc : W3.S[n]? with
    | none => rw [hc] at q3; exact q3.elim
    | some c =>
      rw [hc] at q3
      have fin : ∀ {c' : Cell} {ho : HO}, c'.live = true → c.live = true → CR X.K W3 c' (some ho) → After X.K T W3 (.ok (.nx, env) (W3.S.set n c')) (flW X.K D) → D.nx σ (upd W3.H p ho) := fun {c' ho} hl' hl hcr q => by
        have xx := ext_set (o := ho) (c := c') s3 hp hc hl
        exact q ⟨upd W3.H p ho, W3.θ, W3.S.set n c', W3.hid⟩ rfl xx (sr_set s3 hp hc hl hcr hl') σ (e3.mono s3 xx.toExt0)
      cases c with
      | lst xs =>
        cases z with
        | int k =>
          cases r3
          replace q3 : After X.K T W3 (match ixN xs.length k with
            | some j => .ok (.nx, env) (W3.S.set n (.lst (xs.set j x)))
            | none => .bad) (flW X.K D) := q3
          cases hj : ixN xs.length k with
          | none => rw [hj] at q3; exact q3.elim
          | some j =>
            rw [hj] at q3
            obtain ⟨vs, ev, rv⟩ := s3.cell n _ p hc hp
            exact .inl ⟨p, vs, k, j, rfl, rfl, ev, by rw [← rv.len]; exact hj, fin (c' := .lst (xs.set j x)) rfl rfl ⟨_, rfl, VRs.set r13 j rv⟩ q3⟩
        | _ => exact q3.elim
      | dic kvs =>
        replace q3 : After X.K T W3 (match z.key with
          | some k => if kvs.length < 16777216 then .ok (.nx, env) (W3.S.set n (.dic (dPut kvs k x))) else .bad
          | none => .bad) (flW X.K D) := q3
        cases hk : z.key with
        | none => rw [hk] at q3; exact q3.elim
        | some k =>
          rw [hk] at q3
          replace q3 : After X.K T W3 (if kvs.length < 16777216 then .ok (.nx, env) (W3.S.set n (.dic (dPut kvs k x))) else .bad) (flW X.K D) := q3
          by_cases hl : kvs.length < 16777216
          · rw [if_pos hl] at q3
            obtain ⟨vs, ev, rv⟩ := s3.cell n _ p hc hp
            rw [key_ok r3 hk]
            exact .inr ⟨p, _, rfl, DPut.k ev (by rw [← Paired.length rv, sizeLine_eq]; exact hl), fin (c' := .dic (dPut kvs k x)) rfl rfl ⟨_, rfl, dPut_ok r13 rv⟩ q3⟩
          · rw [if_neg hl] at q3
            exact q3.elim
      | gone => exact q3.elim
  | _ => exact q3.elim
theorem rs_ite {ss us : ISs} (hc : PT X ec (tT X.K T Δ c)) (hb : PSs X body (tSs X.K T Δ ss)) (he : PSs X els (tSs X.K T Δ us)) : PS X (.If ec body els pos) (tS X.K T Δ (.ite c ss us)) := PS.imp (ps_if hc hb he) fun D σ H ⟨W, env, e, er, sr, q⟩ => by
  subst e
  refine tT.step er sr q fun k W1 x1 s1 e1 q1 => ?_
  cases k with
  | true => exact iteT ⟨W1, env, rfl, e1, s1, q1⟩
  | false => exact iteF ⟨W1, env, rfl, e1, s1, q1⟩
theorem rs_while {ss : ISs} (hp : PassesOwn (model X.prog X.w) X.A X.env X.xe) (hc : PT X ec (tT X.K T Δ c)) (hb : PSs X body (tSs X.K T Δ ss)) : PS X (.While ec body [] pos) (tS X.K T Δ (.while c ss)) := PS.imp (ps_while hp hc hb) fun D σ H ⟨W, env, e, er, sr, q⟩ => by
  subst e
  generalize hf : (fun e1 S1 => exSs Δ ss e1 S1) = f at *
  refine ⟨fun m σ H => ∃ (W : Wd) (env : En), W.H = H ∧ ER X.K W env σ ∧ SR X.K T W ∧ After X.K T W (whileL (fun e1 S1 => evT Δ c e1 S1) (fun e1 S1 => exSs Δ ss e1 S1) m env W.S) (flW X.K D), ⟨whileMax, W, env, rfl, er, sr, q⟩, ?_⟩
  rintro m σ H ⟨W, env, rfl, er, sr, q⟩
  cases m with
  | zero => exact (q : False).elim
  | succ m =>
    refine tT.step er sr q fun k W1 x1 s1 e1 q1 => ?_
    cases k with
    | false => exact iteF (After.here s1 (show After X.K T W1 (PV.R.ok (Fl.nx, env) W1.S) (flW X.K D) from q1) σ e1)
    | true =>
      refine iteT ⟨fun σ' H' => ∃ (W : Wd) (env : En), W.H = H' ∧ ER X.K W env σ' ∧ SR X.K T W ∧ After X.K T W (whileL (fun e1 S1 => evT Δ c e1 S1) (fun e1 S1 => exSs Δ ss e1 S1) m env W.S) (flW X.K D), fun σ' H' n => ⟨m, Nat.lt_succ_self m, n⟩, W1, env, rfl, e1, s1, ?_⟩
      replace q1 : After X.K T W1 (match exSs Δ ss env W1.S with
        | .ok (.nx, e1) S2 => whileL (fun e1 S1 => evT Δ c e1 S1) (fun e1 S1 => exSs Δ ss e1 S1) m e1 S2
        | .ok (.cnt, e1) S2 => whileL (fun e1 S1 => evT Δ c e1 S1) (fun e1 S1 => exSs Δ ss e1 S1) m e1 S2
        | .ok (.brk, e1) S2 => .ok (.nx, e1) S2
        | r => r) (flW X.K D) := q1
      cases hb : exSs Δ ss env W1.S with
      | bad => rw [hb] at q1; exact q1
      | ex y S2 => rw [hb] at q1; exact q1
      | ok o S2 =>
        obtain ⟨fl, env'⟩ := o
        rw [hb] at q1
        intro W2 eS x2 s2 σ' er'
        subst eS
        cases fl with
        | nx => exact ⟨W2, env', rfl, er', s2, After.ext q1 x2⟩
        | cnt => exact ⟨W2, env', rfl, er', s2, After.ext q1 x2⟩
        | brk => exact After.here s2 (After.ext (show After X.K T W1 (PV.R.ok (Fl.nx, env') W2.S) (flW X.K D) from q1) x2) σ' er'
        | ret d => exact fun v rv => After.here s2 (After.ext (show After X.K T W1 (PV.R.ok (Fl.ret d, env') W2.S) (flW X.K D) from q1) x2) σ' er' v rv
theorem rs_for {tg : Tg} {it : II} {ss : ISs} {et ei : Expr} (hp : PassesOwn (model X.prog X.w) X.A X.env X.xe) (hc : X.calm = true) (hi : PI X et ei (tI X.K T Δ it)) (hg : PG X et (gR X.K tg)) (hb : PSs X body (tSs X.K T Δ ss))
    (hs : ∀ x, foldedSetIterable ei X.env x = pure x) : PS X (.For et ei body [] pos) (tS X.K T Δ (.for tg it ss)) := PS.imp (ps_for hp hc hi hg hb hs) fun D σ H ⟨W, env, e, er, sr, q⟩ => by
  subst e
  generalize hf : (fun x e1 S2 => (match asgT tg x e1 with
      | some e2 => exSs Δ ss e2 S2
      | none => PV.R.bad)) = f
  replace q : After X.K T W ((evI Δ it env W.S).bind fun xs S1 => forL f xs env S1) (flW X.K D) := by subst hf; exact q
  refine ⟨W, env, rfl, er, sr, (After.bind q).mono fun xs W1 _ x1 s1 q1 J ji => ?_⟩
  refine ⟨fun i m σ H => m = xs.length - i ∧ i ≤ xs.length ∧ ∃ (W' : Wd) (env' : En), W'.H = H ∧ ER X.K W' env' σ ∧ SR X.K T W' ∧ Ext0 W1 W' ∧ After X.K T W' (forL f (xs.drop i) env' W'.S) (flW X.K D),
    ⟨_, rfl, Nat.zero_le _, W1, env, rfl, er.mono sr x1.toExt0, s1, Ext0.refl _, q1⟩, ?_⟩
  rintro i m σ H ⟨rfl, hi, W', env', rfl, er', s', x', q'⟩
  by_cases hlt : i < xs.length
  · refine .inr ⟨ji.go W' i x' s' hlt, fun σ' H' => ∃ (W' : Wd) (env' : En), W'.H = H' ∧ ER X.K W' env' σ' ∧ SR X.K T W' ∧ Ext0 W1 W' ∧ After X.K T W' (forL f (xs.drop (i + 1)) env' W'.S) (flW X.K D),
      fun σ' H' n => ⟨xs.length - (i + 1), by omega, rfl, hlt, n⟩, fun x H' y => ?_⟩
    obtain ⟨W2, rfl, eS, x2, s2, rx⟩ := ji.yld W' i xs[i] x H' x' s' (List.getElem?_eq_getElem hlt) y
    rw [List.drop_eq_getElem_cons hlt, ← eS] at q'
    replace q' := After.ext (show After X.K T W' (match f xs[i] env' W2.S with
      | .ok (.nx, e1) S1 => forL f (xs.drop (i + 1)) e1 S1
      | .ok (.cnt, e1) S1 => forL f (xs.drop (i + 1)) e1 S1
      | .ok (.brk, e1) S1 => .ok (.nx, e1) S1
      | r => r) (flW X.K D) from q') x2
    cases hq : asgT tg xs[i] env' with
    | none =>
      have : f xs[i] env' W2.S = .bad := by subst hf; simp only [hq]
      rw [this] at q'
      exact q'.elim
    | some env1 =>
      have hfx : f xs[i] env' W2.S = exSs Δ ss env1 W2.S := by subst hf; simp only [hq]
      rw [hfx] at q'
      refine gR_ok rx (er'.mono s' x2.toExt0) hq fun σ2 e2 _ => ⟨W2, env1, rfl, e2, s2, ?_⟩
      cases hb : exSs Δ ss env1 W2.S with
      | bad => rw [hb] at q'; exact q'
      | ex y S2 => rw [hb] at q'; exact q'
      | ok o S2 =>
        obtain ⟨fl, env''⟩ := o
        rw [hb] at q'
        intro W3 eS3 x3 s3 σ' er''
        subst eS3
        cases fl with
        | nx => exact ⟨W3, env'', rfl, er'', s3, (x'.trans x2.toExt0).trans x3.toExt0, After.ext q' x3⟩
        | cnt => exact ⟨W3, env'', rfl, er'', s3, (x'.trans x2.toExt0).trans x3.toExt0, After.ext q' x3⟩
        | brk => exact After.here s3 (After.ext (show After X.K T W2 (PV.R.ok (Fl.nx, env'') W3.S) (flW X.K D) from q') x3) σ' er''
        | ret d => exact fun v rv => After.here s3 (After.ext (show After X.K T W2 (PV.R.ok (Fl.ret d, env'') W3.S) (flW X.K D) from q') x3) σ' er'' v rv
  · have ei : i = xs.length := by omega
    subst ei
    refine .inl ⟨ji.stop W' x' s', ?_⟩
    rw [List.drop_length] at q'
    exact After.here s' (show After X.K T W' (PV.R.ok (Fl.nx, env') W'.S) (flW X.K D) from q') σ er'
end
end L2.PV

/-! PV, part 17: sorted(.., key=lambda x: -x[1]). -/
namespace L2.PV
open PySem PySem.Spec PyProof.Rows LamX

/-- a call of lambda x: -x[1] on a pair -/
theorem neg1_call {prog : Program} {w : World} {A : Around} {E : Value → Shared → Prop} {s : Shared} {f t : Addr} {q : Str} {params : Arguments} {scope : Scope} {a : Str} {p1 p2 p3 p4 : Pos} {k : Nat} {pm ctv u0 : Value} {c' : Addr} {j : Int} {tj : Tok}
    (hroom : A.depth < recursionLimit) (nl : s.heap.NoLimit)
    (hf : s.heap.get? f = some (PySem.W.kla_obj "<lambda>" q params (.UnaryOp .USub (.Subscript (.Name a p1) (.Constant (.int 1) k p2) p3) p4) scope [] pm c' ctv)) (hcd : s.heap.CodeRec (.ref c') q)
    (sk : scope.kind = .function) (sco : scope.isCoroutine = false) (sg : scope.isGenerator = false) (hloc : scope.names.lookup a = some .local) (hcell : ∀ y ∈ scope.names, y.2 ≠ .cell)
    (hbind : ∀ v, bindArgs (PySem.W.kla_fn "<lambda>" q params (.UnaryOp .USub (.Subscript (.Name a p1) (.Constant (.int 1) k p2) p3) p4) scope [] pm (.ref c') ctv) ⟨[v], []⟩ = pure [(a, v)])
    (ht : IsTup s.heap t #[u0, .int j tj]) (hd : (a == ("__debug__" : Str)) = false) :
    wpAny (model prog w) A (call (.ref f) [.ref t]) (PySem.W.KeyPure (.int (-j)) s) E s := by
  refine wpAny_call (PySem.W.kla_callFunE hroom hf rfl sco sg rfl hcd ?_)
  rw [hbind]
  refine wpAny_pure (wpAny_newFunctionEnv hcell (fun y hy => ?_) (fun h₁ hns hsb => ⟨nl.fresh _ hsb, ?_⟩) sk)
  · have e : y = (a, Value.ref t) := by simpa using hy
    rw [e]; exact hloc
  have kp : ∀ b o, s.heap.get? b = some o → h₁.get? b = some o := fun b o e => hsb.extBut b o (Nat.ne_of_lt (Heap.lt_size e)) (Heap.get?_push_of_some _ e)
  refine PySem.W.kla_codeExpr ?_
  refine UnaryOp_ (Subscript_ (wpAny_Name (wpAny_loadName_local sk hloc hns (v := .ref t) (by simp) ?_) hd))
  refine wpAny_Constant_int ?_
  have ht1 : IsTup h₁ t #[u0, .int j tj] := by
    obtain ⟨o, ho, r⟩ := ht
    exact ⟨o, kp _ _ ho, r⟩
  refine item_tuple (k := 1) (j := 1) (x := .int j tj) ht1 (by decide) (by decide) (by show seqIndex? 1 2 = some 1; decide) rfl ?_
  refine neg_int ?_
  exact ⟨h₁, _, rfl, kp, .int _ _⟩

theorem After.ext' {α : Type} {K : PySem.W.Frag} {T : Tb} {W W' : Wd} {r : PV.R α} {P : α → Wd → Prop} (h : After K T W r P) (x : Ext W W') : After K T W' r P := After.ext h x
/-- what the making of a lambda asks of the context -/
structure LamC (X : Cx) (ts : List (Addr × Str)) : Prop where
  ok : ∃ c P : Addr, X.env.code = .ref c ∧ TabB X.base X.mg c P ∧ (P, X.env.qual ++ "<lambda>") ∈ ts ∧ ∀ p ∈ ts, p.1 = P → p.2 = X.env.qual ++ "<lambda>"
section
variable {X : Cx} {T : Tb} {Δ : Den}
theorem ext_lam {K : PySem.W.Frag} {W : Wd} {H1 : Hp} (s : SR K T W) (e : ExtN W.H H1) : Ext W ⟨H1, W.θ, W.S, W.hid⟩ :=
  ⟨⟨fun _ _ h => h, fun a o h l n => ⟨e a o h n, l⟩⟩, fun a h => ⟨h, by
    obtain ⟨_, vs, q⟩ := s.hid a h
    show H1 a = W.H a
    rw [q]
    exact e a _ q fun _ z => nomatch z⟩⟩
theorem sr_lam {K : PySem.W.Frag} {W : Wd} {H1 : Hp} (s : SR K T W) (e : ExtN W.H H1) (t : Tabs T.tabs H1) : SR K T ⟨H1, W.θ, W.S, W.hid⟩ := by
  have same : ∀ a, LD (W.H a) → H1 a = W.H a := fun a h => by
    rcases h with ⟨vs, q⟩ | ⟨vs, q⟩ <;> (rw [q]; exact e a _ q fun _ z => nomatch z)
  refine ⟨s.len, s.nd, fun n c a h1 h2 => ?_, fun a ha => ?_, t, fun a ha => ⟨(s.hid a ha).1, ?_⟩⟩
  · show CR K _ c (H1 a)
    rw [same a (s.res a (List.mem_of_getElem? h2))]
    exact (s.cell n c a h1 h2).mono s (ext_lam s e).toExt0
  · show LD (H1 a)
    rw [same a (s.res a ha)]
    exact s.res a ha
  · obtain ⟨_, vs, q⟩ := s.hid a ha
    exact ⟨vs, (e a _ q fun _ z => nomatch z)⟩
/-- sorted(e, key=lambda a: -a[1]) -/
theorem re_srtk {a : IE} {e1 : Expr} {x an : Str} {p p1 p2 p3 p4 lpos kpos pos : Pos} {k : Nat} {params : Arguments} {scope : Scope} (hr : Room 4 X.A) (L : LamC X T.tabs) (hx : x = ("sorted" : Str)) (hg : Gl X x) (hm : X.mg "sorted" = none)
    (hst : starEach [e1] X.env = (false, eval e1 X.env) :: starEach [] X.env) (ha : PE X e1 (tE X.K T Δ a))
    (sk : scope.kind = .function) (sco : scope.isCoroutine = false) (sg : scope.isGenerator = false) (hloc : scope.names.lookup an = some .local) (hcell : ∀ y ∈ scope.names, y.2 ≠ .cell) (hfree : ∀ y ∈ scope.names, y.2 ≠ .free)
    (hdef : defaultsOf params X.env = ([], []))
    (hbind : ∀ (q : Str) (pm cv ctv v : Value), bindArgs (PySem.W.kla_fn "<lambda>" q params (.UnaryOp .USub (.Subscript (.Name an p1) (.Constant (.int 1) k p2) p3) p4) scope [] pm cv ctv) ⟨[v], []⟩ = pure [(an, v)])
    (hd : (an == ("__debug__" : Str)) = false) :
    PE X (.Call (.Name x p) [e1] [⟨some "key", .Lambda params (.UnaryOp .USub (.Subscript (.Name an p1) (.Constant (.int 1) k p2) p3) p4) scope lpos, kpos⟩] pos) (tE X.K T Δ (.srtk a)) := by
  subst hx
  refine ⟨fun pins s σ H Q I h => ?_⟩
  obtain ⟨W, env, e, er, sr, q⟩ := h
  subst e
  have h1 : tCons (tE X.K T Δ a) tNil σ W.H (fun vs H1 => ∃ (W1 : Wd) (d : D) (v : V), vs = [v] ∧ W1.H = H1 ∧ SR X.K T W1 ∧ VR X.K W1 d v ∧ After X.K T W1 (PV.R.of (srtkF W1.S d) W1.S) (Gv X.K Q)) :=
    tE.step er sr q fun d W1 v x1 s1 e1 r1 q1 => ⟨W1, d, v, rfl, rfl, s1, r1, q1⟩
  refine wpAny_Call_Name_kw (ld_blt (u := .builtin "sorted") I hg hm (by decide +kernel) ?_ (by decide) (by decide))
  refine PyProof.Rows.callWith_kw (thn ((pa_cons ha pa_nil hst).run pos pins s σ W.H _ I h1) fun us s1 ⟨vs, H1, I1, r1, q1⟩ => ?_) (by rw [hst]; rfl) (by rw [hst]; rfl) (by rfl) (by rfl)
  obtain ⟨W1, d, v, rfl, rfl, sr1, rv, q2⟩ := q1
  obtain ⟨u, rfl, ru⟩ := vals1 r1
  obtain ⟨c, P, hcode, TB, hmem, huq⟩ := L.ok
  obtain ⟨d2, ed, q3⟩ := q2.of
  show wpAny _ _ (evalAll [do let v ← eval (.Lambda params _ scope lpos) X.env; standAt pos; pure v]) _ _ s1
  refine wpAny_evalAll_cons (wpAny_bind (lam_make2 (T := T.tabs) I1 TB hcode hmem huq sr1.tabs hdef (fun y hy ey => absurd ey (hfree y hy)) fun f c' pm ctv H2 s2 I2 eN T2 hf hfn hfr hco => wpAny_bind (wpAny_standAt (wpAny_pure (wpAny_evalAll_nil ?_)))))
  have hclo : ∀ (l : List (Str × NameKind)), (∀ y ∈ l, y.2 ≠ .free) → cloFrom X.env.cells l [] = [] := by
    intro l
    induction l with
    | nil => intro _; rfl
    | cons y r ih =>
      intro hl
      obtain ⟨n, kd⟩ := y
      unfold cloFrom
      rw [if_neg (by simpa using hl (n, kd) List.mem_cons_self)]
      exact ih fun z hz => hl z (List.mem_cons_of_mem _ hz)
  rw [hclo _ hfree] at hf
  have x2 := ext_lam sr1 eN
  have sr2 := sr_lam sr1 eN T2
  have q4 := After.ext' q3 x2
  replace ed : (match rd W1.S d with
    | .lst xs => (match pairsOf xs with
      | some ps => if xs.length ≤ 1000 then some (D.lst ((ps.mergeSort negLe).map fun p => .tup [.int p.1, .int p.2])) else none
      | none => none)
    | _ => none) = some d2 := ed
  cases hdd : rd W1.S d with
  | lst ys =>
    rw [hdd] at ed
    replace ed : (match pairsOf ys with
      | some ps => if ys.length ≤ 1000 then some (D.lst ((ps.mergeSort negLe).map fun p => .tup [.int p.1, .int p.2])) else none
      | none => none) = some d2 := ed
    obtain ⟨l, vs, rfl, h1, r1'⟩ := rd_lst sr1 rv hdd
    cases hps : pairsOf ys with
    | none => rw [hps] at ed; cases ed
    | some ps =>
      rw [hps] at ed
      obtain ⟨hz, rfl⟩ := ite_some ed
      have ey := pairsOf_ok hps
      subst ey
      cases ru
      have h12 : H2 l = some (.lst vs) := eN l _ h1 fun _ z => nomatch z
      obtain ⟨its, rvv, hl, hzl⟩ := I2.list (.inl (.inl h12))
      have r2 : VRs X.K ⟨H2, W1.θ, W1.S, W1.hid⟩ (ps.map encP) vs := r1'.mono sr1 x2.toExt0
      have hlen : ps.length ≤ 1000 := by rw [List.length_map] at hz; exact hz
      have each : ∀ {vs : List V} {its : List Value} {ps : List (Int × Int)}, Vals vs its → VRs X.K ⟨H2, W1.θ, W1.S, W1.hid⟩ (ps.map encP) vs →
          PySem.W.EachIs (fun v b => (∃ x, RelV x v ∧ VR X.K ⟨H2, W1.θ, W1.S, W1.hid⟩ (encP b) x) ∧ ∃ (t : Addr) (u0 : Value) (tj : Tok), v = .ref t ∧ IsTup s2.heap t #[u0, .int b.2 tj]) its ps := by
        intro vs its ps
        induction ps generalizing vs its with
        | nil =>
          intro rv rr
          cases (show vs = [] from rr)
          cases rv
          exact .nil
        | cons p ps ih =>
          intro rv rr
          obtain ⟨x, r', rfl, h1, h2⟩ := rr
          cases rv with
          | @cons _ w _ _ g1 g2 =>
            refine .cons ⟨⟨x, g1, h1⟩, ?_⟩ (ih g2 h2)
            obtain ⟨b, ws, ex, hb, rb⟩ := h1
            subst ex
            cases g1
            obtain ⟨w1, w2, rfl, e1, e2⟩ := two_of rb
            cases e1
            cases e2
            obtain ⟨_, ts, rt, ht⟩ := I2.hok b _ hb
            obtain ⟨t1, t2, rfl, ⟨k1, rfl⟩, ⟨k2, rfl⟩⟩ := vals2 rt
            exact ⟨b, _, k2, rfl, ht⟩
      have ee := each rvv r2
      have hrm : ∀ n, X.A.depth + n < recursionLimit → True := fun _ _ => trivial
      obtain ⟨⟨oc, cvs, tq, hoc, hdc, hvc⟩, _, _⟩ := I2.hok c' _ hco
      refine PySem.W.sorted_key_data (b := false) (kw := [(Str.ofString "key", .ref f)]) (R := fun v b => (∃ x, RelV x v ∧ VR X.K ⟨H2, W1.θ, W1.S, W1.hid⟩ (encP b) x) ∧ ∃ (t : Addr) (u0 : Value) (tj : Tok), v = .ref t ∧ IsTup s2.heap t #[u0, .int b.2 tj]) (fun b : Int × Int => .int (-b.2)) hl.isList ee (PySem.W.AllAlike.of fun _ _ => by simp [PySem.W.alike]) (PySem.W.Sortable.others fun b => ⟨fun z => (nomatch z), fun _ z => (nomatch z)⟩) (by rw [sizeLine_eq]; omega)
        (fun b _ => ?_) (ksk_s1 _ _) (fun x => ksk_l1 _ _) (fun x => ksk_t1 f x) (fun v b hb hbm h tk kp => ?_) fun out c h' tk kp hfr' hD hlo eo => ?_
      · have hdp : (PyData.int (-b.2)).depth = 0 := by simp [PyData.depth]
        rw [hdp]
        have := hr.units
        omega
      · obtain ⟨_, t, u0, tj, rfl, ht⟩ := hb
        refine neg1_call (q := X.env.qual ++ "<lambda>") (u0 := u0) (tj := tj) ?_ (I2.nolimit.keeps kp) (kp _ _ hf) ⟨c', oc, cvs, tq, rfl, kp _ _ hoc, hdc, hvc⟩ sk sco sg hloc hcell (fun v => hbind _ _ _ _ v) ?_ hd
        · have := hr.dp
          show X.A.depth < recursionLimit
          omega
        · obtain ⟨o, ho, rr⟩ := ht
          exact ⟨o, kp _ _ ho, rr⟩
      · rw [PySem.W.dataLe_int (β := Int × Int) (fun p => -p.2)] at eo
        have eo2 : PySem.W.EachIs (fun v b => ∃ x, RelV x v ∧ VR X.K ⟨H2, W1.θ, W1.S, W1.hid⟩ (encP b) x) out (ps.mergeSort negLe) := eo.mono fun _ _ z => z.1
        obtain ⟨vs', g1, g2⟩ := each_vals eo2
        have hfr2 : H2 (s2.heap.objs.size + 1) = none := I2.hok.fresh (Nat.le_succ _)
        refine ⟨.ref (s2.heap.objs.size + 1), upd H2 (s2.heap.objs.size + 1) (.lst vs'), I2.laid (t' := tk) kp (Nat.le_succ _) ⟨?_, out, c, g1, hD⟩, rfl, After.newLst (W := ⟨H2, W1.θ, W1.S, W1.hid⟩) sr2 q4 g2 hfr2⟩
        rw [← g2.len, List.length_map, List.length_mergeSort, sizeLine_eq]
        omega
  | _ => rw [hdd] at ed; cases ed
end
end L2.PV

/-! PV, part 12: the check that a text of the small language is the program's expression; then it is read by the evaluator. -/
namespace L2.PV
open PySem PySem.Spec PyProof.Rows LamX

/-- a def: its name, how many parameters, the calls (how many are given, the defaults of the rest) -/
structure Fe where
  name : Str
  ar : Nat
  df : List (Nat × List D)
  /-- calls with keywords: how many stand ahead of them, their names -/
  kw : List (Nat × List Str) := []
structure Ck where
  N : List Str
  fs : List Fe
  /-- a lambda is made here -/
  lam : Bool := false
def plainX (e : Expr) : Bool := match e with
  | .Starred _ _ => false
  | .Slice _ _ _ _ => false
  | .Set _ _ _ => false
  | _ => true
def visB (sc : Scope) (x : Str) : Bool := match sc.names.lookup x with
  | some .local => true
  | some .cell => true
  | some .free => true
  | _ => false
def glB (sc : Scope) (x : Str) : Bool := match sc.names.lookup x with
  | some .globalImplicit => true
  | _ => false
def lclB (sc : Scope) (x : Str) : Bool := match sc.names.lookup x with
  | some .local => true
  | _ => false
/-- a name that a comprehension stores -/
def blkB (scope sc : Scope) (x : Str) : Bool := lclB (relS scope sc) x || ((match (relS scope sc).names.lookup x with
  | some .cell => true
  | _ => false) && (scope.names.lookup x == some .cell))
def locB (sc : Scope) (x : Str) : Bool := match sc.names.lookup x with
  | some .local => true
  | some .cell => true
  | _ => false
def okN (x : Str) : Bool := !(x == ("__debug__" : Str)) && !(x == ("__classdict__" : Str))
def cstB (d : D) (k : Const) : Bool := match d, k with
  | .non, .none => true
  | .bl b, .bool b' => decide (b = b')
  | .int i, .int j => decide (i = j)
  | .str s, .str t => decide (s = t)
  | _, _ => false
def scD (a b : D) : Bool := match a, b with
  | .non, .non => true
  | .bl b, .bl b' => decide (b = b')
  | .int i, .int j => decide (i = j)
  | .str s, .str t => decide (s = t)
  | _, _ => false
def scDs : List D → List D → Bool
  | [], [] => true
  | a :: as, b :: bs => scD a b && scDs as bs
  | _, _ => false
theorem scD_eq {a b : D} (h : scD a b = true) : a = b := by
  cases a <;> cases b <;> first | rfl | (exact absurd h Bool.false_ne_true) | (exact congrArg _ (of_decide_eq_true h))
theorem scDs_eq : ∀ {a b : List D}, scDs a b = true → a = b
  | [], [], _ => rfl
  | a :: as, b :: bs, h => by
    replace h : (scD a b && scDs as bs) = true := h
    rw [Bool.and_eq_true] at h
    rw [scD_eq h.1, scDs_eq h.2]
  | [], _ :: _, h => absurd h Bool.false_ne_true
  | _ :: _, [], h => absurd h Bool.false_ne_true
def Blt.nm (b : Blt) : Str := match b with
  | .len => "len" | .int => "int" | .abs => "abs" | .sum => "sum" | .max1 => "max" | .max2 => "max" | .min1 => "min" | .min2 => "min" | .list => "list" | .tuple => "tuple" | .lcm => "lcm" | .str => "str"
def bltNames : List Str := ["len", "int", "abs", "sum", "max", "min", "list", "tuple", "sorted", "isinstance", "range", "str", "bool", "enumerate"]
def noCall (e : Expr) : Bool := match e with
  | .Call _ _ _ _ => false
  | _ => true
def tgB (c : Ck) (p : Str → Bool) (i : Nat) (e : Expr) : Bool := match e with
  | .Name x _ => decide (c.N[i]? = some x) && p x
  | _ => false
def tgsB (c : Ck) (p : Str → Bool) : List Nat → List Expr → Bool
  | [], [] => true
  | i :: is, e :: es => tgB c p i e && tgsB c p is es
  | _, _ => false
def chkTg (c : Ck) (p : Str → Bool) (tg : Tg) (e : Expr) : Bool := match tg with
  | .nm i => tgB c p i e
  | .tp is => (match e with
    | .Tuple es _ _ => tgsB c p is es
    | _ => false)
def lamP (an : Str) (ps : Arguments) : Bool := match ps with
  | ⟨[], [⟨x, _, _⟩], none, [], [], none, []⟩ => decide (x = an)
  | _ => false
def lamS (an : Str) (sc : Scope) : Bool := (decide (sc.kind = .function) && (!sc.isCoroutine && !sc.isGenerator)) && (decide (sc.names.lookup an = some .local) && sc.names.all fun y => !decide (y.2 = .cell) && !decide (y.2 = .free))
mutual
def chkE (c : Ck) : IE → Scope → Expr → Bool
  | .var i, sc, e => (match e with
    | .Name x _ => decide (c.N[i]? = some x) && (visB sc x && okN x)
    | _ => false)
  | .cst d, sc, e => (match e with
    | .Constant k _ _ => cstB d k
    | _ => false)
  | .bin op a b, sc, e => (match e with
    | .BinOp l o r _ => decide (o = op) && (chkE c a sc l && chkE c b sc r)
    | _ => false)
  | .neg a, sc, e => (match e with
    | .UnaryOp .USub l _ => chkE c a sc l
    | _ => false)
  | .not a, sc, e => (match e with
    | .UnaryOp .Not l _ => chkE c a sc l
    | _ => false)
  | .cmp op a b, sc, e => (match e with
    | .Compare l [o] [r] _ => decide (o = op) && (plainX r && (chkE c a sc l && chkE c b sc r))
    | _ => false)
  | .chn op op' a b d, sc, e => (match e with
    | .Compare l [o, o'] [r, r'] _ => (decide (o = op) && decide (o' = op')) && (plainX r' && (chkE c a sc l && (chkE c b sc r && chkE c d sc r')))
    | _ => false)
  | .and es, sc, e => (match e with
    | .BoolOp .And vs _ => chkBs c es sc vs
    | _ => false)
  | .or es, sc, e => (match e with
    | .BoolOp .Or vs _ => chkBs c es sc vs
    | _ => false)
  | .ife t a b, sc, e => (match e with
    | .IfExp et ea eb _ => chkE c t sc et && (chkE c a sc ea && chkE c b sc eb)
    | _ => false)
  | .tup es, sc, e => (match e with
    | .Tuple vs _ _ => Nat.ble es.len 1000 && chkEs c es sc vs
    | _ => false)
  | .lst tr es, sc, e => (match e with
    | .List vs _ => Nat.ble es.len 1000 && chkEs c es sc vs
    | _ => false)
  | .dct, sc, e => (match e with
    | .Dict [] [] _ => true
    | _ => false)
  | .idx a i, sc, e => (match e with
    | .Subscript x y _ => plainX y && (chkE c a sc x && chkE c i sc y)
    | _ => false)
  | .slc a lo hi, sc, e => (match e with
    | .Subscript x (.Slice l h none _) _ => chkE c a sc x && (chkO c lo sc l && chkO c hi sc h)
    | _ => false)
  | .call f es ds, sc, e => (match e with
    | .Call (.Name x _) args [] _ => (match c.fs[f]? with
      | some fe => (decide (x = fe.name) && (glB sc x && okN x)) && ((fe.df.any fun p => decide (p.1 = es.len) && scDs p.2 ds) && (decide (es.len + ds.length = fe.ar) && chkEs c es sc args))
      | none => false)
    | _ => false)
  | .callk f es ks kes, sc, e => (match e with
    | .Call (.Name x _) args kws _ => (match c.fs[f]? with
      | some fe => (decide (x = fe.name) && (glB sc x && okN x)) && ((fe.kw.any fun p => decide (p.1 = es.len) && decide (p.2 = ks)) && ((Nat.ble 1 es.len && decide (es.len + kes.len = fe.ar)) && (chkEs c es sc args && chkKs c kes ks sc kws)))
      | none => false)
    | _ => false)
  | .blt b tr es, sc, e => (match e with
    | .Call (.Name x _) args [] _ => (decide (x = b.nm) && glB sc x) && (Nat.ble 1 es.len && chkEs c es sc args)
    | _ => false)
  | .isi a t, sc, e => (match e with
    | .Call (.Name x _) [e1, .Name y _] [] _ => ((decide (x = ("isinstance" : Str)) && glB sc x) && (decide (y = (t.name : Str)) && glB sc y)) && (plainX e1 && chkE c a sc e1)
    | _ => false)
  | .met m o es, sc, e => (match e with
    | .Call (.Attribute eo nm apos) args [] cpos => (decide (nm = m.name) && ((apos.endLine == cpos.line) && noCall eo)) && ((Nat.ble 1 es.len && Nat.ble es.len 20) && (chkE c o sc eo && chkEs c es sc args))
    | _ => false)
  | .lc tr own tg it ifs elt, sc, e => (match e with
    | .ListComp el [⟨t, iter, ie, as⟩] scope _ => (decide (as = 0) && (blkC c.N sc scope own && (chkTg c (blkB scope sc) tg t && tg.ixs.all fun i => decide (i ∈ own.map (·.2))))) &&
        (plainX iter && (chkI c it sc t iter && (chkEs { c with lam := false } ifs (relS scope sc) ie && (Nat.ble ifs.len 1 && chkE { c with lam := false } elt (relS scope sc) el))))
    | _ => false)
  | .srt a, sc, e => (match e with
    | .Call (.Name x _) [e1] [] _ => (decide (x = ("sorted" : Str)) && glB sc x) && (plainX e1 && chkE c a sc e1)
    | _ => false)
  | .srtk a, sc, e => (match e with
    | .Call (.Name x _) [e1] [⟨kn, .Lambda ps (.UnaryOp .USub (.Subscript (.Name an _) (.Constant (.int n) _ _) _) _) ls _, _⟩] _ =>
      (c.lam && (decide (x = ("sorted" : Str)) && glB sc x)) && ((decide (kn = some ("key" : Str)) && (decide (n = 1) && (lamP an ps && (lamS an ls && okN an)))) && (plainX e1 && chkE c a sc e1))
    | _ => false)
  | .lrg1 tr a, sc, e => (match e with
    | .Call (.Name x _) [.Call (.Name y _) [e1] [] _] [] _ => ((decide (x = ("list" : Str)) && glB sc x) && (decide (y = ("range" : Str)) && glB sc y)) && (plainX e1 && chkE c a sc e1)
    | _ => false)
  | .lrg2 tr a b, sc, e => (match e with
    | .Call (.Name x _) [.Call (.Name y _) [e1, e2] [] _] [] _ => ((decide (x = ("list" : Str)) && glB sc x) && (decide (y = ("range" : Str)) && glB sc y)) && ((plainX e1 && plainX e2) && (chkE c a sc e1 && chkE c b sc e2))
    | _ => false)
  | .rev a, sc, e => (match e with
    | .Subscript x (.Slice none none (some (.UnaryOp .USub (.Constant (.int n) _ _) _)) _) _ => decide (n = 1) && chkE c a sc x
    | _ => false)
  | .frz a, sc, e => chkE c a sc e
def chkEs (c : Ck) : IEs → Scope → List Expr → Bool
  | .nil, sc, es => (match es with
    | [] => true
    | _ => false)
  | .cons a as, sc, es => (match es with
    | e :: es => plainX e && (chkE c a sc e && chkEs c as sc es)
    | _ => false)
def chkKs (c : Ck) : IEs → List Str → Scope → List Keyword → Bool
  | .nil, ks, sc, kws => (match ks, kws with
    | [], [] => true
    | _, _ => false)
  | .cons a as, ks, sc, kws => (match ks, kws with
    | k :: ks, ⟨some n, e, _⟩ :: kws => decide (n = k) && (chkE c a sc e && chkKs c as ks sc kws)
    | _, _ => false)
def chkBs (c : Ck) : IEs → Scope → List Expr → Bool
  | .nil, sc, es => false
  | .cons a as, sc, es => (match es with
    | [] => false
    | e :: es => (match es with
      | [] => chkE c a sc e && Nat.ble as.len 0
      | _ => chkE c a sc e && chkBs c as sc es))
def chkO (c : Ck) : IEs → Scope → Option Expr → Bool
  | .nil, sc, o => (match o with
    | none => true
    | _ => false)
  | .cons a _, sc, o => (match o with
    | some e => chkE c a sc e
    | _ => false)
def chkI (c : Ck) : II → Scope → Expr → Expr → Bool
  | .seq a, sc, tg, e => chkE c a sc e
  | .rng1 a, sc, tg, e => (match e with
    | .Call (.Name x _) [e1] [] _ => (decide (x = ("range" : Str)) && glB sc x) && (plainX e1 && chkE c a sc e1)
    | _ => false)
  | .rng2 a b, sc, tg, e => (match e with
    | .Call (.Name x _) [e1, e2] [] _ => (decide (x = ("range" : Str)) && glB sc x) && ((plainX e1 && plainX e2) && (chkE c a sc e1 && chkE c b sc e2))
    | _ => false)
  | .rng3 a b d, sc, tg, e => (match e with
    | .Call (.Name x _) [e1, e2, e3] [] _ => (decide (x = ("range" : Str)) && glB sc x) && ((plainX e1 && (plainX e2 && plainX e3)) && (chkE c a sc e1 && (chkE c b sc e2 && chkE c d sc e3)))
    | _ => false)
  | .enum a, sc, tg, e => (match tg with
    | .Tuple _ _ _ => (match e with
      | .Call (.Name x _) [e1] [] _ => (decide (x = ("enumerate" : Str)) && glB sc x) && (plainX e1 && chkE c a sc e1)
      | _ => false)
    | _ => false)
end

/-! ### what the context gives -/
def T0 (ts : List (Addr × Str)) : Tb := ⟨ts, fun _ _ => False⟩
def spD (K : PySem.W.Frag) (ts : List (Addr × Str)) (Δ : Den) (ar i : Nat) : Sp := fun vs H Q E => vs.length = ar ∧ ∃ (W : Wd) (ds : List D), W.H = H ∧ SR K (T0 ts) W ∧ VRs K W ds vs ∧ After K (T0 ts) W (Δ i ds W.S) (Gv K Q)
structure FeOk (P : Program) (w : World) (K : PySem.W.Frag) (mg : Str → Option Value) (base : Heap) (ts : List (Addr × Str)) (Δ : Den) (k i : Nat) (fe : Fe) (f : Addr) (fd : FuncData) (ps : List Str) : Prop where
  ok : FnOk P w K mg base CX0 k f fd ps (spD K ts Δ fe.ar i)
  mg : mg fe.name = some (.ref f)
  kp : PySem.W.keepIn K (.ref f) = true
  bind : ∀ p ∈ fe.df, ∃ (dvs : List V) (dsV : List Value), (∀ W, VRs K W p.2 dvs) ∧ Vals dvs dsV ∧ Binds K fd ps dsV
  kbind : ∀ p ∈ fe.kw, KBn K fd ps p.1 p.2 (fun us ws => us ++ ws) (fun vs zs => vs ++ zs)
structure XOk (c : Ck) (T : Tb) (Δ : Den) (X : Cx) : Prop where
  calm : X.calm = true
  N : X.N = c.N
  nd : c.N.Nodup
  fns : ∃ k, Room (k + 4) X.A ∧ ∀ i fe, c.fs[i]? = some fe → ∃ f fd ps, FeOk X.prog X.w X.K X.mg X.base T.tabs Δ (k + 4) i fe f fd ps
  lam : c.lam = true → LamC X T.tabs
  mute : T = T0 T.tabs
  blt : ∀ x ∈ bltNames, X.mg x = none
  lcm : X.mg "lcm" = some (.builtin "math.lcm")
section
variable {c : Ck} {T : Tb} {Δ : Den} {X : Cx}
theorem XOk.hu (h : XOk c T Δ X) : X.A.units + 1 < cLine := by
  obtain ⟨k, r, _⟩ := h.fns
  exact hu_of r
theorem XOk.hu64 (h : XOk c T Δ X) : X.A.units + 64 < cLine := by
  obtain ⟨k, r, _⟩ := h.fns
  exact r.units
theorem XOk.blk (h : XOk c T Δ X) (s : Shared) (H : Hp) (scope : Scope) (env : Env) (fp : List Addr) : XOk { c with lam := false } T.mute Δ (X.blk s H scope env fp) :=
  ⟨h.calm, h.N, h.nd, h.fns, fun z => (Bool.false_ne_true z).elim, rfl, h.blt, h.lcm⟩
end
theorem vis_of {sc : Scope} {x : Str} (h : visB sc x = true) : Vis sc x := by
  unfold visB at h
  split at h
  · exact .inl (by assumption)
  · exact .inr (.inl (by assumption))
  · exact .inr (.inr (by assumption))
  · cases h
theorem gl_of {X : Cx} {x : Str} (h : glB X.env.scope x = true) : Gl X x := by
  unfold glB at h
  split at h
  · assumption
  · cases h
theorem lcl_of {sc : Scope} {x : Str} (h : lclB sc x = true) : sc.names.lookup x = some .local := by
  unfold lclB at h
  split at h
  · assumption
  · cases h
theorem blk_of {scope sc : Scope} {x : Str} (h : blkB scope sc x = true) : Loc (relS scope sc) x ∧ ((scope.names.lookup x == some .cell) = true ∨ (relS scope sc).names.lookup x = some .local) := by
  unfold blkB at h
  rw [Bool.or_eq_true, Bool.and_eq_true] at h
  rcases h with h | ⟨h1, h2⟩
  · exact ⟨.inl (lcl_of h), .inr (lcl_of h)⟩
  · refine ⟨.inr ?_, .inl h2⟩
    split at h1
    · assumption
    · cases h1
theorem loc_of {sc : Scope} {x : Str} (h : locB sc x = true) : Loc sc x := by
  unfold locB at h
  split at h
  · exact .inl (by assumption)
  · exact .inr (by assumption)
  · cases h
theorem okN_of {x : Str} (h : okN x = true) : (x == ("__debug__" : Str)) = false ∧ (x == ("__classdict__" : Str)) = false := by
  unfold okN at h
  rw [Bool.and_eq_true, Bool.not_eq_true', Bool.not_eq_true'] at h
  exact h
theorem nomark_of {e : Expr} (h : plainX e = true) (op : CmpOp) : behindInMarks op e = false := by
  cases e <;> first | rfl | exact absurd h Bool.false_ne_true
theorem lastm_of {e b : Expr} (h : plainX e = true) (op op' : CmpOp) : lastMarks [op, op'] [b, e] = false := by
  show behindInMarks op' e = false
  exact nomark_of h op'
theorem star_of {e : Expr} (h : plainX e = true) (es : List Expr) (env : Env) : starEach (e :: es) env = (false, eval e env) :: starEach es env := by
  cases e <;> first | rfl | exact absurd h Bool.false_ne_true
theorem ix_of {e : Expr} (h : plainX e = true) : PlainIx e := by
  intro o i
  cases e <;> first | rfl | exact absurd h Bool.false_ne_true
theorem fold_of {e : Expr} (h : plainX e = true) (env : Env) (x : Value) : foldedSetIterable e env x = pure x := by
  cases e <;> first | rfl | exact absurd h Bool.false_ne_true
theorem base_of {e : Expr} (h : noCall e = true) (x : Str) (env : Env) : attributeBase e x env (eval e env) = eval e env := by
  cases e <;> first | rfl | exact absurd h Bool.false_ne_true
def plains : List Expr → Bool
  | [] => true
  | e :: es => plainX e && plains es
theorem plains_any : ∀ {es : List Expr} (pos : Pos) (env : Env), plains es = true → (backTo pos (starEach es env)).any (·.1) = false
  | [], _, _, _ => rfl
  | e :: es, pos, env, h => by
    replace h : (plainX e && plains es) = true := h
    rw [Bool.and_eq_true] at h
    rw [star_of h.1]
    exact plains_any pos env h.2
theorem plains_all : ∀ {es : List Expr} (pos : Pos) (env : Env), plains es = true → (backTo pos (starEach es env)).all (fun x => !x.1) = true
  | [], _, _, _ => rfl
  | e :: es, pos, env, h => by
    replace h : (plainX e && plains es) = true := h
    rw [Bool.and_eq_true] at h
    rw [star_of h.1]
    exact plains_all pos env h.2
theorem chkEs_plains {c : Ck} {sc : Scope} : ∀ {as : IEs} {es : List Expr}, chkEs c as sc es = true → plains es = true ∧ es.length = as.len
  | .nil, [], _ => ⟨rfl, rfl⟩
  | .nil, _ :: _, h => absurd h Bool.false_ne_true
  | .cons a as, [], h => absurd h Bool.false_ne_true
  | .cons a as, e :: es, h => by
    replace h : (plainX e && (chkE c a sc e && chkEs c as sc es)) = true := h
    rw [Bool.and_eq_true, Bool.and_eq_true] at h
    obtain ⟨h1, h2⟩ := chkEs_plains h.2.2
    exact ⟨by show (plainX e && plains es) = true; rw [h.1, h1]; rfl, by show es.length + 1 = as.len + 1; rw [h2]⟩
end L2.PV

/-! PV, part 13: what is checked is read by the evaluator: expressions. -/
namespace L2.PV
open PySem PySem.Spec PyProof.Rows LamX

theorem an {a b : Bool} (h : (a && b) = true) : a = true ∧ b = true := by rwa [Bool.and_eq_true] at h
theorem rt_bad {X : Cx} {T : Tb} {Δ : Den} {g : IE} {e : Expr} (h : ∀ env S, evT Δ g env S = .bad) : PT X e (tT X.K T Δ g) := ⟨fun pins s σ H Q I ⟨W, env, e, er, sr, q⟩ => by
  rw [h] at q
  exact (q : False).elim⟩
theorem const_of {X : Cx} {T : Tb} {Δ : Den} {d : D} {k : Const} {j : Nat} {pos : Pos} (h : cstB d k = true) : PE X (.Constant k j pos) (tE X.K T Δ (.cst d)) := by
  cases d <;> cases k <;> first
    | exact absurd h Bool.false_ne_true
    | exact re_cst pe_non fun _ => rfl
    | (rw [show _ = _ from of_decide_eq_true h]; exact re_cst pe_bl fun _ => rfl)
    | (rw [show _ = _ from of_decide_eq_true h]; exact re_cst pe_int fun _ => rfl)
    | (rw [show _ = _ from of_decide_eq_true h]; exact re_cst pe_str fun _ => rfl)
theorem boot_of (b : Blt) : bootBuiltins b.nm = some b.val ∨ b = .lcm := by
  cases b <;> first | exact .inr rfl | exact .inl (by decide +kernel)
theorem blt_pe {X : Cx} {T : Tb} {Δ : Den} {c : Ck} (h : XOk c T Δ X) {b : Blt} {tr : Bool} {x : Str} {p pos : Pos} {e1 : Expr} {es : List Expr} {as : IEs} (hx : x = b.nm) (hg : glB X.env.scope x = true) (hpl : plains (e1 :: es) = true)
    (ha : PA X (e1 :: es) (tA X.K T Δ as)) : PE X (.Call (.Name x p) (e1 :: es) [] pos) (tE X.K T Δ (.blt b tr as)) := by
  obtain ⟨p1, p2⟩ := an (show (plainX e1 && plains es) = true from hpl)
  have hs := star_of p1 es X.env
  have hp := plains_any pos X.env p2
  have hd := blt_D (X := X) (T := T) h.calm h.hu64 tr b
  have hgl := gl_of hg
  subst hx
  refine re_blt fun t ht => ?_
  subst ht
  cases b with
  | len => exact pe_callB hd hgl (h.blt _ (by decide)) (by decide +kernel) ha (by decide) (by decide) hs hp
  | int => exact pe_callTy hd hgl (h.blt _ (by decide)) (by decide +kernel) ha (by decide) (by decide) hs hp
  | abs => exact pe_callB hd hgl (h.blt _ (by decide)) (by decide +kernel) ha (by decide) (by decide) hs hp
  | sum => exact pe_callB hd hgl (h.blt _ (by decide)) (by decide +kernel) ha (by decide) (by decide) hs hp
  | max1 => exact pe_callB hd hgl (h.blt _ (by decide)) (by decide +kernel) ha (by decide) (by decide) hs hp
  | min1 => exact pe_callB hd hgl (h.blt _ (by decide)) (by decide +kernel) ha (by decide) (by decide) hs hp
  | max2 => exact pe_callB hd hgl (h.blt _ (by decide)) (by decide +kernel) ha (by decide) (by decide) hs hp
  | min2 => exact pe_callB hd hgl (h.blt _ (by decide)) (by decide +kernel) ha (by decide) (by decide) hs hp
  | list => exact pe_callTy hd hgl (h.blt _ (by decide)) (by decide +kernel) ha (by decide) (by decide) hs hp
  | tuple => exact pe_callTy hd hgl (h.blt _ (by decide)) (by decide +kernel) ha (by decide) (by decide) hs hp
  | str => exact pe_callTy hd hgl (h.blt _ (by decide)) (by decide +kernel) ha (by decide) (by decide) hs hp
  | lcm => exact pe_callBfun hd hgl h.lcm ha (by decide) hs hp
theorem isi_pe {X : Cx} {T : Tb} {Δ : Den} {c : Ck} (h : XOk c T Δ X) {a : IE} {t : Ty} {x y : Str} {p p2 pos : Pos} {e1 : Expr} (hx : x = ("isinstance" : Str)) (hg : glB X.env.scope x = true) (hy : y = (t.name : Str)) (hg2 : glB X.env.scope y = true) (hpl : plainX e1 = true)
    (ha : PE X e1 (tE X.K T Δ a)) : PE X (.Call (.Name x p) [e1, .Name y p2] [] pos) (tE X.K T Δ (.isi a t)) := by
  subst hx hy
  have hgl := gl_of hg
  have hgl2 := gl_of hg2
  have hs := star_of hpl [.Name (t.name : Str) p2] X.env
  have hty : PE X (.Name (t.name : Str) p2) (tC (.ty t.name)) := by
    cases t with
    | tuple => exact pe_bltn (u := .type "tuple") hgl2 (h.blt _ (by decide)) (by decide +kernel) rfl (by decide) (by decide)
    | str => exact pe_bltn (u := .type "str") hgl2 (h.blt _ (by decide)) (by decide +kernel) rfl (by decide) (by decide)
    | bool => exact pe_bltn (u := .type "bool") hgl2 (h.blt _ (by decide)) (by decide +kernel) rfl (by decide) (by decide)
    | int => exact pe_bltn (u := .type "int") hgl2 (h.blt _ (by decide)) (by decide +kernel) rfl (by decide) (by decide)
    | list => exact pe_bltn (u := .type "list") hgl2 (h.blt _ (by decide)) (by decide +kernel) rfl (by decide) (by decide)
  exact re_isi (fun _ _ _ z => z) (pe_callB (isi_D (T := T)) hgl (h.blt _ (by decide)) (by decide +kernel) (pa_cons ha (pa_cons hty pa_nil (by rfl)) hs) (by decide) (by decide) hs (by rfl))
theorem srt_pe {X : Cx} {T : Tb} {Δ : Den} {c : Ck} (h : XOk c T Δ X) {a : IE} {x : Str} {p pos : Pos} {e1 : Expr} (hx : x = ("sorted" : Str)) (hg : glB X.env.scope x = true) (hpl : plainX e1 = true)
    (ha : PE X e1 (tE X.K T Δ a)) : PE X (.Call (.Name x p) [e1] [] pos) (tE X.K T Δ (.srt a)) := by
  subst hx
  have hs := star_of hpl [] X.env
  exact re_srt (pe_callB (srt_D (T := T) h.hu64) (gl_of hg) (h.blt _ (by decide)) (by decide +kernel) (pa_cons ha pa_nil hs) (by decide) (by decide) hs (by rfl))
theorem met_pe {X : Cx} {T : Tb} {Δ : Den} {c : Ck} (h : XOk c T Δ X) {m : Mth} {a : IE} {as : IEs} {nm : Str} {apos cpos : Pos} {eo e1 : Expr} {es : List Expr} (hn : nm = m.name) (hl : (apos.endLine == cpos.line) = true) (hc : noCall eo = true)
    (h20 : Nat.ble as.len 20 = true) (hlen : (e1 :: es).length = as.len) (hpl : plains (e1 :: es) = true) (ho : PE X eo (tE X.K T Δ a)) (ha : PA X (e1 :: es) (tA X.K T Δ as)) : PE X (.Call (.Attribute eo nm apos) (e1 :: es) [] cpos) (tE X.K T Δ (.met m a as)) := by
  obtain ⟨p1, p2⟩ := an (show (plainX e1 && plains es) = true from hpl)
  have hs := star_of p1 es X.env
  have hp := plains_any cpos X.env p2
  have hb := base_of hc nm X.env
  have hle : as.len ≤ 20 := Nat.le_of_ble_eq_true h20
  have hfew : ((backTo cpos (starEach (e1 :: es) X.env)).all (fun x => !x.1) && (backToKw cpos (keywordEach [] X.env)).all (fun x => x.1.isSome)
      && decide ((e1 :: es).length + ([] : List Keyword).length + (if ([] : List Keyword).isEmpty then 0 else 1) < 30)) = true := by
    rw [plains_all cpos X.env hpl, hlen]
    have : as.len + ([] : List Keyword).length + (if ([] : List Keyword).isEmpty then 0 else 1) < 30 := by
      show as.len + 0 + 0 < 30
      omega
    rw [decide_eq_true this]
    rfl
  have hd := met_D (X := X) (T := T) h.hu m
  subst hn
  refine re_met ?_
  cases m with
  | append => exact pe_bm PySem.F.plainAttrs_list PySem.F.slot_list_append PySem.F.type_list_append hd ho ha hb hfew hl hs hp
  | ins => exact pe_bm PySem.F.plainAttrs_list PySem.F.slot_list_insert PySem.F.type_list_insert hd ho ha hb hfew hl hs hp
  | pop1 => exact pe_bm PySem.F.plainAttrs_list PySem.F.slot_list_pop PySem.F.type_list_pop hd ho ha hb hfew hl hs hp
  | find2 => exact pe_bm PySem.F.plainAttrs_str PySem.F.slot_str_find PySem.F.type_str_find hd ho ha hb hfew hl hs hp
  | rfind1 => exact pe_bm PySem.F.plainAttrs_str PySem.F.slot_str_rfind PySem.F.type_str_rfind hd ho ha hb hfew hl hs hp
  | join => exact pe_bm PySem.F.plainAttrs_str PySem.F.slot_str_join PySem.F.type_str_join hd ho ha hb hfew hl hs hp
  | dget1 => exact pe_bm PySem.F.plainAttrs_dict PySem.F.slot_dict_get PySem.F.type_dict_get hd ho ha hb hfew hl hs hp
theorem call_pe {X : Cx} {T : Tb} {Δ : Den} {c : Ck} (h : XOk c T Δ X) {f : Nat} {as : IEs} {ds : List D} {x : Str} {p pos : Pos} {args : List Expr} {fe : Fe} (hf : c.fs[f]? = some fe) (hx : x = fe.name) (hg : glB X.env.scope x = true) (hk : okN x = true)
    (hdf : (fe.df.any fun p => decide (p.1 = as.len) && scDs p.2 ds) = true) (har : as.len + ds.length = fe.ar) (hlen : args.length = as.len) (hpl : plains args = true) (ha : PA X args (tA X.K T Δ as)) : PE X (.Call (.Name x p) args [] pos) (tE X.K T Δ (.call f as ds)) := by
  obtain ⟨k, hr, hfn⟩ := h.fns
  obtain ⟨fa, fd, ps, F⟩ := hfn f fe hf
  obtain ⟨pr, hm, hq⟩ := List.any_eq_true.mp hdf
  obtain ⟨_, hq2⟩ := an hq
  obtain ⟨dvs, dsV, hv, hvv, hb⟩ := F.bind pr hm
  rw [scDs_eq hq2] at hv
  subst hx
  have hgl := gl_of hg
  have hmute := h.mute
  have key : ∀ σ H Q, tE X.K T Δ (.call f as ds) σ H Q → tCall (spD X.K T.tabs Δ fe.ar f) dvs E0 (tA X.K T Δ as) σ H Q := fun σ H Q ⟨W, env, e, er, sr, q⟩ => by
    subst e
    refine tA.stepL er sr q fun xs W1 vs el x1 s1 e1 r1 q1 => ⟨?_, W1, xs ++ ds, rfl, ?_, r1.append (hv W1), ?_⟩
    · rw [List.length_append, ← r1.len, ← (hv W1).len, el, har]
    · rw [← hmute]; exact s1
    · rw [← hmute]; exact q1
  cases args with
  | nil =>
    refine PE.imp (pe_call0 F.ok hr hgl F.mg F.kp hb hvv pass0 (okN_of hk).1) fun σ H Q hq => ?_
    -- no arguments
    have hq' := key σ H Q hq
    cases as with
    | nil =>
      obtain ⟨W, env, e, er, sr, q⟩ := hq'
      subst e
      exact After.here sr (show After X.K T W (.ok [] W.S) _ from q) [] rfl
    | cons a as => exact absurd hlen (Nat.ne_of_lt (Nat.succ_pos _))
  | cons e1 es =>
    obtain ⟨p1, p2⟩ := an (show (plainX e1 && plains es) = true from hpl)
    exact PE.imp (pe_call F.ok hr hgl F.mg F.kp hb hvv pass0 ha (okN_of hk).1 (star_of p1 es X.env) (plains_any pos X.env p2)) key
/-- keywords: their values -/
theorem rk_nil {X : Cx} {T : Tb} {Δ : Den} : PK X [] (tA X.K T Δ .nil) := ⟨fun pos pins s σ H Q I ⟨W, env, e, er, sr, q⟩ => by
  subst e
  exact pk_nil.run pos pins s σ W.H Q I (After.here sr (show After X.K T W (.ok [] W.S) _ from q) [] rfl)⟩
theorem rk_cons {X : Cx} {T : Tb} {Δ : Den} {a : IE} {as : IEs} {ea : Expr} {nm : Option Str} {kpos : Pos} {kws : List Keyword} (ha : PE X ea (tE X.K T Δ a)) (hr : PK X kws (tA X.K T Δ as)) : PK X (⟨nm, ea, kpos⟩ :: kws) (tA X.K T Δ (.cons a as)) :=
  ⟨fun pos pins s σ H Q I ⟨W, env, e, er, sr, q⟩ => by
    subst e
    refine (pk_cons ha hr).run pos pins s σ W.H Q I ?_
    refine tE.step er sr q fun x W1 v x1 s1 e1 r1 q1 => ?_
    refine tA.step e1 s1 q1 fun ds W2 vs x2 s2 e2 r2 q2 => ?_
    exact After.here s2 (show After X.K T W2 (.ok (x :: ds) W2.S) _ from q2) (v :: vs) ⟨v, vs, rfl, r1.mono s1 x2.toExt0, r2⟩⟩
theorem chkKs_plain {c : Ck} {sc : Scope} {env : Env} {pos : Pos} : ∀ {as : IEs} {ks : List Str} {kws : List Keyword}, chkKs c as ks sc kws = true →
    ks.length = as.len ∧ (backToKw pos (keywordEach kws env)).all (·.1.isSome) = true ∧ (backToKw pos (keywordEach kws env)).filterMap (·.1) = ks ∧ (backToKw pos (keywordEach kws env)).any (·.1.isNone) = false
  | .nil, [], [], _ => ⟨rfl, rfl, rfl, rfl⟩
  | .nil, _ :: _, _, h => absurd h Bool.false_ne_true
  | .nil, [], _ :: _, h => absurd h Bool.false_ne_true
  | .cons a as, [], _, h => absurd h Bool.false_ne_true
  | .cons a as, _ :: _, [], h => absurd h Bool.false_ne_true
  | .cons a as, _ :: _, ⟨none, _, _⟩ :: _, h => absurd h Bool.false_ne_true
  | .cons a as, k :: ks, ⟨some n, e, p⟩ :: kws, h => by
    obtain ⟨h1, h2⟩ := an (show (decide (n = k) && (chkE c a sc e && chkKs c as ks sc kws)) = true from h)
    obtain ⟨h2, h3⟩ := an h2
    have en := of_decide_eq_true h1
    subst en
    obtain ⟨g1, g2, g3, g4⟩ := chkKs_plain (env := env) (pos := pos) h3
    refine ⟨by show ks.length + 1 = as.len + 1; rw [g1], g2, ?_, g4⟩
    show n :: (backToKw pos (keywordEach kws env)).filterMap (·.1) = n :: ks
    rw [g3]
theorem callk_pe {X : Cx} {T : Tb} {Δ : Den} {c : Ck} (h : XOk c T Δ X) {f : Nat} {as kes : IEs} {ks : List Str} {x : Str} {p pos : Pos} {args : List Expr} {kws : List Keyword} {fe : Fe} (hf : c.fs[f]? = some fe) (hx : x = fe.name) (hg : glB X.env.scope x = true) (hk : okN x = true)
    (hkw : (fe.kw.any fun p => decide (p.1 = as.len) && decide (p.2 = ks)) = true) (h1 : Nat.ble 1 as.len = true) (har : as.len + kes.len = fe.ar) (hlen : args.length = as.len) (hpl : plains args = true) (hck : chkKs c kes ks X.env.scope kws = true)
    (ha : PA X args (tA X.K T Δ as)) (hka : PK X kws (tA X.K T Δ kes)) : PE X (.Call (.Name x p) args kws pos) (tE X.K T Δ (.callk f as ks kes)) := by
  obtain ⟨k, hr, hfn⟩ := h.fns
  obtain ⟨fa, fd, ps, F⟩ := hfn f fe hf
  obtain ⟨pr, hm, hq⟩ := List.any_eq_true.mp hkw
  obtain ⟨e1, e2⟩ := an hq
  have e1 := of_decide_eq_true e1
  have e2 := of_decide_eq_true e2
  have hb := F.kbind pr hm
  rw [e1, e2] at hb
  subst hx
  have hgl := gl_of hg
  have hmute := h.mute
  obtain ⟨g1, g2, g3, g4⟩ := chkKs_plain (env := X.env) (pos := pos) hck
  cases args with
  | nil =>
    have := Nat.le_of_ble_eq_true h1
    rw [← hlen] at this
    exact absurd this (Nat.not_succ_le_zero 0)
  | cons e1 es =>
    obtain ⟨p1, p2⟩ := an (show (plainX e1 && plains es) = true from hpl)
    refine PE.imp (pe_callN F.ok hr hgl F.mg F.kp hb pass0 ha hka g2 g3 (okN_of hk).1 (star_of p1 es X.env) (by rw [plains_any pos X.env hpl, g4]; rfl)) fun σ H Q ⟨W, env, e, er, sr, q⟩ => ?_
    subst e
    refine tA.stepL er sr q fun xs W1 vs el x1 s1 er1 r1 q1 => ?_
    refine tA.stepL er1 s1 q1 fun zs W2 us el2 x2 s2 er2 r2 q2 => ⟨?_, ?_, ?_⟩
    · rw [← r1.len, el]
    · rw [← r2.len, el2, g1]
    · have r1' := r1.mono s1 x2.toExt0
      refine ⟨?_, W2, xs ++ zs, rfl, ?_, r1'.append r2, ?_⟩
      · rw [List.length_append, ← r1.len, ← r2.len, el, el2, har]
      · rw [← hmute]; exact s2
      · rw [← hmute]; exact q2
/-! targets -/
theorem tg_pg {X : Cx} {c : Ck} (hN : X.N = c.N) (hnd : c.N.Nodup) {p : Str → Bool} (hp : ∀ x, p x = true → Loc X.env.scope x ∧ (X.fn x = true ∨ X.env.scope.names.lookup x = some .local)) {i : Nat} {e : Expr} (h : tgB c p i e = true) : PG X e (gName i) ∧ ∀ es, starEach (e :: es) X.env = (false, eval e X.env) :: starEach es X.env ∧ assignEach (e :: es) X.env = (false, assign e X.env) :: assignEach es X.env := by
  cases e with
  | Name x pos =>
    obtain ⟨h1, h2⟩ := an (show (decide (c.N[i]? = some x) && p x) = true from h)
    obtain ⟨h3, h4⟩ := hp x h2
    exact ⟨pg_name (by rw [hN]; exact hnd) (by rw [hN]; exact of_decide_eq_true h1) h3 h4, fun es => ⟨rfl, rfl⟩⟩
  | _ => exact absurd h Bool.false_ne_true
theorem tgs_pg {X : Cx} {c : Ck} (hN : X.N = c.N) (hnd : c.N.Nodup) {p : Str → Bool} (hp : ∀ x, p x = true → Loc X.env.scope x ∧ (X.fn x = true ∨ X.env.scope.names.lookup x = some .local)) : ∀ {is : List Nat} {es : List Expr}, tgsB c p is es = true → PGs X es (gNs is) ∧ (assignEach es X.env).length = is.length ∧ (assignEach es X.env).findIdx? (·.1) = none
  | [], [], _ => ⟨pgs_nil, rfl, rfl⟩
  | i :: is, e :: es, h => by
    obtain ⟨h1, h2⟩ := an (show (tgB c p i e && tgsB c p is es) = true from h)
    obtain ⟨g1, g2⟩ := tg_pg hN hnd hp h1
    obtain ⟨g3, g4, g5⟩ := tgs_pg hN hnd hp h2
    refine ⟨pgs_cons g1 g3 (by rw [(g2 es).2]; rfl), by rw [(g2 es).2, List.length_cons, g4]; rfl, ?_⟩
    rw [(g2 es).2, List.findIdx?_cons, g5]
    rfl
  | [], _ :: _, h => absurd h Bool.false_ne_true
  | _ :: _, [], h => absurd h Bool.false_ne_true
theorem tg_ok {X : Cx} {c : Ck} (hN : X.N = c.N) (hnd : c.N.Nodup) (hc : X.calm = true) {p : Str → Bool} (hp : ∀ x, p x = true → Loc X.env.scope x ∧ (X.fn x = true ∨ X.env.scope.names.lookup x = some .local)) {tg : Tg} {e : Expr} (h : chkTg c p tg e = true) : PG X e (gR X.K tg) := by
  cases tg with
  | nm i => exact (tg_pg hN hnd hp h).1
  | tp is =>
    cases e with
    | Tuple es k pos =>
      obtain ⟨g1, g2, g3⟩ := tgs_pg hN hnd hp (show tgsB c p is es = true from h)
      exact pg_tup hc g1 g2 g3
    | _ => exact absurd h Bool.false_ne_true
end L2.PV

/-! PV, part 14: what is checked is read by the evaluator: the induction. -/
namespace L2.PV
open PySem PySem.Spec PyProof.Rows LamX

theorem bind1 {q : Str} {pm cv ctv v : Value} {x : Str} {ann : Option Expr} {pp : Pos} {body : Expr} {ls : Scope} : bindArgs (PySem.W.kla_fn "<lambda>" q ⟨[], [⟨x, ann, pp⟩], none, [], [], none, []⟩ body ls [] pm cv ctv) ⟨[v], []⟩ = pure [(x, v)] := by
  have hs : seqItems? Value.none = pure none := rfl
  have hx : (x == x) = true := beq_self_eq_true x
  unfold bindArgs
  simp only [hs, pure_bind]
  simp [hx]
theorem an2 {a b : Bool} (h : (a && b) = true) : a = true ∧ b = true := an h
def LsOk (X : Cx) (T : Tb) (Δ : Den) (as : IEs) (es : List Expr) : Prop := PA X es (tA X.K T Δ as)
def BsOk (X : Cx) (T : Tb) (Δ : Den) (as : IEs) (es : List Expr) : Prop := ∀ pos, PE X (.BoolOp .And es pos) (tAn X.K T Δ as) ∧ PE X (.BoolOp .Or es pos) (tOn X.K T Δ as) ∧ PW X (.BoolOp .And es pos) (tTA X.K T Δ as) ∧ PW X (.BoolOp .Or es pos) (tTO X.K T Δ as)
theorem of_len0 {as : IEs} (h : Nat.ble as.len 0 = true) : as = .nil := by
  cases as with
  | nil => rfl
  | cons a as => exact absurd h Bool.false_ne_true
theorem of_len1 {as : IEs} (h : Nat.ble as.len 1 = true) : as = .nil ∨ ∃ a, as = .cons a .nil := by
  cases as with
  | nil => exact .inl rfl
  | cons a as => cases as with
    | nil => exact .inr ⟨a, rfl⟩
    | cons b bs => exact absurd h Bool.false_ne_true
mutual
theorem sndE {c : Ck} {Δ : Den} : ∀ (g : IE) {X : Cx} {T : Tb} {e : Expr}, XOk c T Δ X → chkE c g X.env.scope e = true → PE X e (tE X.K T Δ g) ∧ PT X e (tT X.K T Δ g)
  | .var i, X, T, e, h, hk => by
    cases e with
    | Name x pos =>
      obtain ⟨h1, h2⟩ := an (show (decide (c.N[i]? = some x) && (visB X.env.scope x && okN x)) = true from hk)
      obtain ⟨h2, h3⟩ := an h2
      have hp := re_var (T := T) (Δ := Δ) (pe_var (X := X) (pos := pos) (by rw [h.N]; exact of_decide_eq_true h1) (vis_of h2) (okN_of h3).1 (okN_of h3).2)
      refine ⟨hp, rt_any hp (fun env S => ?_) fun _ => rfl⟩
      show (match env[i]? with
        | some (some d) => PV.R.of (truF S d) S
        | _ => .bad) = (match env[i]? with
        | some (some d) => PV.R.ok d S
        | _ => .bad).bind _
      cases env[i]? with
      | none => rfl
      | some o => cases o <;> rfl
    | _ => exact absurd hk Bool.false_ne_true
  | .cst d, X, T, e, h, hk => by
    cases e with
    | Constant k j pos =>
      have hp := const_of (X := X) (T := T) (Δ := Δ) (j := j) (pos := pos) (show cstB d k = true from hk)
      exact ⟨hp, rt_any hp (fun env S => rfl) fun _ => rfl⟩
    | _ => exact absurd hk Bool.false_ne_true
  | .bin op a b, X, T, e, h, hk => by
    cases e with
    | BinOp l o r pos =>
      obtain ⟨h1, h2⟩ := an (show (decide (o = op) && (chkE c a X.env.scope l && chkE c b X.env.scope r)) = true from hk)
      obtain ⟨h2, h3⟩ := an h2
      have e := of_decide_eq_true h1
      subst e
      exact ⟨re_bin (sndE a h h2).1 (sndE b h h3).1, rt_bad fun _ _ => rfl⟩
    | _ => exact absurd hk Bool.false_ne_true
  | .neg a, X, T, e, h, hk => by
    cases e with
    | UnaryOp o l pos =>
      cases o with
      | USub => exact ⟨re_neg (sndE a h (show chkE c a X.env.scope l = true from hk)).1, rt_bad fun _ _ => rfl⟩
      | _ => exact absurd hk Bool.false_ne_true
    | _ => exact absurd hk Bool.false_ne_true
  | .not a, X, T, e, h, hk => by
    cases e with
    | UnaryOp o l pos =>
      cases o with
      | Not =>
        have ih := sndE a h (show chkE c a X.env.scope l = true from hk)
        exact ⟨re_not ih.1, rt_not ih.2⟩
      | _ => exact absurd hk Bool.false_ne_true
    | _ => exact absurd hk Bool.false_ne_true
  | .cmp op a b, X, T, e, h, hk => by
    cases e with
    | Compare l os rs pos =>
      match os, rs, hk with
      | [o], [r], hk =>
        obtain ⟨h1, h2⟩ := an (show (decide (o = op) && (plainX r && (chkE c a X.env.scope l && chkE c b X.env.scope r))) = true from hk)
        obtain ⟨h2, h3⟩ := an h2
        obtain ⟨h3, h4⟩ := an h3
        have e := of_decide_eq_true h1
        subst e
        exact ⟨re_cmp h.hu64 (sndE a h h3).1 (sndE b h h4).1 (nomark_of h2 _), rt_cmp h.hu64 (sndE a h h3).1 (sndE b h h4).1 (nomark_of h2 _)⟩
      | [], _, hk => exact absurd hk Bool.false_ne_true
      | [_], [], hk => exact absurd hk Bool.false_ne_true
      | [_], _ :: _ :: _, hk => exact absurd hk Bool.false_ne_true
      | _ :: _ :: _, _, hk => exact absurd hk Bool.false_ne_true
    | _ => exact absurd hk Bool.false_ne_true
  | .chn op op' a b d, X, T, e, h, hk => by
    cases e with
    | Compare l os rs pos =>
      match os, rs, hk with
      | [o, o'], [r, r'], hk =>
        obtain ⟨h1, h2⟩ := an (show ((decide (o = op) && decide (o' = op')) && (plainX r' && (chkE c a X.env.scope l && (chkE c b X.env.scope r && chkE c d X.env.scope r')))) = true from hk)
        obtain ⟨h2, h3⟩ := an h2
        obtain ⟨h3, h4⟩ := an h3
        obtain ⟨h4, h5⟩ := an h4
        obtain ⟨h1, h1'⟩ := an h1
        have e := of_decide_eq_true h1
        subst e
        have e := of_decide_eq_true h1'
        subst e
        exact ⟨re_chn h.hu64 (sndE a h h3).1 (sndE b h h4).1 (sndE d h h5).1 (lastm_of h2 _ _), rt_chn h.hu64 (sndE a h h3).1 (sndE b h h4).1 (sndE d h h5).1 (lastm_of h2 _ _)⟩
      | [], _, hk => exact absurd hk Bool.false_ne_true
      | [_], _, hk => exact absurd hk Bool.false_ne_true
      | [_, _], [], hk => exact absurd hk Bool.false_ne_true
      | [_, _], [_], hk => exact absurd hk Bool.false_ne_true
      | [_, _], _ :: _ :: _ :: _, hk => exact absurd hk Bool.false_ne_true
      | _ :: _ :: _ :: _, _, hk => exact absurd hk Bool.false_ne_true
    | _ => exact absurd hk Bool.false_ne_true
  | .and es, X, T, e, h, hk => by
    cases e with
    | BoolOp o vs pos =>
      cases o with
      | And =>
        obtain ⟨g1, _, g3, _⟩ := sndB es h (show chkBs c es X.env.scope vs = true from hk) pos
        exact ⟨PE.imp g1 fun _ _ _ z => z, PT.imp (PW.toPT g3) fun _ _ _ z => z⟩
      | Or => exact absurd hk Bool.false_ne_true
    | _ => exact absurd hk Bool.false_ne_true
  | .or es, X, T, e, h, hk => by
    cases e with
    | BoolOp o vs pos =>
      cases o with
      | Or =>
        obtain ⟨_, g2, _, g4⟩ := sndB es h (show chkBs c es X.env.scope vs = true from hk) pos
        exact ⟨PE.imp g2 fun _ _ _ z => z, PT.imp (PW.toPT g4) fun _ _ _ z => z⟩
      | And => exact absurd hk Bool.false_ne_true
    | _ => exact absurd hk Bool.false_ne_true
  | .ife t a b, X, T, e, h, hk => by
    cases e with
    | IfExp et ea eb pos =>
      obtain ⟨h1, h2⟩ := an (show (chkE c t X.env.scope et && (chkE c a X.env.scope ea && chkE c b X.env.scope eb)) = true from hk)
      obtain ⟨h2, h3⟩ := an h2
      exact ⟨re_ife (sndE t h h1).2 (sndE a h h2).1 (sndE b h h3).1, rt_bad fun _ _ => rfl⟩
    | _ => exact absurd hk Bool.false_ne_true
  | .tup es, X, T, e, h, hk => by
    cases e with
    | Tuple vs k pos =>
      obtain ⟨h1, h2⟩ := an (show (Nat.ble es.len 1000 && chkEs c es X.env.scope vs) = true from hk)
      exact ⟨re_tup (sndA es h h2) (Nat.le_of_ble_eq_true h1), rt_bad fun _ _ => rfl⟩
    | _ => exact absurd hk Bool.false_ne_true
  | .lst tr es, X, T, e, h, hk => by
    cases e with
    | List vs pos =>
      obtain ⟨h1, h2⟩ := an (show (Nat.ble es.len 1000 && chkEs c es X.env.scope vs) = true from hk)
      exact ⟨re_lst (sndA es h h2) (Nat.le_of_ble_eq_true h1), rt_bad fun _ _ => rfl⟩
    | _ => exact absurd hk Bool.false_ne_true
  | .dct, X, T, e, h, hk => by
    cases e with
    | Dict ks vs pos =>
      match ks, vs, hk with
      | [], [], _ => exact ⟨re_dct, rt_bad fun _ _ => rfl⟩
      | [], _ :: _, hk => exact absurd hk Bool.false_ne_true
      | _ :: _, _, hk => exact absurd hk Bool.false_ne_true
    | _ => exact absurd hk Bool.false_ne_true
  | .idx a i, X, T, e, h, hk => by
    cases e with
    | Subscript x y pos =>
      obtain ⟨h1, h2⟩ := an (show (plainX y && (chkE c a X.env.scope x && chkE c i X.env.scope y)) = true from hk)
      obtain ⟨h2, h3⟩ := an h2
      have hp := re_idx (pos := pos) h.hu (sndE a (T := T) h h2).1 (sndE i h h3).1 (ix_of h1)
      exact ⟨hp, rt_any hp (fun env S => by
        show (evE Δ a env S).bind _ = ((evE Δ a env S).bind _).bind _
        cases evE Δ a env S with
        | ok x S1 =>
          show (evE Δ i env S1).bind _ = ((evE Δ i env S1).bind _).bind _
          cases evE Δ i env S1 <;> rfl
        | ex _ _ => rfl
        | bad => rfl) fun _ => rfl⟩
    | _ => exact absurd hk Bool.false_ne_true
  | .slc a lo hi, X, T, e, h, hk => by
    cases e with
    | Subscript x y pos =>
      cases y with
      | Slice l u st p2 =>
        cases st with
        | none =>
          obtain ⟨h1, h2⟩ := an (show (chkE c a X.env.scope x && (chkO c lo X.env.scope l && chkO c hi X.env.scope u)) = true from hk)
          obtain ⟨h2, h3⟩ := an h2
          exact ⟨re_slc (sndE a h h1).1 (sndO lo h h2) (sndO hi h h3), rt_bad fun _ _ => rfl⟩
        | some _ => exact absurd hk Bool.false_ne_true
      | _ => exact absurd hk Bool.false_ne_true
    | _ => exact absurd hk Bool.false_ne_true
  | .call f es ds, X, T, e, h, hk => by
    cases e with
    | Call fn args kws pos =>
      cases fn with
      | Name x p =>
        cases kws with
        | nil =>
          replace hk : (match c.fs[f]? with
            | some fe => (decide (x = fe.name) && (glB X.env.scope x && okN x)) && ((fe.df.any fun p => decide (p.1 = es.len) && scDs p.2 ds) && (decide (es.len + ds.length = fe.ar) && chkEs c es X.env.scope args))
            | none => false) = true := hk
          cases hf : c.fs[f]? with
          | none => rw [hf] at hk; exact absurd hk Bool.false_ne_true
          | some fe =>
            rw [hf] at hk
            obtain ⟨h1, h2⟩ := an hk
            obtain ⟨h1, h3⟩ := an h1
            obtain ⟨h3, h4⟩ := an h3
            obtain ⟨h5, h6⟩ := an h2
            obtain ⟨h6, h7⟩ := an h6
            obtain ⟨g1, g2⟩ := chkEs_plains h7
            have hp := call_pe (pos := pos) (p := p) h hf (of_decide_eq_true h1) h3 h4 h5 (of_decide_eq_true h6) g2 g1 (sndA es h h7)
            exact ⟨hp, rt_any hp (fun env S => rfl) fun _ => rfl⟩
        | cons _ _ => exact absurd hk Bool.false_ne_true
      | _ => exact absurd hk Bool.false_ne_true
    | _ => exact absurd hk Bool.false_ne_true
  | .callk f es ks kes, X, T, e, h, hk => by
    cases e with
    | Call fn args kws pos =>
      cases fn with
      | Name x p =>
        replace hk : (match c.fs[f]? with
          | some fe => (decide (x = fe.name) && (glB X.env.scope x && okN x)) && ((fe.kw.any fun p => decide (p.1 = es.len) && decide (p.2 = ks)) && ((Nat.ble 1 es.len && decide (es.len + kes.len = fe.ar)) && (chkEs c es X.env.scope args && chkKs c kes ks X.env.scope kws)))
          | none => false) = true := hk
        cases hf : c.fs[f]? with
        | none => rw [hf] at hk; exact absurd hk Bool.false_ne_true
        | some fe =>
          rw [hf] at hk
          obtain ⟨h1, h2⟩ := an hk
          obtain ⟨h1, h3⟩ := an h1
          obtain ⟨h3, h4⟩ := an h3
          obtain ⟨h5, h6⟩ := an h2
          obtain ⟨h6, h7⟩ := an h6
          obtain ⟨h6, h8⟩ := an h6
          obtain ⟨h7, h9⟩ := an h7
          obtain ⟨g1, g2⟩ := chkEs_plains h7
          exact ⟨callk_pe (pos := pos) (p := p) h hf (of_decide_eq_true h1) h3 h4 h5 h6 (of_decide_eq_true h8) g2 g1 h9 (sndA es h h7) (sndK kes h h9), rt_bad fun _ _ => rfl⟩
      | _ => exact absurd hk Bool.false_ne_true
    | _ => exact absurd hk Bool.false_ne_true
  | .blt b tr es, X, T, e, h, hk => by
    cases e with
    | Call fn args kws pos =>
      cases fn with
      | Name x p =>
        cases kws with
        | nil =>
          obtain ⟨h1, h2⟩ := an (show ((decide (x = b.nm) && glB X.env.scope x) && (Nat.ble 1 es.len && chkEs c es X.env.scope args)) = true from hk)
          obtain ⟨h1, h3⟩ := an h1
          obtain ⟨h4, h5⟩ := an h2
          obtain ⟨g1, g2⟩ := chkEs_plains h5
          cases args with
          | nil =>
            have := Nat.le_of_ble_eq_true h4
            rw [← g2] at this
            exact absurd this (Nat.not_succ_le_zero 0)
          | cons e1 es' =>
            have hp := blt_pe (tr := tr) (pos := pos) (p := p) h (of_decide_eq_true h1) h3 g1 (sndA es h h5)
            exact ⟨hp, rt_any hp (fun env S => rfl) fun _ => rfl⟩
        | cons _ _ => exact absurd hk Bool.false_ne_true
      | _ => exact absurd hk Bool.false_ne_true
    | _ => exact absurd hk Bool.false_ne_true
  | .isi a t, X, T, e, h, hk => by
    cases e with
    | Call fn args kws pos =>
      cases fn with
      | Name x p =>
        match args, kws, hk with
        | [e1, e2], [], hk =>
          cases e2 with
          | Name y p2 =>
            obtain ⟨h1, h2⟩ := an (show (((decide (x = ("isinstance" : Str)) && glB X.env.scope x) && (decide (y = (t.name : Str)) && glB X.env.scope y)) && (plainX e1 && chkE c a X.env.scope e1)) = true from hk)
            obtain ⟨h1, h3⟩ := an h1
            obtain ⟨h1, h4⟩ := an h1
            obtain ⟨h3, h5⟩ := an h3
            obtain ⟨h6, h7⟩ := an h2
            have hp := isi_pe (pos := pos) (p := p) (p2 := p2) h (of_decide_eq_true h1) h4 (of_decide_eq_true h3) h5 h6 (sndE a h h7).1
            refine ⟨hp, rt_any hp (fun env S => ?_) fun _ => rfl⟩
            show (evE Δ a env S).bind _ = ((evE Δ a env S).bind _).bind _
            cases evE Δ a env S with
            | ok x S1 =>
              show PV.R.of (isiF S1 x t) S1 = (PV.R.of ((isiF S1 x t).map D.bl) S1).bind _
              cases isiF S1 x t <;> rfl
            | ex _ _ => rfl
            | bad => rfl
          | _ => exact absurd hk Bool.false_ne_true
        | [], _, hk => exact absurd hk Bool.false_ne_true
        | [_], _, hk => exact absurd hk Bool.false_ne_true
        | _ :: e2 :: _ :: _, _, hk => cases e2 <;> exact absurd hk Bool.false_ne_true
        | [_, e2], k :: ks, hk => cases e2 <;> exact absurd hk Bool.false_ne_true
      | _ => exact absurd hk Bool.false_ne_true
    | _ => exact absurd hk Bool.false_ne_true
  | .met m o es, X, T, e, h, hk => by
    cases e with
    | Call fn args kws pos =>
      cases fn with
      | Attribute eo nm apos =>
        cases kws with
        | nil =>
          obtain ⟨h1, h2⟩ := an (show ((decide (nm = m.name) && ((apos.endLine == pos.line) && noCall eo)) && ((Nat.ble 1 es.len && Nat.ble es.len 20) && (chkE c o X.env.scope eo && chkEs c es X.env.scope args))) = true from hk)
          obtain ⟨h1, h3⟩ := an h1
          obtain ⟨h3, h4⟩ := an h3
          obtain ⟨h5, h6⟩ := an h2
          obtain ⟨h5, h7⟩ := an h5
          obtain ⟨h9, h8⟩ := an h6
          obtain ⟨g1, g2⟩ := chkEs_plains h8
          cases args with
          | nil =>
            have := Nat.le_of_ble_eq_true h5
            rw [← g2] at this
            exact absurd this (Nat.not_succ_le_zero 0)
          | cons e1 es' => exact ⟨met_pe h (of_decide_eq_true h1) h3 h4 h7 g2 g1 (sndE o h h9).1 (sndA es h h8), rt_bad fun _ _ => rfl⟩
        | cons _ _ => exact absurd hk Bool.false_ne_true
      | _ => exact absurd hk Bool.false_ne_true
    | _ => exact absurd hk Bool.false_ne_true
  | .lc tr own tg it ifs elt, X, T, e, h, hk => by
    cases e with
    | ListComp el gs scope pos =>
      match gs, hk with
      | [⟨t, iter, ie, as⟩], hk =>
        obtain ⟨h1, h2⟩ := an (show ((decide (as = 0) && (blkC c.N X.env.scope scope own && (chkTg c (blkB scope X.env.scope) tg t && tg.ixs.all fun i => decide (i ∈ own.map (·.2))))) &&
          (plainX iter && (chkI c it X.env.scope t iter && (chkEs { c with lam := false } ifs (relS scope X.env.scope) ie && (Nat.ble ifs.len 1 && chkE { c with lam := false } elt (relS scope X.env.scope) el))))) = true from hk)
        obtain ⟨h1, h3⟩ := an h1
        obtain ⟨h3, h4⟩ := an h3
        obtain ⟨h4, h5⟩ := an h4
        obtain ⟨h6, h7⟩ := an h2
        obtain ⟨h7, h8⟩ := an h7
        obtain ⟨h8, h9⟩ := an h8
        obtain ⟨h9, h10⟩ := an h9
        have e := of_decide_eq_true h1
        subst e
        refine ⟨PE.imp (pe_lc (wi := tI X.K T Δ it) (g := gR X.K tg) (tt := tIfs X.K T.mute Δ ifs) (te := tE X.K T.mute Δ elt) (own := own) h.calm (by rw [h.N]; exact h.nd) (sndI it h h7 h6) (blkOk_by (by rw [h.N]; exact h3)) (fun s H C cl fp => ?_) (fun s H C cl fp => ?_) (fun s H C cl fp => ?_) fun x => fold_of h6 _ x)
          fun σ H Q z => lc_in (fun i hi => of_decide_eq_true (List.all_eq_true.mp h5 i hi)) z, rt_bad fun _ _ => rfl⟩
        · exact tg_ok (X := X.blk s H scope (compEnvC scope cl C X.env) fp) h.N h.nd h.calm (p := blkB scope X.env.scope) (fun x hx => blk_of hx) h4
        · have hb := h.blk s H scope (compEnvC scope cl C X.env) fp
          rcases of_len1 h9 with e | ⟨a, e⟩
          · subst e
            obtain ⟨_, g2⟩ := chkEs_plains h8
            cases ie with
            | nil => exact rs_ifs0 (X := X.blk s H scope (compEnvC scope cl C X.env) fp)
            | cons _ _ => exact absurd g2 (Nat.succ_ne_zero _)
          · have ih := sndIf ifs hb (show chkEs { c with lam := false } ifs (relS scope X.env.scope) ie = true from h8)
            exact ih h9
        · exact (sndE elt (h.blk s H scope (compEnvC scope cl C X.env) fp) h10).1
      | [], hk => exact absurd hk Bool.false_ne_true
      | ⟨_, _, _, _⟩ :: _ :: _, hk => exact absurd hk Bool.false_ne_true
    | _ => exact absurd hk Bool.false_ne_true
  | .srt a, X, T, e, h, hk => by
    cases e with
    | Call fn args kws pos =>
      cases fn with
      | Name x p =>
        match args, kws, hk with
        | [e1], [], hk =>
          obtain ⟨h1, h2⟩ := an (show ((decide (x = ("sorted" : Str)) && glB X.env.scope x) && (plainX e1 && chkE c a X.env.scope e1)) = true from hk)
          obtain ⟨h1, h3⟩ := an h1
          obtain ⟨h4, h5⟩ := an h2
          exact ⟨srt_pe h (of_decide_eq_true h1) h3 h4 (sndE a h h5).1, rt_bad fun _ _ => rfl⟩
        | [], _, hk => exact absurd hk Bool.false_ne_true
        | [_], _ :: _, hk => exact absurd hk Bool.false_ne_true
        | _ :: _ :: _, _, hk => exact absurd hk Bool.false_ne_true
      | _ => exact absurd hk Bool.false_ne_true
    | _ => exact absurd hk Bool.false_ne_true
  | .srtk a, X, T, e, h, hk => by
    unfold chkE at hk
    split at hk
    · rename_i x p e1 kn ps an p1 n k p2 p3 p4 ls lpos kpos pos
      obtain ⟨h1, h2⟩ := an2 hk
      obtain ⟨h1, h3⟩ := an2 h1
      obtain ⟨h3, h4⟩ := an2 h3
      obtain ⟨h5, h6⟩ := an2 h2
      obtain ⟨h5, h7⟩ := an2 h5
      obtain ⟨h7, h8⟩ := an2 h7
      obtain ⟨h8, h9⟩ := an2 h8
      obtain ⟨h9, h10⟩ := an2 h9
      obtain ⟨h11, h12⟩ := an2 h6
      have ek := of_decide_eq_true h5
      have en := of_decide_eq_true h7
      subst ek en
      have ih := (sndE a h h12).1
      obtain ⟨k0, hr, _⟩ := h.fns
      obtain ⟨g1, g2⟩ := an2 h9
      obtain ⟨g1, g3⟩ := an2 g1
      obtain ⟨g3, g4⟩ := an2 g3
      obtain ⟨g2, g5⟩ := an2 g2
      rw [Bool.not_eq_true'] at g3 g4
      have g6 := fun y hy => an2 (List.all_eq_true.mp g5 y hy)
      unfold lamP at h8
      split at h8
      · rename_i xx ann pp
        have ex := of_decide_eq_true h8
        subst ex
        refine ⟨re_srtk (hr.mono (Nat.le_add_left 4 k0)) (h.lam h1) (of_decide_eq_true h3) (gl_of h4) (h.blt _ (by decide)) (star_of h11 [] X.env) ih (of_decide_eq_true g1) g3 g4 (of_decide_eq_true g2) (fun y hy => by simpa using (g6 y hy).1) (fun y hy => by simpa using (g6 y hy).2) rfl (fun _ _ _ _ _ => bind1) (okN_of h10).1, rt_bad fun _ _ => rfl⟩
      · exact absurd h8 Bool.false_ne_true
    · exact absurd hk Bool.false_ne_true
  | .lrg1 tr a, X, T, e, h, hk => by
    unfold chkE at hk
    split at hk
    · obtain ⟨h1, h2⟩ := an2 hk
      obtain ⟨h1, h3⟩ := an2 h1
      obtain ⟨h1, h4⟩ := an2 h1
      obtain ⟨h3, h5⟩ := an2 h3
      obtain ⟨h6, h7⟩ := an2 h2
      have e1 := of_decide_eq_true h1
      have e2 := of_decide_eq_true h3
      subst e1 e2
      exact ⟨re_lrg1 (e1 := .Name "a" ⟨0, 0, 0, 0⟩) h.calm (gl_of h4) (h.blt _ (by decide)) (gl_of h5) (h.blt _ (by decide)) (sndE a h h7).1 (star_of h6 [] X.env), rt_bad fun _ _ => rfl⟩
    · exact absurd hk Bool.false_ne_true
  | .lrg2 tr a b, X, T, e, h, hk => by
    unfold chkE at hk
    split at hk
    · rename_i x p y p2 ea eb pos2 pos
      obtain ⟨h1, h2⟩ := an2 hk
      obtain ⟨h1, h3⟩ := an2 h1
      obtain ⟨h1, h4⟩ := an2 h1
      obtain ⟨h3, h5⟩ := an2 h3
      obtain ⟨h6, h7⟩ := an2 h2
      obtain ⟨h6, h8⟩ := an2 h6
      obtain ⟨h7, h9⟩ := an2 h7
      have e1 := of_decide_eq_true h1
      have e2 := of_decide_eq_true h3
      subst e1 e2
      have s2 := star_of h8 [] X.env
      exact ⟨re_lrg2 h.calm (gl_of h4) (h.blt _ (by decide)) (gl_of h5) (h.blt _ (by decide)) (sndE a h h7).1 (sndE b h h9).1 (star_of h6 [eb] X.env) s2 (by rw [s2]; rfl), rt_bad fun _ _ => rfl⟩
    · exact absurd hk Bool.false_ne_true
  | .rev a, X, T, e, h, hk => by
    cases e with
    | Subscript x y pos =>
      cases y with
      | Slice l u st p2 =>
        cases l with
        | some _ => exact absurd hk Bool.false_ne_true
        | none =>
        cases u with
        | some _ => exact absurd hk Bool.false_ne_true
        | none =>
        cases st with
        | none => exact absurd hk Bool.false_ne_true
        | some z =>
        cases z with
        | UnaryOp op z2 p3 =>
          cases op with
          | USub =>
            cases z2 with
            | Constant kc kk p4 =>
              cases kc with
              | int n =>
                obtain ⟨h1, h2⟩ := an (show (decide (n = 1) && chkE c a X.env.scope x) = true from hk)
                cases of_decide_eq_true h1
                exact ⟨re_rev (sndE a h h2).1, rt_bad fun _ _ => rfl⟩
              | _ => exact absurd hk Bool.false_ne_true
            | _ => exact absurd hk Bool.false_ne_true
          | _ => exact absurd hk Bool.false_ne_true
        | _ => exact absurd hk Bool.false_ne_true
      | _ => exact absurd hk Bool.false_ne_true
    | _ => exact absurd hk Bool.false_ne_true
  | .frz a, X, T, e, h, hk => ⟨re_frz (sndE a h (show chkE c a X.env.scope e = true from hk)).1, rt_bad fun _ _ => rfl⟩
theorem sndA {c : Ck} {Δ : Den} : ∀ (as : IEs) {X : Cx} {T : Tb} {es : List Expr}, XOk c T Δ X → chkEs c as X.env.scope es = true → PA X es (tA X.K T Δ as)
  | .nil, X, T, [], h, hk => ra_nil
  | .nil, X, T, _ :: _, h, hk => absurd hk Bool.false_ne_true
  | .cons a as, X, T, [], h, hk => absurd hk Bool.false_ne_true
  | .cons a as, X, T, e :: es, h, hk => by
    obtain ⟨h1, h2⟩ := an (show (plainX e && (chkE c a X.env.scope e && chkEs c as X.env.scope es)) = true from hk)
    obtain ⟨h2, h3⟩ := an h2
    exact ra_cons (sndE a h h2).1 (sndA as h h3) (star_of h1 es X.env)
theorem sndK {c : Ck} {Δ : Den} : ∀ (as : IEs) {ks : List Str} {X : Cx} {T : Tb} {kws : List Keyword}, XOk c T Δ X → chkKs c as ks X.env.scope kws = true → PK X kws (tA X.K T Δ as)
  | .nil, [], X, T, [], h, hk => rk_nil
  | .nil, _ :: _, X, T, _, h, hk => absurd hk Bool.false_ne_true
  | .nil, [], X, T, _ :: _, h, hk => absurd hk Bool.false_ne_true
  | .cons a as, [], X, T, _, h, hk => absurd hk Bool.false_ne_true
  | .cons a as, _ :: _, X, T, [], h, hk => absurd hk Bool.false_ne_true
  | .cons a as, _ :: _, X, T, ⟨none, _, _⟩ :: _, h, hk => absurd hk Bool.false_ne_true
  | .cons a as, k :: ks, X, T, ⟨some n, e, _⟩ :: kws, h, hk => by
    obtain ⟨_, h2⟩ := an (show (decide (n = k) && (chkE c a X.env.scope e && chkKs c as ks X.env.scope kws)) = true from hk)
    obtain ⟨h2, h3⟩ := an h2
    exact rk_cons (sndE a h h2).1 (sndK as h h3)
/-- a comprehension's test -/
theorem sndIf {c : Ck} {Δ : Den} : ∀ (as : IEs) {X : Cx} {T : Tb} {es : List Expr}, XOk c T Δ X → chkEs c as X.env.scope es = true → Nat.ble as.len 1 = true → PTs X es (tIfs X.K T Δ as)
  | .nil, X, T, [], h, hk, _ => rs_ifs0
  | .nil, X, T, _ :: _, h, hk, _ => absurd hk Bool.false_ne_true
  | .cons a as, X, T, [], h, hk, _ => absurd hk Bool.false_ne_true
  | .cons a as, X, T, e :: es, h, hk, hl => by
    obtain ⟨h1, h2⟩ := an (show (plainX e && (chkE c a X.env.scope e && chkEs c as X.env.scope es)) = true from hk)
    obtain ⟨h4, h3⟩ := an h2
    have e0 : as = .nil := of_len0 (show Nat.ble as.len 0 = true from hl)
    obtain ⟨_, g2⟩ := chkEs_plains h3
    rw [e0] at g2
    cases es with
    | nil => exact rs_ifs1 (sndE a h h4).2
    | cons _ _ => exact absurd g2 (Nat.succ_ne_zero _)
theorem sndB {c : Ck} {Δ : Den} : ∀ (as : IEs) {X : Cx} {T : Tb} {es : List Expr}, XOk c T Δ X → chkBs c as X.env.scope es = true → BsOk X T Δ as es
  | .nil, X, T, es, h, hk => absurd hk Bool.false_ne_true
  | .cons a as, X, T, [], h, hk => absurd hk Bool.false_ne_true
  | .cons a as, X, T, [e], h, hk => by
    obtain ⟨h1, h2⟩ := an (show (chkE c a X.env.scope e && Nat.ble as.len 0) = true from hk)
    have e0 := of_len0 h2
    subst e0
    have ih := sndE a (T := T) h h1
    exact fun pos => ⟨re_and1 ih.1, re_or1 ih.1, rw_and1 ih.2, rw_or1 ih.2⟩
  | .cons a as, X, T, e :: e2 :: es, h, hk => by
    obtain ⟨h1, h2⟩ := an (show (chkE c a X.env.scope e && chkBs c as X.env.scope (e2 :: es)) = true from hk)
    have ih := sndE a (T := T) h h1
    have ih2 := sndB as (T := T) h h2
    cases as with
    | nil => exact absurd h2 Bool.false_ne_true
    | cons b bs => exact fun pos => ⟨re_and ih.1 (ih2 pos).1, re_or ih.1 (ih2 pos).2.1, rw_and ih.2 (ih2 pos).2.2.1, rw_or ih.2 (ih2 pos).2.2.2⟩
theorem sndO {c : Ck} {Δ : Den} : ∀ (as : IEs) {X : Cx} {T : Tb} {o : Option Expr}, XOk c T Δ X → chkO c as X.env.scope o = true → PO X o (tO X.K T Δ as)
  | .nil, X, T, none, h, hk => ro_nil
  | .nil, X, T, some _, h, hk => absurd hk Bool.false_ne_true
  | .cons a as, X, T, none, h, hk => absurd hk Bool.false_ne_true
  | .cons a as, X, T, some e, h, hk => ro_cons (sndE a h (show chkE c a X.env.scope e = true from hk)).1
theorem sndI {c : Ck} {Δ : Den} : ∀ (g : II) {X : Cx} {T : Tb} {tg e : Expr}, XOk c T Δ X → chkI c g X.env.scope tg e = true → plainX e = true → PI X tg e (tI X.K T Δ g)
  | .seq a, X, T, tg, e, h, hk, _ => ri_seq (sndE a h (show chkE c a X.env.scope e = true from hk)).1
  | .rng1 a, X, T, tg, e, h, hk, _ => by
    cases e with
    | Call fn args kws pos =>
      cases fn with
      | Name x p =>
        match args, kws, hk with
        | [e1], [], hk =>
          obtain ⟨h1, h2⟩ := an (show ((decide (x = ("range" : Str)) && glB X.env.scope x) && (plainX e1 && chkE c a X.env.scope e1)) = true from hk)
          obtain ⟨h1, h3⟩ := an h1
          obtain ⟨h4, h5⟩ := an h2
          have e := of_decide_eq_true h1
          subst e
          exact ri_rng1 (gl_of h3) (h.blt _ (by decide)) (pa_cons (sndE a h h5).1 pa_nil (star_of h4 [] X.env)) (star_of h4 [] X.env)
        | [], _, hk => exact absurd hk Bool.false_ne_true
        | [_], _ :: _, hk => exact absurd hk Bool.false_ne_true
        | _ :: _ :: _, _, hk => exact absurd hk Bool.false_ne_true
      | _ => exact absurd hk Bool.false_ne_true
    | _ => exact absurd hk Bool.false_ne_true
  | .rng2 a b, X, T, tg, e, h, hk, _ => by
    cases e with
    | Call fn args kws pos =>
      cases fn with
      | Name x p =>
        match args, kws, hk with
        | [e1, e2], [], hk =>
          obtain ⟨h1, h2⟩ := an (show ((decide (x = ("range" : Str)) && glB X.env.scope x) && ((plainX e1 && plainX e2) && (chkE c a X.env.scope e1 && chkE c b X.env.scope e2))) = true from hk)
          obtain ⟨h1, h3⟩ := an h1
          obtain ⟨h4, h5⟩ := an h2
          obtain ⟨h4, h6⟩ := an h4
          obtain ⟨h5, h7⟩ := an h5
          have e := of_decide_eq_true h1
          subst e
          have s2 := star_of h6 [] X.env
          have s1 := star_of h4 [e2] X.env
          exact ri_rng2 (gl_of h3) (h.blt _ (by decide)) (pa_cons (sndE a h h5).1 (pa_cons (sndE b h h7).1 pa_nil s2) s1) (by rw [s1, s2]; rfl) (by rw [s2]; rfl)
        | [], _, hk => exact absurd hk Bool.false_ne_true
        | [_], _, hk => exact absurd hk Bool.false_ne_true
        | [_, _], _ :: _, hk => exact absurd hk Bool.false_ne_true
        | _ :: _ :: _ :: _, _, hk => exact absurd hk Bool.false_ne_true
      | _ => exact absurd hk Bool.false_ne_true
    | _ => exact absurd hk Bool.false_ne_true
  | .rng3 a b d, X, T, tg, e, h, hk, _ => by
    cases e with
    | Call fn args kws pos =>
      cases fn with
      | Name x p =>
        match args, kws, hk with
        | [e1, e2, e3], [], hk =>
          obtain ⟨h1, h2⟩ := an (show ((decide (x = ("range" : Str)) && glB X.env.scope x) && ((plainX e1 && (plainX e2 && plainX e3)) && (chkE c a X.env.scope e1 && (chkE c b X.env.scope e2 && chkE c d X.env.scope e3)))) = true from hk)
          obtain ⟨h1, h3⟩ := an h1
          obtain ⟨h4, h5⟩ := an h2
          obtain ⟨h4, h6⟩ := an h4
          obtain ⟨h6, h8⟩ := an h6
          obtain ⟨h5, h7⟩ := an h5
          obtain ⟨h7, h9⟩ := an h7
          have e := of_decide_eq_true h1
          subst e
          have s3 := star_of h8 [] X.env
          have s2 := star_of h6 [e3] X.env
          have s1 := star_of h4 [e2, e3] X.env
          exact ri_rng3 (gl_of h3) (h.blt _ (by decide)) (pa_cons (sndE a h h5).1 (pa_cons (sndE b h h7).1 (pa_cons (sndE d h h9).1 pa_nil s3) s2) s1) s1 (by rw [s2, s3]; rfl)
        | [], _, hk => exact absurd hk Bool.false_ne_true
        | [_], _, hk => exact absurd hk Bool.false_ne_true
        | [_, _], _, hk => exact absurd hk Bool.false_ne_true
        | [_, _, _], _ :: _, hk => exact absurd hk Bool.false_ne_true
        | _ :: _ :: _ :: _ :: _, _, hk => exact absurd hk Bool.false_ne_true
      | _ => exact absurd hk Bool.false_ne_true
    | _ => exact absurd hk Bool.false_ne_true
  | .enum a, X, T, tg, e, h, hk, _ => by
    cases tg with
    | Tuple elts kk tpos =>
      cases e with
      | Call fn args kws pos =>
        cases fn with
        | Name x p =>
          match args, kws, hk with
          | [e1], [], hk =>
            obtain ⟨h1, h2⟩ := an (show ((decide (x = ("enumerate" : Str)) && glB X.env.scope x) && (plainX e1 && chkE c a X.env.scope e1)) = true from hk)
            obtain ⟨h1, h3⟩ := an h1
            obtain ⟨h4, h5⟩ := an h2
            have e := of_decide_eq_true h1
            subst e
            exact ri_enum (gl_of h3) (h.blt _ (by decide)) (sndE a h h5).1 (star_of h4 [] X.env)
          | [], _, hk => exact absurd hk Bool.false_ne_true
          | [_], _ :: _, hk => exact absurd hk Bool.false_ne_true
          | _ :: _ :: _, _, hk => exact absurd hk Bool.false_ne_true
        | _ => exact absurd hk Bool.false_ne_true
      | _ => exact absurd hk Bool.false_ne_true
    | _ => exact absurd hk Bool.false_ne_true
end
end L2.PV

/-! PV, part 15: statements: the check, and what it gives. -/
namespace L2.PV
open PySem PySem.Spec PyProof.Rows LamX

def noComp (e : Expr) : Bool := match e with
  | .ListComp _ _ _ _ => false
  | .SetComp _ _ _ _ => false
  | .DictComp _ _ _ _ _ => false
  | _ => true
def noTup (e : Expr) : Bool := match e with
  | .Tuple _ _ _ => false
  | _ => true
/-- a comprehension whose end and the store change places -/
def swB (sc : Scope) (x : Str) (px : Pos) (e : Expr) : Bool := match e with
  | .ListComp _ _ s p => lclB sc x && ((px.line == p.line) && !(s.names.any fun (n, k) => n == x && (k == .local || k == .cell)))
  | _ => false
def isLc (a : IE) : Bool := match a with
  | .lc _ _ _ _ _ _ => true
  | _ => false
def okSet (sc : Scope) (x : Str) (px : Pos) (a : IE) (e : Expr) : Bool := match e with
  | .SetComp _ _ _ _ => false
  | .DictComp _ _ _ _ _ => false
  | .ListComp _ _ _ _ => !(swB sc x px e) || isLc a
  | _ => true
mutual
def chkS (c : Ck) : IS → Scope → Stmt → Bool
  | .ex a, sc, s => (match s with
    | .Expr e _ => noComp e && chkE c a sc e
    | _ => false)
  | .ret a, sc, s => (match s with
    | .Return (some e) _ => chkE c a sc e
    | _ => false)
  | .retN, sc, s => (match s with
    | .Return none _ => true
    | _ => false)
  | .set i a, sc, s => (match s with
    | .Assign [.Name x px] e _ => (decide (c.N[i]? = some x) && locB sc x) && (okSet sc x px a e && chkE c a sc e)
    | _ => false)
  | .par i j a b, sc, s => (match s with
    | .Assign [.Tuple [.Name x px, .Name y py] _ _] (.Tuple [e1, e2] _ _) _ => ((decide (c.N[i]? = some x) && decide (c.N[j]? = some y)) && ((lclB sc x && lclB sc y) && (decide (i ≠ j) && decide (x ≠ y)))) &&
        (((py.line == px.line) && (!([e1, e2].all (foldedForSure 8)) && !([e1, e2].all (constantsAlone 8)))) && ((plainX e1 && plainX e2) && (chkE c a sc e1 && chkE c b sc e2)))
    | _ => false)
  | .setT is a, sc, s => (match s with
    | .Assign [.Tuple es _ _] e _ => tgsB c (locB sc) is es && (noTup e && chkE c a sc e)
    | _ => false)
  | .setI o i a, sc, s => (match s with
    | .Assign [.Subscript eo ei _] e _ => plainX ei && (chkE c o sc eo && (chkE c i sc ei && chkE c a sc e))
    | _ => false)
  | .ite t a b, sc, s => (match s with
    | .If et body els _ => chkE c t sc et && (chkSs c a sc body && chkSs c b sc els)
    | _ => false)
  | .for tg it body, sc, s => (match s with
    | .For t iter bd [] _ => chkTg c (locB sc) tg t && (plainX iter && (chkI c it sc t iter && chkSs c body sc bd))
    | _ => false)
  | .while t body, sc, s => (match s with
    | .While et bd [] _ => chkE c t sc et && chkSs c body sc bd
    | _ => false)
  | .pass, sc, s => (match s with
    | .Pass _ => true
    | .Expr (.Constant (.str _) _ _) _ => true
    | _ => false)
  | .brk, sc, s => (match s with
    | .Break _ => true
    | _ => false)
  | .cnt, sc, s => (match s with
    | .Continue _ => true
    | _ => false)
  | .never, sc, s => true
def chkSs (c : Ck) : ISs → Scope → List Stmt → Bool
  | .nil, sc, ss => (match ss with
    | [] => true
    | _ => false)
  | .cons a as, sc, ss => (match ss with
    | s :: ss => chkS c a sc s && chkSs c as sc ss
    | _ => false)
end
structure XOkS (c : Ck) (T : Tb) (Δ : Den) (X : Cx) : Prop extends XOk c T Δ X where
  fn : ∀ x, X.fn x = true
  kind : X.env.scope.kind = .function
  po : PassesOwn (model X.prog X.w) X.A X.env X.xe

theorem sw_no {e : Expr} (h : noComp e = true) (t : Option Expr) (l : Nat) (env : Env) : swapsWith e t l env = pure false := by
  cases e <;> first | rfl | exact absurd h Bool.false_ne_true
theorem sw_eq {x : Str} {px : Pos} {a : IE} {e : Expr} {env : Env} (hk : env.scope.kind = .function) (h : okSet env.scope x px a e = true) (l : Nat) (hs : swB env.scope x px e = false) : swapsWith e (some (.Name x px)) l env = pure false := by
  cases e with
  | ListComp el gs s p =>
    have hb : env.blockKind = .function := by unfold Env.blockKind; rw [hk]; rfl
    unfold swapsWith
    simp only [hb, Expr.pos]
    show pure ((ScopeKind.function == ScopeKind.function) && (env.kindOf x == some .local) && (px.line == p.line) && !(s.names.any fun (n, k) => n == x && (k == .local || k == .cell))) = _
    replace hs : (lclB env.scope x && ((px.line == p.line) && !(s.names.any fun (n, k) => n == x && (k == .local || k == .cell)))) = false := hs
    have e1 : lclB env.scope x = (env.kindOf x == some .local) := by
      unfold lclB
      show _ = (env.scope.names.lookup x == some .local)
      cases env.scope.names.lookup x with
      | none => rfl
      | some k => cases k <;> rfl
    rw [e1] at hs
    have e2 : ((ScopeKind.function == ScopeKind.function) && (env.kindOf x == some .local) && (px.line == p.line) && !(s.names.any fun (n, k) => n == x && (k == .local || k == .cell))) = false := by
      rw [← hs]
      cases (env.kindOf x == some .local) <;> cases (px.line == p.line) <;> rfl
    rw [e2]
  | SetComp _ _ _ _ => exact absurd h Bool.false_ne_true
  | DictComp _ _ _ _ _ => exact absurd h Bool.false_ne_true
  | _ => rfl
theorem sws_none {ts : List Expr} {k : Nat} {p : Pos} {e : Expr} {env : Env} (h : noTup e = true) : swappedStores [.Tuple ts k p] e env = pure none := by
  cases e <;> first | rfl | exact absurd h Bool.false_ne_true
theorem sws_sub {o i : Expr} {p : Pos} {e : Expr} {env : Env} : swappedStores [.Subscript o i p] e env = pure none := by
  cases e <;> rfl
theorem swsole_tup {ts : List Expr} {k : Nat} {p : Pos} {e : Expr} {l : Nat} {env : Env} : swapsWithSole [.Tuple ts k p] e l env = pure false := by
  cases e <;> rfl
theorem swsole_sub {o i : Expr} {p : Pos} {e : Expr} {l : Nat} {env : Env} : swapsWithSole [.Subscript o i p] e l env = pure false := by
  cases e <;> rfl
theorem nostar_any {es : List Expr} (h : plains es = true) : (es.any fun | .Starred .. => true | _ => false) = false := by
  induction es with
  | nil => rfl
  | cons e es ih =>
    obtain ⟨h1, h2⟩ := an (show (plainX e && plains es) = true from h)
    rw [List.any_cons, ih h2]
    cases e <;> first | rfl | exact absurd h1 Bool.false_ne_true
theorem any_plain {p : Expr → Bool} {e1 e2 : Expr} (hp : ∀ e, plainX e = true → p e = false) (h1 : plainX e1 = true) (h2 : plainX e2 = true) : [e1, e2].any p = false := by
  rw [List.any_cons, List.any_cons, hp _ h1, hp _ h2]
  rfl
theorem sws_par {x y : Str} {px py pt pt2 : Pos} {kt k2 : Nat} {e1 e2 : Expr} {env : Env} (hk : env.scope.kind = .function) (hx : env.scope.names.lookup x = some .local) (hy : env.scope.names.lookup y = some .local) (hl : (py.line == px.line) = true) (hxy : x ≠ y)
    (h1 : plainX e1 = true) (h2 : plainX e2 = true) (hf : [e1, e2].all (foldedForSure 8) = false) (hc : [e1, e2].all (constantsAlone 8) = false) :
    swappedStores [.Tuple [.Name x px, .Name y py] kt pt] (.Tuple [e1, e2] k2 pt2) env = pure (some [x, y]) := by
  have hb : env.blockKind = .function := by unfold Env.blockKind; rw [hk]; rfl
  have kx : env.kindOf x = some .local := hx
  have ky : env.kindOf y = some .local := hy
  have hd : ([x, y].eraseDups).length = 2 := by
    have : (y == x) = false := by simpa using fun e => hxy e.symm
    simp [List.eraseDups_cons, this]
  have hl' : (py.line = px.line) := by simpa using hl
  unfold swappedStores
  simp only [hb]
  rw [any_plain ?_ h1 h2]
  · have hn : List.filterMap (fun ex => match ex with
        | .Name id pos => if (env.kindOf id == some .local && pos.line == (Option.map (fun x : Expr => x.pos.line) [Expr.Name x px, .Name y py].head?).getD 0) = true then some id else none
        | _ => none) [Expr.Name x px, .Name y py] = [x, y] := by
      simp [kx, ky, hl', Expr.pos]
    simp only [hf, hc]
    have key : ∀ l : List Str, l = [x, y] → (do
        if (l.length != 2 || l.eraseDups.length != l.length) = true then return none
        if false = true then return none
        if false = true then unsupported "assign.tuple-of-constant-expressions:order-of-the-stores"
        return some l : Sem (Option (List Str))) = pure (some [x, y]) := by
      intro l e
      subst e
      simp [hd]
    exact key _ hn
  · intro e h
    cases e <;> first | rfl | exact absurd h Bool.false_ne_true
end L2.PV

/-! PV, part 16: statements and defs: what is checked is read by the evaluator. -/
namespace L2.PV
open PySem PySem.Spec PyProof.Rows LamX

theorem lc_set {c : Ck} {Δ : Den} {X : Cx} {T : Tb} (h : XOk c T Δ X) {a : IE} {n : Nat} {x : Str} {px pos : Pos} {e : Expr} (hN : X.N[n]? = some x) (hk : X.env.scope.kind = .function) (hs : swB X.env.scope x px e = true) (hl : isLc a = true)
    (hc : chkE c a X.env.scope e = true) : PS X (.Assign [.Name x px] e pos) (tS X.K T Δ (.set n a)) := by
  cases e with
  | ListComp el gs scope p =>
    obtain ⟨s1, s2⟩ := an (show (lclB X.env.scope x && ((px.line == p.line) && !(scope.names.any fun (n, k) => n == x && (k == .local || k == .cell)))) = true from hs)
    obtain ⟨s2, s3⟩ := an s2
    rw [Bool.not_eq_true'] at s3
    cases a with
    | lc tr own tg it ifs elt =>
      match gs, hc with
      | [⟨t, iter, ie, as⟩], hk' =>
        obtain ⟨h1, h2⟩ := an (show ((decide (as = 0) && (blkC c.N X.env.scope scope own && (chkTg c (blkB scope X.env.scope) tg t && tg.ixs.all fun i => decide (i ∈ own.map (·.2))))) &&
          (plainX iter && (chkI c it X.env.scope t iter && (chkEs { c with lam := false } ifs (relS scope X.env.scope) ie && (Nat.ble ifs.len 1 && chkE { c with lam := false } elt (relS scope X.env.scope) el))))) = true from hk')
        obtain ⟨h1, h3⟩ := an h1
        obtain ⟨h3, h4⟩ := an h3
        obtain ⟨h4, h5⟩ := an h4
        obtain ⟨h6, h7⟩ := an h2
        obtain ⟨h7, h8⟩ := an h7
        obtain ⟨h8, h9⟩ := an h8
        obtain ⟨h9, h10⟩ := an h9
        have e := of_decide_eq_true h1
        subst e
        refine PS.imp (ps_setLc (wi := tI X.K T Δ it) (g := gR X.K tg) (tt := tIfs X.K T.mute Δ ifs) (te := tE X.K T.mute Δ elt) (own := own) h.calm (by rw [h.N]; exact h.nd) hN (lcl_of s1) (sw_true hk (lcl_of s1) s2 s3) (sndI it h h7 h6) (blkOk_by (by rw [h.N]; exact h3)) (fun s H C cl fp => ?_) (fun s H C cl fp => ?_) (fun s H C cl fp => ?_) fun x => fold_of h6 _ x)
          fun D σ H z => set_in (fun σ H Q z => lc_in (fun i hi => of_decide_eq_true (List.all_eq_true.mp h5 i hi)) z) z
        · exact tg_ok (X := X.blk s H scope (compEnvC scope cl C X.env) fp) h.N h.nd h.calm (p := blkB scope X.env.scope) (fun x hx => blk_of hx) h4
        · exact sndIf ifs (h.blk s H scope (compEnvC scope cl C X.env) fp) h8 h9
        · exact (sndE elt (h.blk s H scope (compEnvC scope cl C X.env) fp) h10).1
      | [], hk => exact absurd hk Bool.false_ne_true
      | ⟨_, _, _, _⟩ :: _ :: _, hk => exact absurd hk Bool.false_ne_true
    | _ => exact absurd hl Bool.false_ne_true
  | _ => exact absurd hs Bool.false_ne_true
mutual
theorem sndS {c : Ck} {Δ : Den} : ∀ (g : IS) {X : Cx} {T : Tb} {s : Stmt}, XOkS c T Δ X → chkS c g X.env.scope s = true → PS X s (tS X.K T Δ g)
  | .ex a, X, T, s, h, hk => by
    cases s with
    | Expr e pos =>
      obtain ⟨h1, h2⟩ := an (show (noComp e && chkE c a X.env.scope e) = true from hk)
      exact rs_ex (sndE a h.toXOk h2).1 (sw_no h1 _ _ _)
    | _ => exact absurd hk Bool.false_ne_true
  | .ret a, X, T, s, h, hk => by
    cases s with
    | Return o pos =>
      cases o with
      | some e => exact rs_ret (sndE a h.toXOk (show chkE c a X.env.scope e = true from hk)).1
      | none => exact absurd hk Bool.false_ne_true
    | _ => exact absurd hk Bool.false_ne_true
  | .retN, X, T, s, h, hk => by
    cases s with
    | Return o pos =>
      cases o with
      | none => exact rs_retN
      | some e => exact absurd hk Bool.false_ne_true
    | _ => exact absurd hk Bool.false_ne_true
  | .set i a, X, T, s, h, hk => by
    cases s with
    | Assign ts e pos =>
      match ts, hk with
      | [t], hk =>
        cases t with
        | Name x px =>
          obtain ⟨h1, h2⟩ := an (show ((decide (c.N[i]? = some x) && locB X.env.scope x) && (okSet X.env.scope x px a e && chkE c a X.env.scope e)) = true from hk)
          obtain ⟨h1, h3⟩ := an h1
          obtain ⟨h4, h5⟩ := an h2
          have hN : X.N[i]? = some x := by rw [h.N]; exact of_decide_eq_true h1
          cases hs : swB X.env.scope x px e with
          | false => exact rs_set (by rw [h.N]; exact h.nd) hN (loc_of h3) (sndE a h.toXOk h5).1 (sw_eq h.kind h4 _ hs) (.inl (h.fn x))
          | true =>
            refine lc_set h.toXOk hN h.kind hs ?_ h5
            cases e with
            | ListComp el gs sc p =>
              have h4' : (!(swB X.env.scope x px (.ListComp el gs sc p)) || isLc a) = true := h4
              rw [hs] at h4'
              exact h4'
            | _ => exact absurd hs Bool.false_ne_true
        | _ => exact absurd hk Bool.false_ne_true
      | [], hk => exact absurd hk Bool.false_ne_true
      | t :: _ :: _, hk => cases t <;> exact absurd hk Bool.false_ne_true
    | _ => exact absurd hk Bool.false_ne_true
  | .par i j a b, X, T, s, h, hk => by
    unfold chkS at hk
    split at hk
    · rename_i x px y py kt pt e1 e2 k2 pt2 pos
      obtain ⟨h1, h2⟩ := an (show (((decide (c.N[i]? = some x) && decide (c.N[j]? = some y)) && ((lclB X.env.scope x && lclB X.env.scope y) && (decide (i ≠ j) && decide (x ≠ y)))) &&
        (((py.line == px.line) && (!([e1, e2].all (foldedForSure 8)) && !([e1, e2].all (constantsAlone 8)))) && ((plainX e1 && plainX e2) && (chkE c a X.env.scope e1 && chkE c b X.env.scope e2)))) = true from hk)
      obtain ⟨h1, h3⟩ := an h1
      obtain ⟨h1, h4⟩ := an h1
      obtain ⟨h3, h5⟩ := an h3
      obtain ⟨h3, h6⟩ := an h3
      obtain ⟨h5, h7⟩ := an h5
      obtain ⟨h8, h9⟩ := an h2
      obtain ⟨h8, h10⟩ := an h8
      obtain ⟨h10, h11⟩ := an h10
      obtain ⟨h9, h12⟩ := an h9
      obtain ⟨h9, h13⟩ := an h9
      obtain ⟨h12, h14⟩ := an h12
      rw [Bool.not_eq_true'] at h10 h11
      have s2 := star_of h13 [] X.env
      have s1 := star_of h9 [e2] X.env
      exact rs_par h.calm (by rw [h.N]; exact h.nd) (by rw [h.N]; exact of_decide_eq_true h1) (by rw [h.N]; exact of_decide_eq_true h4) (of_decide_eq_true h5) (lcl_of h3) (lcl_of h6)
        (pa_cons (sndE a h.toXOk h12).1 (pa_cons (sndE b h.toXOk h14).1 pa_nil s2) s1) (sws_par h.kind (lcl_of h3) (lcl_of h6) h8 (of_decide_eq_true h7) h9 h13 h10 h11)
    · exact absurd hk Bool.false_ne_true
  | .setT is a, X, T, s, h, hk => by
    cases s with
    | Assign ts e pos =>
      match ts, hk with
      | [t], hk =>
        cases t with
        | Tuple es k p =>
          obtain ⟨h1, h2⟩ := an (show (tgsB c (locB X.env.scope) is es && (noTup e && chkE c a X.env.scope e)) = true from hk)
          obtain ⟨h2, h3⟩ := an h2
          exact rs_setT (sndE a h.toXOk h3).1 (tg_ok h.N h.nd h.calm (p := locB X.env.scope) (tg := .tp is) (fun x hx => ⟨loc_of hx, .inl (h.fn x)⟩) h1) swsole_tup (sws_none h2) rfl
        | _ => exact absurd hk Bool.false_ne_true
      | [], hk => exact absurd hk Bool.false_ne_true
      | t :: _ :: _, hk => cases t <;> exact absurd hk Bool.false_ne_true
    | _ => exact absurd hk Bool.false_ne_true
  | .setI o i a, X, T, s, h, hk => by
    cases s with
    | Assign ts e pos =>
      match ts, hk with
      | [t], hk =>
        cases t with
        | Subscript eo ei p =>
          obtain ⟨h1, h2⟩ := an (show (plainX ei && (chkE c o X.env.scope eo && (chkE c i X.env.scope ei && chkE c a X.env.scope e))) = true from hk)
          obtain ⟨h2, h3⟩ := an h2
          obtain ⟨h3, h4⟩ := an h3
          exact rs_setI (sndE a h.toXOk h4).1 (pg_sub (sndE o h.toXOk h2).1 (sndE i h.toXOk h3).1 (set_D h.hu) fun v => by
            cases ei <;> first | rfl | exact absurd h1 Bool.false_ne_true) swsole_sub sws_sub rfl
        | _ => exact absurd hk Bool.false_ne_true
      | [], hk => exact absurd hk Bool.false_ne_true
      | t :: _ :: _, hk => cases t <;> exact absurd hk Bool.false_ne_true
    | _ => exact absurd hk Bool.false_ne_true
  | .ite t a b, X, T, s, h, hk => by
    cases s with
    | If et body els pos =>
      obtain ⟨h1, h2⟩ := an (show (chkE c t X.env.scope et && (chkSs c a X.env.scope body && chkSs c b X.env.scope els)) = true from hk)
      obtain ⟨h2, h3⟩ := an h2
      exact rs_ite (sndE t h.toXOk h1).2 (sndSs a h h2) (sndSs b h h3)
    | _ => exact absurd hk Bool.false_ne_true
  | .for tg it body, X, T, s, h, hk => by
    cases s with
    | For t iter bd els pos =>
      cases els with
      | nil =>
        obtain ⟨h1, h2⟩ := an (show (chkTg c (locB X.env.scope) tg t && (plainX iter && (chkI c it X.env.scope t iter && chkSs c body X.env.scope bd))) = true from hk)
        obtain ⟨h2, h3⟩ := an h2
        obtain ⟨h3, h4⟩ := an h3
        exact rs_for h.po h.calm (sndI it h.toXOk h3 h2) (tg_ok h.N h.nd h.calm (p := locB X.env.scope) (fun x hx => ⟨loc_of hx, .inl (h.fn x)⟩) h1) (sndSs body h h4) fun x => fold_of h2 _ x
      | cons _ _ => exact absurd hk Bool.false_ne_true
    | _ => exact absurd hk Bool.false_ne_true
  | .while t body, X, T, s, h, hk => by
    cases s with
    | While et bd els pos =>
      cases els with
      | nil =>
        obtain ⟨h1, h2⟩ := an (show (chkE c t X.env.scope et && chkSs c body X.env.scope bd) = true from hk)
        exact rs_while h.po (sndE t h.toXOk h1).2 (sndSs body h h2)
      | cons _ _ => exact absurd hk Bool.false_ne_true
    | _ => exact absurd hk Bool.false_ne_true
  | .pass, X, T, s, h, hk => by
    cases s with
    | Pass pos => exact rs_pass
    | Expr e pos =>
      cases e with
      | Constant k j p =>
        cases k with
        | str x => exact rs_doc
        | _ => exact absurd hk Bool.false_ne_true
      | _ => exact absurd hk Bool.false_ne_true
    | _ => exact absurd hk Bool.false_ne_true
  | .brk, X, T, s, h, hk => by
    cases s with
    | Break pos => exact rs_brk
    | _ => exact absurd hk Bool.false_ne_true
  | .cnt, X, T, s, h, hk => by
    cases s with
    | Continue pos => exact rs_cnt
    | _ => exact absurd hk Bool.false_ne_true
  | .never, X, T, s, h, hk => rs_never
theorem sndSs {c : Ck} {Δ : Den} : ∀ (g : ISs) {X : Cx} {T : Tb} {ss : List Stmt}, XOkS c T Δ X → chkSs c g X.env.scope ss = true → PSs X ss (tSs X.K T Δ g)
  | .nil, X, T, [], h, hk => rs_nil
  | .nil, X, T, _ :: _, h, hk => absurd hk Bool.false_ne_true
  | .cons a as, X, T, [], h, hk => absurd hk Bool.false_ne_true
  | .cons a as, X, T, s :: ss, h, hk => by
    obtain ⟨h1, h2⟩ := an (show (chkS c a X.env.scope s && chkSs c as X.env.scope ss) = true from hk)
    exact rs_cons (sndS a h h1) (sndSs as h h2)
end
end L2.PV

/-! PV, part 17: the defs, level by level; the law's end. -/
namespace L2.PV
open PySem PySem.Spec PyProof.Rows LamX

/-- what is asked of a def: its text is what the IR tells -/
structure DfOk (K : PySem.W.Frag) (mg : Str → Option Value) (base : Heap) (ts : List (Addr × Str)) (fes : List Fe) (fn : Fn) (fe : Fe) : Prop where
  ex : ∃ (N : List Str) (x qual : Str) (params : Arguments) (body : List Stmt) (scope : Scope) (dvs : List V) (kws : List (Str × V)) (f : Addr) (fd : FuncData) (lam : Bool),
    FunD K x qual params body scope dvs kws f fd ∧ FnScope N (N.take fn.ar) scope ∧ N.length = fn.sl ∧ fe.ar = fn.ar ∧ fn.ar ≤ fn.sl ∧ chkSs ⟨N, fes, lam⟩ fn.body scope body = true ∧ mg fe.name = some (.ref f) ∧
    (∀ p ∈ fe.df, ∃ (dvs : List V) (dsV : List Value), (∀ W, VRs K W p.2 dvs) ∧ Vals dvs dsV ∧ Binds K fd (N.take fn.ar) dsV) ∧
    (∀ p ∈ fe.kw, KBn K fd (N.take fn.ar) p.1 p.2 (fun us ws => us ++ ws) (fun vs zs => vs ++ zs)) ∧
    (lam = true → ∃ c P : Addr, fd.code = .ref c ∧ TabB base mg c P ∧ (P, qual ++ ".<locals>." ++ "<lambda>") ∈ ts ∧ ∀ p ∈ ts, p.1 = P → p.2 = qual ++ ".<locals>." ++ "<lambda>")
theorem start_er {K : PySem.W.Frag} {W : Wd} {N : List Str} {ds : List D} {vs : List V} {ar sl : Nat} (h1 : N.length = sl) (h2 : ds.length = ar) (h3 : ar ≤ sl) (r : VRs K W ds vs) : ER K W (ds.map some ++ List.replicate (sl - ar) none) (L2.start N vs) := by
  have hl := r.len
  refine ⟨?_, fun i d e => ?_⟩
  · unfold L2.start
    simp only [List.length_append, List.length_map, List.length_replicate]
    omega
  · unfold L2.start
    by_cases hi : i < ds.length
    · rw [List.getElem?_append_left (by simpa using hi), List.getElem?_map] at e
      have e2 : ds[i]? = some d := by
        cases hd : ds[i]? with
        | none => rw [hd] at e; cases e
        | some d' => rw [hd] at e; cases e; rfl
      obtain ⟨v, e3, r2⟩ := r.get e2
      refine ⟨v, ?_, r2⟩
      rw [List.getElem?_append_left (by simpa using (by omega : i < vs.length)), List.getElem?_map, e3]
      rfl
    · rw [List.getElem?_append_right (by simpa using hi)] at e
      by_cases hj : i - (ds.map some).length < sl - ar
      · rw [List.getElem?_replicate, if_pos hj] at e; cases e
      · rw [List.getElem?_replicate, if_neg hj] at e; cases e
theorem step_fn {P : Program} {w : World} {K : PySem.W.Frag} {mg : Str → Option Value} {base : Heap} {ts : List (Addr × Str)} {fs : List Fn} {fes : List Fe} {k i : Nat} {fn : Fn} (hb : ∀ x ∈ bltNames, mg x = none) (hl : mg "lcm" = some (.builtin "math.lcm"))
    (ih : ∀ (j : Nat) (fe : Fe), fes[j]? = some fe → ∃ f fd ps, FeOk P w K mg base ts (den fs k) (k + 4) j fe f fd ps) (hfn : fs[i]? = some fn)
    {N : List Str} {x qual : Str} {params : Arguments} {body : List Stmt} {scope : Scope} {dvs : List V} {kws : List (Str × V)} {f : Addr} {fd : FuncData} {lam : Bool}
    (F : FunD K x qual params body scope dvs kws f fd) (S : FnScope N (N.take fn.ar) scope) (h1 : N.length = fn.sl) (h3 : fn.ar ≤ fn.sl) (h4 : chkSs ⟨N, fes, lam⟩ fn.body scope body = true)
    (h7 : lam = true → ∃ c P : Addr, fd.code = .ref c ∧ TabB base mg c P ∧ (P, qual ++ ".<locals>." ++ "<lambda>") ∈ ts ∧ ∀ p ∈ ts, p.1 = P → p.2 = qual ++ ".<locals>." ++ "<lambda>") :
    FnOk P w K mg base CX0 (k + 1 + 4) f fd (N.take fn.ar) (spD K ts (den fs (k + 1)) fn.ar i) := by
  obtain ⟨oc, od, dV, kV, doc, pm, an, cdv, ct, osl, efd, lk, hcd, _, _⟩ := F.ex
  subst efd
  refine fn_of lk hcd S (fun vs H Q E h => ?_) (fun A outer s H vs Q E hr h => ?_)
  · rw [h.1, List.length_take, h1]; omega
  · obtain ⟨hlen, W, ds, rfl, sr, rv, q⟩ := h
    have hX : XOkS ⟨N, fes, lam⟩ (T0 ts) (den fs k) (cxOf CX0 P w K mg base N qual scope f cdv A outer s W.H E) := by
      refine { calm := rfl, N := rfl, nd := S.nd, fns := ⟨k, hr, fun j fe' hj => ih j fe' hj⟩, lam := fun hlam => ?_, mute := rfl, blt := hb, lcm := hl, fn := fun _ => rfl, kind := S.kind, po := passes_of rfl }
      obtain ⟨c, P, e1, e2, e3, e4⟩ := h7 hlam
      exact ⟨c, P, e1, e2, e3, e4⟩
    refine ⟨_, sndSs fn.body hX h4, W, ds.map some ++ List.replicate (fn.sl - fn.ar) none, rfl, start_er h1 (by rw [rv.len, hlen]) h3 rv, sr, ?_⟩
    have hdl : ds.length = fn.ar := by rw [rv.len, hlen]
    replace q : After K (T0 ts) W (match fs[i]? with
      | some fn => runF (den fs k) fn ds W.S
      | none => .bad) (Gv K Q) := q
    rw [hfn] at q
    replace q : After K (T0 ts) W (if ds.length = fn.ar then
      (match exSs (den fs k) fn.body (ds.map some ++ List.replicate (fn.sl - fn.ar) none) W.S with
        | .ok (.nx, _) S1 => .ok .non S1
        | .ok (.ret d, _) S1 => .ok d S1
        | .ok _ _ => .bad
        | .ex x S1 => .ex x S1
        | .bad => .bad)
      else .bad) (Gv K Q) := q
    rw [if_pos hdl] at q
    cases hr2 : exSs (den fs k) fn.body (ds.map some ++ List.replicate (fn.sl - fn.ar) none) W.S with
    | bad => rw [hr2] at q; exact q
    | ex y S2 => rw [hr2] at q; exact q
    | ok o S2 =>
      obtain ⟨fl, env'⟩ := o
      rw [hr2] at q
      intro W' eS x' s' σ' er'
      cases fl with
      | nx => exact q W' eS x' s' _ rfl
      | ret d => exact fun v rv => q W' eS x' s' v rv
      | brk => exact (q : False).elim
      | cnt => exact (q : False).elim
theorem all_fn {P : Program} {w : World} {K : PySem.W.Frag} {mg : Str → Option Value} {base : Heap} {ts : List (Addr × Str)} {fs : List Fn} {fes : List Fe} (hb : ∀ x ∈ bltNames, mg x = none) (hl : mg "lcm" = some (.builtin "math.lcm"))
    (hd : ∀ (i : Nat) (fe : Fe), fes[i]? = some fe → ∃ fn : Fn, fs[i]? = some fn ∧ DfOk K mg base ts fes fn fe) : ∀ (k i : Nat) (fe : Fe), fes[i]? = some fe → ∃ f fd ps, FeOk P w K mg base ts (den fs k) (k + 4) i fe f fd ps
  | 0, i, fe, h => by
    obtain ⟨fn, _, D⟩ := hd i fe h
    obtain ⟨N, x, qual, params, body, scope, dvs, kws, f, fd, lam, F, S, h1, h2, h3, h4, h5, h6, h8, _⟩ := D.ex
    refine ⟨f, fd, N.take fn.ar, ⟨⟨fun vs H Q E h => ?_, fun A outer s H args us vs Q E hr he hb hv h => ?_⟩, h5, F.kp, h6, h8⟩⟩
    · rw [h.1, h2, List.length_take, h1]; omega
    · obtain ⟨_, W, ds, _, _, _, q⟩ := h
      exact (show False from q).elim
  | k + 1, i, fe, h => by
    have ih := all_fn (P := P) (w := w) hb hl hd k
    obtain ⟨fn, hfn, D⟩ := hd i fe h
    obtain ⟨N, x, qual, params, body, scope, dvs, kws, f, fd, lam, F, S, h1, h2, h3, h4, h5, h6, h8, h7⟩ := D.ex
    refine ⟨f, fd, N.take fn.ar, ⟨?_, h5, F.kp, h6, h8⟩⟩
    rw [h2]
    exact step_fn hb hl ih hfn F S h1 h3 h4 h7
/-- the end: K, the tables, the promise -/
theorem walk_X {l : PySem.W.OpenLaw} {n k : Nat} {q : Program} {loose : List Str} {XP : (Str → Option Value) → Heap → Prop} {YP : World → Heap → Prop} {d : DefRec} {x : Str}
    (hn : l.most = some n) (hn2 : n ≤ sizeLine) (hdf : d.params.defaults = []) (hr : Room k callerA)
    (F : ∀ (w : World) (mg : Str → Option Value) (fa : Addr) (h : Heap), YP w h → h.Ns mainGlobals mg → mg d.name = some (.ref fa) → ∃ K : PySem.W.Frag, K.In h ∧ LawAtS l w K CX0 k n x mg fa h) :
    PySem.W.WalkO q loose XP YP l.row.toRowW d [] (fun f vs => PySem.call f vs) := by
  refine Att.attach_callB hn hdf fun w s₀ s₁ mg mb fa o pm cd doc a vs ns G Y ho hd hcd hmg hobj hints hlen hbits hg => ?_
  obtain ⟨K, KX, fd, cs, sp, hT, nT, C, hb, hsp, hF⟩ := F w mg fa _ Y G.T.g hmg
  exact law_callTs KX G.T.g G.T.b G.T.builtins G.T.nolimit hg hT nT C G.T.bmain hobj hints (Nat.le_trans hlen hn2) hr hF hb (fun H hH hS => hsp H a ns hlen hbits hH hS) fun H e s' z => z
/-- the law's promise, from the evaluator's answer -/
theorem law_sp {K : PySem.W.Frag} {ts : List (Addr × Str)} {fs : List Fn} {k i : Nat} {H : Hp} {a : Addr} {ns : List Int} (hT : ∀ p ∈ ts, H p.1 = some (.tbl #[])) (hS : SqL K H a (ns.map V.int))
    (hl : ∀ d, (d = .scr (ns.map D.int) ∨ d = .lst (ns.map D.int)) → ∃ S', den fs k i [d] [] = .ok (.bl true) S') : spD K ts (den fs k) 1 i [.ref a] H (fun v _ => v = .bl true) fun _ _ _ => False := by
  have sr : SR K (T0 ts) ⟨H, [], [], []⟩ := ⟨rfl, List.nodup_nil, fun n c a h1 h2 => (by cases h1), fun a h => (by cases h), fun p hp => TabS.nil (hT p hp), fun a h => (by cases h)⟩
  have rv : VRs K ⟨H, [], [], []⟩ (ns.map D.int) (ns.map V.int) := by
    clear hl hS
    induction ns with
    | nil => rfl
    | cons x xs ih => exact VRs.cons rfl ih
  have fin : ∀ d, (d = .scr (ns.map D.int) ∨ d = .lst (ns.map D.int)) → VR K ⟨H, [], [], []⟩ d (.ref a) → spD K ts (den fs k) 1 i [.ref a] H (fun v _ => v = .bl true) fun _ _ _ => False := fun d hd r => by
    obtain ⟨S', e⟩ := hl d hd
    refine ⟨rfl, ⟨H, [], [], []⟩, [d], rfl, sr, VRs.cons r VRs.nil, ?_⟩
    exact After.ofOk e fun W' _ _ _ v rv' => rv'
  rcases hS with (h | ⟨o, h⟩) | h
  · exact fin _ (.inr rfl) ⟨a, _, rfl, h, (fun z => by rcases z with ⟨n, c, z, _⟩ | z <;> cases z), rv⟩
  · exact fin _ (.inl rfl) ⟨a, _, rfl, .inl ⟨o, h⟩, rv⟩
  · exact fin _ (.inl rfl) ⟨a, _, rfl, .inr h, rv⟩
end L2.PV

/-! PV, part 18: from the head's facts to the defs. -/
namespace L2.PV
open PySem PySem.Spec PyProof.Rows LamX

theorem df_mk {K : PySem.W.Frag} {mg : Str → Option Value} {base : Heap} {ts : List (Addr × Str)} {fes : List Fe} {fn : Fn} {fe : Fe} {x qual : Str} {params : Arguments} {body : List Stmt} {scope : Scope} {dvs : List V} {kws : List (Str × V)} {f : Addr} {fd : FuncData}
    (F : FunD K x qual params body scope dvs kws f fd) {N : List Str} {lam : Bool} (hs : C8.scC N (N.take fn.ar) scope = true) (h1 : N.length = fn.sl) (h2 : fe.ar = fn.ar) (h3 : fn.ar ≤ fn.sl) (hc : chkSs ⟨N, fes, lam⟩ fn.body scope body = true)
    (hg : mg fe.name = some (.ref f)) (hb : ∀ p ∈ fe.df, ∃ (dvs : List V) (dsV : List Value), (∀ W, VRs K W p.2 dvs) ∧ Vals dvs dsV ∧ Binds K fd (N.take fn.ar) dsV)
    (hl : lam = true → ∃ c P : Addr, fd.code = .ref c ∧ TabB base mg c P ∧ (P, qual ++ ".<locals>." ++ "<lambda>") ∈ ts ∧ ∀ p ∈ ts, p.1 = P → p.2 = qual ++ ".<locals>." ++ "<lambda>")
    (hkb : ∀ p ∈ fe.kw, KBn K fd (N.take fn.ar) p.1 p.2 (fun us ws => us ++ ws) (fun vs zs => vs ++ zs)) : DfOk K mg base ts fes fn fe :=
  ⟨N, x, qual, params, body, scope, dvs, kws, f, fd, lam, F, C8.fnScope_by hs, h1, h2, h3, hc, hg, hb, hkb, hl⟩
theorem bn_of {K : PySem.W.Frag} {fd : FuncData} {ps : List Str} {n : Nat} (b : Binds K fd ps []) : ∀ p ∈ [(n, ([] : List D))], ∃ (dvs : List V) (dsV : List Value), (∀ W, VRs K W p.2 dvs) ∧ Vals dvs dsV ∧ Binds K fd ps dsV := fun p hp => by
  have e : p = (n, []) := by simpa using hp
  subst e
  exact ⟨[], [], fun _ => rfl, .nil, b⟩
theorem bd_of {K : PySem.W.Frag} {fd : FuncData} {ps : List Str} {n : Nat} {ds : List D} {dvs : List V} (hv : ∀ W, VRs K W ds dvs) (b : ∃ us, Vals dvs us ∧ Binds K fd ps us) : ∀ p ∈ [(n, ds)], ∃ (dvs : List V) (dsV : List Value), (∀ W, VRs K W p.2 dvs) ∧ Vals dvs dsV ∧ Binds K fd ps dsV := fun p hp => by
  have e : p = (n, ds) := by simpa using hp
  subst e
  obtain ⟨us, h1, h2⟩ := b
  exact ⟨dvs, us, hv, h1, h2⟩
theorem kb_nil {K : PySem.W.Frag} {fd : FuncData} {ps : List Str} : ∀ p ∈ ([] : List (Nat × List Str)), KBn K fd ps p.1 p.2 (fun us ws => us ++ ws) (fun vs zs => vs ++ zs) := fun p hp => nomatch hp
/-- all parameters are given, the last ones by their names; no positional defaults -/
theorem kb_of {K : PySem.W.Frag} {x qual : Str} {params : Arguments} {body : List Stmt} {scope : Scope} {kws : List (Str × V)} {f : Addr} {fd : FuncData} {ps : List Str} (F : FunD K x qual params body scope [] kws f fd) {n : Nat} {ks : List Str}
    (h : ∀ (kV doc pm : Value) (an : Option Addr) (cdv ct : Value) (us ws : List Value), us.length = n → ws.length = ks.length → bindArgs (PySem.W.fnOf x qual params body scope .none kV doc pm an cdv ct) ⟨us, ks.zip ws⟩ = pure (ps.zip (us ++ ws))) :
    ∀ p ∈ [(n, ks)], KBn K fd ps p.1 p.2 (fun us ws => us ++ ws) (fun vs zs => vs ++ zs) := fun p hp => by
  have e : p = (n, ks) := by simpa using hp
  subst e
  obtain ⟨oc, od, dV, kV, doc, pm, an, cdv, ct, osl, rfl, lk, hcd, hD, hK⟩ := F.ex
  rcases hD with ⟨_, rfl⟩ | ⟨e, _⟩
  · exact ⟨fun s us ws _ l1 l2 => .of_eq (h kV doc pm an cdv ct us ws l1 l2), fun r1 r2 => r1.append r2⟩
  · exact absurd rfl e
inductive AllDf (K : PySem.W.Frag) (mg : Str → Option Value) (base : Heap) (ts : List (Addr × Str)) (fes0 : List Fe) : List Fn → List Fe → Prop where
  | nil : AllDf K mg base ts fes0 [] []
  | cons {fn fe fns fes} : DfOk K mg base ts fes0 fn fe → AllDf K mg base ts fes0 fns fes → AllDf K mg base ts fes0 (fn :: fns) (fe :: fes)
theorem AllDf.get {K : PySem.W.Frag} {mg : Str → Option Value} {base : Heap} {ts : List (Addr × Str)} {fes0 : List Fe} : ∀ {fns : List Fn} {fes : List Fe}, AllDf K mg base ts fes0 fns fes → ∀ (i : Nat) (fe : Fe), fes[i]? = some fe → ∃ fn : Fn, fns[i]? = some fn ∧ DfOk K mg base ts fes0 fn fe
  | _, _, .nil, i, fe, h => by simp at h
  | _, _, .cons (fn := fn) d t, 0, fe, h => by
    have e := Option.some.inj (show some _ = some fe from by simpa using h)
    subst e
    exact ⟨fn, by simp, d⟩
  | _, _, .cons (fn := fn) d t, i + 1, fe, h => by
    obtain ⟨fn', e, d'⟩ := t.get i fe (by simpa using h)
    exact ⟨fn', by simpa using e, d'⟩
/-- the lambda's table, of the head's facts -/
theorem lam_of {K : PySem.W.Frag} {mg : Str → Option Value} {base : Heap} {x qual : Str} {params : Arguments} {body : List Stmt} {scope : Scope} {dvs : List V} {kws : List (Str × V)} {fd : FuncData} {nm : Str}
    (F : FunD K x qual params body scope dvs kws (He.fAd K (nm, none)) fd) (T : TabB base mg (He.cT K (nm, none)).1 (He.cT K (nm, none)).2) {ts : List (Addr × Str)} (hm : ((He.cT K (nm, none)).2, qual ++ ".<locals>." ++ "<lambda>") ∈ ts)
    (hu : ∀ p ∈ ts, p.1 = (He.cT K (nm, none)).2 → p.2 = qual ++ ".<locals>." ++ "<lambda>") : ∃ c P : Addr, fd.code = .ref c ∧ TabB base mg c P ∧ (P, qual ++ ".<locals>." ++ "<lambda>") ∈ ts ∧ ∀ p ∈ ts, p.1 = P → p.2 = qual ++ ".<locals>." ++ "<lambda>" := by
  obtain ⟨oc, od, dV, kV, doc, pm, an, cdv, ct, osl, efd, lk, hcd, _, _⟩ := F.ex
  obtain ⟨c, ec⟩ := He.codeIn_ref hcd
  subst ec
  have e2 : fd.code = .ref c := by rw [efd]
  have e := He.codeOf_eq lk e2
  have e1 : (He.cT K (nm, none)).1 = c := e
  rw [e1] at T
  exact ⟨c, _, e2, T, hm, hu⟩
/-- the law's end, all facts in hand -/
theorem law_at {l : PySem.W.OpenLaw} {w : World} {K : PySem.W.Frag} {mg : Str → Option Value} {h : Heap} {fa : List He.Fa} {fn : List He.DefD} {tf : List He.Defn} {ex : PySem.W.Frag → Bool} {fs : List Fn} {fes : List Fe} {kk n il : Nat} {fal : Addr} {qn : He.Defn → Str}
    (KX : K.In h) (c : He.SaysX fa fn [] tf ex w h K) {fd : FuncData} {x : Str}
    (hbind : ∀ (s : Shared) (u : Value), BindsTo s fd ⟨[u], []⟩ [(x, u)])
    (hps : ∀ (base : Heap), (∀ p ∈ tf, TabB base mg (He.cT K p).1 (He.cT K p).2) → FnOk l.prog w K mg base CX0 (kk + 4) fal fd [x] (spD K (tf.map fun p => ((He.cT K p).2, qn p)) (den fs kk) 1 il))
    (hlaw : ∀ ns : List Int, ns.length ≤ n → ∀ d, (d = .scr (ns.map D.int) ∨ d = .lst (ns.map D.int)) → ∃ S', den fs kk il [d] [] = .ok (.bl true) S') : LawAtS l w K CX0 (kk + 4) n x mg fal h := by
  refine ⟨fd, tf.map (He.cT K), spD K (tf.map fun p => ((He.cT K p).2, qn p)) (den fs kk) 1 il, fun p hp => ?_, fun p hp => ?_, fun p hp => ?_, hbind, fun H a ns hn _ hT hS => ?_, fun base _ _ hT => hps base fun p hp => hT _ (List.mem_map.mpr ⟨p, hp, rfl⟩)⟩
  · obtain ⟨q, hq, rfl⟩ := List.mem_map.mp hp; exact c.empty q hq
  · obtain ⟨q, hq, rfl⟩ := List.mem_map.mp hp; exact c.out q hq
  · obtain ⟨q, hq, rfl⟩ := List.mem_map.mp hp; exact PySem.W.codeHd_of_K KX (c.hd q hq)
  · refine law_sp (fun p hp => ?_) hS (hlaw ns hn)
    obtain ⟨q, hq, rfl⟩ := List.mem_map.mp hp
    exact hT _ (List.mem_map.mpr ⟨q, hq, rfl⟩)
end L2.PV

namespace L2.PV
open PySem PySem.Spec PyProof.Rows LamX
def top (i : Nat) : Stmt := PySem.Challenge.pw_portsched_k77_whole_latest_departures_an.main.body.getD i (.Pass ⟨0, 0, 0, 0⟩)
abbrev i_has_hour : Nat := 0
abbrev i_next_hour : Nat := 1
abbrev i_last_hour : Nat := 2
abbrev i_closures_of : Nat := 3
abbrev i_first_start : Nat := 4
abbrev i_last_in_window : Nat := 5
abbrev i_last_start : Nat := 6
abbrev i_later_bound : Nat := 7
abbrev i_timeline : Nat := 8
abbrev i_earliest : Nat := 9
abbrev i_latest_by : Nat := 10
abbrev i_level_at : Nat := 11
abbrev i_levels_at : Nat := 12
abbrev i_period_of : Nat := 13
abbrev i_period_levels : Nat := 14
abbrev i_extremes_of : Nat := 15
abbrev i_blocking_sill : Nat := 16
abbrev i_rows_of_depths : Nat := 17
abbrev i_last_passable : Nat := 18
abbrev i_latest_departure : Nat := 19
abbrev i_law_tape : Nat := 20
abbrev i_law_draw : Nat := 21
abbrev i_law_pick : Nat := 22
abbrev i_law_turns : Nat := 23
abbrev i_law_put : Nat := 24
abbrev i_law_same : Nat := 25
abbrev i_law_a_gcd : Nat := 26
abbrev i_law_a_level : Nat := 27
abbrev i_law_a_period : Nat := 28
abbrev i_law_a_least : Nat := 29
abbrev i_law_a_in : Nat := 30
abbrev i_law_a_canonical : Nat := 31
abbrev i_law_a_levels : Nat := 32
abbrev i_law_a_part : Nat := 33
abbrev i_law_a_sill : Nat := 34
abbrev i_law_a_near : Nat := 35
abbrev i_law_a_all_levels : Nat := 36
abbrev i_law_a_transit : Nat := 37
abbrev i_law_a_sea : Nat := 38
abbrev i_law_a_back : Nat := 39
abbrev i_law_a_deep : Nat := 40
abbrev i_law_asking : Nat := 41
abbrev i_law_instance : Nat := 42
abbrev i_law_looked : Nat := 43
abbrev i_law : Nat := 44
/-- has_hour -/
def ir_has_hour : ISs := (.cons (.setT [2, 3] (.var 0))
  (.cons (.ite (.cmp .Lt (.var 1) (.blt .len false (.cons (.var 2) .nil))) (.cons (.ret (.cmp .Eq (.idx (.var 2) (.var 1)) (.cst (.str "1"))))
  .nil) .nil)
  (.cons (.ret (.cmp .Eq (.idx (.var 3) (.bin .Mod (.bin .Sub (.var 1) (.blt .len false (.cons (.var 2) .nil))) (.blt .len false (.cons (.var 3) .nil)))) (.cst (.str "1"))))
  .nil)))
def nm0 : List Str := ["window", "hour", "initial", "cycle"]
/-- next_hour -/
def ir_next_hour : ISs := (.cons (.setT [2, 3] (.var 0))
  (.cons (.ite (.cmp .Lt (.var 1) (.blt .len false (.cons (.var 2) .nil))) (.cons (.set 5 (.met .find2 (.var 2) (.cons (.cst (.str "1")) (.cons (.var 1) .nil))))
  (.cons (.ite (.cmp .GtE (.var 5) (.cst (.int 0))) (.cons (.ret (.var 5))
  .nil) .nil)
  (.cons (.set 1 (.blt .len false (.cons (.var 2) .nil)))
  .nil))) .nil)
  (.cons (.set 4 (.bin .Mod (.bin .Sub (.var 1) (.blt .len false (.cons (.var 2) .nil))) (.blt .len false (.cons (.var 3) .nil))))
  (.cons (.set 5 (.met .find2 (.bin .Add (.var 3) (.var 3)) (.cons (.cst (.str "1")) (.cons (.var 4) .nil))))
  (.cons (.ite (.cmp .Lt (.var 5) (.cst (.int 0))) (.cons (.ret (.cst .non))
  .nil) .nil)
  (.cons (.ret (.bin .Sub (.bin .Add (.var 1) (.var 5)) (.var 4)))
  .nil))))))
def nm1 : List Str := ["window", "hour", "initial", "cycle", "place", "found"]
/-- last_hour -/
def ir_last_hour : ISs := (.cons (.setT [2, 3] (.var 0))
  (.cons (.set 4 (.blt .len false (.cons (.var 2) .nil)))
  (.cons (.for (.nm 5) (.rng3 (.var 1) (.blt .max2 false (.cons (.bin .Sub (.var 4) (.cst (.int 1))) (.cons (.bin .Sub (.var 1) (.blt .len false (.cons (.var 3) .nil))) .nil))) (.neg (.cst (.int 1)))) (.cons (.ite (.call i_has_hour (.cons (.var 0) (.cons (.var 5) .nil)) []) (.cons (.ret (.var 5))
  .nil) .nil)
  .nil))
  (.cons (.set 6 (.met .rfind1 (.slc (.var 2) .nil (.cons (.blt .max2 false (.cons (.bin .Add (.var 1) (.cst (.int 1))) (.cons (.cst (.int 0)) .nil))) .nil)) (.cons (.cst (.str "1")) .nil)))
  (.cons (.ite (.cmp .Lt (.var 6) (.cst (.int 0))) (.cons (.ret (.cst .non))
  .nil) .nil)
  (.cons (.ret (.var 6))
  .nil))))))
def nm2 : List Str := ["window", "hour", "initial", "cycle", "start", "at", "found"]
/-- closures_of -/
def ir_closures_of : ISs := (.cons (.ret (.lc false [("resource", 2), ("begin", 3), ("duration", 4)] (.tp [2, 3, 4]) (.seq (.var 1)) (.cons (.cmp .In (.var 2) (.idx (.var 0) (.cst (.int 0)))) .nil) (.tup (.cons (.var 3) (.cons (.bin .Add (.var 3) (.var 4)) .nil)))))
  .nil)
def nm3 : List Str := ["job", "outages", "resource", "begin", "duration"]
/-- first_start -/
def ir_first_start : ISs := (.cons (.set 3 (.call i_next_hour (.cons (.idx (.var 0) (.cst (.int 2))) (.cons (.var 2) .nil)) []))
  (.cons (.for (.tp [4, 5]) (.seq (.srt (.call i_closures_of (.cons (.var 0) (.cons (.var 1) .nil)) []))) (.cons (.ite (.chn .LtE .Lt (.var 4) (.var 3) (.var 5)) (.cons (.set 3 (.call i_next_hour (.cons (.idx (.var 0) (.cst (.int 2))) (.cons (.var 5) .nil)) []))
  .nil) .nil)
  .nil))
  (.cons (.ret (.var 3))
  .nil)))
def nm4 : List Str := ["job", "outages", "hour", "start", "begin", "end"]
/-- last_in_window -/
def ir_last_in_window : ISs := (.cons (.ite (.cmp .Lt (.var 1) (.cst (.int 0))) (.cons (.ret (.cst .non))
  .nil) .nil)
  (.cons (.ret (.call i_last_hour (.cons (.var 0) (.cons (.var 1) .nil)) []))
  .nil))
def nm5 : List Str := ["window", "hour"]
/-- last_start -/
def ir_last_start : ISs := (.cons (.set 3 (.call i_last_in_window (.cons (.idx (.var 0) (.cst (.int 2))) (.cons (.var 2) .nil)) []))
  (.cons (.for (.tp [4, 5]) (.seq (.srtk (.call i_closures_of (.cons (.var 0) (.cons (.var 1) .nil)) []))) (.cons (.ite (.and (.cons (.cmp .IsNot (.var 3) (.cst .non)) (.cons (.chn .LtE .Lt (.var 4) (.var 3) (.var 5)) .nil))) (.cons (.set 3 (.call i_last_in_window (.cons (.idx (.var 0) (.cst (.int 2))) (.cons (.bin .Sub (.var 4) (.cst (.int 1))) .nil)) []))
  .nil) .nil)
  .nil))
  (.cons (.ret (.var 3))
  .nil)))
def nm6 : List Str := ["job", "outages", "hour", "start", "begin", "end"]
/-- later_bound -/
def ir_later_bound : ISs := (.cons (.ite (.or (.cons (.cmp .Gt (.var 2) (.var 0)) (.cons (.and (.cons (.cmp .Eq (.var 2) (.var 0)) (.cons (.cmp .IsNot (.var 1) (.cst .non)) (.cons (.cmp .Lt (.var 3) (.var 1)) .nil)))) .nil))) (.cons (.ret (.tup (.cons (.var 2) (.cons (.var 3) .nil))))
  .nil) .nil)
  (.cons (.ret (.tup (.cons (.var 0) (.cons (.var 1) .nil))))
  .nil))
def nm7 : List Str := ["bound", "reason", "end", "k"]
/-- timeline -/
def ir_timeline : ISs := (.cons (.setT [1, 2] (.var 0))
  (.cons (.set 3 .dct)
  (.cons (.set 4 (.lst true .nil))
  (.cons (.for (.nm 5) (.rng1 (.blt .len false (.cons (.var 1) .nil))) (.cons (.par 6 7 (.idx (.idx (.var 1) (.var 5)) (.cst (.int 3))) (.cst .non))
  (.cons (.for (.nm 8) (.seq (.idx (.idx (.var 1) (.var 5)) (.cst (.int 0)))) (.cons (.set 9 (.met .dget1 (.var 3) (.cons (.var 8) .nil)))
  (.cons (.ite (.cmp .IsNot (.var 9) (.cst .non)) (.cons (.setT [6, 7] (.call i_later_bound (.cons (.var 6) (.cons (.var 7) (.cons (.bin .Add (.idx (.idx (.var 4) (.var 9)) (.cst (.int 2))) (.idx (.idx (.var 1) (.var 9)) (.cst (.int 1)))) (.cons (.var 9) .nil)))) []))
  .nil) .nil)
  (.cons (.setI (.var 3) (.var 8) (.var 5))
  .nil))))
  (.cons (.ex (.met .append (.var 4) (.cons (.tup (.cons (.var 6) (.cons (.var 7) (.cons (.call i_first_start (.cons (.idx (.var 1) (.var 5)) (.cons (.var 2) (.cons (.var 6) .nil))) []) .nil)))) .nil)))
  .nil))))
  (.cons (.ret (.frz (.var 4)))
  .nil)))))
def nm8 : List Str := ["instance", "jobs", "outages", "last_user", "rows", "i", "bound", "reason", "resource", "k"]
/-- earliest -/
def ir_earliest : ISs := (.cons (.ret (.blt .tuple false (.cons (.lc false [("bound", 1), ("reason", 2), ("start", 3)] (.tp [1, 2, 3]) (.seq (.call i_timeline (.cons (.var 0) .nil) [])) .nil (.var 3)) .nil)))
  .nil)
def nm9 : List Str := ["instance", "bound", "reason", "start"]
/-- latest_by -/
def ir_latest_by : ISs := (.cons (.setT [2, 3] (.var 0))
  (.cons (.set 4 .dct)
  (.cons (.set 5 (.lst true .nil))
  (.cons (.for (.nm 6) (.rng3 (.bin .Sub (.blt .len false (.cons (.var 2) .nil)) (.cst (.int 1))) (.neg (.cst (.int 1))) (.neg (.cst (.int 1)))) (.cons (.setT [7, 8, 9, 10] (.idx (.var 2) (.var 6)))
  (.cons (.set 11 (.idx (.var 1) (.var 6)))
  (.cons (.for (.nm 12) (.seq (.var 7)) (.cons (.ite (.cmp .In (.var 12) (.var 4)) (.cons (.set 11 (.blt .min2 false (.cons (.var 11) (.cons (.bin .Sub (.idx (.var 4) (.var 12)) (.var 8)) .nil))))
  .nil) .nil)
  .nil))
  (.cons (.set 13 (.call i_last_start (.cons (.idx (.var 2) (.var 6)) (.cons (.var 3) (.cons (.var 11) .nil))) []))
  (.cons (.ite (.or (.cons (.cmp .Is (.var 13) (.cst .non)) (.cons (.cmp .Lt (.var 13) (.var 10)) .nil))) (.cons (.ret (.cst .non))
  .nil) .nil)
  (.cons (.for (.nm 12) (.seq (.var 7)) (.cons (.setI (.var 4) (.var 12) (.var 13))
  .nil))
  (.cons (.ex (.met .append (.var 5) (.cons (.var 13) .nil)))
  .nil))))))))
  (.cons (.ret (.blt .tuple false (.cons (.rev (.var 5)) .nil)))
  .nil)))))
def nm10 : List Str := ["instance", "deadlines", "jobs", "outages", "next_start", "backwards", "i", "resources", "duration", "window", "release", "limit", "resource", "start"]
/-- level_at -/
def ir_level_at : ISs := (.cons (.ret (.blt .sum false (.cons (.lc false [("component", 2)] (.nm 2) (.seq (.var 0)) .nil (.idx (.var 2) (.bin .Mod (.var 1) (.blt .len false (.cons (.var 2) .nil))))) .nil)))
  .nil)
def nm11 : List Str := ["tide", "hour", "component"]
/-- levels_at -/
def ir_levels_at : ISs := (.cons (.ret (.blt .tuple false (.cons (.lc false [("number", 3)] (.nm 3) (.rng1 (.var 2)) .nil (.call i_level_at (.cons (.var 0) (.cons (.bin .Add (.var 1) (.var 3)) .nil)) [])) .nil)))
  .nil)
def nm12 : List Str := ["tide", "hour", "count", "number"]
/-- period_of -/
def ir_period_of : ISs := (.cons (.set 1 (.cst (.int 1)))
  (.cons (.for (.nm 2) (.seq (.var 0)) (.cons (.set 1 (.blt .lcm false (.cons (.var 1) (.cons (.blt .len false (.cons (.var 2) .nil)) .nil))))
  .nil))
  (.cons (.ret (.var 1))
  .nil)))
def nm13 : List Str := ["tide", "period", "component"]
/-- period_levels -/
def ir_period_levels : ISs := (.cons (.set 2 (.call i_period_of (.cons (.var 0) .nil) []))
  (.cons (.ite (.cmp .Gt (.var 2) (.var 1)) (.cons .never
  .nil) .nil)
  (.cons (.ret (.call i_levels_at (.cons (.var 0) (.cons (.cst (.int 0)) (.cons (.var 2) .nil))) []))
  .nil)))
def nm14 : List Str := ["tide", "most_period", "period"]
/-- extremes_of -/
def ir_extremes_of : ISs := (.cons (.set 2 (.call i_period_levels (.cons (.var 0) (.cons (.var 1) .nil)) []))
  (.cons (.ret (.tup (.cons (.blt .min1 false (.cons (.var 2) .nil)) (.cons (.blt .max1 false (.cons (.var 2) .nil)) .nil))))
  .nil))
def nm15 : List Str := ["tide", "most_period", "levels"]
/-- blocking_sill -/
def ir_blocking_sill : ISs := (.cons (.set 4 (.idx (.callk i_extremes_of (.cons (.var 0) .nil) ["most_period"] (.cons (.var 3) .nil)) (.cst (.int 1))))
  (.cons (.for (.tp [5, 6]) (.enum (.var 1)) (.cons (.ite (.cmp .Lt (.bin .Add (.var 4) (.idx (.var 6) (.cst (.int 1)))) (.var 2)) (.cons (.ret (.var 5))
  .nil) .nil)
  .nil))
  (.cons (.ret (.cst .non))
  .nil)))
def nm16 : List Str := ["tide", "channel", "draft", "most_period", "highest", "number", "sill"]
/-- rows_of_depths -/
def ir_rows_of_depths : ISs := (.cons (.ret (.lc false [("sill", 2)] (.nm 2) (.seq (.var 0)) .nil (.lc false [("level", 3)] (.nm 3) (.seq (.var 1)) .nil (.bin .Add (.idx (.var 2) (.cst (.int 1))) (.var 3)))))
  .nil)
def nm17 : List Str := ["channel", "levels", "sill", "level"]
/-- last_passable -/
def ir_last_passable : ISs := (.cons (.for (.nm 3) (.rng3 (.var 2) (.blt .max2 false (.cons (.bin .Sub (.var 2) (.blt .len false (.cons (.var 0) .nil))) (.cons (.neg (.cst (.int 1))) .nil))) (.neg (.cst (.int 1)))) (.cons (.ite (.cmp .GtE (.idx (.var 0) (.bin .Mod (.var 3) (.blt .len false (.cons (.var 0) .nil)))) (.var 1)) (.cons (.ret (.var 3))
  .nil) .nil)
  .nil))
  (.cons (.ret (.cst .non))
  .nil))
def nm18 : List Str := ["depths", "draft", "hour", "at"]
/-- latest_departure -/
def ir_latest_departure : ISs := (.cons (.set 5 (.call i_rows_of_depths (.cons (.var 1) (.cons (.call i_period_levels (.cons (.var 0) (.cons (.var 4) .nil)) []) .nil)) []))
  (.cons (.for (.nm 6) (.rng3 (.bin .Sub (.blt .len false (.cons (.var 1) .nil)) (.cst (.int 1))) (.neg (.cst (.int 1))) (.neg (.cst (.int 1)))) (.cons (.set 3 (.call i_last_passable (.cons (.idx (.var 5) (.var 6)) (.cons (.var 2) (.cons (.bin .Sub (.var 3) (.idx (.idx (.var 1) (.var 6)) (.cst (.int 0)))) .nil))) []))
  (.cons (.ite (.cmp .Is (.var 3) (.cst .non)) (.cons (.ret (.cst .non))
  .nil) .nil)
  .nil)))
  (.cons (.ret (.var 3))
  .nil)))
def nm19 : List Str := ["tide", "channel", "draft", "hour", "most_period", "rows", "number"]
/-- _law_tape -/
def ir_law_tape : ISs := (.cons (.set 1 (.cst (.int 7)))
  (.cons (.for (.nm 2) (.seq (.var 0)) (.cons (.set 1 (.bin .Mod (.blt .int false (.cons (.bin .Add (.bin .Mult (.var 1) (.cst (.int 31))) (.blt .abs false (.cons (.blt .int false (.cons (.var 2) .nil)) .nil))) .nil)) (.cst (.int 2147483647))))
  .nil))
  (.cons (.ret (.lst true (.cons (.blt .list false (.cons (.var 0) .nil)) (.cons (.cst (.int 0)) (.cons (.cst (.int 0)) (.cons (.var 1) .nil))))))
  .nil)))
def nm20 : List Str := ["script", "mixed", "cell"]
/-- _law_draw -/
def ir_law_draw : ISs := (.cons (.ite (.cmp .Eq (.idx (.var 0) (.cst (.int 2))) (.cst (.int 0))) (.cons (.set 3 (.idx (.var 0) (.cst (.int 1))))
  (.cons (.set 2 (.cst (.int 0)))
  (.cons (.ite (.cmp .Lt (.var 3) (.blt .len false (.cons (.idx (.var 0) (.cst (.int 0))) .nil))) (.cons (.set 2 (.blt .abs false (.cons (.blt .int false (.cons (.idx (.idx (.var 0) (.cst (.int 0))) (.var 3)) .nil)) .nil)))
  .nil) (.cons (.setI (.var 0) (.cst (.int 3)) (.bin .Mod (.blt .int false (.cons (.bin .Add (.bin .Add (.bin .Mult (.idx (.var 0) (.cst (.int 3))) (.cst (.int 48271))) (.var 3)) (.cst (.int 1))) .nil)) (.cst (.int 2147483647))))
  (.cons (.set 2 (.idx (.var 0) (.cst (.int 3))))
  .nil)))
  (.cons (.setI (.var 0) (.cst (.int 1)) (.bin .Add (.var 3) (.cst (.int 1))))
  (.cons (.ite (.cmp .Lt (.var 2) (.bin .Pow (.cst (.int 10)) (.cst (.int 18)))) (.cons (.set 2 (.bin .Mod (.blt .int false (.cons (.bin .Add (.bin .Add (.bin .Mult (.var 2) (.cst (.int 48271))) (.bin .Mult (.var 3) (.cst (.int 69621)))) (.cst (.int 5))) .nil)) (.cst (.int 2147483647))))
  (.cons (.set 2 (.bin .Mod (.blt .int false (.cons (.bin .Mult (.var 2) (.cst (.int 69621))) .nil)) (.cst (.int 2147483629))))
  (.cons (.ret (.bin .Mod (.blt .int false (.cons (.var 2) .nil)) (.blt .max2 false (.cons (.var 1) (.cons (.cst (.int 1)) .nil)))))
  .nil))) .nil)
  (.cons (.setI (.var 0) (.cst (.int 2)) (.var 2))
  .nil)))))) .nil)
  (.cons (.set 2 (.idx (.var 0) (.cst (.int 2))))
  (.cons (.setI (.var 0) (.cst (.int 2)) (.bin .FloorDiv (.var 2) (.blt .max2 false (.cons (.var 1) (.cons (.cst (.int 2)) .nil)))))
  (.cons (.ret (.bin .Mod (.blt .int false (.cons (.var 2) .nil)) (.blt .max2 false (.cons (.var 1) (.cons (.cst (.int 1)) .nil)))))
  .nil))))
def nm21 : List Str := ["tape", "many", "number", "place"]
/-- _law_pick -/
def ir_law_pick : ISs := (.cons (.ret (.idx (.var 1) (.call i_law_draw (.cons (.var 0) (.cons (.blt .len false (.cons (.var 1) .nil)) .nil)) [])))
  .nil)
def nm22 : List Str := ["tape", "menu"]
/-- _law_turns -/
def ir_law_turns : ISs := (.cons (.set 2 (.lrg1 true (.var 1)))
  (.cons (.set 3 (.lst true .nil))
  (.cons (.for (.nm 4) (.rng1 (.var 1)) (.cons (.ex (.met .append (.var 3) (.cons (.met .pop1 (.var 2) (.cons (.call i_law_draw (.cons (.var 0) (.cons (.blt .len false (.cons (.var 2) .nil)) .nil)) []) .nil)) .nil)))
  .nil))
  (.cons (.ret (.slc (.var 3) .nil (.cons (.idx (.lst false (.cons (.var 1) (.cons (.var 1) (.cons (.cst (.int 1)) .nil)))) (.call i_law_draw (.cons (.var 0) (.cons (.cst (.int 3)) .nil)) [])) .nil)))
  .nil))))
def nm23 : List Str := ["tape", "many", "left", "turns", "k"]
/-- _law_put -/
def ir_law_put : ISs := (.cons (.ret (.bin .Add (.bin .Add (.slc (.var 0) .nil (.cons (.var 1) .nil)) (.tup (.cons (.var 2) .nil))) (.slc (.var 0) (.cons (.bin .Add (.var 1) (.cst (.int 1))) .nil) .nil)))
  .nil)
def nm24 : List Str := ["told", "place", "thing"]
/-- _law_same -/
def ir_law_same : ISs := (.cons (.ite (.isi (.var 1) .tuple) (.cons (.ite (.or (.cons (.not (.isi (.var 0) .tuple)) (.cons (.cmp .NotEq (.blt .len false (.cons (.var 0) .nil)) (.blt .len false (.cons (.var 1) .nil))) .nil))) (.cons (.ret (.cst (.bl false)))
  .nil) .nil)
  (.cons (.for (.nm 2) (.rng1 (.blt .len false (.cons (.var 1) .nil))) (.cons (.ite (.not (.call i_law_same (.cons (.idx (.var 0) (.var 2)) (.cons (.idx (.var 1) (.var 2)) .nil)) [])) (.cons (.ret (.cst (.bl false)))
  .nil) .nil)
  .nil))
  (.cons (.ret (.cst (.bl true)))
  .nil))) .nil)
  (.cons (.ite (.or (.cons (.cmp .Is (.var 1) (.cst .non)) (.cons (.cmp .Is (.var 0) (.cst .non)) .nil))) (.cons (.ret (.and (.cons (.cmp .Is (.var 1) (.cst .non)) (.cons (.cmp .Is (.var 0) (.cst .non)) .nil))))
  .nil) .nil)
  (.cons (.ite (.isi (.var 1) .str) (.cons (.ret (.and (.cons (.isi (.var 0) .str) (.cons (.cmp .Eq (.var 0) (.var 1)) .nil))))
  .nil) .nil)
  (.cons (.ite (.or (.cons (.cmp .NotEq (.isi (.var 0) .bool) (.isi (.var 1) .bool)) (.cons (.not (.isi (.var 0) .int)) .nil))) (.cons (.ret (.cst (.bl false)))
  .nil) .nil)
  (.cons (.ret (.cmp .Eq (.var 0) (.var 1)))
  .nil)))))
def nm25 : List Str := ["told", "wanted", "k"]
/-- _law_a_gcd -/
def ir_law_a_gcd : ISs := (.cons (.ret (.blt .max1 false (.cons (.lc false [("d", 2)] (.nm 2) (.rng2 (.cst (.int 1)) (.bin .Add (.blt .min2 false (.cons (.var 0) (.cons (.var 1) .nil))) (.cst (.int 1)))) (.cons (.and (.cons (.cmp .Eq (.bin .Mod (.blt .int false (.cons (.var 0) .nil)) (.var 2)) (.cst (.int 0))) (.cons (.cmp .Eq (.bin .Mod (.blt .int false (.cons (.var 1) .nil)) (.var 2)) (.cst (.int 0))) .nil))) .nil) (.var 2)) .nil)))
  .nil)
def nm26 : List Str := ["one", "other", "d"]
/-- _law_a_level -/
def ir_law_a_level : ISs := (.cons (.ret (.blt .sum false (.cons (.lc false [("part", 2)] (.nm 2) (.seq (.var 0)) .nil (.idx (.var 2) (.bin .Mod (.blt .int false (.cons (.var 1) .nil)) (.blt .len false (.cons (.var 2) .nil))))) .nil)))
  .nil)
def nm27 : List Str := ["tide", "hour", "part"]
/-- _law_a_period -/
def ir_law_a_period : ISs := (.cons (.set 1 (.cst (.int 1)))
  (.cons (.for (.nm 2) (.seq (.var 0)) (.cons (.set 1 (.bin .FloorDiv (.bin .Mult (.var 1) (.blt .len false (.cons (.var 2) .nil))) (.call i_law_a_gcd (.cons (.var 1) (.cons (.blt .len false (.cons (.var 2) .nil)) .nil)) [])))
  .nil))
  (.cons (.ret (.var 1))
  .nil)))
def nm28 : List Str := ["tide", "period", "part"]
/-- _law_a_least -/
def ir_law_a_least : ISs := (.cons (.for (.nm 1) (.rng2 (.cst (.int 1)) (.bin .Add (.blt .len false (.cons (.var 0) .nil)) (.cst (.int 1)))) (.cons (.ite (.and (.cons (.cmp .Eq (.bin .Mod (.blt .int false (.cons (.blt .len false (.cons (.var 0) .nil)) .nil)) (.var 1)) (.cst (.int 0))) (.cons (.cmp .Eq (.bin .Mult (.slc (.var 0) .nil (.cons (.var 1) .nil)) (.bin .FloorDiv (.blt .len false (.cons (.var 0) .nil)) (.var 1))) (.var 0)) .nil))) (.cons (.ret (.slc (.var 0) .nil (.cons (.var 1) .nil)))
  .nil) .nil)
  .nil))
  (.cons (.ret (.var 0))
  .nil))
def nm29 : List Str := ["signs", "p"]
/-- _law_a_in -/
def ir_law_a_in : ISs := (.cons (.set 2 (.blt .len false (.cons (.idx (.var 0) (.cst (.int 0))) .nil)))
  (.cons (.ite (.cmp .Lt (.var 1) (.var 2)) (.cons (.ret (.cmp .Eq (.idx (.idx (.var 0) (.cst (.int 0))) (.var 1)) (.cst (.str "1"))))
  .nil) .nil)
  (.cons (.ret (.cmp .Eq (.idx (.idx (.var 0) (.cst (.int 1))) (.bin .Mod (.blt .int false (.cons (.bin .Sub (.var 1) (.var 2)) .nil)) (.blt .len false (.cons (.idx (.var 0) (.cst (.int 1))) .nil)))) (.cst (.str "1"))))
  .nil)))
def nm30 : List Str := ["window", "hour", "edge"]
/-- _law_a_canonical -/
def ir_law_a_canonical : ISs := (.cons (.set 1 (.blt .len false (.cons (.call i_law_a_least (.cons (.idx (.var 0) (.cst (.int 1))) .nil) []) .nil)))
  (.cons (.set 2 (.blt .len false (.cons (.idx (.var 0) (.cst (.int 0))) .nil)))
  (.cons (.for (.nm 3) (.rng1 (.blt .len false (.cons (.idx (.var 0) (.cst (.int 0))) .nil))) (.cons (.ite (.and (.cons (.cmp .Gt (.var 2) (.cst (.int 0))) (.cons (.cmp .Eq (.call i_law_a_in (.cons (.var 0) (.cons (.bin .Sub (.var 2) (.cst (.int 1))) .nil)) []) (.call i_law_a_in (.cons (.var 0) (.cons (.bin .Add (.bin .Sub (.var 2) (.cst (.int 1))) (.var 1)) .nil)) [])) .nil))) (.cons (.set 2 (.bin .Sub (.var 2) (.cst (.int 1))))
  .nil) .nil)
  .nil))
  (.cons (.ret (.tup (.cons (.slc (.idx (.var 0) (.cst (.int 0))) .nil (.cons (.var 2) .nil)) (.cons (.met .join (.cst (.str "")) (.cons (.lc false [("k", 3)] (.nm 3) (.rng1 (.var 1)) .nil (.ife (.call i_law_a_in (.cons (.var 0) (.cons (.bin .Add (.var 2) (.var 3)) .nil)) []) (.cst (.str "1")) (.cst (.str "0")))) .nil)) .nil))))
  .nil))))
def nm31 : List Str := ["window", "many", "edge", "k"]
/-- _law_a_levels -/
def ir_law_a_levels : ISs := (.cons (.set 2 (.call i_law_pick (.cons (.var 0) (.cons (.lst false (.cons (.lst false (.cons (.cst (.int 0)) (.cons (.cst (.int 10)) .nil))) (.cons (.lst false (.cons (.cst (.int 0)) (.cons (.cst (.int 1)) (.cons (.cst (.int 2)) .nil)))) (.cons (.lst false (.cons (.neg (.cst (.int 99))) (.cons (.cst (.int 99)) .nil))) (.cons (.lst false (.cons (.cst (.int 0)) (.cons (.cst (.int 5)) (.cons (.neg (.cst (.int 5))) (.cons (.cst (.int 20)) .nil))))) (.cons (.lrg2 false (.neg (.cst (.int 99))) (.cst (.int 100))) (.cons (.lrg2 false (.neg (.cst (.int 99))) (.cst (.int 100))) .nil))))))) .nil)) []))
  (.cons (.ret (.blt .tuple false (.cons (.lc false [("k", 3)] (.nm 3) (.rng1 (.var 1)) .nil (.call i_law_pick (.cons (.var 0) (.cons (.var 2) .nil)) [])) .nil)))
  .nil))
def nm32 : List Str := ["tape", "many", "menu", "k"]
/-- _law_a_part -/
def ir_law_a_part : ISs := (.cons (.set 2 (.call i_law_a_levels (.cons (.var 0) (.cons (.var 1) .nil)) []))
  (.cons (.set 3 (.call i_law_draw (.cons (.var 0) (.cons (.cst (.int 6)) .nil)) []))
  (.cons (.ite (.cmp .Eq (.var 3) (.cst (.int 0))) (.cons (.ret (.bin .Mult (.slc (.var 2) .nil (.cons (.cst (.int 1)) .nil)) (.var 1)))
  .nil) .nil)
  (.cons (.ite (.and (.cons (.cmp .Eq (.var 3) (.cst (.int 1))) (.cons (.cmp .Eq (.bin .Mod (.blt .int false (.cons (.var 1) .nil)) (.cst (.int 2))) (.cst (.int 0))) .nil))) (.cons (.ret (.bin .Mult (.slc (.var 2) .nil (.cons (.bin .FloorDiv (.var 1) (.cst (.int 2))) .nil)) (.cst (.int 2))))
  .nil) .nil)
  (.cons (.ite (.and (.cons (.cmp .Eq (.var 3) (.cst (.int 2))) (.cons (.cmp .Eq (.bin .Mod (.blt .int false (.cons (.var 1) .nil)) (.cst (.int 3))) (.cst (.int 0))) .nil))) (.cons (.ret (.bin .Mult (.slc (.var 2) .nil (.cons (.bin .FloorDiv (.var 1) (.cst (.int 3))) .nil)) (.cst (.int 3))))
  .nil) .nil)
  (.cons (.ret (.var 2))
  .nil))))))
def nm33 : List Str := ["tape", "many", "part", "kind"]
/-- _law_a_sill -/
def ir_law_a_sill : ISs := (.cons (.ret (.tup (.cons (.call i_law_pick (.cons (.var 0) (.cons (.lst false (.cons (.cst (.int 1)) (.cons (.cst (.int 2)) (.cons (.cst (.int 3)) (.cons (.bin .Add (.cst (.int 1)) (.call i_law_draw (.cons (.var 0) (.cons (.cst (.int 12)) .nil)) [])) .nil))))) .nil)) []) (.cons (.call i_law_pick (.cons (.var 0) (.cons (.lst false (.cons (.cst (.int 50)) (.cons (.cst (.int 50)) (.cons (.cst (.int 0)) (.cons (.bin .Add (.cst (.int 40)) (.call i_law_draw (.cons (.var 0) (.cons (.cst (.int 20)) .nil)) [])) (.cons (.neg (.cst (.int 99))) (.cons (.cst (.int 199)) (.cons (.bin .Sub (.call i_law_draw (.cons (.var 0) (.cons (.cst (.int 299)) .nil)) []) (.cst (.int 99))) .nil)))))))) .nil)) []) .nil))))
  .nil)
def nm34 : List Str := ["tape"]
/-- _law_a_near -/
def ir_law_a_near : ISs := (.cons (.set 3 (.bin .Add (.call i_law_pick (.cons (.var 0) (.cons (.var 1) .nil)) []) (.call i_law_pick (.cons (.var 0) (.cons (.lst false (.cons (.cst (.int 0)) (.cons (.cst (.int 0)) (.cons (.cst (.int 1)) (.cons (.neg (.cst (.int 1))) (.cons (.bin .Sub (.call i_law_draw (.cons (.var 0) (.cons (.cst (.int 21)) .nil)) []) (.cst (.int 10))) .nil)))))) .nil)) [])))
  (.cons (.ret (.blt .min2 false (.cons (.blt .max2 false (.cons (.var 3) (.cons (.cst (.int 0)) .nil))) (.cons (.var 2) .nil))))
  .nil))
def nm35 : List Str := ["tape", "numbers", "most", "told"]
/-- _law_a_all_levels -/
def ir_law_a_all_levels : ISs := (.cons (.ret (.lc false [("t", 1)] (.nm 1) (.rng1 (.call i_law_a_period (.cons (.var 0) .nil) [])) .nil (.call i_law_a_level (.cons (.var 0) (.cons (.var 1) .nil)) [])))
  .nil)
def nm36 : List Str := ["tide", "t"]
/-- _law_a_transit -/
def ir_law_a_transit : ISs := (.cons (.set 4 (.lst true .nil))
  (.cons (.set 5 (.var 3))
  (.cons (.for (.nm 6) (.seq (.var 1)) (.cons (.set 7 (.cst .non))
  (.cons (.for (.nm 8) (.rng2 (.var 5) (.bin .Add (.var 5) (.blt .len false (.cons (.var 0) .nil)))) (.cons (.ite (.cmp .GtE (.bin .Add (.idx (.var 6) (.cst (.int 1))) (.idx (.var 0) (.bin .Mod (.blt .int false (.cons (.var 8) .nil)) (.blt .len false (.cons (.var 0) .nil))))) (.var 2)) (.cons (.set 7 (.var 8))
  (.cons .brk
  .nil)) .nil)
  .nil))
  (.cons (.ite (.cmp .Is (.var 7) (.cst .non)) (.cons (.ret (.cst .non))
  .nil) .nil)
  (.cons (.ex (.met .append (.var 4) (.cons (.var 7) .nil)))
  (.cons (.set 5 (.bin .Add (.var 7) (.idx (.var 6) (.cst (.int 0)))))
  .nil))))))
  (.cons (.ret (.blt .tuple false (.cons (.var 4) .nil)))
  .nil))))
def nm37 : List Str := ["levels", "channel", "draft", "hour", "times", "t", "sill", "found", "h"]
/-- _law_a_sea -/
def ir_law_a_sea : ISs := (.cons (.set 1 (.call i_law_pick (.cons (.var 0) (.cons (.lst false (.cons (.lst false (.cons (.cst (.int 2)) .nil)) (.cons (.lst false (.cons (.cst (.int 3)) .nil)) (.cons (.lst false (.cons (.cst (.int 4)) .nil)) (.cons (.lst false (.cons (.cst (.int 5)) .nil)) (.cons (.lst false (.cons (.cst (.int 6)) .nil)) (.cons (.lst false (.cons (.cst (.int 2)) (.cons (.cst (.int 3)) .nil))) (.cons (.lst false (.cons (.cst (.int 4)) (.cons (.cst (.int 2)) .nil))) (.cons (.lst false (.cons (.cst (.int 3)) (.cons (.cst (.int 3)) .nil))) (.cons (.lst false (.cons (.cst (.int 6)) (.cons (.cst (.int 4)) .nil))) (.cons (.lst false (.cons (.cst (.int 12)) .nil)) (.cons (.lst false (.cons (.cst (.int 1)) .nil)) (.cons (.lst false (.cons (.cst (.int 2)) .nil)) (.cons (.lst false (.cons (.cst (.int 3)) .nil)) (.cons (.lst false (.cons (.cst (.int 4)) .nil)) (.cons (.lst false (.cons (.cst (.int 12)) (.cons (.cst (.int 5)) .nil))) (.cons (.lst false (.cons (.cst (.int 3)) (.cons (.cst (.int 4)) (.cons (.cst (.int 5)) .nil)))) .nil))))))))))))))))) .nil)) []))
  (.cons (.ret (.blt .tuple false (.cons (.lc false [("many", 2)] (.nm 2) (.seq (.var 1)) .nil (.call i_law_a_part (.cons (.var 0) (.cons (.var 2) .nil)) [])) .nil)))
  .nil))
def nm38 : List Str := ["tape", "sizes", "many"]
/-- _law_a_back -/
def ir_law_a_back : ISs := (.cons (.set 4 (.lst true .nil))
  (.cons (.set 5 (.var 3))
  (.cons (.for (.nm 6) (.seq (.rev (.var 1))) (.cons (.set 7 (.bin .Sub (.var 5) (.idx (.var 6) (.cst (.int 0)))))
  (.cons (.set 8 (.lc false [("h", 9)] (.nm 9) (.rng2 (.blt .max2 false (.cons (.bin .Sub (.bin .Add (.var 7) (.cst (.int 1))) (.blt .len false (.cons (.var 0) .nil))) (.cons (.cst (.int 0)) .nil))) (.bin .Add (.var 7) (.cst (.int 1)))) (.cons (.cmp .GtE (.bin .Add (.idx (.var 6) (.cst (.int 1))) (.idx (.var 0) (.bin .Mod (.blt .int false (.cons (.var 9) .nil)) (.blt .len false (.cons (.var 0) .nil))))) (.var 2)) .nil) (.var 9)))
  (.cons (.ite (.cmp .Eq (.var 8) (.lst false .nil)) (.cons (.ret (.cst .non))
  .nil) .nil)
  (.cons (.set 5 (.idx (.var 8) (.neg (.cst (.int 1)))))
  (.cons (.ex (.met .ins (.var 4) (.cons (.cst (.int 0)) (.cons (.var 5) .nil))))
  .nil))))))
  (.cons (.ret (.blt .tuple false (.cons (.var 4) .nil)))
  .nil))))
def nm39 : List Str := ["levels", "channel", "draft", "z", "times", "t", "sill", "top", "found", "h"]
/-- _law_a_deep -/
def ir_law_a_deep : ISs := (.cons (.ret (.call i_law_a_canonical (.cons (.tup (.cons (.cst (.str "")) (.cons (.met .join (.cst (.str "")) (.cons (.lc false [("level", 3)] (.nm 3) (.seq (.var 0)) .nil (.ife (.cmp .GtE (.bin .Add (.idx (.var 1) (.cst (.int 1))) (.var 3)) (.var 2)) (.cst (.str "1")) (.cst (.str "0")))) .nil)) .nil))) .nil) []))
  .nil)
def nm40 : List Str := ["levels", "sill", "draft", "level"]
/-- _law_asking -/
def ir_law_asking : ISs := (.cons (.set 5 (.lst false (.cons (.cst (.int 0)) (.cons (.cst (.int 30)) .nil))))
  (.cons (.for (.nm 6) (.seq (.var 3)) (.cons (.set 5 (.bin .Add (.var 5) (.lst false (.cons (.bin .Add (.idx (.var 6) (.cst (.int 1))) (.call i_law_pick (.cons (.var 0) (.cons (.var 1) .nil)) [])) (.cons (.bin .Add (.idx (.var 6) (.cst (.int 1))) (.blt .max1 false (.cons (.var 1) .nil))) .nil)))))
  .nil))
  (.cons (.set 7 (.call i_law_a_near (.cons (.var 0) (.cons (.ife (.cmp .Gt (.blt .len false (.cons (.var 5) .nil)) (.cst (.int 2))) (.slc (.var 5) (.cons (.cst (.int 2)) .nil) .nil) (.var 5)) (.cons (.cst (.int 500)) .nil))) []))
  (.cons (.set 8 (.call i_law_a_back (.cons (.var 1) (.cons (.var 3) (.cons (.var 7) (.cons (.var 4) .nil)))) []))
  (.cons (.set 9 (.cst (.int 0)))
  (.cons (.ite (.cmp .Eq (.call i_law_draw (.cons (.var 0) (.cons (.cst (.int 2)) .nil)) []) (.cst (.int 0))) (.cons (.set 9 (.blt .max2 false (.cons (.bin .Add (.ife (.and (.cons (.cmp .IsNot (.var 8) (.cst .non)) (.cons (.cmp .Gt (.blt .len false (.cons (.var 8) .nil)) (.cst (.int 0))) .nil))) (.idx (.var 8) (.cst (.int 0))) (.var 4)) (.call i_law_pick (.cons (.var 0) (.cons (.lst false (.cons (.cst (.int 0)) (.cons (.cst (.int 1)) (.cons (.neg (.cst (.int 1))) (.cons (.neg (.cst (.int 5))) (.cons (.bin .Sub (.cst (.int 0)) (.blt .len false (.cons (.var 1) .nil))) .nil)))))) .nil)) [])) (.cons (.cst (.int 0)) .nil))))
  .nil) .nil)
  (.cons (.set 10 (.blt .tuple false (.cons (.lc false [("sill", 6)] (.nm 6) (.seq (.var 3)) .nil (.bin .Add (.var 4) (.call i_law_pick (.cons (.var 0) (.cons (.lst false (.cons (.cst (.int 0)) (.cons (.cst (.int 0)) (.cons (.cst (.int 1)) (.cons (.cst (.int 20)) .nil))))) .nil)) []))) .nil)))
  (.cons (.ret (.tup (.cons (.var 2) (.cons (.var 3) (.cons (.var 7) (.cons (.var 4) (.cons (.blt .min2 false (.cons (.var 9) (.cons (.cst (.int 9999)) .nil))) (.cons (.var 10) (.cons (.call i_law_draw (.cons (.var 0) (.cons (.cst (.int 2)) .nil)) []) .nil)))))))))
  .nil))))))))
def nm41 : List Str := ["tape", "levels", "tide", "channel", "z", "met", "sill", "draft", "back", "begin", "later"]
/-- _law_instance -/
def ir_law_instance : ISs := (.cons (.set 2 (.lst true .nil))
  (.cons (.for (.nm 3) (.rng1 (.blt .len false (.cons (.idx (.var 1) (.cst (.int 1))) .nil))) (.cons (.set 4 (.tup (.cons (.cst (.str "pilot 0")) (.cons (.bin .Add (.cst (.str "sill ")) (.blt .str false (.cons (.var 3) .nil))) .nil))))
  (.cons (.ite (.cmp .Eq (.idx (.var 1) (.cst (.int 6))) (.cst (.int 1))) (.cons (.set 4 (.tup (.cons (.bin .Add (.cst (.str "sill ")) (.blt .str false (.cons (.var 3) .nil))) (.cons (.cst (.str "stack a 0")) (.cons (.bin .Add (.cst (.str "pilot ")) (.blt .str false (.cons (.bin .Mod (.blt .int false (.cons (.var 3) .nil)) (.cst (.int 2))) .nil))) .nil)))))
  .nil) .nil)
  (.cons (.set 5 (.ife (.cmp .Eq (.var 3) (.cst (.int 0))) (.idx (.var 1) (.cst (.int 4))) (.cst (.int 0))))
  (.cons (.ex (.met .append (.var 2) (.cons (.tup (.cons (.var 4) (.cons (.idx (.idx (.idx (.var 1) (.cst (.int 1))) (.var 3)) (.cst (.int 0))) (.cons (.call i_law_a_deep (.cons (.var 0) (.cons (.idx (.idx (.var 1) (.cst (.int 1))) (.var 3)) (.cons (.idx (.var 1) (.cst (.int 2))) .nil))) []) (.cons (.var 5) .nil))))) .nil)))
  .nil)))))
  (.cons (.ret (.tup (.cons (.blt .tuple false (.cons (.var 2) .nil)) (.cons (.tup .nil) .nil))))
  .nil)))
def nm42 : List Str := ["levels", "ask", "jobs", "k", "uses", "release"]
/-- _law_looked -/
def ir_law_looked : ISs := (.cons (.set 3 (.idx (.var 2) (.cst (.int 1))))
  (.cons (.set 4 (.call i_law_a_back (.cons (.var 1) (.cons (.var 3) (.cons (.idx (.var 2) (.cst (.int 2))) (.cons (.idx (.var 2) (.cst (.int 3))) .nil)))) []))
  (.cons (.ite (.cmp .Eq (.var 0) (.cst (.int 0))) (.cons (.set 6 (.cst .non))
  (.cons (.ite (.cmp .IsNot (.var 4) (.cst .non)) (.cons (.set 6 (.ife (.cmp .Gt (.blt .len false (.cons (.var 4) .nil)) (.cst (.int 0))) (.idx (.var 4) (.cst (.int 0))) (.idx (.var 2) (.cst (.int 3)))))
  .nil) .nil)
  (.cons (.ret (.call i_law_same (.cons (.call i_latest_departure (.cons (.idx (.var 2) (.cst (.int 0))) (.cons (.var 3) (.cons (.idx (.var 2) (.cst (.int 2))) (.cons (.idx (.var 2) (.cst (.int 3))) .nil)))) [(.int 240)]) (.cons (.var 6) .nil)) []))
  .nil))) .nil)
  (.cons (.ite (.cmp .Is (.call i_law_a_transit (.cons (.var 1) (.cons (.var 3) (.cons (.idx (.var 2) (.cst (.int 2))) (.cons (.cst (.int 0)) .nil)))) []) (.cst .non)) (.cons (.ret (.cmp .IsNot (.call i_blocking_sill (.cons (.idx (.var 2) (.cst (.int 0))) (.cons (.var 3) (.cons (.idx (.var 2) (.cst (.int 2))) .nil))) [(.int 240)]) (.cst .non)))
  .nil) .nil)
  (.cons (.set 5 (.call i_law_instance (.cons (.var 1) (.cons (.var 2) .nil)) []))
  (.cons (.ite (.cmp .Eq (.var 0) (.cst (.int 1))) (.cons (.ret (.call i_law_same (.cons (.call i_earliest (.cons (.var 5) .nil) []) (.cons (.call i_law_a_transit (.cons (.var 1) (.cons (.var 3) (.cons (.idx (.var 2) (.cst (.int 2))) (.cons (.idx (.var 2) (.cst (.int 4))) .nil)))) []) .nil)) []))
  .nil) .nil)
  (.cons (.ite (.and (.cons (.cmp .Gt (.blt .len false (.cons (.var 3) .nil)) (.cst (.int 0))) (.cons (.cmp .Lt (.idx (.var 2) (.cst (.int 3))) (.idx (.idx (.var 3) (.neg (.cst (.int 1)))) (.cst (.int 0)))) .nil))) (.cons (.ret (.cmp .Is (.var 4) (.cst .non)))
  .nil) .nil)
  (.cons (.set 6 (.var 4))
  (.cons (.ite (.and (.cons (.cmp .IsNot (.var 4) (.cst .non)) (.cons (.cmp .Gt (.blt .len false (.cons (.var 4) .nil)) (.cst (.int 0))) (.cons (.cmp .Lt (.idx (.var 4) (.cst (.int 0))) (.idx (.var 2) (.cst (.int 4)))) .nil)))) (.cons (.set 6 (.cst .non))
  .nil) .nil)
  (.cons (.set 7 (.bin .Add (.slc (.idx (.var 2) (.cst (.int 5))) .nil (.cons (.neg (.cst (.int 1))) .nil)) (.blt .tuple false (.cons (.lc false [("sill", 8)] (.nm 8) (.seq (.slc (.var 3) (.cons (.neg (.cst (.int 1))) .nil) .nil)) .nil (.bin .Sub (.idx (.var 2) (.cst (.int 3))) (.idx (.var 8) (.cst (.int 0))))) .nil))))
  (.cons (.ret (.call i_law_same (.cons (.call i_latest_by (.cons (.var 5) (.cons (.var 7) .nil)) []) (.cons (.var 6) .nil)) []))
  .nil)))))))))))
def nm43 : List Str := ["door", "levels", "ask", "channel", "back", "instance", "due", "deadlines_told", "sill"]
/-- law -/
def ir_law : ISs := (.cons (.set 1 (.call i_law_tape (.cons (.var 0) .nil) []))
  (.cons (.set 2 (.call i_law_a_sea (.cons (.var 1) .nil) []))
  (.cons (.set 3 (.call i_law_a_all_levels (.cons (.var 2) .nil) []))
  (.cons (.set 4 (.blt .tuple false (.cons (.lc false [("k", 11)] (.nm 11) (.rng1 (.call i_law_pick (.cons (.var 1) (.cons (.lst false (.cons (.cst (.int 0)) (.cons (.cst (.int 1)) (.cons (.cst (.int 1)) (.cons (.cst (.int 2)) (.cons (.cst (.int 2)) (.cons (.cst (.int 3)) (.cons (.cst (.int 4)) .nil)))))))) .nil)) [])) .nil (.call i_law_a_sill (.cons (.var 1) .nil) [])) .nil)))
  (.cons (.set 5 (.call i_law_pick (.cons (.var 1) (.cons (.lst false (.cons (.call i_law_draw (.cons (.var 1) (.cons (.cst (.int 30)) .nil)) []) (.cons (.call i_law_draw (.cons (.var 1) (.cons (.cst (.int 60)) .nil)) []) (.cons (.bin .Add (.blt .sum false (.cons (.lc false [("sill", 12)] (.nm 12) (.seq (.var 4)) .nil (.idx (.var 12) (.cst (.int 0)))) .nil)) (.call i_law_draw (.cons (.var 1) (.cons (.cst (.int 8)) .nil)) [])) .nil)))) .nil)) []))
  (.cons (.ite (.cmp .Eq (.call i_law_draw (.cons (.var 1) (.cons (.cst (.int 12)) .nil)) []) (.cst (.int 0))) (.cons (.set 5 (.bin .Sub (.cst (.int 9900)) (.call i_law_draw (.cons (.var 1) (.cons (.cst (.int 100)) .nil)) [])))
  .nil) .nil)
  (.cons (.set 6 (.call i_law_asking (.cons (.var 1) (.cons (.var 3) (.cons (.var 2) (.cons (.var 4) (.cons (.var 5) .nil))))) []))
  (.cons (.set 7 (.call i_law_draw (.cons (.var 1) (.cons (.cst (.int 3)) .nil)) []))
  (.cons (.ite (.cmp .Eq (.var 7) (.cst (.int 0))) (.cons (.set 9 (.call i_law_asking (.cons (.var 1) (.cons (.var 3) (.cons (.var 2) (.cons (.var 4) (.cons (.bin .Add (.bin .Add (.var 5) (.cst (.int 1))) (.call i_law_draw (.cons (.var 1) (.cons (.cst (.int 3)) .nil)) [])) .nil))))) []))
  .nil) (.cons (.ite (.cmp .Eq (.var 7) (.cst (.int 1))) (.cons (.set 9 (.call i_law_asking (.cons (.var 1) (.cons (.var 3) (.cons (.var 2) (.cons (.rev (.var 4)) (.cons (.var 5) .nil))))) []))
  .nil) (.cons (.set 9 (.call i_law_put (.cons (.var 6) (.cons (.cst (.int 2)) (.cons (.blt .min2 false (.cons (.blt .max2 false (.cons (.bin .Add (.idx (.var 6) (.cst (.int 2))) (.call i_law_pick (.cons (.var 1) (.cons (.lst false (.cons (.cst (.int 1)) (.cons (.neg (.cst (.int 1))) .nil))) .nil)) [])) (.cons (.cst (.int 0)) .nil))) (.cons (.cst (.int 500)) .nil))) .nil))) []))
  .nil))
  .nil))
  (.cons (.for (.nm 8) (.seq (.call i_law_turns (.cons (.var 1) (.cons (.cst (.int 3)) .nil)) [])) (.cons (.for (.nm 10) (.seq (.lst false (.cons (.var 6) (.cons (.var 9) (.cons (.var 6) .nil))))) (.cons (.ite (.not (.call i_law_looked (.cons (.var 8) (.cons (.var 3) (.cons (.var 10) .nil))) [])) (.cons (.ret (.cst (.bl false)))
  .nil) .nil)
  .nil))
  .nil))
  (.cons (.ret (.cst (.bl true)))
  .nil)))))))))))
def nm44 : List Str := ["script", "tape", "tide", "levels", "channel", "z", "first", "kind", "door", "second", "ask", "k", "sill"]
def fs : List Fn := [⟨2, 4, ir_has_hour⟩, ⟨2, 6, ir_next_hour⟩, ⟨2, 7, ir_last_hour⟩, ⟨2, 5, ir_closures_of⟩, ⟨3, 6, ir_first_start⟩, ⟨2, 2, ir_last_in_window⟩, ⟨3, 6, ir_last_start⟩, ⟨4, 4, ir_later_bound⟩, ⟨1, 10, ir_timeline⟩, ⟨1, 4, ir_earliest⟩, ⟨2, 14, ir_latest_by⟩, ⟨2, 3, ir_level_at⟩, ⟨3, 4, ir_levels_at⟩, ⟨1, 3, ir_period_of⟩, ⟨2, 3, ir_period_levels⟩, ⟨2, 3, ir_extremes_of⟩, ⟨4, 7, ir_blocking_sill⟩, ⟨2, 4, ir_rows_of_depths⟩, ⟨3, 4, ir_last_passable⟩, ⟨5, 7, ir_latest_departure⟩, ⟨1, 3, ir_law_tape⟩, ⟨2, 4, ir_law_draw⟩, ⟨2, 2, ir_law_pick⟩, ⟨2, 5, ir_law_turns⟩, ⟨3, 3, ir_law_put⟩, ⟨2, 3, ir_law_same⟩, ⟨2, 3, ir_law_a_gcd⟩, ⟨2, 3, ir_law_a_level⟩, ⟨1, 3, ir_law_a_period⟩, ⟨1, 2, ir_law_a_least⟩, ⟨2, 3, ir_law_a_in⟩, ⟨1, 4, ir_law_a_canonical⟩, ⟨2, 4, ir_law_a_levels⟩, ⟨2, 4, ir_law_a_part⟩, ⟨1, 1, ir_law_a_sill⟩, ⟨3, 4, ir_law_a_near⟩, ⟨1, 2, ir_law_a_all_levels⟩, ⟨4, 9, ir_law_a_transit⟩, ⟨1, 3, ir_law_a_sea⟩, ⟨4, 10, ir_law_a_back⟩, ⟨3, 4, ir_law_a_deep⟩, ⟨5, 11, ir_law_asking⟩, ⟨2, 6, ir_law_instance⟩, ⟨3, 9, ir_law_looked⟩, ⟨1, 13, ir_law⟩]
def fes : List Fe := [⟨"has_hour", 2, [(2, [])], []⟩,
  ⟨"next_hour", 2, [(2, [])], []⟩,
  ⟨"last_hour", 2, [(2, [])], []⟩,
  ⟨"closures_of", 2, [(2, [])], []⟩,
  ⟨"first_start", 3, [(3, [])], []⟩,
  ⟨"last_in_window", 2, [(2, [])], []⟩,
  ⟨"last_start", 3, [(3, [])], []⟩,
  ⟨"later_bound", 4, [(4, [])], []⟩,
  ⟨"timeline", 1, [(1, [])], []⟩,
  ⟨"earliest", 1, [(1, [])], []⟩,
  ⟨"latest_by", 2, [(2, [])], []⟩,
  ⟨"level_at", 2, [(2, [])], []⟩,
  ⟨"levels_at", 3, [(3, [])], []⟩,
  ⟨"period_of", 1, [(1, [])], []⟩,
  ⟨"period_levels", 2, [(2, [])], []⟩,
  ⟨"extremes_of", 2, [(1, [.int 240])], [(1, ["most_period"])]⟩,
  ⟨"blocking_sill", 4, [(3, [.int 240])], [(3, ["most_period"])]⟩,
  ⟨"rows_of_depths", 2, [(2, [])], []⟩,
  ⟨"last_passable", 3, [(3, [])], []⟩,
  ⟨"latest_departure", 5, [(4, [.int 240])], [(4, ["most_period"])]⟩,
  ⟨"_law_tape", 1, [(1, [])], []⟩,
  ⟨"_law_draw", 2, [(2, [])], []⟩,
  ⟨"_law_pick", 2, [(2, [])], []⟩,
  ⟨"_law_turns", 2, [(2, [])], []⟩,
  ⟨"_law_put", 3, [(3, [])], []⟩,
  ⟨"_law_same", 2, [(2, [])], []⟩,
  ⟨"_law_a_gcd", 2, [(2, [])], []⟩,
  ⟨"_law_a_level", 2, [(2, [])], []⟩,
  ⟨"_law_a_period", 1, [(1, [])], []⟩,
  ⟨"_law_a_least", 1, [(1, [])], []⟩,
  ⟨"_law_a_in", 2, [(2, [])], []⟩,
  ⟨"_law_a_canonical", 1, [(1, [])], []⟩,
  ⟨"_law_a_levels", 2, [(2, [])], []⟩,
  ⟨"_law_a_part", 2, [(2, [])], []⟩,
  ⟨"_law_a_sill", 1, [(1, [])], []⟩,
  ⟨"_law_a_near", 3, [(3, [])], []⟩,
  ⟨"_law_a_all_levels", 1, [(1, [])], []⟩,
  ⟨"_law_a_transit", 4, [(4, [])], []⟩,
  ⟨"_law_a_sea", 1, [(1, [])], []⟩,
  ⟨"_law_a_back", 4, [(4, [])], []⟩,
  ⟨"_law_a_deep", 3, [(3, [])], []⟩,
  ⟨"_law_asking", 5, [(5, [])], []⟩,
  ⟨"_law_instance", 2, [(2, [])], []⟩,
  ⟨"_law_looked", 3, [(3, [])], []⟩,
  ⟨"law", 1, [(1, [])], []⟩]
theorem chk0 : chkSs ⟨nm0, fes, false⟩ ir_has_hour (defScope (top 2)) (defBody (top 2)) = true := by kernel_rfl
theorem sc0 : C8.scC nm0 (nm0.take 2) (defScope (top 2)) = true := by kernel_rfl
theorem chk1 : chkSs ⟨nm1, fes, false⟩ ir_next_hour (defScope (top 3)) (defBody (top 3)) = true := by kernel_rfl
theorem sc1 : C8.scC nm1 (nm1.take 2) (defScope (top 3)) = true := by kernel_rfl
theorem chk2 : chkSs ⟨nm2, fes, false⟩ ir_last_hour (defScope (top 4)) (defBody (top 4)) = true := by kernel_rfl
theorem sc2 : C8.scC nm2 (nm2.take 2) (defScope (top 4)) = true := by kernel_rfl
theorem chk3 : chkSs ⟨nm3, fes, false⟩ ir_closures_of (defScope (top 6)) (defBody (top 6)) = true := by kernel_rfl
theorem sc3 : C8.scC nm3 (nm3.take 2) (defScope (top 6)) = true := by kernel_rfl
theorem chk4 : chkSs ⟨nm4, fes, false⟩ ir_first_start (defScope (top 7)) (defBody (top 7)) = true := by kernel_rfl
theorem sc4 : C8.scC nm4 (nm4.take 3) (defScope (top 7)) = true := by kernel_rfl
theorem chk5 : chkSs ⟨nm5, fes, false⟩ ir_last_in_window (defScope (top 8)) (defBody (top 8)) = true := by kernel_rfl
theorem sc5 : C8.scC nm5 (nm5.take 2) (defScope (top 8)) = true := by kernel_rfl
theorem chk6 : chkSs ⟨nm6, fes, true⟩ ir_last_start (defScope (top 9)) (defBody (top 9)) = true := by kernel_rfl
theorem sc6 : C8.scC nm6 (nm6.take 3) (defScope (top 9)) = true := by kernel_rfl
theorem chk7 : chkSs ⟨nm7, fes, false⟩ ir_later_bound (defScope (top 10)) (defBody (top 10)) = true := by kernel_rfl
theorem sc7 : C8.scC nm7 (nm7.take 4) (defScope (top 10)) = true := by kernel_rfl
theorem chk8 : chkSs ⟨nm8, fes, false⟩ ir_timeline (defScope (top 11)) (defBody (top 11)) = true := by kernel_rfl
theorem sc8 : C8.scC nm8 (nm8.take 1) (defScope (top 11)) = true := by kernel_rfl
theorem chk9 : chkSs ⟨nm9, fes, false⟩ ir_earliest (defScope (top 12)) (defBody (top 12)) = true := by kernel_rfl
theorem sc9 : C8.scC nm9 (nm9.take 1) (defScope (top 12)) = true := by kernel_rfl
theorem chk10 : chkSs ⟨nm10, fes, false⟩ ir_latest_by (defScope (top 14)) (defBody (top 14)) = true := by kernel_rfl
theorem sc10 : C8.scC nm10 (nm10.take 2) (defScope (top 14)) = true := by kernel_rfl
theorem chk11 : chkSs ⟨nm11, fes, false⟩ ir_level_at (defScope (top 19)) (defBody (top 19)) = true := by kernel_rfl
theorem sc11 : C8.scC nm11 (nm11.take 2) (defScope (top 19)) = true := by kernel_rfl
theorem chk12 : chkSs ⟨nm12, fes, false⟩ ir_levels_at (defScope (top 20)) (defBody (top 20)) = true := by kernel_rfl
theorem sc12 : C8.scC nm12 (nm12.take 3) (defScope (top 20)) = true := by kernel_rfl
theorem chk13 : chkSs ⟨nm13, fes, false⟩ ir_period_of (defScope (top 21)) (defBody (top 21)) = true := by kernel_rfl
theorem sc13 : C8.scC nm13 (nm13.take 1) (defScope (top 21)) = true := by kernel_rfl
theorem chk14 : chkSs ⟨nm14, fes, false⟩ ir_period_levels (defScope (top 22)) (defBody (top 22)) = true := by kernel_rfl
theorem sc14 : C8.scC nm14 (nm14.take 2) (defScope (top 22)) = true := by kernel_rfl
theorem chk15 : chkSs ⟨nm15, fes, false⟩ ir_extremes_of (defScope (top 23)) (defBody (top 23)) = true := by kernel_rfl
theorem sc15 : C8.scC nm15 (nm15.take 2) (defScope (top 23)) = true := by kernel_rfl
theorem chk16 : chkSs ⟨nm16, fes, false⟩ ir_blocking_sill (defScope (top 25)) (defBody (top 25)) = true := by kernel_rfl
theorem sc16 : C8.scC nm16 (nm16.take 4) (defScope (top 25)) = true := by kernel_rfl
theorem chk17 : chkSs ⟨nm17, fes, false⟩ ir_rows_of_depths (defScope (top 27)) (defBody (top 27)) = true := by kernel_rfl
theorem sc17 : C8.scC nm17 (nm17.take 2) (defScope (top 27)) = true := by kernel_rfl
theorem chk18 : chkSs ⟨nm18, fes, false⟩ ir_last_passable (defScope (top 28)) (defBody (top 28)) = true := by kernel_rfl
theorem sc18 : C8.scC nm18 (nm18.take 3) (defScope (top 28)) = true := by kernel_rfl
theorem chk19 : chkSs ⟨nm19, fes, false⟩ ir_latest_departure (defScope (top 29)) (defBody (top 29)) = true := by kernel_rfl
theorem sc19 : C8.scC nm19 (nm19.take 5) (defScope (top 29)) = true := by kernel_rfl
theorem chk20 : chkSs ⟨nm20, fes, false⟩ ir_law_tape (defScope (top 31)) (defBody (top 31)) = true := by kernel_rfl
theorem sc20 : C8.scC nm20 (nm20.take 1) (defScope (top 31)) = true := by kernel_rfl
theorem chk21 : chkSs ⟨nm21, fes, false⟩ ir_law_draw (defScope (top 32)) (defBody (top 32)) = true := by kernel_rfl
theorem sc21 : C8.scC nm21 (nm21.take 2) (defScope (top 32)) = true := by kernel_rfl
theorem chk22 : chkSs ⟨nm22, fes, false⟩ ir_law_pick (defScope (top 33)) (defBody (top 33)) = true := by kernel_rfl
theorem sc22 : C8.scC nm22 (nm22.take 2) (defScope (top 33)) = true := by kernel_rfl
theorem chk23 : chkSs ⟨nm23, fes, false⟩ ir_law_turns (defScope (top 34)) (defBody (top 34)) = true := by kernel_rfl
theorem sc23 : C8.scC nm23 (nm23.take 2) (defScope (top 34)) = true := by kernel_rfl
theorem chk24 : chkSs ⟨nm24, fes, false⟩ ir_law_put (defScope (top 35)) (defBody (top 35)) = true := by kernel_rfl
theorem sc24 : C8.scC nm24 (nm24.take 3) (defScope (top 35)) = true := by kernel_rfl
theorem chk25 : chkSs ⟨nm25, fes, false⟩ ir_law_same (defScope (top 36)) (defBody (top 36)) = true := by kernel_rfl
theorem sc25 : C8.scC nm25 (nm25.take 2) (defScope (top 36)) = true := by kernel_rfl
theorem chk26 : chkSs ⟨nm26, fes, false⟩ ir_law_a_gcd (defScope (top 37)) (defBody (top 37)) = true := by kernel_rfl
theorem sc26 : C8.scC nm26 (nm26.take 2) (defScope (top 37)) = true := by kernel_rfl
theorem chk27 : chkSs ⟨nm27, fes, false⟩ ir_law_a_level (defScope (top 38)) (defBody (top 38)) = true := by kernel_rfl
theorem sc27 : C8.scC nm27 (nm27.take 2) (defScope (top 38)) = true := by kernel_rfl
theorem chk28 : chkSs ⟨nm28, fes, false⟩ ir_law_a_period (defScope (top 39)) (defBody (top 39)) = true := by kernel_rfl
theorem sc28 : C8.scC nm28 (nm28.take 1) (defScope (top 39)) = true := by kernel_rfl
theorem chk29 : chkSs ⟨nm29, fes, false⟩ ir_law_a_least (defScope (top 40)) (defBody (top 40)) = true := by kernel_rfl
theorem sc29 : C8.scC nm29 (nm29.take 1) (defScope (top 40)) = true := by kernel_rfl
theorem chk30 : chkSs ⟨nm30, fes, false⟩ ir_law_a_in (defScope (top 41)) (defBody (top 41)) = true := by kernel_rfl
theorem sc30 : C8.scC nm30 (nm30.take 2) (defScope (top 41)) = true := by kernel_rfl
theorem chk31 : chkSs ⟨nm31, fes, false⟩ ir_law_a_canonical (defScope (top 42)) (defBody (top 42)) = true := by kernel_rfl
theorem sc31 : C8.scC nm31 (nm31.take 1) (defScope (top 42)) = true := by kernel_rfl
theorem chk32 : chkSs ⟨nm32, fes, false⟩ ir_law_a_levels (defScope (top 43)) (defBody (top 43)) = true := by kernel_rfl
theorem sc32 : C8.scC nm32 (nm32.take 2) (defScope (top 43)) = true := by kernel_rfl
theorem chk33 : chkSs ⟨nm33, fes, false⟩ ir_law_a_part (defScope (top 44)) (defBody (top 44)) = true := by kernel_rfl
theorem sc33 : C8.scC nm33 (nm33.take 2) (defScope (top 44)) = true := by kernel_rfl
theorem chk34 : chkSs ⟨nm34, fes, false⟩ ir_law_a_sill (defScope (top 45)) (defBody (top 45)) = true := by kernel_rfl
theorem sc34 : C8.scC nm34 (nm34.take 1) (defScope (top 45)) = true := by kernel_rfl
theorem chk35 : chkSs ⟨nm35, fes, false⟩ ir_law_a_near (defScope (top 46)) (defBody (top 46)) = true := by kernel_rfl
theorem sc35 : C8.scC nm35 (nm35.take 3) (defScope (top 46)) = true := by kernel_rfl
theorem chk36 : chkSs ⟨nm36, fes, false⟩ ir_law_a_all_levels (defScope (top 47)) (defBody (top 47)) = true := by kernel_rfl
theorem sc36 : C8.scC nm36 (nm36.take 1) (defScope (top 47)) = true := by kernel_rfl
theorem chk37 : chkSs ⟨nm37, fes, false⟩ ir_law_a_transit (defScope (top 48)) (defBody (top 48)) = true := by kernel_rfl
theorem sc37 : C8.scC nm37 (nm37.take 4) (defScope (top 48)) = true := by kernel_rfl
theorem chk38 : chkSs ⟨nm38, fes, false⟩ ir_law_a_sea (defScope (top 49)) (defBody (top 49)) = true := by kernel_rfl
theorem sc38 : C8.scC nm38 (nm38.take 1) (defScope (top 49)) = true := by kernel_rfl
theorem chk39 : chkSs ⟨nm39, fes, false⟩ ir_law_a_back (defScope (top 50)) (defBody (top 50)) = true := by kernel_rfl
theorem sc39 : C8.scC nm39 (nm39.take 4) (defScope (top 50)) = true := by kernel_rfl
theorem chk40 : chkSs ⟨nm40, fes, false⟩ ir_law_a_deep (defScope (top 51)) (defBody (top 51)) = true := by kernel_rfl
theorem sc40 : C8.scC nm40 (nm40.take 3) (defScope (top 51)) = true := by kernel_rfl
theorem chk41 : chkSs ⟨nm41, fes, false⟩ ir_law_asking (defScope (top 52)) (defBody (top 52)) = true := by kernel_rfl
theorem sc41 : C8.scC nm41 (nm41.take 5) (defScope (top 52)) = true := by kernel_rfl
theorem chk42 : chkSs ⟨nm42, fes, false⟩ ir_law_instance (defScope (top 53)) (defBody (top 53)) = true := by kernel_rfl
theorem sc42 : C8.scC nm42 (nm42.take 2) (defScope (top 53)) = true := by kernel_rfl
theorem chk43 : chkSs ⟨nm43, fes, false⟩ ir_law_looked (defScope (top 54)) (defBody (top 54)) = true := by kernel_rfl
theorem sc43 : C8.scC nm43 (nm43.take 3) (defScope (top 54)) = true := by kernel_rfl
theorem chk44 : chkSs ⟨nm44, fes, false⟩ ir_law (defScope (top 55)) (defBody (top 55)) = true := by kernel_rfl
theorem sc44 : C8.scC nm44 (nm44.take 1) (defScope (top 55)) = true := by kernel_rfl
end L2.PV

namespace L2.PV
open PySem PySem.Spec PyProof.Rows LamX
def hfn0 : List He.DefD := [⟨("has_hour", none), "has_hour", "has_hour", defArgs (top 2), defBody (top 2), defScope (top 2), [], []⟩,
  ⟨("next_hour", none), "next_hour", "next_hour", defArgs (top 3), defBody (top 3), defScope (top 3), [], []⟩,
  ⟨("last_hour", none), "last_hour", "last_hour", defArgs (top 4), defBody (top 4), defScope (top 4), [], []⟩,
  ⟨("closures_of", none), "closures_of", "closures_of", defArgs (top 6), defBody (top 6), defScope (top 6), [], []⟩,
  ⟨("first_start", none), "first_start", "first_start", defArgs (top 7), defBody (top 7), defScope (top 7), [], []⟩,
  ⟨("last_in_window", none), "last_in_window", "last_in_window", defArgs (top 8), defBody (top 8), defScope (top 8), [], []⟩,
  ⟨("last_start", none), "last_start", "last_start", defArgs (top 9), defBody (top 9), defScope (top 9), [], []⟩,
  ⟨("later_bound", none), "later_bound", "later_bound", defArgs (top 10), defBody (top 10), defScope (top 10), [], []⟩,
  ⟨("timeline", none), "timeline", "timeline", defArgs (top 11), defBody (top 11), defScope (top 11), [], []⟩,
  ⟨("earliest", none), "earliest", "earliest", defArgs (top 12), defBody (top 12), defScope (top 12), [], []⟩,
  ⟨("latest_by", none), "latest_by", "latest_by", defArgs (top 14), defBody (top 14), defScope (top 14), [], []⟩,
  ⟨("level_at", none), "level_at", "level_at", defArgs (top 19), defBody (top 19), defScope (top 19), [], []⟩,
  ⟨("levels_at", none), "levels_at", "levels_at", defArgs (top 20), defBody (top 20), defScope (top 20), [], []⟩,
  ⟨("period_of", none), "period_of", "period_of", defArgs (top 21), defBody (top 21), defScope (top 21), [], []⟩,
  ⟨("period_levels", none), "period_levels", "period_levels", defArgs (top 22), defBody (top 22), defScope (top 22), [], []⟩,
  ⟨("extremes_of", none), "extremes_of", "extremes_of", defArgs (top 23), defBody (top 23), defScope (top 23), [], [("most_period", .int 240)]⟩,
  ⟨("blocking_sill", none), "blocking_sill", "blocking_sill", defArgs (top 25), defBody (top 25), defScope (top 25), [], [("most_period", .int 240)]⟩,
  ⟨("rows_of_depths", none), "rows_of_depths", "rows_of_depths", defArgs (top 27), defBody (top 27), defScope (top 27), [], []⟩,
  ⟨("last_passable", none), "last_passable", "last_passable", defArgs (top 28), defBody (top 28), defScope (top 28), [], []⟩,
  ⟨("latest_departure", none), "latest_departure", "latest_departure", defArgs (top 29), defBody (top 29), defScope (top 29), [], [("most_period", .int 240)]⟩,
  ⟨("_law_tape", none), "_law_tape", "_law_tape", defArgs (top 31), defBody (top 31), defScope (top 31), [], []⟩,
  ⟨("_law_draw", none), "_law_draw", "_law_draw", defArgs (top 32), defBody (top 32), defScope (top 32), [], []⟩,
  ⟨("_law_pick", none), "_law_pick", "_law_pick", defArgs (top 33), defBody (top 33), defScope (top 33), [], []⟩,
  ⟨("_law_turns", none), "_law_turns", "_law_turns", defArgs (top 34), defBody (top 34), defScope (top 34), [], []⟩,
  ⟨("_law_put", none), "_law_put", "_law_put", defArgs (top 35), defBody (top 35), defScope (top 35), [], []⟩,
  ⟨("_law_same", none), "_law_same", "_law_same", defArgs (top 36), defBody (top 36), defScope (top 36), [], []⟩,
  ⟨("_law_a_gcd", none), "_law_a_gcd", "_law_a_gcd", defArgs (top 37), defBody (top 37), defScope (top 37), [], []⟩,
  ⟨("_law_a_level", none), "_law_a_level", "_law_a_level", defArgs (top 38), defBody (top 38), defScope (top 38), [], []⟩,
  ⟨("_law_a_period", none), "_law_a_period", "_law_a_period", defArgs (top 39), defBody (top 39), defScope (top 39), [], []⟩,
  ⟨("_law_a_least", none), "_law_a_least", "_law_a_least", defArgs (top 40), defBody (top 40), defScope (top 40), [], []⟩]
def hfn1 : List He.DefD := [⟨("_law_a_in", none), "_law_a_in", "_law_a_in", defArgs (top 41), defBody (top 41), defScope (top 41), [], []⟩,
  ⟨("_law_a_canonical", none), "_law_a_canonical", "_law_a_canonical", defArgs (top 42), defBody (top 42), defScope (top 42), [], []⟩,
  ⟨("_law_a_levels", none), "_law_a_levels", "_law_a_levels", defArgs (top 43), defBody (top 43), defScope (top 43), [], []⟩,
  ⟨("_law_a_part", none), "_law_a_part", "_law_a_part", defArgs (top 44), defBody (top 44), defScope (top 44), [], []⟩,
  ⟨("_law_a_sill", none), "_law_a_sill", "_law_a_sill", defArgs (top 45), defBody (top 45), defScope (top 45), [], []⟩,
  ⟨("_law_a_near", none), "_law_a_near", "_law_a_near", defArgs (top 46), defBody (top 46), defScope (top 46), [], []⟩,
  ⟨("_law_a_all_levels", none), "_law_a_all_levels", "_law_a_all_levels", defArgs (top 47), defBody (top 47), defScope (top 47), [], []⟩,
  ⟨("_law_a_transit", none), "_law_a_transit", "_law_a_transit", defArgs (top 48), defBody (top 48), defScope (top 48), [], []⟩,
  ⟨("_law_a_sea", none), "_law_a_sea", "_law_a_sea", defArgs (top 49), defBody (top 49), defScope (top 49), [], []⟩,
  ⟨("_law_a_back", none), "_law_a_back", "_law_a_back", defArgs (top 50), defBody (top 50), defScope (top 50), [], []⟩,
  ⟨("_law_a_deep", none), "_law_a_deep", "_law_a_deep", defArgs (top 51), defBody (top 51), defScope (top 51), [], []⟩,
  ⟨("_law_asking", none), "_law_asking", "_law_asking", defArgs (top 52), defBody (top 52), defScope (top 52), [], []⟩,
  ⟨("_law_instance", none), "_law_instance", "_law_instance", defArgs (top 53), defBody (top 53), defScope (top 53), [], []⟩,
  ⟨("_law_looked", none), "_law_looked", "_law_looked", defArgs (top 54), defBody (top 54), defScope (top 54), [], []⟩,
  ⟨("law", none), "law", "law", defArgs (top 55), defBody (top 55), defScope (top 55), [], []⟩]
def hfn : List He.DefD := hfn0 ++ hfn1
def hfa : List He.Fa := (fes.map fun f => He.Fa.glo f.name) ++ bltNames.map He.Fa.free
def hlo0 : List Str := ["has_hour", "next_hour", "last_hour", "closures_of", "first_start", "last_in_window", "last_start", "later_bound", "timeline", "earliest", "latest_by", "PortschedError", "TooMany", "level_at", "levels_at", "period_of", "period_levels", "extremes_of", "blocking_sill", "rows_of_depths", "last_passable", "latest_departure", "_law_tape", "_law_draw", "_law_pick", "_law_turns", "_law_put", "_law_same", "_law_a_gcd", "_law_a_level"]
def hlo1 : List Str := ["_law_a_period", "_law_a_least", "_law_a_in", "_law_a_canonical", "_law_a_levels", "_law_a_part", "_law_a_sill", "_law_a_near", "_law_a_all_levels", "_law_a_transit", "_law_a_sea", "_law_a_back", "_law_a_deep", "_law_asking", "_law_instance", "_law_looked"]
def hlo : List Str := hlo0 ++ hlo1
def htf : List He.Defn := [("last_start", none)]
def hex (K : PySem.W.Frag) : Bool := decide (PySem.W.nsIn K mainGlobals "lcm" = some (some (Value.builtin "math.lcm")))
abbrev RR : PySem.W.OpenRow := PySem.W.OpenLaw.row PySem.Challenge.rw_portsched_k77_whole_latest_departures_an
abbrev hk : PySem.W.Hook := He.hookX 4 hfa hfn [] htf hex
def ob (s : PySem.W.SharedT) : He.AlX := He.obsX 4 hfa hfn [] htf hex (HandSHeadRun.getT s)
theorem ob_eq (s : PySem.W.SharedT) : ob s = hk.obs s.abs := He.obsX_eq (HandSHeadRun.getT_eq s)
theorem hrun (w : World) : HandSHeadRun.RunEqI RR (PySem.W.view RR.prog [0, 55]) hk ob 4000 hlo w := by
  unfold HandSHeadRun.RunEqI
  kernel_rfl
def qn (p : He.Defn) : Str := p.1 ++ ".<locals>." ++ "<lambda>"
section
variable {K : PySem.W.Frag} {mg : Str → Option Value} {base : Heap} {ts : List (Addr × Str)}
theorem df0 (c : He.SaysD hfa hfn K) (g : ∀ x ∈ fes.map (·.name), mg x = some (.ref (He.ga K x))) : DfOk K mg base ts fes ⟨2, 4, ir_has_hour⟩ (fes.getD 0 ⟨"", 0, [], []⟩) := by
  obtain ⟨fd, F⟩ := c.def_ 0 (d := ⟨("has_hour", none), "has_hour", "has_hour", defArgs (top 2), defBody (top 2), defScope (top 2), [], []⟩) rfl
  exact df_mk (lam := false) F (N := nm0) sc0 rfl rfl (by decide) chk0 (g "has_hour" (by decide)) (bn_of (F.bindsN fun _ _ _ _ _ _ us hl => match us, hl with | [_, _], _ => rfl)) (fun z => (Bool.false_ne_true z).elim) kb_nil
theorem df1 (c : He.SaysD hfa hfn K) (g : ∀ x ∈ fes.map (·.name), mg x = some (.ref (He.ga K x))) : DfOk K mg base ts fes ⟨2, 6, ir_next_hour⟩ (fes.getD 1 ⟨"", 0, [], []⟩) := by
  obtain ⟨fd, F⟩ := c.def_ 1 (d := ⟨("next_hour", none), "next_hour", "next_hour", defArgs (top 3), defBody (top 3), defScope (top 3), [], []⟩) rfl
  exact df_mk (lam := false) F (N := nm1) sc1 rfl rfl (by decide) chk1 (g "next_hour" (by decide)) (bn_of (F.bindsN fun _ _ _ _ _ _ us hl => match us, hl with | [_, _], _ => rfl)) (fun z => (Bool.false_ne_true z).elim) kb_nil
theorem df2 (c : He.SaysD hfa hfn K) (g : ∀ x ∈ fes.map (·.name), mg x = some (.ref (He.ga K x))) : DfOk K mg base ts fes ⟨2, 7, ir_last_hour⟩ (fes.getD 2 ⟨"", 0, [], []⟩) := by
  obtain ⟨fd, F⟩ := c.def_ 2 (d := ⟨("last_hour", none), "last_hour", "last_hour", defArgs (top 4), defBody (top 4), defScope (top 4), [], []⟩) rfl
  exact df_mk (lam := false) F (N := nm2) sc2 rfl rfl (by decide) chk2 (g "last_hour" (by decide)) (bn_of (F.bindsN fun _ _ _ _ _ _ us hl => match us, hl with | [_, _], _ => rfl)) (fun z => (Bool.false_ne_true z).elim) kb_nil
theorem df3 (c : He.SaysD hfa hfn K) (g : ∀ x ∈ fes.map (·.name), mg x = some (.ref (He.ga K x))) : DfOk K mg base ts fes ⟨2, 5, ir_closures_of⟩ (fes.getD 3 ⟨"", 0, [], []⟩) := by
  obtain ⟨fd, F⟩ := c.def_ 3 (d := ⟨("closures_of", none), "closures_of", "closures_of", defArgs (top 6), defBody (top 6), defScope (top 6), [], []⟩) rfl
  exact df_mk (lam := false) F (N := nm3) sc3 rfl rfl (by decide) chk3 (g "closures_of" (by decide)) (bn_of (F.bindsN fun _ _ _ _ _ _ us hl => match us, hl with | [_, _], _ => rfl)) (fun z => (Bool.false_ne_true z).elim) kb_nil
theorem df4 (c : He.SaysD hfa hfn K) (g : ∀ x ∈ fes.map (·.name), mg x = some (.ref (He.ga K x))) : DfOk K mg base ts fes ⟨3, 6, ir_first_start⟩ (fes.getD 4 ⟨"", 0, [], []⟩) := by
  obtain ⟨fd, F⟩ := c.def_ 4 (d := ⟨("first_start", none), "first_start", "first_start", defArgs (top 7), defBody (top 7), defScope (top 7), [], []⟩) rfl
  exact df_mk (lam := false) F (N := nm4) sc4 rfl rfl (by decide) chk4 (g "first_start" (by decide)) (bn_of (F.bindsN fun _ _ _ _ _ _ us hl => match us, hl with | [_, _, _], _ => rfl)) (fun z => (Bool.false_ne_true z).elim) kb_nil
theorem df5 (c : He.SaysD hfa hfn K) (g : ∀ x ∈ fes.map (·.name), mg x = some (.ref (He.ga K x))) : DfOk K mg base ts fes ⟨2, 2, ir_last_in_window⟩ (fes.getD 5 ⟨"", 0, [], []⟩) := by
  obtain ⟨fd, F⟩ := c.def_ 5 (d := ⟨("last_in_window", none), "last_in_window", "last_in_window", defArgs (top 8), defBody (top 8), defScope (top 8), [], []⟩) rfl
  exact df_mk (lam := false) F (N := nm5) sc5 rfl rfl (by decide) chk5 (g "last_in_window" (by decide)) (bn_of (F.bindsN fun _ _ _ _ _ _ us hl => match us, hl with | [_, _], _ => rfl)) (fun z => (Bool.false_ne_true z).elim) kb_nil
theorem df6 (c : He.SaysD hfa hfn K) (g : ∀ x ∈ fes.map (·.name), mg x = some (.ref (He.ga K x))) (T : TabB base mg (He.cT K ("last_start", none)).1 (He.cT K ("last_start", none)).2) (hm : ((He.cT K ("last_start", none)).2, ("last_start" : Str) ++ ".<locals>." ++ "<lambda>") ∈ ts) (hu : ∀ p ∈ ts, p.1 = (He.cT K ("last_start", none)).2 → p.2 = ("last_start" : Str) ++ ".<locals>." ++ "<lambda>") : DfOk K mg base ts fes ⟨3, 6, ir_last_start⟩ (fes.getD 6 ⟨"", 0, [], []⟩) := by
  obtain ⟨fd, F⟩ := c.def_ 6 (d := ⟨("last_start", none), "last_start", "last_start", defArgs (top 9), defBody (top 9), defScope (top 9), [], []⟩) rfl
  exact df_mk (lam := true) F (N := nm6) sc6 rfl rfl (by decide) chk6 (g "last_start" (by decide)) (bn_of (F.bindsN fun _ _ _ _ _ _ us hl => match us, hl with | [_, _, _], _ => rfl)) (fun _ => lam_of F T hm hu) kb_nil
theorem df7 (c : He.SaysD hfa hfn K) (g : ∀ x ∈ fes.map (·.name), mg x = some (.ref (He.ga K x))) : DfOk K mg base ts fes ⟨4, 4, ir_later_bound⟩ (fes.getD 7 ⟨"", 0, [], []⟩) := by
  obtain ⟨fd, F⟩ := c.def_ 7 (d := ⟨("later_bound", none), "later_bound", "later_bound", defArgs (top 10), defBody (top 10), defScope (top 10), [], []⟩) rfl
  exact df_mk (lam := false) F (N := nm7) sc7 rfl rfl (by decide) chk7 (g "later_bound" (by decide)) (bn_of (F.bindsN fun _ _ _ _ _ _ us hl => match us, hl with | [_, _, _, _], _ => rfl)) (fun z => (Bool.false_ne_true z).elim) kb_nil
theorem df8 (c : He.SaysD hfa hfn K) (g : ∀ x ∈ fes.map (·.name), mg x = some (.ref (He.ga K x))) : DfOk K mg base ts fes ⟨1, 10, ir_timeline⟩ (fes.getD 8 ⟨"", 0, [], []⟩) := by
  obtain ⟨fd, F⟩ := c.def_ 8 (d := ⟨("timeline", none), "timeline", "timeline", defArgs (top 11), defBody (top 11), defScope (top 11), [], []⟩) rfl
  exact df_mk (lam := false) F (N := nm8) sc8 rfl rfl (by decide) chk8 (g "timeline" (by decide)) (bn_of (F.bindsN fun _ _ _ _ _ _ us hl => match us, hl with | [_], _ => rfl)) (fun z => (Bool.false_ne_true z).elim) kb_nil
theorem df9 (c : He.SaysD hfa hfn K) (g : ∀ x ∈ fes.map (·.name), mg x = some (.ref (He.ga K x))) : DfOk K mg base ts fes ⟨1, 4, ir_earliest⟩ (fes.getD 9 ⟨"", 0, [], []⟩) := by
  obtain ⟨fd, F⟩ := c.def_ 9 (d := ⟨("earliest", none), "earliest", "earliest", defArgs (top 12), defBody (top 12), defScope (top 12), [], []⟩) rfl
  exact df_mk (lam := false) F (N := nm9) sc9 rfl rfl (by decide) chk9 (g "earliest" (by decide)) (bn_of (F.bindsN fun _ _ _ _ _ _ us hl => match us, hl with | [_], _ => rfl)) (fun z => (Bool.false_ne_true z).elim) kb_nil
theorem df10 (c : He.SaysD hfa hfn K) (g : ∀ x ∈ fes.map (·.name), mg x = some (.ref (He.ga K x))) : DfOk K mg base ts fes ⟨2, 14, ir_latest_by⟩ (fes.getD 10 ⟨"", 0, [], []⟩) := by
  obtain ⟨fd, F⟩ := c.def_ 10 (d := ⟨("latest_by", none), "latest_by", "latest_by", defArgs (top 14), defBody (top 14), defScope (top 14), [], []⟩) rfl
  exact df_mk (lam := false) F (N := nm10) sc10 rfl rfl (by decide) chk10 (g "latest_by" (by decide)) (bn_of (F.bindsN fun _ _ _ _ _ _ us hl => match us, hl with | [_, _], _ => rfl)) (fun z => (Bool.false_ne_true z).elim) kb_nil
theorem df11 (c : He.SaysD hfa hfn K) (g : ∀ x ∈ fes.map (·.name), mg x = some (.ref (He.ga K x))) : DfOk K mg base ts fes ⟨2, 3, ir_level_at⟩ (fes.getD 11 ⟨"", 0, [], []⟩) := by
  obtain ⟨fd, F⟩ := c.def_ 11 (d := ⟨("level_at", none), "level_at", "level_at", defArgs (top 19), defBody (top 19), defScope (top 19), [], []⟩) rfl
  exact df_mk (lam := false) F (N := nm11) sc11 rfl rfl (by decide) chk11 (g "level_at" (by decide)) (bn_of (F.bindsN fun _ _ _ _ _ _ us hl => match us, hl with | [_, _], _ => rfl)) (fun z => (Bool.false_ne_true z).elim) kb_nil
theorem df12 (c : He.SaysD hfa hfn K) (g : ∀ x ∈ fes.map (·.name), mg x = some (.ref (He.ga K x))) : DfOk K mg base ts fes ⟨3, 4, ir_levels_at⟩ (fes.getD 12 ⟨"", 0, [], []⟩) := by
  obtain ⟨fd, F⟩ := c.def_ 12 (d := ⟨("levels_at", none), "levels_at", "levels_at", defArgs (top 20), defBody (top 20), defScope (top 20), [], []⟩) rfl
  exact df_mk (lam := false) F (N := nm12) sc12 rfl rfl (by decide) chk12 (g "levels_at" (by decide)) (bn_of (F.bindsN fun _ _ _ _ _ _ us hl => match us, hl with | [_, _, _], _ => rfl)) (fun z => (Bool.false_ne_true z).elim) kb_nil
theorem df13 (c : He.SaysD hfa hfn K) (g : ∀ x ∈ fes.map (·.name), mg x = some (.ref (He.ga K x))) : DfOk K mg base ts fes ⟨1, 3, ir_period_of⟩ (fes.getD 13 ⟨"", 0, [], []⟩) := by
  obtain ⟨fd, F⟩ := c.def_ 13 (d := ⟨("period_of", none), "period_of", "period_of", defArgs (top 21), defBody (top 21), defScope (top 21), [], []⟩) rfl
  exact df_mk (lam := false) F (N := nm13) sc13 rfl rfl (by decide) chk13 (g "period_of" (by decide)) (bn_of (F.bindsN fun _ _ _ _ _ _ us hl => match us, hl with | [_], _ => rfl)) (fun z => (Bool.false_ne_true z).elim) kb_nil
theorem df14 (c : He.SaysD hfa hfn K) (g : ∀ x ∈ fes.map (·.name), mg x = some (.ref (He.ga K x))) : DfOk K mg base ts fes ⟨2, 3, ir_period_levels⟩ (fes.getD 14 ⟨"", 0, [], []⟩) := by
  obtain ⟨fd, F⟩ := c.def_ 14 (d := ⟨("period_levels", none), "period_levels", "period_levels", defArgs (top 22), defBody (top 22), defScope (top 22), [], []⟩) rfl
  exact df_mk (lam := false) F (N := nm14) sc14 rfl rfl (by decide) chk14 (g "period_levels" (by decide)) (bn_of (F.bindsN fun _ _ _ _ _ _ us hl => match us, hl with | [_, _], _ => rfl)) (fun z => (Bool.false_ne_true z).elim) kb_nil
theorem df15 (c : He.SaysD hfa hfn K) (g : ∀ x ∈ fes.map (·.name), mg x = some (.ref (He.ga K x))) : DfOk K mg base ts fes ⟨2, 3, ir_extremes_of⟩ (fes.getD 15 ⟨"", 0, [], []⟩) := by
  obtain ⟨fd, F⟩ := c.def_ 15 (d := ⟨("extremes_of", none), "extremes_of", "extremes_of", defArgs (top 23), defBody (top 23), defScope (top 23), [], [("most_period", .int 240)]⟩) rfl
  exact df_mk (lam := false) F (N := nm15) sc15 rfl rfl (by decide) chk15 (g "extremes_of" (by decide)) (bd_of (n := 1) (dvs := [.int 240]) (fun _ => VRs.cons rfl (VRs.nil)) (F.binds0 1 (List.cons_ne_nil _ _) rfl fun _ _ _ _ _ _ us ks h1 h2 => match us, h1, ks, h2 with | [_], _, [_], _ => ⟨_, _, _, _, _, _, rfl, rfl, rfl⟩)) (fun z => (Bool.false_ne_true z).elim) (kb_of F fun _ _ _ _ _ _ us ws l1 l2 => match us, l1, ws, l2 with | [_], _, [_], _ => rfl)
theorem df16 (c : He.SaysD hfa hfn K) (g : ∀ x ∈ fes.map (·.name), mg x = some (.ref (He.ga K x))) : DfOk K mg base ts fes ⟨4, 7, ir_blocking_sill⟩ (fes.getD 16 ⟨"", 0, [], []⟩) := by
  obtain ⟨fd, F⟩ := c.def_ 16 (d := ⟨("blocking_sill", none), "blocking_sill", "blocking_sill", defArgs (top 25), defBody (top 25), defScope (top 25), [], [("most_period", .int 240)]⟩) rfl
  exact df_mk (lam := false) F (N := nm16) sc16 rfl rfl (by decide) chk16 (g "blocking_sill" (by decide)) (bd_of (n := 3) (dvs := [.int 240]) (fun _ => VRs.cons rfl (VRs.nil)) (F.binds0 3 (List.cons_ne_nil _ _) rfl fun _ _ _ _ _ _ us ks h1 h2 => match us, h1, ks, h2 with | [_, _, _], _, [_], _ => ⟨_, _, _, _, _, _, rfl, rfl, rfl⟩)) (fun z => (Bool.false_ne_true z).elim) (kb_of F fun _ _ _ _ _ _ us ws l1 l2 => match us, l1, ws, l2 with | [_, _, _], _, [_], _ => rfl)
theorem df17 (c : He.SaysD hfa hfn K) (g : ∀ x ∈ fes.map (·.name), mg x = some (.ref (He.ga K x))) : DfOk K mg base ts fes ⟨2, 4, ir_rows_of_depths⟩ (fes.getD 17 ⟨"", 0, [], []⟩) := by
  obtain ⟨fd, F⟩ := c.def_ 17 (d := ⟨("rows_of_depths", none), "rows_of_depths", "rows_of_depths", defArgs (top 27), defBody (top 27), defScope (top 27), [], []⟩) rfl
  exact df_mk (lam := false) F (N := nm17) sc17 rfl rfl (by decide) chk17 (g "rows_of_depths" (by decide)) (bn_of (F.bindsN fun _ _ _ _ _ _ us hl => match us, hl with | [_, _], _ => rfl)) (fun z => (Bool.false_ne_true z).elim) kb_nil
theorem df18 (c : He.SaysD hfa hfn K) (g : ∀ x ∈ fes.map (·.name), mg x = some (.ref (He.ga K x))) : DfOk K mg base ts fes ⟨3, 4, ir_last_passable⟩ (fes.getD 18 ⟨"", 0, [], []⟩) := by
  obtain ⟨fd, F⟩ := c.def_ 18 (d := ⟨("last_passable", none), "last_passable", "last_passable", defArgs (top 28), defBody (top 28), defScope (top 28), [], []⟩) rfl
  exact df_mk (lam := false) F (N := nm18) sc18 rfl rfl (by decide) chk18 (g "last_passable" (by decide)) (bn_of (F.bindsN fun _ _ _ _ _ _ us hl => match us, hl with | [_, _, _], _ => rfl)) (fun z => (Bool.false_ne_true z).elim) kb_nil
theorem df19 (c : He.SaysD hfa hfn K) (g : ∀ x ∈ fes.map (·.name), mg x = some (.ref (He.ga K x))) : DfOk K mg base ts fes ⟨5, 7, ir_latest_departure⟩ (fes.getD 19 ⟨"", 0, [], []⟩) := by
  obtain ⟨fd, F⟩ := c.def_ 19 (d := ⟨("latest_departure", none), "latest_departure", "latest_departure", defArgs (top 29), defBody (top 29), defScope (top 29), [], [("most_period", .int 240)]⟩) rfl
  exact df_mk (lam := false) F (N := nm19) sc19 rfl rfl (by decide) chk19 (g "latest_departure" (by decide)) (bd_of (n := 4) (dvs := [.int 240]) (fun _ => VRs.cons rfl (VRs.nil)) (F.binds0 4 (List.cons_ne_nil _ _) rfl fun _ _ _ _ _ _ us ks h1 h2 => match us, h1, ks, h2 with | [_, _, _, _], _, [_], _ => ⟨_, _, _, _, _, _, rfl, rfl, rfl⟩)) (fun z => (Bool.false_ne_true z).elim) (kb_of F fun _ _ _ _ _ _ us ws l1 l2 => match us, l1, ws, l2 with | [_, _, _, _], _, [_], _ => rfl)
theorem df20 (c : He.SaysD hfa hfn K) (g : ∀ x ∈ fes.map (·.name), mg x = some (.ref (He.ga K x))) : DfOk K mg base ts fes ⟨1, 3, ir_law_tape⟩ (fes.getD 20 ⟨"", 0, [], []⟩) := by
  obtain ⟨fd, F⟩ := c.def_ 20 (d := ⟨("_law_tape", none), "_law_tape", "_law_tape", defArgs (top 31), defBody (top 31), defScope (top 31), [], []⟩) rfl
  exact df_mk (lam := false) F (N := nm20) sc20 rfl rfl (by decide) chk20 (g "_law_tape" (by decide)) (bn_of (F.bindsN fun _ _ _ _ _ _ us hl => match us, hl with | [_], _ => rfl)) (fun z => (Bool.false_ne_true z).elim) kb_nil
theorem df21 (c : He.SaysD hfa hfn K) (g : ∀ x ∈ fes.map (·.name), mg x = some (.ref (He.ga K x))) : DfOk K mg base ts fes ⟨2, 4, ir_law_draw⟩ (fes.getD 21 ⟨"", 0, [], []⟩) := by
  obtain ⟨fd, F⟩ := c.def_ 21 (d := ⟨("_law_draw", none), "_law_draw", "_law_draw", defArgs (top 32), defBody (top 32), defScope (top 32), [], []⟩) rfl
  exact df_mk (lam := false) F (N := nm21) sc21 rfl rfl (by decide) chk21 (g "_law_draw" (by decide)) (bn_of (F.bindsN fun _ _ _ _ _ _ us hl => match us, hl with | [_, _], _ => rfl)) (fun z => (Bool.false_ne_true z).elim) kb_nil
theorem df22 (c : He.SaysD hfa hfn K) (g : ∀ x ∈ fes.map (·.name), mg x = some (.ref (He.ga K x))) : DfOk K mg base ts fes ⟨2, 2, ir_law_pick⟩ (fes.getD 22 ⟨"", 0, [], []⟩) := by
  obtain ⟨fd, F⟩ := c.def_ 22 (d := ⟨("_law_pick", none), "_law_pick", "_law_pick", defArgs (top 33), defBody (top 33), defScope (top 33), [], []⟩) rfl
  exact df_mk (lam := false) F (N := nm22) sc22 rfl rfl (by decide) chk22 (g "_law_pick" (by decide)) (bn_of (F.bindsN fun _ _ _ _ _ _ us hl => match us, hl with | [_, _], _ => rfl)) (fun z => (Bool.false_ne_true z).elim) kb_nil
theorem df23 (c : He.SaysD hfa hfn K) (g : ∀ x ∈ fes.map (·.name), mg x = some (.ref (He.ga K x))) : DfOk K mg base ts fes ⟨2, 5, ir_law_turns⟩ (fes.getD 23 ⟨"", 0, [], []⟩) := by
  obtain ⟨fd, F⟩ := c.def_ 23 (d := ⟨("_law_turns", none), "_law_turns", "_law_turns", defArgs (top 34), defBody (top 34), defScope (top 34), [], []⟩) rfl
  exact df_mk (lam := false) F (N := nm23) sc23 rfl rfl (by decide) chk23 (g "_law_turns" (by decide)) (bn_of (F.bindsN fun _ _ _ _ _ _ us hl => match us, hl with | [_, _], _ => rfl)) (fun z => (Bool.false_ne_true z).elim) kb_nil
theorem df24 (c : He.SaysD hfa hfn K) (g : ∀ x ∈ fes.map (·.name), mg x = some (.ref (He.ga K x))) : DfOk K mg base ts fes ⟨3, 3, ir_law_put⟩ (fes.getD 24 ⟨"", 0, [], []⟩) := by
  obtain ⟨fd, F⟩ := c.def_ 24 (d := ⟨("_law_put", none), "_law_put", "_law_put", defArgs (top 35), defBody (top 35), defScope (top 35), [], []⟩) rfl
  exact df_mk (lam := false) F (N := nm24) sc24 rfl rfl (by decide) chk24 (g "_law_put" (by decide)) (bn_of (F.bindsN fun _ _ _ _ _ _ us hl => match us, hl with | [_, _, _], _ => rfl)) (fun z => (Bool.false_ne_true z).elim) kb_nil
theorem df25 (c : He.SaysD hfa hfn K) (g : ∀ x ∈ fes.map (·.name), mg x = some (.ref (He.ga K x))) : DfOk K mg base ts fes ⟨2, 3, ir_law_same⟩ (fes.getD 25 ⟨"", 0, [], []⟩) := by
  obtain ⟨fd, F⟩ := c.def_ 25 (d := ⟨("_law_same", none), "_law_same", "_law_same", defArgs (top 36), defBody (top 36), defScope (top 36), [], []⟩) rfl
  exact df_mk (lam := false) F (N := nm25) sc25 rfl rfl (by decide) chk25 (g "_law_same" (by decide)) (bn_of (F.bindsN fun _ _ _ _ _ _ us hl => match us, hl with | [_, _], _ => rfl)) (fun z => (Bool.false_ne_true z).elim) kb_nil
theorem df26 (c : He.SaysD hfa hfn K) (g : ∀ x ∈ fes.map (·.name), mg x = some (.ref (He.ga K x))) : DfOk K mg base ts fes ⟨2, 3, ir_law_a_gcd⟩ (fes.getD 26 ⟨"", 0, [], []⟩) := by
  obtain ⟨fd, F⟩ := c.def_ 26 (d := ⟨("_law_a_gcd", none), "_law_a_gcd", "_law_a_gcd", defArgs (top 37), defBody (top 37), defScope (top 37), [], []⟩) rfl
  exact df_mk (lam := false) F (N := nm26) sc26 rfl rfl (by decide) chk26 (g "_law_a_gcd" (by decide)) (bn_of (F.bindsN fun _ _ _ _ _ _ us hl => match us, hl with | [_, _], _ => rfl)) (fun z => (Bool.false_ne_true z).elim) kb_nil
theorem df27 (c : He.SaysD hfa hfn K) (g : ∀ x ∈ fes.map (·.name), mg x = some (.ref (He.ga K x))) : DfOk K mg base ts fes ⟨2, 3, ir_law_a_level⟩ (fes.getD 27 ⟨"", 0, [], []⟩) := by
  obtain ⟨fd, F⟩ := c.def_ 27 (d := ⟨("_law_a_level", none), "_law_a_level", "_law_a_level", defArgs (top 38), defBody (top 38), defScope (top 38), [], []⟩) rfl
  exact df_mk (lam := false) F (N := nm27) sc27 rfl rfl (by decide) chk27 (g "_law_a_level" (by decide)) (bn_of (F.bindsN fun _ _ _ _ _ _ us hl => match us, hl with | [_, _], _ => rfl)) (fun z => (Bool.false_ne_true z).elim) kb_nil
theorem df28 (c : He.SaysD hfa hfn K) (g : ∀ x ∈ fes.map (·.name), mg x = some (.ref (He.ga K x))) : DfOk K mg base ts fes ⟨1, 3, ir_law_a_period⟩ (fes.getD 28 ⟨"", 0, [], []⟩) := by
  obtain ⟨fd, F⟩ := c.def_ 28 (d := ⟨("_law_a_period", none), "_law_a_period", "_law_a_period", defArgs (top 39), defBody (top 39), defScope (top 39), [], []⟩) rfl
  exact df_mk (lam := false) F (N := nm28) sc28 rfl rfl (by decide) chk28 (g "_law_a_period" (by decide)) (bn_of (F.bindsN fun _ _ _ _ _ _ us hl => match us, hl with | [_], _ => rfl)) (fun z => (Bool.false_ne_true z).elim) kb_nil
theorem df29 (c : He.SaysD hfa hfn K) (g : ∀ x ∈ fes.map (·.name), mg x = some (.ref (He.ga K x))) : DfOk K mg base ts fes ⟨1, 2, ir_law_a_least⟩ (fes.getD 29 ⟨"", 0, [], []⟩) := by
  obtain ⟨fd, F⟩ := c.def_ 29 (d := ⟨("_law_a_least", none), "_law_a_least", "_law_a_least", defArgs (top 40), defBody (top 40), defScope (top 40), [], []⟩) rfl
  exact df_mk (lam := false) F (N := nm29) sc29 rfl rfl (by decide) chk29 (g "_law_a_least" (by decide)) (bn_of (F.bindsN fun _ _ _ _ _ _ us hl => match us, hl with | [_], _ => rfl)) (fun z => (Bool.false_ne_true z).elim) kb_nil
theorem df30 (c : He.SaysD hfa hfn K) (g : ∀ x ∈ fes.map (·.name), mg x = some (.ref (He.ga K x))) : DfOk K mg base ts fes ⟨2, 3, ir_law_a_in⟩ (fes.getD 30 ⟨"", 0, [], []⟩) := by
  obtain ⟨fd, F⟩ := c.def_ 30 (d := ⟨("_law_a_in", none), "_law_a_in", "_law_a_in", defArgs (top 41), defBody (top 41), defScope (top 41), [], []⟩) rfl
  exact df_mk (lam := false) F (N := nm30) sc30 rfl rfl (by decide) chk30 (g "_law_a_in" (by decide)) (bn_of (F.bindsN fun _ _ _ _ _ _ us hl => match us, hl with | [_, _], _ => rfl)) (fun z => (Bool.false_ne_true z).elim) kb_nil
theorem df31 (c : He.SaysD hfa hfn K) (g : ∀ x ∈ fes.map (·.name), mg x = some (.ref (He.ga K x))) : DfOk K mg base ts fes ⟨1, 4, ir_law_a_canonical⟩ (fes.getD 31 ⟨"", 0, [], []⟩) := by
  obtain ⟨fd, F⟩ := c.def_ 31 (d := ⟨("_law_a_canonical", none), "_law_a_canonical", "_law_a_canonical", defArgs (top 42), defBody (top 42), defScope (top 42), [], []⟩) rfl
  exact df_mk (lam := false) F (N := nm31) sc31 rfl rfl (by decide) chk31 (g "_law_a_canonical" (by decide)) (bn_of (F.bindsN fun _ _ _ _ _ _ us hl => match us, hl with | [_], _ => rfl)) (fun z => (Bool.false_ne_true z).elim) kb_nil
theorem df32 (c : He.SaysD hfa hfn K) (g : ∀ x ∈ fes.map (·.name), mg x = some (.ref (He.ga K x))) : DfOk K mg base ts fes ⟨2, 4, ir_law_a_levels⟩ (fes.getD 32 ⟨"", 0, [], []⟩) := by
  obtain ⟨fd, F⟩ := c.def_ 32 (d := ⟨("_law_a_levels", none), "_law_a_levels", "_law_a_levels", defArgs (top 43), defBody (top 43), defScope (top 43), [], []⟩) rfl
  exact df_mk (lam := false) F (N := nm32) sc32 rfl rfl (by decide) chk32 (g "_law_a_levels" (by decide)) (bn_of (F.bindsN fun _ _ _ _ _ _ us hl => match us, hl with | [_, _], _ => rfl)) (fun z => (Bool.false_ne_true z).elim) kb_nil
theorem df33 (c : He.SaysD hfa hfn K) (g : ∀ x ∈ fes.map (·.name), mg x = some (.ref (He.ga K x))) : DfOk K mg base ts fes ⟨2, 4, ir_law_a_part⟩ (fes.getD 33 ⟨"", 0, [], []⟩) := by
  obtain ⟨fd, F⟩ := c.def_ 33 (d := ⟨("_law_a_part", none), "_law_a_part", "_law_a_part", defArgs (top 44), defBody (top 44), defScope (top 44), [], []⟩) rfl
  exact df_mk (lam := false) F (N := nm33) sc33 rfl rfl (by decide) chk33 (g "_law_a_part" (by decide)) (bn_of (F.bindsN fun _ _ _ _ _ _ us hl => match us, hl with | [_, _], _ => rfl)) (fun z => (Bool.false_ne_true z).elim) kb_nil
theorem df34 (c : He.SaysD hfa hfn K) (g : ∀ x ∈ fes.map (·.name), mg x = some (.ref (He.ga K x))) : DfOk K mg base ts fes ⟨1, 1, ir_law_a_sill⟩ (fes.getD 34 ⟨"", 0, [], []⟩) := by
  obtain ⟨fd, F⟩ := c.def_ 34 (d := ⟨("_law_a_sill", none), "_law_a_sill", "_law_a_sill", defArgs (top 45), defBody (top 45), defScope (top 45), [], []⟩) rfl
  exact df_mk (lam := false) F (N := nm34) sc34 rfl rfl (by decide) chk34 (g "_law_a_sill" (by decide)) (bn_of (F.bindsN fun _ _ _ _ _ _ us hl => match us, hl with | [_], _ => rfl)) (fun z => (Bool.false_ne_true z).elim) kb_nil
theorem df35 (c : He.SaysD hfa hfn K) (g : ∀ x ∈ fes.map (·.name), mg x = some (.ref (He.ga K x))) : DfOk K mg base ts fes ⟨3, 4, ir_law_a_near⟩ (fes.getD 35 ⟨"", 0, [], []⟩) := by
  obtain ⟨fd, F⟩ := c.def_ 35 (d := ⟨("_law_a_near", none), "_law_a_near", "_law_a_near", defArgs (top 46), defBody (top 46), defScope (top 46), [], []⟩) rfl
  exact df_mk (lam := false) F (N := nm35) sc35 rfl rfl (by decide) chk35 (g "_law_a_near" (by decide)) (bn_of (F.bindsN fun _ _ _ _ _ _ us hl => match us, hl with | [_, _, _], _ => rfl)) (fun z => (Bool.false_ne_true z).elim) kb_nil
theorem df36 (c : He.SaysD hfa hfn K) (g : ∀ x ∈ fes.map (·.name), mg x = some (.ref (He.ga K x))) : DfOk K mg base ts fes ⟨1, 2, ir_law_a_all_levels⟩ (fes.getD 36 ⟨"", 0, [], []⟩) := by
  obtain ⟨fd, F⟩ := c.def_ 36 (d := ⟨("_law_a_all_levels", none), "_law_a_all_levels", "_law_a_all_levels", defArgs (top 47), defBody (top 47), defScope (top 47), [], []⟩) rfl
  exact df_mk (lam := false) F (N := nm36) sc36 rfl rfl (by decide) chk36 (g "_law_a_all_levels" (by decide)) (bn_of (F.bindsN fun _ _ _ _ _ _ us hl => match us, hl with | [_], _ => rfl)) (fun z => (Bool.false_ne_true z).elim) kb_nil
theorem df37 (c : He.SaysD hfa hfn K) (g : ∀ x ∈ fes.map (·.name), mg x = some (.ref (He.ga K x))) : DfOk K mg base ts fes ⟨4, 9, ir_law_a_transit⟩ (fes.getD 37 ⟨"", 0, [], []⟩) := by
  obtain ⟨fd, F⟩ := c.def_ 37 (d := ⟨("_law_a_transit", none), "_law_a_transit", "_law_a_transit", defArgs (top 48), defBody (top 48), defScope (top 48), [], []⟩) rfl
  exact df_mk (lam := false) F (N := nm37) sc37 rfl rfl (by decide) chk37 (g "_law_a_transit" (by decide)) (bn_of (F.bindsN fun _ _ _ _ _ _ us hl => match us, hl with | [_, _, _, _], _ => rfl)) (fun z => (Bool.false_ne_true z).elim) kb_nil
theorem df38 (c : He.SaysD hfa hfn K) (g : ∀ x ∈ fes.map (·.name), mg x = some (.ref (He.ga K x))) : DfOk K mg base ts fes ⟨1, 3, ir_law_a_sea⟩ (fes.getD 38 ⟨"", 0, [], []⟩) := by
  obtain ⟨fd, F⟩ := c.def_ 38 (d := ⟨("_law_a_sea", none), "_law_a_sea", "_law_a_sea", defArgs (top 49), defBody (top 49), defScope (top 49), [], []⟩) rfl
  exact df_mk (lam := false) F (N := nm38) sc38 rfl rfl (by decide) chk38 (g "_law_a_sea" (by decide)) (bn_of (F.bindsN fun _ _ _ _ _ _ us hl => match us, hl with | [_], _ => rfl)) (fun z => (Bool.false_ne_true z).elim) kb_nil
theorem df39 (c : He.SaysD hfa hfn K) (g : ∀ x ∈ fes.map (·.name), mg x = some (.ref (He.ga K x))) : DfOk K mg base ts fes ⟨4, 10, ir_law_a_back⟩ (fes.getD 39 ⟨"", 0, [], []⟩) := by
  obtain ⟨fd, F⟩ := c.def_ 39 (d := ⟨("_law_a_back", none), "_law_a_back", "_law_a_back", defArgs (top 50), defBody (top 50), defScope (top 50), [], []⟩) rfl
  exact df_mk (lam := false) F (N := nm39) sc39 rfl rfl (by decide) chk39 (g "_law_a_back" (by decide)) (bn_of (F.bindsN fun _ _ _ _ _ _ us hl => match us, hl with | [_, _, _, _], _ => rfl)) (fun z => (Bool.false_ne_true z).elim) kb_nil
theorem df40 (c : He.SaysD hfa hfn K) (g : ∀ x ∈ fes.map (·.name), mg x = some (.ref (He.ga K x))) : DfOk K mg base ts fes ⟨3, 4, ir_law_a_deep⟩ (fes.getD 40 ⟨"", 0, [], []⟩) := by
  obtain ⟨fd, F⟩ := c.def_ 40 (d := ⟨("_law_a_deep", none), "_law_a_deep", "_law_a_deep", defArgs (top 51), defBody (top 51), defScope (top 51), [], []⟩) rfl
  exact df_mk (lam := false) F (N := nm40) sc40 rfl rfl (by decide) chk40 (g "_law_a_deep" (by decide)) (bn_of (F.bindsN fun _ _ _ _ _ _ us hl => match us, hl with | [_, _, _], _ => rfl)) (fun z => (Bool.false_ne_true z).elim) kb_nil
theorem df41 (c : He.SaysD hfa hfn K) (g : ∀ x ∈ fes.map (·.name), mg x = some (.ref (He.ga K x))) : DfOk K mg base ts fes ⟨5, 11, ir_law_asking⟩ (fes.getD 41 ⟨"", 0, [], []⟩) := by
  obtain ⟨fd, F⟩ := c.def_ 41 (d := ⟨("_law_asking", none), "_law_asking", "_law_asking", defArgs (top 52), defBody (top 52), defScope (top 52), [], []⟩) rfl
  exact df_mk (lam := false) F (N := nm41) sc41 rfl rfl (by decide) chk41 (g "_law_asking" (by decide)) (bn_of (F.bindsN fun _ _ _ _ _ _ us hl => match us, hl with | [_, _, _, _, _], _ => rfl)) (fun z => (Bool.false_ne_true z).elim) kb_nil
theorem df42 (c : He.SaysD hfa hfn K) (g : ∀ x ∈ fes.map (·.name), mg x = some (.ref (He.ga K x))) : DfOk K mg base ts fes ⟨2, 6, ir_law_instance⟩ (fes.getD 42 ⟨"", 0, [], []⟩) := by
  obtain ⟨fd, F⟩ := c.def_ 42 (d := ⟨("_law_instance", none), "_law_instance", "_law_instance", defArgs (top 53), defBody (top 53), defScope (top 53), [], []⟩) rfl
  exact df_mk (lam := false) F (N := nm42) sc42 rfl rfl (by decide) chk42 (g "_law_instance" (by decide)) (bn_of (F.bindsN fun _ _ _ _ _ _ us hl => match us, hl with | [_, _], _ => rfl)) (fun z => (Bool.false_ne_true z).elim) kb_nil
theorem df43 (c : He.SaysD hfa hfn K) (g : ∀ x ∈ fes.map (·.name), mg x = some (.ref (He.ga K x))) : DfOk K mg base ts fes ⟨3, 9, ir_law_looked⟩ (fes.getD 43 ⟨"", 0, [], []⟩) := by
  obtain ⟨fd, F⟩ := c.def_ 43 (d := ⟨("_law_looked", none), "_law_looked", "_law_looked", defArgs (top 54), defBody (top 54), defScope (top 54), [], []⟩) rfl
  exact df_mk (lam := false) F (N := nm43) sc43 rfl rfl (by decide) chk43 (g "_law_looked" (by decide)) (bn_of (F.bindsN fun _ _ _ _ _ _ us hl => match us, hl with | [_, _, _], _ => rfl)) (fun z => (Bool.false_ne_true z).elim) kb_nil
theorem df44 (c : He.SaysD hfa hfn K) (g : ∀ x ∈ fes.map (·.name), mg x = some (.ref (He.ga K x))) : DfOk K mg base ts fes ⟨1, 13, ir_law⟩ (fes.getD 44 ⟨"", 0, [], []⟩) := by
  obtain ⟨fd, F⟩ := c.def_ 44 (d := ⟨("law", none), "law", "law", defArgs (top 55), defBody (top 55), defScope (top 55), [], []⟩) rfl
  exact df_mk (lam := false) F (N := nm44) sc44 rfl rfl (by decide) chk44 (g "law" (by decide)) (bn_of (F.bindsN fun _ _ _ _ _ _ us hl => match us, hl with | [_], _ => rfl)) (fun z => (Bool.false_ne_true z).elim) kb_nil
theorem alldf (c : He.SaysD hfa hfn K) (g : ∀ x ∈ fes.map (·.name), mg x = some (.ref (He.ga K x))) (T : ∀ p ∈ htf, TabB base mg (He.cT K p).1 (He.cT K p).2) : AllDf K mg base (htf.map fun p => ((He.cT K p).2, qn p)) fes fs fes :=
  (.cons (df0 c g) (.cons (df1 c g) (.cons (df2 c g) (.cons (df3 c g) (.cons (df4 c g) (.cons (df5 c g) (.cons (df6 c g (T _ (by decide)) (by simp [htf, qn]) (by simp [htf, qn])) (.cons (df7 c g) (.cons (df8 c g) (.cons (df9 c g) (.cons (df10 c g) (.cons (df11 c g) (.cons (df12 c g) (.cons (df13 c g) (.cons (df14 c g) (.cons (df15 c g) (.cons (df16 c g) (.cons (df17 c g) (.cons (df18 c g) (.cons (df19 c g) (.cons (df20 c g) (.cons (df21 c g) (.cons (df22 c g) (.cons (df23 c g) (.cons (df24 c g) (.cons (df25 c g) (.cons (df26 c g) (.cons (df27 c g) (.cons (df28 c g) (.cons (df29 c g) (.cons (df30 c g) (.cons (df31 c g) (.cons (df32 c g) (.cons (df33 c g) (.cons (df34 c g) (.cons (df35 c g) (.cons (df36 c g) (.cons (df37 c g) (.cons (df38 c g) (.cons (df39 c g) (.cons (df40 c g) (.cons (df41 c g) (.cons (df42 c g) (.cons (df43 c g) (.cons (df44 c g) .nil)))))))))))))))))))))))))))))))))))))))))))))
end
theorem glo_mem : ∀ x ∈ fes.map (·.name), He.Fa.glo x ∈ hfa := fun x hx => by
  obtain ⟨f, h1, h2⟩ := List.mem_map.mp hx
  exact List.mem_append_left _ (List.mem_map.mpr ⟨f, h1, by rw [← h2]⟩)
theorem free_mem : ∀ x ∈ bltNames, He.Fa.free x ∈ hfa := fun x hx => List.mem_append_right _ (List.mem_map.mpr ⟨x, hx, rfl⟩)
theorem law_end (hlaw : ∀ ns : List Int, ns.length ≤ 63 → ∀ d, (d = .scr (ns.map D.int) ∨ d = .lst (ns.map D.int)) → ∃ S', den fs 12 44 [d] [] = .ok (.bl true) S') : PySem.Challenge.rw_portsched_k77_whole_latest_departures_an.Holds := by
  w_on; o_law
  refine HandSHeadRun.head_imp (r := PySem.W.OpenLaw.row PySem.Challenge.rw_portsched_k77_whole_latest_departures_an) (q := PySem.W.view (PySem.W.OpenLaw.row PySem.Challenge.rw_portsched_k77_whole_latest_departures_an).prog [0, 55]) (H := hk) (ob := ob) (M := 4000) (loose := hlo) (d := HandSHeadRun.topDef (PySem.W.OpenLaw.row PySem.Challenge.rw_portsched_k77_whole_latest_departures_an).prog 55) (kwd := []) ob_eq hrun (by kernel_rfl) (by kernel_rfl) (by kernel_rfl) (by rfl) (by first | assumption | decide +kernel) (by decide +kernel) ⟨rfl, rfl, rfl, rfl, rfl, by decide +kernel⟩ ?hw ?hc
  case hw => w_witness2
  case hc =>
    refine walk_X (n := 63) (k := 12 + 4) (x := "script") rfl (by decide) (by kernel_rfl) ⟨rfl, by decide, by decide⟩ fun w mg fal h Y G hmg0 => ?_
    obtain ⟨K, KX, c⟩ := Y
    have hmg : mg ("law" : PySem.Str) = some (.ref fal) := by
      have e : (HandSHeadRun.topDef (PySem.W.OpenLaw.row PySem.Challenge.rw_portsched_k77_whole_latest_departures_an).prog 55).name = ("law" : PySem.Str) := by kernel_rfl
      rw [← e]
      exact hmg0
    have g : ∀ x ∈ fes.map (·.name), mg x = some (.ref (He.ga K x)) := fun x hx => He.glo_ok KX G (He.SaysD.facts c.t.d (f := .glo x) (glo_mem x hx))
    have hb : ∀ x ∈ bltNames, mg x = none := fun x hx => He.free_ok KX G (He.SaysD.facts c.t.d (f := .free x) (free_mem x hx))
    have hl : mg "lcm" = some (.builtin "math.lcm") := PySem.W.mg_of KX G (of_decide_eq_true c.more)
    obtain ⟨fd, F⟩ := c.t.d.def_ 44 (d := ⟨("law", none), "law", "law", defArgs (top 55), defBody (top 55), defScope (top 55), [], []⟩) rfl
    have ef : He.fAd K ("law", none) = fal := by
      have e := (g "law" (by decide)).symm.trans hmg
      cases e
      rfl
    replace F : FunD K "law" "law" (defArgs (top 55)) (defBody (top 55)) (defScope (top 55)) [] [] fal fd := by rw [← ef]; exact F
    refine ⟨K, KX, law_at (kk := 12) (il := 44) (qn := qn) (fes := fes) (fs := fs) KX c (fun s u => F.bindsA (ps := ["script"]) (fun _ _ _ _ _ _ us hl => match us, hl with | [_], _ => rfl) s [u] rfl) (fun base T => ?_) hlaw⟩
    have A := alldf (base := base) c.t.d g T
    exact step_fn (fn := ⟨1, 13, ir_law⟩) (N := nm44) (lam := false) hb hl (all_fn hb hl A.get 11) rfl F (C8.fnScope_by sc44) rfl (by decide) chk44 fun z => (Bool.false_ne_true z).elim
end L2.PV


/-! E0: running the evaluator by rules. -/
namespace L2.PV
open PySem PySem.Spec PyProof.Rows LamX

def ISs.hd : ISs → IS
  | .cons s _ => s
  | .nil => .pass
def ISs.tl : Nat → ISs → ISs
  | 0, ss => ss
  | n + 1, .cons _ ss => ss.tl n
  | _ + 1, .nil => .nil
def ISs.at (ss : ISs) (n : Nat) : IS := (ss.tl n).hd
def IS.thn : IS → ISs
  | .ite _ a _ => a
  | _ => .nil
def IS.els : IS → ISs
  | .ite _ _ b => b
  | _ => .nil
def IS.bd : IS → ISs
  | .for _ _ b => b
  | .while _ b => b
  | _ => .nil
theorem den_at {fs : List Fn} {k f : Nat} {ds : List D} {S : Sto} {fn : Fn} (h : fs[f]? = some fn) : den fs (k + 1) f ds S = runF (den fs k) fn ds S := by
  show (match fs[f]? with
    | some fn => runF (den fs k) fn ds S
    | none => .bad) = _
  rw [h]
section
variable {Δ : Den} {e e1 e2 : En} {S S1 S2 S3 : Sto} {rest ss : ISs} {a b c o i t : IE} {d x y z : D} {r : R (Fl × En)} {k : Bool}
theorem run_ret {fn : Fn} {ds : List D} (hl : ds.length = fn.ar) (h : exSs Δ fn.body (ds.map some ++ List.replicate (fn.sl - fn.ar) none) S = .ok (.ret d, e) S1) : runF Δ fn ds S = .ok d S1 := by
  unfold runF
  rw [if_pos hl, h]
theorem run_nx {fn : Fn} {ds : List D} (hl : ds.length = fn.ar) (h : exSs Δ fn.body (ds.map some ++ List.replicate (fn.sl - fn.ar) none) S = .ok (.nx, e) S1) : runF Δ fn ds S = .ok .non S1 := by
  unfold runF
  rw [if_pos hl, h]
theorem xs_nil : exSs Δ .nil e S = .ok (.nx, e) S := rfl
theorem xs_cons {s : IS} (h : exS Δ s e S = .ok (.nx, e1) S1) : exSs Δ (.cons s rest) e S = exSs Δ rest e1 S1 := by
  show (exS Δ s e S).bind _ = _
  rw [h]; rfl
theorem xs_stop {s : IS} (h : exS Δ s e S = .ok (.ret d, e1) S1) : exSs Δ (.cons s rest) e S = .ok (.ret d, e1) S1 := by
  show (exS Δ s e S).bind _ = _
  rw [h]; rfl
theorem xs_brk {s : IS} (h : exS Δ s e S = .ok (.brk, e1) S1) : exSs Δ (.cons s rest) e S = .ok (.brk, e1) S1 := by
  show (exS Δ s e S).bind _ = _
  rw [h]; rfl
theorem xs_cnt {s : IS} (h : exS Δ s e S = .ok (.cnt, e1) S1) : exSs Δ (.cons s rest) e S = .ok (.cnt, e1) S1 := by
  show (exS Δ s e S).bind _ = _
  rw [h]; rfl
theorem x_set {n : Nat} (h : evE Δ a e S = .ok x S1) : exS Δ (.set n a) e S = .ok (.nx, e.set n (some x)) S1 := by
  show (evE Δ a e S).bind _ = _
  rw [h]; rfl
theorem x_ret (h : evE Δ a e S = .ok x S1) : exS Δ (.ret a) e S = .ok (.ret x, e) S1 := by
  show (evE Δ a e S).bind _ = _
  rw [h]; rfl
theorem x_ex (h : evE Δ a e S = .ok x S1) : exS Δ (.ex a) e S = .ok (.nx, e) S1 := by
  show (evE Δ a e S).bind _ = _
  rw [h]; rfl
theorem x_T {A B : ISs} (h : evT Δ t e S = .ok true S1) : exS Δ (.ite t A B) e S = exSs Δ A e S1 := by
  show (evT Δ t e S).bind _ = _
  rw [h]; rfl
theorem x_F {A B : ISs} (h : evT Δ t e S = .ok false S1) : exS Δ (.ite t A B) e S = exSs Δ B e S1 := by
  show (evT Δ t e S).bind _ = _
  rw [h]; rfl
theorem x_setT {is : List Nat} (h : evE Δ a e S = .ok x S1) (h2 : asgT (.tp is) x e = some e1) : exS Δ (.setT is a) e S = .ok (.nx, e1) S1 := by
  show (evE Δ a e S).bind _ = _
  rw [h]
  show (match asgT (.tp is) x e with
    | some e1 => PV.R.ok (Fl.nx, e1) S1
    | none => .bad) = _
  rw [h2]
theorem x_par {m n : Nat} (h : evE Δ a e S = .ok x S1) (h2 : evE Δ b e S1 = .ok y S2) : exS Δ (.par m n a b) e S = .ok (.nx, (e.set m (some x)).set n (some y)) S2 := by
  show (evE Δ a e S).bind _ = _
  rw [h]
  show (evE Δ b e S1).bind _ = _
  rw [h2]; rfl
theorem x_setL {n j : Nat} {q : Int} {xs : List D} (h : evE Δ a e S = .ok x S1) (h2 : evE Δ o e S1 = .ok (.loc n) S2) (h3 : evE Δ i e S2 = .ok (.int q) S3) (h4 : S3[n]? = some (.lst xs)) (h5 : ixN xs.length q = some j) :
    exS Δ (.setI o i a) e S = .ok (.nx, e) (S3.set n (.lst (xs.set j x))) := by
  show (evE Δ a e S).bind _ = _
  rw [h]
  show (evE Δ o e S1).bind _ = _
  rw [h2]
  show (evE Δ i e S2).bind _ = _
  rw [h3]
  show (match S3[n]? with
      | some (.lst xs) => (match ixN xs.length q with
          | some j => PV.R.ok (Fl.nx, e) (S3.set n (.lst (xs.set j x)))
          | none => .bad)
      | some (.dic kvs) => (match (D.int q).key with
        | some k => if kvs.length < 16777216 then .ok (.nx, e) (S3.set n (.dic (dPut kvs k x))) else .bad
        | none => .bad)
      | _ => .bad) = _
  rw [h4]
  show (match ixN xs.length q with
          | some j => PV.R.ok (Fl.nx, e) (S3.set n (.lst (xs.set j x)))
          | none => .bad) = _
  rw [h5]
theorem x_setD {n : Nat} {kvs : List (Key × D)} {kk : Key} (h : evE Δ a e S = .ok x S1) (h2 : evE Δ o e S1 = .ok (.loc n) S2) (h3 : evE Δ i e S2 = .ok z S3) (h4 : S3[n]? = some (.dic kvs)) (h5 : z.key = some kk) (h6 : kvs.length < 16777216) :
    exS Δ (.setI o i a) e S = .ok (.nx, e) (S3.set n (.dic (dPut kvs kk x))) := by
  show (evE Δ a e S).bind _ = _
  rw [h]
  show (evE Δ o e S1).bind _ = _
  rw [h2]
  show (evE Δ i e S2).bind _ = _
  rw [h3]
  show (match S3[n]? with
      | some (.lst xs) => (match z with
        | .int k => (match ixN xs.length k with
          | some j => PV.R.ok (Fl.nx, e) (S3.set n (.lst (xs.set j x)))
          | none => .bad)
        | _ => .bad)
      | some (.dic kvs) => (match z.key with
        | some k => if kvs.length < 16777216 then .ok (.nx, e) (S3.set n (.dic (dPut kvs k x))) else .bad
        | none => .bad)
      | _ => .bad) = _
  rw [h4]
  show (match z.key with
        | some k => if kvs.length < 16777216 then PV.R.ok (Fl.nx, e) (S3.set n (.dic (dPut kvs k x))) else .bad
        | none => .bad) = _
  rw [h5]
  exact if_pos h6
theorem x_for {tg : Tg} {it : II} {body : ISs} {xs : List D} {f : D → En → Sto → R (Fl × En)} (h : evI Δ it e S = .ok xs S1) (hf : f = fun x e1 S2 => (match asgT tg x e1 with
      | some e2 => exSs Δ body e2 S2
      | none => .bad)) : exS Δ (.for tg it body) e S = forL f xs e S1 := by
  subst hf
  show (evI Δ it e S).bind _ = _
  rw [h]; rfl
/-- an answer is given -/
def Ret (r : R (Fl × En)) (d : D) (S' : Sto) : Prop := ∃ e', r = .ok (.ret d, e') S'
theorem ret_cons {s : IS} (h : exS Δ s e S = .ok (.nx, e1) S1) (h2 : Ret (exSs Δ rest e1 S1) d S2) : Ret (exSs Δ (.cons s rest) e S) d S2 := by
  rw [xs_cons h]; exact h2
theorem ret_ret (h : evE Δ a e S = .ok d S1) : Ret (exSs Δ (.cons (.ret a) rest) e S) d S1 := ⟨e, xs_stop (x_ret h)⟩
theorem ret_T {A B : ISs} (h : evT Δ t e S = .ok true S1) (h2 : Ret (exSs Δ A e S1) d S2) : Ret (exSs Δ (.cons (.ite t A B) rest) e S) d S2 := by
  obtain ⟨e', h2⟩ := h2
  exact ⟨e', xs_stop ((x_T h).trans h2)⟩
theorem ret_F {A B : ISs} (h : evT Δ t e S = .ok false S1) (h2 : Ret (exSs Δ B e S1) d S2) : Ret (exSs Δ (.cons (.ite t A B) rest) e S) d S2 := by
  obtain ⟨e', h2⟩ := h2
  exact ⟨e', xs_stop ((x_F h).trans h2)⟩
/-- the test fails, nothing else -/
theorem ret_F0 {A : ISs} (h : evT Δ t e S = .ok false S1) (h2 : Ret (exSs Δ rest e S1) d S2) : Ret (exSs Δ (.cons (.ite t A .nil) rest) e S) d S2 := ret_cons (x_F h) h2
theorem Ret.run {fn : Fn} {ds : List D} (hl : ds.length = fn.ar) (h : Ret (exSs Δ fn.body (ds.map some ++ List.replicate (fn.sl - fn.ar) none) S) d S1) : runF Δ fn ds S = .ok d S1 := by
  obtain ⟨e', h⟩ := h
  exact run_ret hl h
/-- a loop with a word of the turn, that may leave with an answer -/
theorem forL_ret {f : D → En → Sto → R (Fl × En)} {Q : D → Sto → Prop} : ∀ (xs : List D) (P : Nat → En → Sto → Prop) (n : Nat) {e : En} {S : Sto}, P n e S →
    (∀ (i : Nat) (x : D) (e : En) (S : Sto), xs[i]? = some x → P (n + i) e S → (∃ e' S', (f x e S = .ok (.nx, e') S' ∨ f x e S = .ok (.cnt, e') S') ∧ P (n + i + 1) e' S') ∨ ∃ d e' S', f x e S = .ok (.ret d, e') S' ∧ Q d S') →
    (∃ e' S', forL f xs e S = .ok (.nx, e') S' ∧ P (n + xs.length) e' S') ∨ ∃ d e' S', forL f xs e S = .ok (.ret d, e') S' ∧ Q d S'
  | [], P, n, e, S, h0, _ => .inl ⟨e, S, rfl, h0⟩
  | x :: xs, P, n, e, S, h0, st => by
    rcases st 0 x e S rfl h0 with ⟨e', S', h1, h2⟩ | ⟨d, e', S', h1, h2⟩
    · have hf : forL f (x :: xs) e S = forL f xs e' S' := by
        show (match f x e S with
          | .ok (.nx, e1) S1 => forL f xs e1 S1
          | .ok (.cnt, e1) S1 => forL f xs e1 S1
          | .ok (.brk, e1) S1 => .ok (.nx, e1) S1
          | r => r) = _
        rcases h1 with h1 | h1 <;> rw [h1]
      rw [hf]
      have ih := forL_ret (f := f) (Q := Q) xs P (n + 1) (e := e') (S := S') h2 fun i y e S hy hp => by
        have := st (i + 1) y e S (by simpa using hy) (by rw [show n + (i + 1) = n + 1 + i by omega]; exact hp)
        rw [show n + (i + 1) = n + 1 + i by omega] at this
        exact this
      rw [show n + (x :: xs).length = n + 1 + xs.length by rw [List.length_cons]; omega]
      exact ih
    · refine .inr ⟨d, e', S', ?_, h2⟩
      show (match f x e S with
          | .ok (.nx, e1) S1 => forL f xs e1 S1
          | .ok (.cnt, e1) S1 => forL f xs e1 S1
          | .ok (.brk, e1) S1 => .ok (.nx, e1) S1
          | r => r) = _
      rw [h1]
theorem forL_inv {f : D → En → Sto → R (Fl × En)} {xs : List D} (P : Nat → En → Sto → Prop) (h0 : P 0 e S) (st : ∀ (i : Nat) (x : D) (e : En) (S : Sto), xs[i]? = some x → P i e S → ∃ e' S', (f x e S = .ok (.nx, e') S' ∨ f x e S = .ok (.cnt, e') S') ∧ P (i + 1) e' S') :
    ∃ e' S', forL f xs e S = .ok (.nx, e') S' ∧ P xs.length e' S' := by
  rcases forL_ret (f := f) (Q := fun _ _ => False) xs P 0 h0 fun i x e S hx hp => .inl (by
    have := st i x e S hx (by rw [Nat.zero_add] at hp; exact hp)
    rw [Nat.zero_add]; exact this) with h | ⟨_, _, _, _, h⟩
  · rw [Nat.zero_add] at h; exact h
  · exact h.elim
theorem lcL_map {f : D → Sto → R (Option D)} {g : D → D} : ∀ {xs : List D}, (∀ x ∈ xs, f x S = .ok (some (g x)) S) → lcL f xs S = .ok (xs.map g) S
  | [], _ => rfl
  | x :: xs, h => by
    show (match f x S with
    | .ok none S1 => lcL f xs S1
    | .ok (some y) S1 => (match lcL f xs S1 with
      | .ok ys S2 => .ok (y :: ys) S2
      | _ => .bad)
    | _ => .bad) = _
    rw [h x List.mem_cons_self]
    show (match lcL f xs S with
      | .ok ys S2 => PV.R.ok (g x :: ys) S2
      | _ => .bad) = _
    rw [lcL_map fun y hy => h y (List.mem_cons_of_mem _ hy)]
    rfl
theorem lcL_filter {f : D → Sto → R (Option D)} {g : D → D} {p : D → Bool} : ∀ {xs : List D}, (∀ x ∈ xs, f x S = .ok (if p x then some (g x) else none) S) → lcL f xs S = .ok ((xs.filter p).map g) S
  | [], _ => rfl
  | x :: xs, h => by
    show (match f x S with
    | .ok none S1 => lcL f xs S1
    | .ok (some y) S1 => (match lcL f xs S1 with
      | .ok ys S2 => .ok (y :: ys) S2
      | _ => .bad)
    | _ => .bad) = _
    rw [h x List.mem_cons_self]
    have ih := lcL_filter (xs := xs) fun y hy => h y (List.mem_cons_of_mem _ hy)
    cases hp : p x with
    | true =>
      rw [List.filter_cons_of_pos hp]
      show (match lcL f xs S with
        | .ok ys S2 => PV.R.ok (g x :: ys) S2
        | _ => .bad) = _
      rw [ih]
      rfl
    | false =>
      rw [List.filter_cons_of_neg (by rw [hp]; decide)]
      exact ih
end
end L2.PV


/-! E1: the tape. -/
namespace L2.PV
open PySem PySem.Spec PyProof.Rows LamX

def TapeC (c : Cell) : Prop := ∃ (xs : List Int) (p : Nat) (l m : Int), c = .lst [.lst (xs.map D.int), .int p, .int l, .int m] ∧ 0 ≤ l ∧ 0 ≤ m ∧ m < 2147483647
/-- the tape at n turns, other cells stay, new ones may come -/
structure Tp (n : Nat) (S S' : Sto) : Prop where
  tape : ∃ c, S'[n]? = some c ∧ TapeC c
  len : S.length ≤ S'.length
  same : ∀ m, m < S.length → m ≠ n → S'[m]? = S[m]?
theorem Tp.trans {n : Nat} {S S1 S2 : Sto} (a : Tp n S S1) (b : Tp n S1 S2) : Tp n S S2 :=
  ⟨b.tape, Nat.le_trans a.len b.len, fun m h1 h2 => (b.same m (Nat.lt_of_lt_of_le h1 a.len) h2).trans (a.same m h1 h2)⟩
def TapeAt (n : Nat) (S : Sto) : Prop := ∃ c, S[n]? = some c ∧ TapeC c
theorem Tp.refl {n : Nat} {S : Sto} (h : TapeAt n S) : Tp n S S := ⟨h, Nat.le_refl _, fun _ _ _ => rfl⟩
theorem Tp.at {n : Nat} {S S' : Sto} (h : Tp n S S') : TapeAt n S' := h.tape
theorem Tp.set {n : Nat} {S : Sto} {c : Cell} (h : TapeAt n S) (hc : TapeC c) : Tp n S (S.set n c) := by
  obtain ⟨c0, h0, _⟩ := h
  have hl := (List.getElem?_eq_some_iff.mp h0).1
  exact ⟨⟨c, List.getElem?_set_self hl, hc⟩, by simp, fun m _ hm => List.getElem?_set_ne (Ne.symm hm)⟩
section
variable {Δ : Den} {n : Nat} {S : Sto} {many : Int}
theorem max2_int {a b : Int} : (if b > a then b else a) = max a b := by
  by_cases h : b > a
  · rw [if_pos h]; omega
  · rw [if_neg h]; omega
theorem ixN_0 {m : Nat} (h : 0 < m) : ixN m 0 = some 0 := by simp [ixN, h]
theorem fdiv_ok {i j : Int} (h1 : 0 < j) (h2 : j < 1073741824) : binF .FloorDiv (.int i) (.int j) = some (.int (i / j)) := by
  show (if 0 < j ∧ j < 1073741824 then some (D.int (i / j)) else none) = _
  rw [if_pos ⟨h1, h2⟩]
theorem mod_ok {i j : Int} (h1 : 0 < j) : binF .Mod (.int i) (.int j) = some (.int (i % j)) := by
  show (if 0 < j then some (D.int (i % j)) else none) = _
  rw [if_pos h1]
theorem mul_ok {i j : Int} (h1 : -(2 ^ 64) < j) (h2 : j < 2 ^ 64) : mulF (.int i) (.int j) = some (.int (i * j)) := by
  show (if MulOk i j then some (D.int (i * j)) else none) = _
  rw [if_pos (.inl ⟨h1, h2⟩)]
theorem get_set {c : Cell} (h : ∃ c0, S[n]? = some c0) : (S.set n c)[n]? = some c := by
  obtain ⟨c0, h0⟩ := h
  exact List.getElem?_set_self (List.getElem?_eq_some_iff.mp h0).1
/-- the end of a draw -/
theorem draw_tail {xs : List Int} {p : Nat} {l m : Int} {v2 v3 : Option D} (h1 : 1 ≤ many) (h2 : many < 1073741824) (hc : S[n]? = some (.lst [.lst (xs.map D.int), .int p, .int l, .int m])) (hl : 0 ≤ l) (hm : 0 ≤ m) (hm2 : m < 2147483647) :
    ∃ (r : Int) (S' : Sto), Ret (exSs Δ (.cons (.set 2 (.idx (.var 0) (.cst (.int 2))))
  (.cons (.setI (.var 0) (.cst (.int 2)) (.bin .FloorDiv (.var 2) (.blt .max2 false (.cons (.var 1) (.cons (.cst (.int 2)) .nil)))))
  (.cons (.ret (.bin .Mod (.blt .int false (.cons (.var 2) .nil)) (.blt .max2 false (.cons (.var 1) (.cons (.cst (.int 1)) .nil)))))
  .nil))) [some (.loc n), some (.int many), v2, v3] S) (.int r) S' ∧ 0 ≤ r ∧ r < many ∧ Tp n S S' := by
  have hT : TapeAt n S := ⟨_, hc, xs, p, l, m, rfl, hl, hm, hm2⟩
  have e2 : max many 2 = (if 2 > many then 2 else many) := max2_int.symm
  have e1 : max many 1 = many := by omega
  refine ⟨l % many, S.set n (.lst [.lst (xs.map D.int), .int p, .int (l / max many 2), .int m]), ?_, Int.emod_nonneg _ (by omega), Int.emod_lt_of_pos _ (by omega), Tp.set hT ⟨xs, p, l / max many 2, m, rfl, Int.ediv_nonneg hl (by omega), hm, hm2⟩⟩
  refine ret_cons (x_set (x := .int l) (S1 := S) ?_) ?_
  · simp [evE, evEs, evO, evT, evTA, evTO, evAnd, evOr, evI, evIf, R.bind, R.of, binF, addF, int2, cmpF, eqF, D.isNon, bltF, rd, idxF, slcF, truF, isiF, newL, asgT, asgs, containsF, D.key, metP, isLst, isDic, isStr, metF, seqF, hc, atI, ixN]
  refine ret_cons (x_setL (x := .int (l / max many 2)) (S1 := S) (S2 := S) (S3 := S) (n := n) (q := 2) (j := 2) (xs := [.lst (xs.map D.int), .int p, .int l, .int m]) ?_ ?_ ?_ hc ?_) ?_
  · have hd := fdiv_ok (i := l) (j := if 2 > many then 2 else many) (by omega) (by omega)
    rw [e2]
    simp [evE, evEs, evO, evT, evTA, evTO, evAnd, evOr, evI, evIf, R.bind, R.of, binF, addF, int2, cmpF, eqF, D.isNon, bltF, rd, idxF, slcF, truF, isiF, newL, asgT, asgs, containsF, D.key, metP, isLst, isDic, isStr, metF, seqF]
    rw [if_pos (by split <;> omega)]
  · rfl
  · rfl
  · rfl
  refine ret_ret ?_
  simp [evE, evEs, evO, evT, evTA, evTO, evAnd, evOr, evI, evIf, R.bind, R.of, binF, addF, int2, cmpF, eqF, D.isNon, bltF, rd, idxF, slcF, truF, isiF, newL, asgT, asgs, containsF, D.key, metP, isLst, isDic, isStr, metF, seqF, show ¬ many < 1 by omega, show 0 < many by omega]
/-- the block of a fresh number: it answers, or leaves a number in the tape -/
theorem draw_mid {xs : List Int} {p : Nat} {v m : Int} (h1 : 1 ≤ many) (hc : S[n]? = some (.lst [.lst (xs.map D.int), .int p, .int 0, .int m])) (hv : 0 ≤ v) (hm : 0 ≤ m) (hm2 : m < 2147483647) :
    (∃ (r : Int) (S' : Sto), Ret (exSs Δ ((ir_law_draw.at 0).thn.tl 3) [some (.loc n), some (.int many), some (.int v), some (.int p)] S) (.int r) S' ∧ 0 ≤ r ∧ r < many ∧ Tp n S S') ∨
    (∃ (S' : Sto), exSs Δ ((ir_law_draw.at 0).thn.tl 3) [some (.loc n), some (.int many), some (.int v), some (.int p)] S = .ok (.nx, [some (.loc n), some (.int many), some (.int v), some (.int p)]) S' ∧ S'[n]? = some (.lst [.lst (xs.map D.int), .int ((p + 1 : Nat) : Int), .int v, .int m]) ∧ Tp n S S') := by
  have hT : TapeAt n S := ⟨_, hc, xs, p, 0, m, rfl, Int.le_refl _, hm, hm2⟩
  have st : exS Δ ((ir_law_draw.at 0).thn.at 3) [some (.loc n), some (.int many), some (.int v), some (.int p)] S = .ok (.nx, [some (.loc n), some (.int many), some (.int v), some (.int p)]) (S.set n (.lst [.lst (xs.map D.int), .int ((p + 1 : Nat) : Int), .int 0, .int m])) := by
    refine x_setL (x := .int ((p + 1 : Nat) : Int)) (S1 := S) (S2 := S) (S3 := S) (n := n) (q := 1) (j := 1) (xs := [.lst (xs.map D.int), .int p, .int 0, .int m]) ?_ rfl rfl hc rfl
    simp [evE, evEs, evO, evT, evTA, evTO, evAnd, evOr, evI, evIf, R.bind, R.of, binF, addF, int2, cmpF, eqF, D.isNon, bltF, rd, idxF, slcF, truF, isiF, newL, asgT, asgs, containsF, D.key, metP, isLst, isDic, isStr, metF, seqF]
  have hg : (S.set n (.lst [.lst (xs.map D.int), .int ((p + 1 : Nat) : Int), .int 0, .int m]))[n]? = some (.lst [.lst (xs.map D.int), .int ((p + 1 : Nat) : Int), .int 0, .int m]) := get_set ⟨_, hc⟩
  have tp : Tp n S (S.set n (.lst [.lst (xs.map D.int), .int ((p + 1 : Nat) : Int), .int 0, .int m])) := Tp.set hT ⟨xs, p + 1, 0, m, rfl, Int.le_refl _, hm, hm2⟩
  generalize S.set n (.lst [.lst (xs.map D.int), .int ((p + 1 : Nat) : Int), .int 0, .int m]) = S1 at st hg tp
  have e0 : evT Δ (.cmp .Lt (.var 2) (.bin .Pow (.cst (.int 10)) (.cst (.int 18)))) [some (.loc n), some (.int many), some (.int v), some (.int p)] S1 = .ok (decide (v < 10 ^ 18)) S1 := by simp [evE, evEs, evO, evT, evTA, evTO, evAnd, evOr, evI, evIf, R.bind, R.of, binF, addF, int2, cmpF, eqF, D.isNon, bltF, rd, idxF, slcF, truF, isiF, newL, asgT, asgs, containsF, D.key, metP, isLst, isDic, isStr, metF, seqF]
  by_cases hb : v < 10 ^ 18
  · refine .inl ⟨(((v * 48271 + p * 69621 + 5) % 2147483647) * 69621) % 2147483629 % many, S1, ret_cons st (ret_T (by rw [e0, decide_eq_true hb]) ?_), Int.emod_nonneg _ (by omega), Int.emod_lt_of_pos _ (by omega), tp⟩
    refine ret_cons (x_set (x := .int ((v * 48271 + p * 69621 + 5) % 2147483647)) (S1 := S1) ?_) ?_
    · simp [evE, evEs, evO, evT, evTA, evTO, evAnd, evOr, evI, evIf, R.bind, R.of, binF, addF, int2, cmpF, eqF, D.isNon, bltF, rd, idxF, slcF, truF, isiF, newL, asgT, asgs, containsF, D.key, metP, isLst, isDic, isStr, metF, seqF, mul_ok (i := v) (j := 48271) (by decide) (by decide), mul_ok (i := p) (j := 69621) (by decide) (by decide)]
    refine ret_cons (x_set (x := .int ((((v * 48271 + p * 69621 + 5) % 2147483647) * 69621) % 2147483629)) (S1 := S1) ?_) ?_
    · simp [evE, evEs, evO, evT, evTA, evTO, evAnd, evOr, evI, evIf, R.bind, R.of, binF, addF, int2, cmpF, eqF, D.isNon, bltF, rd, idxF, slcF, truF, isiF, newL, asgT, asgs, containsF, D.key, metP, isLst, isDic, isStr, metF, seqF, mul_ok (i := (v * 48271 + p * 69621 + 5) % 2147483647) (j := 69621) (by decide) (by decide)]
    refine ret_ret ?_
    simp [evE, evEs, evO, evT, evTA, evTO, evAnd, evOr, evI, evIf, R.bind, R.of, binF, addF, int2, cmpF, eqF, D.isNon, bltF, rd, idxF, slcF, truF, isiF, newL, asgT, asgs, containsF, D.key, metP, isLst, isDic, isStr, metF, seqF, show ¬ many < 1 by omega, show 0 < many by omega]
  · have s6 : exS Δ ((ir_law_draw.at 0).thn.at 5) [some (.loc n), some (.int many), some (.int v), some (.int p)] S1 = .ok (.nx, [some (.loc n), some (.int many), some (.int v), some (.int p)]) (S1.set n (.lst [.lst (xs.map D.int), .int ((p + 1 : Nat) : Int), .int v, .int m])) :=
      by refine x_setL (x := .int v) (S1 := S1) (S2 := S1) (S3 := S1) (n := n) (q := 2) (j := 2) (xs := [.lst (xs.map D.int), .int ((p + 1 : Nat) : Int), .int 0, .int m]) rfl rfl rfl hg rfl
    have s5 : exS Δ ((ir_law_draw.at 0).thn.at 4) [some (.loc n), some (.int many), some (.int v), some (.int p)] S1 = .ok (.nx, [some (.loc n), some (.int many), some (.int v), some (.int p)]) S1 :=
      (x_F (by rw [e0, decide_eq_false hb])).trans rfl
    exact .inr ⟨_, (xs_cons st).trans ((xs_cons s5).trans ((xs_cons s6).trans rfl)), get_set ⟨_, hg⟩, tp.trans (Tp.set tp.at ⟨xs, p + 1, v, m, rfl, hv, hm, hm2⟩)⟩
theorem d_draw {fs : List Fn} {k f : Nat} (hf : fs[f]? = some ⟨2, 4, ir_law_draw⟩) (h1 : 1 ≤ many) (h2 : many < 1073741824) (hT : TapeAt n S) : ∃ (r : Int) (S' : Sto), den fs (k + 1) f [.loc n, .int many] S = .ok (.int r) S' ∧ 0 ≤ r ∧ r < many ∧ Tp n S S' := by
  obtain ⟨c, hc, xs, p, l, m, rfl, hl, hm, hm2⟩ := id hT
  rw [den_at hf]
  suffices h : ∃ (r : Int) (S' : Sto), Ret (exSs (den fs k) ir_law_draw [some (.loc n), some (.int many), none, none] S) (.int r) S' ∧ 0 ≤ r ∧ r < many ∧ Tp n S S' by
    obtain ⟨r, S', h, q⟩ := h
    exact ⟨r, S', Ret.run rfl h, q⟩
  have e0 : evT (den fs k) (.cmp .Eq (.idx (.var 0) (.cst (.int 2))) (.cst (.int 0))) [some (.loc n), some (.int many), none, none] S = .ok (decide (l = 0)) S := by simp [evE, evEs, evO, evT, evTA, evTO, evAnd, evOr, evI, evIf, R.bind, R.of, binF, addF, int2, cmpF, eqF, D.isNon, bltF, rd, idxF, slcF, truF, isiF, newL, asgT, asgs, containsF, D.key, metP, isLst, isDic, isStr, metF, seqF, hc, atI, ixN]
  by_cases hl0 : ¬ l = 0
  · obtain ⟨r, S', h, q⟩ := draw_tail (Δ := den fs k) (v2 := none) (v3 := none) h1 h2 hc hl hm hm2
    exact ⟨r, S', ret_cons (x_F (by rw [e0, decide_eq_false hl0])) h, q⟩
  have hl1 : l = 0 := Decidable.not_not.mp hl0
  subst hl1
  -- a fresh number
  have fresh : ∃ (v m' : Int) (S1 : Sto), exSs (den fs k) (ir_law_draw.at 0).thn [some (.loc n), some (.int many), none, none] S = exSs (den fs k) ((ir_law_draw.at 0).thn.tl 3) [some (.loc n), some (.int many), some (.int v), some (.int p)] S1 ∧
      S1[n]? = some (.lst [.lst (xs.map D.int), .int p, .int 0, .int m']) ∧ 0 ≤ v ∧ 0 ≤ m' ∧ m' < 2147483647 ∧ Tp n S S1 := by
    have s1 : exS (den fs k) ((ir_law_draw.at 0).thn.at 0) [some (.loc n), some (.int many), none, none] S = .ok (.nx, [some (.loc n), some (.int many), none, some (.int p)]) S := x_set (x := .int p) (by simp [evE, evEs, evO, evT, evTA, evTO, evAnd, evOr, evI, evIf, R.bind, R.of, binF, addF, int2, cmpF, eqF, D.isNon, bltF, rd, idxF, slcF, truF, isiF, newL, asgT, asgs, containsF, D.key, metP, isLst, isDic, isStr, metF, seqF, hc, atI, ixN])
    have s2 : exS (den fs k) ((ir_law_draw.at 0).thn.at 1) [some (.loc n), some (.int many), none, some (.int p)] S = .ok (.nx, [some (.loc n), some (.int many), some (.int 0), some (.int p)]) S := x_set (x := .int 0) rfl
    have e1 : evT (den fs k) (.cmp .Lt (.var 3) (.blt .len false (.cons (.idx (.var 0) (.cst (.int 0))) .nil))) [some (.loc n), some (.int many), some (.int 0), some (.int p)] S = .ok (decide ((p : Int) < xs.length)) S := by simp [evE, evEs, evO, evT, evTA, evTO, evAnd, evOr, evI, evIf, R.bind, R.of, binF, addF, int2, cmpF, eqF, D.isNon, bltF, rd, idxF, slcF, truF, isiF, newL, asgT, asgs, containsF, D.key, metP, isLst, isDic, isStr, metF, seqF, hc, atI, ixN]
    by_cases hp : p < xs.length
    · refine ⟨((xs[p]).natAbs : Int), m, S, (xs_cons s1).trans ((xs_cons s2).trans ((xs_cons ((x_T (by rw [e1, decide_eq_true (by omega)])).trans (xs_cons (x_set (x := .int ((xs[p]).natAbs : Int)) (S1 := S) ?_)))))), hc, by omega, hm, hm2, Tp.refl hT⟩
      simp [evE, evEs, evO, evT, evTA, evTO, evAnd, evOr, evI, evIf, R.bind, R.of, binF, addF, int2, cmpF, eqF, D.isNon, bltF, rd, idxF, slcF, truF, isiF, newL, asgT, asgs, containsF, D.key, metP, isLst, isDic, isStr, metF, seqF, hc, atI, ixN, hp]
      split <;> omega
    · refine ⟨(m * 48271 + p + 1) % 2147483647, (m * 48271 + p + 1) % 2147483647, S.set n (.lst [.lst (xs.map D.int), .int p, .int 0, .int ((m * 48271 + p + 1) % 2147483647)]), (xs_cons s1).trans ((xs_cons s2).trans ((xs_cons ((x_F (by rw [e1, decide_eq_false (by omega)])).trans ((xs_cons (x_setL (x := .int ((m * 48271 + p + 1) % 2147483647)) (S1 := S) (S2 := S) (S3 := S) (n := n) (q := 3) (j := 3) (xs := [.lst (xs.map D.int), .int p, .int 0, .int m]) ?_ rfl rfl hc rfl)).trans (xs_cons (x_set (x := .int ((m * 48271 + p + 1) % 2147483647)) (S1 := S.set n (.lst [.lst (xs.map D.int), .int p, .int 0, .int ((m * 48271 + p + 1) % 2147483647)])) ?_))))))),
        get_set ⟨_, hc⟩, Int.emod_nonneg _ (by decide), Int.emod_nonneg _ (by decide), Int.emod_lt_of_pos _ (by decide), Tp.set hT ⟨xs, p, 0, _, rfl, Int.le_refl _, Int.emod_nonneg _ (by decide), Int.emod_lt_of_pos _ (by decide)⟩⟩
      · simp [evE, evEs, evO, evT, evTA, evTO, evAnd, evOr, evI, evIf, R.bind, R.of, binF, addF, int2, cmpF, eqF, D.isNon, bltF, rd, idxF, slcF, truF, isiF, newL, asgT, asgs, containsF, D.key, metP, isLst, isDic, isStr, metF, seqF, hc, atI, ixN, mul_ok (i := m) (j := 48271) (by decide) (by decide)]
      · have hg : (S.set n (.lst [.lst (xs.map D.int), .int p, .int 0, .int ((m * 48271 + p + 1) % 2147483647)]))[n]? = some (.lst [.lst (xs.map D.int), .int p, .int 0, .int ((m * 48271 + p + 1) % 2147483647)]) := get_set ⟨_, hc⟩
        simp [evE, evEs, evO, evT, evTA, evTO, evAnd, evOr, evI, evIf, R.bind, R.of, binF, addF, int2, cmpF, eqF, D.isNon, bltF, rd, idxF, slcF, truF, isiF, newL, asgT, asgs, containsF, D.key, metP, isLst, isDic, isStr, metF, seqF, hg, atI, ixN]
  obtain ⟨v, m', S1, g1, g2, g3, g4, g5, g6⟩ := fresh
  rcases draw_mid (Δ := den fs k) h1 g2 g3 g4 g5 with ⟨r, S', ⟨e', h⟩, q1, q2, q3⟩ | ⟨S2, h, hc2, q3⟩
  · exact ⟨r, S', ⟨e', xs_stop ((x_T (by rw [e0]; rfl)).trans (g1.trans h))⟩, q1, q2, g6.trans q3⟩
  · obtain ⟨r, S', h', q4, q5, q6⟩ := draw_tail (Δ := den fs k) (v2 := some (.int v)) (v3 := some (.int p)) h1 h2 hc2 g3 g4 g5
    exact ⟨r, S', ret_cons ((x_T (by rw [e0]; rfl)).trans (g1.trans h)) h', q4, q5, (g6.trans q3).trans q6⟩
end
end L2.PV


/-! E2: the tape made, picks, turns, shuffles. -/
namespace L2.PV
open PySem PySem.Spec PyProof.Rows LamX

section
variable {Δ : Den} {e e1 e2 : En} {S S1 S2 S3 : Sto} {a b i o : IE} {as : IEs} {x y z d : D} {ds : List D} {f : Nat}
theorem ev_call {vs : List D} (h : evEs Δ as e S = .ok ds S1) (h2 : Δ f (ds ++ vs) S1 = .ok x S2) : evE Δ (.call f as vs) e S = .ok x S2 := by
  show (evEs Δ as e S).bind _ = _
  rw [h]; exact h2
theorem ev_idx (h : evE Δ a e S = .ok x S1) (h2 : evE Δ i e S1 = .ok y S2) (h3 : idxF S2 x y = some z) : evE Δ (.idx a i) e S = .ok z S2 := by
  show (evE Δ a e S).bind _ = _
  rw [h]
  show (evE Δ i e S1).bind _ = _
  rw [h2]
  show PV.R.of (idxF S2 x y) S2 = _
  rw [h3]; rfl
theorem ev_bin {op : Operator} (h : evE Δ a e S = .ok x S1) (h2 : evE Δ b e S1 = .ok y S2) (h3 : binF op (rd S2 x) (rd S2 y) = some z) : evE Δ (.bin op a b) e S = .ok z S2 := by
  show (evE Δ a e S).bind _ = _
  rw [h]
  show (evE Δ b e S1).bind _ = _
  rw [h2]
  show PV.R.of (binF op (rd S2 x) (rd S2 y)) S2 = _
  rw [h3]; rfl
theorem ev_cmp {op : CmpOp} {k : Bool} (h : evE Δ a e S = .ok x S1) (h2 : evE Δ b e S1 = .ok y S2) (h3 : cmpF S2 op x y = some k) : evE Δ (.cmp op a b) e S = .ok (.bl k) S2 := by
  show (evE Δ a e S).bind _ = _
  rw [h]
  show (evE Δ b e S1).bind _ = _
  rw [h2]
  show PV.R.of ((cmpF S2 op x y).map D.bl) S2 = _
  rw [h3]; rfl
theorem et_cmp {op : CmpOp} {k : Bool} (h : evE Δ a e S = .ok x S1) (h2 : evE Δ b e S1 = .ok y S2) (h3 : cmpF S2 op x y = some k) : evT Δ (.cmp op a b) e S = .ok k S2 := by
  show (evE Δ a e S).bind _ = _
  rw [h]
  show (evE Δ b e S1).bind _ = _
  rw [h2]
  show PV.R.of (cmpF S2 op x y) S2 = _
  rw [h3]; rfl
theorem et_not {t : IE} {k : Bool} (h : evT Δ t e S = .ok k S1) : evT Δ (.not t) e S = .ok (!k) S1 := by
  show (evT Δ t e S).bind _ = _
  rw [h]; rfl
theorem et_call {vs : List D} {k : Bool} (h : evEs Δ as e S = .ok ds S1) (h2 : Δ f (ds ++ vs) S1 = .ok (.bl k) S2) : evT Δ (.call f as vs) e S = .ok k S2 := by
  show ((evEs Δ as e S).bind fun ds S1 => Δ f (ds ++ vs) S1).bind _ = _
  rw [h]
  show (Δ f (ds ++ vs) S1).bind _ = _
  rw [h2]; rfl
theorem ev_blt {bl : Blt} {tr : Bool} (h : evEs Δ as e S = .ok ds S1) (h2 : bltF bl tr ds S1 = .ok x S2) : evE Δ (.blt bl tr as) e S = .ok x S2 := by
  show (evEs Δ as e S).bind _ = _
  rw [h]; exact h2
theorem ev_met {m : Mth} (h : evE Δ o e S = .ok x S1) (hp : metP m x S1 = true) (h2 : evEs Δ as e S1 = .ok ds S2) (h3 : metF m x ds S2 = .ok y S3) : evE Δ (.met m o as) e S = .ok y S3 := by
  show (evE Δ o e S).bind _ = _
  rw [h]
  show (match metP m x S1 with
    | true => (evEs Δ as e S1).bind fun ds S2 => metF m x ds S2
    | false => .bad) = _
  rw [hp]
  show (evEs Δ as e S1).bind _ = _
  rw [h2]; exact h3
theorem es_nil : evEs Δ .nil e S = .ok [] S := rfl
theorem es_cons (h : evE Δ a e S = .ok x S1) (h2 : evEs Δ as e S1 = .ok ds S2) : evEs Δ (.cons a as) e S = .ok (x :: ds) S2 := by
  show (evE Δ a e S).bind _ = _
  rw [h]
  show (evEs Δ as e S1).bind _ = _
  rw [h2]; rfl
theorem ev_tup (h : evEs Δ as e S = .ok ds S1) : evE Δ (.tup as) e S = .ok (.tup ds) S1 := by
  show (evEs Δ as e S).bind _ = _
  rw [h]; rfl
theorem ev_lst (h : evEs Δ as e S = .ok ds S1) : evE Δ (.lst false as) e S = .ok (.lst ds) S1 := by
  show (evEs Δ as e S).bind _ = _
  rw [h]; rfl
theorem ev_var {n : Nat} (h : e[n]? = some (some x)) : evE Δ (.var n) e S = .ok x S := by
  show (match e[n]? with
    | some (some d) => PV.R.ok d S
    | _ => .bad) = _
  rw [h]
theorem ev_lc {own : List (Str × Nat)} {tg : Tg} {it : II} {ifs : IEs} {elt : IE} {xs ys : List D} {g : D → Sto → R (Option D)} (h : evI Δ it e S = .ok xs S1) (hg : g = fun x S2 => (match asgT tg x (wipeD e (own.map (·.2))) with
      | some e1 => (evIf Δ ifs e1 S2).bind fun k S3 => (match k with
        | true => (evE Δ elt e1 S3).bind fun y S4 => .ok (some y) S4
        | false => .ok none S3)
      | none => .bad)) (h2 : lcL g xs S1 = .ok ys S2) : evE Δ (.lc false own tg it ifs elt) e S = .ok (.lst ys) S2 := by
  subst hg
  show (evI Δ it e S).bind _ = _
  rw [h]
  exact (congrArg (fun r => R.bind r fun ys S5 => newL false ys S5) h2).trans rfl
end
theorem atI_ok {α : Type} {xs : List α} {r : Int} {x : α} (h0 : 0 ≤ r) (h : xs[r.toNat]? = some x) : atI xs r = some x := by
  have hl := (List.getElem?_eq_some_iff.mp h).1
  unfold atI ixN
  rw [if_pos h0, if_pos (by omega)]
  exact h
def seqD (S : Sto) (m : D) (xs : List D) : Prop := m = .lst xs ∨ m = .tup xs
theorem seqD.len {S S' : Sto} {m : D} {xs : List D} (h : seqD S m xs) : bltF .len false [m] S' = .ok (.int xs.length) S' := by
  rcases h with h | h <;> subst h <;> rfl
theorem seqD.idx {S S' : Sto} {m x : D} {xs : List D} {r : Int} (h : seqD S m xs) (h0 : 0 ≤ r) (hx : xs[r.toNat]? = some x) : idxF S' m (.int r) = some x := by
  rcases h with h | h <;> subst h <;> exact atI_ok h0 hx
section
variable {fs : List Fn} {k n fd fp ft fsh : Nat} {S : Sto}
def fnDraw : Fn := ⟨2, 4, ir_law_draw⟩
theorem d_pick (hd : fs[i_law_draw]? = some ⟨2, 4, ir_law_draw⟩) (hf : fs[fp]? = some ⟨2, 2, ir_law_pick⟩) {m : D} {xs : List D} (hm : seqD S m xs) (h1 : 0 < xs.length) (h2 : xs.length < 1073741824) (hT : TapeAt n S) :
    ∃ (x : D) (S' : Sto), den fs (k + 2) fp [.loc n, m] S = .ok x S' ∧ x ∈ xs ∧ Tp n S S' := by
  obtain ⟨r, S', hr, q1, q2, q3⟩ := d_draw (k := k) (many := (xs.length : Int)) hd (by omega) (by omega) hT
  have hx : r.toNat < xs.length := by omega
  refine ⟨xs[r.toNat], S', ?_, List.getElem_mem hx, q3⟩
  rw [den_at hf]
  refine Ret.run rfl (ret_ret (ev_idx (ev_var rfl) (ev_call (es_cons (ev_var rfl) (es_cons (ev_blt (es_cons (ev_var rfl) es_nil) hm.len) es_nil)) ?_) (hm.idx q1 (List.getElem?_eq_getElem hx))))
  exact hr
/-- pops from left, puts into right -/
theorem shuffle_loop (hd : fs[i_law_draw]? = some ⟨2, 4, ir_law_draw⟩) {P : D → Prop} {m1 m2 : Nat} {v1 : Option D} (h12 : m1 ≠ m2) (hn1 : m1 ≠ n) (hn2 : m2 ≠ n) {f : D → En → Sto → R (Fl × En)}
    (hf : f = fun x e1 S2 => (match asgT (.nm 4) x e1 with
      | some e2 => exSs (den fs (k + 1)) (.cons (.ex (.met .append (.var 3) (.cons (.met .pop1 (.var 2) (.cons (.call i_law_draw (.cons (.var 0) (.cons (.blt .len false (.cons (.var 2) .nil)) .nil)) []) .nil)) .nil))) .nil) e2 S2
      | none => .bad)) :
    ∀ (ks : List D) (L T : List D) (v4 : Option D) (S : Sto), ks.length ≤ L.length → L.length < 1000 → T.length + ks.length < 100000 → (∀ x ∈ L, P x) → (∀ x ∈ T, P x) → S[m1]? = some (.lst L) → S[m2]? = some (.lst T) → TapeAt n S →
      ∃ (L' T' : List D) (v4' : Option D) (S' : Sto), forL f ks [some (.loc n), v1, some (.loc m1), some (.loc m2), v4] S = .ok (.nx, [some (.loc n), v1, some (.loc m1), some (.loc m2), v4']) S' ∧ T'.length = T.length + ks.length ∧ (∀ x ∈ T', P x) ∧ S'[m1]? = some (.lst L') ∧ S'[m2]? = some (.lst T') ∧ TapeAt n S' ∧
        S'.length ≥ S.length ∧ ∀ m, m < S.length → m ≠ n → m ≠ m1 → m ≠ m2 → S'[m]? = S[m]?
  | [], L, T, v4, S, _, _, _, _, hT, g1, g2, hT0 => ⟨L, T, v4, S, rfl, rfl, hT, g1, g2, hT0, Nat.le_refl _, fun _ _ _ _ _ => rfl⟩
  | x :: ks, L, T, v4, S, hl, hL, hTl, hP, hT, g1, g2, hT0 => by
    have hl' : ks.length + 1 ≤ L.length := hl
    obtain ⟨r, S1, hr, q1, q2, q3⟩ := d_draw (k := k) (many := (L.length : Int)) hd (by omega) (by omega) hT0
    have hx : r.toNat < L.length := by omega
    have l1 := (List.getElem?_eq_some_iff.mp g1).1
    have l2 := (List.getElem?_eq_some_iff.mp g2).1
    have g1' : S1[m1]? = some (.lst L) := (q3.same m1 l1 hn1).trans g1
    have g2' : S1[m2]? = some (.lst T) := (q3.same m2 l2 hn2).trans g2
    have l1' := (List.getElem?_eq_some_iff.mp g1').1
    have l2' := (List.getElem?_eq_some_iff.mp g2').1
    have g2'' : (S1.set m1 (.lst (L.eraseIdx r.toNat)))[m2]? = some (.lst T) := by rw [List.getElem?_set_ne h12]; exact g2'
    have st : f x [some (.loc n), v1, some (.loc m1), some (.loc m2), v4] S = .ok (.nx, [some (.loc n), v1, some (.loc m1), some (.loc m2), some x]) ((S1.set m1 (.lst (L.eraseIdx r.toNat))).set m2 (.lst (T ++ [L[r.toNat]]))) := by
      subst hf
      show exSs (den fs (k + 1)) _ [some (.loc n), v1, some (.loc m1), some (.loc m2), some x] S = _
      refine (xs_cons (x_ex (ev_met (x := .loc m2) (S1 := S) (y := .non) (ev_var rfl) ?_ (es_cons (ev_met (x := .loc m1) (S1 := S) (S2 := S1) (y := L[r.toNat]) (S3 := S1.set m1 (.lst (L.eraseIdx r.toNat))) (ev_var rfl) ?_ (es_cons (ev_call (es_cons (ev_var rfl) (es_cons (ev_blt (S2 := S) (x := .int L.length) (es_cons (ev_var rfl) es_nil) ?_) es_nil)) hr) es_nil) ?_) es_nil) ?_))).trans rfl
      · show isLst S (.loc m2) = true
        unfold isLst
        simp only [g2]
      · show isLst S (.loc m1) = true
        unfold isLst
        simp only [g1]
      · show (match rd S (.loc m1) with
          | .tup xs => PV.R.ok (D.int xs.length) S
          | .lst xs => .ok (D.int xs.length) S
          | .scr xs => .ok (D.int xs.length) S
          | .str z => if z.length ≤ 16777216 then .ok (D.int z.length) S else .bad
          | _ => .bad) = _
        unfold rd
        simp only [g1]
      · show (match S1[m1]? with
          | some (.lst xs) => if 0 ≤ r ∧ r < 2 ^ 62 then (match xs[r.toNat]? with
                | some y => PV.R.ok y (S1.set m1 (.lst (xs.eraseIdx r.toNat)))
                | none => .bad) else .bad
          | _ => .bad) = _
        simp only [g1']
        rw [if_pos ⟨q1, by omega⟩, List.getElem?_eq_getElem hx]
      · show (match (S1.set m1 (.lst (L.eraseIdx r.toNat)))[m2]? with
          | some (.lst xs) => if xs.length < 16777216 then PV.R.ok D.non ((S1.set m1 (.lst (L.eraseIdx r.toNat))).set m2 (.lst (xs ++ [L[r.toNat]]))) else .bad
          | _ => .bad) = _
        simp only [g2'']
        rw [if_pos (by rw [List.length_cons] at hTl; omega)]
    have e1 : (L.eraseIdx r.toNat).length = L.length - 1 := by rw [List.length_eraseIdx, if_pos hx]
    obtain ⟨L', T', v4', S', h1, h2, h3, h4, h5, h6, h7, h8⟩ := shuffle_loop hd (P := P) (v1 := v1) h12 hn1 hn2 hf ks (L.eraseIdx r.toNat) (T ++ [L[r.toNat]]) (some x) ((S1.set m1 (.lst (L.eraseIdx r.toNat))).set m2 (.lst (T ++ [L[r.toNat]])))
      (by rw [e1]; omega) (by rw [e1]; omega) (by rw [List.length_append]; simp only [List.length_cons, List.length_nil] at hTl ⊢; omega) (fun y hy => hP y (List.mem_of_mem_eraseIdx hy)) (fun y hy => by
        rcases List.mem_append.mp hy with hy | hy
        · exact hT y hy
        · rw [List.mem_singleton.mp hy]; exact hP _ (List.getElem_mem hx))
      (by rw [List.getElem?_set_ne (Ne.symm h12), List.getElem?_set_self l1']) (by rw [List.getElem?_set_self (by simpa using l2')])
      (by obtain ⟨c, hc, hcc⟩ := q3.at; exact ⟨c, by rw [List.getElem?_set_ne hn2, List.getElem?_set_ne hn1]; exact hc, hcc⟩)
    have hll := q3.len
    refine ⟨L', T', v4', S', ?_, by rw [h2, List.length_append]; simp only [List.length_cons, List.length_nil]; omega, h3, h4, h5, h6, by simp only [List.length_set] at h7; omega, fun m a1 a2 a3 a4 => ?_⟩
    · show (match f x _ S with
        | .ok (.nx, e1) S1 => forL f ks e1 S1
        | .ok (.cnt, e1) S1 => forL f ks e1 S1
        | .ok (.brk, e1) S1 => .ok (.nx, e1) S1
        | r => r) = _
      rw [st]
      exact h1
    · rw [h8 m (by simp only [List.length_set]; omega) a2 a3 a4, List.getElem?_set_ne (Ne.symm a4), List.getElem?_set_ne (Ne.symm a3)]
      exact q3.same m a1 a2
end
end L2.PV


/-! E3: the tape made, turns, shuffles. -/
namespace L2.PV
open PySem PySem.Spec PyProof.Rows LamX

theorem Tp.snoc {n : Nat} {S : Sto} {L : Sto} (h : TapeAt n S) : Tp n S (S ++ L) := by
  obtain ⟨c, h0, hc⟩ := h
  have hl := (List.getElem?_eq_some_iff.mp h0).1
  exact ⟨⟨c, by rw [List.getElem?_append_left hl]; exact h0, hc⟩, by simp, fun m hm _ => List.getElem?_append_left hm⟩
theorem mem_cutD {α : Type} {xs : List α} {lo hi : Option Int} {x : α} (h : x ∈ cutD xs lo hi) : x ∈ xs := List.mem_of_mem_drop (List.mem_of_mem_take h)
theorem rngD_mem {lo st : Int} {n : Nat} {x : D} (h : x ∈ rngD lo st n) : ∃ i : Nat, i < n ∧ x = .int (lo + (i : Int) * st) := by
  unfold rngD at h
  obtain ⟨i, h1, h2⟩ := List.mem_map.mp h
  exact ⟨i, List.mem_range.mp h1, h2.symm⟩
section
variable {Δ : Den} {e : En} {S S1 S2 : Sto} {a b : IE} {x y : D} {xs : List D}
theorem ei_seq (h : evE Δ a e S = .ok x S1) (h2 : seqF S1 x = some xs) : evI Δ (.seq a) e S = .ok xs S1 := by
  unfold evI
  rw [h]
  show PV.R.of (seqF S1 x) S1 = _
  rw [h2]; rfl
theorem ei_rng1 {j : Int} (h : evE Δ a e S = .ok (.int j) S1) (h0 : -(2 ^ 62) ≤ j) (h2 : j ≤ 16777216) : evI Δ (.rng1 a) e S = .ok (rngD 0 1 j.toNat) S1 := by
  unfold evI
  rw [h]
  show (if small62 j ∧ j ≤ 16777216 then PV.R.ok (rngD 0 1 j.toNat) S1 else .bad) = _
  rw [if_pos ⟨⟨h0, by omega⟩, h2⟩]
theorem ei_rng2 {i j : Int} (h : evE Δ a e S = .ok (.int i) S1) (h' : evE Δ b e S1 = .ok (.int j) S2) (h0 : -(2 ^ 62) ≤ i ∧ i < 2 ^ 62 ∧ -(2 ^ 62) ≤ j ∧ j < 2 ^ 62) (h2 : j - i ≤ 16777216) : evI Δ (.rng2 a b) e S = .ok (rngD i 1 (j - i).toNat) S2 := by
  unfold evI
  rw [h]
  show (evE Δ b e S1).bind _ = _
  rw [h']
  show (if small62 i ∧ small62 j ∧ j - i ≤ 16777216 then PV.R.ok (rngD i 1 (j - i).toNat) S2 else .bad) = _
  rw [if_pos ⟨⟨h0.1, h0.2.1⟩, ⟨h0.2.2.1, h0.2.2.2⟩, h2⟩]
theorem ev_lrg1 {tr : Bool} {j : Int} (h : evE Δ a e S = .ok (.int j) S1) (h0 : -(2 ^ 62) ≤ j) (h2 : j ≤ 16777216) : evE Δ (.lrg1 tr a) e S = newL tr (rngD 0 1 j.toNat) S1 := by
  unfold evE
  rw [h]
  show (if small62 j ∧ j ≤ 16777216 then newL tr (rngD 0 1 j.toNat) S1 else .bad) = _
  rw [if_pos ⟨⟨h0, by omega⟩, h2⟩]
theorem eo_nil : evO Δ .nil e S = .ok none S := rfl
theorem eo_int {as : IEs} {i : Int} (h : evE Δ a e S = .ok (.int i) S1) : evO Δ (.cons a as) e S = .ok (some i) S1 := by
  unfold evO
  rw [h]; rfl
theorem ev_slc {lo hi : IEs} {l u : Option Int} {S3 : Sto} (h : evE Δ a e S = .ok x S1) (h2 : evO Δ lo e S1 = .ok l S2) (h3 : evO Δ hi e S2 = .ok u S3) (h4 : slcF S3 x l u = some y) : evE Δ (.slc a lo hi) e S = .ok y S3 := by
  unfold evE
  rw [h]
  show (evO Δ lo e S1).bind _ = _
  rw [h2]
  show (evO Δ hi e S2).bind _ = _
  rw [h3]
  show PV.R.of (slcF S3 x l u) S3 = _
  rw [h4]; rfl
end
section
variable {fs : List Fn} {k n fp ft fsh : Nat} {S : Sto}
theorem d_tape (hf : fs[fp]? = some ⟨1, 3, ir_law_tape⟩) {ns : List Int} {d : D} (hd : d = .scr (ns.map D.int) ∨ d = .lst (ns.map D.int)) : ∃ c, den fs (k + 1) fp [d] S = .ok (.loc S.length) (S ++ [c]) ∧ TapeC c := by
  rw [den_at hf]
  have hseq : seqF S d = some (ns.map D.int) := by rcases hd with h | h <;> subst h <;> rfl
  have hlp : ∃ e' S', forL (fun x e1 S2 => (match asgT (.nm 2) x e1 with
      | some e2 => exSs (den fs k) (ir_law_tape.at 1).bd e2 S2
      | none => PV.R.bad)) (ns.map D.int) [some d, some (.int 7), none] S = .ok (.nx, e') S' ∧ (∃ (m : Int) (v : Option D), e' = [some d, some (.int m), v] ∧ 0 ≤ m ∧ m < 2147483647 ∧ S' = S) := by
    refine forL_inv (fun _ e' S' => ∃ (m : Int) (v : Option D), e' = [some d, some (.int m), v] ∧ 0 ≤ m ∧ m < 2147483647 ∧ S' = S) ⟨7, none, rfl, by decide, by decide, rfl⟩ fun i x e0 S0 hx hp => ?_
    obtain ⟨m, v, rfl, h0, h1, rfl⟩ := hp
    obtain ⟨z, rfl⟩ : ∃ z, x = .int z := by
      obtain ⟨z, _, h⟩ := List.mem_map.mp (List.mem_of_getElem? hx)
      exact ⟨z, h.symm⟩
    refine ⟨[some d, some (.int ((m * 31 + (if z < 0 then -z else z)) % 2147483647)), some (.int z)], S0, .inl ?_, _, _, rfl, Int.emod_nonneg _ (by decide), Int.emod_lt_of_pos _ (by decide), rfl⟩
    refine (xs_cons (x_set (x := .int ((m * 31 + (if z < 0 then -z else z)) % 2147483647)) (S1 := S0) ?_)).trans rfl
    simp [evE, evEs, evO, evT, evTA, evTO, evAnd, evOr, evI, evIf, R.bind, R.of, binF, addF, int2, cmpF, eqF, D.isNon, bltF, rd, idxF, slcF, truF, isiF, newL, asgT, asgs, containsF, D.key, metP, isLst, isDic, isStr, metF, seqF, mul_ok (i := m) (j := 31) (by decide) (by decide)]
  obtain ⟨e', S', h1, m, v, rfl, h2, h3, rfl⟩ := hlp
  refine ⟨.lst [.lst (ns.map D.int), .int 0, .int 0, .int m], Ret.run rfl (ret_cons (x_set (x := .int 7) rfl) (ret_cons ((x_for (xs := ns.map D.int) (S1 := S') ?_ rfl).trans h1) (ret_ret ?_))), ns, 0, 0, m, rfl, Int.le_refl _, h2, h3⟩
  · exact ei_seq (ev_var rfl) hseq
  · show (evEs (den fs k) _ _ S').bind _ = _
    rw [es_cons (x := .lst (ns.map D.int)) (S1 := S') (ev_blt (es_cons (ev_var (x := d) rfl) es_nil) (by rcases hd with h | h <;> subst h <;> rfl)) (es_cons (x := .int 0) rfl (es_cons (x := .int 0) rfl (es_cons (x := .int m) rfl es_nil)))]
    rfl
theorem d_turns (hd : fs[i_law_draw]? = some ⟨2, 4, ir_law_draw⟩) (hf : fs[ft]? = some ⟨2, 5, ir_law_turns⟩) {many : Nat} (h1 : 1 ≤ many) (h2 : many < 1000) (hT : TapeAt n S) :
    ∃ (ts : List D) (S' : Sto), den fs (k + 2) ft [.loc n, .int many] S = .ok (.lst ts) S' ∧ (∀ t ∈ ts, ∃ i : Nat, i < many ∧ t = .int i) ∧ Tp n S S' := by
  rw [den_at hf]
  have hnl : n < S.length := by obtain ⟨c, h0, _⟩ := hT; exact (List.getElem?_eq_some_iff.mp h0).1
  have hl0 : (rngD 0 1 many).length = many := rngD_len
  obtain ⟨L', T', v4', S1, q1, q2, q3, q4, q5, q6, q7, q8⟩ := shuffle_loop (k := k) (n := n) (fs := fs) hd (P := fun t => ∃ i : Nat, i < many ∧ t = .int i) (m1 := S.length) (m2 := S.length + 1) (v1 := some (.int many)) (by omega) (by omega) (by omega) rfl (rngD 0 1 many) (rngD 0 1 many) [] none (S ++ [Cell.lst (rngD 0 1 many)] ++ [Cell.lst []])
    (Nat.le_refl _) (by rw [hl0]; exact h2) (by rw [hl0]; simp only [List.length_nil]; omega) (fun x hx => by
      obtain ⟨i, hi, e⟩ := rngD_mem hx
      exact ⟨i, hi, by rw [e]; simp⟩) (fun x hx => by cases hx)
    (by rw [List.getElem?_append_left (by simp), List.getElem?_append_right (Nat.le_refl _)]; simp) (by rw [List.getElem?_append_right (by simp)]; simp) ((Tp.snoc (L := [Cell.lst (rngD 0 1 many)] ++ [Cell.lst []]) hT).at |> fun z => by rw [← List.append_assoc] at z; exact z)
  obtain ⟨r, S2, hr, r1, r2, r3⟩ := d_draw (k := k) (many := 3) hd (by decide) (by decide) q6
  have tp1 : Tp n S S1 := ⟨q6, by simp at q7; omega, fun m hm hn => by
    rw [q8 m (by simp; omega) hn (by omega) (by omega), List.getElem?_append_left (by simp; omega), List.getElem?_append_left hm]⟩
  have g2 : S2[S.length + 1]? = some (.lst T') := by rw [r3.same _ (List.getElem?_eq_some_iff.mp q5).1 (by omega)]; exact q5
  have hx : r.toNat < 3 := by omega
  have hpick : ∃ q : Int, ([D.int many, D.int many, D.int 1] : List D)[r.toNat]? = some (.int q) := by
    match r.toNat, hx with
    | 0, _ => exact ⟨_, rfl⟩
    | 1, _ => exact ⟨_, rfl⟩
    | 2, _ => exact ⟨_, rfl⟩
  obtain ⟨q, hq⟩ := hpick
  refine ⟨cutD T' none (some q), S2, Ret.run rfl (ret_cons (x_set (x := .loc S.length) (S1 := S ++ [Cell.lst (rngD 0 1 many)]) ?_) (ret_cons (x_set (x := .loc (S.length + 1)) (S1 := S ++ [Cell.lst (rngD 0 1 many)] ++ [Cell.lst []]) ?_) (ret_cons ((x_for (xs := rngD 0 1 many) (S1 := S ++ [Cell.lst (rngD 0 1 many)] ++ [Cell.lst []]) ?_ rfl).trans q1) (ret_ret ?_)))), fun t ht => q3 t (mem_cutD ht), tp1.trans r3⟩
  · exact (ev_lrg1 (j := (many : Int)) (ev_var rfl) (by omega) (by omega)).trans rfl
  · show PV.R.ok (D.loc (S ++ [Cell.lst (rngD 0 1 many)]).length) _ = _
    simp
  · exact ei_rng1 (j := (many : Int)) (ev_var rfl) (by omega) (by omega)
  · refine ev_slc (x := .loc (S.length + 1)) (ev_var rfl) eo_nil (eo_int (i := q) (ev_idx (x := .lst [.int many, .int many, .int 1]) (S1 := S1) (y := .int r) (S2 := S2) (z := .int q) (ev_lst (es_cons (ev_var rfl) (es_cons (ev_var rfl) (es_cons rfl es_nil)))) (ev_call (es_cons (ev_var rfl) (es_cons rfl es_nil)) hr) (atI_ok r1 hq))) ?_
    unfold slcF rd
    simp only [g2]
end
end L2.PV


/-! E4: windows (the initial part empty). -/
namespace L2.PV
open PySem PySem.Spec PyProof.Rows LamX

def bc (b : Bool) : Nat := if b then 49 else 48
def bs (l : List Bool) : Str := ⟨(l.map bc).toArray⟩
theorem s0 : ("" : Str) = bs [] := by decide +kernel
theorem s1 : ("1" : Str) = ⟨#[49]⟩ := by decide +kernel
theorem s1' : ("1" : Str) = bs [true] := by decide +kernel
theorem s0' : ("0" : Str) = bs [false] := by decide +kernel
theorem bs_len (l : List Bool) : (bs l).length = l.length := by simp [bs, Str.length]
theorem getD_bs {l : List Bool} {v : Nat} (hv : v < l.length) : (bs l).cps.getD v 0 = bc l[v] := by
  show (l.map bc).toArray.getD v 0 = _
  simp only [Array.getD, List.size_toArray, List.length_map, hv, dite_true]
  simp
theorem bs_app (a b : List Bool) : bs a ++ bs b = bs (a ++ b) := by
  show Str.mk ((a.map bc).toArray ++ (b.map bc).toArray) = _
  simp [bs]
theorem bs_cut (l : List Bool) (lo hi : Option Int) : cutS (bs l) lo hi = bs (cutD l lo hi) := by
  unfold cutS cutD
  rw [bs_len]
  simp [bs, List.map_drop, List.map_take]
theorem bc_inj {a b : Bool} : bc a = bc b ↔ a = b := by cases a <;> cases b <;> decide
theorem bs_inj {a b : List Bool} : bs a = bs b ↔ a = b := by
  refine ⟨fun h => ?_, fun h => by rw [h]⟩
  have h2 : a.map bc = b.map bc := by
    have := congrArg (fun s : Str => s.cps.toList) h
    simpa [bs] using this
  induction a generalizing b with
  | nil => cases b with
    | nil => rfl
    | cons _ _ => cases h2
  | cons x xs ih => cases b with
    | nil => cases h2
    | cons y ys =>
      injection h2 with e1 e2
      rw [bc_inj.mp e1, ih (b := ys) (by unfold bs; rw [e2]) e2]
/-- open at the hour -/
def opn (w : List Bool) (h : Int) : Bool := w.getD (h % (w.length : Int)).toNat false
def Wn (w : List Bool) : D := .tup [.str "", .str (bs w)]
def NextIs (p : Int → Bool) (h : Int) (d : D) : Prop := ∃ r, d = .int r ∧ h ≤ r ∧ p r = true ∧ ∀ t, h ≤ t → t < r → p t = false
def LastIs (p : Int → Bool) (h : Int) (d : D) : Prop := (∃ r, d = .int r ∧ 0 ≤ r ∧ r ≤ h ∧ p r = true ∧ ∀ t, r < t → t ≤ h → p t = false) ∨ (d = .non ∧ ∀ t, 0 ≤ t → t ≤ h → p t = false)
section
variable {Δ : Den} {w : List Bool} {h : Int} {S : Sto} {fs : List Fn} {k f : Nat}
theorem opn_ix (hw : 0 < w.length) : (h % (w.length : Int)).toNat < w.length := by
  have h1 := Int.emod_nonneg h (b := (w.length : Int)) (by omega)
  have h2 := Int.emod_lt_of_pos h (b := (w.length : Int)) (by omega)
  omega
theorem idx_bs (hl : w.length ≤ 16777216) {i : Int} (h0 : 0 ≤ i) (h1 : i.toNat < w.length) : idxF S (.str (bs w)) (.int i) = some (.str ⟨#[bc w[i.toNat]]⟩) := by
  show (if (bs w).length ≤ 16777216 then (atI (bs w).cps.toList i).map fun c => D.str ⟨#[c]⟩ else none) = _
  rw [if_pos (by rw [bs_len]; exact hl), atI_ok (x := bc w[i.toNat]) h0 (by simp [bs, List.getElem?_eq_getElem h1])]
  rfl
theorem eq_1 {b : Bool} : cmpF S .Eq (.str ⟨#[bc b]⟩) (.str "1") = some b := by
  show some (decide ((⟨#[bc b]⟩ : Str) = "1")) = _
  rw [s1]
  cases b <;> decide
theorem d_has_hour (hf : fs[f]? = some ⟨2, 4, ir_has_hour⟩) (hw : 0 < w.length) (hl : w.length ≤ 16777216) (h0 : 0 ≤ h) : den fs (k + 1) f [Wn w, .int h] S = .ok (.bl (opn w h)) S := by
  rw [den_at hf]
  have hix := opn_ix (h := h) hw
  have hm := Int.emod_nonneg h (b := (w.length : Int)) (by omega)
  refine Ret.run rfl (ret_cons (x_setT (x := Wn w) (S1 := S) rfl rfl) (ret_F0 (et_cmp (x := .int h) (y := .int 0) (S2 := S) rfl (ev_blt (es_cons rfl es_nil) ?_) ?_) (ret_ret ?_)))
  · simp [evE, evEs, evO, evT, evTA, evTO, evAnd, evOr, evI, evIf, R.bind, R.of, binF, addF, int2, cmpF, eqF, D.isNon, bltF, rd, idxF, slcF, truF, isiF, newL, asgT, asgs, containsF, D.key, metP, isLst, isDic, isStr, metF, seqF, s0, bs_len]
  · show some (decide (h < 0)) = _
    rw [decide_eq_false (by omega)]
  · refine ev_cmp (x := .str ⟨#[bc w[(h % (w.length : Int)).toNat]]⟩) (S1 := S) (ev_idx (x := .str (bs w)) (y := .int (h % (w.length : Int))) (S1 := S) (S2 := S) rfl ?_ (idx_bs hl hm hix)) rfl ?_
    · refine ev_bin (x := .int h) (y := .int w.length) (S1 := S) (S2 := S) (ev_bin (x := .int h) (y := .int 0) (S1 := S) (S2 := S) rfl (ev_blt (es_cons rfl es_nil) ?_) ?_) (ev_blt (es_cons rfl es_nil) ?_) (mod_ok (by omega))
      · simp [evE, evEs, evO, evT, evTA, evTO, evAnd, evOr, evI, evIf, R.bind, R.of, binF, addF, int2, cmpF, eqF, D.isNon, bltF, rd, idxF, slcF, truF, isiF, newL, asgT, asgs, containsF, D.key, metP, isLst, isDic, isStr, metF, seqF, s0, bs_len]
      · show some (D.int (h - 0)) = _
        rw [Int.sub_zero]
      · simp [evE, evEs, evO, evT, evTA, evTO, evAnd, evOr, evI, evIf, R.bind, R.of, binF, addF, int2, cmpF, eqF, D.isNon, bltF, rd, idxF, slcF, truF, isiF, newL, asgT, asgs, containsF, D.key, metP, isLst, isDic, isStr, metF, seqF, bs_len, hl]
    · rw [eq_1]
      unfold opn
      rw [List.getD_eq_getElem?_getD, List.getElem?_eq_getElem hix]
      rfl
theorem opn_add {i : Nat} (hw : 0 < w.length) : opn w (h + i) = (w ++ w).getD ((h % (w.length : Int)).toNat + i) false ∨ w.length ≤ i := by
  by_cases hi : w.length ≤ i
  · exact .inr hi
  refine .inl ?_
  have hix := opn_ix (h := h) hw
  have hm := Int.emod_nonneg h (b := (w.length : Int)) (by omega)
  unfold opn
  have e : h = (w.length : Int) * (h / w.length) + h % w.length := (Int.mul_ediv_add_emod h w.length).symm
  have e2 : (h + i) % (w.length : Int) = (h % (w.length : Int) + i) % (w.length : Int) := by rw [Int.add_emod, Int.add_emod (h % _) i, Int.emod_emod]
  rw [e2]
  generalize h % (w.length : Int) = m at hix hm ⊢
  by_cases hc : m.toNat + i < w.length
  · rw [Int.emod_eq_of_lt (by omega) (by omega), show (m + (i : Int)).toNat = m.toNat + i by omega, List.getD_eq_getElem?_getD, List.getD_eq_getElem?_getD, List.getElem?_append_left hc]
  · have e3 : (m + (i : Int)) % (w.length : Int) = m + i - w.length := by
      rw [← Int.sub_emod_right, Int.emod_eq_of_lt (by omega) (by omega)]
    rw [e3, List.getD_eq_getElem?_getD, List.getD_eq_getElem?_getD, List.getElem?_append_right (by omega)]
    congr 2
    omega
theorem d_next_hour (hf : fs[f]? = some ⟨2, 6, ir_next_hour⟩) (hw : 0 < w.length) (hl : w.length ≤ 1000000) (h0 : 0 ≤ h) (hex : ∃ t : Nat, t < w.length ∧ w.getD t false = true) : ∃ d, den fs (k + 1) f [Wn w, .int h] S = .ok d S ∧ NextIs (opn w) h d := by
  rw [den_at hf]
  have hix := opn_ix (h := h) hw
  have hm := Int.emod_nonneg h (b := (w.length : Int)) (by omega)
  generalize hpl : h % (w.length : Int) = pl at hix hm
  have hsp := PySem.StrLaws.find3_spec (bs (w ++ w)) 49 pl
  have hfi : PySem.fromIndex (bs (w ++ w)).length pl = pl.toNat := by
    unfold PySem.fromIndex
    rw [if_neg (by omega), Int.max_eq_right hm]
  have hl2 : (bs (w ++ w)).length = w.length + w.length := by rw [bs_len, List.length_append]
  have hgd : ∀ v, v < w.length + w.length → ((bs (w ++ w)).cps.getD v 0 = 49 ↔ (w ++ w).getD v false = true) := fun v hv => by
    have hv' : v < (w ++ w).length := by rw [List.length_append]; exact hv
    have e1 := getD_bs hv'
    rw [e1, List.getD_eq_getElem?_getD, List.getElem?_eq_getElem hv']
    show _ ↔ (w ++ w)[v] = true
    cases (w ++ w)[v] <;> decide
  rw [hfi, hl2] at hsp
  obtain ⟨t, ht, hwt⟩ := hex
  -- an open place within a turn
  obtain ⟨v, hv1, hv2, hv3⟩ : ∃ v, pl.toNat ≤ v ∧ v < pl.toNat + w.length ∧ (w ++ w).getD v false = true := by
    by_cases hc : pl.toNat ≤ t
    · exact ⟨t, hc, by omega, by rw [List.getD_eq_getElem?_getD, List.getElem?_append_left ht]; rw [List.getD_eq_getElem?_getD] at hwt; exact hwt⟩
    · exact ⟨t + w.length, by omega, by omega, by rw [List.getD_eq_getElem?_getD, List.getElem?_append_right (by omega), Nat.add_sub_cancel]; rw [List.getD_eq_getElem?_getD] at hwt; exact hwt⟩
  rcases hsp with ⟨_, hno⟩ | ⟨q, hq, hq1, hq2, hq3, hq4⟩
  · exact absurd ((hgd v (by omega)).mpr hv3) (hno v hv1 (by omega))
  have hqv : q ≤ v := by
    by_cases hc : q ≤ v
    · exact hc
    · exact absurd ((hgd v (by omega)).mpr hv3) (hq4 v hv1 (by omega))
  have run : den fs k f [Wn w, .int h] S = den fs k f [Wn w, .int h] S := rfl
  refine ⟨.int (h + q - pl), Ret.run rfl (ret_cons (x_setT (x := Wn w) (S1 := S) rfl rfl) (ret_F0 (et_cmp (x := .int h) (y := .int 0) (S2 := S) rfl (ev_blt (es_cons rfl es_nil) ?_) ?_) (ret_cons (x_set (x := .int pl) (S1 := S) ?_) (ret_cons (x_set (x := .int q) (S1 := S) ?_) (ret_F0 (et_cmp (x := .int q) (y := .int 0) (S2 := S) rfl rfl ?_) (ret_ret ?_)))))), h + q - pl, rfl, by omega, ?_, fun u hu1 hu2 => ?_⟩
  · simp [evE, evEs, evO, evT, evTA, evTO, evAnd, evOr, evI, evIf, R.bind, R.of, binF, addF, int2, cmpF, eqF, D.isNon, bltF, rd, idxF, slcF, truF, isiF, newL, asgT, asgs, containsF, D.key, metP, isLst, isDic, isStr, metF, seqF, s0, bs_len]
  · show some (decide (h < 0)) = _
    rw [decide_eq_false (by omega)]
  · refine ev_bin (x := .int h) (y := .int w.length) (S1 := S) (S2 := S) (ev_bin (x := .int h) (y := .int 0) (S1 := S) (S2 := S) rfl (ev_blt (es_cons rfl es_nil) ?_) ?_) (ev_blt (es_cons rfl es_nil) ?_) ?_
    · simp [evE, evEs, evO, evT, evTA, evTO, evAnd, evOr, evI, evIf, R.bind, R.of, binF, addF, int2, cmpF, eqF, D.isNon, bltF, rd, idxF, slcF, truF, isiF, newL, asgT, asgs, containsF, D.key, metP, isLst, isDic, isStr, metF, seqF, s0, bs_len]
    · show some (D.int (h - 0)) = _
      rw [Int.sub_zero]
    · simp [evE, evEs, evO, evT, evTA, evTO, evAnd, evOr, evI, evIf, R.bind, R.of, binF, addF, int2, cmpF, eqF, D.isNon, bltF, rd, idxF, slcF, truF, isiF, newL, asgT, asgs, containsF, D.key, metP, isLst, isDic, isStr, metF, seqF, bs_len, show w.length ≤ 16777216 by omega]
    · rw [← hpl]; exact mod_ok (by omega)
  · refine ev_met (x := .str (bs (w ++ w))) (S1 := S) (ds := [.str "1", .int pl]) (S2 := S) (ev_bin (x := .str (bs w)) (y := .str (bs w)) (S1 := S) (S2 := S) rfl rfl ?_) rfl (es_cons rfl (es_cons rfl es_nil)) ?_
    · show (if (bs w).length + (bs w).length ≤ 16777216 then some (D.str (bs w ++ bs w)) else none) = _
      rw [if_pos (by rw [bs_len]; omega), bs_app]
    · show PV.R.ok (D.int (Txt.find3 (bs (w ++ w)) "1" pl)) S = _
      rw [s1, hq]
  · show some (decide ((q : Int) < 0)) = _
    rw [decide_eq_false (by omega)]
  · show PV.R.ok (D.int (h + q - pl)) S = _
    rfl
  · have e : h + (q : Int) - pl = h + ((q - pl.toNat : Nat) : Int) := by omega
    rw [e]
    rcases opn_add (w := w) (h := h) (i := q - pl.toNat) hw with z | z
    · rw [z, hpl, show pl.toNat + (q - pl.toNat) = q by omega]
      exact (hgd q hq2).mp hq3
    · omega
  · have e : u = h + (((u - h).toNat : Nat) : Int) := by omega
    rw [e]
    rcases opn_add (w := w) (h := h) (i := (u - h).toNat) hw with z | z
    · rw [z, hpl]
      cases hz : (w ++ w).getD (pl.toNat + (u - h).toNat) false with
      | false => rfl
      | true => exact absurd ((hgd _ (by omega)).mpr hz) (hq4 _ (by omega) (by omega))
    · omega
theorem emod_le' {a b : Int} (h : 0 ≤ a) (hb : 0 < b) : a % b ≤ a := by
  have h1 := Int.mul_ediv_add_emod a b
  have h2 := Int.mul_nonneg (Int.le_of_lt hb) (Int.ediv_nonneg h (Int.le_of_lt hb))
  omega
theorem opn_congr {a b : Int} (h : a % (w.length : Int) = b % (w.length : Int)) : opn w a = opn w b := by unfold opn; rw [h]
theorem d_last_hour (hh : fs[i_has_hour]? = some ⟨2, 4, ir_has_hour⟩) (hf : fs[f]? = some ⟨2, 7, ir_last_hour⟩) (hw : 0 < w.length) (hl : w.length ≤ 1000000) (h0 : 0 ≤ h) (h1 : h ≤ 1000000) : ∃ d, den fs (k + 2) f [Wn w, .int h] S = .ok d S ∧ LastIs (opn w) h d := by
  rw [den_at hf]
  have hit : evI (den fs (k + 1)) (.rng3 (.var 1) (.blt .max2 false (.cons (.bin .Sub (.var 4) (.cst (.int 1))) (.cons (.bin .Sub (.var 1) (.blt .len false (.cons (.var 3) .nil))) .nil))) (.neg (.cst (.int 1)))) [some (Wn w), some (.int h), some (.str ""), some (.str (bs w)), some (.int 0), none, none] S = .ok (rngD h (-1) (h - max (-1) (h - w.length)).toNat) S := by
    have e1 : (if h - (w.length : Int) > 0 - 1 then h - (w.length : Int) else 0 - 1) = max (-1) (h - w.length) := max2_int
    have e2 : evE (den fs (k + 1)) (.blt .max2 false (.cons (.bin .Sub (.var 4) (.cst (.int 1))) (.cons (.bin .Sub (.var 1) (.blt .len false (.cons (.var 3) .nil))) .nil))) [some (Wn w), some (.int h), some (.str ""), some (.str (bs w)), some (.int 0), none, none] S = .ok (.int (max (-1) (h - w.length))) S := by
      refine ev_blt (es_cons (x := .int (0 - 1)) rfl (es_cons (x := .int (h - w.length)) (ev_bin (x := .int h) (y := .int w.length) (S1 := S) (S2 := S) rfl (ev_blt (es_cons rfl es_nil) ?_) rfl) es_nil)) ?_
      · simp [evE, evEs, evO, evT, evTA, evTO, evAnd, evOr, evI, evIf, R.bind, R.of, binF, addF, int2, cmpF, eqF, D.isNon, bltF, rd, idxF, slcF, truF, isiF, newL, asgT, asgs, containsF, D.key, metP, isLst, isDic, isStr, metF, seqF, bs_len, show w.length ≤ 16777216 by omega]
      · show PV.R.ok (D.int (if h - (w.length : Int) > 0 - 1 then h - (w.length : Int) else 0 - 1)) S = _
        rw [e1]
    unfold evI
    rw [ev_var (x := .int h) rfl]
    show (evE (den fs (k + 1)) _ _ S).bind _ = _
    rw [e2]
    show (if (-1 : Int) = -1 ∧ -(2 ^ 61) ≤ h ∧ h < 2 ^ 61 ∧ -(2 ^ 61) ≤ max (-1) (h - w.length) ∧ max (-1) (h - w.length) < 2 ^ 61 ∧ h - max (-1) (h - w.length) ≤ 16777216 then PV.R.ok (rngD h (-1) (h - max (-1) (h - w.length)).toNat) S else .bad) = _
    rw [if_pos ⟨rfl, by omega, by omega, by omega, by omega, by omega⟩]
  rcases forL_ret (f := fun x e1 S2 => (match asgT (.nm 5) x e1 with
      | some e2 => exSs (den fs (k + 1)) (ir_last_hour.at 2).bd e2 S2
      | none => PV.R.bad)) (Q := fun d S' => S' = S ∧ LastIs (opn w) h d) (rngD h (-1) (h - max (-1) (h - w.length)).toNat) (fun i e' S' => ∃ v, e' = [some (Wn w), some (.int h), some (.str ""), some (.str (bs w)), some (.int 0), v, none] ∧ S' = S ∧ ∀ t, h - i < t → t ≤ h → opn w t = false) 0 (e := [some (Wn w), some (.int h), some (.str ""), some (.str (bs w)), some (.int 0), none, none]) (S := S) ⟨none, rfl, rfl, fun t a b => by omega⟩ (fun i x e' S' hx hp => by
      obtain ⟨v, rfl, rfl, hp⟩ := hp
      have hx2 := rngD_get hx
      have hi : i < (h - max (-1) (h - w.length)).toNat := by
        have := (List.getElem?_eq_some_iff.mp hx).1
        rw [rngD_len] at this
        exact this
      subst hx2
      have hat : 0 ≤ h + (i : Int) * -1 := by omega
      have hhas := d_has_hour (k := k) (S := S') hh hw (by omega) hat
      have hT : evT (den fs (k + 1)) (.call i_has_hour (.cons (.var 0) (.cons (.var 5) .nil)) []) [some (Wn w), some (.int h), some (.str ""), some (.str (bs w)), some (.int 0), some (.int (h + (i : Int) * -1)), none] S' = .ok (opn w (h + (i : Int) * -1)) S' := et_call (es_cons (ev_var rfl) (es_cons (ev_var rfl) es_nil)) hhas
      cases ho : opn w (h + (i : Int) * -1) with
      | true =>
        refine .inr ⟨.int (h + (i : Int) * -1), _, S', xs_stop ((x_T (hT.trans (by rw [ho]))).trans (xs_stop (x_ret rfl))), rfl, .inl ⟨_, rfl, hat, by omega, ho, fun t a b => hp t (by omega) b⟩⟩
      | false =>
        refine .inl ⟨[some (Wn w), some (.int h), some (.str ""), some (.str (bs w)), some (.int 0), some (.int (h + (i : Int) * -1)), none], S', .inl ((xs_cons ((x_F (hT.trans (by rw [ho]))).trans rfl)).trans rfl), some (.int (h + (i : Int) * -1)), rfl, rfl, fun t a b => ?_⟩
        by_cases ht : t = h + (i : Int) * -1
        · rw [ht]; exact ho
        · exact hp t (by omega) b) with ⟨e', S', g1, v, rfl, rfl, g2⟩ | ⟨d, e', S', g1, rfl, g2⟩
  · refine ⟨.non, Ret.run rfl (ret_cons (x_setT (x := Wn w) (S1 := S') rfl rfl) (ret_cons (x_set (x := .int 0) (S1 := S') ?_) (ret_cons ((x_for hit rfl).trans g1) (ret_cons (x_set (x := .int (-1)) (S1 := S') ?_) (ret_T (et_cmp (x := .int (-1)) (y := .int 0) (S2 := S') rfl rfl rfl) (ret_ret rfl)))))), .inr ⟨rfl, fun t a b => ?_⟩⟩
    · refine ev_blt (es_cons rfl es_nil) ?_
      simp [evE, evEs, evO, evT, evTA, evTO, evAnd, evOr, evI, evIf, R.bind, R.of, binF, addF, int2, cmpF, eqF, D.isNon, bltF, rd, idxF, slcF, truF, isiF, newL, asgT, asgs, containsF, D.key, metP, isLst, isDic, isStr, metF, seqF, s0, bs_len]
    · refine ev_met (x := .str "") (S1 := S') (ds := [.str "1"]) (S2 := S') (ev_slc (x := .str "") (l := none) (u := some (max 0 (h + 1))) (S3 := S') rfl rfl (eo_int (ev_blt (es_cons (x := .int (h + 1)) rfl (es_cons (x := .int 0) rfl es_nil)) ?_)) ?_) rfl (es_cons rfl es_nil) ?_
      · show PV.R.ok (D.int (if (0 : Int) > h + 1 then 0 else h + 1)) S' = _
        rw [if_neg (by omega)]
        rw [show max 0 (h + 1) = h + 1 by omega]
      · show (if ("" : Str).length ≤ 16777216 then some (D.str (cutS "" none (some (max 0 (h + 1))))) else none) = _
        rw [s0, if_pos (by rw [bs_len]; decide), bs_cut]
        unfold cutD
        simp
      · show PV.R.ok (D.int (Txt.rfind "" "1")) S' = _
        rw [show Txt.rfind "" "1" = -1 by decide +kernel]
    · rw [rngD_len] at g2
      have hm := Int.emod_nonneg (h - t) (b := (w.length : Int)) (by omega)
      have hm2 := Int.emod_lt_of_pos (h - t) (b := (w.length : Int)) (by omega)
      have hm3 : (h - t) % (w.length : Int) ≤ h - t := emod_le' (by omega) (by omega)
      have e := opn_congr (w := w) (a := t) (b := h - (h - t) % (w.length : Int)) (by
        rw [Int.sub_emod, Int.emod_emod, ← Int.sub_emod]
        congr 1
        omega)
      rw [e]
      exact g2 _ (by omega) (by omega)
  · refine ⟨d, Ret.run rfl (ret_cons (x_setT (x := Wn w) (S1 := S') rfl rfl) (ret_cons (x_set (x := .int 0) (S1 := S') ?_) ⟨e', xs_stop ((x_for hit rfl).trans g1)⟩)), g2⟩
    refine ev_blt (es_cons rfl es_nil) ?_
    simp [evE, evEs, evO, evT, evTA, evTO, evAnd, evOr, evI, evIf, R.bind, R.of, binF, addF, int2, cmpF, eqF, D.isNon, bltF, rd, idxF, slcF, truF, isiF, newL, asgT, asgs, containsF, D.key, metP, isLst, isDic, isStr, metF, seqF, s0, bs_len]
theorem d_last_in (hh : fs[i_has_hour]? = some ⟨2, 4, ir_has_hour⟩) (hg : fs[i_last_hour]? = some ⟨2, 7, ir_last_hour⟩) (hf : fs[f]? = some ⟨2, 2, ir_last_in_window⟩) (hw : 0 < w.length) (hl : w.length ≤ 1000000) (h1 : h ≤ 1000000) : ∃ d, den fs (k + 3) f [Wn w, .int h] S = .ok d S ∧ LastIs (opn w) h d := by
  rw [den_at hf]
  by_cases h0 : h < 0
  · refine ⟨.non, Ret.run rfl (ret_T (et_cmp (x := .int h) (y := .int 0) (S2 := S) rfl rfl ?_) (ret_ret rfl)), .inr ⟨rfl, fun t a b => by omega⟩⟩
    show some (decide (h < 0)) = _
    rw [decide_eq_true h0]
  · obtain ⟨d, g1, g2⟩ := d_last_hour (k := k) (S := S) hh hg hw hl (by omega) h1
    refine ⟨d, Ret.run rfl (ret_F0 (et_cmp (x := .int h) (y := .int 0) (S2 := S) rfl rfl ?_) (ret_ret (ev_call (es_cons rfl (es_cons rfl es_nil)) g1))), g2⟩
    show some (decide (h < 0)) = _
    rw [decide_eq_false h0]
end
end L2.PV


/-! E5: starts among outages. -/
namespace L2.PV
open PySem PySem.Spec PyProof.Rows LamX

abbrev Out := Str × Int × Int
def encO (o : Out) : D := .tup [.str o.1, .int o.2.1, .int o.2.2]
def outsD (os : List Out) : D := .tup (os.map encO)
def usesD (us : List Str) : D := .tup (us.map D.str)
def jobD (us : List Str) (dd : D) (w : List Bool) (tt : D) : D := .tup [usesD us, dd, Wn w, tt]
def hits (us : List Str) (o : Out) : Bool := us.any fun u => decide (o.1 = u)
def closed (us : List Str) (os : List Out) (t : Int) : Bool := os.any fun o => hits us o && (decide (o.2.1 ≤ t) && decide (t < o.2.1 + o.2.2))
def free (w : List Bool) (us : List Str) (os : List Out) (t : Int) : Bool := opn w t && !closed us os t
theorem inF_strs (z : Str) : ∀ us : List Str, inF (.str z) (us.map D.str) = some (us.any fun u => decide (z = u))
  | [] => rfl
  | u :: us => by
    show (match eqFl (.str z) (.str u) with
      | some b => (inF (.str z) (us.map D.str)).map (b || ·)
      | none => none) = _
    rw [inF_strs z us]
    rfl
theorem in_uses {S : Sto} {z : Str} {us : List Str} : cmpF S .In (.str z) (usesD us) = some (us.any fun u => decide (z = u)) := by
  show containsF S (.str z) (usesD us) = _
  exact inF_strs z us
section
variable {Δ : Den} {e : En} {S S1 S2 S3 : Sto} {a b c : IE} {x y z : D} {as : IEs} {k : Bool}
theorem ta_one (h : evT Δ a e S = .ok k S1) : evTA Δ (.cons a .nil) e S = .ok k S1 := h
theorem ta_T (h : evT Δ a e S = .ok true S1) (h2 : evTA Δ (.cons b as) e S1 = .ok k S2) : evTA Δ (.cons a (.cons b as)) e S = .ok k S2 := by
  show (evT Δ a e S).bind _ = _
  rw [h]; exact h2
theorem ta_F (h : evT Δ a e S = .ok false S1) : evTA Δ (.cons a (.cons b as)) e S = .ok false S1 := by
  show (evT Δ a e S).bind _ = _
  rw [h]; rfl
/-- two pure tests -/
theorem et_and2 {p q : Bool} (h : evT Δ a e S = .ok p S) (h2 : p = true → evT Δ b e S = .ok q S) : evT Δ (.and (.cons a (.cons b .nil))) e S = .ok (p && q) S := by
  show evTA Δ _ e S = _
  cases p with
  | true => exact ta_T h (ta_one (h2 rfl))
  | false => exact ta_F h
theorem et_and3 {p q r : Bool} (h : evT Δ a e S = .ok p S) (h2 : evT Δ b e S = .ok q S) (h3 : evT Δ c e S = .ok r S) : evT Δ (.and (.cons a (.cons b (.cons c .nil)))) e S = .ok (p && (q && r)) S := by
  show evTA Δ _ e S = _
  cases p with
  | false => exact ta_F h
  | true =>
    cases q with
    | false => exact ta_T h (ta_F h2)
    | true => exact ta_T h (ta_T h2 (ta_one h3))
theorem to_T (h : evT Δ a e S = .ok true S1) : evTO Δ (.cons a (.cons b as)) e S = .ok true S1 := by
  show (evT Δ a e S).bind _ = _
  rw [h]; rfl
theorem to_F (h : evT Δ a e S = .ok false S1) (h2 : evTO Δ (.cons b as) e S1 = .ok k S2) : evTO Δ (.cons a (.cons b as)) e S = .ok k S2 := by
  show (evT Δ a e S).bind _ = _
  rw [h]; exact h2
theorem et_or2 {p q : Bool} (h : evT Δ a e S = .ok p S) (h2 : p = false → evT Δ b e S = .ok q S) : evT Δ (.or (.cons a (.cons b .nil))) e S = .ok (p || q) S := by
  show evTO Δ _ e S = _
  cases p with
  | true => exact to_T h
  | false => exact to_F h (h2 rfl)
theorem et_chn {op op' : CmpOp} {p q : Bool} (h : evE Δ a e S = .ok x S) (h2 : evE Δ b e S = .ok y S) (h3 : cmpF S op x y = some p) (h4 : p = true → evE Δ c e S = .ok z S ∧ cmpF S op' y z = some q) : evT Δ (.chn op op' a b c) e S = .ok (p && q) S := by
  show (evE Δ a e S).bind _ = _
  rw [h]
  show (evE Δ b e S).bind _ = _
  rw [h2]
  show (match cmpF S op x y with
    | some true => (evE Δ c e S).bind fun z S3 => PV.R.of (cmpF S3 op' y z) S3
    | some false => .ok false S
    | none => .bad) = _
  rw [h3]
  cases p with
  | true =>
    obtain ⟨h5, h6⟩ := h4 rfl
    show (evE Δ c e S).bind _ = _
    rw [h5]
    show PV.R.of (cmpF S op' y z) S = _
    rw [h6]; rfl
  | false => rfl
end
section
variable {w : List Bool} {us : List Str} {os : List Out} {h : Int} {S : Sto} {fs : List Fn} {k f : Nat} {dd tt : D}
def clo (us : List Str) (os : List Out) : List (Int × Int) := (os.filter (hits us)).map fun o => (o.2.1, o.2.1 + o.2.2)
theorem d_closures (hf : fs[f]? = some ⟨2, 5, ir_closures_of⟩) : den fs (k + 1) f [jobD us dd w tt, outsD os] S = .ok (.lst ((clo us os).map encP)) S := by
  rw [den_at hf]
  have hl : ∀ (e : En) (g : D → Sto → R (Option D)), (∀ o ∈ os, g (encO o) S = .ok (if hits us o then some (encP (o.2.1, o.2.1 + o.2.2)) else none) S) → lcL g (os.map encO) S = .ok ((clo us os).map encP) S := by
    intro e g
    clear hf
    induction os with
    | nil => intro _; rfl
    | cons o os ih =>
      intro hg
      have h1 := hg o List.mem_cons_self
      have h2 := ih fun p hp => hg p (List.mem_cons_of_mem _ hp)
      show (match g (encO o) S with
        | .ok none S1 => lcL g (os.map encO) S1
        | .ok (some y) S1 => (match lcL g (os.map encO) S1 with
          | .ok ys S2 => .ok (y :: ys) S2
          | _ => .bad)
        | _ => .bad) = _
      rw [h1]
      unfold clo
      cases hc : hits us o with
      | true =>
        rw [List.filter_cons_of_pos hc]
        show (match lcL g (os.map encO) S with
          | .ok ys S2 => PV.R.ok (encP (o.2.1, o.2.1 + o.2.2) :: ys) S2
          | _ => .bad) = _
        rw [h2]; rfl
      | false =>
        rw [List.filter_cons_of_neg (by rw [hc]; decide)]
        exact h2
  refine Ret.run rfl (ret_ret (ev_lc (xs := os.map encO) (S1 := S) (ei_seq (x := outsD os) rfl rfl) rfl (hl [] _ fun o _ => ?_)))
  have hte : evT (den fs k) (.cmp .In (.var 2) (.idx (.var 0) (.cst (.int 0)))) [some (jobD us dd w tt), some (outsD os), some (.str o.1), some (.int o.2.1), some (.int o.2.2)] S = .ok (hits us o) S :=
    et_cmp (x := .str o.1) (y := usesD us) (S1 := S) (S2 := S) rfl (ev_idx (x := jobD us dd w tt) (y := .int 0) (z := usesD us) rfl rfl rfl) in_uses
  show (evT (den fs k) (.cmp .In (.var 2) (.idx (.var 0) (.cst (.int 0)))) [some (jobD us dd w tt), some (outsD os), some (.str o.1), some (.int o.2.1), some (.int o.2.2)] S).bind _ = _
  rw [hte]
  cases hits us o <;> rfl
end
end L2.PV


/-! E6: first and last starts. -/
namespace L2.PV
open PySem PySem.Spec PyProof.Rows LamX

theorem closed_iff {us : List Str} {os : List Out} {t : Int} : closed us os t = true ↔ ∃ c ∈ clo us os, c.1 ≤ t ∧ t < c.2 := by
  unfold closed clo
  rw [List.any_eq_true]
  constructor
  · rintro ⟨o, ho, h⟩
    obtain ⟨h1, h2⟩ := an h
    obtain ⟨h2, h3⟩ := an h2
    exact ⟨(o.2.1, o.2.1 + o.2.2), List.mem_map.mpr ⟨o, List.mem_filter.mpr ⟨ho, h1⟩, rfl⟩, of_decide_eq_true h2, of_decide_eq_true h3⟩
  · rintro ⟨c, hc, h1, h2⟩
    obtain ⟨o, ho, rfl⟩ := List.mem_map.mp hc
    obtain ⟨ho, hh⟩ := List.mem_filter.mp ho
    exact ⟨o, ho, by rw [hh, decide_eq_true h1, decide_eq_true h2]; rfl⟩
theorem free_iff {w : List Bool} {us : List Str} {os : List Out} {t : Int} : free w us os t = false ↔ opn w t = false ∨ ∃ c ∈ clo us os, c.1 ≤ t ∧ t < c.2 := by
  unfold free
  rw [← closed_iff]
  cases opn w t <;> cases closed us os t <;> simp
theorem lex_trans (a b c : Int × Int) (h1 : lexLe a b = true) (h2 : lexLe b c = true) : lexLe a c = true := by
  unfold lexLe at *
  simp only [Bool.or_eq_true, Bool.and_eq_true, decide_eq_true_eq] at *
  omega
theorem lex_total (a b : Int × Int) : (lexLe a b || lexLe b a) = true := by
  unfold lexLe
  simp only [Bool.or_eq_true, Bool.and_eq_true, decide_eq_true_eq]
  omega
theorem neg_trans (a b c : Int × Int) (h1 : negLe a b = true) (h2 : negLe b c = true) : negLe a c = true := by
  unfold negLe at *
  simp only [decide_eq_true_eq] at *
  omega
theorem neg_total (a b : Int × Int) : (negLe a b || negLe b a) = true := by
  unfold negLe
  simp only [Bool.or_eq_true, decide_eq_true_eq]
  omega
theorem lex_sorted (l : List (Int × Int)) : (l.mergeSort lexLe).Pairwise fun a b => a.1 ≤ b.1 :=
  (List.pairwise_mergeSort lex_trans lex_total l).imp fun {a b} h => by
    unfold lexLe at h
    simp only [Bool.or_eq_true, Bool.and_eq_true, decide_eq_true_eq] at h
    omega
theorem neg_sorted (l : List (Int × Int)) : (l.mergeSort negLe).Pairwise fun a b => b.2 ≤ a.2 :=
  (List.pairwise_mergeSort neg_trans neg_total l).imp fun {a b} h => by
    unfold negLe at h
    simp only [decide_eq_true_eq] at h
    omega
theorem pairsOf_enc : ∀ ps : List (Int × Int), pairsOf (ps.map encP) = some ps
  | [] => rfl
  | p :: ps => by
    show (pairsOf (ps.map encP)).map (p :: ·) = _
    rw [pairsOf_enc ps]; rfl
section
variable {w : List Bool} {us : List Str} {os : List Out} {h : Int} {S : Sto} {fs : List Fn} {k f : Nat} {dd tt : D}
theorem srt_clo {Δ : Den} {e : En} {a : IE} {ps : List (Int × Int)} (h : evE Δ a e S = .ok (.lst (ps.map encP)) S) (hl : ps.length ≤ 1000) : evE Δ (.srt a) e S = .ok (.lst ((ps.mergeSort lexLe).map encP)) S := by
  unfold evE
  rw [h]
  show PV.R.of (srtF S (.lst (ps.map encP))) S = _
  unfold srtF rd
  simp only [pairsOf_enc, List.length_map]
  rw [if_pos hl]
  rfl
theorem srtk_clo {Δ : Den} {e : En} {a : IE} {ps : List (Int × Int)} (h : evE Δ a e S = .ok (.lst (ps.map encP)) S) (hl : ps.length ≤ 1000) : evE Δ (.srtk a) e S = .ok (.lst ((ps.mergeSort negLe).map encP)) S := by
  unfold evE
  rw [h]
  show PV.R.of (srtkF S (.lst (ps.map encP))) S = _
  unfold srtkF rd
  simp only [pairsOf_enc, List.length_map]
  rw [if_pos hl]
  rfl
theorem pw_get {α : Type} {R : α → α → Prop} {l : List α} (h : l.Pairwise R) {i : Nat} {a : α} (ha : l[i]? = some a) : ∀ b ∈ l.take i, R b a := by
  intro b hb
  obtain ⟨j, hj, e⟩ := List.mem_iff_getElem.mp hb
  have hj' : j < i := by rw [List.length_take] at hj; omega
  have hi := (List.getElem?_eq_some_iff.mp ha).1
  rw [← (List.getElem?_eq_some_iff.mp ha).2, ← e, List.getElem_take]
  exact List.pairwise_iff_getElem.mp h j i (by omega) hi hj'
theorem d_first_start (hn : fs[i_next_hour]? = some ⟨2, 6, ir_next_hour⟩) (hcl : fs[i_closures_of]? = some ⟨2, 5, ir_closures_of⟩) (hf : fs[f]? = some ⟨3, 6, ir_first_start⟩) (hw : 0 < w.length) (hl : w.length ≤ 1000000) (h0 : 0 ≤ h)
    (hex : ∃ t : Nat, t < w.length ∧ w.getD t false = true) (hlen : os.length ≤ 1000) (hos : ∀ o ∈ os, 0 ≤ o.2.1 ∧ 0 ≤ o.2.2) : ∃ d, den fs (k + 2) f [jobD us dd w tt, outsD os, .int h] S = .ok d S ∧ NextIs (free w us os) h d := by
  rw [den_at hf]
  have hcl0 : (clo us os).length ≤ 1000 := by
    unfold clo
    rw [List.length_map]
    exact Nat.le_trans (List.length_filter_le _ _) hlen
  have hpos : ∀ c ∈ (clo us os).mergeSort lexLe, 0 ≤ c.2 := fun c hc => by
    have hc' := List.mem_mergeSort.mp hc
    obtain ⟨o, ho, rfl⟩ := List.mem_map.mp hc'
    have := hos o (List.mem_filter.mp ho).1
    show 0 ≤ o.2.1 + o.2.2
    omega
  have hso := lex_sorted (clo us os)
  obtain ⟨d1, g1, r1, rfl, q1, q2, q3⟩ := d_next_hour (k := k) (S := S) hn hw hl h0 hex
  obtain ⟨e', S', g2, s, v4, v5, rfl, rfl, p1, p2, p3, p4⟩ := forL_inv (f := fun x e1 S2 => (match asgT (.tp [4, 5]) x e1 with
        | some e2 => exSs (den fs (k + 1)) (ir_first_start.at 1).bd e2 S2
        | none => PV.R.bad)) (e := [some (jobD us dd w tt), some (outsD os), some (.int h), some (.int r1), none, none]) (S := S) (xs := ((clo us os).mergeSort lexLe).map encP)
      (fun i e' S' => ∃ (s : Int) (v4 v5 : Option D), e' = [some (jobD us dd w tt), some (outsD os), some (.int h), some (.int s), v4, v5] ∧ S' = S ∧ h ≤ s ∧ opn w s = true ∧
        (∀ t, h ≤ t → t < s → opn w t = false ∨ ∃ c ∈ ((clo us os).mergeSort lexLe).take i, c.1 ≤ t ∧ t < c.2) ∧ ∀ c ∈ ((clo us os).mergeSort lexLe).take i, ¬(c.1 ≤ s ∧ s < c.2))
      ⟨r1, none, none, rfl, rfl, q1, q2, fun t a b => .inl (q3 t a b), fun c hc => by simp at hc⟩ (fun i x e' S' hx hp => by
        obtain ⟨s, v4, v5, rfl, rfl, p1, p2, p3, p4⟩ := hp
        obtain ⟨c, hc, rfl⟩ : ∃ c, ((clo us os).mergeSort lexLe)[i]? = some c ∧ encP c = x := by
          rw [List.getElem?_map] at hx
          cases q : ((clo us os).mergeSort lexLe)[i]? with
          | none => rw [q] at hx; cases hx
          | some o => rw [q] at hx; cases hx; exact ⟨o, rfl, rfl⟩
        have hmem := List.mem_of_getElem? hc
        have htk : ((clo us os).mergeSort lexLe).take (i + 1) = ((clo us os).mergeSort lexLe).take i ++ [c] := by rw [List.take_succ, hc]; rfl
        have hbef := pw_get hso hc
        rw [htk]
        have hte : evT (den fs (k + 1)) (.chn .LtE .Lt (.var 4) (.var 3) (.var 5)) [some (jobD us dd w tt), some (outsD os), some (.int h), some (.int s), some (.int c.1), some (.int c.2)] S' = .ok (decide (c.1 ≤ s) && decide (s < c.2)) S' :=
          et_chn (x := .int c.1) (y := .int s) (z := .int c.2) rfl rfl rfl fun _ => ⟨rfl, rfl⟩
        by_cases hin : c.1 ≤ s ∧ s < c.2
        · obtain ⟨d2, g2, r2, rfl, u1, u2, u3⟩ := d_next_hour (k := k) (S := S') (h := c.2) hn hw hl (hpos c hmem) hex
          refine ⟨[some (jobD us dd w tt), some (outsD os), some (.int h), some (.int r2), some (.int c.1), some (.int c.2)], S', .inl ((xs_cons ((x_T (hte.trans (by rw [decide_eq_true hin.1, decide_eq_true hin.2]; rfl))).trans ((xs_cons (x_set (x := .int r2) (S1 := S') (ev_call (es_cons (ev_idx (x := jobD us dd w tt) (y := .int 2) (z := Wn w) rfl rfl rfl) (es_cons (ev_var rfl) es_nil)) g2))).trans rfl))).trans rfl), r2, _, _, rfl, rfl, by omega, u2, fun t a b => ?_, fun c' hc' => ?_⟩
          · by_cases ht : t < s
            · rcases p3 t a ht with z | ⟨c', z1, z2⟩
              · exact .inl z
              · exact .inr ⟨c', List.mem_append_left _ z1, z2⟩
            · by_cases ht2 : t < c.2
              · exact .inr ⟨c, List.mem_append_right _ List.mem_cons_self, by omega, ht2⟩
              · exact .inl (u3 t (by omega) b)
          · rcases List.mem_append.mp hc' with z | z
            · have h1 := p4 c' z
              have h2 := hbef c' z
              omega
            · rw [List.mem_singleton.mp z]; omega
        · refine ⟨[some (jobD us dd w tt), some (outsD os), some (.int h), some (.int s), some (.int c.1), some (.int c.2)], S', .inl ((xs_cons ((x_F (hte.trans (by
            have : (decide (c.1 ≤ s) && decide (s < c.2)) = false := by
              rw [← Bool.decide_and]; exact decide_eq_false hin
            rw [this]))).trans rfl)).trans rfl), s, _, _, rfl, rfl, p1, p2, fun t a b => ?_, fun c' hc' => ?_⟩
          · rcases p3 t a b with z | ⟨c', z1, z2⟩
            · exact .inl z
            · exact .inr ⟨c', List.mem_append_left _ z1, z2⟩
          · rcases List.mem_append.mp hc' with z | z
            · exact p4 c' z
            · rw [List.mem_singleton.mp z]; exact hin)
  rw [List.length_map, List.take_length] at p3 p4
  refine ⟨.int s, Ret.run rfl (ret_cons (x_set (x := .int r1) (S1 := S') (ev_call (es_cons (ev_idx (x := jobD us dd w tt) (y := .int 2) (z := Wn w) rfl rfl rfl) (es_cons (ev_var rfl) es_nil)) g1)) (ret_cons ((x_for (ei_seq (x := .lst (((clo us os).mergeSort lexLe).map encP)) (srt_clo (ev_call (es_cons (ev_var rfl) (es_cons (ev_var rfl) es_nil)) (d_closures (k := k) hcl)) hcl0) rfl) rfl).trans g2) (ret_ret rfl))), s, rfl, p1, ?_, fun t a b => ?_⟩
  · cases hfr : free w us os s with
    | true => rfl
    | false =>
      rcases free_iff.mp hfr with z | ⟨c, hc, z⟩
      · rw [p2] at z; cases z
      · exact absurd z (p4 c (List.mem_mergeSort.mpr hc))
  · rcases p3 t a b with z | ⟨c, hc, z⟩
    · exact free_iff.mpr (.inl z)
    · exact free_iff.mpr (.inr ⟨c, List.mem_mergeSort.mp hc, z⟩)
end
end L2.PV


/-! E7: last starts; the law's own search. -/
namespace L2.PV
open PySem PySem.Spec PyProof.Rows LamX

/-- an hour, or none -/
def vl (s : Int) : D := if s < 0 then .non else .int s
theorem vl_nn {s : Int} (h : 0 ≤ s) : vl s = .int s := if_neg (by omega)
theorem vl_non {s : Int} (h : s < 0) : vl s = .non := if_pos h
structure Ls (p : Int → Bool) (h s : Int) : Prop where
  lo : -1 ≤ s
  hi : 0 ≤ s → s ≤ h ∧ p s = true
  no : ∀ t, s < t → t ≤ h → 0 ≤ t → p t = false
theorem LastIs.ls {p : Int → Bool} {h : Int} {d : D} (x : LastIs p h d) : ∃ s, d = vl s ∧ Ls p h s := by
  rcases x with ⟨r, rfl, h1, h2, h3, h4⟩ | ⟨rfl, h1⟩
  · exact ⟨r, (vl_nn h1).symm, by omega, fun _ => ⟨h2, h3⟩, fun t a b _ => h4 t a b⟩
  · exact ⟨-1, rfl, by omega, fun z => by omega, fun t _ b c => h1 t c b⟩
section
variable {w : List Bool} {us : List Str} {os : List Out} {h : Int} {S : Sto} {fs : List Fn} {k f : Nat} {dd tt : D}
theorem d_last_start (hh : fs[i_has_hour]? = some ⟨2, 4, ir_has_hour⟩) (hg : fs[i_last_hour]? = some ⟨2, 7, ir_last_hour⟩) (hn : fs[i_last_in_window]? = some ⟨2, 2, ir_last_in_window⟩) (hcl : fs[i_closures_of]? = some ⟨2, 5, ir_closures_of⟩) (hf : fs[f]? = some ⟨3, 6, ir_last_start⟩) (hw : 0 < w.length) (hl : w.length ≤ 1000000)
    (h1 : h ≤ 1000000) (hlen : os.length ≤ 1000) (hos : ∀ o ∈ os, o.2.1 ≤ 1000000) : ∃ s, den fs (k + 4) f [jobD us dd w tt, outsD os, .int h] S = .ok (vl s) S ∧ Ls (free w us os) h s := by
  rw [den_at hf]
  have hcl0 : (clo us os).length ≤ 1000 := by
    unfold clo
    rw [List.length_map]
    exact Nat.le_trans (List.length_filter_le _ _) hlen
  have hbd : ∀ c ∈ (clo us os).mergeSort negLe, c.1 ≤ 1000000 := fun c hc => by
    have hc' := List.mem_mergeSort.mp hc
    obtain ⟨o, ho, rfl⟩ := List.mem_map.mp hc'
    exact hos o (List.mem_filter.mp ho).1
  have hso := neg_sorted (clo us os)
  obtain ⟨d1, g1, l1⟩ := d_last_in (k := k) (S := S) hh hg hn hw hl h1
  obtain ⟨s1, rfl, L1⟩ := l1.ls
  obtain ⟨e', S', g2, s, v4, v5, rfl, rfl, p0, p1, p3, p4⟩ := forL_inv (f := fun x e1 S2 => (match asgT (.tp [4, 5]) x e1 with
        | some e2 => exSs (den fs (k + 3)) (ir_last_start.at 1).bd e2 S2
        | none => PV.R.bad)) (e := [some (jobD us dd w tt), some (outsD os), some (.int h), some (vl s1), none, none]) (S := S) (xs := ((clo us os).mergeSort negLe).map encP)
      (fun i e' S' => ∃ (s : Int) (v4 v5 : Option D), e' = [some (jobD us dd w tt), some (outsD os), some (.int h), some (vl s), v4, v5] ∧ S' = S ∧ -1 ≤ s ∧ (0 ≤ s → s ≤ h ∧ opn w s = true) ∧
        (∀ t, s < t → t ≤ h → 0 ≤ t → opn w t = false ∨ ∃ c ∈ ((clo us os).mergeSort negLe).take i, c.1 ≤ t ∧ t < c.2) ∧ ∀ c ∈ ((clo us os).mergeSort negLe).take i, 0 ≤ s → ¬(c.1 ≤ s ∧ s < c.2))
      ⟨s1, none, none, rfl, rfl, L1.lo, L1.hi, fun t a b c => .inl (L1.no t a b c), fun c hc => by simp at hc⟩ (fun i x e' S' hx hp => by
        obtain ⟨s, v4, v5, rfl, rfl, p0, p1, p3, p4⟩ := hp
        obtain ⟨c, hc, rfl⟩ : ∃ c, ((clo us os).mergeSort negLe)[i]? = some c ∧ encP c = x := by
          rw [List.getElem?_map] at hx
          cases q : ((clo us os).mergeSort negLe)[i]? with
          | none => rw [q] at hx; cases hx
          | some o => rw [q] at hx; cases hx; exact ⟨o, rfl, rfl⟩
        have hmem := List.mem_of_getElem? hc
        have htk : ((clo us os).mergeSort negLe).take (i + 1) = ((clo us os).mergeSort negLe).take i ++ [c] := by rw [List.take_succ, hc]; rfl
        have hbef := pw_get hso hc
        rw [htk]
        have hte : evT (den fs (k + 3)) (.and (.cons (.cmp .IsNot (.var 3) (.cst .non)) (.cons (.chn .LtE .Lt (.var 4) (.var 3) (.var 5)) .nil))) [some (jobD us dd w tt), some (outsD os), some (.int h), some (vl s), some (.int c.1), some (.int c.2)] S' = .ok (decide (0 ≤ s) && (decide (c.1 ≤ s) && decide (s < c.2))) S' := by
          by_cases hs : 0 ≤ s
          · rw [vl_nn hs, decide_eq_true hs]
            exact et_and2 (et_cmp (x := .int s) (y := .non) (S1 := S') (S2 := S') rfl rfl rfl) fun _ => et_chn (x := .int c.1) (y := .int s) (z := .int c.2) rfl rfl rfl fun _ => ⟨rfl, rfl⟩
          · rw [vl_non (by omega), decide_eq_false hs]
            exact (et_and2 (p := false) (q := false) (et_cmp (x := .non) (y := .non) (S1 := S') (S2 := S') rfl rfl rfl) fun z => absurd z Bool.false_ne_true).trans rfl
        by_cases hin : 0 ≤ s ∧ c.1 ≤ s ∧ s < c.2
        · obtain ⟨d2, g2, l2⟩ := d_last_in (k := k) (S := S') (h := c.1 - 1) hh hg hn hw hl (by have := hbd c hmem; omega)
          obtain ⟨r2, rfl, L2⟩ := l2.ls
          obtain ⟨i1, i2, i3⟩ := hin
          refine ⟨[some (jobD us dd w tt), some (outsD os), some (.int h), some (vl r2), some (.int c.1), some (.int c.2)], S', .inl ((xs_cons ((x_T (hte.trans (by rw [decide_eq_true i1, decide_eq_true i2, decide_eq_true i3]; rfl))).trans ((xs_cons (x_set (x := vl r2) (S1 := S') (ev_call (es_cons (ev_idx (x := jobD us dd w tt) (y := .int 2) (z := Wn w) rfl rfl rfl) (es_cons (x := .int (c.1 - 1)) rfl es_nil)) g2))).trans rfl))).trans rfl), r2, _, _, rfl, rfl, L2.lo, fun z => ⟨by have := L2.hi z; have := p1 i1; omega, (L2.hi z).2⟩, fun t a b c0 => ?_, fun c' hc' z0 => ?_⟩
          · by_cases ht : s < t
            · rcases p3 t ht b c0 with z | ⟨c', z1, z2⟩
              · exact .inl z
              · exact .inr ⟨c', List.mem_append_left _ z1, z2⟩
            · by_cases ht2 : c.1 ≤ t
              · exact .inr ⟨c, List.mem_append_right _ List.mem_cons_self, ht2, by omega⟩
              · exact .inl (L2.no t a (by omega) c0)
          · have hr := L2.hi z0
            rcases List.mem_append.mp hc' with z | z
            · have h1 := p4 c' z i1
              have h2 := hbef c' z
              omega
            · rw [List.mem_singleton.mp z]; omega
        · refine ⟨[some (jobD us dd w tt), some (outsD os), some (.int h), some (vl s), some (.int c.1), some (.int c.2)], S', .inl ((xs_cons ((x_F (hte.trans (by
            have : (decide (0 ≤ s) && (decide (c.1 ≤ s) && decide (s < c.2))) = false := by
              rw [← Bool.decide_and, ← Bool.decide_and]; exact decide_eq_false hin
            rw [this]))).trans rfl)).trans rfl), s, _, _, rfl, rfl, p0, p1, fun t a b c0 => ?_, fun c' hc' z0 => ?_⟩
          · rcases p3 t a b c0 with z | ⟨c', z1, z2⟩
            · exact .inl z
            · exact .inr ⟨c', List.mem_append_left _ z1, z2⟩
          · rcases List.mem_append.mp hc' with z | z
            · exact p4 c' z z0
            · rw [List.mem_singleton.mp z]; exact fun q => hin ⟨z0, q⟩)
  rw [List.length_map, List.take_length] at p3 p4
  refine ⟨s, Ret.run rfl (ret_cons (x_set (x := vl s1) (S1 := S') (ev_call (es_cons (ev_idx (x := jobD us dd w tt) (y := .int 2) (z := Wn w) rfl rfl rfl) (es_cons (ev_var rfl) es_nil)) g1)) (ret_cons ((x_for (ei_seq (x := .lst (((clo us os).mergeSort negLe).map encP)) (srtk_clo (ev_call (es_cons (ev_var rfl) (es_cons (ev_var rfl) es_nil)) (d_closures (k := k + 2) hcl)) hcl0) rfl) rfl).trans g2) (ret_ret rfl))), p0, fun z => ⟨(p1 z).1, ?_⟩, fun t a b c0 => ?_⟩
  · cases hfr : free w us os s with
    | true => rfl
    | false =>
      rcases free_iff.mp hfr with q | ⟨c, hc, q⟩
      · rw [(p1 z).2] at q; cases q
      · exact absurd q (p4 c (List.mem_mergeSort.mpr hc) z)
  · rcases p3 t a b c0 with z | ⟨c, hc, z⟩
    · exact free_iff.mpr (.inl z)
    · exact free_iff.mpr (.inr ⟨c, List.mem_mergeSort.mp hc, z⟩)
end
/-! ### the law's own -/
def tideD (t : List (List Int)) : D := .tup (t.map fun p => .tup (p.map D.int))
def lvD (l : List Int) : D := .lst (l.map D.int)
section
variable {h : Int} {S : Sto} {fs : List Fn} {k f : Nat}
end
end L2.PV


/-! E8: the law's search, comparison, put. -/
namespace L2.PV
open PySem PySem.Spec PyProof.Rows LamX

section
variable {h : Int} {S : Sto} {fs : List Fn} {k f : Nat}
end
theorem ev_and2 {Δ : Den} {e : En} {S : Sto} {a b : IE} {p q : Bool} (h : evE Δ a e S = .ok (.bl p) S) (h2 : p = true → evE Δ b e S = .ok (.bl q) S) : evE Δ (.and (.cons a (.cons b .nil))) e S = .ok (.bl (p && q)) S := by
  have e1 : evE Δ (.and (.cons a (.cons b .nil))) e S = evAnd Δ (.cons a (.cons b .nil)) e S := by
    unfold evE; rfl
  rw [e1]
  unfold evAnd
  rw [h]
  cases p with
  | false => rfl
  | true =>
    show evAnd Δ (.cons b .nil) e S = _
    unfold evAnd
    exact h2 rfl
/-! ### the same -/
def scal1 (d : D) : Prop := (∃ i, d = .int i) ∨ (∃ b, d = .bl b) ∨ d = .non ∨ ∃ s, d = .str s
section
variable {S : Sto} {fs : List Fn} {k f : Nat}
theorem d_same0 (hf : fs[f]? = some ⟨2, 3, ir_law_same⟩) {x : D} (hx : scal1 x) : den fs (k + 1) f [x, x] S = .ok (.bl true) S := by
  rw [den_at hf]
  rcases hx with ⟨i, rfl⟩ | ⟨b, rfl⟩ | rfl | ⟨s, rfl⟩
  · refine Ret.run rfl (ret_F0 (S1 := S) rfl (ret_F0 (S1 := S) rfl (ret_F0 (S1 := S) rfl (ret_F0 (S1 := S) rfl (ret_ret (ev_cmp (x := .int i) (y := .int i) (S1 := S) (S2 := S) rfl rfl ?_))))))
    show some (decide (i = i)) = _
    rw [decide_eq_true rfl]
  · refine Ret.run rfl (ret_F0 (S1 := S) rfl (ret_F0 (S1 := S) rfl (ret_F0 (S1 := S) rfl (ret_F0 (S1 := S) rfl (ret_ret (ev_cmp (x := .bl b) (y := .bl b) (S1 := S) (S2 := S) rfl rfl ?_))))))
    show some (decide (b = b)) = _
    rw [decide_eq_true rfl]
  · exact Ret.run rfl (ret_F0 (S1 := S) rfl (ret_T (S1 := S) rfl (ret_ret rfl)))
  · refine Ret.run rfl (ret_F0 (S1 := S) rfl (ret_F0 (S1 := S) rfl (ret_T (S1 := S) rfl (ret_ret ?_))))
    refine ev_and2 (p := true) (q := true) rfl fun _ => (ev_cmp (x := .str s) (y := .str s) (S1 := S) (S2 := S) (k := true) rfl rfl ?_)
    show some (decide (s = s)) = _
    rw [decide_eq_true rfl]
theorem d_same1 (hs : fs[i_law_same]? = some ⟨2, 3, ir_law_same⟩) {xs : List D} (hx : ∀ x ∈ xs, scal1 x) (hl : xs.length ≤ 1000000) : den fs (k + 2) i_law_same [.tup xs, .tup xs] S = .ok (.bl true) S := by
  rw [den_at hs]
  obtain ⟨e', S', g1, v2, rfl, rfl⟩ := forL_inv (f := fun x e1 S2 => (match asgT (.nm 2) x e1 with
      | some e2 => exSs (den fs (k + 1)) ((ir_law_same.at 0).thn.at 1).bd e2 S2
      | none => PV.R.bad)) (e := [some (.tup xs), some (.tup xs), none]) (S := S) (xs := rngD 0 1 xs.length) (fun i e' S' => ∃ v2, e' = [some (.tup xs), some (.tup xs), v2] ∧ S' = S) ⟨none, rfl, rfl⟩ (fun i x e' S' hxi hp => by
      obtain ⟨v2, rfl, rfl⟩ := hp
      have hi := (List.getElem?_eq_some_iff.mp hxi).1
      rw [rngD_len] at hi
      have hx2 := rngD_get hxi
      subst hx2
      have hix : idxF S' (.tup xs) (.int (0 + (i : Int) * 1)) = some xs[i] := atI_ok (by omega) (by rw [show (0 + (i : Int) * 1).toNat = i by omega]; exact List.getElem?_eq_getElem hi)
      have hte : evT (den fs (k + 1)) (.not (.call i_law_same (.cons (.idx (.var 0) (.var 2)) (.cons (.idx (.var 1) (.var 2)) .nil)) [])) [some (.tup xs), some (.tup xs), some (.int (0 + (i : Int) * 1))] S' = .ok (!true) S' :=
        et_not (et_call (es_cons (ev_idx (x := .tup xs) (y := .int (0 + (i : Int) * 1)) rfl rfl hix) (es_cons (ev_idx (x := .tup xs) (y := .int (0 + (i : Int) * 1)) rfl rfl hix) es_nil)) (d_same0 hs (hx _ (List.getElem_mem hi))))
      exact ⟨_, S', .inl ((xs_cons ((x_F hte).trans rfl)).trans rfl), _, rfl, rfl⟩)
  refine Ret.run rfl (ret_T (S1 := S') rfl (ret_F0 (S1 := S') ?_ (ret_cons ((x_for (xs := rngD 0 1 xs.length) (S1 := S') ?_ rfl).trans g1) (ret_ret rfl))))
  · refine et_or2 (p := false) (q := false) rfl fun _ => ?_
    refine et_cmp (x := .int xs.length) (y := .int xs.length) (S1 := S') (S2 := S') rfl rfl ?_
    show some (!decide ((xs.length : Int) = xs.length)) = _
    rw [decide_eq_true rfl]; rfl
  · exact (ei_rng1 (j := (xs.length : Int)) (ev_blt (es_cons (x := .tup xs) rfl es_nil) rfl) (by omega) (by omega)).trans rfl
end
end L2.PV


/-! E9: the least period of a row; canonical windows. -/
namespace L2.PV
open PySem PySem.Spec PyProof.Rows LamX

/-- p is a period of l that divides its length -/
def qp (l : List Bool) (p : Nat) : Bool := decide (l.length % p = 0) && decide (l.drop p = l.take (l.length - p))
structure LeastP (l : List Bool) (p : Nat) : Prop where
  lo : 1 ≤ p
  hi : p ≤ l.length
  ok : qp l p = true
  no : ∀ j, 1 ≤ j → j < p → qp l j = false
theorem LeastP.uniq {l : List Bool} {p q : Nat} (a : LeastP l p) (b : LeastP l q) : p = q := by
  rcases Nat.lt_trichotomy p q with h | h | h
  · have := b.no p a.lo h; rw [a.ok] at this; cases this
  · exact h
  · have := a.no q b.lo h; rw [b.ok] at this; cases this
theorem qp_len {l : List Bool} (h : 0 < l.length) : qp l l.length = true := by
  unfold qp
  rw [decide_eq_true (Nat.mod_self _), decide_eq_true (by simp)]
  rfl
theorem per_step {l : List Bool} {p : Nat} (h : l.drop p = l.take (l.length - p)) {i : Nat} (hi : i + p < l.length) : l[i + p]? = l[i]? := by
  have h1 := congrArg (fun z : List Bool => z[i]?) h
  simp only [List.getElem?_drop, List.getElem?_take] at h1
  rw [if_pos (by omega)] at h1
  rw [Nat.add_comm i p]
  exact h1
theorem per_mod {l : List Bool} {p : Nat} (hp : 0 < p) (h : l.drop p = l.take (l.length - p)) : ∀ (i : Nat), i < l.length → l[i]? = l[i % p]? := by
  intro i
  induction i using Nat.strongRecOn with
  | _ i ih =>
    intro hi
    by_cases hip : i < p
    · rw [Nat.mod_eq_of_lt hip]
    · have := per_step h (i := i - p) (by omega)
      rw [show i - p + p = i by omega] at this
      rw [this, ih (i - p) (by omega) (by omega), ← Nat.mod_eq_sub_mod (by omega)]
theorem flat_len {α : Type} (xs : List α) (n : Nat) : (List.replicate n xs).flatten.length = n * xs.length := by
  induction n with
  | zero => simp
  | succ n ih => rw [List.replicate_succ, List.flatten_cons, List.length_append, ih, Nat.succ_mul]; omega
theorem flat_get {α : Type} (xs : List α) : ∀ (n i : Nat), i < n * xs.length → (List.replicate n xs).flatten[i]? = xs[i % xs.length]?
  | 0, i, h => by simp at h
  | n + 1, i, h => by
    rw [List.replicate_succ, List.flatten_cons]
    by_cases hi : i < xs.length
    · rw [List.getElem?_append_left hi, Nat.mod_eq_of_lt hi]
    · rw [List.getElem?_append_right (by omega), flat_get xs n (i - xs.length) (by rw [Nat.succ_mul] at h; omega), ← Nat.mod_eq_sub_mod (by omega)]
/-- the other test of a period -/
theorem rep_iff {l : List Bool} {p : Nat} (hp : 0 < p) (hpl : p ≤ l.length) (hd : l.length % p = 0) : ((List.replicate (l.length / p) (l.take p)).flatten = l ↔ l.drop p = l.take (l.length - p)) := by
  have htl : (l.take p).length = p := by rw [List.length_take]; omega
  have hdm : l.length / p * p = l.length := Nat.div_mul_cancel (Nat.dvd_of_mod_eq_zero hd)
  have hget : ∀ i, i < l.length → (List.replicate (l.length / p) (l.take p)).flatten[i]? = l[i % p]? := fun i hi => by
    rw [flat_get _ _ _ (by rw [htl, hdm]; exact hi), htl, List.getElem?_take, if_pos (Nat.mod_lt _ hp)]
  constructor
  · intro h
    apply List.ext_getElem?
    intro i
    rw [List.getElem?_drop, List.getElem?_take]
    by_cases hi : i < l.length - p
    · rw [if_pos hi]
      have e1 := hget (p + i) (by omega)
      have e2 := hget i (by omega)
      rw [h] at e1 e2
      rw [e1, e2, Nat.add_mod_left]
    · rw [if_neg hi, List.getElem?_eq_none (by omega)]
  · intro h
    apply List.ext_getElem?
    intro i
    by_cases hi : i < l.length
    · rw [hget i hi, per_mod hp h i hi]
    · rw [List.getElem?_eq_none (by rw [flat_len, htl, hdm]; omega), List.getElem?_eq_none (by omega)]
/-- the row cut at its least period is as the row -/
theorem opn_take {l : List Bool} {p : Nat} (h : LeastP l p) (t : Int) : opn (l.take p) t = opn l t := by
  obtain ⟨h1, h2⟩ := an h.ok
  have hd := of_decide_eq_true h1
  have hp := of_decide_eq_true h2
  have htl : (l.take p).length = p := by rw [List.length_take]; have := h.hi; omega
  have hl : 0 < l.length := Nat.lt_of_lt_of_le h.lo h.hi
  have hix := opn_ix (w := l) (h := t) hl
  have hm := Int.emod_nonneg t (b := (l.length : Int)) (by omega)
  unfold opn
  rw [htl, List.getD_eq_getElem?_getD, List.getD_eq_getElem?_getD, per_mod h.lo hp _ hix, List.getElem?_take]
  have hmod : (t % (l.length : Int)).toNat % p = (t % (p : Int)).toNat := by
    have h3 : ((t % (l.length : Int)).toNat : Int) = t % (l.length : Int) := Int.toNat_of_nonneg hm
    have h4 : (t % (l.length : Int)) % (p : Int) = t % (p : Int) := Int.emod_emod_of_dvd t (Int.natCast_dvd_natCast.mpr (Nat.dvd_of_mod_eq_zero hd))
    have h5 := Int.emod_nonneg t (b := (p : Int)) (by have := h.lo; omega)
    have h6 : (((t % (l.length : Int)).toNat % p : Nat) : Int) = t % (p : Int) := by rw [Int.natCast_emod, h3, h4]
    omega
  rw [hmod]
  have h5 := Int.emod_lt_of_pos t (b := (p : Int)) (by have := h.lo; omega)
  have h6 := Int.emod_nonneg t (b := (p : Int)) (by have := h.lo; omega)
  rw [if_pos (by omega)]
section
variable {l : List Bool} {S : Sto} {fs : List Fn} {k f : Nat}
theorem slc_bs (hl : l.length ≤ 16777216) (lo hi : Option Int) : slcF S (.str (bs l)) lo hi = some (.str (bs (cutD l lo hi))) := by
  show (if (bs l).length ≤ 16777216 then some (D.str (cutS (bs l) lo hi)) else none) = _
  rw [if_pos (by rw [bs_len]; exact hl), bs_cut]
theorem cut_take {α : Type} {l : List α} {p : Nat} (h : p ≤ l.length) : cutD l none (some (p : Int)) = l.take p := by
  unfold cutD
  rw [HT.sIx_none, HT.sIx_nat, Nat.min_eq_left h]
  simp
theorem cut_drop {α : Type} {l : List α} {p : Nat} (h : p ≤ l.length) : cutD l (some (p : Int)) none = l.drop p := by
  unfold cutD
  rw [HT.sIx_none, HT.sIx_nat, Nat.min_eq_left h]
  rw [List.take_of_length_le (by rw [List.length_drop]; omega)]
theorem wn0 (l : List Bool) : Wn l = .tup [.str (bs []), .str (bs l)] := by unfold Wn; rw [s0]
theorem mulS_ok {a : Str} {q : Int} (h1 : -(2 ^ 62) ≤ q) (h2 : q < 2 ^ 62) (h3 : a.length * q.toNat ≤ 16777216) : mulF (.str a) (.int q) = some (.str ⟨(rep a.cps.toList q).toArray⟩) := by
  unfold mulF
  exact if_pos ⟨h1, h2, h3⟩
theorem d_least (hf : fs[f]? = some ⟨1, 2, ir_law_a_least⟩) (hl0 : 0 < l.length) (hl : l.length ≤ 1000000) : ∃ p : Nat, LeastP l p ∧ den fs (k + 1) f [.str (bs l)] S = .ok (.str (bs (l.take p))) S := by
  rw [den_at hf]
  have hlen : ∀ v, evE (den fs k) (.blt .len false (.cons (.var 0) .nil)) [some (.str (bs l)), v] S = .ok (.int l.length) S := fun v => by
    refine ev_blt (es_cons (ev_var (x := .str (bs l)) rfl) es_nil) ?_
    simp [evE, evEs, evO, evT, evTA, evTO, evAnd, evOr, evI, evIf, R.bind, R.of, binF, addF, int2, cmpF, eqF, D.isNon, bltF, rd, idxF, slcF, truF, isiF, newL, asgT, asgs, containsF, D.key, metP, isLst, isDic, isStr, metF, seqF, bs_len, show l.length ≤ 16777216 by omega]
  rcases forL_ret (f := fun x e1 S2 => (match asgT (.nm 1) x e1 with
      | some e2 => exSs (den fs k) (ir_law_a_least.at 0).bd e2 S2
      | none => PV.R.bad)) (Q := fun d S' => S' = S ∧ ∃ p : Nat, d = .str (bs (l.take p)) ∧ LeastP l p) (rngD 1 1 l.length) (fun i e' S' => ∃ v2, e' = [some (.str (bs l)), v2] ∧ S' = S ∧ ∀ j, 1 ≤ j → j < 1 + i → qp l j = false) 0 (e := [some (.str (bs l)), none]) (S := S) ⟨none, rfl, rfl, fun j a b => by omega⟩ (fun i x e' S' hx hp => by
      obtain ⟨v2, rfl, rfl, hp⟩ := hp
      rw [Nat.zero_add] at hp ⊢
      have hi := (List.getElem?_eq_some_iff.mp hx).1
      rw [rngD_len] at hi
      have hx2 := rngD_get hx
      rw [show (1 + (i : Int) * 1) = ((1 + i : Nat) : Int) by omega] at hx2
      subst hx2
      have hsl : evE (den fs k) (.slc (.var 0) .nil (.cons (.var 1) .nil)) [some (.str (bs l)), some (.int ((1 + i : Nat) : Int))] S' = .ok (.str (bs (l.take (1 + i)))) S' := by
        refine ev_slc (x := .str (bs l)) (l := none) (u := some ((1 + i : Nat) : Int)) (S1 := S') (S2 := S') (S3 := S') rfl rfl (eo_int rfl) ?_
        rw [slc_bs (by omega), cut_take (by omega)]
      have hmd : (l.length : Int) % ((1 + i : Nat) : Int) = ((l.length % (1 + i) : Nat) : Int) := (Int.natCast_emod _ _).symm
      have hdv : (l.length : Int) / ((1 + i : Nat) : Int) = ((l.length / (1 + i) : Nat) : Int) := (Int.natCast_ediv _ _).symm
      have hle : l.length / (1 + i) * (1 + i) ≤ l.length := Nat.div_mul_le_self _ _
      have hte : evT (den fs k) (.and (.cons (.cmp .Eq (.bin .Mod (.blt .int false (.cons (.blt .len false (.cons (.var 0) .nil)) .nil)) (.var 1)) (.cst (.int 0))) (.cons (.cmp .Eq (.bin .Mult (.slc (.var 0) .nil (.cons (.var 1) .nil)) (.bin .FloorDiv (.blt .len false (.cons (.var 0) .nil)) (.var 1))) (.var 0)) .nil))) [some (.str (bs l)), some (.int ((1 + i : Nat) : Int))] S' = .ok (qp l (1 + i)) S' := by
        have t1 : evT (den fs k) (.cmp .Eq (.bin .Mod (.blt .int false (.cons (.blt .len false (.cons (.var 0) .nil)) .nil)) (.var 1)) (.cst (.int 0))) [some (.str (bs l)), some (.int ((1 + i : Nat) : Int))] S' = .ok (decide (l.length % (1 + i) = 0)) S' := by
          refine et_cmp (x := .int ((l.length : Int) % ((1 + i : Nat) : Int))) (y := .int 0) (S1 := S') (S2 := S') (ev_bin (x := .int l.length) (y := .int ((1 + i : Nat) : Int)) (S1 := S') (S2 := S') (ev_blt (es_cons (x := .int l.length) (hlen _) es_nil) rfl) rfl (mod_ok (by omega))) rfl ?_
          show some (decide ((l.length : Int) % ((1 + i : Nat) : Int) = 0)) = _
          congr 1
          rw [hmd]
          by_cases z : l.length % (1 + i) = 0
          · rw [decide_eq_true z, decide_eq_true (by omega)]
          · rw [decide_eq_false z, decide_eq_false (by omega)]
        by_cases hd : l.length % (1 + i) = 0
        · refine et_and2 t1 fun _ => et_cmp (x := .str (bs (List.replicate (l.length / (1 + i)) (l.take (1 + i))).flatten)) (y := .str (bs l)) (S1 := S') (S2 := S') (ev_bin (x := .str (bs (l.take (1 + i)))) (y := .int ((l.length / (1 + i) : Nat) : Int)) (S1 := S') (S2 := S') hsl (ev_bin (x := .int l.length) (y := .int ((1 + i : Nat) : Int)) (S1 := S') (S2 := S') (hlen _) rfl ?_) ?_) rfl ?_
          · rw [← hdv]; exact fdiv_ok (by omega) (by omega)
          · have hdl : l.length / (1 + i) ≤ l.length := Nat.div_le_self _ _
            show mulF (.str (bs (l.take (1 + i)))) (.int ((l.length / (1 + i) : Nat) : Int)) = _
            generalize l.length / (1 + i) = q at hdl hle ⊢
            have hm := mulS_ok (a := bs (l.take (1 + i))) (q := (q : Int)) (by omega) (by omega) (by
              rw [bs_len, List.length_take, Nat.min_eq_left (by omega), Int.toNat_natCast, Nat.mul_comm]; omega)
            rw [hm]
            unfold rep bs
            simp only [Int.toNat_natCast, List.map_flatten, List.map_replicate]
          · show some (decide (bs _ = bs _)) = _
            congr 1
            have hiff := rep_iff (l := l) (p := 1 + i) (by omega) (by omega) hd
            by_cases z : l.drop (1 + i) = l.take (l.length - (1 + i))
            · rw [decide_eq_true z, decide_eq_true (bs_inj.mpr (hiff.mpr z))]
            · rw [decide_eq_false z, decide_eq_false fun y => z (hiff.mp (bs_inj.mp y))]
        · refine (et_and2 (q := false) t1 fun z => absurd (of_decide_eq_true z) hd).trans ?_
          unfold qp
          rw [decide_eq_false hd]
          rfl
      cases hc : qp l (1 + i) with
      | true => exact .inr ⟨.str (bs (l.take (1 + i))), _, S', xs_stop ((x_T (hte.trans (by rw [hc]))).trans (xs_stop (x_ret hsl))), rfl, 1 + i, rfl, by omega, by omega, hc, hp⟩
      | false =>
        refine .inl ⟨_, S', .inl ((xs_cons ((x_F (hte.trans (by rw [hc]))).trans rfl)).trans rfl), _, rfl, rfl, fun j a b => ?_⟩
        by_cases hj : j = 1 + i
        · rw [hj]; exact hc
        · exact hp j a (by omega)) with ⟨e', S', g1, v2, rfl, rfl, g2⟩ | ⟨d, e', S', g1, rfl, p, rfl, g2⟩
  · rw [Nat.zero_add, rngD_len] at g2
    have := g2 l.length (by omega) (by omega)
    rw [qp_len hl0] at this
    cases this
  · refine ⟨p, g2, Ret.run rfl ⟨e', xs_stop ((x_for ((ei_rng2 (i := 1) (j := (l.length : Int) + 1) rfl (ev_bin (x := .int l.length) (y := .int 1) (S1 := S') (S2 := S') (hlen _) rfl rfl) ⟨by decide, by decide, by omega, by omega⟩ (by omega)).trans (by rw [show ((l.length : Int) + 1 - 1).toNat = l.length by omega])) rfl).trans g1)⟩⟩
end
end L2.PV


/-! E10: canonical windows of depths. -/
namespace L2.PV
open PySem PySem.Spec PyProof.Rows LamX

def b1 (b : Bool) : D := .str (bs [b])
theorem asStrs_map : ∀ l : List Bool, asStrs (l.map b1) = some (l.map fun b => bs [b])
  | [] => rfl
  | b :: l => by
    show (asStrs (l.map b1)).map (bs [b] :: ·) = _
    rw [asStrs_map l]; rfl
theorem join_bs {l : List Bool} {S : Sto} (hl : l.length ≤ 1000000) : metF .join (.str "") [.lst (l.map b1)] S = .ok (.str (bs l)) S := by
  show (match asStrs (l.map b1) with
    | some ys => if (ys.map fun s : Str => s.length).sum + ys.length * ("" : Str).length ≤ 16777216 then PV.R.ok (D.str (Txt.join "" ys)) S else .bad
    | none => .bad) = _
  rw [asStrs_map]
  have h1 : ((l.map fun b => bs [b]).map fun s : Str => s.length).sum = l.length := by
    clear hl
    induction l with
    | nil => rfl
    | cons b l ih =>
      simp [bs_len] at ih ⊢
      omega
  have h2 : Txt.join "" (l.map fun b => bs [b]) = bs l := by
    have h3 := SX.join_S [] (l.map fun b => [bc b])
    have e1 : ("" : Str) = SX.S [] := s0
    rw [e1]
    have e2 : (l.map fun b => bs [b]) = (l.map fun b => [bc b]).map SX.S := by
      rw [List.map_map]
      rfl
    rw [e2, h3]
    have e3 : TL.joinL [] (l.map fun b => [bc b]) = l.map bc := by
      clear h1 h3 e1 e2 hl
      induction l with
      | nil => rfl
      | cons b l ih =>
        cases l with
        | nil => rfl
        | cons b' l' =>
          show [bc b] ++ ([] ++ TL.joinL [] (([b' ] ++ l').map fun b => [bc b])) = _
          rw [List.nil_append]
          exact congrArg (bc b :: ·) ih
    rw [e3]
    rfl
  show (if ((l.map fun b => bs [b]).map fun s : Str => s.length).sum + (l.map fun b => bs [b]).length * ("" : Str).length ≤ 16777216 then PV.R.ok (D.str (Txt.join "" (l.map fun b => bs [b]))) S else .bad) = _
  rw [h1, h2, if_pos (by rw [s0, bs_len]; simp; omega)]
section
variable {Δ : Den} {e : En} {S S1 : Sto} {t a b : IE} {x : D} {p : Bool}
theorem ev_ife (h : evT Δ t e S = .ok p S1) (h2 : evE Δ (if p then a else b) e S1 = .ok x S1) : evE Δ (.ife t a b) e S = .ok x S1 := by
  unfold evE
  rw [h]
  cases p with
  | true => exact h2
  | false => exact h2
theorem ev_01 (h : evT Δ t e S = .ok p S1) : evE Δ (.ife t (.cst (.str "1")) (.cst (.str "0"))) e S = .ok (b1 p) S1 := by
  refine ev_ife h ?_
  cases p with
  | true =>
    show PV.R.ok (D.str "1") S1 = _
    rw [s1']; rfl
  | false =>
    show PV.R.ok (D.str "0") S1 = _
    rw [s0']; rfl
end
section
variable {l : List Bool} {S : Sto} {fs : List Fn} {k f : Nat} {h : Int}
theorem d_law_in (hf : fs[f]? = some ⟨2, 3, ir_law_a_in⟩) (hw : 0 < l.length) (hl : l.length ≤ 16777216) (h0 : 0 ≤ h) : den fs (k + 1) f [Wn l, .int h] S = .ok (.bl (opn l h)) S := by
  rw [den_at hf]
  have hix := opn_ix (w := l) (h := h) hw
  have hm := Int.emod_nonneg h (b := (l.length : Int)) (by omega)
  refine Ret.run rfl (ret_cons (x_set (x := .int 0) (S1 := S) ?_) (ret_F0 (et_cmp (x := .int h) (y := .int 0) (S1 := S) (S2 := S) rfl rfl ?_) (ret_ret ?_)))
  · refine ev_blt (es_cons (x := .str "") rfl es_nil) ?_
    simp [evE, evEs, evO, evT, evTA, evTO, evAnd, evOr, evI, evIf, R.bind, R.of, binF, addF, int2, cmpF, eqF, D.isNon, bltF, rd, idxF, slcF, truF, isiF, newL, asgT, asgs, containsF, D.key, metP, isLst, isDic, isStr, metF, seqF, s0, bs_len]
  · show some (decide (h < 0)) = _
    rw [decide_eq_false (by omega)]
  · refine ev_cmp (x := .str ⟨#[bc l[(h % (l.length : Int)).toNat]]⟩) (S1 := S) (ev_idx (x := .str (bs l)) (y := .int (h % (l.length : Int))) (S1 := S) (S2 := S) rfl ?_ (idx_bs hl hm hix)) rfl ?_
    · refine ev_bin (x := .int h) (y := .int l.length) (S1 := S) (S2 := S) (ev_blt (es_cons (x := .int (h - 0)) rfl es_nil) ?_) (ev_blt (es_cons (x := .str (bs l)) rfl es_nil) ?_) (mod_ok (by omega))
      · show PV.R.ok (D.int (h - 0)) S = _
        rw [Int.sub_zero]
      · simp [evE, evEs, evO, evT, evTA, evTO, evAnd, evOr, evI, evIf, R.bind, R.of, binF, addF, int2, cmpF, eqF, D.isNon, bltF, rd, idxF, slcF, truF, isiF, newL, asgT, asgs, containsF, D.key, metP, isLst, isDic, isStr, metF, seqF, bs_len, hl]
    · rw [eq_1]
      unfold opn
      rw [List.getD_eq_getElem?_getD, List.getElem?_eq_getElem hix]
      rfl
theorem d_law_canonical (hle : fs[i_law_a_least]? = some ⟨1, 2, ir_law_a_least⟩) (hin : fs[i_law_a_in]? = some ⟨2, 3, ir_law_a_in⟩) (hf : fs[f]? = some ⟨1, 4, ir_law_a_canonical⟩) (hl0 : 0 < l.length) (hl : l.length ≤ 1000000) : ∃ p : Nat, LeastP l p ∧ den fs (k + 2) f [Wn l] S = .ok (Wn (l.take p)) S := by
  obtain ⟨p, hp, g1⟩ := d_least (k := k) (S := S) hle hl0 hl
  refine ⟨p, hp, ?_⟩
  have hpl := hp.hi
  have htl : (l.take p).length = p := by rw [List.length_take]; omega
  rw [den_at hf]
  refine Ret.run rfl (ret_cons (x_set (x := .int p) (S1 := S) ?_) (ret_cons (x_set (x := .int 0) (S1 := S) ?_) (ret_cons (e1 := [some (Wn l), some (.int p), some (.int 0), none]) (S1 := S) ?_ (ret_ret ?_))))
  · refine ev_blt (es_cons (ev_call (es_cons (x := .str (bs l)) rfl es_nil) g1) es_nil) ?_
    simp [evE, evEs, evO, evT, evTA, evTO, evAnd, evOr, evI, evIf, R.bind, R.of, binF, addF, int2, cmpF, eqF, D.isNon, bltF, rd, idxF, slcF, truF, isiF, newL, asgT, asgs, containsF, D.key, metP, isLst, isDic, isStr, metF, seqF, bs_len, htl]
    omega
  · refine ev_blt (es_cons (x := .str "") rfl es_nil) ?_
    simp [evE, evEs, evO, evT, evTA, evTO, evAnd, evOr, evI, evIf, R.bind, R.of, binF, addF, int2, cmpF, eqF, D.isNon, bltF, rd, idxF, slcF, truF, isiF, newL, asgT, asgs, containsF, D.key, metP, isLst, isDic, isStr, metF, seqF, s0, bs_len]
  · refine (x_for (xs := []) (S1 := S) ?_ rfl).trans rfl
    refine (ei_rng1 (j := 0) (ev_blt (es_cons (x := .str "") rfl es_nil) ?_) (by decide) (by decide)).trans rfl
    simp [evE, evEs, evO, evT, evTA, evTO, evAnd, evOr, evI, evIf, R.bind, R.of, binF, addF, int2, cmpF, eqF, D.isNon, bltF, rd, idxF, slcF, truF, isiF, newL, asgT, asgs, containsF, D.key, metP, isLst, isDic, isStr, metF, seqF, s0, bs_len]
  · refine ev_tup (es_cons (x := .str "") (S1 := S) (ev_slc (x := .str "") (l := none) (u := some 0) (S1 := S) (S2 := S) (S3 := S) rfl rfl (eo_int rfl) ?_) (es_cons (x := .str (bs (l.take p))) (S1 := S) (ev_met (x := .str "") (S1 := S) (S2 := S) (ds := [.lst ((l.take p).map b1)]) rfl rfl (es_cons (x := .lst ((l.take p).map b1)) (S1 := S) (ev_lc (xs := rngD 0 1 p) (S1 := S) ?_ rfl ?_) es_nil) (join_bs (by omega))) es_nil))
    · rw [s0, slc_bs (by decide)]
      rfl
    · exact (ei_rng1 (j := (p : Int)) rfl (by omega) (by omega)).trans rfl
    · have hg : (l.take p).map b1 = (rngD 0 1 p).map fun x => match x with
        | .int i => b1 (opn l i)
        | _ => .non := by
        apply List.ext_getElem?
        intro i
        rw [List.getElem?_map, List.getElem?_map]
        by_cases hi : i < p
        · have e1 : (l.take p)[i]? = some l[i] := by rw [List.getElem?_take, if_pos hi, List.getElem?_eq_getElem (by omega)]
          have e2 : (rngD 0 1 p)[i]? = some (.int (0 + (i : Int) * 1)) := by
            unfold rngD
            rw [List.getElem?_map, List.getElem?_range hi]
            rfl
          rw [e1, e2]
          show some (b1 l[i]) = some (b1 (opn l (0 + (i : Int) * 1)))
          unfold opn
          have e3 : ((0 + (i : Int) * 1) % (l.length : Int)).toNat = i := by
            rw [show (0 + (i : Int) * 1) = (i : Int) by omega, Int.emod_eq_of_lt (by omega) (by omega)]
            omega
          rw [e3, List.getD_eq_getElem?_getD, List.getElem?_eq_getElem (by omega)]
          rfl
        · rw [List.getElem?_eq_none (by rw [htl]; omega), List.getElem?_eq_none (by rw [rngD_len]; omega)]
          rfl
      rw [hg]
      refine lcL_map fun x hx => ?_
      obtain ⟨i, hi, rfl⟩ := rngD_mem hx
      have hr := d_law_in (k := k) (S := S) (h := 0 + (0 + (i : Int) * 1)) hin hl0 (by omega) (by omega)
      show (evE (den fs (k + 1)) (.ife (.call i_law_a_in (.cons (.var 0) (.cons (.bin .Add (.var 2) (.var 3)) .nil)) []) (.cst (.str "1")) (.cst (.str "0"))) [some (Wn l), some (.int p), some (.int 0), some (.int (0 + (i : Int) * 1))] S).bind _ = _
      rw [ev_01 (et_call (es_cons (x := Wn l) rfl (es_cons (x := .int (0 + (0 + (i : Int) * 1))) rfl es_nil)) hr)]
      show PV.R.ok (some (b1 (opn l (0 + (0 + (i : Int) * 1))))) S = _
      rw [Int.zero_add]
end
section
variable {lv : List Int} {s0 s1 dr : Int} {S : Sto} {fs : List Fn} {k f : Nat}
theorem lvl_map {g : Int → Bool} {F : D → Sto → R (Option D)} (h : ∀ x, F (.int x) S = .ok (some (b1 (g x))) S) : lcL F (lv.map D.int) S = .ok ((lv.map g).map b1) S := by
  have e : (lv.map g).map b1 = (lv.map D.int).map fun d => match d with
    | .int i => b1 (g i)
    | _ => .non := by
    rw [List.map_map, List.map_map]
    rfl
  rw [e]
  refine lcL_map fun x hx => ?_
  obtain ⟨i, _, rfl⟩ := List.mem_map.mp hx
  exact h i
theorem d_deep (hle : fs[i_law_a_least]? = some ⟨1, 2, ir_law_a_least⟩) (hin : fs[i_law_a_in]? = some ⟨2, 3, ir_law_a_in⟩) (hca : fs[i_law_a_canonical]? = some ⟨1, 4, ir_law_a_canonical⟩) (hf : fs[f]? = some ⟨3, 4, ir_law_a_deep⟩) (hl0 : 0 < lv.length) (hl : lv.length ≤ 1000000) :
    ∃ p : Nat, LeastP (lv.map fun v => decide (s1 + v ≥ dr)) p ∧ den fs (k + 3) f [lvD lv, .tup [.int s0, .int s1], .int dr] S = .ok (Wn ((lv.map fun v => decide (s1 + v ≥ dr)).take p)) S := by
  obtain ⟨p, hp, g1⟩ := d_law_canonical (k := k) (S := S) (l := lv.map fun v => decide (s1 + v ≥ dr)) hle hin hca (by simpa using hl0) (by simpa using hl)
  refine ⟨p, hp, ?_⟩
  rw [den_at hf]
  refine Ret.run rfl (ret_ret (ev_call (es_cons (x := Wn (lv.map fun v => decide (s1 + v ≥ dr))) (S1 := S) (ev_tup (es_cons rfl (es_cons (ev_met (x := .str "") (S1 := S) (S2 := S) (ds := [.lst ((lv.map fun v => decide (s1 + v ≥ dr)).map b1)]) rfl rfl (es_cons (ev_lc (xs := lv.map D.int) (S1 := S) rfl rfl (lvl_map fun x => ?_)) es_nil) (join_bs (by simpa using hl))) es_nil))) es_nil) g1))
  show (evE (den fs (k + 2)) (.ife (.cmp .GtE (.bin .Add (.idx (.var 1) (.cst (.int 1))) (.var 3)) (.var 2)) (.cst (.str "1")) (.cst (.str "0"))) [some (lvD lv), some (.tup [.int s0, .int s1]), some (.int dr), some (.int x)] S).bind _ = _
  rw [ev_01 (et_cmp (x := .int (s1 + x)) (y := .int dr) (k := decide (s1 + x ≥ dr)) (S1 := S) (S2 := S) rfl rfl rfl)]
  rfl
end
end L2.PV


/-! E11: levels and periods of a tide. -/
namespace L2.PV
open PySem PySem.Spec PyProof.Rows LamX

def lvlP (p : List Int) (h : Int) : Int := p.getD (h % (p.length : Int)).toNat 0
def lvl (td : List (List Int)) (h : Int) : Int := (td.map fun p => lvlP p h).sum
def pf (a : Nat) (td : List (List Int)) : Nat := td.foldl (fun a p => Nat.lcm a p.length) a
def per (td : List (List Int)) : Nat := pf 1 td
def lvls (td : List (List Int)) : List Int := (List.range (per td)).map fun (i : Nat) => lvl td (i : Int)
theorem forL_cons1 {f : D → En → Sto → R (Fl × En)} {x : D} {xs : List D} {e e1 : En} {S S1 : Sto} (h : f x e S = .ok (.nx, e1) S1) : forL f (x :: xs) e S = forL f xs e1 S1 := by
  show (match f x e S with
          | .ok (.nx, e1) S1 => forL f xs e1 S1
          | .ok (.cnt, e1) S1 => forL f xs e1 S1
          | .ok (.brk, e1) S1 => .ok (.nx, e1) S1
          | r => r) = _
  rw [h]
theorem asI : ∀ l : List Int, asInts (l.map D.int) = some l
  | [] => rfl
  | x :: l => by
    show (asInts (l.map D.int)).map (x :: ·) = _
    rw [asI l]; rfl
theorem sum_ok {l : List Int} {S : Sto} {tr : Bool} : bltF .sum tr [.lst (l.map D.int)] S = .ok (.int l.sum) S := by
  show (match asInts (l.map D.int) with
        | some ns => PV.R.ok (D.int ns.sum) S
        | none => .bad) = _
  rw [asI]
theorem max_ok {n : Int} {l : List Int} {S : Sto} {tr : Bool} : bltF .max1 tr [.lst ((n :: l).map D.int)] S = .ok (.int (maxL n l)) S := by
  show (match asInts ((n :: l).map D.int) with
        | some (n :: ns) => PV.R.ok (D.int (maxL n ns)) S
        | _ => .bad) = _
  rw [asI]
def pD (p : List Int) : D := .tup (p.map D.int)
theorem tideD_eq (td : List (List Int)) : tideD td = .tup (td.map pD) := rfl
theorem pf_pos : ∀ (td : List (List Int)) (a : Nat), 0 < a → (∀ p ∈ td, 0 < p.length) → 0 < pf a td ∧ a ∣ pf a td
  | [], a, h, _ => ⟨h, Nat.dvd_refl _⟩
  | p :: td, a, h, hp => by
    have := pf_pos td (Nat.lcm a p.length) (Nat.lcm_pos h (hp p List.mem_cons_self)) fun q hq => hp q (List.mem_cons_of_mem _ hq)
    exact ⟨this.1, Nat.dvd_trans (Nat.dvd_lcm_left _ _) this.2⟩
theorem pf_dvd : ∀ (td : List (List Int)) (a : Nat), ∀ p ∈ td, p.length ∣ pf a td
  | [], a, p, hp => by cases hp
  | q :: td, a, p, hp => by
    have h2 : ∀ (td : List (List Int)) (a : Nat), a ∣ pf a td := by
      intro td
      induction td with
      | nil => exact fun a => Nat.dvd_refl _
      | cons q td ih => exact fun a => Nat.dvd_trans (Nat.dvd_lcm_left _ _) (ih _)
    rcases List.mem_cons.mp hp with h | h
    · subst h
      exact Nat.dvd_trans (Nat.dvd_lcm_right _ _) (h2 td _)
    · exact pf_dvd td _ p h
section
variable {td : List (List Int)} {S : Sto} {fs : List Fn} {k f : Nat} {h : Int}
theorem part_idx {p : List Int} (hp : 0 < p.length) : idxF S (pD p) (.int (h % (p.length : Int))) = some (.int (lvlP p h)) := by
  have h1 := Int.emod_nonneg h (b := (p.length : Int)) (by omega)
  have h2 := Int.emod_lt_of_pos h (b := (p.length : Int)) (by omega)
  have h3 : (h % (p.length : Int)).toNat < p.length := by omega
  show atI (p.map D.int) _ = _
  refine atI_ok h1 ?_
  rw [List.getElem?_map, List.getElem?_eq_getElem h3]
  unfold lvlP
  rw [List.getD_eq_getElem?_getD, List.getElem?_eq_getElem h3]
  rfl
theorem lc_parts {F : D → Sto → R (Option D)} (hF : ∀ p ∈ td, F (pD p) S = .ok (some (.int (lvlP p h))) S) : lcL F (td.map pD) S = .ok ((td.map fun p => lvlP p h).map D.int) S := by
  induction td with
  | nil => rfl
  | cons p td ih =>
    show (match F (pD p) S with
    | .ok none S1 => lcL F (td.map pD) S1
    | .ok (some y) S1 => (match lcL F (td.map pD) S1 with
      | .ok ys S2 => .ok (y :: ys) S2
      | _ => .bad)
    | _ => .bad) = _
    rw [hF p List.mem_cons_self]
    show (match lcL F (td.map pD) S with
      | .ok ys S2 => PV.R.ok (D.int (lvlP p h) :: ys) S2
      | _ => .bad) = _
    rw [ih fun q hq => hF q (List.mem_cons_of_mem _ hq)]
    rfl
theorem d_level_at (hf : fs[f]? = some ⟨2, 3, ir_level_at⟩) (hp : ∀ p ∈ td, 0 < p.length) : den fs (k + 1) f [tideD td, .int h] S = .ok (.int (lvl td h)) S := by
  rw [den_at hf]
  refine Ret.run rfl (ret_ret (ev_blt (es_cons (x := .lst ((td.map fun p => lvlP p h).map D.int)) (S1 := S) (ev_lc (xs := td.map pD) (S1 := S) rfl rfl (lc_parts fun p hpm => ?_)) es_nil) sum_ok))
  have hl := hp p hpm
  show (evE (den fs k) (.idx (.var 2) (.bin .Mod (.var 1) (.blt .len false (.cons (.var 2) .nil)))) [some (tideD td), some (.int h), some (pD p)] S).bind _ = _
  rw [ev_idx (x := pD p) (y := .int (h % (p.length : Int))) (S1 := S) (S2 := S) rfl (ev_bin (x := .int h) (y := .int p.length) (S1 := S) (S2 := S) rfl ?_ (mod_ok (by omega))) (part_idx hl)]
  · rfl
  · show PV.R.ok (D.int ((p.map D.int).length : Nat)) S = _
    rw [List.length_map]
theorem d_law_a_level (hf : fs[f]? = some ⟨2, 3, ir_law_a_level⟩) (hp : ∀ p ∈ td, 0 < p.length) : den fs (k + 1) f [tideD td, .int h] S = .ok (.int (lvl td h)) S := by
  rw [den_at hf]
  refine Ret.run rfl (ret_ret (ev_blt (es_cons (x := .lst ((td.map fun p => lvlP p h).map D.int)) (S1 := S) (ev_lc (xs := td.map pD) (S1 := S) rfl rfl (lc_parts fun p hpm => ?_)) es_nil) sum_ok))
  have hl := hp p hpm
  show (evE (den fs k) (.idx (.var 2) (.bin .Mod (.blt .int false (.cons (.var 1) .nil)) (.blt .len false (.cons (.var 2) .nil)))) [some (tideD td), some (.int h), some (pD p)] S).bind _ = _
  rw [ev_idx (x := pD p) (y := .int (h % (p.length : Int))) (S1 := S) (S2 := S) rfl (ev_bin (x := .int h) (y := .int p.length) (S1 := S) (S2 := S) rfl ?_ (mod_ok (by omega))) (part_idx hl)]
  · rfl
  · show PV.R.ok (D.int ((p.map D.int).length : Nat)) S = _
    rw [List.length_map]
theorem d_period_of (hf : fs[f]? = some ⟨1, 3, ir_period_of⟩) (hp : ∀ p ∈ td, 0 < p.length) (hb : per td ≤ 240) : den fs (k + 1) f [tideD td] S = .ok (.int (per td)) S := by
  rw [den_at hf]
  have hlp : ∀ (l : List (List Int)) (a : Nat) (v : Option D), 0 < a → (∀ p ∈ l, 0 < p.length) → pf a l ≤ 240 → ∃ v', forL (fun x e1 S2 => (match asgT (.nm 2) x e1 with
      | some e2 => exSs (den fs k) (ir_period_of.at 1).bd e2 S2
      | none => PV.R.bad)) (l.map pD) [some (tideD td), some (.int a), v] S = .ok (.nx, [some (tideD td), some (.int (pf a l)), v']) S := by
    intro l
    induction l with
    | nil => exact fun a v _ _ _ => ⟨v, rfl⟩
    | cons p l ih =>
      intro a v ha hl hb
      have hpl := hl p List.mem_cons_self
      have hpf := pf_pos (p :: l) a ha hl
      have hdv := pf_dvd (p :: l) a p List.mem_cons_self
      have h1 := Nat.le_of_dvd hpf.1 hpf.2
      have h2 := Nat.le_of_dvd hpf.1 hdv
      obtain ⟨v', h3⟩ := ih (Nat.lcm a p.length) (some (pD p)) (Nat.lcm_pos ha hpl) (fun q hq => hl q (List.mem_cons_of_mem _ hq)) hb
      refine ⟨v', Eq.trans ?_ h3⟩
      have hbd : exSs (den fs k) (ir_period_of.at 1).bd [some (tideD td), some (.int a), some (pD p)] S = .ok (.nx, [some (tideD td), some (.int (Nat.lcm a p.length : Nat)), some (pD p)]) S := by
        refine (xs_cons (x_set (x := .int (Nat.lcm a p.length : Nat)) (S1 := S) (ev_blt (ds := [.int a, .int p.length]) (S1 := S) (es_cons rfl (es_cons ?_ es_nil)) ?_))).trans rfl
        · show PV.R.ok (D.int ((p.map D.int).length : Nat)) S = _
          rw [List.length_map]
        · show (if 0 < (a : Int) ∧ 0 < (p.length : Int) ∧ (a : Int) < 2 ^ 31 ∧ (p.length : Int) < 2 ^ 31 then PV.R.ok (D.int (Nat.lcm (a : Int).toNat (p.length : Int).toNat : Nat)) S else .bad) = _
          rw [if_pos (by omega)]
          rfl
      exact forL_cons1 hbd
  obtain ⟨v', h3⟩ := hlp td 1 none (by decide) hp hb
  exact Ret.run rfl (ret_cons (x_set (x := .int 1) rfl) (ret_cons ((x_for (xs := td.map pD) (S1 := S) rfl rfl).trans h3) (ret_ret rfl)))
theorem d_gcd {a b : Nat} (hf : fs[f]? = some ⟨2, 3, ir_law_a_gcd⟩) (ha : 0 < a) (hb : 0 < b) (hb2 : b ≤ 100000) : den fs (k + 1) f [.int a, .int b] S = .ok (.int (Nat.gcd a b : Nat)) S := by
  rw [den_at hf]
  let L : List Int := ((List.range (min a b)).filter fun (i : Nat) => decide ((a : Int) % (1 + (i : Int) * 1) = 0) && decide ((b : Int) % (1 + (i : Int) * 1) = 0)).map fun (i : Nat) => (1 + (i : Int) * 1)
  have hLm : ∀ x : Int, x ∈ L ↔ ∃ i : Nat, i < min a b ∧ x = 1 + (i : Int) * 1 ∧ (a : Int) % (1 + (i : Int) * 1) = 0 ∧ (b : Int) % (1 + (i : Int) * 1) = 0 := by
    intro x
    constructor
    · intro h
      obtain ⟨i, h1, h2⟩ := List.mem_map.mp h
      obtain ⟨h3, h4⟩ := List.mem_filter.mp h1
      obtain ⟨h5, h6⟩ := an h4
      exact ⟨i, List.mem_range.mp h3, h2.symm, of_decide_eq_true h5, of_decide_eq_true h6⟩
    · rintro ⟨i, h1, h2, h3, h4⟩
      exact List.mem_map.mpr ⟨i, List.mem_filter.mpr ⟨List.mem_range.mpr h1, by rw [decide_eq_true h3, decide_eq_true h4]; rfl⟩, h2.symm⟩
  have hg0 : 0 < Nat.gcd a b := Nat.gcd_pos_of_pos_left _ ha
  have hga := Nat.le_of_dvd ha (Nat.gcd_dvd_left a b)
  have hgb := Nat.le_of_dvd hb (Nat.gcd_dvd_right a b)
  have hmem : ((Nat.gcd a b : Nat) : Int) ∈ L := by
    refine (hLm _).mpr ⟨Nat.gcd a b - 1, by omega, by omega, ?_, ?_⟩
    · rw [show (1 + ((Nat.gcd a b - 1 : Nat) : Int) * 1) = ((Nat.gcd a b : Nat) : Int) by omega]
      exact Int.emod_eq_zero_of_dvd (Int.natCast_dvd_natCast.mpr (Nat.gcd_dvd_left a b))
    · rw [show (1 + ((Nat.gcd a b - 1 : Nat) : Int) * 1) = ((Nat.gcd a b : Nat) : Int) by omega]
      exact Int.emod_eq_zero_of_dvd (Int.natCast_dvd_natCast.mpr (Nat.gcd_dvd_right a b))
  have hub : ∀ x ∈ L, x ≤ ((Nat.gcd a b : Nat) : Int) := by
    intro x hx
    obtain ⟨i, h1, h2, h3, h4⟩ := (hLm x).mp hx
    rw [show (1 + (i : Int) * 1) = ((1 + i : Nat) : Int) by omega] at h2 h3 h4
    have h5 := Int.natCast_dvd_natCast.mp (Int.dvd_of_emod_eq_zero h3)
    have h6 := Int.natCast_dvd_natCast.mp (Int.dvd_of_emod_eq_zero h4)
    have h7 := Nat.le_of_dvd hg0 (Nat.dvd_gcd h5 h6)
    omega
  have hmax : bltF .max1 false [.lst (L.map D.int)] S = .ok (.int (Nat.gcd a b : Nat)) S := by
    cases hL : L with
    | nil => rw [hL] at hmem; cases hmem
    | cons n l =>
      rw [max_ok]
      obtain ⟨m1, m2⟩ := maxL_mem n l
      rw [hL] at hmem hub
      have h1 := m2 _ hmem
      have h2 := hub _ m1
      rw [show maxL n l = ((Nat.gcd a b : Nat) : Int) by omega]
  have hLD : L.map D.int = ((rngD 1 1 (min a b)).filter fun x => match x with
      | .int i => decide ((a : Int) % i = 0) && decide ((b : Int) % i = 0)
      | _ => false).map id := by
    rw [List.map_id]
    unfold rngD
    rw [List.filter_map, List.map_map]
    rfl
  refine Ret.run rfl (ret_ret (ev_blt (es_cons (x := .lst (L.map D.int)) (S1 := S) (ev_lc (xs := rngD 1 1 (min a b)) (S1 := S) ?_ rfl ?_) es_nil) hmax))
  · refine (ei_rng2 (i := 1) (j := ((min a b : Nat) : Int) + 1) (S1 := S) (S2 := S) rfl ?_ ⟨by decide, by decide, by omega, by omega⟩ (by omega)).trans ?_
    · refine ev_bin (x := .int ((min a b : Nat) : Int)) (y := .int 1) (S1 := S) (S2 := S) (ev_blt (ds := [.int a, .int b]) (S1 := S) rfl ?_) rfl rfl
      show PV.R.ok (D.int (if (b : Int) < (a : Int) then (b : Int) else (a : Int))) S = _
      congr 2
      split <;> omega
    · rw [show (((min a b : Nat) : Int) + 1 - 1).toNat = min a b by omega]
  · rw [hLD]
    refine lcL_filter fun x hx => ?_
    obtain ⟨i, hi, rfl⟩ := rngD_mem hx
    show (evIf (den fs k) (.cons (.and (.cons (.cmp .Eq (.bin .Mod (.blt .int false (.cons (.var 0) .nil)) (.var 2)) (.cst (.int 0))) (.cons (.cmp .Eq (.bin .Mod (.blt .int false (.cons (.var 1) .nil)) (.var 2)) (.cst (.int 0))) .nil))) .nil) [some (.int a), some (.int b), some (.int (1 + (i : Int) * 1))] S).bind _ = _
    have ht : evT (den fs k) (.and (.cons (.cmp .Eq (.bin .Mod (.blt .int false (.cons (.var 0) .nil)) (.var 2)) (.cst (.int 0))) (.cons (.cmp .Eq (.bin .Mod (.blt .int false (.cons (.var 1) .nil)) (.var 2)) (.cst (.int 0))) .nil))) [some (.int a), some (.int b), some (.int (1 + (i : Int) * 1))] S = .ok (decide ((a : Int) % (1 + (i : Int) * 1) = 0) && decide ((b : Int) % (1 + (i : Int) * 1) = 0)) S := by
      refine et_and2 (et_cmp (x := .int ((a : Int) % (1 + (i : Int) * 1))) (y := .int 0) (S1 := S) (S2 := S) (ev_bin (x := .int a) (y := .int (1 + (i : Int) * 1)) (S1 := S) (S2 := S) rfl rfl (mod_ok (by omega))) rfl rfl) fun _ => (et_cmp (x := .int ((b : Int) % (1 + (i : Int) * 1))) (y := .int 0) (S1 := S) (S2 := S) (ev_bin (x := .int b) (y := .int (1 + (i : Int) * 1)) (S1 := S) (S2 := S) rfl rfl (mod_ok (by omega))) rfl rfl)
    have hi2 : ∀ z : Bool, evT (den fs k) (.and (.cons (.cmp .Eq (.bin .Mod (.blt .int false (.cons (.var 0) .nil)) (.var 2)) (.cst (.int 0))) (.cons (.cmp .Eq (.bin .Mod (.blt .int false (.cons (.var 1) .nil)) (.var 2)) (.cst (.int 0))) .nil))) [some (.int a), some (.int b), some (.int (1 + (i : Int) * 1))] S = .ok z S → evIf (den fs k) (.cons (.and (.cons (.cmp .Eq (.bin .Mod (.blt .int false (.cons (.var 0) .nil)) (.var 2)) (.cst (.int 0))) (.cons (.cmp .Eq (.bin .Mod (.blt .int false (.cons (.var 1) .nil)) (.var 2)) (.cst (.int 0))) .nil))) .nil) [some (.int a), some (.int b), some (.int (1 + (i : Int) * 1))] S = .ok z S := by
      intro z hz
      unfold evIf
      rw [hz]
      first | done | (cases z <;> rfl)
    rw [hi2 _ ht]
    show _ = PV.R.ok (if (decide ((a : Int) % (1 + (i : Int) * 1) = 0) && decide ((b : Int) % (1 + (i : Int) * 1) = 0)) then some (D.int (1 + (i : Int) * 1)) else none) S
    generalize (decide ((a : Int) % (1 + (i : Int) * 1) = 0) && decide ((b : Int) % (1 + (i : Int) * 1) = 0)) = z
    cases z <;> rfl
theorem d_law_a_period (hg : fs[i_law_a_gcd]? = some ⟨2, 3, ir_law_a_gcd⟩) (hf : fs[f]? = some ⟨1, 3, ir_law_a_period⟩) (hp : ∀ p ∈ td, 0 < p.length) (hb : per td ≤ 240) : den fs (k + 2) f [tideD td] S = .ok (.int (per td)) S := by
  rw [den_at hf]
  have hlp : ∀ (l : List (List Int)) (a : Nat) (v : Option D), 0 < a → (∀ p ∈ l, 0 < p.length) → pf a l ≤ 240 → ∃ v', forL (fun x e1 S2 => (match asgT (.nm 2) x e1 with
      | some e2 => exSs (den fs (k + 1)) (ir_law_a_period.at 1).bd e2 S2
      | none => PV.R.bad)) (l.map pD) [some (tideD td), some (.int a), v] S = .ok (.nx, [some (tideD td), some (.int (pf a l)), v']) S := by
    intro l
    induction l with
    | nil => exact fun a v _ _ _ => ⟨v, rfl⟩
    | cons p l ih =>
      intro a v ha hl hb
      have hpl := hl p List.mem_cons_self
      have hpf := pf_pos (p :: l) a ha hl
      have hdv := pf_dvd (p :: l) a p List.mem_cons_self
      have h1 := Nat.le_of_dvd hpf.1 hpf.2
      have h2 := Nat.le_of_dvd hpf.1 hdv
      obtain ⟨v', h3⟩ := ih (Nat.lcm a p.length) (some (pD p)) (Nat.lcm_pos ha hpl) (fun q hq => hl q (List.mem_cons_of_mem _ hq)) hb
      refine ⟨v', Eq.trans ?_ h3⟩
      have hpD : ∀ {e : En}, e[2]? = some (some (pD p)) → evE (den fs (k + 1)) (.blt .len false (.cons (.var 2) .nil)) e S = .ok (.int p.length) S := fun he => by
        refine ev_blt (es_cons (ev_var he) es_nil) ?_
        show PV.R.ok (D.int ((p.map D.int).length : Nat)) S = _
        rw [List.length_map]
      have hg0 : 0 < Nat.gcd a p.length := Nat.gcd_pos_of_pos_left _ ha
      have hg1 := Nat.le_of_dvd ha (Nat.gcd_dvd_left a p.length)
      have hmul : binF .Mult (.int (a : Int)) (.int (p.length : Int)) = some (.int ((a : Int) * (p.length : Int))) := mul_ok (i := (a : Int)) (j := (p.length : Int)) (by omega) (by omega)
      have hlcm : ((Nat.lcm a p.length : Nat) : Int) = ((a : Int) * (p.length : Int)) / ((Nat.gcd a p.length : Nat) : Int) := by
        unfold Nat.lcm
        rw [Int.natCast_ediv, Int.natCast_mul]
      have hbd : exSs (den fs (k + 1)) (ir_law_a_period.at 1).bd [some (tideD td), some (.int a), some (pD p)] S = .ok (.nx, [some (tideD td), some (.int (Nat.lcm a p.length : Nat)), some (pD p)]) S := by
        refine (xs_cons (x_set (x := .int (Nat.lcm a p.length : Nat)) (S1 := S) (ev_bin (x := .int ((a : Int) * p.length)) (y := .int (Nat.gcd a p.length : Nat)) (S1 := S) (S2 := S) (ev_bin (x := .int a) (y := .int p.length) (S1 := S) (S2 := S) rfl (hpD rfl) hmul) (ev_call (es_cons (x := .int a) rfl (es_cons (hpD rfl) es_nil)) (d_gcd hg ha hpl (by omega))) ((fdiv_ok (by omega) (by omega)).trans ?_)))).trans rfl
        rw [hlcm]
      exact forL_cons1 hbd
  obtain ⟨v', h3⟩ := hlp td 1 none (by decide) hp hb
  exact Ret.run rfl (ret_cons (x_set (x := .int 1) rfl) (ret_cons ((x_for (xs := td.map pD) (S1 := S) rfl rfl).trans h3) (ret_ret rfl)))
theorem lvls_map {F : D → Sto → R (Option D)} (h : ∀ i : Nat, i < per td → F (.int i) S = .ok (some (.int (lvl td (i : Int)))) S) : lcL F (rngD 0 1 (per td)) S = .ok ((lvls td).map D.int) S := by
  have e : (lvls td).map D.int = (rngD 0 1 (per td)).map fun d => match d with
    | .int i => .int (lvl td i)
    | _ => .non := by
    unfold lvls rngD
    rw [List.map_map, List.map_map]
    refine List.map_congr_left fun i _ => ?_
    show D.int (lvl td (i : Int)) = D.int (lvl td (0 + (i : Int) * 1))
    rw [show (0 + (i : Int) * 1) = (i : Int) by omega]
  rw [e]
  refine lcL_map fun x hx => ?_
  obtain ⟨i, hi, rfl⟩ := rngD_mem hx
  have := h i hi
  rw [show (0 + (i : Int) * 1) = (i : Int) by omega]
  exact this
theorem d_law_a_all_levels (hg : fs[i_law_a_gcd]? = some ⟨2, 3, ir_law_a_gcd⟩) (hpe : fs[i_law_a_period]? = some ⟨1, 3, ir_law_a_period⟩) (hle : fs[i_law_a_level]? = some ⟨2, 3, ir_law_a_level⟩) (hf : fs[f]? = some ⟨1, 2, ir_law_a_all_levels⟩) (hp : ∀ p ∈ td, 0 < p.length) (hb : per td ≤ 240) : den fs (k + 3) f [tideD td] S = .ok (lvD (lvls td)) S := by
  rw [den_at hf]
  refine Ret.run rfl (ret_ret (ev_lc (xs := rngD 0 1 (per td)) (S1 := S) ((ei_rng1 (j := (per td : Nat)) (ev_call (es_cons (x := tideD td) rfl es_nil) (d_law_a_period hg hpe hp hb)) (by omega) (by omega)).trans rfl) rfl (lvls_map fun i hi => ?_)))
  show (evE (den fs (k + 2)) (.call i_law_a_level (.cons (.var 0) (.cons (.var 1) .nil)) []) [some (tideD td), some (.int i)] S).bind _ = _
  rw [ev_call (es_cons (x := tideD td) rfl (es_cons (x := .int i) rfl es_nil)) (d_law_a_level hle hp)]
  rfl
end
end L2.PV


/-! E12: the tides drawn. -/
namespace L2.PV
open PySem PySem.Spec PyProof.Rows LamX

/-- the tables of k78 -/
def IsT (g : List Fn) : Prop := g = fs
theorem IsT.has_hour {g : List Fn} (h : IsT g) : g[i_has_hour]? = some ⟨2, 4, ir_has_hour⟩ := by rw [show g = fs from h]; rfl
theorem IsT.next_hour {g : List Fn} (h : IsT g) : g[i_next_hour]? = some ⟨2, 6, ir_next_hour⟩ := by rw [show g = fs from h]; rfl
theorem IsT.last_hour {g : List Fn} (h : IsT g) : g[i_last_hour]? = some ⟨2, 7, ir_last_hour⟩ := by rw [show g = fs from h]; rfl
theorem IsT.closures_of {g : List Fn} (h : IsT g) : g[i_closures_of]? = some ⟨2, 5, ir_closures_of⟩ := by rw [show g = fs from h]; rfl
theorem IsT.first_start {g : List Fn} (h : IsT g) : g[i_first_start]? = some ⟨3, 6, ir_first_start⟩ := by rw [show g = fs from h]; rfl
theorem IsT.last_in_window {g : List Fn} (h : IsT g) : g[i_last_in_window]? = some ⟨2, 2, ir_last_in_window⟩ := by rw [show g = fs from h]; rfl
theorem IsT.last_start {g : List Fn} (h : IsT g) : g[i_last_start]? = some ⟨3, 6, ir_last_start⟩ := by rw [show g = fs from h]; rfl
theorem IsT.later_bound {g : List Fn} (h : IsT g) : g[i_later_bound]? = some ⟨4, 4, ir_later_bound⟩ := by rw [show g = fs from h]; rfl
theorem IsT.timeline {g : List Fn} (h : IsT g) : g[i_timeline]? = some ⟨1, 10, ir_timeline⟩ := by rw [show g = fs from h]; rfl
theorem IsT.earliest {g : List Fn} (h : IsT g) : g[i_earliest]? = some ⟨1, 4, ir_earliest⟩ := by rw [show g = fs from h]; rfl
theorem IsT.latest_by {g : List Fn} (h : IsT g) : g[i_latest_by]? = some ⟨2, 14, ir_latest_by⟩ := by rw [show g = fs from h]; rfl
theorem IsT.level_at {g : List Fn} (h : IsT g) : g[i_level_at]? = some ⟨2, 3, ir_level_at⟩ := by rw [show g = fs from h]; rfl
theorem IsT.levels_at {g : List Fn} (h : IsT g) : g[i_levels_at]? = some ⟨3, 4, ir_levels_at⟩ := by rw [show g = fs from h]; rfl
theorem IsT.period_of {g : List Fn} (h : IsT g) : g[i_period_of]? = some ⟨1, 3, ir_period_of⟩ := by rw [show g = fs from h]; rfl
theorem IsT.period_levels {g : List Fn} (h : IsT g) : g[i_period_levels]? = some ⟨2, 3, ir_period_levels⟩ := by rw [show g = fs from h]; rfl
theorem IsT.extremes_of {g : List Fn} (h : IsT g) : g[i_extremes_of]? = some ⟨2, 3, ir_extremes_of⟩ := by rw [show g = fs from h]; rfl
theorem IsT.blocking_sill {g : List Fn} (h : IsT g) : g[i_blocking_sill]? = some ⟨4, 7, ir_blocking_sill⟩ := by rw [show g = fs from h]; rfl
theorem IsT.rows_of_depths {g : List Fn} (h : IsT g) : g[i_rows_of_depths]? = some ⟨2, 4, ir_rows_of_depths⟩ := by rw [show g = fs from h]; rfl
theorem IsT.last_passable {g : List Fn} (h : IsT g) : g[i_last_passable]? = some ⟨3, 4, ir_last_passable⟩ := by rw [show g = fs from h]; rfl
theorem IsT.latest_departure {g : List Fn} (h : IsT g) : g[i_latest_departure]? = some ⟨5, 7, ir_latest_departure⟩ := by rw [show g = fs from h]; rfl
theorem IsT.law_tape {g : List Fn} (h : IsT g) : g[i_law_tape]? = some ⟨1, 3, ir_law_tape⟩ := by rw [show g = fs from h]; rfl
theorem IsT.law_draw {g : List Fn} (h : IsT g) : g[i_law_draw]? = some ⟨2, 4, ir_law_draw⟩ := by rw [show g = fs from h]; rfl
theorem IsT.law_pick {g : List Fn} (h : IsT g) : g[i_law_pick]? = some ⟨2, 2, ir_law_pick⟩ := by rw [show g = fs from h]; rfl
theorem IsT.law_turns {g : List Fn} (h : IsT g) : g[i_law_turns]? = some ⟨2, 5, ir_law_turns⟩ := by rw [show g = fs from h]; rfl
theorem IsT.law_put {g : List Fn} (h : IsT g) : g[i_law_put]? = some ⟨3, 3, ir_law_put⟩ := by rw [show g = fs from h]; rfl
theorem IsT.law_same {g : List Fn} (h : IsT g) : g[i_law_same]? = some ⟨2, 3, ir_law_same⟩ := by rw [show g = fs from h]; rfl
theorem IsT.law_a_gcd {g : List Fn} (h : IsT g) : g[i_law_a_gcd]? = some ⟨2, 3, ir_law_a_gcd⟩ := by rw [show g = fs from h]; rfl
theorem IsT.law_a_level {g : List Fn} (h : IsT g) : g[i_law_a_level]? = some ⟨2, 3, ir_law_a_level⟩ := by rw [show g = fs from h]; rfl
theorem IsT.law_a_period {g : List Fn} (h : IsT g) : g[i_law_a_period]? = some ⟨1, 3, ir_law_a_period⟩ := by rw [show g = fs from h]; rfl
theorem IsT.law_a_least {g : List Fn} (h : IsT g) : g[i_law_a_least]? = some ⟨1, 2, ir_law_a_least⟩ := by rw [show g = fs from h]; rfl
theorem IsT.law_a_in {g : List Fn} (h : IsT g) : g[i_law_a_in]? = some ⟨2, 3, ir_law_a_in⟩ := by rw [show g = fs from h]; rfl
theorem IsT.law_a_canonical {g : List Fn} (h : IsT g) : g[i_law_a_canonical]? = some ⟨1, 4, ir_law_a_canonical⟩ := by rw [show g = fs from h]; rfl
theorem IsT.law_a_levels {g : List Fn} (h : IsT g) : g[i_law_a_levels]? = some ⟨2, 4, ir_law_a_levels⟩ := by rw [show g = fs from h]; rfl
theorem IsT.law_a_part {g : List Fn} (h : IsT g) : g[i_law_a_part]? = some ⟨2, 4, ir_law_a_part⟩ := by rw [show g = fs from h]; rfl
theorem IsT.law_a_sill {g : List Fn} (h : IsT g) : g[i_law_a_sill]? = some ⟨1, 1, ir_law_a_sill⟩ := by rw [show g = fs from h]; rfl
theorem IsT.law_a_near {g : List Fn} (h : IsT g) : g[i_law_a_near]? = some ⟨3, 4, ir_law_a_near⟩ := by rw [show g = fs from h]; rfl
theorem IsT.law_a_all_levels {g : List Fn} (h : IsT g) : g[i_law_a_all_levels]? = some ⟨1, 2, ir_law_a_all_levels⟩ := by rw [show g = fs from h]; rfl
theorem IsT.law_a_transit {g : List Fn} (h : IsT g) : g[i_law_a_transit]? = some ⟨4, 9, ir_law_a_transit⟩ := by rw [show g = fs from h]; rfl
theorem IsT.law_a_sea {g : List Fn} (h : IsT g) : g[i_law_a_sea]? = some ⟨1, 3, ir_law_a_sea⟩ := by rw [show g = fs from h]; rfl
theorem IsT.law_a_back {g : List Fn} (h : IsT g) : g[i_law_a_back]? = some ⟨4, 10, ir_law_a_back⟩ := by rw [show g = fs from h]; rfl
theorem IsT.law_a_deep {g : List Fn} (h : IsT g) : g[i_law_a_deep]? = some ⟨3, 4, ir_law_a_deep⟩ := by rw [show g = fs from h]; rfl
theorem IsT.law_asking {g : List Fn} (h : IsT g) : g[i_law_asking]? = some ⟨5, 11, ir_law_asking⟩ := by rw [show g = fs from h]; rfl
theorem IsT.law_instance {g : List Fn} (h : IsT g) : g[i_law_instance]? = some ⟨2, 6, ir_law_instance⟩ := by rw [show g = fs from h]; rfl
theorem IsT.law_looked {g : List Fn} (h : IsT g) : g[i_law_looked]? = some ⟨3, 9, ir_law_looked⟩ := by rw [show g = fs from h]; rfl
theorem IsT.law {g : List Fn} (h : IsT g) : g[i_law]? = some ⟨1, 13, ir_law⟩ := by rw [show g = fs from h]; rfl
def All2 (P : D → D → Prop) : List D → List D → Prop
  | [], [] => True
  | x :: xs, y :: ys => P x y ∧ All2 P xs ys
  | _, _ => False
theorem All2.len {P : D → D → Prop} : ∀ {xs ys : List D}, All2 P xs ys → ys.length = xs.length
  | [], [], _ => rfl
  | x :: xs, y :: ys, h => by rw [List.length_cons, List.length_cons, All2.len h.2]
  | [], _ :: _, h => h.elim
  | _ :: _, [], h => h.elim
theorem All2.mem {P : D → D → Prop} {Q : D → Prop} (hq : ∀ x y, P x y → Q y) : ∀ {xs ys : List D}, All2 P xs ys → ∀ y ∈ ys, Q y
  | [], [], _, y, hy => by cases hy
  | x :: xs, z :: ys, h, y, hy => by
    rcases List.mem_cons.mp hy with e | e
    · subst e; exact hq _ _ h.1
    · exact All2.mem hq h.2 y e
  | [], _ :: _, h, _, _ => h.elim
  | _ :: _, [], h, _, _ => h.elim
theorem allI : ∀ {ys : List D}, (∀ y ∈ ys, ∃ i, y = D.int i) → ∃ p : List Int, ys = p.map D.int
  | [], _ => ⟨[], rfl⟩
  | y :: ys, h => by
    obtain ⟨i, rfl⟩ := h y List.mem_cons_self
    obtain ⟨p, rfl⟩ := allI fun z hz => h z (List.mem_cons_of_mem _ hz)
    exact ⟨i :: p, rfl⟩
theorem lc_draw {n : Nat} {F : D → Sto → R (Option D)} {P : D → D → Prop} : ∀ (xs : List D) (S : Sto), (∀ x ∈ xs, ∀ S, TapeAt n S → ∃ y S', F x S = .ok (some y) S' ∧ P x y ∧ Tp n S S') → TapeAt n S →
    ∃ ys S', lcL F xs S = .ok ys S' ∧ All2 P xs ys ∧ Tp n S S'
  | [], S, _, hT => ⟨[], S, rfl, trivial, Tp.refl hT⟩
  | x :: xs, S, h, hT => by
    obtain ⟨y, S1, h1, h2, h3⟩ := h x List.mem_cons_self S hT
    obtain ⟨ys, S2, h4, h5, h6⟩ := lc_draw xs S1 (fun z hz => h z (List.mem_cons_of_mem _ hz)) h3.at
    refine ⟨y :: ys, S2, ?_, ⟨h2, h5⟩, h3.trans h6⟩
    show (match F x S with
    | .ok none S1 => lcL F xs S1
    | .ok (some y) S1 => (match lcL F xs S1 with
      | .ok ys S2 => .ok (y :: ys) S2
      | _ => .bad)
    | _ => .bad) = _
    rw [h1]
    show (match lcL F xs S1 with
      | .ok ys S2 => PV.R.ok (y :: ys) S2
      | _ => .bad) = _
    rw [h4]
def menuL : List D := [.lst [.int 0, .int 10], .lst [.int 0, .int 1, .int 2], .lst [.int (-99), .int 99], .lst [.int 0, .int 5, .int (-5), .int 20], .lst (rngD (-99) 1 199), .lst (rngD (-99) 1 199)]
def menuP (x : D) : Prop := ∃ xs, x = .lst xs ∧ 0 < xs.length ∧ xs.length < 1073741824 ∧ ∀ y ∈ xs, ∃ i, y = D.int i
theorem ints_mem {l : List Int} : ∀ y ∈ l.map D.int, ∃ i, y = D.int i := fun y hy => by
  obtain ⟨i, _, h⟩ := List.mem_map.mp hy
  exact ⟨i, h.symm⟩
theorem menuL_ok : ∀ x ∈ menuL, menuP x := by
  have hr : menuP (.lst (rngD (-99) 1 199)) := ⟨_, rfl, by rw [rngD_len]; decide, by rw [rngD_len]; decide, fun y hy => by
    obtain ⟨i, _, rfl⟩ := rngD_mem hy
    exact ⟨_, rfl⟩⟩
  intro x hx
  simp only [menuL, List.mem_cons, List.not_mem_nil, or_false] at hx
  rcases hx with rfl | rfl | rfl | rfl | rfl | rfl
  · exact ⟨_, rfl, by decide, by decide, ints_mem (l := [0, 10])⟩
  · exact ⟨_, rfl, by decide, by decide, ints_mem (l := [0, 1, 2])⟩
  · exact ⟨_, rfl, by decide, by decide, ints_mem (l := [-99, 99])⟩
  · exact ⟨_, rfl, by decide, by decide, ints_mem (l := [0, 5, -5, 20])⟩
  · exact hr
  · exact hr
section
variable {g : List Fn} {k n : Nat} {S : Sto} (hg : IsT g)
include hg
theorem d_levels {many : Nat} (h2 : many ≤ 1000) (hT : TapeAt n S) : ∃ (p : List Int) (S' : Sto), den g (k + 3) i_law_a_levels [.loc n, .int many] S = .ok (pD p) S' ∧ p.length = many ∧ Tp n S S' := by
  obtain ⟨m, S1, q1, q2, q3⟩ := d_pick (k := k) (xs := menuL) hg.law_draw hg.law_pick (.inl rfl) (by decide) (by decide) hT
  obtain ⟨xs, rfl, x1, x2, x3⟩ := menuL_ok m q2
  have hstep : ∀ x ∈ rngD 0 1 many, ∀ S, TapeAt n S → ∃ y S', (fun x S2 => (evE (den g (k + 2)) (.call i_law_pick (.cons (.var 0) (.cons (.var 2) .nil)) []) [some (.loc n), some (.int many), some (.lst xs), some x] S2).bind fun y S4 => PV.R.ok (some y) S4) x S = .ok (some y) S' ∧ (fun (_ : D) y => ∃ i, y = D.int i) x y ∧ Tp n S S' := by
    intro x _ S hS
    obtain ⟨y, S', r1, r2, r3⟩ := d_pick (k := k) (xs := xs) hg.law_draw hg.law_pick (.inl rfl) x1 x2 hS
    refine ⟨y, S', ?_, x3 y r2, r3⟩
    show (evE (den g (k + 2)) (.call i_law_pick (.cons (.var 0) (.cons (.var 2) .nil)) []) [some (.loc n), some (.int many), some (.lst xs), some x] S).bind _ = _
    rw [ev_call (es_cons (x := .loc n) (S1 := S) rfl (es_cons (x := .lst xs) (S1 := S) rfl es_nil)) r1]
    rfl
  obtain ⟨ys, S2, r1, r2, r3⟩ := lc_draw (rngD 0 1 many) S1 hstep q3.at
  obtain ⟨p, rfl⟩ := allI (All2.mem (Q := fun y => ∃ i, y = D.int i) (fun _ _ h => h) r2)
  refine ⟨p, S2, ?_, ?_, q3.trans r3⟩
  · rw [den_at hg.law_a_levels]
    refine Ret.run rfl (ret_cons (x_set (x := .lst xs) (S1 := S1) (ev_call (es_cons (x := .loc n) (S1 := S) rfl (es_cons (x := .lst menuL) (S1 := S) rfl es_nil)) q1)) (ret_ret (ev_blt (es_cons (x := .lst (p.map D.int)) (S1 := S2) (ev_lc (xs := rngD 0 1 many) (S1 := S1) ((ei_rng1 (j := (many : Nat)) (ev_var rfl) (by omega) (by omega)).trans rfl) rfl r1) es_nil) rfl)))
  · have := r2.len
    rw [List.length_map, rngD_len] at this
    exact this
theorem mulT_ok {q : List Int} {m : Nat} (h : q.length * m ≤ 16777216) (hm : m ≤ 100000) : binF .Mult (.tup (q.map D.int)) (.int (m : Nat)) = some (pD (List.replicate m q).flatten) := by
  have h1 : mulF (.tup (q.map D.int)) (.int (m : Nat)) = some (.tup (rep (q.map D.int) (m : Int))) := by
    unfold mulF
    exact if_pos ⟨by omega, by omega, by rw [List.length_map, Int.toNat_natCast]; exact h⟩
  refine Eq.trans h1 ?_
  unfold rep pD
  rw [List.map_flatten, List.map_replicate, Int.toNat_natCast]
theorem d_part {many : Nat} (h1 : 1 ≤ many) (h2 : many ≤ 12) (hT : TapeAt n S) : ∃ (p : List Int) (S' : Sto), den g (k + 4) i_law_a_part [.loc n, .int many] S = .ok (pD p) S' ∧ p.length = many ∧ Tp n S S' := by
  obtain ⟨p, S1, q1, q2, q3⟩ := d_levels (k := k) (n := n) hg (many := many) (by omega) hT
  obtain ⟨r, S2, r1, r2, r3, r4⟩ := d_draw (k := k + 2) (many := 6) hg.law_draw (by decide) (by decide) q3.at
  have hcut : ∀ j : Nat, j ≤ many → ∀ S, slcF S (pD p) none (some (j : Int)) = some (.tup ((p.take j).map D.int)) := by
    intro j hj S
    show some (D.tup (cutD (p.map D.int) none (some (j : Int)))) = _
    rw [cut_take (by rw [List.length_map]; omega), List.map_take]
  have hE : ∀ (kind : Int) , den g (k + 3) i_law_draw [.loc n, .int 6] S1 = .ok (.int kind) S2 → ∃ p' : List Int, p'.length = many ∧ den g (k + 4) i_law_a_part [.loc n, .int many] S = .ok (pD p') S2 := by
    intro kind hk
    have main : ∃ p' : List Int, p'.length = many ∧ Ret (exSs (den g (k + 3)) (ir_law_a_part.tl 2) [some (.loc n), some (.int many), some (pD p), some (.int kind)] S2) (pD p') S2 := by
      by_cases k0 : kind = 0
      · subst k0
        refine ⟨(List.replicate many (p.take 1)).flatten, by rw [flat_len, List.length_take]; rw [Nat.min_eq_left (by omega)]; omega, ret_T (et_cmp (x := .int 0) (y := .int 0) (S1 := S2) (S2 := S2) rfl rfl rfl) (ret_ret (ev_bin (x := .tup ((p.take 1).map D.int)) (y := .int many) (S1 := S2) (S2 := S2) (ev_slc (x := pD p) (l := none) (u := some 1) (S1 := S2) (S2 := S2) (S3 := S2) rfl rfl (eo_int rfl) (hcut 1 (by omega) S2)) rfl (mulT_ok hg ?_ (by omega))))⟩
        rw [List.length_take, Nat.min_eq_left (by omega)]; omega
      · suffices hz : ∃ p' : List Int, p'.length = many ∧ Ret (exSs (den g (k + 3)) (ir_law_a_part.tl 3) [some (.loc n), some (.int many), some (pD p), some (.int kind)] S2) (pD p') S2 from hz.imp fun p' z => ⟨z.1, ret_F0 (et_cmp (x := .int kind) (y := .int 0) (k := false) (S1 := S2) (S2 := S2) rfl rfl (by show some (decide (kind = 0)) = _; rw [decide_eq_false k0])) z.2⟩
        have half : ∀ m : Nat, 2 ≤ m → many % m = 0 → (List.replicate m (p.take (many / m))).flatten.length = many ∧ binF .Mult (.tup ((p.take (many / m)).map D.int)) (.int (m : Nat)) = some (pD (List.replicate m (p.take (many / m))).flatten) ∨ m > 3 := by
          intro m hm hmm
          by_cases h3 : m > 3
          · exact .inr h3
          · have hle : many / m ≤ many := Nat.div_le_self _ _
            have hlt : (p.take (many / m)).length = many / m := by rw [List.length_take]; omega
            refine .inl ⟨by rw [flat_len, hlt]; exact Nat.mul_div_cancel' (Nat.dvd_of_mod_eq_zero hmm), mulT_ok hg (by rw [hlt]; have := Nat.mul_le_mul hle (show m ≤ 3 by omega); omega) (by omega)⟩
        have tst : ∀ (c m : Nat), 0 < m → m ≤ 3 → evT (den g (k + 3)) (.and (.cons (.cmp .Eq (.var 3) (.cst (.int (c : Nat)))) (.cons (.cmp .Eq (.bin .Mod (.blt .int false (.cons (.var 1) .nil)) (.cst (.int (m : Nat)))) (.cst (.int 0))) .nil))) [some (.loc n), some (.int many), some (pD p), some (.int kind)] S2 = .ok (decide (kind = (c : Int)) && decide (many % m = 0)) S2 := by
          intro c m hm hm3
          refine et_and2 (et_cmp (x := .int kind) (y := .int c) (S1 := S2) (S2 := S2) rfl rfl rfl) fun _ => (et_cmp (x := .int ((many % m : Nat) : Int)) (y := .int 0) (S1 := S2) (S2 := S2) (ev_bin (x := .int many) (y := .int m) (S1 := S2) (S2 := S2) rfl rfl ?_) rfl ?_)
          · rw [Int.natCast_emod]
            exact mod_ok (by omega)
          · show some (decide (((many % m : Nat) : Int) = 0)) = _
            congr 1
            by_cases z : many % m = 0
            · rw [decide_eq_true z, decide_eq_true (by omega)]
            · rw [decide_eq_false z, decide_eq_false (by omega)]
        have go : ∀ (m : Nat), 2 ≤ m → m ≤ 3 → many % m = 0 → ∃ p' : List Int, p'.length = many ∧ evE (den g (k + 3)) (.bin .Mult (.slc (.var 2) .nil (.cons (.bin .FloorDiv (.var 1) (.cst (.int (m : Nat)))) .nil)) (.cst (.int (m : Nat)))) [some (.loc n), some (.int many), some (pD p), some (.int kind)] S2 = .ok (pD p') S2 := by
          intro m hm hm3 hmm
          rcases half m hm hmm with ⟨a1, a2⟩ | a
          · refine ⟨_, a1, ev_bin (x := .tup ((p.take (many / m)).map D.int)) (y := .int m) (S1 := S2) (S2 := S2) (ev_slc (x := pD p) (l := none) (u := some ((many / m : Nat) : Int)) (S1 := S2) (S2 := S2) (S3 := S2) rfl rfl (eo_int (ev_bin (x := .int many) (y := .int m) (S1 := S2) (S2 := S2) rfl rfl ?_)) (hcut (many / m) (Nat.div_le_self _ _) S2)) rfl a2⟩
            rw [Int.natCast_ediv]
            exact fdiv_ok (by omega) (by omega)
          · omega
        by_cases k1 : kind = 1 ∧ many % 2 = 0
        · obtain ⟨p', a1, a2⟩ := go 2 (by decide) (by decide) k1.2
          exact ⟨p', a1, ret_T ((tst 1 2 (by decide) (by decide)).trans (by rw [decide_eq_true k1.2, decide_eq_true (show kind = ((1 : Nat) : Int) from k1.1)]; rfl)) (ret_ret a2)⟩
        · suffices hz : ∃ p' : List Int, p'.length = many ∧ Ret (exSs (den g (k + 3)) (ir_law_a_part.tl 4) [some (.loc n), some (.int many), some (pD p), some (.int kind)] S2) (pD p') S2 from hz.imp fun p' z => ⟨z.1, ret_F0 ((tst 1 2 (by decide) (by decide)).trans (by
            congr 1
            rw [Bool.and_eq_false_iff, decide_eq_false_iff_not, decide_eq_false_iff_not]
            by_cases z : kind = 1
            · exact .inr fun y => k1 ⟨z, y⟩
            · exact .inl z)) z.2⟩
          by_cases k2 : kind = 2 ∧ many % 3 = 0
          · obtain ⟨p', a1, a2⟩ := go 3 (by decide) (by decide) k2.2
            exact ⟨p', a1, ret_T ((tst 2 3 (by decide) (by decide)).trans (by rw [decide_eq_true k2.2, decide_eq_true (show kind = ((2 : Nat) : Int) from k2.1)]; rfl)) (ret_ret a2)⟩
          · refine ⟨p, q2, ret_F0 ((tst 2 3 (by decide) (by decide)).trans (by
              congr 1
              rw [Bool.and_eq_false_iff, decide_eq_false_iff_not, decide_eq_false_iff_not]
              by_cases z : kind = 2
              · exact .inr fun y => k2 ⟨z, y⟩
              · exact .inl z)) (ret_ret rfl)⟩
    obtain ⟨p', m1, m2⟩ := main
    refine ⟨p', m1, ?_⟩
    rw [den_at hg.law_a_part]
    exact Ret.run rfl (ret_cons (x_set (x := pD p) (S1 := S1) (ev_call (es_cons (x := .loc n) (S1 := S) rfl (es_cons (x := .int many) (S1 := S) rfl es_nil)) q1)) (ret_cons (x_set (x := .int kind) (S1 := S2) (ev_call (es_cons (x := .loc n) (S1 := S1) rfl (es_cons (x := .int 6) (S1 := S1) rfl es_nil)) hk)) m2))
  obtain ⟨p', e1, e2⟩ := hE r r1
  exact ⟨p', S2, e2, e1, q3.trans r4⟩
end
end L2.PV


/-! E13: the sea, the sill, near. -/
namespace L2.PV
open PySem PySem.Spec PyProof.Rows LamX

def TideOk (td : List (List Int)) : Prop := (∀ p ∈ td, 0 < p.length) ∧ per td ≤ 60
def sizesN : List (List Nat) := [[2], [3], [4], [5], [6], [2, 3], [4, 2], [3, 3], [6, 4], [12], [1], [2], [3], [4], [12, 5], [3, 4, 5]]
def szD (s : List Nat) : D := .lst (s.map fun (i : Nat) => .int (i : Int))
theorem sizesN_ok : ∀ s ∈ sizesN, (∀ i ∈ s, 1 ≤ i ∧ i ≤ 12) ∧ s.foldl Nat.lcm 1 ≤ 60 := by decide
theorem pf_len : ∀ (td : List (List Int)) (a : Nat), pf a td = (td.map List.length).foldl Nat.lcm a := by
  intro td a
  unfold pf
  rw [List.foldl_map]
theorem tideOk_of {td : List (List Int)} {s : List Nat} (hs : s ∈ sizesN) (h : td.map List.length = s) : TideOk td := by
  obtain ⟨h1, h2⟩ := sizesN_ok s hs
  refine ⟨fun p hp => ?_, ?_⟩
  · have := (h1 p.length (by rw [← h]; exact List.mem_map.mpr ⟨p, hp, rfl⟩)).1
    omega
  · unfold per
    rw [pf_len, h]
    exact h2
theorem all2_tide : ∀ {s : List Nat} {ys : List D}, All2 (fun x y => ∃ (m : Nat) (p : List Int), x = .int (m : Int) ∧ y = pD p ∧ p.length = m) (s.map fun (i : Nat) => .int (i : Int)) ys → ∃ td : List (List Int), ys = td.map pD ∧ td.map List.length = s
  | [], [], _ => ⟨[], rfl, rfl⟩
  | m :: s, y :: ys, h => by
    obtain ⟨⟨m', p, h1, rfl, h2⟩, h3⟩ := h
    obtain ⟨td, rfl, h4⟩ := all2_tide h3
    refine ⟨p :: td, rfl, ?_⟩
    have : m = m' := by injection h1 with h1; omega
    rw [List.map_cons, h4, h2, this]
  | [], _ :: _, h => h.elim
  | _ :: _, [], h => h.elim
section
variable {g : List Fn} {k n : Nat} {S : Sto} (hg : IsT g)
include hg
theorem d_sea (hT : TapeAt n S) : ∃ (td : List (List Int)) (S' : Sto), den g (k + 5) i_law_a_sea [.loc n] S = .ok (tideD td) S' ∧ TideOk td ∧ Tp n S S' := by
  obtain ⟨m, S1, q1, q2, q3⟩ := d_pick (k := k + 2) (xs := sizesN.map szD) hg.law_draw hg.law_pick (.inl rfl) (by decide) (by decide) hT
  obtain ⟨s, hs, rfl⟩ := List.mem_map.mp q2
  have hstep : ∀ x ∈ s.map (fun (i : Nat) => D.int (i : Int)), ∀ S, TapeAt n S → ∃ y S', (fun x S2 => (evE (den g (k + 4)) (.call i_law_a_part (.cons (.var 0) (.cons (.var 2) .nil)) []) [some (.loc n), some (szD s), some x] S2).bind fun y S4 => PV.R.ok (some y) S4) x S = .ok (some y) S' ∧ (fun x y => ∃ (m : Nat) (p : List Int), x = D.int (m : Int) ∧ y = pD p ∧ p.length = m) x y ∧ Tp n S S' := by
    intro x hx S hS
    obtain ⟨i, hi, rfl⟩ := List.mem_map.mp hx
    have hb := (sizesN_ok s hs).1 i hi
    obtain ⟨p, S', r1, r2, r3⟩ := d_part (k := k) hg hb.1 hb.2 hS
    refine ⟨pD p, S', ?_, ⟨i, p, rfl, rfl, r2⟩, r3⟩
    show (evE (den g (k + 4)) (.call i_law_a_part (.cons (.var 0) (.cons (.var 2) .nil)) []) [some (.loc n), some (szD s), some (.int i)] S).bind _ = _
    rw [ev_call (es_cons (x := .loc n) (S1 := S) rfl (es_cons (x := .int i) (S1 := S) rfl es_nil)) r1]
    rfl
  obtain ⟨ys, S2, r1, r2, r3⟩ := lc_draw _ S1 hstep q3.at
  obtain ⟨td, rfl, h4⟩ := all2_tide r2
  refine ⟨td, S2, ?_, tideOk_of hs h4, q3.trans r3⟩
  rw [den_at hg.law_a_sea]
  exact Ret.run rfl (ret_cons (x_set (x := szD s) (S1 := S1) (ev_call (es_cons (x := .loc n) (S1 := S) rfl (es_cons (x := .lst (sizesN.map szD)) (S1 := S) rfl es_nil)) q1)) (ret_ret (ev_blt (es_cons (x := .lst (td.map pD)) (S1 := S2) (ev_lc (xs := s.map fun (i : Nat) => D.int (i : Int)) (S1 := S1) rfl rfl r1) es_nil) rfl)))
theorem d_pickI {m : D} {l : List Int} (hm : m = .lst (l.map D.int)) (h1 : 0 < l.length) (h2 : l.length < 1073741824) (hT : TapeAt n S) :
    ∃ (i : Int) (S' : Sto), den g (k + 2) i_law_pick [.loc n, m] S = .ok (.int i) S' ∧ i ∈ l ∧ Tp n S S' := by
  obtain ⟨x, S', q1, q2, q3⟩ := d_pick (k := k) (xs := l.map D.int) hg.law_draw hg.law_pick (.inl hm) (by rw [List.length_map]; exact h1) (by rw [List.length_map]; exact h2) hT
  obtain ⟨i, hi, rfl⟩ := List.mem_map.mp q2
  exact ⟨i, S', q1, hi, q3⟩
theorem e_draw {e : En} {q : Int} (he : e[0]? = some (some (.loc n))) (h1 : 1 ≤ q) (h2 : q < 1073741824) (hT : TapeAt n S) : ∃ (r : Int) (S' : Sto), evE (den g (k + 1)) (.call i_law_draw (.cons (.var 0) (.cons (.cst (.int q)) .nil)) []) e S = .ok (.int r) S' ∧ 0 ≤ r ∧ r < q ∧ Tp n S S' := by
  obtain ⟨r, S', q1, q2, q3, q4⟩ := d_draw (k := k) (many := q) hg.law_draw h1 h2 hT
  exact ⟨r, S', ev_call (es_cons (ev_var he) (es_cons (x := .int q) (S1 := S) rfl es_nil)) q1, q2, q3, q4⟩
theorem d_sill (hT : TapeAt n S) : ∃ (s0 s1 : Int) (S' : Sto), den g (k + 3) i_law_a_sill [.loc n] S = .ok (.tup [.int s0, .int s1]) S' ∧ Tp n S S' := by
  obtain ⟨r1, S1, a1, _, _, b1⟩ := e_draw (k := k + 1) (e := [some (.loc n)]) (q := 12) hg rfl (by decide) (by decide) hT
  obtain ⟨s0, S2, a2, _, b2⟩ := d_pickI (k := k) (l := [1, 2, 3, 1 + r1]) hg rfl (by simp) (by simp) b1.at
  obtain ⟨r3, S3, a3, _, _, b3⟩ := e_draw (k := k + 1) (e := [some (.loc n)]) (q := 20) hg rfl (by decide) (by decide) b2.at
  obtain ⟨r4, S4, a4, _, _, b4⟩ := e_draw (k := k + 1) (e := [some (.loc n)]) (q := 299) hg rfl (by decide) (by decide) b3.at
  obtain ⟨s1, S5, a5, _, b5⟩ := d_pickI (k := k) (l := [50, 50, 0, 40 + r3, -99, 199, r4 - 99]) hg rfl (by simp) (by simp) b4.at
  refine ⟨s0, s1, S5, ?_, b1.trans (b2.trans (b3.trans (b4.trans b5)))⟩
  rw [den_at hg.law_a_sill]
  refine Ret.run rfl (ret_ret (ev_tup (es_cons (x := .int s0) (S1 := S2) (ev_call (es_cons (x := .loc n) (S1 := S) rfl (es_cons (x := .lst [.int 1, .int 2, .int 3, .int (1 + r1)]) (S1 := S1) (ev_lst (es_cons rfl (es_cons rfl (es_cons rfl (es_cons (ev_bin (x := .int 1) (S1 := S) rfl a1 rfl) es_nil))))) es_nil)) a2) (es_cons (x := .int s1) (S1 := S5) (ev_call (es_cons (x := .loc n) (S1 := S2) rfl (es_cons (x := .lst [.int 50, .int 50, .int 0, .int (40 + r3), .int (-99), .int 199, .int (r4 - 99)]) (S1 := S4) (ev_lst (es_cons rfl (es_cons rfl (es_cons rfl (es_cons (ev_bin (x := .int 40) (S1 := S2) rfl a3 rfl) (es_cons rfl (es_cons rfl (es_cons (ev_bin a4 (S2 := S4) (y := .int 99) rfl rfl) es_nil)))))))) es_nil)) a5) es_nil))))
theorem d_near {l : List Int} {most : Int} (h1 : 0 < l.length) (h2 : l.length < 1073741824) (hT : TapeAt n S) : ∃ (r : Int) (S' : Sto), den g (k + 3) i_law_a_near [.loc n, .lst (l.map D.int), .int most] S = .ok (.int r) S' ∧ Tp n S S' := by
  obtain ⟨r1, S1, a1, _, b1⟩ := d_pickI (k := k) (l := l) hg rfl h1 h2 hT
  obtain ⟨r2, S2, a2, _, _, b2⟩ := e_draw (k := k + 1) (e := [some (.loc n), some (.lst (l.map D.int)), some (.int most), none]) (q := 21) hg rfl (by decide) (by decide) b1.at
  obtain ⟨r3, S3, a3, _, b3⟩ := d_pickI (k := k) (l := [0, 0, 1, -1, r2 - 10]) hg rfl (by simp) (by simp) b2.at
  refine ⟨(if most < (if (0 : Int) > r1 + r3 then 0 else r1 + r3) then most else (if (0 : Int) > r1 + r3 then 0 else r1 + r3)), S3, ?_, b1.trans (b2.trans b3)⟩
  rw [den_at hg.law_a_near]
  refine Ret.run rfl (ret_cons (x_set (x := .int (r1 + r3)) (S1 := S3) (ev_bin (x := .int r1) (y := .int r3) (S1 := S1) (S2 := S3) (ev_call (es_cons (x := .loc n) (S1 := S) rfl (es_cons (x := .lst (l.map D.int)) (S1 := S) rfl es_nil)) a1) (ev_call (es_cons (x := .loc n) (S1 := S1) rfl (es_cons (x := .lst [.int 0, .int 0, .int 1, .int (-1), .int (r2 - 10)]) (S1 := S2) (ev_lst (es_cons rfl (es_cons rfl (es_cons rfl (es_cons rfl (es_cons (ev_bin a2 (S2 := S2) (y := .int 10) rfl rfl) es_nil)))))) es_nil)) a3) rfl)) (ret_ret rfl))
theorem max_mem {lv : List Int} (h : 0 < lv.length) : ∃ M ∈ lv, ∀ (S : Sto) (tr : Bool), bltF .max1 tr [lvD lv] S = .ok (.int M) S := by
  cases lv with
  | nil => cases h
  | cons c cs => exact ⟨_, (maxL_mem c cs).1, fun S tr => max_ok⟩
end
end L2.PV

namespace L2.PV
open PySem PySem.Spec PyProof.Rows LamX
/-! L0: passable hours, transits: plain. -/
abbrev Sl := Int × Int
def slD (s : Sl) : D := .tup [.int s.1, .int s.2]
def chD (ch : List Sl) : D := .tup (ch.map slD)
def bits (lv : List Int) (dr : Int) (s : Sl) : List Bool := lv.map fun l => decide (s.2 + l ≥ dr)
def dp (lv : List Int) (dr : Int) (s : Sl) (h : Int) : Bool := opn (bits lv dr s) h
def lvAt (lv : List Int) (h : Int) : Int := lv.getD (h % (lv.length : Int)).toNat 0
theorem bits_len {lv : List Int} {dr : Int} {s : Sl} : (bits lv dr s).length = lv.length := by simp [bits]
theorem dp_lv {lv : List Int} {dr : Int} {s : Sl} {h : Int} (hl : 0 < lv.length) : dp lv dr s h = decide (s.2 + lvAt lv h ≥ dr) := by
  have hix := opn_ix (w := bits lv dr s) (h := h) (by rw [bits_len]; exact hl)
  rw [bits_len] at hix
  unfold dp opn lvAt
  rw [bits_len, List.getD_eq_getElem?_getD, List.getElem?_eq_getElem (by rw [bits_len]; exact hix), List.getD_eq_getElem?_getD, List.getElem?_eq_getElem hix]
  simp [bits]
theorem dp_mod {lv : List Int} {dr : Int} {s : Sl} {a b : Int} (h : a % (lv.length : Int) = b % (lv.length : Int)) : dp lv dr s a = dp lv dr s b := opn_congr (by rw [bits_len]; exact h)
/-- an hour, or none -/
def oi (o : Option Int) : D := match o with
  | none => .non
  | some r => .int r
noncomputable def lastF (p : Int → Bool) (h : Int) : Option Int := open Classical in if H : ∃ r, 0 ≤ r ∧ r ≤ h ∧ p r = true ∧ ∀ t, r < t → t ≤ h → p t = false then some (Classical.choose H) else none
theorem lastF_some {p : Int → Bool} {h r : Int} (h0 : 0 ≤ r) (h1 : r ≤ h) (h2 : p r = true) (h3 : ∀ t, r < t → t ≤ h → p t = false) : lastF p h = some r := by
  have H : ∃ r, 0 ≤ r ∧ r ≤ h ∧ p r = true ∧ ∀ t, r < t → t ≤ h → p t = false := ⟨r, h0, h1, h2, h3⟩
  unfold lastF
  rw [dif_pos H]
  obtain ⟨g0, g1, g2, g3⟩ := Classical.choose_spec H
  congr 1
  by_cases a : Classical.choose H < r
  · have := g3 r a h1; rw [h2] at this; cases this
  · by_cases b : r < Classical.choose H
    · have := h3 _ b g1; rw [g2] at this; cases this
    · omega
theorem lastF_none {p : Int → Bool} {h : Int} (h1 : ∀ t, 0 ≤ t → t ≤ h → p t = false) : lastF p h = none := by
  unfold lastF
  rw [dif_neg]
  rintro ⟨r, a, b, c, _⟩
  rw [h1 r a b] at c; cases c
theorem lastF_spec {p : Int → Bool} {h r : Int} (e : lastF p h = some r) : 0 ≤ r ∧ r ≤ h ∧ p r = true ∧ ∀ t, r < t → t ≤ h → p t = false := by
  unfold lastF at e
  split at e
  · rename_i H
    cases e
    exact Classical.choose_spec H
  · cases e
theorem LastIs.eq {p : Int → Bool} {h : Int} {d : D} (x : LastIs p h d) : d = oi (lastF p h) := by
  rcases x with ⟨r, rfl, h0, h1, h2, h3⟩ | ⟨rfl, h1⟩
  · rw [lastF_some h0 h1 h2 h3]; rfl
  · rw [lastF_none h1]; rfl
theorem Ls.eq {p : Int → Bool} {h s : Int} (x : Ls p h s) : vl s = oi (lastF p h) := by
  by_cases hs : 0 ≤ s
  · obtain ⟨a, b⟩ := x.hi hs
    rw [vl_nn hs, lastF_some hs a b fun t c d => x.no t c d (by omega)]; rfl
  · rw [vl_non (by omega), lastF_none fun t a b => x.no t (by omega) b a]; rfl
noncomputable def firstF (p : Int → Bool) (h : Int) : Option Int := open Classical in if H : ∃ r, h ≤ r ∧ p r = true ∧ ∀ t, h ≤ t → t < r → p t = false then some (Classical.choose H) else none
theorem firstF_some {p : Int → Bool} {h r : Int} (h1 : h ≤ r) (h2 : p r = true) (h3 : ∀ t, h ≤ t → t < r → p t = false) : firstF p h = some r := by
  have H : ∃ r, h ≤ r ∧ p r = true ∧ ∀ t, h ≤ t → t < r → p t = false := ⟨r, h1, h2, h3⟩
  unfold firstF
  rw [dif_pos H]
  obtain ⟨g1, g2, g3⟩ := Classical.choose_spec H
  congr 1
  by_cases a : Classical.choose H < r
  · have := h3 _ g1 a; rw [g2] at this; cases this
  · by_cases b : r < Classical.choose H
    · have := g3 r h1 b; rw [h2] at this; cases this
    · omega
theorem firstF_none {p : Int → Bool} {h : Int} (h1 : ∀ t, h ≤ t → p t = false) : firstF p h = none := by
  unfold firstF
  rw [dif_neg]
  rintro ⟨r, a, c, _⟩
  rw [h1 r a] at c; cases c
theorem firstF_spec {p : Int → Bool} {h r : Int} (e : firstF p h = some r) : h ≤ r ∧ p r = true ∧ ∀ t, h ≤ t → t < r → p t = false := by
  unfold firstF at e
  split at e
  · rename_i H
    cases e
    exact Classical.choose_spec H
  · cases e
theorem NextIs.eq {p : Int → Bool} {h : Int} {d : D} (x : NextIs p h d) : ∃ r, d = .int r ∧ firstF p h = some r := by
  obtain ⟨r, rfl, a, b, c⟩ := x
  exact ⟨r, rfl, firstF_some a b c⟩
theorem addmod (x t p : Int) : (x + (t - x) % p) % p = t % p := by
  rw [Int.add_emod, Int.emod_emod_of_dvd _ (Int.dvd_refl p), ← Int.add_emod]
  congr 1
  omega
/-- nothing within a period: nothing at all -/
theorem dp_far {lv : List Int} {dr : Int} {s : Sl} (hl : 0 < lv.length) {a : Int} (h : ∀ i : Nat, i < lv.length → dp lv dr s (a + i) = false) (t : Int) : dp lv dr s t = false := by
  have hm := Int.emod_nonneg (t - a) (b := (lv.length : Int)) (by omega)
  have hm2 := Int.emod_lt_of_pos (t - a) (b := (lv.length : Int)) (by omega)
  have e := h ((t - a) % (lv.length : Int)).toNat (by omega)
  rw [← e]
  refine dp_mod ?_
  rw [Int.toNat_of_nonneg hm]
  exact (addmod a t lv.length).symm
/-- the first hour is near -/
theorem firstF_near {lv : List Int} {dr : Int} {s : Sl} (hl : 0 < lv.length) {a r : Int} (e : firstF (dp lv dr s) a = some r) : r < a + lv.length := by
  obtain ⟨h1, h2, h3⟩ := firstF_spec e
  by_cases q : r < a + lv.length
  · exact q
  · have := dp_far (lv := lv) (dr := dr) (s := s) hl (a := a) (fun i hi => h3 _ (by omega) (by omega)) r
    rw [h2] at this; cases this
/-- backwards over the sills, the last one first -/
noncomputable def backF (lv : List Int) (dr : Int) : List Sl → Int → Option (List Int)
  | [], _ => some []
  | s :: rest, z => match lastF (dp lv dr s) (z - s.1) with
    | none => none
    | some r => (backF lv dr rest r).map (· ++ [r])
noncomputable def depF (lv : List Int) (dr : Int) : List Sl → Int → Option Int
  | [], z => some z
  | s :: rest, z => match lastF (dp lv dr s) (z - s.1) with
    | none => none
    | some r => depF lv dr rest r
noncomputable def transF (lv : List Int) (dr : Int) : List Sl → Int → Option (List Int)
  | [], _ => some []
  | s :: rest, t => match firstF (dp lv dr s) t with
    | none => none
    | some r => (transF lv dr rest (r + s.1)).map (r :: ·)
theorem dep_back {lv : List Int} {dr : Int} : ∀ (ch : List Sl) (z : Int), depF lv dr ch z = (backF lv dr ch z).map fun l => l.headD z
  | [], z => rfl
  | s :: rest, z => by
    show (match lastF (dp lv dr s) (z - s.1) with
      | none => none
      | some r => depF lv dr rest r) = Option.map _ (match lastF (dp lv dr s) (z - s.1) with
      | none => none
      | some r => (backF lv dr rest r).map (· ++ [r]))
    cases lastF (dp lv dr s) (z - s.1) with
    | none => rfl
    | some r =>
      show depF lv dr rest r = ((backF lv dr rest r).map (· ++ [r])).map _
      rw [dep_back rest r]
      cases backF lv dr rest r with
      | none => rfl
      | some l => cases l <;> rfl
theorem back_len {lv : List Int} {dr : Int} : ∀ (ch : List Sl) (z : Int) (l : List Int), backF lv dr ch z = some l → l.length = ch.length ∧ ∀ x ∈ l, 0 ≤ x
  | [], z, l, e => by cases (show some [] = some l from e); exact ⟨rfl, fun x h => by cases h⟩
  | s :: rest, z, l, e => by
    replace e : (match lastF (dp lv dr s) (z - s.1) with
      | none => none
      | some r => (backF lv dr rest r).map (· ++ [r])) = some l := e
    cases hr : lastF (dp lv dr s) (z - s.1) with
    | none => rw [hr] at e; cases e
    | some r =>
      rw [hr] at e
      obtain ⟨l', e1, e2⟩ := Option.map_eq_some_iff.mp e
      obtain ⟨h1, h2⟩ := back_len rest r l' e1
      subst e2
      refine ⟨by simp [h1], fun x hx => ?_⟩
      rcases List.mem_append.mp hx with hx | hx
      · exact h2 x hx
      · rw [List.mem_singleton.mp hx]; exact (lastF_spec hr).1
theorem trans_len {lv : List Int} {dr : Int} : ∀ (ch : List Sl) (z : Int) (l : List Int), transF lv dr ch z = some l → l.length = ch.length
  | [], z, l, e => by cases (show some [] = some l from e); rfl
  | s :: rest, z, l, e => by
    replace e : (match firstF (dp lv dr s) z with
      | none => none
      | some r => (transF lv dr rest (r + s.1)).map (r :: ·)) = some l := e
    cases hr : firstF (dp lv dr s) z with
    | none => rw [hr] at e; cases e
    | some r =>
      rw [hr] at e
      obtain ⟨l', e1, e2⟩ := Option.map_eq_some_iff.mp e
      subst e2
      rw [List.length_cons, List.length_cons, trans_len rest _ l' e1]
/-! ranges -/
theorem rngD_down (m : Nat) : rngD ((m : Int)) (-1) (m + 1) = .int m :: rngD ((m : Int) - 1) (-1) m := by
  unfold rngD
  rw [List.range_succ_eq_map, List.map_cons, List.map_map]
  have e0 : (m : Int) + ((0 : Nat) : Int) * -1 = m := by omega
  rw [e0]
  refine congrArg _ (List.map_congr_left fun i _ => ?_)
  show D.int ((m : Int) + ((i + 1 : Nat) : Int) * -1) = D.int ((m : Int) - 1 + (i : Int) * -1)
  congr 1
  omega
theorem rngD_up (a : Int) (m : Nat) : rngD a 1 (m + 1) = .int a :: rngD (a + 1) 1 m := by
  unfold rngD
  rw [List.range_succ_eq_map, List.map_cons, List.map_map]
  have e0 : a + ((0 : Nat) : Int) * 1 = a := by omega
  rw [e0]
  refine congrArg _ (List.map_congr_left fun i _ => ?_)
  show D.int (a + ((i + 1 : Nat) : Int) * 1) = D.int (a + 1 + (i : Int) * 1)
  congr 1
  omega
theorem chD_get {ch : List Sl} {i : Nat} {s : Sl} {S : Sto} (h : ch[i]? = some s) : idxF S (chD ch) (.int (i : Nat)) = some (slD s) := by
  refine atI_ok (by omega) ?_
  rw [show ((i : Nat) : Int).toNat = i by omega, List.getElem?_map, h]
  rfl
end L2.PV

namespace L2.PV
open PySem PySem.Spec PyProof.Rows LamX
/-! L1: the latest departure. -/
def rowD (lv : List Int) (s : Sl) : D := .lst ((lv.map fun l => s.2 + l).map D.int)
section
variable {fs : List Fn} {k f : Nat} {S : Sto} {td : List (List Int)} {lv : List Int} {dr h : Int} {s : Sl} {ch : List Sl}
theorem ei_rng3 {Δ : Den} {e : En} {S S1 S2 S3 : Sto} {a b c : IE} {i j : Int} (h : evE Δ a e S = .ok (.int i) S1) (h2 : evE Δ b e S1 = .ok (.int j) S2) (h3 : evE Δ c e S2 = .ok (.int (-1)) S3) (hb : -1000000000 ≤ i ∧ i ≤ 1000000000 ∧ -1000000000 ≤ j ∧ j ≤ 1000000000 ∧ i - j ≤ 16777216) :
    evI Δ (.rng3 a b c) e S = .ok (rngD i (-1) (i - j).toNat) S3 := by
  unfold evI
  rw [h]
  show (evE Δ b e S1).bind _ = _
  rw [h2]
  show (evE Δ c e S2).bind _ = _
  rw [h3]
  show (if (-1 : Int) = -1 ∧ -(2 ^ 61) ≤ i ∧ i < 2 ^ 61 ∧ -(2 ^ 61) ≤ j ∧ j < 2 ^ 61 ∧ i - j ≤ 16777216 then PV.R.ok (rngD i (-1) (i - j).toNat) S3 else .bad) = _
  rw [if_pos ⟨rfl, by omega, by omega, by omega, by omega, by omega⟩]
theorem d_period_levels (hpe : fs[i_period_of]? = some ⟨1, 3, ir_period_of⟩) (hle : fs[i_level_at]? = some ⟨2, 3, ir_level_at⟩) (hls : fs[i_levels_at]? = some ⟨3, 4, ir_levels_at⟩) (hf : fs[f]? = some ⟨2, 3, ir_period_levels⟩)
    (hp : ∀ p ∈ td, 0 < p.length) (hb : per td ≤ 240) : den fs (k + 3) f [tideD td, .int 240] S = .ok (.tup ((lvls td).map D.int)) S := by
  rw [den_at hf]
  refine Ret.run rfl (ret_cons (x_set (x := .int (per td)) (S1 := S) (ev_call (es_cons (x := tideD td) rfl es_nil) (d_period_of hpe hp hb))) (ret_F0 (et_cmp (x := .int (per td)) (y := .int 240) (S1 := S) (S2 := S) rfl rfl ?_) ?_))
  · show some (decide ((240 : Int) < (per td : Nat))) = _
    rw [decide_eq_false (by omega)]
  · refine ret_ret (ev_call (es_cons (x := tideD td) (S1 := S) (ev_var rfl) (es_cons (x := .int 0) (S1 := S) rfl (es_cons (x := .int (per td)) (S1 := S) (ev_var rfl) es_nil))) ?_)
    rw [List.append_nil, den_at hls]
    refine Ret.run rfl (ret_ret (ev_blt (es_cons (x := .lst ((lvls td).map D.int)) (S1 := S) (ev_lc (xs := rngD 0 1 (per td)) (S1 := S) ((ei_rng1 (j := (per td : Nat)) rfl (by omega) (by omega)).trans rfl) rfl (lvls_map fun i hi => ?_)) es_nil) rfl))
    have hr := d_level_at (k := k) (S := S) (h := 0 + (i : Int)) hle hp
    show (evE (den fs (k + 1)) (.call i_level_at (.cons (.var 0) (.cons (.bin .Add (.var 1) (.var 3)) .nil)) []) [some (tideD td), some (.int 0), some (.int (per td)), some (.int i)] S).bind _ = _
    rw [ev_call (es_cons (x := tideD td) rfl (es_cons (x := .int (0 + (i : Int))) rfl es_nil)) hr, Int.zero_add]
    rfl
theorem d_rows (hf : fs[f]? = some ⟨2, 4, ir_rows_of_depths⟩) : den fs (k + 1) f [chD ch, .tup (lv.map D.int)] S = .ok (.lst (ch.map (rowD lv))) S := by
  rw [den_at hf]
  refine Ret.run rfl (ret_ret (ev_lc (xs := ch.map slD) (S1 := S) (ei_seq (x := chD ch) (ev_var rfl) rfl) rfl ?_))
  have e : ch.map (rowD lv) = (ch.map slD).map fun d => match d with
    | .tup [.int a, .int b] => rowD lv (a, b)
    | _ => .non := by
    rw [List.map_map]; rfl
  rw [e]
  refine lcL_map fun x hx => ?_
  obtain ⟨s, _, rfl⟩ := List.mem_map.mp hx
  have hin : lcL (fun x S2 => (evE (den fs k) (.bin .Add (.idx (.var 2) (.cst (.int 1))) (.var 3)) [some (chD ch), some (.tup (lv.map D.int)), some (slD s), some x] S2).bind fun y S4 => PV.R.ok (some y) S4) (lv.map D.int) S = .ok ((lv.map fun v => s.2 + v).map D.int) S := by
    have e : (lv.map fun v => s.2 + v).map D.int = (lv.map D.int).map fun d => match d with
      | .int i => .int (s.2 + i)
      | _ => .non := by
      rw [List.map_map, List.map_map]
      rfl
    rw [e]
    refine lcL_map fun x hx => ?_
    obtain ⟨i, _, rfl⟩ := List.mem_map.mp hx
    rfl
  have h2 : evE (den fs k) (.lc false [("level", 3)] (.nm 3) (.seq (.var 1)) .nil (.bin .Add (.idx (.var 2) (.cst (.int 1))) (.var 3))) [some (chD ch), some (.tup (lv.map D.int)), some (slD s), none] S = .ok (rowD lv s) S :=
    ev_lc (xs := lv.map D.int) (S1 := S) (ei_seq (x := .tup (lv.map D.int)) (ev_var rfl) rfl) rfl hin
  show (evE (den fs k) (.lc false [("level", 3)] (.nm 3) (.seq (.var 1)) .nil (.bin .Add (.idx (.var 2) (.cst (.int 1))) (.var 3))) [some (chD ch), some (.tup (lv.map D.int)), some (slD s), none] S).bind _ = _
  rw [h2]
  rfl
theorem row_len : bltF .len false [rowD lv s] S = .ok (.int lv.length) S := by
  show PV.R.ok (D.int ((lv.map fun l => s.2 + l).map D.int).length) S = _
  rw [List.length_map, List.length_map]
theorem lv_at (hl : 0 < lv.length) : idxF S (lvD lv) (.int (h % (lv.length : Int))) = some (.int (lvAt lv h)) := by
  have hm := Int.emod_nonneg h (b := (lv.length : Int)) (by omega)
  have hm2 := Int.emod_lt_of_pos h (b := (lv.length : Int)) (by omega)
  have hix : (h % (lv.length : Int)).toNat < lv.length := by omega
  refine atI_ok hm ?_
  rw [List.getElem?_map, List.getElem?_eq_getElem hix]
  unfold lvAt
  rw [List.getD_eq_getElem?_getD, List.getElem?_eq_getElem hix]
  rfl
theorem row_at (hl : 0 < lv.length) : idxF S (rowD lv s) (.int (h % (lv.length : Int))) = some (.int (s.2 + lvAt lv h)) := by
  have hm := Int.emod_nonneg h (b := (lv.length : Int)) (by omega)
  have hm2 := Int.emod_lt_of_pos h (b := (lv.length : Int)) (by omega)
  have hix : (h % (lv.length : Int)).toNat < lv.length := by omega
  refine atI_ok hm ?_
  rw [List.getElem?_map, List.getElem?_map, List.getElem?_eq_getElem hix]
  unfold lvAt
  rw [List.getD_eq_getElem?_getD, List.getElem?_eq_getElem hix]
  rfl
/-- no hour of the last period, up to h -/
theorem last_none (hl : 0 < lv.length) {n : Nat} (hn : n = ((h - (if -1 > h - (lv.length : Int) then -1 else h - (lv.length : Int))).toNat)) (q : ∀ i : Nat, i < n → dp lv dr s (h - i) = false) : lastF (dp lv dr s) h = none := by
  by_cases hb : -1 > h - (lv.length : Int)
  · rw [if_pos hb] at hn
    refine lastF_none fun t a b => ?_
    have := q (h - t).toNat (by omega)
    rw [show h - (((h - t).toNat : Nat) : Int) = t by omega] at this
    exact this
  · rw [if_neg hb] at hn
    refine lastF_none fun t a b => ?_
    refine dp_far hl (a := h - lv.length + 1) (fun i hi => ?_) t
    have := q (lv.length - 1 - i) (by omega)
    rw [show h - ((lv.length - 1 - i : Nat) : Int) = h - lv.length + 1 + i by omega] at this
    exact this
theorem d_last_passable (hf : fs[f]? = some ⟨3, 4, ir_last_passable⟩) (hl : 0 < lv.length) (hl2 : lv.length ≤ 1000000) (h1 : h ≤ 1000000) (h2 : -1000000 ≤ h) : den fs (k + 1) f [rowD lv s, .int dr, .int h] S = .ok (oi (lastF (dp lv dr s) h)) S := by
  rw [den_at hf]
  have hit : evI (den fs k) (.rng3 (.var 2) (.blt .max2 false (.cons (.bin .Sub (.var 2) (.blt .len false (.cons (.var 0) .nil))) (.cons (.neg (.cst (.int 1))) .nil))) (.neg (.cst (.int 1)))) [some (rowD lv s), some (.int dr), some (.int h), none] S =
      .ok (rngD h (-1) (h - (if -1 > h - (lv.length : Int) then -1 else h - (lv.length : Int))).toNat) S := by
    have hb : evE (den fs k) (.blt .max2 false (.cons (.bin .Sub (.var 2) (.blt .len false (.cons (.var 0) .nil))) (.cons (.neg (.cst (.int 1))) .nil))) [some (rowD lv s), some (.int dr), some (.int h), none] S = .ok (.int (if -1 > h - (lv.length : Int) then -1 else h - (lv.length : Int))) S :=
      ev_blt (es_cons (x := .int (h - lv.length)) (ev_bin (x := .int h) (y := .int lv.length) (S1 := S) (S2 := S) rfl (ev_blt (es_cons (x := rowD lv s) rfl es_nil) row_len) rfl) (es_cons (x := .int (-1)) rfl es_nil)) rfl
    refine ei_rng3 (S1 := S) (S2 := S) (S3 := S) rfl hb rfl ?_
    generalize hj : (if -1 > h - (lv.length : Int) then -1 else h - (lv.length : Int)) = j
    have hj2 : -3000000 ≤ j ∧ j ≤ 3000000 := by split at hj <;> omega
    have hj3 : h - j ≤ 3000000 := by split at hj <;> omega
    omega
  generalize hn : (h - (if -1 > h - (lv.length : Int) then -1 else h - (lv.length : Int))).toNat = n at hit
  rcases forL_ret (f := fun x e1 S2 => (match asgT (.nm 3) x e1 with
      | some e2 => exSs (den fs k) (ir_last_passable.at 0).bd e2 S2
      | none => PV.R.bad)) (Q := fun d S' => S' = S ∧ ∃ i : Nat, i < n ∧ d = .int (h - i) ∧ dp lv dr s (h - i) = true ∧ ∀ j : Nat, j < i → dp lv dr s (h - j) = false)
      (rngD h (-1) n) (fun i e' S' => ∃ v3, e' = [some (rowD lv s), some (.int dr), some (.int h), v3] ∧ S' = S ∧ ∀ j : Nat, j < i → dp lv dr s (h - j) = false) 0 (e := [some (rowD lv s), some (.int dr), some (.int h), none]) (S := S) ⟨none, rfl, rfl, fun j hj => by omega⟩ (fun i x e' S' hx hp => by
      obtain ⟨v3, rfl, rfl, hp⟩ := hp
      rw [Nat.zero_add] at hp ⊢
      have hi := (List.getElem?_eq_some_iff.mp hx).1
      rw [rngD_len] at hi
      have hx2 := rngD_get hx
      rw [show h + (i : Int) * -1 = h - i by omega] at hx2
      subst hx2
      have hte : evT (den fs k) (.cmp .GtE (.idx (.var 0) (.bin .Mod (.var 3) (.blt .len false (.cons (.var 0) .nil)))) (.var 1)) [some (rowD lv s), some (.int dr), some (.int h), some (.int (h - i))] S' = .ok (dp lv dr s (h - i)) S' := by
        rw [dp_lv hl]
        refine et_cmp (x := .int (s.2 + lvAt lv (h - i))) (y := .int dr) (S1 := S') (S2 := S') (ev_idx (x := rowD lv s) (y := .int ((h - i) % (lv.length : Int))) (S1 := S') (S2 := S') rfl (ev_bin (x := .int (h - i)) (y := .int lv.length) (S1 := S') (S2 := S') rfl (ev_blt (es_cons (x := rowD lv s) rfl es_nil) row_len) (mod_ok (by omega))) (row_at hl)) rfl rfl
      cases hc : dp lv dr s (h - i) with
      | true => exact .inr ⟨.int (h - i), _, S', xs_stop ((x_T (hte.trans (by rw [hc]))).trans (xs_stop (x_ret rfl))), rfl, i, hi, rfl, hc, hp⟩
      | false =>
        refine .inl ⟨_, S', .inl ((xs_cons ((x_F (hte.trans (by rw [hc]))).trans rfl)).trans rfl), _, rfl, rfl, fun j hj => ?_⟩
        by_cases hji : j = i
        · rw [hji]; exact hc
        · exact hp j (by omega)) with ⟨e', S', g1, v3, rfl, rfl, g2⟩ | ⟨d, e', S', g1, rfl, i, hi, rfl, q1, q2⟩
  · rw [Nat.zero_add, rngD_len] at g2
    rw [last_none hl hn.symm g2]
    exact Ret.run rfl (ret_cons ((x_for hit rfl).trans g1) (ret_ret rfl))
  · have hb : 0 ≤ h - i := by split at hn <;> omega
    rw [lastF_some (r := h - i) hb (by omega) q1 fun t a b => by
      have := q2 (h - t).toNat (by omega)
      rw [show h - (((h - t).toNat : Nat) : Int) = t by omega] at this
      exact this]
    exact Ret.run rfl ⟨e', xs_stop ((x_for hit rfl).trans g1)⟩
/-- the loop over the sills, from the last one -/
theorem dep_loop (hlp : fs[i_last_passable]? = some ⟨3, 4, ir_last_passable⟩) (hl : 0 < lv.length) (hl2 : lv.length ≤ 1000000) (hs : ∀ s ∈ ch, 0 ≤ s.1 ∧ s.1 ≤ 1000) {v0 v4 : Option D} {g : D → En → Sto → R (Fl × En)} (hg : g = fun x e1 S2 => (match asgT (.nm 6) x e1 with
      | some e2 => exSs (den fs (k + 1)) (ir_latest_departure.at 1).bd e2 S2
      | none => PV.R.bad)) : ∀ (m : Nat) (z : Int) (v6 : Option D), m ≤ ch.length → 0 ≤ z → z ≤ 1000000 →
    (∃ r v, depF lv dr (ch.take m).reverse z = some r ∧ 0 ≤ r ∧ forL g (rngD ((m : Int) - 1) (-1) m) [v0, some (chD ch), some (.int dr), some (.int z), v4, some (.lst (ch.map (rowD lv))), v6] S = .ok (.nx, [v0, some (chD ch), some (.int dr), some (.int r), v4, some (.lst (ch.map (rowD lv))), v]) S) ∨
    (depF lv dr (ch.take m).reverse z = none ∧ ∃ e', forL g (rngD ((m : Int) - 1) (-1) m) [v0, some (chD ch), some (.int dr), some (.int z), v4, some (.lst (ch.map (rowD lv))), v6] S = .ok (.ret .non, e') S)
  | 0, z, v6, _, h0, _ => .inl ⟨z, v6, rfl, h0, rfl⟩
  | m + 1, z, v6, hm, h0, h1 => by
    have hlt : m < ch.length := by omega
    obtain ⟨b1, b2⟩ := hs _ (List.getElem_mem hlt)
    have htk : (ch.take (m + 1)).reverse = ch[m] :: (ch.take m).reverse := by rw [List.take_succ, List.getElem?_eq_getElem hlt]; simp
    rw [htk, show (((m + 1 : Nat) : Int) - 1) = m by omega, rngD_down]
    have hp := d_last_passable (k := k) (S := S) (s := ch[m]) (dr := dr) (h := z - ch[m].1) hlp hl hl2 (by omega) (by omega)
    have hst : exS (den fs (k + 1)) ((ir_latest_departure.at 1).bd.at 0) [v0, some (chD ch), some (.int dr), some (.int z), v4, some (.lst (ch.map (rowD lv))), some (.int (m : Int))] S = .ok (.nx, [v0, some (chD ch), some (.int dr), some (oi (lastF (dp lv dr ch[m]) (z - ch[m].1))), v4, some (.lst (ch.map (rowD lv))), some (.int (m : Int))]) S := by
      refine (x_set (x := oi (lastF (dp lv dr ch[m]) (z - ch[m].1))) (S1 := S) (ev_call (es_cons (x := rowD lv ch[m]) (S1 := S) (ev_idx (x := .lst (ch.map (rowD lv))) (y := .int (m : Int)) rfl rfl (atI_ok (by omega) (by
        rw [show ((m : Int)).toNat = m by omega, List.getElem?_map, List.getElem?_eq_getElem hlt]; rfl))) (es_cons (x := .int dr) rfl (es_cons (x := .int (z - ch[m].1)) (S1 := S) (ev_bin (x := .int z) (y := .int ch[m].1) (S1 := S) (S2 := S) rfl (ev_idx (x := slD ch[m]) (y := .int 0) (S1 := S) (S2 := S) (ev_idx (x := chD ch) (y := .int (m : Int)) rfl rfl (chD_get (List.getElem?_eq_getElem hlt))) rfl rfl) rfl) es_nil))) hp)).trans rfl
    cases hr : lastF (dp lv dr ch[m]) (z - ch[m].1) with
    | none =>
      rw [hr] at hst
      refine .inr ⟨?_, ?_⟩
      · show (match lastF (dp lv dr ch[m]) (z - ch[m].1) with
          | none => none
          | some r => depF lv dr (ch.take m).reverse r) = none
        rw [hr]
      · refine ⟨[v0, some (chD ch), some (.int dr), some .non, v4, some (.lst (ch.map (rowD lv))), some (.int (m : Int))], ?_⟩
        have st : g (.int (m : Int)) [v0, some (chD ch), some (.int dr), some (.int z), v4, some (.lst (ch.map (rowD lv))), v6] S = .ok (.ret .non, [v0, some (chD ch), some (.int dr), some .non, v4, some (.lst (ch.map (rowD lv))), some (.int (m : Int))]) S := by
          subst hg
          exact (xs_cons hst).trans (xs_stop ((x_T (et_cmp (x := .non) (y := .non) (S1 := S) (S2 := S) rfl rfl rfl)).trans (xs_stop (x_ret rfl))))
        show (match g (.int (m : Int)) _ S with
          | .ok (.nx, e1) S1 => forL g (rngD ((m : Int) - 1) (-1) m) e1 S1
          | .ok (.cnt, e1) S1 => forL g (rngD ((m : Int) - 1) (-1) m) e1 S1
          | .ok (.brk, e1) S1 => .ok (.nx, e1) S1
          | r => r) = _
        rw [st]
    | some r =>
      rw [hr] at hst
      obtain ⟨r0, r1, _, _⟩ := lastF_spec hr
      have st : g (.int (m : Int)) [v0, some (chD ch), some (.int dr), some (.int z), v4, some (.lst (ch.map (rowD lv))), v6] S = .ok (.nx, [v0, some (chD ch), some (.int dr), some (.int r), v4, some (.lst (ch.map (rowD lv))), some (.int (m : Int))]) S := by
        subst hg
        exact (xs_cons hst).trans ((xs_cons ((x_F (et_cmp (x := .int r) (y := .non) (S1 := S) (S2 := S) rfl rfl rfl)).trans rfl)).trans rfl)
      rw [forL_cons1 st]
      have hd : depF lv dr (ch[m] :: (ch.take m).reverse) z = depF lv dr (ch.take m).reverse r := by
        show (match lastF (dp lv dr ch[m]) (z - ch[m].1) with
          | none => none
          | some r => depF lv dr (ch.take m).reverse r) = _
        rw [hr]
      rw [hd]
      exact dep_loop hlp hl hl2 hs hg m r _ (by omega) r0 (by omega)
theorem d_latest (hpe : fs[i_period_of]? = some ⟨1, 3, ir_period_of⟩) (hle : fs[i_level_at]? = some ⟨2, 3, ir_level_at⟩) (hls : fs[i_levels_at]? = some ⟨3, 4, ir_levels_at⟩) (hpl : fs[i_period_levels]? = some ⟨2, 3, ir_period_levels⟩)
    (hro : fs[i_rows_of_depths]? = some ⟨2, 4, ir_rows_of_depths⟩) (hlp : fs[i_last_passable]? = some ⟨3, 4, ir_last_passable⟩) (hf : fs[f]? = some ⟨5, 7, ir_latest_departure⟩) (hp : ∀ p ∈ td, 0 < p.length) (hb : per td ≤ 240)
    (hs : ∀ s ∈ ch, 0 ≤ s.1 ∧ s.1 ≤ 1000) (hc : ch.length ≤ 1000) {z : Int} (h0 : 0 ≤ z) (h1 : z ≤ 1000000) : den fs (k + 4) f [tideD td, chD ch, .int dr, .int z, .int 240] S = .ok (oi (depF (lvls td) dr ch.reverse z)) S := by
  have hper := (pf_pos td 1 (by decide) hp).1
  have hll : (lvls td).length = per td := by unfold lvls; simp
  rw [den_at hf]
  have s0 : exS (den fs (k + 3)) (ir_latest_departure.at 0) [some (tideD td), some (chD ch), some (.int dr), some (.int z), some (.int 240), none, none] S = .ok (.nx, [some (tideD td), some (chD ch), some (.int dr), some (.int z), some (.int 240), some (.lst (ch.map (rowD (lvls td)))), none]) S :=
    (x_set (x := .lst (ch.map (rowD (lvls td)))) (S1 := S) (ev_call (es_cons (x := chD ch) (S1 := S) rfl (es_cons (x := .tup ((lvls td).map D.int)) (S1 := S) (ev_call (es_cons (x := tideD td) rfl (es_cons (x := .int 240) rfl es_nil)) (d_period_levels hpe hle hls hpl hp hb)) es_nil)) (d_rows hro))).trans rfl
  have hit : evI (den fs (k + 3)) (.rng3 (.bin .Sub (.blt .len false (.cons (.var 1) .nil)) (.cst (.int 1))) (.neg (.cst (.int 1))) (.neg (.cst (.int 1)))) [some (tideD td), some (chD ch), some (.int dr), some (.int z), some (.int 240), some (.lst (ch.map (rowD (lvls td)))), none] S = .ok (rngD ((ch.length : Int) - 1) (-1) ch.length) S := by
    have hb : evE (den fs (k + 3)) (.bin .Sub (.blt .len false (.cons (.var 1) .nil)) (.cst (.int 1))) [some (tideD td), some (chD ch), some (.int dr), some (.int z), some (.int 240), some (.lst (ch.map (rowD (lvls td)))), none] S = .ok (.int ((ch.length : Int) - 1)) S :=
      ev_bin (x := .int ch.length) (y := .int 1) (S1 := S) (S2 := S) (ev_blt (es_cons (x := chD ch) rfl es_nil) (by
        show PV.R.ok (D.int (ch.map slD).length) S = _
        rw [List.length_map])) rfl rfl
    refine (ei_rng3 (S1 := S) (S2 := S) (S3 := S) hb rfl rfl (by omega)).trans ?_
    rw [show ((ch.length : Int) - 1 - -1).toNat = ch.length by omega]
  have htk : ch.take ch.length = ch := List.take_length
  rcases dep_loop (k := k + 2) (S := S) (lv := lvls td) (dr := dr) (v0 := some (tideD td)) (v4 := some (.int 240)) hlp (by rw [hll]; exact hper) (by omega) hs rfl ch.length z none (Nat.le_refl _) h0 h1 with ⟨r, v, e1, _, g1⟩ | ⟨e1, e', g1⟩
  · rw [htk] at e1
    rw [e1]
    exact Ret.run rfl (ret_cons s0 (ret_cons ((x_for hit rfl).trans g1) (ret_ret rfl)))
  · rw [htk] at e1
    rw [e1]
    exact Ret.run rfl (ret_cons s0 ⟨e', xs_stop ((x_for hit rfl).trans g1)⟩)
end
end L2.PV

namespace L2.PV
open PySem PySem.Spec PyProof.Rows LamX
/-! L2: the law's way back. -/
/-- only the cell n was written, or cells came -/
def oT (o : Option (List Int)) : D := match o with
  | none => .non
  | some l => .tup (l.map D.int)
theorem depthAll_ints : ∀ ns : List Int, PyData.depthAll (ns.map PyData.int) = 0
  | [] => rfl
  | n :: ns => by
    show max (PyData.depth (.int n)) (PyData.depthAll (ns.map PyData.int)) = 0
    rw [depthAll_ints ns]
    rfl
theorem canLayAll_ints : ∀ ns : List Int, PyData.canLayAll0 (ns.map PyData.int) = true
  | [] => rfl
  | n :: ns => by
    show (PyData.canLay0 (.int n) && PyData.canLayAll0 (ns.map PyData.int)) = true
    rw [canLayAll_ints ns]
    rfl
theorem shaped_ints (ns : List Int) : SeqAt.shaped (.list (ns.map PyData.int)) = true := by
  show (PyData.canLayAll0 (ns.map PyData.int) && decide (PyData.depthAll (ns.map PyData.int) + 1 ≤ 64)) = true
  rw [canLayAll_ints, depthAll_ints]
  rfl
theorem dats_ints : ∀ ns : List Int, D.dats (ns.map D.int) = some (ns.map PyData.int)
  | [] => rfl
  | n :: ns => by
    show (match D.dat (.int n) with
      | some d => (D.dats (ns.map D.int)).map (d :: ·)
      | none => none) = _
    rw [dats_ints ns]
    rfl
theorem eq_nil {ns : List Int} {S : Sto} : cmpF S .Eq (.lst (ns.map D.int)) (.lst []) = some ns.isEmpty := by
  show eqDp (.lst (ns.map D.int)) (.lst []) = _
  have h1 : (D.lst (ns.map D.int)).dat = some (.list (ns.map PyData.int)) := by
    show (D.dats (ns.map D.int)).map PyData.list = _
    rw [dats_ints]; rfl
  have h2 : (D.lst []).dat = some (.list []) := rfl
  unfold eqDp
  rw [h1, h2]
  show (if SeqAt.shaped (.list (ns.map PyData.int)) = true ∧ SeqAt.shaped (.list []) = true then some (PyData.eqv (.list (ns.map PyData.int)) (.list [])) else none) = _
  rw [if_pos ⟨shaped_ints ns, rfl⟩]
  cases ns <;> rfl
theorem atI_last {α : Type} (l : List α) (x : α) : atI (l ++ [x]) (-1) = some x := by
  unfold atI ixN
  have hl : (l ++ [x]).length = l.length + 1 := by simp
  rw [if_neg (by decide), if_pos (by omega)]
  show (l ++ [x])[((-1 : Int) + ((l ++ [x]).length : Nat)).toNat]? = _
  rw [show ((-1 : Int) + ((l ++ [x]).length : Nat)).toNat = l.length by omega]
  simp
theorem set_self {S : Sto} {n : Nat} {c : Cell} (h : S[n]? = some c) : S.set n c = S := by
  refine List.ext_getElem? fun i => ?_
  by_cases e : n = i
  · subst e
    rw [List.getElem?_set_self (List.getElem?_eq_some_iff.mp h).1, h]
  · rw [List.getElem?_set_ne e]
theorem set_snoc {S : Sto} {a c : Cell} : (S ++ [a]).set S.length c = S ++ [c] := by
  rw [List.set_append_right _ _ (Nat.le_refl _), Nat.sub_self]
  rfl
theorem get_end {S : Sto} {c : Cell} : (S ++ [c])[S.length]? = some c := by
  rw [List.getElem?_append_right (Nat.le_refl _), Nat.sub_self]
  rfl
theorem tuple_loc {S : Sto} {n : Nat} {xs : List D} (h : S[n]? = some (.lst xs)) : bltF .tuple false [.loc n] S = .ok (.tup xs) S := by
  show (match rd S (.loc n) with
      | .tup xs => PV.R.ok (D.tup xs) S
      | .lst xs => .ok (D.tup xs) S
      | _ => .bad) = _
  unfold rd
  simp only [h]
theorem flt_last (q : Nat → Bool) : ∀ n : Nat, (∃ (i : Nat) (l : List Nat), i < n ∧ q i = true ∧ (∀ j, i < j → j < n → q j = false) ∧ (List.range n).filter q = l ++ [i]) ∨ ((List.range n).filter q = [] ∧ ∀ i, i < n → q i = false)
  | 0 => .inr ⟨rfl, fun i h => by omega⟩
  | n + 1 => by
    rw [List.range_succ, List.filter_append]
    cases hq : q n with
    | true => exact .inl ⟨n, (List.range n).filter q, by omega, hq, fun j a b => by omega, by simp [hq]⟩
    | false =>
      have e : List.filter q [n] = [] := by simp [hq]
      rw [e, List.append_nil]
      rcases flt_last q n with ⟨i, l, h1, h2, h3, h4⟩ | ⟨h1, h2⟩
      · refine .inl ⟨i, l, by omega, h2, fun j a b => ?_, h4⟩
        by_cases hj : j = n
        · rw [hj]; exact hq
        · exact h3 j a (by omega)
      · refine .inr ⟨h1, fun i hi => ?_⟩
        by_cases hj : i = n
        · rw [hj]; exact hq
        · exact h2 i (by omega)
theorem lcL_cong {f g : D → Sto → R (Option D)} {S : Sto} : ∀ {xs : List D} {ys : List D}, lcL g xs S = .ok ys S → (∀ x ∈ xs, f x S = g x S) → (∀ x ∈ xs, ∃ o, g x S = .ok o S) → lcL f xs S = .ok ys S
  | [], ys, h, _, _ => h
  | x :: xs, ys, h, e, ho => by
    obtain ⟨o, h1⟩ := ho x List.mem_cons_self
    have h2 := e x List.mem_cons_self
    replace h : (match g x S with
      | .ok none S1 => lcL g xs S1
      | .ok (some y) S1 => (match lcL g xs S1 with
        | .ok ys S2 => .ok (y :: ys) S2
        | _ => .bad)
      | _ => .bad) = .ok ys S := h
    show (match f x S with
      | .ok none S1 => lcL f xs S1
      | .ok (some y) S1 => (match lcL f xs S1 with
        | .ok ys S2 => .ok (y :: ys) S2
        | _ => .bad)
      | _ => .bad) = .ok ys S
    rw [h2]
    rw [h1] at h ⊢
    cases o with
    | none => exact lcL_cong h (fun y hy => e y (List.mem_cons_of_mem _ hy)) fun y hy => ho y (List.mem_cons_of_mem _ hy)
    | some y =>
      dsimp only at h ⊢
      cases hr : lcL g xs S with
      | ok zs S2 =>
        rw [hr] at h
        dsimp only at h
        injection h with h3 h4
        subst h3 h4
        rw [lcL_cong hr (fun y hy => e y (List.mem_cons_of_mem _ hy)) fun y hy => ho y (List.mem_cons_of_mem _ hy)]
      | ex _ _ => rw [hr] at h; cases h
      | bad => rw [hr] at h; cases h
section
variable {fs : List Fn} {k f : Nat} {S : Sto} {lv : List Int} {dr h : Int} {s : Sl} {ch : List Sl}
/-- the hours between with enough water -/
theorem hours_lc {Δ : Den} {e : En} {lo : Int} {n : Nat} (hl : 0 < lv.length) (h0 : e[0]? = some (some (lvD lv))) (h2 : e[2]? = some (some (.int dr))) (h6 : e[6]? = some (some (slD s))) (h9 : e.length = 10) {hi : IE} {lw : IE} (hit : evI Δ (.rng2 lw hi) e S = .ok (rngD lo 1 n) S) :
    evE Δ (.lc false [("h", 9)] (.nm 9) (.rng2 lw hi) (.cons (.cmp .GtE (.bin .Add (.idx (.var 6) (.cst (.int 1))) (.idx (.var 0) (.bin .Mod (.blt .int false (.cons (.var 9) .nil)) (.blt .len false (.cons (.var 0) .nil))))) (.var 2)) .nil) (.var 9)) e S =
      .ok (.lst ((((List.range n).filter fun (i : Nat) => dp lv dr s (lo + (i : Int))).map fun (i : Nat) => lo + (i : Int)).map D.int)) S := by
  refine ev_lc hit rfl ?_
  have e1 : (((List.range n).filter fun (i : Nat) => dp lv dr s (lo + (i : Int))).map fun (i : Nat) => lo + (i : Int)).map D.int = ((rngD lo 1 n).filter fun d => match d with
      | .int t => dp lv dr s t
      | _ => false).map id := by
    unfold rngD
    rw [List.map_id, List.filter_map, List.map_map]
    have ef : ((fun d : D => match d with
      | .int t => dp lv dr s t
      | _ => false) ∘ fun (k : Nat) => D.int (lo + (k : Int) * 1)) = fun (i : Nat) => dp lv dr s (lo + (i : Int)) := by
      funext i
      show dp lv dr s (lo + (i : Int) * 1) = _
      rw [Int.mul_one]
    rw [ef]
    refine List.map_congr_left fun i _ => ?_
    show D.int (lo + (i : Int)) = D.int (lo + (i : Int) * 1)
    rw [Int.mul_one]
  rw [e1]
  refine lcL_filter fun x hx => ?_
  obtain ⟨i, _, rfl⟩ := rngD_mem hx
  generalize lo + (i : Int) * 1 = t
  obtain ⟨x0, x1, x2, x3, x4, x5, x6, x7, x8, x9, rfl⟩ : ∃ a b c d e1 f g h i j, e = [a, b, c, d, e1, f, g, h, i, j] := by
    match e, h9 with
    | [a, b, c, d, e1, f, g, h, i, j], _ => exact ⟨a, b, c, d, e1, f, g, h, i, j, rfl⟩
  cases (show x0 = some (lvD lv) from by simpa using h0)
  cases (show x2 = some (.int dr) from by simpa using h2)
  cases (show x6 = some (slD s) from by simpa using h6)
  show (evT Δ (.cmp .GtE (.bin .Add (.idx (.var 6) (.cst (.int 1))) (.idx (.var 0) (.bin .Mod (.blt .int false (.cons (.var 9) .nil)) (.blt .len false (.cons (.var 0) .nil))))) (.var 2)) [some (lvD lv), x1, some (.int dr), x3, x4, x5, some (slD s), x7, x8, some (.int t)] S).bind _ = _
  have hte : evT Δ (.cmp .GtE (.bin .Add (.idx (.var 6) (.cst (.int 1))) (.idx (.var 0) (.bin .Mod (.blt .int false (.cons (.var 9) .nil)) (.blt .len false (.cons (.var 0) .nil))))) (.var 2)) [some (lvD lv), x1, some (.int dr), x3, x4, x5, some (slD s), x7, x8, some (.int t)] S = .ok (dp lv dr s t) S := by
    rw [dp_lv hl]
    refine et_cmp (x := .int (s.2 + lvAt lv t)) (y := .int dr) (S1 := S) (S2 := S) (ev_bin (x := .int s.2) (y := .int (lvAt lv t)) (S1 := S) (S2 := S) rfl (ev_idx (x := lvD lv) (y := .int (t % (lv.length : Int))) (S1 := S) (S2 := S) rfl (ev_bin (x := .int t) (y := .int lv.length) (S1 := S) (S2 := S) rfl (ev_blt (es_cons (x := lvD lv) rfl es_nil) ?_) (mod_ok (by omega))) (lv_at hl)) rfl) rfl rfl
    show PV.R.ok (D.int (lv.map D.int).length) S = _
    rw [List.length_map]
  rw [hte]
  show (match dp lv dr s t with
    | true => (evE Δ (.var 9) [some (lvD lv), x1, some (.int dr), x3, x4, x5, some (slD s), x7, x8, some (.int t)] S).bind fun y S4 => PV.R.ok (some y) S4
    | false => .ok none S) = .ok (if dp lv dr s t then some (.int t) else none) S
  cases dp lv dr s t <;> rfl
theorem back_loop {n0 : Nat} {v1 v3 : Option D} (hl : 0 < lv.length) (hl2 : lv.length ≤ 100000) {Δ : Den} {g : D → En → Sto → R (Fl × En)} (hg : g = fun x e1 S2 => (match asgT (.nm 6) x e1 with
      | some e2 => exSs Δ (ir_law_a_back.at 2).bd e2 S2
      | none => PV.R.bad)) : ∀ (rest : List Sl) (t : Int) (acc : List Int) (v6 v7 v8 v9 : Option D) (S : Sto), S[n0]? = some (.lst (acc.map D.int)) → acc.length + rest.length ≤ 1000 → 0 ≤ t → t ≤ 1000000 → (∀ s ∈ rest, 0 ≤ s.1 ∧ s.1 ≤ 1000) →
    (∃ l e', backF lv dr rest t = some l ∧ forL g (rest.map slD) [some (lvD lv), v1, some (.int dr), v3, some (.loc n0), some (.int t), v6, v7, v8, v9] S = .ok (.nx, e') (S.set n0 (.lst ((l ++ acc).map D.int))) ∧ e'[4]? = some (some (.loc n0))) ∨
    (backF lv dr rest t = none ∧ ∃ e' c, forL g (rest.map slD) [some (lvD lv), v1, some (.int dr), v3, some (.loc n0), some (.int t), v6, v7, v8, v9] S = .ok (.ret .non, e') (S.set n0 c))
  | [], t, acc, v6, v7, v8, v9, S, hS, _, _, _, _ => .inl ⟨[], _, rfl, by
      show PV.R.ok (Fl.nx, _) S = _
      congr 1
      exact (set_self hS).symm, rfl⟩
  | s :: rest, t, acc, v6, v7, v8, v9, S, hS, hln, h0, h1, hs => by
    obtain ⟨b1, b2⟩ := hs s List.mem_cons_self
    have hn0 := (List.getElem?_eq_some_iff.mp hS).1
    generalize htop : t - s.1 = top
    generalize hlo : (if 0 > top + 1 - (lv.length : Int) then 0 else top + 1 - (lv.length : Int)) = lo
    generalize hn : (top + 1 - lo).toNat = n
    have s1 : ∀ {v7 : Option D}, exS Δ ((ir_law_a_back.at 2).bd.at 0) [some (lvD lv), v1, some (.int dr), v3, some (.loc n0), some (.int t), some (slD s), v7, v8, v9] S = .ok (.nx, [some (lvD lv), v1, some (.int dr), v3, some (.loc n0), some (.int t), some (slD s), some (.int top), v8, v9]) S := fun {v7} => by
      rw [← htop]
      exact (x_set (x := .int (t - s.1)) (S1 := S) (ev_bin (x := .int t) (y := .int s.1) (S1 := S) (S2 := S) rfl rfl rfl)).trans rfl
    have hlen : ∀ {e : En}, e[0]? = some (some (lvD lv)) → evE Δ (.blt .len false (.cons (.var 0) .nil)) e S = .ok (.int lv.length) S := fun {e} he => ev_blt (es_cons (ev_var he) es_nil) (by
      show PV.R.ok (D.int (lv.map D.int).length) S = _
      rw [List.length_map])
    have hit : evI Δ (.rng2 (.blt .max2 false (.cons (.bin .Sub (.bin .Add (.var 7) (.cst (.int 1))) (.blt .len false (.cons (.var 0) .nil))) (.cons (.cst (.int 0)) .nil))) (.bin .Add (.var 7) (.cst (.int 1)))) [some (lvD lv), v1, some (.int dr), v3, some (.loc n0), some (.int t), some (slD s), some (.int top), v8, v9] S = .ok (rngD lo 1 n) S := by
      have hlob : -3000000 ≤ lo ∧ lo ≤ 3000000 := by split at hlo <;> omega
      have hlob2 : top + 1 - lo ≤ 3000000 := by split at hlo <;> omega
      rw [← hn]
      refine ei_rng2 (i := lo) (j := top + 1) (S1 := S) ?_ (ev_bin (x := .int top) (y := .int 1) (S1 := S) (S2 := S) rfl rfl rfl) (by omega) (by omega)
      rw [← hlo]
      exact ev_blt (es_cons (x := .int (top + 1 - lv.length)) (ev_bin (x := .int (top + 1)) (y := .int lv.length) (S1 := S) (S2 := S) (ev_bin (x := .int top) (y := .int 1) (S1 := S) (S2 := S) rfl rfl rfl) (hlen rfl) rfl) (es_cons (x := .int 0) rfl es_nil)) rfl
    have s2 := x_set (n := 8) (hours_lc (s := s) hl (S := S) (Δ := Δ) (e := [some (lvD lv), v1, some (.int dr), v3, some (.loc n0), some (.int t), some (slD s), some (.int top), v8, v9]) rfl rfl rfl rfl hit)
    rcases flt_last (fun (i : Nat) => dp lv dr s (lo + (i : Int))) n with ⟨i, l', q1, q2, q3, q4⟩ | ⟨q4, q2⟩
    · -- an hour
      rw [q4] at s2
      have hlo0 : 0 ≤ lo := by split at hlo <;> omega
      have hr : lastF (dp lv dr s) top = some (lo + (i : Int)) := lastF_some (by omega) (by omega) q2 fun u a b => by
        have := q3 (u - lo).toNat (by omega) (by omega)
        rw [show lo + (((u - lo).toNat : Nat) : Int) = u by omega] at this
        exact this
      have em : (l' ++ [i]).map (fun (i : Nat) => lo + (i : Int)) = l'.map (fun (i : Nat) => lo + (i : Int)) ++ [lo + (i : Int)] := by simp
      rw [em] at s2
      generalize hlast : lo + (i : Int) = r at *
      generalize l'.map (fun (i : Nat) => lo + (i : Int)) = l2 at s2
      have hr2 := lastF_spec hr
      have st : g (slD s) [some (lvD lv), v1, some (.int dr), v3, some (.loc n0), some (.int t), v6, v7, v8, v9] S = .ok (.nx, [some (lvD lv), v1, some (.int dr), v3, some (.loc n0), some (.int r), some (slD s), some (.int top), some (.lst ((l2 ++ [r]).map D.int)), v9]) (S.set n0 (.lst ((r :: acc).map D.int))) := by
        subst hg
        have hne : (l2 ++ [r]).isEmpty = false := by cases l2 <;> rfl
        refine (xs_cons s1).trans ((xs_cons (s2.trans rfl)).trans ((xs_cons ((x_F (et_cmp (x := .lst ((l2 ++ [r]).map D.int)) (y := .lst []) (S1 := S) (S2 := S) rfl rfl (eq_nil.trans (by rw [hne])))).trans rfl)).trans ((xs_cons (x_set (x := .int r) (S1 := S) (ev_idx (x := .lst ((l2 ++ [r]).map D.int)) (y := .int (-1)) (S1 := S) (S2 := S) rfl rfl ?_))).trans ((xs_cons (x_ex (x := .non) (S1 := S.set n0 (.lst ((r :: acc).map D.int))) (ev_met (x := .loc n0) (S1 := S) (S2 := S) (ds := [.int 0, .int r]) rfl ?_ (es_cons rfl (es_cons (ev_var rfl) es_nil)) ?_))).trans rfl))))
        · show atI ((l2 ++ [r]).map D.int) (-1) = _
          rw [List.map_append]
          exact atI_last _ _
        · show isLst S (.loc n0) = true
          unfold isLst
          simp only [hS]
        · show (match S[n0]? with
            | some (.lst xs) => if (0 : Int) ≤ 0 ∧ (0 : Int) < 2 ^ 62 ∧ xs.length < 16777216 then PV.R.ok D.non (S.set n0 (.lst (xs.take (0 : Int).toNat ++ [D.int r] ++ xs.drop (0 : Int).toNat))) else .bad
            | _ => .bad) = _
          simp only [hS]
          rw [if_pos ⟨by decide, by decide, by rw [List.length_map]; simp only [List.length_cons] at hln; omega⟩]
          rfl
      have hS2 : (S.set n0 (.lst ((r :: acc).map D.int)))[n0]? = some (.lst ((r :: acc).map D.int)) := List.getElem?_set_self hn0
      have hb : backF lv dr (s :: rest) t = (backF lv dr rest r).map (· ++ [r]) := by
        show (match lastF (dp lv dr s) (t - s.1) with
          | none => none
          | some r => (backF lv dr rest r).map (· ++ [r])) = _
        rw [htop, hr]
      rw [List.map_cons, forL_cons1 st, hb]
      rcases back_loop (v1 := v1) (v3 := v3) hl hl2 hg rest r (r :: acc) (some (slD s)) (some (.int top)) (some (.lst ((l2 ++ [r]).map D.int))) v9 _ hS2 (by simp only [List.length_cons] at hln ⊢; omega) hr2.1 (by omega) (fun x hx => hs x (List.mem_cons_of_mem _ hx)) with ⟨l, e', g1, g2, g3⟩ | ⟨g1, e', c, g2⟩
      · refine .inl ⟨l ++ [r], e', by rw [g1]; rfl, ?_, g3⟩
        rw [g2, List.set_set, List.append_assoc]
        rfl
      · refine .inr ⟨by rw [g1]; rfl, e', c, ?_⟩
        rw [g2, List.set_set]
    · rw [q4] at s2
      have hr : lastF (dp lv dr s) top = none := by
        by_cases hb : 0 > top + 1 - (lv.length : Int)
        · rw [if_pos hb] at hlo
          refine lastF_none fun u a b => ?_
          have := q2 u.toNat (by omega)
          rw [show lo + ((u.toNat : Nat) : Int) = u by omega] at this
          exact this
        · rw [if_neg hb] at hlo
          refine lastF_none fun u a b => ?_
          exact dp_far hl (a := lo) (fun i hi => q2 i (by omega)) u
      refine .inr ⟨?_, [some (lvD lv), v1, some (.int dr), v3, some (.loc n0), some (.int t), some (slD s), some (.int top), some (.lst []), v9], .lst (acc.map D.int), ?_⟩
      · show (match lastF (dp lv dr s) (t - s.1) with
          | none => none
          | some r => (backF lv dr rest r).map (· ++ [r])) = _
        rw [htop, hr]
      · have st : g (slD s) [some (lvD lv), v1, some (.int dr), v3, some (.loc n0), some (.int t), v6, v7, v8, v9] S = .ok (.ret .non, [some (lvD lv), v1, some (.int dr), v3, some (.loc n0), some (.int t), some (slD s), some (.int top), some (.lst []), v9]) S := by
          subst hg
          exact (xs_cons s1).trans ((xs_cons (s2.trans rfl)).trans (xs_stop ((x_T (et_cmp (x := .lst (([] : List Int).map D.int)) (y := .lst []) (S1 := S) (S2 := S) rfl rfl eq_nil)).trans (xs_stop (x_ret rfl)))))
        show (match g (slD s) _ S with
          | .ok (.nx, e1) S1 => forL g (rest.map slD) e1 S1
          | .ok (.cnt, e1) S1 => forL g (rest.map slD) e1 S1
          | .ok (.brk, e1) S1 => .ok (.nx, e1) S1
          | r => r) = _
        rw [st]
        show PV.R.ok (Fl.ret .non, _) S = _
        congr 1
        exact (set_self hS).symm
theorem d_back (hf : fs[f]? = some ⟨4, 10, ir_law_a_back⟩) (hl : 0 < lv.length) (hl2 : lv.length ≤ 100000) (hs : ∀ s ∈ ch, 0 ≤ s.1 ∧ s.1 ≤ 1000) (hc : ch.length ≤ 1000) {z : Int} (h0 : 0 ≤ z) (h1 : z ≤ 1000000) :
    ∃ c, den fs (k + 1) f [lvD lv, chD ch, .int dr, .int z] S = .ok (oT (backF lv dr ch.reverse z)) (S ++ [c]) := by
  rw [den_at hf]
  have hit : evI (den fs k) (.seq (.rev (.var 1))) [some (lvD lv), some (chD ch), some (.int dr), some (.int z), some (.loc S.length), some (.int z), none, none, none, none] (S ++ [.lst []]) = .ok (ch.reverse.map slD) (S ++ [.lst []]) := by
    refine ei_seq (x := .tup (ch.map slD).reverse) rfl ?_
    show some (ch.map slD).reverse = _
    rw [List.map_reverse]
  rcases back_loop (n0 := S.length) (v1 := some (chD ch)) (v3 := some (.int z)) (lv := lv) (dr := dr) hl hl2 (Δ := den fs k) rfl ch.reverse z [] none none none none (S ++ [.lst []]) get_end (by simp; exact hc) h0 h1 (fun s hx => hs s (List.mem_reverse.mp hx)) with ⟨l, e', g1, g2, g3⟩ | ⟨g1, e', c, g2⟩
  · rw [g1]
    rw [set_snoc, List.append_nil] at g2
    refine ⟨_, Ret.run rfl (ret_cons (x_set (x := .loc S.length) (S1 := S ++ [.lst []]) rfl) (ret_cons (x_set (x := .int z) (S1 := S ++ [.lst []]) rfl) (ret_cons ((x_for hit rfl).trans g2) (ret_ret (ev_blt (es_cons (ev_var g3) es_nil) (tuple_loc get_end))))))⟩
  · rw [g1]
    rw [set_snoc] at g2
    exact ⟨c, Ret.run rfl (ret_cons (x_set (x := .loc S.length) (S1 := S ++ [.lst []]) rfl) (ret_cons (x_set (x := .int z) (S1 := S ++ [.lst []]) rfl) ⟨e', xs_stop ((x_for hit rfl).trans g2)⟩))⟩
end
end L2.PV

namespace L2.PV
open PySem PySem.Spec PyProof.Rows LamX
/-! L3: the law's way in. -/
section
variable {fs : List Fn} {k f : Nat} {S : Sto} {lv : List Int} {dr h : Int} {s : Sl} {ch : List Sl}
theorem inner_loop {Δ : Den} {v1 v3 v4 v5 : Option D} (hl : 0 < lv.length) {g : D → En → Sto → R (Fl × En)} (hg : g = fun x e1 S2 => (match asgT (.nm 8) x e1 with
      | some e2 => exSs Δ ((ir_law_a_transit.at 2).bd.at 1).bd e2 S2
      | none => PV.R.bad)) : ∀ (n : Nat) (a : Int) (v8 : Option D),
    (∃ i : Nat, i < n ∧ dp lv dr s (a + i) = true ∧ (∀ j : Nat, j < i → dp lv dr s (a + j) = false) ∧ forL g (rngD a 1 n) [some (lvD lv), v1, some (.int dr), v3, v4, v5, some (slD s), some .non, v8] S = .ok (.nx, [some (lvD lv), v1, some (.int dr), v3, v4, v5, some (slD s), some (.int (a + i)), some (.int (a + i))]) S) ∨
    ((∀ i : Nat, i < n → dp lv dr s (a + i) = false) ∧ ∃ v8', forL g (rngD a 1 n) [some (lvD lv), v1, some (.int dr), v3, v4, v5, some (slD s), some .non, v8] S = .ok (.nx, [some (lvD lv), v1, some (.int dr), v3, v4, v5, some (slD s), some .non, v8']) S)
  | 0, a, v8 => .inr ⟨fun i h => by omega, v8, rfl⟩
  | n + 1, a, v8 => by
    have hte : evT Δ (.cmp .GtE (.bin .Add (.idx (.var 6) (.cst (.int 1))) (.idx (.var 0) (.bin .Mod (.blt .int false (.cons (.var 8) .nil)) (.blt .len false (.cons (.var 0) .nil))))) (.var 2)) [some (lvD lv), v1, some (.int dr), v3, v4, v5, some (slD s), some .non, some (.int a)] S = .ok (dp lv dr s a) S := by
      rw [dp_lv hl]
      refine et_cmp (x := .int (s.2 + lvAt lv a)) (y := .int dr) (S1 := S) (S2 := S) (ev_bin (x := .int s.2) (y := .int (lvAt lv a)) (S1 := S) (S2 := S) rfl (ev_idx (x := lvD lv) (y := .int (a % (lv.length : Int))) (S1 := S) (S2 := S) rfl (ev_bin (x := .int a) (y := .int lv.length) (S1 := S) (S2 := S) rfl (ev_blt (es_cons (x := lvD lv) rfl es_nil) ?_) (mod_ok (by omega))) (lv_at hl)) rfl) rfl rfl
      show PV.R.ok (D.int (lv.map D.int).length) S = _
      rw [List.length_map]
    rw [rngD_up]
    cases hd : dp lv dr s a with
    | true =>
      refine .inl ⟨0, by omega, by rw [Int.natCast_zero, Int.add_zero]; exact hd, fun j hj => by omega, ?_⟩
      have st : g (.int a) [some (lvD lv), v1, some (.int dr), v3, v4, v5, some (slD s), some .non, v8] S = .ok (.brk, [some (lvD lv), v1, some (.int dr), v3, v4, v5, some (slD s), some (.int a), some (.int a)]) S := by
        subst hg
        exact xs_brk ((x_T (hte.trans (by rw [hd]))).trans ((xs_cons (x_set (x := .int a) (S1 := S) rfl)).trans (xs_brk rfl)))
      show (match g (.int a) _ S with
          | .ok (.nx, e1) S1 => forL g (rngD (a + 1) 1 n) e1 S1
          | .ok (.cnt, e1) S1 => forL g (rngD (a + 1) 1 n) e1 S1
          | .ok (.brk, e1) S1 => .ok (.nx, e1) S1
          | r => r) = _
      rw [st]
      show PV.R.ok (Fl.nx, _) S = _
      rw [Int.natCast_zero, Int.add_zero]
    | false =>
      have st : g (.int a) [some (lvD lv), v1, some (.int dr), v3, v4, v5, some (slD s), some .non, v8] S = .ok (.nx, [some (lvD lv), v1, some (.int dr), v3, v4, v5, some (slD s), some .non, some (.int a)]) S := by
        subst hg
        exact (xs_cons ((x_F (hte.trans (by rw [hd]))).trans rfl)).trans rfl
      rw [forL_cons1 st]
      rcases inner_loop (v1 := v1) (v3 := v3) (v4 := v4) (v5 := v5) hl hg n (a + 1) (some (.int a)) with ⟨i, q1, q2, q3, q4⟩ | ⟨q1, v8', q4⟩
      · refine .inl ⟨i + 1, by omega, ?_, fun j hj => ?_, ?_⟩
        · rw [show a + ((i + 1 : Nat) : Int) = a + 1 + i by omega]; exact q2
        · cases j with
          | zero => rw [Int.natCast_zero, Int.add_zero]; exact hd
          | succ j => rw [show a + ((j + 1 : Nat) : Int) = a + 1 + j by omega]; exact q3 j (by omega)
        · rw [q4, show a + ((i + 1 : Nat) : Int) = a + 1 + i by omega]
      · refine .inr ⟨fun j hj => ?_, v8', q4⟩
        cases j with
        | zero => rw [Int.natCast_zero, Int.add_zero]; exact hd
        | succ j => rw [show a + ((j + 1 : Nat) : Int) = a + 1 + j by omega]; exact q1 j (by omega)
theorem trans_loop {n0 : Nat} {v1 v3 : Option D} (hl : 0 < lv.length) (hl2 : lv.length ≤ 100000) {Δ : Den} {g : D → En → Sto → R (Fl × En)} (hg : g = fun x e1 S2 => (match asgT (.nm 6) x e1 with
      | some e2 => exSs Δ (ir_law_a_transit.at 2).bd e2 S2
      | none => PV.R.bad)) : ∀ (rest : List Sl) (t : Int) (acc : List Int) (v6 v7 v8 : Option D) (S : Sto), S[n0]? = some (.lst (acc.map D.int)) → acc.length + rest.length ≤ 1000 → 0 ≤ t → t + rest.length * 200000 ≤ 1000000000000 → (∀ s ∈ rest, 0 ≤ s.1 ∧ s.1 ≤ 1000) →
    (∃ l e', transF lv dr rest t = some l ∧ forL g (rest.map slD) [some (lvD lv), v1, some (.int dr), v3, some (.loc n0), some (.int t), v6, v7, v8] S = .ok (.nx, e') (S.set n0 (.lst ((acc ++ l).map D.int))) ∧ e'[4]? = some (some (.loc n0))) ∨
    (transF lv dr rest t = none ∧ ∃ e' c, forL g (rest.map slD) [some (lvD lv), v1, some (.int dr), v3, some (.loc n0), some (.int t), v6, v7, v8] S = .ok (.ret .non, e') (S.set n0 c))
  | [], t, acc, v6, v7, v8, S, hS, _, _, _, _ => .inl ⟨[], _, rfl, by
      show PV.R.ok (Fl.nx, _) S = _
      rw [List.append_nil]
      congr 1
      exact (set_self hS).symm, rfl⟩
  | s :: rest, t, acc, v6, v7, v8, S, hS, hln, h0, h1, hs => by
    obtain ⟨b1, b2⟩ := hs s List.mem_cons_self
    have hn0 := (List.getElem?_eq_some_iff.mp hS).1
    rw [List.length_cons] at hln h1
    have hit : evI Δ (.rng2 (.var 5) (.bin .Add (.var 5) (.blt .len false (.cons (.var 0) .nil)))) [some (lvD lv), v1, some (.int dr), v3, some (.loc n0), some (.int t), some (slD s), some .non, v8] S = .ok (rngD t 1 lv.length) S := by
      refine (ei_rng2 (i := t) (j := t + lv.length) (S1 := S) rfl (ev_bin (x := .int t) (y := .int lv.length) (S1 := S) (S2 := S) rfl (ev_blt (es_cons (x := lvD lv) rfl es_nil) ?_) rfl) (by omega) (by omega)).trans ?_
      · show PV.R.ok (D.int (lv.map D.int).length) S = _
        rw [List.length_map]
      · rw [show (t + (lv.length : Int) - t).toNat = lv.length by omega]
    have s0 : exS Δ ((ir_law_a_transit.at 2).bd.at 0) [some (lvD lv), v1, some (.int dr), v3, some (.loc n0), some (.int t), some (slD s), v7, v8] S = .ok (.nx, [some (lvD lv), v1, some (.int dr), v3, some (.loc n0), some (.int t), some (slD s), some .non, v8]) S := rfl
    rcases inner_loop (S := S) (s := s) (dr := dr) (v1 := v1) (v3 := v3) (v4 := some (.loc n0)) (v5 := some (.int t)) (Δ := Δ) hl rfl lv.length t v8 with ⟨i, q1, q2, q3, q4⟩ | ⟨q1, v8', q4⟩
    · have hr : firstF (dp lv dr s) t = some (t + (i : Int)) := firstF_some (by omega) q2 fun u a b => by
        have := q3 (u - t).toNat (by omega)
        rw [show t + (((u - t).toNat : Nat) : Int) = u by omega] at this
        exact this
      generalize hrr : t + (i : Int) = r at *
      have st : g (slD s) [some (lvD lv), v1, some (.int dr), v3, some (.loc n0), some (.int t), v6, v7, v8] S = .ok (.nx, [some (lvD lv), v1, some (.int dr), v3, some (.loc n0), some (.int (r + s.1)), some (slD s), some (.int r), some (.int r)]) (S.set n0 (.lst ((acc ++ [r]).map D.int))) := by
        subst hg
        refine (xs_cons s0).trans ((xs_cons ((x_for hit rfl).trans q4)).trans ((xs_cons ((x_F (et_cmp (x := .int r) (y := .non) (S1 := S) (S2 := S) rfl rfl rfl)).trans rfl)).trans ((xs_cons (x_ex (x := .non) (S1 := S.set n0 (.lst ((acc ++ [r]).map D.int))) (ev_met (x := .loc n0) (S1 := S) (S2 := S) (ds := [.int r]) rfl ?_ (es_cons (ev_var rfl) es_nil) ?_))).trans ((xs_cons (x_set (x := .int (r + s.1)) (S1 := S.set n0 (.lst ((acc ++ [r]).map D.int))) (ev_bin (x := .int r) (y := .int s.1) rfl rfl rfl))).trans rfl))))
        · show isLst S (.loc n0) = true
          unfold isLst
          simp only [hS]
        · show (match S[n0]? with
            | some (.lst xs) => if xs.length < 16777216 then PV.R.ok D.non (S.set n0 (.lst (xs ++ [D.int r]))) else .bad
            | _ => .bad) = _
          simp only [hS]
          rw [if_pos (by rw [List.length_map]; omega), List.map_append]
          rfl
      have hS2 : (S.set n0 (.lst ((acc ++ [r]).map D.int)))[n0]? = some (.lst ((acc ++ [r]).map D.int)) := List.getElem?_set_self hn0
      have hb : transF lv dr (s :: rest) t = (transF lv dr rest (r + s.1)).map (r :: ·) := by
        show (match firstF (dp lv dr s) t with
          | none => none
          | some r => (transF lv dr rest (r + s.1)).map (r :: ·)) = _
        rw [hr]
      rw [List.map_cons, forL_cons1 st, hb]
      rcases trans_loop (v1 := v1) (v3 := v3) hl hl2 hg rest (r + s.1) (acc ++ [r]) (some (slD s)) (some (.int r)) (some (.int r)) _ hS2 (by rw [List.length_append]; simp only [List.length_cons, List.length_nil]; omega) (by omega) (by omega) (fun x hx => hs x (List.mem_cons_of_mem _ hx)) with ⟨l, e', g1, g2, g3⟩ | ⟨g1, e', c, g2⟩
      · refine .inl ⟨r :: l, e', by rw [g1]; rfl, ?_, g3⟩
        rw [g2, List.set_set, List.append_assoc]
        rfl
      · refine .inr ⟨by rw [g1]; rfl, e', c, ?_⟩
        rw [g2, List.set_set]
    · have hr : firstF (dp lv dr s) t = none := firstF_none fun u _ => dp_far hl q1 u
      refine .inr ⟨?_, [some (lvD lv), v1, some (.int dr), v3, some (.loc n0), some (.int t), some (slD s), some .non, v8'], .lst (acc.map D.int), ?_⟩
      · show (match firstF (dp lv dr s) t with
          | none => none
          | some r => (transF lv dr rest (r + s.1)).map (r :: ·)) = _
        rw [hr]
      · have st : g (slD s) [some (lvD lv), v1, some (.int dr), v3, some (.loc n0), some (.int t), v6, v7, v8] S = .ok (.ret .non, [some (lvD lv), v1, some (.int dr), v3, some (.loc n0), some (.int t), some (slD s), some .non, v8']) S := by
          subst hg
          exact (xs_cons s0).trans ((xs_cons ((x_for hit rfl).trans q4)).trans (xs_stop ((x_T (et_cmp (x := .non) (y := .non) (S1 := S) (S2 := S) rfl rfl rfl)).trans (xs_stop (x_ret rfl)))))
        show (match g (slD s) _ S with
          | .ok (.nx, e1) S1 => forL g (rest.map slD) e1 S1
          | .ok (.cnt, e1) S1 => forL g (rest.map slD) e1 S1
          | .ok (.brk, e1) S1 => .ok (.nx, e1) S1
          | r => r) = _
        rw [st]
        show PV.R.ok (Fl.ret .non, _) S = _
        congr 1
        exact (set_self hS).symm
theorem d_transit (hf : fs[f]? = some ⟨4, 9, ir_law_a_transit⟩) (hl : 0 < lv.length) (hl2 : lv.length ≤ 100000) (hs : ∀ s ∈ ch, 0 ≤ s.1 ∧ s.1 ≤ 1000) (hc : ch.length ≤ 1000) {z : Int} (h0 : 0 ≤ z) (h1 : z ≤ 1000000) :
    ∃ c, den fs (k + 1) f [lvD lv, chD ch, .int dr, .int z] S = .ok (oT (transF lv dr ch z)) (S ++ [c]) := by
  rw [den_at hf]
  have hit : evI (den fs k) (.seq (.var 1)) [some (lvD lv), some (chD ch), some (.int dr), some (.int z), some (.loc S.length), some (.int z), none, none, none] (S ++ [.lst []]) = .ok (ch.map slD) (S ++ [.lst []]) := ei_seq (x := chD ch) rfl rfl
  rcases trans_loop (n0 := S.length) (v1 := some (chD ch)) (v3 := some (.int z)) (lv := lv) (dr := dr) hl hl2 (Δ := den fs k) rfl ch z [] none none none (S ++ [.lst []]) get_end (by simp; exact hc) h0 (by omega) hs with ⟨l, e', g1, g2, g3⟩ | ⟨g1, e', c, g2⟩
  · rw [g1]
    rw [set_snoc, List.nil_append] at g2
    refine ⟨_, Ret.run rfl (ret_cons (x_set (x := .loc S.length) (S1 := S ++ [.lst []]) rfl) (ret_cons (x_set (x := .int z) (S1 := S ++ [.lst []]) rfl) (ret_cons ((x_for hit rfl).trans g2) (ret_ret (ev_blt (es_cons (ev_var g3) es_nil) (tuple_loc get_end))))))⟩
  · rw [g1]
    rw [set_snoc] at g2
    exact ⟨c, Ret.run rfl (ret_cons (x_set (x := .loc S.length) (S1 := S ++ [.lst []]) rfl) (ret_cons (x_set (x := .int z) (S1 := S ++ [.lst []]) rfl) ⟨e', xs_stop ((x_for hit rfl).trans g2)⟩))⟩
/-! the sill that blocks -/
theorem trans_none (hl : 0 < lv.length) : ∀ {ch : List Sl} {t : Int}, transF lv dr ch t = none → ∃ s ∈ ch, ∀ u, dp lv dr s u = false
  | [], t, e => by cases e
  | s :: rest, t, e => by
    replace e : (match firstF (dp lv dr s) t with
      | none => none
      | some r => (transF lv dr rest (r + s.1)).map (r :: ·)) = none := e
    cases hr : firstF (dp lv dr s) t with
    | none =>
      refine ⟨s, List.mem_cons_self, fun u => dp_far hl (a := t) (fun i hi => ?_) u⟩
      -- nothing in this period
      have hno : ¬ ∃ r, t ≤ r ∧ dp lv dr s r = true := by
        rintro ⟨r, h1, h2⟩
        have key : ∀ m : Nat, ∀ r : Int, (r - t).toNat = m → t ≤ r → dp lv dr s r = true → False := by
          intro m
          induction m using Nat.strongRecOn with
          | ind m ih =>
            intro r hm h1 h2
            by_cases q : ∃ u, t ≤ u ∧ u < r ∧ dp lv dr s u = true
            · obtain ⟨u, a, b, c⟩ := q
              exact ih (u - t).toNat (by omega) u rfl a c
            · have := firstF_some (p := dp lv dr s) h1 h2 fun u a b => by
                cases hu : dp lv dr s u with
                | false => rfl
                | true => exact absurd ⟨u, a, b, hu⟩ q
              rw [hr] at this; cases this
        exact key _ r rfl h1 h2
      cases hd : dp lv dr s (t + i) with
      | false => rfl
      | true => exact absurd ⟨t + i, by omega, hd⟩ hno
    | some r =>
      rw [hr] at e
      have e2 : transF lv dr rest (r + s.1) = none := by simpa using e
      obtain ⟨x, hx, q⟩ := trans_none hl e2
      exact ⟨x, List.mem_cons_of_mem _ hx, q⟩
theorem block_loop {Δ : Den} {v0 v1 v3 : Option D} {mx : Int} {g : D → En → Sto → R (Fl × En)} (hg : g = fun x e1 S2 => (match asgT (.tp [5, 6]) x e1 with
      | some e2 => exSs Δ (ir_blocking_sill.at 1).bd e2 S2
      | none => PV.R.bad)) : ∀ (rest : List Sl) (j : Nat) (v5 v6 : Option D), (∃ s ∈ rest, mx + s.2 < dr) → ∃ (i : Int) (e' : En), forL g (enumD j (rest.map slD)) [v0, v1, some (.int dr), v3, some (.int mx), v5, v6] S = .ok (.ret (.int i), e') S
  | [], j, v5, v6, h => by obtain ⟨s, h, _⟩ := h; cases h
  | s :: rest, j, v5, v6, h => by
    have hte : evT Δ (.cmp .Lt (.bin .Add (.var 4) (.idx (.var 6) (.cst (.int 1)))) (.var 2)) [v0, v1, some (.int dr), v3, some (.int mx), some (.int (j : Nat)), some (slD s)] S = .ok (decide (mx + s.2 < dr)) S :=
      et_cmp (x := .int (mx + s.2)) (y := .int dr) (S1 := S) (S2 := S) (ev_bin (x := .int mx) (y := .int s.2) (S1 := S) (S2 := S) rfl rfl rfl) rfl rfl
    show ∃ (i : Int) (e' : En), (match g (.tup [.int (j : Nat), slD s]) [v0, v1, some (.int dr), v3, some (.int mx), v5, v6] S with
          | .ok (.nx, e1) S1 => forL g (enumD (j + 1) (rest.map slD)) e1 S1
          | .ok (.cnt, e1) S1 => forL g (enumD (j + 1) (rest.map slD)) e1 S1
          | .ok (.brk, e1) S1 => .ok (.nx, e1) S1
          | r => r) = _
    by_cases hb : mx + s.2 < dr
    · have st : g (.tup [.int (j : Nat), slD s]) [v0, v1, some (.int dr), v3, some (.int mx), v5, v6] S = .ok (.ret (.int (j : Nat)), [v0, v1, some (.int dr), v3, some (.int mx), some (.int (j : Nat)), some (slD s)]) S := by
        subst hg
        exact xs_stop ((x_T (hte.trans (by rw [decide_eq_true hb]))).trans (xs_stop (x_ret rfl)))
      rw [st]
      exact ⟨_, _, rfl⟩
    · have st : g (.tup [.int (j : Nat), slD s]) [v0, v1, some (.int dr), v3, some (.int mx), v5, v6] S = .ok (.nx, [v0, v1, some (.int dr), v3, some (.int mx), some (.int (j : Nat)), some (slD s)]) S := by
        subst hg
        exact (xs_cons ((x_F (hte.trans (by rw [decide_eq_false hb]))).trans rfl)).trans rfl
      rw [st]
      refine block_loop hg rest (j + 1) _ _ ?_
      obtain ⟨x, hx, q⟩ := h
      rcases List.mem_cons.mp hx with e | hx
      · subst e; exact absurd q hb
      · exact ⟨x, hx, q⟩
theorem ei_enum {Δ : Den} {e : En} {S1 : Sto} {a : IE} {x : D} {xs : List D} (h : evE Δ a e S = .ok x S1) (h2 : seqF S1 x = some xs) : evI Δ (.enum a) e S = .ok (enumD 0 xs) S1 := by
  unfold evI
  rw [h]
  show PV.R.of ((seqF S1 x).map (enumD 0)) S1 = _
  rw [h2]
  rfl
theorem ev_callk {Δ : Den} {e : En} {S1 S2 S3 : Sto} {as kes : IEs} {ks : List Str} {ds zs : List D} {x : D} (h : evEs Δ as e S = .ok ds S1) (h2 : evEs Δ kes e S1 = .ok zs S2) (h3 : Δ f (ds ++ zs) S2 = .ok x S3) : evE Δ (.callk f as ks kes) e S = .ok x S3 := by
  show (evEs Δ as e S).bind _ = _
  rw [h]
  show (evEs Δ kes e S1).bind _ = _
  rw [h2]
  exact h3
theorem d_blocking {td : List (List Int)} (hpe : fs[i_period_of]? = some ⟨1, 3, ir_period_of⟩) (hle : fs[i_level_at]? = some ⟨2, 3, ir_level_at⟩) (hls : fs[i_levels_at]? = some ⟨3, 4, ir_levels_at⟩) (hpl : fs[i_period_levels]? = some ⟨2, 3, ir_period_levels⟩)
    (hex : fs[i_extremes_of]? = some ⟨2, 3, ir_extremes_of⟩) (hf : fs[f]? = some ⟨4, 7, ir_blocking_sill⟩) (hp : ∀ p ∈ td, 0 < p.length) (hb : per td ≤ 240) (hno : ∃ s ∈ ch, ∀ u, dp (lvls td) dr s u = false) :
    ∃ i : Int, den fs (k + 5) f [tideD td, chD ch, .int dr, .int 240] S = .ok (.int i) S := by
  have hper : 0 < per td := (pf_pos td 1 (by decide) hp).1
  have hll : (lvls td).length = per td := by unfold lvls; simp
  obtain ⟨n, ns, hns⟩ : ∃ n ns, lvls td = n :: ns := by
    cases h : lvls td with
    | nil => rw [h] at hll; simp at hll; omega
    | cons n ns => exact ⟨n, ns, rfl⟩
  rw [den_at hf]
  have hx : den fs (k + 4) i_extremes_of [tideD td, .int 240] S = .ok (.tup [.int (minL n ns), .int (maxL n ns)]) S := by
    rw [den_at hex]
    refine Ret.run rfl (ret_cons (x_set (x := .tup ((lvls td).map D.int)) (S1 := S) (ev_call (es_cons (x := tideD td) rfl (es_cons (x := .int 240) rfl es_nil)) (d_period_levels hpe hle hls hpl hp hb))) (ret_ret (ev_tup (es_cons (x := .int (minL n ns)) (S1 := S) (ev_blt (es_cons (ev_var rfl) es_nil) ?_) (es_cons (x := .int (maxL n ns)) (S1 := S) (ev_blt (es_cons (ev_var rfl) es_nil) ?_) es_nil)))))
    · show (match asInts ((lvls td).map D.int) with
        | some (n :: ns) => PV.R.ok (D.int (minL n ns)) S
        | _ => .bad) = _
      rw [asI, hns]
    · show (match asInts ((lvls td).map D.int) with
        | some (n :: ns) => PV.R.ok (D.int (maxL n ns)) S
        | _ => .bad) = _
      rw [asI, hns]
  have s0 : exS (den fs (k + 4)) (ir_blocking_sill.at 0) [some (tideD td), some (chD ch), some (.int dr), some (.int 240), none, none, none] S = .ok (.nx, [some (tideD td), some (chD ch), some (.int dr), some (.int 240), some (.int (maxL n ns)), none, none]) S := by
    refine (x_set (x := .int (maxL n ns)) (S1 := S) (ev_idx (x := .tup [.int (minL n ns), .int (maxL n ns)]) (y := .int 1) (S1 := S) (S2 := S) ?_ rfl rfl)).trans rfl
    exact ev_callk (es_cons (x := tideD td) (S1 := S) (ev_var rfl) es_nil) (es_cons (x := .int 240) (S1 := S) (ev_var rfl) es_nil) hx
  obtain ⟨s, hs, hno⟩ := hno
  have hmx : maxL n ns + s.2 < dr := by
    have hm := (maxL_mem n ns).1
    rw [← hns] at hm
    obtain ⟨i, hi, e⟩ := List.mem_iff_getElem.mp hm
    have := hno (i : Int)
    rw [dp_lv (by rw [hll]; exact hper)] at this
    have e2 : lvAt (lvls td) (i : Int) = maxL n ns := by
      unfold lvAt
      rw [Int.emod_eq_of_lt (by omega) (by omega), Int.toNat_natCast, List.getD_eq_getElem?_getD, List.getElem?_eq_getElem hi, ← e]
      rfl
    rw [e2] at this
    have := of_decide_eq_false this
    omega
  obtain ⟨i, e', g1⟩ := block_loop (S := S) (dr := dr) (v0 := some (tideD td)) (v1 := some (chD ch)) (v3 := some (.int 240)) (mx := maxL n ns) (Δ := den fs (k + 4)) rfl ch 0 none none ⟨s, hs, hmx⟩
  refine ⟨i, Ret.run rfl (ret_cons s0 ⟨e', xs_stop ((x_for ?_ rfl).trans g1)⟩)⟩
  exact ei_enum (x := chD ch) (xs := ch.map slD) (ev_var rfl) rfl
end
end L2.PV

namespace L2.PV
open PySem PySem.Spec PyProof.Rows LamX
/-! L4: the instance. -/
noncomputable def lpOf (l : List Bool) : Nat := open Classical in if h : ∃ p, LeastP l p then Classical.choose h else 0
theorem lpOf_eq {l : List Bool} {p : Nat} (h : LeastP l p) : lpOf l = p := by
  have H : ∃ p, LeastP l p := ⟨p, h⟩
  unfold lpOf
  rw [dif_pos H]
  exact (Classical.choose_spec H).uniq h
noncomputable def win (lv : List Int) (dr : Int) (s : Sl) : List Bool := (bits lv dr s).take (lpOf (bits lv dr s))
def digS (k : Nat) : Str := match k with
  | 0 => "0" | 1 => "1" | 2 => "2" | _ => "3"
def sillS (k : Nat) : Str := match k with
  | 0 => "sill 0" | 1 => "sill 1" | 2 => "sill 2" | _ => "sill 3"
def pilS (k : Nat) : Str := match k with
  | 0 => "pilot 0" | 1 => "pilot 1" | 2 => "pilot 0" | _ => "pilot 1"
def use2 (b : Bool) (k : Nat) : List Str := if b then [sillS k, "stack a 0", pilS k] else ["pilot 0", sillS k]
theorem str_dig0 {S : Sto} {tr : Bool} {i : Int} {t : Str} (h : i.natAbs.log2 < 1920) (e : (toString i : Str) = t) : bltF .str tr [.int i] S = .ok (.str t) S := by
  show (if i.natAbs.log2 < 1920 then PV.R.ok (D.str (toString i)) S else .bad) = _
  rw [if_pos h, e]
theorem str_dig {S : Sto} {tr : Bool} : ∀ k : Nat, k < 4 → bltF .str tr [.int (k : Int)] S = .ok (.str (digS k)) S := by
  intro k hk
  match k, hk with
  | 0, _ => exact str_dig0 (by decide +kernel) (by decide +kernel)
  | 1, _ => exact str_dig0 (by decide +kernel) (by decide +kernel)
  | 2, _ => exact str_dig0 (by decide +kernel) (by decide +kernel)
  | 3, _ => exact str_dig0 (by decide +kernel) (by decide +kernel)
theorem app_str {a b c : Str} (h : a.length + b.length ≤ 16777216) (e : a ++ b = c) : binF .Add (.str a) (.str b) = some (.str c) := by
  show (if a.length + b.length ≤ 16777216 then some (D.str (a ++ b)) else none) = _
  rw [if_pos h, e]
theorem sill_app : ∀ k : Nat, k < 4 → binF .Add (.str "sill ") (.str (digS k)) = some (.str (sillS k)) := by
  intro k hk
  match k, hk with
  | 0, _ => exact app_str (by decide +kernel) (by decide +kernel)
  | 1, _ => exact app_str (by decide +kernel) (by decide +kernel)
  | 2, _ => exact app_str (by decide +kernel) (by decide +kernel)
  | 3, _ => exact app_str (by decide +kernel) (by decide +kernel)
theorem pil_app : ∀ k : Nat, k < 4 → ∃ q : Nat, q < 4 ∧ ((k : Int) % 2) = (q : Int) ∧ binF .Add (.str "pilot ") (.str (digS q)) = some (.str (pilS k)) := by
  intro k hk
  match k, hk with
  | 0, _ => exact ⟨0, by decide, by decide, app_str (by decide +kernel) (by decide +kernel)⟩
  | 1, _ => exact ⟨1, by decide, by decide, app_str (by decide +kernel) (by decide +kernel)⟩
  | 2, _ => exact ⟨0, by decide, by decide, app_str (by decide +kernel) (by decide +kernel)⟩
  | 3, _ => exact ⟨1, by decide, by decide, app_str (by decide +kernel) (by decide +kernel)⟩
/-- what is asked: the sea, the channel, the draft, the hour, the release, the deadlines, the kind -/
structure Aq where
  td : List (List Int)
  ch : List Sl
  dr : Int
  z : Int
  bg : Int
  lt : List Int
  m : Int
def Aq.enc (a : Aq) : D := .tup [tideD a.td, chD a.ch, .int a.dr, .int a.z, .int a.bg, .tup (a.lt.map D.int), .int a.m]
noncomputable def Aq.job (a : Aq) (k : Nat) : D := jobD (use2 (decide (a.m = 1)) k) (.int (a.ch.getD k (0, 0)).1) (win (lvls a.td) a.dr (a.ch.getD k (0, 0))) (.int (if k = 0 then a.bg else 0))
noncomputable def Aq.jobs (a : Aq) : List D := (List.range a.ch.length).map a.job
section
variable {fs : List Fn} {k f : Nat} {S : Sto} {a : Aq}
theorem d_deep2 {lv : List Int} {dr : Int} {s : Sl} (hle : fs[i_law_a_least]? = some ⟨1, 2, ir_law_a_least⟩) (hin : fs[i_law_a_in]? = some ⟨2, 3, ir_law_a_in⟩) (hca : fs[i_law_a_canonical]? = some ⟨1, 4, ir_law_a_canonical⟩) (hf : fs[f]? = some ⟨3, 4, ir_law_a_deep⟩) (hl0 : 0 < lv.length) (hl : lv.length ≤ 1000000) :
    den fs (k + 3) f [lvD lv, slD s, .int dr] S = .ok (Wn (win lv dr s)) S ∧ LeastP (bits lv dr s) (lpOf (bits lv dr s)) := by
  obtain ⟨p, hp, g⟩ := d_deep (k := k) (S := S) (s0 := s.1) (s1 := s.2) (dr := dr) hle hin hca hf hl0 hl
  have e := lpOf_eq (l := bits lv dr s) hp
  unfold win
  rw [e]
  exact ⟨g, hp⟩
theorem d_instance (hle : fs[i_law_a_least]? = some ⟨1, 2, ir_law_a_least⟩) (hin : fs[i_law_a_in]? = some ⟨2, 3, ir_law_a_in⟩) (hca : fs[i_law_a_canonical]? = some ⟨1, 4, ir_law_a_canonical⟩) (hde : fs[i_law_a_deep]? = some ⟨3, 4, ir_law_a_deep⟩) (hf : fs[f]? = some ⟨2, 6, ir_law_instance⟩)
    (hl0 : 0 < (lvls a.td).length) (hl : (lvls a.td).length ≤ 1000000) (hc : a.ch.length ≤ 4) : den fs (k + 4) f [lvD (lvls a.td), a.enc] S = .ok (.tup [.tup a.jobs, .tup []]) (S ++ [.lst a.jobs]) := by
  rw [den_at hf]
  have hit : evI (den fs (k + 3)) (.rng1 (.blt .len false (.cons (.idx (.var 1) (.cst (.int 1))) .nil))) [some (lvD (lvls a.td)), some a.enc, some (.loc S.length), none, none, none] (S ++ [.lst []]) = .ok (rngD 0 1 a.ch.length) (S ++ [.lst []]) := by
    refine (ei_rng1 (j := (a.ch.length : Int)) (ev_blt (es_cons (x := chD a.ch) (ev_idx (x := a.enc) (y := .int 1) rfl rfl rfl) es_nil) ?_) (by omega) (by omega)).trans rfl
    show PV.R.ok (D.int (a.ch.map slD).length) _ = _
    rw [List.length_map]
  obtain ⟨e', S', g2, v3, v4, v5, rfl, rfl⟩ := forL_inv (f := fun x e1 S2 => (match asgT (.nm 3) x e1 with
        | some e2 => exSs (den fs (k + 3)) (ir_law_instance.at 1).bd e2 S2
        | none => PV.R.bad)) (e := [some (lvD (lvls a.td)), some a.enc, some (.loc S.length), none, none, none]) (S := S ++ [.lst []]) (xs := rngD 0 1 a.ch.length)
      (fun i e' S' => ∃ (v3 v4 v5 : Option D), e' = [some (lvD (lvls a.td)), some a.enc, some (.loc S.length), v3, v4, v5] ∧ S' = S ++ [.lst ((List.range i).map a.job)])
      ⟨none, none, none, rfl, rfl⟩ (fun i x e' S' hx hp => by
        obtain ⟨v3, v4, v5, rfl, rfl⟩ := hp
        have hi := (List.getElem?_eq_some_iff.mp hx).1
        rw [rngD_len] at hi
        have hx2 := rngD_get hx
        rw [show (0 : Int) + (i : Int) * 1 = i by omega] at hx2
        subst hx2
        have h4 : i < 4 := by omega
        generalize hS0 : (S ++ [.lst ((List.range i).map a.job)] : Sto) = S0
        have hg : S0[S.length]? = some (.lst ((List.range i).map a.job)) := by rw [← hS0]; exact get_end
        have hsill : ∀ {v4 v5 : Option D}, evE (den fs (k + 3)) (.bin .Add (.cst (.str "sill ")) (.blt .str false (.cons (.var 3) .nil))) [some (lvD (lvls a.td)), some a.enc, some (.loc S.length), some (.int (i : Int)), v4, v5] S0 = .ok (.str (sillS i)) S0 := fun {v4 v5} =>
          ev_bin (x := .str "sill ") (y := .str (digS i)) (S1 := S0) (S2 := S0) rfl (ev_blt (es_cons (x := .int (i : Int)) rfl es_nil) (str_dig i h4)) (sill_app i h4)
        have s0 : exS (den fs (k + 3)) ((ir_law_instance.at 1).bd.at 0) [some (lvD (lvls a.td)), some a.enc, some (.loc S.length), some (.int (i : Int)), v4, v5] S0 = .ok (.nx, [some (lvD (lvls a.td)), some a.enc, some (.loc S.length), some (.int (i : Int)), some (usesD (use2 false i)), v5]) S0 :=
          (x_set (x := usesD (use2 false i)) (S1 := S0) (ev_tup (es_cons (x := .str "pilot 0") rfl (es_cons hsill es_nil)))).trans rfl
        have hT : evT (den fs (k + 3)) (.cmp .Eq (.idx (.var 1) (.cst (.int 6))) (.cst (.int 1))) [some (lvD (lvls a.td)), some a.enc, some (.loc S.length), some (.int (i : Int)), some (usesD (use2 false i)), v5] S0 = .ok (decide (a.m = 1)) S0 :=
          et_cmp (x := .int a.m) (y := .int 1) (S1 := S0) (S2 := S0) (ev_idx (x := a.enc) (y := .int 6) rfl rfl rfl) rfl rfl
        have s1 : exS (den fs (k + 3)) ((ir_law_instance.at 1).bd.at 1) [some (lvD (lvls a.td)), some a.enc, some (.loc S.length), some (.int (i : Int)), some (usesD (use2 false i)), v5] S0 = .ok (.nx, [some (lvD (lvls a.td)), some a.enc, some (.loc S.length), some (.int (i : Int)), some (usesD (use2 (decide (a.m = 1)) i)), v5]) S0 := by
          cases hm : decide (a.m = 1) with
          | false => exact (x_F (hT.trans (by rw [hm]))).trans rfl
          | true =>
            obtain ⟨q, q1, q2, q3⟩ := pil_app i h4
            refine (x_T (hT.trans (by rw [hm]))).trans ((xs_cons (x_set (x := usesD (use2 true i)) (S1 := S0) (ev_tup (es_cons hsill (es_cons (x := .str "stack a 0") rfl (es_cons (x := .str (pilS i)) (S1 := S0) (ev_bin (x := .str "pilot ") (y := .str (digS q)) (S1 := S0) (S2 := S0) rfl (ev_blt (es_cons (x := .int (q : Int)) (S1 := S0) (ev_bin (x := .int (i : Int)) (y := .int 2) (S1 := S0) (S2 := S0) rfl rfl ?_) es_nil) (str_dig q q1)) q3) es_nil)))))).trans rfl)
            rw [← q2]
            exact mod_ok (by decide)
        have s2 : exS (den fs (k + 3)) ((ir_law_instance.at 1).bd.at 2) [some (lvD (lvls a.td)), some a.enc, some (.loc S.length), some (.int (i : Int)), some (usesD (use2 (decide (a.m = 1)) i)), v5] S0 = .ok (.nx, [some (lvD (lvls a.td)), some a.enc, some (.loc S.length), some (.int (i : Int)), some (usesD (use2 (decide (a.m = 1)) i)), some (.int (if i = 0 then a.bg else 0))]) S0 := by
          refine (x_set (x := .int (if i = 0 then a.bg else 0)) (S1 := S0) (ev_ife (p := decide (i = 0)) (S1 := S0) (et_cmp (x := .int (i : Int)) (y := .int 0) (S1 := S0) (S2 := S0) rfl rfl ?_) ?_)).trans rfl
          · show some (decide ((i : Int) = 0)) = _
            refine congrArg some ?_
            by_cases z : i = 0
            · rw [decide_eq_true z, decide_eq_true (by omega)]
            · rw [decide_eq_false z, decide_eq_false (by omega)]
          · by_cases z : i = 0
            · rw [decide_eq_true z, if_pos z]; rfl
            · rw [decide_eq_false z, if_neg z]; rfl
        have hch : idxF S0 (chD a.ch) (.int (i : Int)) = some (slD (a.ch.getD i (0, 0))) := by
          refine chD_get ?_
          rw [List.getD_eq_getElem?_getD, List.getElem?_eq_getElem hi]; rfl
        have hsl : ∀ {e : En}, e[1]? = some (some a.enc) → e[3]? = some (some (.int (i : Int))) → evE (den fs (k + 3)) (.idx (.idx (.var 1) (.cst (.int 1))) (.var 3)) e S0 = .ok (slD (a.ch.getD i (0, 0))) S0 := fun {e} h1 h3 =>
          ev_idx (x := chD a.ch) (y := .int (i : Int)) (S1 := S0) (S2 := S0) (ev_idx (x := a.enc) (y := .int 1) (S1 := S0) (S2 := S0) (ev_var h1) rfl rfl) (ev_var h3) hch
        refine ⟨[some (lvD (lvls a.td)), some a.enc, some (.loc S.length), some (.int (i : Int)), some (usesD (use2 (decide (a.m = 1)) i)), some (.int (if i = 0 then a.bg else 0))], S0.set S.length (.lst ((List.range i).map a.job ++ [a.job i])), .inl ((xs_cons s0).trans ((xs_cons s1).trans ((xs_cons s2).trans ((xs_cons (x_ex (x := .non) (S1 := S0.set S.length (.lst ((List.range i).map a.job ++ [a.job i]))) (ev_met (x := .loc S.length) (S1 := S0) (S2 := S0) (ds := [a.job i]) rfl ?_ (es_cons (ev_tup (es_cons (ev_var rfl) (es_cons (x := .int (a.ch.getD i (0, 0)).1) (S1 := S0) (ev_idx (x := slD (a.ch.getD i (0, 0))) (y := .int 0) (S1 := S0) (S2 := S0) (hsl rfl rfl) rfl rfl) (es_cons (x := Wn (win (lvls a.td) a.dr (a.ch.getD i (0, 0)))) (S1 := S0) (ev_call (es_cons (ev_var rfl) (es_cons (hsl rfl rfl) (es_cons (x := .int a.dr) (S1 := S0) (ev_idx (x := a.enc) (y := .int 2) rfl rfl rfl) es_nil))) (d_deep2 (k := k) hle hin hca hde hl0 hl).1) (es_cons (ev_var rfl) es_nil))))) es_nil) ?_))).trans rfl)))), _, _, _, rfl, ?_⟩
        · show isLst S0 (.loc S.length) = true
          unfold isLst
          simp only [hg]
        · show (match S0[S.length]? with
            | some (.lst xs) => if xs.length < 16777216 then PV.R.ok D.non (S0.set S.length (.lst (xs ++ [a.job i]))) else .bad
            | _ => .bad) = _
          simp only [hg]
          rw [if_pos (by rw [List.length_map, List.length_range]; omega)]
        · rw [← hS0, set_snoc, List.range_succ, List.map_append]
          rfl)
  rw [rngD_len] at g2
  have hj : (List.range a.ch.length).map a.job = a.jobs := rfl
  rw [hj] at g2
  have r0 : evE (den fs (k + 3)) (.lst true .nil) [some (lvD (lvls a.td)), some a.enc, none, none, none, none] S = .ok (.loc S.length) (S ++ [.lst []]) := rfl
  have r1 : evE (den fs (k + 3)) (.blt .tuple false (.cons (.var 2) .nil)) [some (lvD (lvls a.td)), some a.enc, some (.loc S.length), v3, v4, v5] (S ++ [.lst a.jobs]) = .ok (.tup a.jobs) (S ++ [.lst a.jobs]) := ev_blt (es_cons (ev_var rfl) es_nil) (tuple_loc get_end)
  have r2 : evE (den fs (k + 3)) (.tup (.cons (.blt .tuple false (.cons (.var 2) .nil)) (.cons (.tup .nil) .nil))) [some (lvD (lvls a.td)), some a.enc, some (.loc S.length), v3, v4, v5] (S ++ [.lst a.jobs]) = .ok (.tup [.tup a.jobs, .tup []]) (S ++ [.lst a.jobs]) := ev_tup (es_cons r1 (es_cons (x := .tup []) rfl es_nil))
  refine Ret.run (by rfl) (ret_cons (x_set r0) (ret_cons ((x_for hit (by rfl)).trans g2) (ret_ret r2)))
end
end L2.PV

namespace L2.PV
open PySem PySem.Spec PyProof.Rows LamX
/-! L5: who used a resource last; the bounds. -/
theorem dLook_cons {p : Key × D} {kvs : List (Key × D)} {k' : Key} : dLook (p :: kvs) k' = if p.1 = k' then some p.2 else dLook kvs k' := by
  unfold dLook
  rw [List.find?_cons]
  by_cases h : p.1 = k'
  · rw [decide_eq_true h, if_pos h]; rfl
  · rw [decide_eq_false h, if_neg h]
theorem dLook_map {k : Key} {v : D} {k' : Key} : ∀ kvs : List (Key × D), dLook (kvs.map fun kv => if kv.1 = k then (kv.1, v) else kv) k' = if k = k' then (if kvs.any (fun kv => decide (kv.1 = k)) then some v else none) else dLook kvs k'
  | [] => by
    show (none : Option D) = _
    split <;> rfl
  | p :: kvs => by
    rw [List.map_cons, dLook_cons, dLook_map kvs, dLook_cons, List.any_cons]
    by_cases hk : k = k'
    · subst hk
      by_cases hp : p.1 = k
      · rw [if_pos hp, if_pos hp, decide_eq_true hp, if_pos rfl]; rfl
      · rw [if_neg hp, if_neg hp, decide_eq_false hp, Bool.false_or, if_pos rfl, if_pos rfl]
    · rw [if_neg hk, if_neg hk]
      by_cases hp : p.1 = k
      · rw [if_pos hp]
        have : ¬ p.1 = k' := fun z => hk (hp.symm.trans z)
        rw [if_neg this, if_neg this]
      · rw [if_neg hp]
theorem dLook_append {a b : List (Key × D)} {k' : Key} : dLook (a ++ b) k' = (dLook a k').or (dLook b k') := by
  unfold dLook
  rw [List.find?_append]
  cases a.find? (fun kv => decide (kv.1 = k')) <;> rfl
theorem dLook_none {kvs : List (Key × D)} {k : Key} (h : kvs.any (fun kv => decide (kv.1 = k)) = false) : dLook kvs k = none := by
  unfold dLook
  rw [List.find?_eq_none.mpr fun x hx => by
    have := List.any_eq_false.mp h x hx
    exact this]
  rfl
theorem dLook_put {kvs : List (Key × D)} {k k' : Key} {v : D} : dLook (dPut kvs k v) k' = if k = k' then some v else dLook kvs k' := by
  unfold dPut
  by_cases h : kvs.any (fun kv => decide (kv.1 = k)) = true
  · rw [if_pos h, dLook_map, if_pos h]
  · rw [if_neg h, dLook_append]
    have h' : kvs.any (fun kv => decide (kv.1 = k)) = false := Bool.not_eq_true _ ▸ h
    rw [dLook_cons]
    by_cases hk : k = k'
    · subst hk
      rw [dLook_none h', if_pos rfl, if_pos rfl]; rfl
    · rw [if_neg hk, if_neg hk]
      show (dLook kvs k').or none = _
      cases dLook kvs k' <;> rfl
theorem dPut_len {kvs : List (Key × D)} {k : Key} {v : D} : (dPut kvs k v).length ≤ kvs.length + 1 := by
  unfold dPut
  split
  · rw [List.length_map]; omega
  · simp
/-- the last one ahead of job i that uses a resource -/
def lastU (b : Bool) : Nat → Str → Option Nat
  | 0, _ => none
  | i + 1, r => if r ∈ use2 b i then some i else lastU b i r
/-- the next one from job i on -/
def nextU (b : Bool) (n : Nat) : Nat → Str → Option Nat
  | 0, _ => none
  | j + 1, r => if r ∈ use2 b (n - (j + 1)) then some (n - (j + 1)) else nextU b n j r
theorem lastU_f : ∀ i : Nat, i < 4 → lastU false i "pilot 0" = (if i = 0 then none else some (i - 1)) ∧ lastU false i (sillS i) = none ∧ ("pilot 0" : Str) ≠ sillS i := by
  intro i hi
  match i, hi with
  | 0, _ => decide +kernel
  | 1, _ => decide +kernel
  | 2, _ => decide +kernel
  | 3, _ => decide +kernel
theorem lastU_t : ∀ i : Nat, i < 4 → lastU true i (sillS i) = none ∧ lastU true i "stack a 0" = (if i = 0 then none else some (i - 1)) ∧ lastU true i (pilS i) = (if i < 2 then none else some (i - 2)) ∧ sillS i ≠ ("stack a 0" : Str) ∧ sillS i ≠ pilS i ∧ ("stack a 0" : Str) ≠ pilS i := by
  intro i hi
  match i, hi with
  | 0, _ => decide +kernel
  | 1, _ => decide +kernel
  | 2, _ => decide +kernel
  | 3, _ => decide +kernel
/-- what a dict of resources holds -/
def DI (kvs : List (Key × D)) (F : Str → Option D) : Prop := ∀ r : Str, dLook kvs (.inr r) = F r
theorem DI.put {kvs : List (Key × D)} {F : Str → Option D} {r : Str} {v : D} (h : DI kvs F) : DI (dPut kvs (.inr r) v) (fun q => if r = q then some v else F q) := fun q => by
  rw [dLook_put, h q]
  show (if (Sum.inr r : Key) = Sum.inr q then some v else F q) = if r = q then some v else F q
  by_cases e : r = q
  · rw [if_pos e, if_pos (by rw [e])]
  · rw [if_neg e, if_neg fun z => e (Sum.inr.inj z)]
def nD (o : Option Nat) : Option D := o.map fun (j : Nat) => D.int (j : Int)
theorem idx_loc {S : Sto} {n : Nat} {xs : List D} {j : Nat} {x : D} (h : S[n]? = some (.lst xs)) (hx : xs[j]? = some x) : idxF S (.loc n) (.int (j : Int)) = some x := by
  show (match rd S (.loc n) with
    | .tup xs => atI xs (j : Int)
    | .lst xs => atI xs (j : Int)
    | .scr xs => atI xs (j : Int)
    | .str z => if z.length ≤ 16777216 then (atI z.cps.toList (j : Int)).map fun c => .str ⟨#[c]⟩ else none
    | .loc n => (match S[n]? with
      | some (.dic kvs) => dLook kvs (.inl (j : Int))
      | _ => none)
    | _ => none) = _
  unfold rd
  simp only [h]
  exact atI_ok (by omega) hx
section
variable {fs : List Fn} {k f : Nat} {S : Sto} {a : Aq}
theorem d_later (hf : fs[f]? = some ⟨4, 4, ir_later_bound⟩) {bd e j : Int} {rs : D} : (bd < e → den fs (k + 1) f [.int bd, rs, .int e, .int j] S = .ok (.tup [.int e, .int j]) S) ∧ (e < bd → den fs (k + 1) f [.int bd, rs, .int e, .int j] S = .ok (.tup [.int bd, rs]) S) := by
  have c1 : evT (den fs k) (.cmp .Gt (.var 2) (.var 0)) [some (.int bd), some rs, some (.int e), some (.int j)] S = .ok (decide (bd < e)) S := et_cmp (x := .int e) (y := .int bd) (S1 := S) (S2 := S) rfl rfl rfl
  have c2 : evT (den fs k) (.cmp .Eq (.var 2) (.var 0)) [some (.int bd), some rs, some (.int e), some (.int j)] S = .ok (decide (e = bd)) S := et_cmp (x := .int e) (y := .int bd) (S1 := S) (S2 := S) rfl rfl rfl
  rw [den_at hf]
  refine ⟨fun h => ?_, fun h => ?_⟩
  · exact Ret.run rfl (ret_T (S1 := S) (to_T (c1.trans (by rw [decide_eq_true h]))) (ret_ret (ev_tup (es_cons (ev_var rfl) (es_cons (ev_var rfl) es_nil)))))
  · refine Ret.run rfl (ret_F0 (S1 := S) ?_ (ret_ret (ev_tup (es_cons (ev_var rfl) (es_cons (ev_var rfl) es_nil)))))
    refine to_F (c1.trans (by rw [decide_eq_false (by omega : ¬ bd < e)])) ?_
    show evT (den fs k) (.and _) _ S = _
    exact ta_F (c2.trans (by rw [decide_eq_false (by omega : ¬ e = bd)]))
/-- one resource of a job: not used so far, or used by job j -/
theorem use_step {nd nr : Nat} {i : Nat} {v0 v2 v8 v9 : Option D} {jobs : List D} {kvs : List (Key × D)} {r : Str} {bd : Int} {rs : D} (hlb : fs[i_later_bound]? = some ⟨4, 4, ir_later_bound⟩) {g : D → En → Sto → R (Fl × En)} (hg : g = fun x e1 S2 => (match asgT (.nm 8) x e1 with
      | some e2 => exSs (den fs (k + 1)) ((ir_timeline.at 3).bd.at 1).bd e2 S2
      | none => PV.R.bad)) (hd : S[nd]? = some (.dic kvs)) (hk : kvs.length < 16777216) :
    (dLook kvs (.inr r) = none → ∃ v9', g (.str r) [v0, some (.tup jobs), v2, some (.loc nd), some (.loc nr), some (.int (i : Int)), some (.int bd), some rs, v8, v9] S = .ok (.nx, [v0, some (.tup jobs), v2, some (.loc nd), some (.loc nr), some (.int (i : Int)), some (.int bd), some rs, some (.str r), v9']) (S.set nd (.dic (dPut kvs (.inr r) (.int (i : Int)))))) ∧
    (∀ (j : Nat) (x y : D) (st du : Int) (rows : List D) (us w rl : D), dLook kvs (.inr r) = some (.int (j : Int)) → S[nr]? = some (.lst rows) → rows[j]? = some (.tup [x, y, .int st]) → jobs[j]? = some (.tup [us, .int du, w, rl]) →
      (bd < st + du → ∃ v9', g (.str r) [v0, some (.tup jobs), v2, some (.loc nd), some (.loc nr), some (.int (i : Int)), some (.int bd), some rs, v8, v9] S = .ok (.nx, [v0, some (.tup jobs), v2, some (.loc nd), some (.loc nr), some (.int (i : Int)), some (.int (st + du)), some (.int (j : Int)), some (.str r), v9']) (S.set nd (.dic (dPut kvs (.inr r) (.int (i : Int)))))) ∧
      (st + du < bd → ∃ v9', g (.str r) [v0, some (.tup jobs), v2, some (.loc nd), some (.loc nr), some (.int (i : Int)), some (.int bd), some rs, v8, v9] S = .ok (.nx, [v0, some (.tup jobs), v2, some (.loc nd), some (.loc nr), some (.int (i : Int)), some (.int bd), some rs, some (.str r), v9']) (S.set nd (.dic (dPut kvs (.inr r) (.int (i : Int))))))) := by
  have hget : ∀ {e : En} {o : D}, e[3]? = some (some (.loc nd)) → e[8]? = some (some (.str r)) → (dLook kvs (.inr r)).getD .non = o → evE (den fs (k + 1)) (.met .dget1 (.var 3) (.cons (.var 8) .nil)) e S = .ok o S := fun {e o} h3 h8 ho => by
    refine ev_met (x := .loc nd) (S1 := S) (S2 := S) (ds := [.str r]) (ev_var h3) ?_ (es_cons (ev_var h8) es_nil) ?_
    · show isDic S (.loc nd) = true
      unfold isDic
      simp only [hd]
    · unfold metF
      simp only [hd]
      show PV.R.ok ((dLook kvs (.inr r)).getD .non) S = _
      rw [ho]
  refine ⟨fun hn => ?_, fun j x y st du rows us w rl hn hr hrow hjob => ?_⟩
  · refine ⟨some .non, ?_⟩
    subst hg
    refine (xs_cons (x_set (x := .non) (S1 := S) (hget rfl rfl (by rw [hn]; rfl)))).trans ((xs_cons ((x_F (et_cmp (x := .non) (y := .non) (S1 := S) (S2 := S) rfl rfl rfl)).trans rfl)).trans ((xs_cons (x_setD (x := .int (i : Int)) (S1 := S) (S2 := S) (S3 := S) (n := nd) (kvs := kvs) (z := .str r) (kk := .inr r) (ev_var rfl) (ev_var rfl) (ev_var rfl) hd rfl hk)).trans rfl))
  · have main : ∀ (bd2 : Int) (rs2 : D), den fs (k + 1) i_later_bound [.int bd, rs, .int (st + du), .int (j : Int)] S = .ok (.tup [.int bd2, rs2]) S → ∃ v9', g (.str r) [v0, some (.tup jobs), v2, some (.loc nd), some (.loc nr), some (.int (i : Int)), some (.int bd), some rs, v8, v9] S = .ok (.nx, [v0, some (.tup jobs), v2, some (.loc nd), some (.loc nr), some (.int (i : Int)), some (.int bd2), some rs2, some (.str r), v9']) (S.set nd (.dic (dPut kvs (.inr r) (.int (i : Int))))) := fun bd2 rs2 hl => by
      refine ⟨some (.int (j : Int)), ?_⟩
      subst hg
      refine (xs_cons (x_set (x := .int (j : Int)) (S1 := S) (hget rfl rfl (by rw [hn]; rfl)))).trans ((xs_cons ((x_T (et_cmp (x := .int (j : Int)) (y := .non) (S1 := S) (S2 := S) rfl rfl rfl)).trans ((xs_cons (x_setT (x := .tup [.int bd2, rs2]) (S1 := S) (ev_call (ds := [.int bd, rs, .int (st + du), .int (j : Int)]) (es_cons (ev_var rfl) (es_cons (ev_var rfl) (es_cons (ev_bin (x := .int st) (y := .int du) (S1 := S) (S2 := S) (ev_idx (x := .tup [x, y, .int st]) (y := .int 2) (S1 := S) (S2 := S) (ev_idx (x := .loc nr) (y := .int (j : Int)) (S1 := S) (S2 := S) (ev_var rfl) (ev_var rfl) (idx_loc hr hrow)) rfl rfl) (ev_idx (x := .tup [us, .int du, w, rl]) (y := .int 1) (S1 := S) (S2 := S) (ev_idx (x := .tup jobs) (y := .int (j : Int)) (S1 := S) (S2 := S) (ev_var rfl) (ev_var rfl) (atI_ok (by omega) (by rw [show ((j : Int)).toNat = j by omega]; exact hjob))) rfl rfl) rfl) (es_cons (ev_var rfl) es_nil)))) hl) rfl)).trans rfl))).trans ((xs_cons (x_setD (x := .int (i : Int)) (S1 := S) (S2 := S) (S3 := S) (n := nd) (kvs := kvs) (z := .str r) (kk := .inr r) (ev_var rfl) (ev_var rfl) (ev_var rfl) hd rfl hk)).trans rfl))
    have hl := d_later (k := k) (S := S) (bd := bd) (e := st + du) (j := (j : Int)) (rs := rs) hlb
    exact ⟨fun h => main _ _ (hl.1 h), fun h => main _ _ (hl.2 h)⟩
end
end L2.PV

namespace L2.PV
open PySem PySem.Spec PyProof.Rows LamX
/-! L6: the earliest schedule. -/
section
variable {fs : List Fn} {k f : Nat} {S : Sto} {a : Aq}
theorem forL_nil {f : D → En → Sto → R (Fl × En)} {e : En} : forL f [] e S = .ok (.nx, e) S := rfl
theorem inner_use {nd nr : Nat} {i : Nat} {b : Bool} {v0 v2 v8 v9 : Option D} {jobs rows : List D} {kvs : List (Key × D)} {bd0 : Int} {rs0 : D} {st du : Nat → Int} (hlb : fs[i_later_bound]? = some ⟨4, 4, ir_later_bound⟩) {g : D → En → Sto → R (Fl × En)} (hg : g = fun x e1 S2 => (match asgT (.nm 8) x e1 with
      | some e2 => exSs (den fs (k + 1)) ((ir_timeline.at 3).bd.at 1).bd e2 S2
      | none => PV.R.bad)) (hi : i < 4) (hne : nd ≠ nr) (hd : S[nd]? = some (.dic kvs)) (hr : S[nr]? = some (.lst rows)) (hk : kvs.length ≤ 100) (hD : DI kvs fun r => nD (lastU b i r))
    (hrows : ∀ j, j < i → ∃ x y, rows[j]? = some (.tup [x, y, .int (st j)])) (hjobs : ∀ j, j < i → ∃ us w rl, jobs[j]? = some (.tup [us, .int (du j), w, rl])) (hmono : ∀ j, j + 1 < i → st j + du j < st (j + 1) + du (j + 1)) (hpos : ∀ j, j < i → 0 < st j + du j) (hb0 : i ≠ 0 → bd0 = 0) :
    ∃ (kvs' : List (Key × D)) (v8' v9' : Option D) (rs' : D), forL g ((use2 b i).map D.str) [v0, some (.tup jobs), v2, some (.loc nd), some (.loc nr), some (.int (i : Int)), some (.int bd0), some rs0, v8, v9] S =
        .ok (.nx, [v0, some (.tup jobs), v2, some (.loc nd), some (.loc nr), some (.int (i : Int)), some (.int (if i = 0 then bd0 else st (i - 1) + du (i - 1))), some rs', v8', v9']) (S.set nd (.dic kvs')) ∧
      DI kvs' (fun r => nD (lastU b (i + 1) r)) ∧ kvs'.length ≤ kvs.length + 3 := by
  have hnl := (List.getElem?_eq_some_iff.mp hd).1
  -- a resource that is not used so far
  have s0 : ∀ {S : Sto} {kvs : List (Key × D)} {r : Str} {bd : Int} {rs : D} {v8 v9 : Option D}, S[nd]? = some (.dic kvs) → kvs.length ≤ 200 → dLook kvs (.inr r) = none → ∃ v9', g (.str r) [v0, some (.tup jobs), v2, some (.loc nd), some (.loc nr), some (.int (i : Int)), some (.int bd), some rs, v8, v9] S = .ok (.nx, [v0, some (.tup jobs), v2, some (.loc nd), some (.loc nr), some (.int (i : Int)), some (.int bd), some rs, some (.str r), v9']) (S.set nd (.dic (dPut kvs (.inr r) (.int (i : Int))))) :=
    fun {S kvs r bd rs v8 v9} h1 h2 h3 => (use_step (k := k) (S := S) (nr := nr) (i := i) (v0 := v0) (v2 := v2) (v8 := v8) (v9 := v9) (jobs := jobs) (bd := bd) (rs := rs) hlb hg h1 (by omega)).1 h3
  -- used by j
  have s1 : ∀ {S : Sto} {kvs : List (Key × D)} {r : Str} {bd : Int} {rs : D} {v8 v9 : Option D} (j : Nat), j < i → S[nd]? = some (.dic kvs) → S[nr]? = some (.lst rows) → kvs.length ≤ 200 → dLook kvs (.inr r) = some (.int (j : Int)) →
      (bd < st j + du j → ∃ v9', g (.str r) [v0, some (.tup jobs), v2, some (.loc nd), some (.loc nr), some (.int (i : Int)), some (.int bd), some rs, v8, v9] S = .ok (.nx, [v0, some (.tup jobs), v2, some (.loc nd), some (.loc nr), some (.int (i : Int)), some (.int (st j + du j)), some (.int (j : Int)), some (.str r), v9']) (S.set nd (.dic (dPut kvs (.inr r) (.int (i : Int)))))) ∧
      (st j + du j < bd → ∃ v9', g (.str r) [v0, some (.tup jobs), v2, some (.loc nd), some (.loc nr), some (.int (i : Int)), some (.int bd), some rs, v8, v9] S = .ok (.nx, [v0, some (.tup jobs), v2, some (.loc nd), some (.loc nr), some (.int (i : Int)), some (.int bd), some rs, some (.str r), v9']) (S.set nd (.dic (dPut kvs (.inr r) (.int (i : Int)))))) :=
    fun {S kvs r bd rs v8 v9} j hj h1 h1' h2 h3 => by
      obtain ⟨x, y, hro⟩ := hrows j hj
      obtain ⟨us, w, rl, hjo⟩ := hjobs j hj
      exact (use_step (k := k) (S := S) (nr := nr) (i := i) (v0 := v0) (v2 := v2) (v8 := v8) (v9 := v9) (jobs := jobs) (bd := bd) (rs := rs) hlb hg h1 (by omega)).2 j x y (st j) (du j) rows us w rl h3 h1' hro hjo
  have gs : ∀ {c : Cell}, (S.set nd c)[nd]? = some c := fun {c} => List.getElem?_set_self hnl
  have gr : ∀ {c : Cell}, (S.set nd c)[nr]? = some (.lst rows) := fun {c} => by rw [List.getElem?_set_ne hne]; exact hr
  have fin : ∀ {kvs' : List (Key × D)} {F : Str → Option D}, DI kvs' F → (∀ q, F q = nD (lastU b (i + 1) q)) → DI kvs' (fun r => nD (lastU b (i + 1) r)) := fun {kvs' F} h1 h2 q => (h1 q).trans (h2 q)
  cases b with
  | false =>
    obtain ⟨f1, f2, f3⟩ := lastU_f i hi
    have hD' : ∀ r : Str, dLook kvs (.inr r) = nD (lastU false i r) := hD
    have step1 : ∃ (rs1 : D) (v9' : Option D), g (.str "pilot 0") [v0, some (.tup jobs), v2, some (.loc nd), some (.loc nr), some (.int (i : Int)), some (.int bd0), some rs0, v8, v9] S = .ok (.nx, [v0, some (.tup jobs), v2, some (.loc nd), some (.loc nr), some (.int (i : Int)), some (.int (if i = 0 then bd0 else st (i - 1) + du (i - 1))), some rs1, some (.str "pilot 0"), v9']) (S.set nd (.dic (dPut kvs (.inr "pilot 0") (.int (i : Int))))) := by
      by_cases h0 : i = 0
      · have hl : dLook kvs (.inr "pilot 0") = none := by rw [hD', f1, if_pos h0]; rfl
        rw [if_pos h0]
        obtain ⟨v9', q⟩ := s0 (bd := bd0) (rs := rs0) (v8 := v8) (v9 := v9) hd (by omega) hl
        exact ⟨_, v9', q⟩
      · have hl : dLook kvs (.inr "pilot 0") = some (.int ((i - 1 : Nat) : Int)) := by rw [hD', f1, if_neg h0]; rfl
        rw [if_neg h0]
        obtain ⟨v9', q⟩ := (s1 (bd := bd0) (rs := rs0) (v8 := v8) (v9 := v9) (i - 1) (by omega) hd hr (by omega) hl).1 (by rw [hb0 h0]; exact hpos _ (by omega))
        exact ⟨_, v9', q⟩
    obtain ⟨rs1, v91, q1⟩ := step1
    have hD1 := hD.put (r := "pilot 0") (v := .int (i : Int))
    have hl1 : (dPut kvs (.inr "pilot 0") (.int (i : Int))).length ≤ kvs.length + 1 := dPut_len
    have hl2 : dLook (dPut kvs (.inr "pilot 0") (.int (i : Int))) (.inr (sillS i)) = none := by
      rw [hD1]
      show (if ("pilot 0" : Str) = sillS i then some (D.int (i : Int)) else nD (lastU false i (sillS i))) = none
      rw [if_neg f3, f2]; rfl
    obtain ⟨v92, q2⟩ := s0 (bd := if i = 0 then bd0 else st (i - 1) + du (i - 1)) (rs := rs1) (v8 := some (.str "pilot 0")) (v9 := v91) gs (by omega) hl2
    rw [List.set_set] at q2
    refine ⟨_, _, _, _, (forL_cons1 q1).trans ((forL_cons1 q2).trans forL_nil), fin (hD1.put (r := sillS i) (v := .int (i : Int))) fun q => ?_, Nat.le_trans dPut_len (by omega)⟩
    show (if sillS i = q then some (D.int (i : Int)) else if ("pilot 0" : Str) = q then some (D.int (i : Int)) else nD (lastU false i q)) = nD (if q ∈ use2 false i then some i else lastU false i q)
    by_cases h1 : sillS i = q
    · rw [if_pos h1, if_pos (by rw [← h1]; simp [use2])]; rfl
    · by_cases h2 : ("pilot 0" : Str) = q
      · rw [if_neg h1, if_pos h2, if_pos (by rw [← h2]; simp [use2])]; rfl
      · rw [if_neg h1, if_neg h2, if_neg (by simp [use2]; exact ⟨fun z => h2 z.symm, fun z => h1 z.symm⟩)]
  | true =>
    obtain ⟨f1, f2, f3, f4, f5, f6⟩ := lastU_t i hi
    have hD' : ∀ r : Str, dLook kvs (.inr r) = nD (lastU true i r) := hD
    have hl0 : dLook kvs (.inr (sillS i)) = none := by rw [hD', f1]; rfl
    obtain ⟨v91, q1⟩ := s0 (bd := bd0) (rs := rs0) (v8 := v8) (v9 := v9) hd (by omega) hl0
    have hD1 := hD.put (r := sillS i) (v := .int (i : Int))
    have hl1 : (dPut kvs (.inr (sillS i)) (.int (i : Int))).length ≤ kvs.length + 1 := dPut_len
    generalize hk1 : dPut kvs (.inr (sillS i)) (.int (i : Int)) = kv1 at q1 hD1 hl1
    have step2 : ∃ (rs2 : D) (v9' : Option D), g (.str "stack a 0") [v0, some (.tup jobs), v2, some (.loc nd), some (.loc nr), some (.int (i : Int)), some (.int bd0), some rs0, some (.str (sillS i)), v91] (S.set nd (.dic kv1)) = .ok (.nx, [v0, some (.tup jobs), v2, some (.loc nd), some (.loc nr), some (.int (i : Int)), some (.int (if i = 0 then bd0 else st (i - 1) + du (i - 1))), some rs2, some (.str "stack a 0"), v9']) ((S.set nd (.dic kv1)).set nd (.dic (dPut kv1 (.inr "stack a 0") (.int (i : Int))))) := by
      by_cases h0 : i = 0
      · have hl : dLook kv1 (.inr "stack a 0") = none := by
          rw [hD1]
          show (if sillS i = ("stack a 0" : Str) then some (D.int (i : Int)) else nD (lastU true i "stack a 0")) = none
          rw [if_neg f4, f2, if_pos h0]; rfl
        rw [if_pos h0]
        obtain ⟨v9', q⟩ := s0 (bd := bd0) (rs := rs0) (v8 := some (.str (sillS i))) (v9 := v91) gs (by omega) hl
        exact ⟨_, v9', q⟩
      · have hl : dLook kv1 (.inr "stack a 0") = some (.int ((i - 1 : Nat) : Int)) := by
          rw [hD1]
          show (if sillS i = ("stack a 0" : Str) then some (D.int (i : Int)) else nD (lastU true i "stack a 0")) = _
          rw [if_neg f4, f2, if_neg h0]; rfl
        rw [if_neg h0]
        obtain ⟨v9', q⟩ := (s1 (bd := bd0) (rs := rs0) (v8 := some (.str (sillS i))) (v9 := v91) (i - 1) (by omega) gs gr (by omega) hl).1 (by rw [hb0 h0]; exact hpos _ (by omega))
        exact ⟨_, v9', q⟩
    obtain ⟨rs2, v92, q2⟩ := step2
    rw [List.set_set] at q2
    have hD2 := hD1.put (r := "stack a 0") (v := .int (i : Int))
    have hl2 : (dPut kv1 (.inr "stack a 0") (.int (i : Int))).length ≤ kvs.length + 2 := Nat.le_trans dPut_len (by omega)
    generalize hk2 : dPut kv1 (.inr "stack a 0") (.int (i : Int)) = kv2 at q2 hD2 hl2
    have hlp : dLook kv2 (.inr (pilS i)) = nD (if i < 2 then none else some (i - 2)) := by
      rw [hD2]
      show (if ("stack a 0" : Str) = pilS i then some (D.int (i : Int)) else if sillS i = pilS i then some (D.int (i : Int)) else nD (lastU true i (pilS i))) = _
      rw [if_neg f6, if_neg f5, f3]
    have step3 : ∃ (v9' : Option D), g (.str (pilS i)) [v0, some (.tup jobs), v2, some (.loc nd), some (.loc nr), some (.int (i : Int)), some (.int (if i = 0 then bd0 else st (i - 1) + du (i - 1))), some rs2, some (.str "stack a 0"), v92] (S.set nd (.dic kv2)) = .ok (.nx, [v0, some (.tup jobs), v2, some (.loc nd), some (.loc nr), some (.int (i : Int)), some (.int (if i = 0 then bd0 else st (i - 1) + du (i - 1))), some rs2, some (.str (pilS i)), v9']) ((S.set nd (.dic kv2)).set nd (.dic (dPut kv2 (.inr (pilS i)) (.int (i : Int))))) := by
      by_cases h2 : i < 2
      · rw [if_pos h2] at hlp
        exact s0 (bd := if i = 0 then bd0 else st (i - 1) + du (i - 1)) (rs := rs2) (v8 := some (.str "stack a 0")) (v9 := v92) gs (by omega) hlp
      · rw [if_neg h2] at hlp
        refine (s1 (bd := if i = 0 then bd0 else st (i - 1) + du (i - 1)) (rs := rs2) (v8 := some (.str "stack a 0")) (v9 := v92) (i - 2) (by omega) gs gr (by omega) hlp).2 ?_
        rw [if_neg (by omega)]
        have := hmono (i - 2) (by omega)
        rw [show i - 2 + 1 = i - 1 by omega] at this
        exact this
    obtain ⟨v93, q3⟩ := step3
    rw [List.set_set] at q3
    refine ⟨_, _, _, _, (forL_cons1 q1).trans ((forL_cons1 q2).trans ((forL_cons1 q3).trans forL_nil)), fin (hD2.put (r := pilS i) (v := .int (i : Int))) fun q => ?_, Nat.le_trans dPut_len (by omega)⟩
    show (if pilS i = q then some (D.int (i : Int)) else if ("stack a 0" : Str) = q then some (D.int (i : Int)) else if sillS i = q then some (D.int (i : Int)) else nD (lastU true i q)) = nD (if q ∈ use2 true i then some i else lastU true i q)
    by_cases h1 : pilS i = q
    · rw [if_pos h1, if_pos (by rw [← h1]; simp [use2])]; rfl
    · by_cases h2 : ("stack a 0" : Str) = q
      · rw [if_neg h1, if_pos h2, if_pos (by rw [← h2]; simp [use2])]; rfl
      · by_cases h3 : sillS i = q
        · rw [if_neg h1, if_neg h2, if_pos h3, if_pos (by rw [← h3]; simp [use2])]; rfl
        · rw [if_neg h1, if_neg h2, if_neg h3, if_neg (by simp [use2]; exact ⟨fun z => h3 z.symm, fun z => h2 z.symm, fun z => h1 z.symm⟩)]
end
end L2.PV

namespace L2.PV
open PySem PySem.Spec PyProof.Rows LamX
/-! L7: the earliest schedule is the transit. -/
def endT : List Sl → List Int → Int → Int
  | s :: pre, x :: l, _ => endT pre l (x + s.1)
  | _, _, t => t
theorem endT_last : ∀ (pre : List Sl) (l : List Int) (t : Int) (s : Sl) (r : Int), pre.length = l.length → endT (pre ++ [s]) (l ++ [r]) t = r + s.1
  | [], [], t, s, r, _ => rfl
  | p :: pre, x :: l, t, s, r, h => endT_last pre l (x + p.1) s r (by simpa using h)
  | [], _ :: _, _, _, _, h => by simp at h
  | _ :: _, [], _, _, _, h => by simp at h
theorem trans_cons {lv : List Int} {dr : Int} {s : Sl} {rest : List Sl} {t : Int} {l : List Int} (h : transF lv dr (s :: rest) t = some l) : ∃ r l', firstF (dp lv dr s) t = some r ∧ transF lv dr rest (r + s.1) = some l' ∧ l = r :: l' := by
  replace h : (match firstF (dp lv dr s) t with
    | none => none
    | some r => (transF lv dr rest (r + s.1)).map (r :: ·)) = some l := h
  cases hr : firstF (dp lv dr s) t with
  | none => rw [hr] at h; cases h
  | some r =>
    rw [hr] at h
    obtain ⟨l', e1, e2⟩ := Option.map_eq_some_iff.mp h
    exact ⟨r, l', rfl, e1, e2.symm⟩
theorem trans_mk {lv : List Int} {dr : Int} {s : Sl} {rest : List Sl} {t r : Int} {l' : List Int} (h1 : firstF (dp lv dr s) t = some r) (h2 : transF lv dr rest (r + s.1) = some l') : transF lv dr (s :: rest) t = some (r :: l') := by
  show (match firstF (dp lv dr s) t with
    | none => none
    | some r => (transF lv dr rest (r + s.1)).map (r :: ·)) = _
  rw [h1]
  show (transF lv dr rest (r + s.1)).map (r :: ·) = _
  rw [h2]; rfl
theorem trans_snoc {lv : List Int} {dr : Int} {s : Sl} {r : Int} : ∀ (pre : List Sl) (t : Int) (l : List Int), transF lv dr pre t = some l → firstF (dp lv dr s) (endT pre l t) = some r → transF lv dr (pre ++ [s]) t = some (l ++ [r])
  | [], t, l, h, h2 => by
    cases (show some [] = some l from h)
    exact trans_mk h2 rfl
  | p :: pre, t, l, h, h2 => by
    obtain ⟨x, l', e1, e2, rfl⟩ := trans_cons h
    exact trans_mk e1 (trans_snoc pre _ l' e2 h2)
theorem trans_mono {lv : List Int} {dr : Int} : ∀ (pre : List Sl) (t : Int) (l : List Int), transF lv dr pre t = some l → (∀ s ∈ pre, 1 ≤ s.1) → (∀ j, j < l.length → t ≤ l.getD j 0) ∧ ∀ j, j + 1 < l.length → l.getD j 0 + (pre.getD j (0, 0)).1 ≤ l.getD (j + 1) 0
  | [], t, l, h, _ => by
    cases (show some [] = some l from h)
    exact ⟨fun j hj => by simp at hj, fun j hj => by simp at hj⟩
  | p :: pre, t, l, h, hs => by
    obtain ⟨x, l', e1, e2, rfl⟩ := trans_cons h
    obtain ⟨h1, h2⟩ := trans_mono pre _ l' e2 fun s hx => hs s (List.mem_cons_of_mem _ hx)
    obtain ⟨f1, _, _⟩ := firstF_spec e1
    have hp := hs p List.mem_cons_self
    refine ⟨fun j hj => ?_, fun j hj => ?_⟩
    · cases j with
      | zero => exact f1
      | succ j =>
        have := h1 j (by simpa using hj)
        show t ≤ l'.getD j 0
        omega
    · cases j with
      | zero =>
        have := h1 0 (by simpa using hj)
        exact this
      | succ j => exact h2 j (by simpa using hj)
theorem set_mid {S : Sto} {x y z : Cell} : (S ++ [x, y]).set S.length z = S ++ [z, y] := by
  rw [List.set_append_right _ _ (Nat.le_refl _), Nat.sub_self]
  rfl
theorem set_mid2 {S : Sto} {x y z : Cell} : (S ++ [x, y]).set (S.length + 1) z = S ++ [x, z] := by
  rw [List.set_append_right _ _ (by omega), show S.length + 1 - S.length = 1 by omega]
  rfl
theorem get_mid {S : Sto} {x y : Cell} : (S ++ [x, y])[S.length]? = some x := by
  rw [List.getElem?_append_right (Nat.le_refl _), Nat.sub_self]
  rfl
theorem get_mid2 {S : Sto} {x y : Cell} : (S ++ [x, y])[S.length + 1]? = some y := by
  rw [List.getElem?_append_right (by omega), show S.length + 1 - S.length = 1 by omega]
  rfl
/-- all that is asked is well made -/
structure AqOk (a : Aq) : Prop where
  td : TideOk a.td
  ch : ∀ s ∈ a.ch, 1 ≤ s.1 ∧ s.1 ≤ 12
  len : a.ch.length ≤ 4
  z0 : 0 ≤ a.z
  z1 : a.z ≤ 100000
  b0 : 0 ≤ a.bg
  b1 : a.bg ≤ 100000
  ltl : a.lt.length = a.ch.length
  ltz : ∀ x ∈ a.lt, a.z ≤ x
  ltb : ∀ x ∈ a.lt, x ≤ 200000
theorem AqOk.lvl {a : Aq} (h : AqOk a) : 0 < (lvls a.td).length ∧ (lvls a.td).length ≤ 60 := by
  have hp : 0 < per a.td := (pf_pos a.td 1 (by decide) h.td.1).1
  have hl : (lvls a.td).length = per a.td := by unfold lvls; simp
  have := h.td.2
  omega
theorem AqOk.at {a : Aq} (h : AqOk a) {i : Nat} (hi : i < a.ch.length) : 1 ≤ (a.ch.getD i (0, 0)).1 ∧ (a.ch.getD i (0, 0)).1 ≤ 12 := by
  rw [List.getD_eq_getElem?_getD, List.getElem?_eq_getElem hi]
  exact h.ch _ (List.getElem_mem hi)
/-- some hour is deep enough -/
def OpenS (lv : List Int) (dr : Int) (s : Sl) : Prop := ∃ u, dp lv dr s u = true
section
variable {fs : List Fn} {k f : Nat} {S : Sto} {a : Aq}
theorem win_ok {lv : List Int} {dr : Int} {s : Sl} (hl : 0 < lv.length) (hL : LeastP (bits lv dr s) (lpOf (bits lv dr s))) : opn (win lv dr s) = dp lv dr s ∧ 0 < (win lv dr s).length ∧ (win lv dr s).length ≤ lv.length ∧ (OpenS lv dr s → ∃ t : Nat, t < (win lv dr s).length ∧ (win lv dr s).getD t false = true) := by
  have h1 := hL.lo
  have h2 := hL.hi
  rw [bits_len] at h2
  have hlen : (win lv dr s).length = lpOf (bits lv dr s) := by
    unfold win
    rw [List.length_take, bits_len]
    omega
  have ho : opn (win lv dr s) = dp lv dr s := by
    funext t
    exact opn_take hL t
  refine ⟨ho, by omega, by omega, fun ⟨u, hu⟩ => ?_⟩
  rw [← ho] at hu
  exact ⟨(u % ((win lv dr s).length : Int)).toNat, opn_ix (by omega), hu⟩
theorem free0 {w : List Bool} {us : List Str} : free w us [] = opn w := by
  funext t
  unfold free closed
  simp
theorem d_first0 (hn : fs[i_next_hour]? = some ⟨2, 6, ir_next_hour⟩) (hcl : fs[i_closures_of]? = some ⟨2, 5, ir_closures_of⟩) (hf : fs[f]? = some ⟨3, 6, ir_first_start⟩) {i : Nat} {h : Int} (ok : AqOk a) (hL : LeastP (bits (lvls a.td) a.dr (a.ch.getD i (0, 0))) (lpOf (bits (lvls a.td) a.dr (a.ch.getD i (0, 0)))))
    (ho : OpenS (lvls a.td) a.dr (a.ch.getD i (0, 0))) (h0 : 0 ≤ h) : ∃ r, den fs (k + 2) f [a.job i, .tup [], .int h] S = .ok (.int r) S ∧ firstF (dp (lvls a.td) a.dr (a.ch.getD i (0, 0))) h = some r := by
  obtain ⟨w1, w2, w3, w4⟩ := win_ok ok.lvl.1 hL
  have hp := ok.lvl.2
  obtain ⟨d, g1, g2⟩ := d_first_start (k := k) (S := S) (w := win (lvls a.td) a.dr (a.ch.getD i (0, 0))) (us := use2 (decide (a.m = 1)) i) (os := []) (h := h) (dd := .int (a.ch.getD i (0, 0)).1) (tt := .int (if i = 0 then a.bg else 0)) hn hcl hf w2 (by omega) h0 (w4 ho) (by decide) (fun o ho => by cases ho)
  rw [free0, w1] at g2
  obtain ⟨r, rfl, g3⟩ := g2.eq
  exact ⟨r, g1, g3⟩
theorem job_at {i : Nat} (hi : i < a.ch.length) : idxF S (.tup a.jobs) (.int (i : Int)) = some (a.job i) := by
  refine atI_ok (by omega) ?_
  rw [show ((i : Int)).toNat = i by omega]
  unfold Aq.jobs
  rw [List.getElem?_map, List.getElem?_range hi]
  rfl
theorem d_timeline (hn : fs[i_next_hour]? = some ⟨2, 6, ir_next_hour⟩) (hcl : fs[i_closures_of]? = some ⟨2, 5, ir_closures_of⟩) (hfs : fs[i_first_start]? = some ⟨3, 6, ir_first_start⟩) (hlb : fs[i_later_bound]? = some ⟨4, 4, ir_later_bound⟩) (hf : fs[f]? = some ⟨1, 10, ir_timeline⟩)
    (ok : AqOk a) (hL : ∀ s ∈ a.ch, LeastP (bits (lvls a.td) a.dr s) (lpOf (bits (lvls a.td) a.dr s))) (ho : ∀ s ∈ a.ch, OpenS (lvls a.td) a.dr s) :
    ∃ (rows : List D) (acc : List Int) (S' : Sto), den fs (k + 3) f [.tup [.tup a.jobs, .tup []]] S = .ok (.lst rows) S' ∧ transF (lvls a.td) a.dr a.ch a.bg = some acc ∧ rows.length = acc.length ∧ ∀ j, j < rows.length → ∃ x y, rows[j]? = some (.tup [x, y, .int (acc.getD j 0)]) := by
  rw [den_at hf]
  have hc4 := ok.len
  generalize hin : D.tup [.tup a.jobs, .tup []] = inst
  have hit : evI (den fs (k + 2)) (.rng1 (.blt .len false (.cons (.var 1) .nil))) [some inst, some (.tup a.jobs), some (.tup []), some (.loc S.length), some (.loc (S.length + 1)), none, none, none, none, none] (S ++ [.dic [], .lst []]) = .ok (rngD 0 1 a.ch.length) (S ++ [.dic [], .lst []]) := by
    refine (ei_rng1 (j := (a.ch.length : Int)) (ev_blt (es_cons (x := .tup a.jobs) rfl es_nil) ?_) (by omega) (by omega)).trans rfl
    show PV.R.ok (D.int a.jobs.length) _ = _
    unfold Aq.jobs
    rw [List.length_map, List.length_range]
  obtain ⟨e', S', g2, acc, rows, kvs, v5, v6, v7, v8, v9, rfl, rfl, p1, p2, p3, p4, p5, p6⟩ := forL_inv (f := fun x e1 S2 => (match asgT (.nm 5) x e1 with
        | some e2 => exSs (den fs (k + 2)) (ir_timeline.at 3).bd e2 S2
        | none => PV.R.bad)) (e := [some inst, some (.tup a.jobs), some (.tup []), some (.loc S.length), some (.loc (S.length + 1)), none, none, none, none, none]) (S := S ++ [.dic [], .lst []]) (xs := rngD 0 1 a.ch.length)
      (fun i e' S' => ∃ (acc : List Int) (rows : List D) (kvs : List (Key × D)) (v5 v6 v7 v8 v9 : Option D), e' = [some inst, some (.tup a.jobs), some (.tup []), some (.loc S.length), some (.loc (S.length + 1)), v5, v6, v7, v8, v9] ∧ S' = S ++ [.dic kvs, .lst rows] ∧
        DI kvs (fun r => nD (lastU (decide (a.m = 1)) i r)) ∧ kvs.length ≤ 3 * i ∧ rows.length = i ∧ acc.length = i ∧ transF (lvls a.td) a.dr (a.ch.take i) a.bg = some acc ∧ ∀ j, j < i → ∃ x y, rows[j]? = some (.tup [x, y, .int (acc.getD j 0)]))
      ⟨[], [], [], none, none, none, none, none, rfl, rfl, fun r => rfl, Nat.le_refl _, rfl, rfl, rfl, fun j hj => by omega⟩ (fun i x e' S' hx hp => by
        obtain ⟨acc, rows, kvs, v5, v6, v7, v8, v9, rfl, rfl, p1, p2, p3, p4, p5, p6⟩ := hp
        have hi := (List.getElem?_eq_some_iff.mp hx).1
        rw [rngD_len] at hi
        have hx2 := rngD_get hx
        rw [show (0 : Int) + (i : Int) * 1 = i by omega] at hx2
        subst hx2
        have h4 : i < 4 := by omega
        have htk : ∀ j, j < i → (a.ch.take i).getD j (0, 0) = a.ch.getD j (0, 0) := fun j hj => by
          rw [List.getD_eq_getElem?_getD, List.getD_eq_getElem?_getD, List.getElem?_take, if_pos hj]
        obtain ⟨m1, m2⟩ := trans_mono _ _ _ p5 fun s hs => (ok.ch s (List.mem_of_mem_take hs)).1
        have hb0 := ok.b0
        have hdu : ∀ j, j < a.ch.length → 1 ≤ (a.ch.getD j (0, 0)).1 := fun j hj => (ok.at hj).1
        have hpos : ∀ j, j < i → 0 ≤ acc.getD j 0 := fun j hj => by have := m1 j (by omega); omega
        generalize hS0 : (S ++ [.dic kvs, .lst rows] : Sto) = S0
        have hgd : S0[S.length]? = some (.dic kvs) := by rw [← hS0]; exact get_mid
        have hgr : S0[S.length + 1]? = some (.lst rows) := by rw [← hS0]; exact get_mid2
        obtain ⟨kvs', v8', v9', rs', q1, q2, q3⟩ := inner_use (k := k + 1) (S := S0) (nd := S.length) (nr := S.length + 1) (i := i) (b := decide (a.m = 1)) (v0 := some inst) (v2 := some (.tup [])) (v8 := v8) (v9 := v9) (jobs := a.jobs) (rows := rows) (kvs := kvs) (bd0 := if i = 0 then a.bg else 0) (rs0 := .non) (st := fun j => acc.getD j 0) (du := fun j => (a.ch.getD j (0, 0)).1) hlb rfl h4 (by omega) hgd hgr (by omega) p1 p6 (fun j hj => by
          refine ⟨usesD (use2 (decide (a.m = 1)) j), Wn (win (lvls a.td) a.dr (a.ch.getD j (0, 0))), .int (if j = 0 then a.bg else 0), ?_⟩
          unfold Aq.jobs
          rw [List.getElem?_map, List.getElem?_range (by omega)]
          rfl) (fun j hj => by
          have e1 := m2 j (by omega)
          rw [htk j (by omega)] at e1
          have e2 := hdu (j + 1) (by omega)
          show acc.getD j 0 + _ < acc.getD (j + 1) 0 + _
          omega) (fun j hj => by
          have e1 := hpos j hj
          have e2 := hdu j (by omega)
          show 0 < acc.getD j 0 + _
          omega) (fun z => if_neg z)
        generalize hB : (if i = 0 then (if i = 0 then a.bg else 0) else acc.getD (i - 1) 0 + (a.ch.getD (i - 1) (0, 0)).1) = B at q1
        have hB0 : 0 ≤ B := by
          rw [← hB]
          by_cases hz : i = 0
          · rw [if_pos hz, if_pos hz]; exact hb0
          · rw [if_neg hz]
            have e1 := hpos (i - 1) (by omega)
            have e2 := hdu (i - 1) (by omega)
            omega
        have hend : endT (a.ch.take i) acc a.bg = B := by
          rw [← hB]
          cases i with
          | zero =>
            rw [if_pos rfl, if_pos rfl]
            cases acc with
            | nil => rfl
            | cons _ _ => simp at p4
          | succ i =>
            rw [if_neg (by omega)]
            have e1 : a.ch.take (i + 1) = a.ch.take i ++ [a.ch.getD i (0, 0)] := by
              rw [List.take_succ, List.getElem?_eq_getElem (by omega), List.getD_eq_getElem?_getD, List.getElem?_eq_getElem (by omega)]
              rfl
            have e2 : acc = acc.take i ++ [acc.getD i 0] := by
              have := List.take_length (l := acc)
              rw [p4, List.take_succ, List.getElem?_eq_getElem (by omega)] at this
              rw [List.getD_eq_getElem?_getD, List.getElem?_eq_getElem (by omega)]
              exact this.symm
            rw [e1, e2, endT_last _ _ _ _ _ (by rw [List.length_take, List.length_take]; omega), ← e2]
            rfl
        have hmem : a.ch.getD i (0, 0) ∈ a.ch := by
          rw [List.getD_eq_getElem?_getD, List.getElem?_eq_getElem hi]
          exact List.getElem_mem hi
        have hS1 : S0.set S.length (.dic kvs') = S ++ [.dic kvs', .lst rows] := by rw [← hS0]; exact set_mid
        rw [hS1] at q1
        obtain ⟨r, r1, r2⟩ := d_first0 (k := k) (S := S ++ [.dic kvs', .lst rows]) (a := a) (i := i) (h := B) hn hcl hfs ok (hL _ hmem) (ho _ hmem) hB0
        have hjob : ∀ {S : Sto} {e : En}, e[1]? = some (some (.tup a.jobs)) → e[5]? = some (some (.int (i : Int))) → evE (den fs (k + 2)) (.idx (.var 1) (.var 5)) e S = .ok (a.job i) S := fun {S e} h1 h5 => ev_idx (ev_var h1) (ev_var h5) (job_at hi)
        have s0 : exS (den fs (k + 2)) ((ir_timeline.at 3).bd.at 0) [some inst, some (.tup a.jobs), some (.tup []), some (.loc S.length), some (.loc (S.length + 1)), some (.int (i : Int)), v6, v7, v8, v9] S0 = .ok (.nx, [some inst, some (.tup a.jobs), some (.tup []), some (.loc S.length), some (.loc (S.length + 1)), some (.int (i : Int)), some (.int (if i = 0 then a.bg else 0)), some .non, v8, v9]) S0 :=
          (x_par (x := .int (if i = 0 then a.bg else 0)) (y := .non) (S1 := S0) (S2 := S0) (ev_idx (x := a.job i) (y := .int 3) (S1 := S0) (S2 := S0) (hjob rfl rfl) rfl rfl) rfl).trans rfl
        have hi0 : evI (den fs (k + 2)) (.seq (.idx (.idx (.var 1) (.var 5)) (.cst (.int 0)))) [some inst, some (.tup a.jobs), some (.tup []), some (.loc S.length), some (.loc (S.length + 1)), some (.int (i : Int)), some (.int (if i = 0 then a.bg else 0)), some .non, v8, v9] S0 = .ok ((use2 (decide (a.m = 1)) i).map D.str) S0 :=
          ei_seq (x := usesD (use2 (decide (a.m = 1)) i)) (ev_idx (x := a.job i) (y := .int 0) (S1 := S0) (S2 := S0) (hjob rfl rfl) rfl rfl) rfl
        refine ⟨[some inst, some (.tup a.jobs), some (.tup []), some (.loc S.length), some (.loc (S.length + 1)), some (.int (i : Int)), some (.int B), some rs', v8', v9'], S ++ [.dic kvs', .lst (rows ++ [.tup [.int B, rs', .int r]])], .inl ((xs_cons s0).trans ((xs_cons ((x_for hi0 rfl).trans q1)).trans ((xs_cons (x_ex (x := .non) (S1 := S ++ [.dic kvs', .lst (rows ++ [.tup [.int B, rs', .int r]])]) (ev_met (x := .loc (S.length + 1)) (S1 := S ++ [.dic kvs', .lst rows]) (S2 := S ++ [.dic kvs', .lst rows]) (ds := [.tup [.int B, rs', .int r]]) (ev_var rfl) ?_ (es_cons (ev_tup (es_cons (ev_var rfl) (es_cons (ev_var rfl) (es_cons (ev_call (es_cons (hjob rfl rfl) (es_cons (ev_var rfl) (es_cons (ev_var rfl) es_nil))) r1) es_nil)))) es_nil) ?_))).trans rfl))), acc ++ [r], rows ++ [.tup [.int B, rs', .int r]], kvs', _, _, _, _, _, rfl, rfl, q2, by omega, by simp [p3], by simp [p4], ?_, fun j hj => ?_⟩
        · show isLst (S ++ [.dic kvs', .lst rows]) (.loc (S.length + 1)) = true
          unfold isLst
          simp only [get_mid2]
        · show (match (S ++ [.dic kvs', .lst rows] : Sto)[S.length + 1]? with
            | some (.lst xs) => if xs.length < 16777216 then PV.R.ok D.non ((S ++ [Cell.dic kvs', Cell.lst rows]).set (S.length + 1) (.lst (xs ++ [D.tup [.int B, rs', .int r]]))) else .bad
            | _ => .bad) = _
          simp only [get_mid2]
          rw [if_pos (by omega), set_mid2]
        · rw [List.take_succ, List.getElem?_eq_getElem hi]
          have := trans_snoc (s := a.ch.getD i (0, 0)) (r := r) _ _ _ p5 (by rw [hend]; exact r2)
          rw [List.getD_eq_getElem?_getD, List.getElem?_eq_getElem hi] at this
          exact this
        · by_cases hji : j < i
          · obtain ⟨x, y, hro⟩ := p6 j hji
            refine ⟨x, y, ?_⟩
            rw [List.getElem?_append_left (by omega), hro]
            rw [List.getD_eq_getElem?_getD, List.getD_eq_getElem?_getD, List.getElem?_append_left (by omega)]
          · have e : j = i := by omega
            subst e
            refine ⟨.int B, rs', ?_⟩
            rw [List.getElem?_append_right (by omega), p3, Nat.sub_self, List.getD_eq_getElem?_getD, List.getElem?_append_right (by omega), p4, Nat.sub_self]
            rfl)
  rw [rngD_len] at p1 p2 p3 p4 p5 p6
  rw [List.take_length] at p5
  refine ⟨rows, acc, S ++ [.dic kvs, .gone], ?_, p5, by rw [p3, p4], by rw [p3]; exact p6⟩
  have t0 : exS (den fs (k + 2)) (ir_timeline.at 0) [some inst, none, none, none, none, none, none, none, none, none] S = .ok (.nx, [some inst, some (.tup a.jobs), some (.tup []), none, none, none, none, none, none, none]) S := by
    rw [← hin]
    exact x_setT (x := .tup [.tup a.jobs, .tup []]) rfl rfl
  have t1 : exS (den fs (k + 2)) (ir_timeline.at 1) [some inst, some (.tup a.jobs), some (.tup []), none, none, none, none, none, none, none] S = .ok (.nx, [some inst, some (.tup a.jobs), some (.tup []), some (.loc S.length), none, none, none, none, none, none]) (S ++ [.dic []]) := rfl
  have t2 : exS (den fs (k + 2)) (ir_timeline.at 2) [some inst, some (.tup a.jobs), some (.tup []), some (.loc S.length), none, none, none, none, none, none] (S ++ [.dic []]) = .ok (.nx, [some inst, some (.tup a.jobs), some (.tup []), some (.loc S.length), some (.loc (S.length + 1)), none, none, none, none, none]) (S ++ [.dic [], .lst []]) := by
    show PV.R.ok (Fl.nx, [some inst, some (.tup a.jobs), some (.tup []), some (.loc S.length), some (.loc (S ++ [Cell.dic []]).length), none, none, none, none, none]) (S ++ [.dic []] ++ [.lst []]) = _
    rw [List.length_append, List.append_assoc]
    rfl
  have t4 : evE (den fs (k + 2)) (.frz (.var 4)) [some inst, some (.tup a.jobs), some (.tup []), some (.loc S.length), some (.loc (S.length + 1)), v5, v6, v7, v8, v9] (S ++ [.dic kvs, .lst rows]) = .ok (.lst rows) (S ++ [.dic kvs, .gone]) := by
    show (match (S ++ [.dic kvs, .lst rows] : Sto)[S.length + 1]? with
      | some (.lst xs) => PV.R.ok (D.lst xs) ((S ++ [Cell.dic kvs, Cell.lst rows]).set (S.length + 1) .gone)
      | _ => .bad) = _
    simp only [get_mid2]
    rw [set_mid2]
  exact Ret.run rfl (ret_cons t0 (ret_cons t1 (ret_cons t2 (ret_cons ((x_for hit rfl).trans g2) (ret_ret t4)))))
theorem d_earliest (hn : fs[i_next_hour]? = some ⟨2, 6, ir_next_hour⟩) (hcl : fs[i_closures_of]? = some ⟨2, 5, ir_closures_of⟩) (hfs : fs[i_first_start]? = some ⟨3, 6, ir_first_start⟩) (hlb : fs[i_later_bound]? = some ⟨4, 4, ir_later_bound⟩) (htl : fs[i_timeline]? = some ⟨1, 10, ir_timeline⟩) (hf : fs[f]? = some ⟨1, 4, ir_earliest⟩)
    (ok : AqOk a) (hL : ∀ s ∈ a.ch, LeastP (bits (lvls a.td) a.dr s) (lpOf (bits (lvls a.td) a.dr s))) (ho : ∀ s ∈ a.ch, OpenS (lvls a.td) a.dr s) :
    ∃ S' : Sto, den fs (k + 4) f [.tup [.tup a.jobs, .tup []]] S = .ok (oT (transF (lvls a.td) a.dr a.ch a.bg)) S' := by
  obtain ⟨rows, acc, S', g1, g2, g3, g4⟩ := d_timeline (k := k) (S := S) hn hcl hfs hlb htl ok hL ho
  refine ⟨S', ?_⟩
  rw [den_at hf, g2]
  have hlc : ∀ (rows : List D) (acc : List Int), rows.length = acc.length → (∀ j, j < rows.length → ∃ x y, rows[j]? = some (.tup [x, y, .int (acc.getD j 0)])) → lcL (fun x S2 => (match asgT (.tp [1, 2, 3]) x [some (.tup [.tup a.jobs, .tup []]), none, none, none] with
      | some e1 => (evIf (den fs (k + 3)) .nil e1 S2).bind fun k1 S3 => (match k1 with
        | true => (evE (den fs (k + 3)) (.var 3) e1 S3).bind fun y S4 => PV.R.ok (some y) S4
        | false => .ok none S3)
      | none => .bad)) rows S' = .ok (acc.map D.int) S' := by
    intro rows
    induction rows with
    | nil =>
      intro acc h _
      cases acc with
      | nil => rfl
      | cons _ _ => simp at h
    | cons row rows ih =>
      intro acc h hr
      cases acc with
      | nil => simp at h
      | cons v acc =>
        obtain ⟨x, y, e⟩ := hr 0 (by simp)
        have e1 : row = .tup [x, y, .int v] := by simpa using e
        subst e1
        have := ih acc (by simpa using h) fun j hj => by
          obtain ⟨x, y, e⟩ := hr (j + 1) (by simpa using hj)
          exact ⟨x, y, by simpa using e⟩
        show (match lcL _ rows S' with
          | .ok ys S2 => PV.R.ok (D.int v :: ys) S2
          | _ => .bad) = _
        rw [this]
        rfl
  exact Ret.run rfl (ret_ret (ev_blt (es_cons (x := .lst (acc.map D.int)) (S1 := S') (ev_lc (xs := rows) (S1 := S') (ei_seq (x := .lst rows) (ev_call (es_cons (ev_var rfl) es_nil) g1) rfl) rfl (hlc rows acc g3 g4)) es_nil) rfl))
end
end L2.PV

namespace L2.PV
open PySem PySem.Spec PyProof.Rows LamX
/-! L8: the latest schedule. -/
theorem nextU_f : ∀ n : Nat, n < 5 → ∀ i : Nat, i < n → nextU false n (n - 1 - i) "pilot 0" = (if n - 1 - i = 0 then none else some (i + 1)) ∧ nextU false n (n - 1 - i) (sillS i) = none := by decide +kernel
theorem nextU_t : ∀ n : Nat, n < 5 → ∀ i : Nat, i < n → nextU true n (n - 1 - i) (sillS i) = none ∧ nextU true n (n - 1 - i) "stack a 0" = (if n - 1 - i = 0 then none else some (i + 1)) ∧ nextU true n (n - 1 - i) (pilS i) = (if n - 1 - i < 2 then none else some (i + 2)) := by decide +kernel
section
variable {fs : List Fn} {k f : Nat} {S : Sto} {a : Aq}
/-- one resource: the limit -/
theorem lim_step {Δ : Den} {nd : Nat} {v0 v1 v2 v3 v5 v6 v7 v9 v10 v12 v13 : Option D} {kvs : List (Key × D)} {r : Str} {lim du : Int} {g : D → En → Sto → R (Fl × En)} (hg : g = fun x e1 S2 => (match asgT (.nm 12) x e1 with
      | some e2 => exSs Δ ((ir_latest_by.at 3).bd.at 2).bd e2 S2
      | none => PV.R.bad)) (hd : S[nd]? = some (.dic kvs)) :
    (dLook kvs (.inr r) = none → g (.str r) [v0, v1, v2, v3, some (.loc nd), v5, v6, v7, some (.int du), v9, v10, some (.int lim), v12, v13] S = .ok (.nx, [v0, v1, v2, v3, some (.loc nd), v5, v6, v7, some (.int du), v9, v10, some (.int lim), some (.str r), v13]) S) ∧
    (∀ st : Int, dLook kvs (.inr r) = some (.int st) → g (.str r) [v0, v1, v2, v3, some (.loc nd), v5, v6, v7, some (.int du), v9, v10, some (.int lim), v12, v13] S = .ok (.nx, [v0, v1, v2, v3, some (.loc nd), v5, v6, v7, some (.int du), v9, v10, some (.int (if st - du < lim then st - du else lim)), some (.str r), v13]) S) := by
  have hrd : rd S (.loc nd) = .loc nd := by
    unfold rd
    simp only [hd]
  have hT : evT Δ (.cmp .In (.var 12) (.var 4)) [v0, v1, v2, v3, some (.loc nd), v5, v6, v7, some (.int du), v9, v10, some (.int lim), some (.str r), v13] S = .ok (dLook kvs (.inr r)).isSome S := by
    refine et_cmp (x := .str r) (y := .loc nd) (S1 := S) (S2 := S) rfl rfl ?_
    show containsF S (.str r) (rd S (.loc nd)) = _
    rw [hrd]
    show (match S[nd]? with
      | some (.dic kvs) => ((D.str r).key).map fun k => (dLook kvs k).isSome
      | _ => none) = _
    simp only [hd]
    rfl
  refine ⟨fun hn => ?_, fun st hn => ?_⟩
  · rw [hn] at hT
    subst hg
    exact (xs_cons ((x_F hT).trans rfl)).trans rfl
  · rw [hn] at hT
    subst hg
    refine (xs_cons ((x_T hT).trans ((xs_cons (x_set (x := .int (if st - du < lim then st - du else lim)) (S1 := S) (ev_blt (es_cons (x := .int lim) (S1 := S) (ev_var rfl) (es_cons (x := .int (st - du)) (S1 := S) (ev_bin (x := .int st) (y := .int du) (S1 := S) (S2 := S) (ev_idx (x := .loc nd) (y := .str r) (S1 := S) (S2 := S) (ev_var rfl) (ev_var rfl) ?_) (ev_var rfl) rfl) es_nil)) rfl))).trans rfl))).trans rfl
    show (match S[nd]? with
      | some (.dic kvs) => dLook kvs (.inr r)
      | _ => none) = _
    simp only [hd]
    exact hn
theorem lim_loop {Δ : Den} {nd i n : Nat} {b : Bool} {v0 v1 v2 v3 v5 v6 v7 v9 v10 v12 v13 : Option D} {kvs : List (Key × D)} {dl du : Int} {st : Nat → Int} {g : D → En → Sto → R (Fl × En)} (hg : g = fun x e1 S2 => (match asgT (.nm 12) x e1 with
      | some e2 => exSs Δ ((ir_latest_by.at 3).bd.at 2).bd e2 S2
      | none => PV.R.bad)) (hd : S[nd]? = some (.dic kvs)) (hn : n < 5) (hi : i < n) (hD : ∀ r, dLook kvs (.inr r) = (nextU b n (n - 1 - i) r).map fun (j : Nat) => D.int (st j))
    (h1 : n - 1 - i ≠ 0 → st (i + 1) - du < dl) (h2 : ¬ n - 1 - i < 2 → st (i + 1) ≤ st (i + 2)) :
    ∃ v12', forL g ((use2 b i).map D.str) [v0, v1, v2, v3, some (.loc nd), v5, v6, v7, some (.int du), v9, v10, some (.int dl), v12, v13] S = .ok (.nx, [v0, v1, v2, v3, some (.loc nd), v5, v6, v7, some (.int du), v9, v10, some (.int (if n - 1 - i = 0 then dl else st (i + 1) - du)), v12', v13]) S := by
  have pick : ∀ {r : Str} {lim : Int} {v12 : Option D} {j : Nat}, dLook kvs (.inr r) = some (.int (st j)) → g (.str r) [v0, v1, v2, v3, some (.loc nd), v5, v6, v7, some (.int du), v9, v10, some (.int lim), v12, v13] S = .ok (.nx, [v0, v1, v2, v3, some (.loc nd), v5, v6, v7, some (.int du), v9, v10, some (.int (if st j - du < lim then st j - du else lim)), some (.str r), v13]) S :=
    fun {r lim v12 j} h => (lim_step hg hd).2 (st j) h
  have skip : ∀ {r : Str} {lim : Int} {v12 : Option D}, dLook kvs (.inr r) = none → g (.str r) [v0, v1, v2, v3, some (.loc nd), v5, v6, v7, some (.int du), v9, v10, some (.int lim), v12, v13] S = .ok (.nx, [v0, v1, v2, v3, some (.loc nd), v5, v6, v7, some (.int du), v9, v10, some (.int lim), some (.str r), v13]) S :=
    fun {r lim v12} h => (lim_step hg hd).1 h
  cases b with
  | false =>
    obtain ⟨f1, f2⟩ := nextU_f n hn i hi
    have e2 : dLook kvs (.inr (sillS i)) = none := by rw [hD, f2]; rfl
    by_cases h0 : n - 1 - i = 0
    · have e1 : dLook kvs (.inr "pilot 0") = none := by rw [hD, f1, if_pos h0]; rfl
      rw [if_pos h0]
      exact ⟨_, (forL_cons1 (skip e1)).trans ((forL_cons1 (skip e2)).trans forL_nil)⟩
    · have e1 : dLook kvs (.inr "pilot 0") = some (.int (st (i + 1))) := by rw [hD, f1, if_neg h0]; rfl
      rw [if_neg h0]
      have q := pick (lim := dl) (v12 := v12) e1
      rw [if_pos (h1 h0)] at q
      exact ⟨_, (forL_cons1 q).trans ((forL_cons1 (skip e2)).trans forL_nil)⟩
  | true =>
    obtain ⟨f1, f2, f3⟩ := nextU_t n hn i hi
    have e1 : dLook kvs (.inr (sillS i)) = none := by rw [hD, f1]; rfl
    by_cases h0 : n - 1 - i = 0
    · have e2 : dLook kvs (.inr "stack a 0") = none := by rw [hD, f2, if_pos h0]; rfl
      have e3 : dLook kvs (.inr (pilS i)) = none := by rw [hD, f3, if_pos (by omega)]; rfl
      rw [if_pos h0]
      exact ⟨_, (forL_cons1 (skip e1)).trans ((forL_cons1 (skip e2)).trans ((forL_cons1 (skip e3)).trans forL_nil))⟩
    · have e2 : dLook kvs (.inr "stack a 0") = some (.int (st (i + 1))) := by rw [hD, f2, if_neg h0]; rfl
      rw [if_neg h0]
      have q := pick (lim := dl) (v12 := some (.str (sillS i))) e2
      rw [if_pos (h1 h0)] at q
      by_cases h3 : n - 1 - i < 2
      · have e3 : dLook kvs (.inr (pilS i)) = none := by rw [hD, f3, if_pos h3]; rfl
        exact ⟨_, (forL_cons1 (skip e1)).trans ((forL_cons1 q).trans ((forL_cons1 (skip e3)).trans forL_nil))⟩
      · have e3 : dLook kvs (.inr (pilS i)) = some (.int (st (i + 2))) := by rw [hD, f3, if_neg h3]; rfl
        have q3 := pick (lim := st (i + 1) - du) (v12 := some (.str "stack a 0")) e3
        have := h2 h3
        rw [if_neg (by omega)] at q3
        exact ⟨_, (forL_cons1 (skip e1)).trans ((forL_cons1 q).trans ((forL_cons1 q3).trans forL_nil))⟩
/-- the starts are put -/
theorem put_loop {Δ : Den} {nd : Nat} {v0 v1 v2 v3 v5 v6 v7 v8 v9 v10 v11 : Option D} {st : Int} {g : D → En → Sto → R (Fl × En)} (hg : g = fun x e1 S2 => (match asgT (.nm 12) x e1 with
      | some e2 => exSs Δ ((ir_latest_by.at 3).bd.at 5).bd e2 S2
      | none => PV.R.bad)) : ∀ (us : List Str) (kvs : List (Key × D)) (v12 : Option D) (F : Str → Option D) (S : Sto), S[nd]? = some (.dic kvs) → kvs.length + us.length ≤ 1000 → DI kvs F →
    ∃ kvs' v12', forL g (us.map D.str) [v0, v1, v2, v3, some (.loc nd), v5, v6, v7, v8, v9, v10, v11, v12, some (.int st)] S = .ok (.nx, [v0, v1, v2, v3, some (.loc nd), v5, v6, v7, v8, v9, v10, v11, v12', some (.int st)]) (S.set nd (.dic kvs')) ∧ DI kvs' (fun q => if q ∈ us then some (.int st) else F q) ∧ kvs'.length ≤ kvs.length + us.length
  | [], kvs, v12, F, S, hd, _, hD => ⟨kvs, v12, by rw [set_self hd]; rfl, fun q => (hD q).trans (if_neg (by simp)).symm, Nat.le_refl _⟩
  | r :: us, kvs, v12, F, S, hd, hk, hD => by
    rw [List.length_cons] at hk
    have hnl := (List.getElem?_eq_some_iff.mp hd).1
    have q : g (.str r) [v0, v1, v2, v3, some (.loc nd), v5, v6, v7, v8, v9, v10, v11, v12, some (.int st)] S = .ok (.nx, [v0, v1, v2, v3, some (.loc nd), v5, v6, v7, v8, v9, v10, v11, some (.str r), some (.int st)]) (S.set nd (.dic (dPut kvs (.inr r) (.int st)))) := by
      subst hg
      exact (xs_cons (x_setD (x := .int st) (S1 := S) (S2 := S) (S3 := S) (n := nd) (kvs := kvs) (z := .str r) (kk := .inr r) (ev_var rfl) (ev_var rfl) (ev_var rfl) hd rfl (by omega))).trans rfl
    have hl : (dPut kvs (.inr r) (.int st)).length ≤ kvs.length + 1 := dPut_len
    obtain ⟨kvs', v12', e1, e2, e3⟩ := put_loop hg us (dPut kvs (.inr r) (.int st)) (some (.str r)) _ (S.set nd (.dic (dPut kvs (.inr r) (.int st)))) (List.getElem?_set_self hnl) (by omega) (hD.put (r := r) (v := .int st))
    refine ⟨kvs', v12', ?_, fun q => ?_, by rw [List.length_cons]; omega⟩
    · rw [List.set_set] at e1
      exact (forL_cons1 q).trans e1
    · rw [e2 q]
      show (if q ∈ us then some (D.int st) else if r = q then some (D.int st) else F q) = if q ∈ r :: us then some (D.int st) else F q
      by_cases h1 : q ∈ us
      · rw [if_pos h1, if_pos (List.mem_cons_of_mem _ h1)]
      · by_cases h2 : r = q
        · rw [if_neg h1, if_pos h2, if_pos (by rw [h2]; exact List.mem_cons_self)]
        · rw [if_neg h1, if_neg h2, if_neg fun z => by
            rcases List.mem_cons.mp z with z | z
            · exact h2 z.symm
            · exact h1 z]
theorem back_none {lv : List Int} {dr : Int} {s : Sl} {rest : List Sl} {z : Int} (h : lastF (dp lv dr s) (z - s.1) = none) : backF lv dr (s :: rest) z = none := by
  show (match lastF (dp lv dr s) (z - s.1) with
    | none => none
    | some r => (backF lv dr rest r).map (· ++ [r])) = _
  rw [h]
theorem back_some {lv : List Int} {dr : Int} {s : Sl} {rest : List Sl} {z r : Int} (h : lastF (dp lv dr s) (z - s.1) = some r) : backF lv dr (s :: rest) z = (backF lv dr rest r).map (· ++ [r]) := by
  show (match lastF (dp lv dr s) (z - s.1) with
    | none => none
    | some r => (backF lv dr rest r).map (· ++ [r])) = _
  rw [h]
theorem d_last0 (hh : fs[i_has_hour]? = some ⟨2, 4, ir_has_hour⟩) (hlh : fs[i_last_hour]? = some ⟨2, 7, ir_last_hour⟩) (hlw : fs[i_last_in_window]? = some ⟨2, 2, ir_last_in_window⟩) (hcl : fs[i_closures_of]? = some ⟨2, 5, ir_closures_of⟩) (hf : fs[f]? = some ⟨3, 6, ir_last_start⟩) {i : Nat} {h : Int} (ok : AqOk a)
    (hL : LeastP (bits (lvls a.td) a.dr (a.ch.getD i (0, 0))) (lpOf (bits (lvls a.td) a.dr (a.ch.getD i (0, 0))))) (h0 : h ≤ 1000000) : den fs (k + 4) f [a.job i, .tup [], .int h] S = .ok (oi (lastF (dp (lvls a.td) a.dr (a.ch.getD i (0, 0))) h)) S := by
  obtain ⟨w1, w2, w3, _⟩ := win_ok ok.lvl.1 hL
  have hp := ok.lvl.2
  obtain ⟨s, g1, g2⟩ := d_last_start (k := k) (S := S) (w := win (lvls a.td) a.dr (a.ch.getD i (0, 0))) (us := use2 (decide (a.m = 1)) i) (os := []) (h := h) (dd := .int (a.ch.getD i (0, 0)).1) (tt := .int (if i = 0 then a.bg else 0)) hh hlh hlw hcl hf w2 (by omega) h0 (by decide) (fun o ho => by cases ho)
  rw [free0, w1] at g2
  rw [g2.eq] at g1
  exact g1
end
end L2.PV

namespace L2.PV
open PySem PySem.Spec PyProof.Rows LamX
/-! L9: the latest schedule, on. -/
/-- the due answer: none, or too early -/
def lateF (bg : Int) (o : Option (List Int)) : Option (List Int) := match o with
  | none => none
  | some l => if l ≠ [] ∧ l.headD 0 < bg then none else some l
section
variable {fs : List Fn} {k f : Nat} {S : Sto} {a : Aq}
theorem lb_loop (hh : fs[i_has_hour]? = some ⟨2, 4, ir_has_hour⟩) (hlh : fs[i_last_hour]? = some ⟨2, 7, ir_last_hour⟩) (hlw : fs[i_last_in_window]? = some ⟨2, 2, ir_last_in_window⟩) (hcl : fs[i_closures_of]? = some ⟨2, 5, ir_closures_of⟩) (hls : fs[i_last_start]? = some ⟨3, 6, ir_last_start⟩)
    (ok : AqOk a) (hL : ∀ s ∈ a.ch, LeastP (bits (lvls a.td) a.dr s) (lpOf (bits (lvls a.td) a.dr s))) {inst : D} {dls : List Int} (hdl : dls.length = a.ch.length) (hdl1 : ∀ i, i + 1 < a.ch.length → a.z ≤ dls.getD i 0) (hdl2 : ∀ i, i + 1 = a.ch.length → dls.getD i 0 = a.z - (a.ch.getD i (0, 0)).1)
    {g : D → En → Sto → R (Fl × En)} (hg : g = fun x e1 S2 => (match asgT (.nm 6) x e1 with
      | some e2 => exSs (den fs (k + 4)) (ir_latest_by.at 3).bd e2 S2
      | none => PV.R.bad)) : ∀ (m : Nat) (t : Int) (acc : List Int) (kvs : List (Key × D)) (v6 v7 v8 v9 v10 v11 v12 v13 : Option D), m + acc.length = a.ch.length → t = acc.headD a.z → t ≤ a.z → (∀ j, j + 1 < acc.length → acc.getD j 0 ≤ acc.getD (j + 1) 0) → (∀ x ∈ acc, x ≤ a.z) →
      (∀ r, dLook kvs (.inr r) = (nextU (decide (a.m = 1)) a.ch.length (a.ch.length - m) r).map fun (j : Nat) => D.int (acc.getD (j - m) 0)) → kvs.length ≤ 3 * (a.ch.length - m) →
      (∃ l e' kvs', backF (lvls a.td) a.dr (a.ch.take m).reverse t = some l ∧ (m = 0 ∨ ¬ l.headD 0 < a.bg) ∧ forL g (rngD ((m : Int) - 1) (-1) m) [some inst, some (.tup (dls.map D.int)), some (.tup a.jobs), some (.tup []), some (.loc S.length), some (.loc (S.length + 1)), v6, v7, v8, v9, v10, v11, v12, v13] (S ++ [.dic kvs, .lst (acc.reverse.map D.int)]) =
        .ok (.nx, e') (S ++ [.dic kvs', .lst ((l ++ acc).reverse.map D.int)]) ∧ e'[5]? = some (some (.loc (S.length + 1)))) ∨
      ((backF (lvls a.td) a.dr (a.ch.take m).reverse t = none ∨ ∃ l, backF (lvls a.td) a.dr (a.ch.take m).reverse t = some l ∧ m ≠ 0 ∧ l.headD 0 < a.bg) ∧ ∃ e' S', forL g (rngD ((m : Int) - 1) (-1) m) [some inst, some (.tup (dls.map D.int)), some (.tup a.jobs), some (.tup []), some (.loc S.length), some (.loc (S.length + 1)), v6, v7, v8, v9, v10, v11, v12, v13] (S ++ [.dic kvs, .lst (acc.reverse.map D.int)]) = .ok (.ret .non, e') S')
  | 0, t, acc, kvs, v6, v7, v8, v9, v10, v11, v12, v13, _, _, _, _, _, _, _ => .inl ⟨[], _, kvs, rfl, .inl rfl, rfl, rfl⟩
  | m + 1, t, acc, kvs, v6, v7, v8, v9, v10, v11, v12, v13, hlen, ht, htz, hmon, hacc, hD, hk => by
    have hlt : m < a.ch.length := by omega
    have h4 := ok.len
    obtain ⟨b1, b2⟩ := ok.at hlt
    have hz1 := ok.z1
    have hget : a.ch.getD m (0, 0) = a.ch[m] := by rw [List.getD_eq_getElem?_getD, List.getElem?_eq_getElem hlt]; rfl
    have htk : (a.ch.take (m + 1)).reverse = a.ch.getD m (0, 0) :: (a.ch.take m).reverse := by rw [List.take_succ, List.getElem?_eq_getElem hlt, hget]; simp
    rw [htk, show (((m + 1 : Nat) : Int) - 1) = m by omega, rngD_down]
    generalize hs : a.ch.getD m (0, 0) = s at *
    have hmem : s ∈ a.ch := by rw [hget]; exact List.getElem_mem hlt
    -- the store
    generalize hS0 : (S ++ [.dic kvs, .lst (acc.reverse.map D.int)] : Sto) = S0
    have hgd : S0[S.length]? = some (.dic kvs) := by rw [← hS0]; exact get_mid
    have hgr : S0[S.length + 1]? = some (.lst (acc.reverse.map D.int)) := by rw [← hS0]; exact get_mid2
    -- the limit
    have hj : a.job m = .tup [usesD (use2 (decide (a.m = 1)) m), .int s.1, Wn (win (lvls a.td) a.dr s), .int (if m = 0 then a.bg else 0)] := by
      unfold Aq.job
      rw [hs]
      rfl
    have hdm : idxF S0 (.tup (dls.map D.int)) (.int (m : Int)) = some (.int (dls.getD m 0)) := by
      refine atI_ok (by omega) ?_
      rw [show ((m : Int)).toNat = m by omega, List.getElem?_map, List.getD_eq_getElem?_getD, List.getElem?_eq_getElem (by omega)]
      rfl
    have hlim : (if a.ch.length - 1 - m = 0 then dls.getD m 0 else acc.getD ((m + 1) - (m + 1)) 0 - s.1) = t - s.1 := by
      by_cases h0 : a.ch.length - 1 - m = 0
      · rw [if_pos h0]
        have hacc0 : acc = [] := List.eq_nil_of_length_eq_zero (by omega)
        have := hdl2 m (by omega)
        rw [hs] at this
        rw [this, ht, hacc0]; rfl
      · rw [if_neg h0, Nat.sub_self, ht]
        cases acc with
        | nil => simp at hlen; omega
        | cons x xs => rfl
    obtain ⟨v12', q2⟩ := lim_loop (S := S0) (Δ := den fs (k + 4)) (nd := S.length) (i := m) (n := a.ch.length) (b := decide (a.m = 1)) (v0 := some inst) (v1 := some (.tup (dls.map D.int))) (v2 := some (.tup a.jobs)) (v3 := some (.tup [])) (v5 := some (.loc (S.length + 1))) (v6 := some (.int (m : Int))) (v7 := some (usesD (use2 (decide (a.m = 1)) m))) (v9 := some (Wn (win (lvls a.td) a.dr s))) (v10 := some (.int (if m = 0 then a.bg else 0))) (v12 := v12) (v13 := v13) (kvs := kvs) (dl := dls.getD m 0) (du := s.1) (st := fun j => acc.getD (j - (m + 1)) 0) rfl hgd (by omega) hlt (fun r => by
        rw [hD r, show a.ch.length - (m + 1) = a.ch.length - 1 - m by omega]) (fun h0 => by
        have e1 := hdl1 m (by omega)
        have e2 : acc.getD ((m + 1) - (m + 1)) 0 = t := by
          rw [Nat.sub_self, ht]
          cases acc with
          | nil => simp at hlen; omega
          | cons x xs => rfl
        show acc.getD ((m + 1) - (m + 1)) 0 - s.1 < _
        rw [e2]; omega) (fun h2 => by
        have e1 := hmon 0 (by omega)
        show acc.getD ((m + 1) - (m + 1)) 0 ≤ acc.getD ((m + 2) - (m + 1)) 0
        rw [Nat.sub_self, show m + 2 - (m + 1) = 1 by omega]
        exact e1)
    rw [hlim] at q2
    have hst := d_last0 (k := k) (S := S0) (a := a) (i := m) (h := t - s.1) hh hlh hlw hcl hls ok (by rw [hs]; exact hL _ hmem) (by omega)
    rw [hs] at hst
    have hjob : ∀ {e : En}, e[2]? = some (some (.tup a.jobs)) → e[6]? = some (some (.int (m : Int))) → evE (den fs (k + 4)) (.idx (.var 2) (.var 6)) e S0 = .ok (a.job m) S0 := fun {e} h1 h5 => ev_idx (ev_var h1) (ev_var h5) (job_at hlt)
    have s0 : exS (den fs (k + 4)) ((ir_latest_by.at 3).bd.at 0) [some inst, some (.tup (dls.map D.int)), some (.tup a.jobs), some (.tup []), some (.loc S.length), some (.loc (S.length + 1)), some (.int (m : Int)), v7, v8, v9, v10, v11, v12, v13] S0 =
        .ok (.nx, [some inst, some (.tup (dls.map D.int)), some (.tup a.jobs), some (.tup []), some (.loc S.length), some (.loc (S.length + 1)), some (.int (m : Int)), some (usesD (use2 (decide (a.m = 1)) m)), some (.int s.1), some (Wn (win (lvls a.td) a.dr s)), some (.int (if m = 0 then a.bg else 0)), v11, v12, v13]) S0 :=
      x_setT (x := a.job m) (hjob rfl rfl) (by rw [hj]; rfl)
    have s1 : exS (den fs (k + 4)) ((ir_latest_by.at 3).bd.at 1) [some inst, some (.tup (dls.map D.int)), some (.tup a.jobs), some (.tup []), some (.loc S.length), some (.loc (S.length + 1)), some (.int (m : Int)), some (usesD (use2 (decide (a.m = 1)) m)), some (.int s.1), some (Wn (win (lvls a.td) a.dr s)), some (.int (if m = 0 then a.bg else 0)), v11, v12, v13] S0 =
        .ok (.nx, [some inst, some (.tup (dls.map D.int)), some (.tup a.jobs), some (.tup []), some (.loc S.length), some (.loc (S.length + 1)), some (.int (m : Int)), some (usesD (use2 (decide (a.m = 1)) m)), some (.int s.1), some (Wn (win (lvls a.td) a.dr s)), some (.int (if m = 0 then a.bg else 0)), some (.int (dls.getD m 0)), v12, v13]) S0 :=
      (x_set (x := .int (dls.getD m 0)) (S1 := S0) (ev_idx (x := .tup (dls.map D.int)) (y := .int (m : Int)) rfl rfl hdm)).trans rfl
    have s3 : exS (den fs (k + 4)) ((ir_latest_by.at 3).bd.at 3) [some inst, some (.tup (dls.map D.int)), some (.tup a.jobs), some (.tup []), some (.loc S.length), some (.loc (S.length + 1)), some (.int (m : Int)), some (usesD (use2 (decide (a.m = 1)) m)), some (.int s.1), some (Wn (win (lvls a.td) a.dr s)), some (.int (if m = 0 then a.bg else 0)), some (.int (t - s.1)), v12', v13] S0 =
        .ok (.nx, [some inst, some (.tup (dls.map D.int)), some (.tup a.jobs), some (.tup []), some (.loc S.length), some (.loc (S.length + 1)), some (.int (m : Int)), some (usesD (use2 (decide (a.m = 1)) m)), some (.int s.1), some (Wn (win (lvls a.td) a.dr s)), some (.int (if m = 0 then a.bg else 0)), some (.int (t - s.1)), v12', some (oi (lastF (dp (lvls a.td) a.dr s) (t - s.1)))]) S0 :=
      (x_set (x := oi (lastF (dp (lvls a.td) a.dr s) (t - s.1))) (S1 := S0) (ev_call (es_cons (hjob rfl rfl) (es_cons (ev_var rfl) (es_cons (ev_var rfl) es_nil))) hst)).trans rfl
    have pre : ∀ {ss : ISs} {e2 : En}, True → exSs (den fs (k + 4)) (ir_latest_by.at 3).bd [some inst, some (.tup (dls.map D.int)), some (.tup a.jobs), some (.tup []), some (.loc S.length), some (.loc (S.length + 1)), some (.int (m : Int)), v7, v8, v9, v10, v11, v12, v13] S0 =
        exSs (den fs (k + 4)) ((ir_latest_by.at 3).bd.tl 4) [some inst, some (.tup (dls.map D.int)), some (.tup a.jobs), some (.tup []), some (.loc S.length), some (.loc (S.length + 1)), some (.int (m : Int)), some (usesD (use2 (decide (a.m = 1)) m)), some (.int s.1), some (Wn (win (lvls a.td) a.dr s)), some (.int (if m = 0 then a.bg else 0)), some (.int (t - s.1)), v12', some (oi (lastF (dp (lvls a.td) a.dr s) (t - s.1)))] S0 := fun {ss e2} _ =>
      (xs_cons s0).trans ((xs_cons s1).trans ((xs_cons ((x_for (ei_seq (x := usesD (use2 (decide (a.m = 1)) m)) (ev_var rfl) rfl) rfl).trans q2)).trans ((xs_cons s3).trans rfl)))
    have stop : ∀ {e2 : En} {S2 : Sto}, g (.int (m : Int)) [some inst, some (.tup (dls.map D.int)), some (.tup a.jobs), some (.tup []), some (.loc S.length), some (.loc (S.length + 1)), v6, v7, v8, v9, v10, v11, v12, v13] S0 = .ok (.ret .non, e2) S2 →
        forL g (.int (m : Int) :: rngD ((m : Int) - 1) (-1) m) [some inst, some (.tup (dls.map D.int)), some (.tup a.jobs), some (.tup []), some (.loc S.length), some (.loc (S.length + 1)), v6, v7, v8, v9, v10, v11, v12, v13] S0 = .ok (.ret .non, e2) S2 := fun {e2 S2} h => by
      show (match g (.int (m : Int)) _ S0 with
          | .ok (.nx, e1) S1 => forL g (rngD ((m : Int) - 1) (-1) m) e1 S1
          | .ok (.cnt, e1) S1 => forL g (rngD ((m : Int) - 1) (-1) m) e1 S1
          | .ok (.brk, e1) S1 => .ok (.nx, e1) S1
          | r => r) = _
      rw [h]
    cases hr : lastF (dp (lvls a.td) a.dr s) (t - s.1) with
    | none =>
      rw [hr] at pre
      have hT0 : evT (den fs (k + 4)) (.or (.cons (.cmp .Is (.var 13) (.cst .non)) (.cons (.cmp .Lt (.var 13) (.var 10)) .nil))) [some inst, some (.tup (dls.map D.int)), some (.tup a.jobs), some (.tup []), some (.loc S.length), some (.loc (S.length + 1)), some (.int (m : Int)), some (usesD (use2 (decide (a.m = 1)) m)), some (.int s.1), some (Wn (win (lvls a.td) a.dr s)), some (.int (if m = 0 then a.bg else 0)), some (.int (t - s.1)), v12', some .non] S0 = .ok true S0 := by
        show evTO _ _ _ _ = _
        exact to_T (et_cmp (x := .non) (y := .non) (S1 := S0) (S2 := S0) rfl rfl rfl)
      refine .inr ⟨.inl (back_none hr), _, S0, stop (e2 := [some inst, some (.tup (dls.map D.int)), some (.tup a.jobs), some (.tup []), some (.loc S.length), some (.loc (S.length + 1)), some (.int (m : Int)), some (usesD (use2 (decide (a.m = 1)) m)), some (.int s.1), some (Wn (win (lvls a.td) a.dr s)), some (.int (if m = 0 then a.bg else 0)), some (.int (t - s.1)), v12', some .non]) ?_⟩
      subst hg
      refine (pre (ss := .nil) (e2 := []) trivial).trans (xs_stop ((x_T hT0).trans (xs_stop (x_ret rfl))))
    | some r =>
      rw [hr] at pre
      obtain ⟨r0, r1, _, _⟩ := lastF_spec hr
      rw [back_some hr]
      have hT : evT (den fs (k + 4)) (.or (.cons (.cmp .Is (.var 13) (.cst .non)) (.cons (.cmp .Lt (.var 13) (.var 10)) .nil))) [some inst, some (.tup (dls.map D.int)), some (.tup a.jobs), some (.tup []), some (.loc S.length), some (.loc (S.length + 1)), some (.int (m : Int)), some (usesD (use2 (decide (a.m = 1)) m)), some (.int s.1), some (Wn (win (lvls a.td) a.dr s)), some (.int (if m = 0 then a.bg else 0)), some (.int (t - s.1)), v12', some (.int r)] S0 = .ok (false || decide (r < if m = 0 then a.bg else 0)) S0 :=
        et_or2 (et_cmp (x := .int r) (y := .non) (S1 := S0) (S2 := S0) rfl rfl rfl) fun _ => et_cmp (x := .int r) (y := .int (if m = 0 then a.bg else 0)) (S1 := S0) (S2 := S0) rfl rfl rfl
      rw [Bool.false_or] at hT
      by_cases hrel : r < if m = 0 then a.bg else 0
      · have hm0 : m = 0 := by
          by_cases z : m = 0
          · exact z
          · rw [if_neg z] at hrel; omega
        rw [if_pos hm0] at hrel
        refine .inr ⟨.inr ⟨[r], ?_, by omega, hrel⟩, _, S0, stop (e2 := [some inst, some (.tup (dls.map D.int)), some (.tup a.jobs), some (.tup []), some (.loc S.length), some (.loc (S.length + 1)), some (.int (m : Int)), some (usesD (use2 (decide (a.m = 1)) m)), some (.int s.1), some (Wn (win (lvls a.td) a.dr s)), some (.int (if m = 0 then a.bg else 0)), some (.int (t - s.1)), v12', some (.int r)]) ?_⟩
        · subst hm0
          rfl
        · subst hg
          refine (pre (ss := .nil) (e2 := []) trivial).trans (xs_stop ((x_T (hT.trans (by rw [if_pos hm0, decide_eq_true hrel]))).trans (xs_stop (x_ret rfl))))
      · obtain ⟨kvs', v12'', w1, w2, w3⟩ := put_loop (Δ := den fs (k + 4)) (nd := S.length) (st := r) (v0 := some inst) (v1 := some (.tup (dls.map D.int))) (v2 := some (.tup a.jobs)) (v3 := some (.tup [])) (v5 := some (.loc (S.length + 1))) (v6 := some (.int (m : Int))) (v7 := some (usesD (use2 (decide (a.m = 1)) m))) (v8 := some (.int s.1)) (v9 := some (Wn (win (lvls a.td) a.dr s))) (v10 := some (.int (if m = 0 then a.bg else 0))) (v11 := some (.int (t - s.1))) rfl (use2 (decide (a.m = 1)) m) kvs v12' _ S0 hgd (by
          have : (use2 (decide (a.m = 1)) m).length ≤ 3 := by unfold use2; split <;> simp
          omega) hD
        have hul : (use2 (decide (a.m = 1)) m).length ≤ 3 := by unfold use2; split <;> simp
        have hS1 : S0.set S.length (.dic kvs') = S ++ [.dic kvs', .lst (acc.reverse.map D.int)] := by rw [← hS0]; exact set_mid
        rw [hS1] at w1
        have st : g (.int (m : Int)) [some inst, some (.tup (dls.map D.int)), some (.tup a.jobs), some (.tup []), some (.loc S.length), some (.loc (S.length + 1)), v6, v7, v8, v9, v10, v11, v12, v13] S0 = .ok (.nx, [some inst, some (.tup (dls.map D.int)), some (.tup a.jobs), some (.tup []), some (.loc S.length), some (.loc (S.length + 1)), some (.int (m : Int)), some (usesD (use2 (decide (a.m = 1)) m)), some (.int s.1), some (Wn (win (lvls a.td) a.dr s)), some (.int (if m = 0 then a.bg else 0)), some (.int (t - s.1)), v12'', some (.int r)]) (S ++ [.dic kvs', .lst ((r :: acc).reverse.map D.int)]) := by
          subst hg
          refine (pre (ss := .nil) (e2 := []) trivial).trans ((xs_cons ((x_F (hT.trans (by rw [decide_eq_false hrel]))).trans rfl)).trans ((xs_cons ((x_for (ei_seq (x := usesD (use2 (decide (a.m = 1)) m)) (ev_var rfl) rfl) rfl).trans w1)).trans ((xs_cons (x_ex (x := .non) (S1 := S ++ [.dic kvs', .lst ((r :: acc).reverse.map D.int)]) (ev_met (x := .loc (S.length + 1)) (S1 := S ++ [.dic kvs', .lst (acc.reverse.map D.int)]) (S2 := S ++ [.dic kvs', .lst (acc.reverse.map D.int)]) (ds := [.int r]) (ev_var rfl) ?_ (es_cons (ev_var rfl) es_nil) ?_))).trans rfl)))
          · show isLst (S ++ [.dic kvs', .lst (acc.reverse.map D.int)]) (.loc (S.length + 1)) = true
            unfold isLst
            simp only [get_mid2]
          · show (match (S ++ [Cell.dic kvs', Cell.lst (acc.reverse.map D.int)] : Sto)[S.length + 1]? with
              | some (.lst xs) => if xs.length < 16777216 then PV.R.ok D.non ((S ++ [Cell.dic kvs', Cell.lst (acc.reverse.map D.int)]).set (S.length + 1) (.lst (xs ++ [D.int r]))) else .bad
              | _ => .bad) = _
            simp only [get_mid2]
            rw [if_pos (by rw [List.length_map, List.length_reverse]; omega), set_mid2, List.reverse_cons, List.map_append]
            rfl
        rw [forL_cons1 st]
        have hra : ∀ x, x ∈ acc → r ≤ acc.headD a.z := fun x _ => by rw [← ht]; omega
        rcases lb_loop hh hlh hlw hcl hls ok hL hdl hdl1 hdl2 hg m r (r :: acc) kvs' (some (.int (m : Int))) (some (usesD (use2 (decide (a.m = 1)) m))) (some (.int s.1)) (some (Wn (win (lvls a.td) a.dr s))) (some (.int (if m = 0 then a.bg else 0))) (some (.int (t - s.1))) v12'' (some (.int r)) (by rw [List.length_cons]; omega) rfl (by omega) (fun j hj => by
            cases j with
            | zero =>
              cases acc with
              | nil => simp at hj
              | cons x xs =>
                show r ≤ x
                have e : t = x := ht
                omega
            | succ j => exact hmon j (by simpa using hj)) (fun x hx => by
            rcases List.mem_cons.mp hx with e | hx
            · rw [e]; omega
            · exact hacc x hx) (fun q => by
            rw [w2 q, show a.ch.length - m = (a.ch.length - (m + 1)) + 1 by omega]
            show (if q ∈ use2 (decide (a.m = 1)) m then some (D.int r) else (nextU (decide (a.m = 1)) a.ch.length (a.ch.length - (m + 1)) q).map fun (j : Nat) => D.int (acc.getD (j - (m + 1)) 0)) = (if q ∈ use2 (decide (a.m = 1)) (a.ch.length - ((a.ch.length - (m + 1)) + 1)) then some (a.ch.length - ((a.ch.length - (m + 1)) + 1)) else nextU (decide (a.m = 1)) a.ch.length (a.ch.length - (m + 1)) q).map fun (j : Nat) => D.int ((r :: acc).getD (j - m) 0)
            rw [show a.ch.length - ((a.ch.length - (m + 1)) + 1) = m by omega]
            by_cases hq : q ∈ use2 (decide (a.m = 1)) m
            · rw [if_pos hq, if_pos hq]
              show some (D.int r) = some (D.int ((r :: acc).getD (m - m) 0))
              rw [Nat.sub_self]; rfl
            · rw [if_neg hq, if_neg hq]
              have key : ∀ (b : Bool) (n c : Nat) (q : Str) (j : Nat), nextU b n c q = some j → n - c ≤ j ∧ (c ≤ n → j < n ∨ c = 0) := by
                intro b n c
                induction c with
                | zero => intro q j h; cases h
                | succ c ih =>
                  intro q j h
                  replace h : (if q ∈ use2 b (n - (c + 1)) then some (n - (c + 1)) else nextU b n c q) = some j := h
                  by_cases hq : q ∈ use2 b (n - (c + 1))
                  · rw [if_pos hq] at h; cases h; exact ⟨Nat.le_refl _, fun _ => by omega⟩
                  · rw [if_neg hq] at h
                    obtain ⟨h1, h2⟩ := ih q j h
                    refine ⟨by omega, fun hc => ?_⟩
                    rcases h2 (by omega) with h2 | h2
                    · exact .inl h2
                    · subst h2; cases h
              cases hn : nextU (decide (a.m = 1)) a.ch.length (a.ch.length - (m + 1)) q with
              | none => rfl
              | some j =>
                obtain ⟨h1, _⟩ := key _ _ _ _ _ hn
                show some (D.int (acc.getD (j - (m + 1)) 0)) = some (D.int ((r :: acc).getD (j - m) 0))
                rw [show j - m = (j - (m + 1)) + 1 by omega]
                rfl) (by omega) with ⟨l, e', kv2, g1, g2, g3, g4⟩ | ⟨g1, e', S2, g3⟩
        · refine .inl ⟨l ++ [r], e', kv2, by rw [g1]; rfl, .inr ?_, ?_, g4⟩
          · rcases g2 with z | z
            · subst z
              cases (show some [] = some l from g1)
              rw [if_pos rfl] at hrel
              exact hrel
            · cases l with
              | nil =>
                have := (back_len _ _ _ g1).1
                rw [List.length_reverse, List.length_take] at this
                have hm0 : m = 0 := by simp at this; omega
                rw [if_pos hm0] at hrel
                exact hrel
              | cons x xs => exact z
          · rw [g3, List.append_assoc]
            rfl
        · refine .inr ⟨?_, e', S2, g3⟩
          rcases g1 with g1 | ⟨l, g1, g2, g5⟩
          · exact .inl (by rw [g1]; rfl)
          · refine .inr ⟨l ++ [r], by rw [g1]; rfl, by omega, ?_⟩
            cases l with
            | nil =>
              have := (back_len _ _ _ g1).1
              rw [List.length_reverse, List.length_take] at this
              exact absurd (by simp at this; omega) g2
            | cons x xs => exact g5
end
end L2.PV

namespace L2.PV
open PySem PySem.Spec PyProof.Rows LamX
/-! L10: the latest schedule, whole; small rules. -/
section
variable {fs : List Fn} {k f : Nat} {S : Sto} {a : Aq}
theorem late_some {bg : Int} {l : List Int} (h : ¬ (l ≠ [] ∧ l.headD 0 < bg)) : lateF bg (some l) = some l := if_neg h
theorem late_none {bg : Int} {l : List Int} (h : l ≠ [] ∧ l.headD 0 < bg) : lateF bg (some l) = none := if_pos h
theorem d_latest_by (hh : fs[i_has_hour]? = some ⟨2, 4, ir_has_hour⟩) (hlh : fs[i_last_hour]? = some ⟨2, 7, ir_last_hour⟩) (hlw : fs[i_last_in_window]? = some ⟨2, 2, ir_last_in_window⟩) (hcl : fs[i_closures_of]? = some ⟨2, 5, ir_closures_of⟩) (hls : fs[i_last_start]? = some ⟨3, 6, ir_last_start⟩) (hf : fs[f]? = some ⟨2, 14, ir_latest_by⟩)
    (ok : AqOk a) (hL : ∀ s ∈ a.ch, LeastP (bits (lvls a.td) a.dr s) (lpOf (bits (lvls a.td) a.dr s))) {dls : List Int} (hdl : dls.length = a.ch.length) (hdl1 : ∀ i, i + 1 < a.ch.length → a.z ≤ dls.getD i 0) (hdl2 : ∀ i, i + 1 = a.ch.length → dls.getD i 0 = a.z - (a.ch.getD i (0, 0)).1) :
    ∃ S' : Sto, den fs (k + 5) f [.tup [.tup a.jobs, .tup []], .tup (dls.map D.int)] S = .ok (oT (lateF a.bg (backF (lvls a.td) a.dr a.ch.reverse a.z))) S' := by
  rw [den_at hf]
  have h4 := ok.len
  generalize hin : D.tup [.tup a.jobs, .tup []] = inst
  have t0 : exS (den fs (k + 4)) (ir_latest_by.at 0) [some inst, some (.tup (dls.map D.int)), none, none, none, none, none, none, none, none, none, none, none, none] S = .ok (.nx, [some inst, some (.tup (dls.map D.int)), some (.tup a.jobs), some (.tup []), none, none, none, none, none, none, none, none, none, none]) S := by
    rw [← hin]
    exact x_setT (x := .tup [.tup a.jobs, .tup []]) rfl rfl
  have t1 : exS (den fs (k + 4)) (ir_latest_by.at 1) [some inst, some (.tup (dls.map D.int)), some (.tup a.jobs), some (.tup []), none, none, none, none, none, none, none, none, none, none] S = .ok (.nx, [some inst, some (.tup (dls.map D.int)), some (.tup a.jobs), some (.tup []), some (.loc S.length), none, none, none, none, none, none, none, none, none]) (S ++ [.dic []]) := rfl
  have t2 : exS (den fs (k + 4)) (ir_latest_by.at 2) [some inst, some (.tup (dls.map D.int)), some (.tup a.jobs), some (.tup []), some (.loc S.length), none, none, none, none, none, none, none, none, none] (S ++ [.dic []]) = .ok (.nx, [some inst, some (.tup (dls.map D.int)), some (.tup a.jobs), some (.tup []), some (.loc S.length), some (.loc (S.length + 1)), none, none, none, none, none, none, none, none]) (S ++ [.dic [], .lst []]) := by
    show PV.R.ok (Fl.nx, [some inst, some (.tup (dls.map D.int)), some (.tup a.jobs), some (.tup []), some (.loc S.length), some (.loc (S ++ [Cell.dic []]).length), none, none, none, none, none, none, none, none]) (S ++ [.dic []] ++ [.lst []]) = _
    rw [List.length_append, List.append_assoc]
    rfl
  have hit : evI (den fs (k + 4)) (.rng3 (.bin .Sub (.blt .len false (.cons (.var 2) .nil)) (.cst (.int 1))) (.neg (.cst (.int 1))) (.neg (.cst (.int 1)))) [some inst, some (.tup (dls.map D.int)), some (.tup a.jobs), some (.tup []), some (.loc S.length), some (.loc (S.length + 1)), none, none, none, none, none, none, none, none] (S ++ [.dic [], .lst []]) = .ok (rngD ((a.ch.length : Int) - 1) (-1) a.ch.length) (S ++ [.dic [], .lst []]) := by
    refine (ei_rng3 (i := (a.ch.length : Int) - 1) (j := -1) (S1 := S ++ [.dic [], .lst []]) (S2 := S ++ [.dic [], .lst []]) (S3 := S ++ [.dic [], .lst []]) (ev_bin (x := .int a.ch.length) (y := .int 1) (ev_blt (es_cons (x := .tup a.jobs) rfl es_nil) ?_) rfl rfl) rfl rfl (by omega)).trans ?_
    · show PV.R.ok (D.int a.jobs.length) _ = _
      unfold Aq.jobs
      rw [List.length_map, List.length_range]
    · rw [show ((a.ch.length : Int) - 1 - -1).toNat = a.ch.length by omega]
  have htk : a.ch.take a.ch.length = a.ch := List.take_length
  rcases lb_loop (k := k) (S := S) (inst := inst) hh hlh hlw hcl hls ok hL hdl hdl1 hdl2 rfl a.ch.length a.z [] [] none none none none none none none none rfl rfl (Int.le_refl _) (fun j hj => by simp at hj) (fun x hx => by cases hx) (fun r => by rw [Nat.sub_self]; rfl) (by simp) with ⟨l, e', kv2, g1, g2, g3, g4⟩ | ⟨g1, e', S2, g3⟩
  · rw [htk] at g1
    rw [g1]
    have hno : ¬ (l ≠ [] ∧ l.headD 0 < a.bg) := fun ⟨h1, h2⟩ => by
      rcases g2 with z | z
      · have := (back_len _ _ _ g1).1
        rw [List.length_reverse, z] at this
        exact h1 (List.eq_nil_of_length_eq_zero this)
      · exact z h2
    rw [late_some hno]
    rw [List.append_nil] at g3
    have t5 : evE (den fs (k + 4)) (.rev (.var 5)) e' (S ++ [.dic kv2, .lst (l.reverse.map D.int)]) = .ok (.lst (l.map D.int)) (S ++ [.dic kv2, .lst (l.reverse.map D.int)]) := by
      show (evE (den fs (k + 4)) (.var 5) e' _).bind _ = _
      rw [ev_var g4]
      show PV.R.of (revF _ (.loc (S.length + 1))) _ = _
      have : revF (S ++ [.dic kv2, .lst (l.reverse.map D.int)]) (.loc (S.length + 1)) = some (.lst (l.map D.int)) := by
        unfold revF rd
        simp only [get_mid2]
        rw [← List.map_reverse, List.reverse_reverse]
      rw [this]
      rfl
    exact ⟨_, Ret.run rfl (ret_cons t0 (ret_cons t1 (ret_cons t2 (ret_cons ((x_for hit rfl).trans g3) (ret_ret (ev_blt (es_cons t5 es_nil) rfl))))))⟩
  · rw [htk] at g1
    have hn : lateF a.bg (backF (lvls a.td) a.dr a.ch.reverse a.z) = none := by
      rcases g1 with g1 | ⟨l, g1, g2, g5⟩
      · rw [g1]; rfl
      · rw [g1]
        refine late_none ⟨fun z => ?_, g5⟩
        have := (back_len _ _ _ g1).1
        rw [z, List.length_reverse] at this
        exact g2 this.symm
    rw [hn]
    exact ⟨S2, Ret.run rfl (ret_cons t0 (ret_cons t1 (ret_cons t2 ⟨e', xs_stop ((x_for hit rfl).trans g3)⟩)))⟩
theorem cut_last {α : Type} (l : List α) : cutD l none (some (-1)) = l.dropLast := by
  unfold cutD
  rw [HT.sIx_none]
  show (l.drop 0).take (((-1 : Int) + (l.length : Int)).toNat - 0) = _
  rw [List.drop_zero, Nat.sub_zero, List.dropLast_eq_take, show ((-1 : Int) + (l.length : Int)).toNat = l.length - 1 by omega]
theorem cut_from {α : Type} (l : List α) : cutD l (some (-1)) none = l.drop (l.length - 1) := by
  unfold cutD
  rw [HT.sIx_none]
  show (l.drop ((-1 : Int) + (l.length : Int)).toNat).take (l.length - ((-1 : Int) + (l.length : Int)).toNat) = _
  rw [show ((-1 : Int) + (l.length : Int)).toNat = l.length - 1 by omega, List.take_of_length_le (by rw [List.length_drop]; omega)]
theorem trans_open {lv : List Int} {dr : Int} : ∀ (ch : List Sl) (t : Int) (l : List Int), transF lv dr ch t = some l → ∀ s ∈ ch, OpenS lv dr s
  | [], t, l, _ => fun s h => by cases h
  | c :: ch, t, l, h => fun s hs => by
    obtain ⟨r, l', e1, e2, _⟩ := trans_cons h
    rcases List.mem_cons.mp hs with e | hs
    · subst e
      exact ⟨r, (firstF_spec e1).2.1⟩
    · exact trans_open ch _ l' e2 s hs
theorem same_T (hs : fs[i_law_same]? = some ⟨2, 3, ir_law_same⟩) {o : Option (List Int)} (ho : ∀ l, o = some l → l.length ≤ 1000) : den fs (k + 2) i_law_same [oT o, oT o] S = .ok (.bl true) S := by
  cases o with
  | none => exact d_same0 hs (.inr (.inr (.inl rfl)))
  | some l => exact d_same1 hs (fun x hx => by
      obtain ⟨i, _, rfl⟩ := List.mem_map.mp hx
      exact .inl ⟨i, rfl⟩) (by rw [List.length_map]; have := ho l rfl; omega)
theorem same_I (hs : fs[i_law_same]? = some ⟨2, 3, ir_law_same⟩) {o : Option Int} : den fs (k + 1) i_law_same [oi o, oi o] S = .ok (.bl true) S := by
  cases o with
  | none => exact d_same0 hs (.inr (.inr (.inl rfl)))
  | some l => exact d_same0 hs (.inl ⟨l, rfl⟩)
theorem late_len {bg : Int} {o : Option (List Int)} {n : Nat} (h : ∀ l, o = some l → l.length ≤ n) : ∀ l, lateF bg o = some l → l.length ≤ n := fun l e => by
  cases o with
  | none => cases e
  | some l' =>
    replace e : (if l' ≠ [] ∧ l'.headD 0 < bg then none else some l') = some l := e
    split at e
    · cases e
    · cases e; exact h l rfl
end
end L2.PV

namespace L2.PV
open PySem PySem.Spec PyProof.Rows LamX
/-! L11: the doors. -/
section
variable {g : List Fn} {k : Nat} {S : Sto} {a : Aq}
theorem oT_non {o : Option (List Int)} : (oT o).isNon = o.isNone := by cases o <;> rfl
theorem d_looked (hg : IsT g) (ok : AqOk a) {door : Nat} : ∃ S' : Sto, den g (k + 7) i_law_looked [.int (door : Int), lvD (lvls a.td), a.enc] S = .ok (.bl true) S' := by
  have hl := ok.lvl
  have h4 := ok.len
  have hc1 : ∀ s ∈ a.ch, 0 ≤ s.1 ∧ s.1 ≤ 1000 := fun s hs => by have := ok.ch s hs; omega
  have hz0 := ok.z0
  have hz1 := ok.z1
  have hb0 := ok.b0
  have hb1 := ok.b1
  have hp := ok.td.1
  have hper : per a.td ≤ 240 := by have := ok.td.2; omega
  have hL : ∀ s ∈ a.ch, LeastP (bits (lvls a.td) a.dr s) (lpOf (bits (lvls a.td) a.dr s)) := fun s _ =>
    (d_deep2 (k := 0) (S := []) (lv := lvls a.td) (dr := a.dr) (s := s) hg.law_a_least hg.law_a_in hg.law_a_canonical hg.law_a_deep hl.1 (by omega)).2
  have hlen : ∀ l, backF (lvls a.td) a.dr a.ch.reverse a.z = some l → l.length ≤ 1000 := fun l e => by
    have := (back_len _ _ _ e).1
    rw [List.length_reverse] at this
    omega
  obtain ⟨c, hback⟩ := d_back (k := k + 5) (S := S) (lv := lvls a.td) (dr := a.dr) (ch := a.ch) hg.law_a_back hl.1 (by omega) hc1 (by omega) hz0 (by omega)
  rw [den_at hg.law_looked]
  generalize hS1 : S ++ [c] = S1 at hback
  generalize hB : backF (lvls a.td) a.dr a.ch.reverse a.z = B at hback
  have s0 : exS (den g (k + 6)) (ir_law_looked.at 0) [some (.int (door : Int)), some (lvD (lvls a.td)), some a.enc, none, none, none, none, none, none] S = .ok (.nx, [some (.int (door : Int)), some (lvD (lvls a.td)), some a.enc, some (chD a.ch), none, none, none, none, none]) S := rfl
  have s1 : exS (den g (k + 6)) (ir_law_looked.at 1) [some (.int (door : Int)), some (lvD (lvls a.td)), some a.enc, some (chD a.ch), none, none, none, none, none] S = .ok (.nx, [some (.int (door : Int)), some (lvD (lvls a.td)), some a.enc, some (chD a.ch), some (oT B), none, none, none, none]) S1 :=
    (x_set (x := oT B) (S1 := S1) (ev_call (es_cons (ev_var rfl) (es_cons (ev_var rfl) (es_cons (x := .int a.dr) (S1 := S) rfl (es_cons (x := .int a.z) (S1 := S) rfl es_nil)))) hback)).trans rfl
  have door0 : evT (den g (k + 6)) (.cmp .Eq (.var 0) (.cst (.int 0))) [some (.int (door : Int)), some (lvD (lvls a.td)), some a.enc, some (chD a.ch), some (oT B), none, none, none, none] S1 = .ok (decide ((door : Int) = 0)) S1 := et_cmp (x := .int (door : Int)) (y := .int 0) (S1 := S1) (S2 := S1) rfl rfl rfl
  have llen : ∀ {l : List Int} {S : Sto} {e : En}, e[4]? = some (some (.tup (l.map D.int))) → evT (den g (k + 6)) (.cmp .Gt (.blt .len false (.cons (.var 4) .nil)) (.cst (.int 0))) e S = .ok (decide (l ≠ [])) S := fun {l S e} h => by
    refine et_cmp (x := .int l.length) (y := .int 0) (S1 := S) (S2 := S) (ev_blt (es_cons (ev_var h) es_nil) ?_) rfl ?_
    · show PV.R.ok (D.int (l.map D.int).length) S = _
      rw [List.length_map]
    · show some (decide ((0 : Int) < l.length)) = _
      refine congrArg some ?_
      cases l with
      | nil => rfl
      | cons x l => rw [decide_eq_true (by simp only [List.length_cons]; omega), decide_eq_true (by simp)]
  by_cases hd0 : (door : Int) = 0
  · -- the latest departure
    have hlat := d_latest (k := k + 2) (S := S1) (td := a.td) (dr := a.dr) (ch := a.ch) (z := a.z) hg.period_of hg.level_at hg.levels_at hg.period_levels hg.rows_of_depths hg.last_passable hg.latest_departure hp hper hc1 (by omega) hz0 (by omega)
    rw [dep_back, hB] at hlat
    have fin : ∀ {v5 v7 v8 : Option D}, Ret (exSs (den g (k + 6)) ((ir_law_looked.at 2).thn.tl 2) [some (.int (door : Int)), some (lvD (lvls a.td)), some a.enc, some (chD a.ch), some (oT B), v5, some (oi (B.map fun l => l.headD a.z)), v7, v8] S1) (.bl true) S1 := fun {v5 v7 v8} =>
      ret_ret (ev_call (es_cons (ev_call (es_cons (x := tideD a.td) (S1 := S1) rfl (es_cons (ev_var rfl) (es_cons (x := .int a.dr) (S1 := S1) rfl (es_cons (x := .int a.z) (S1 := S1) rfl es_nil)))) hlat) (es_cons (ev_var rfl) es_nil)) (same_I hg.law_same))
    refine ⟨S1, Ret.run rfl (ret_cons s0 (ret_cons s1 (ret_T (door0.trans (by rw [decide_eq_true hd0])) (ret_cons (x_set (x := .non) (S1 := S1) rfl) ?_))))⟩
    cases B with
    | none =>
      exact ret_F0 (S1 := S1) (et_cmp (x := .non) (y := .non) (S1 := S1) (S2 := S1) rfl rfl rfl) fin
    | some l =>
      refine ret_cons ((x_T (S1 := S1) (et_cmp (x := .tup (l.map D.int)) (y := .non) (S1 := S1) (S2 := S1) rfl rfl rfl)).trans ((xs_cons (x_set (x := .int (l.headD a.z)) (S1 := S1) (ev_ife (p := decide (l ≠ [])) (S1 := S1) (llen rfl) ?_))).trans rfl)) fin
      cases l with
      | nil => rw [if_neg (by simp)]; rfl
      | cons x l =>
        rw [if_pos (by simp)]
        exact ev_idx (x := .tup ((x :: l).map D.int)) (y := .int 0) (S1 := S1) (S2 := S1) rfl rfl (atI_ok (by decide) rfl)
  · have hx0 := ret_F0 (rest := (ir_law_looked.tl 3)) (A := (ir_law_looked.at 2).thn) (d := .bl true) (S2 := S1) (door0.trans (by rw [decide_eq_false hd0]))
    obtain ⟨c2, htr⟩ := d_transit (k := k + 5) (S := S1) (lv := lvls a.td) (dr := a.dr) (ch := a.ch) (z := 0) hg.law_a_transit hl.1 (by omega) hc1 (by omega) (by omega) (by omega)
    generalize hS2 : S1 ++ [c2] = S2 at htr
    have hT : evT (den g (k + 6)) (.cmp .Is (.call i_law_a_transit (.cons (.var 1) (.cons (.var 3) (.cons (.idx (.var 2) (.cst (.int 2))) (.cons (.cst (.int 0)) .nil)))) []) (.cst .non)) [some (.int (door : Int)), some (lvD (lvls a.td)), some a.enc, some (chD a.ch), some (oT B), none, none, none, none] S1 = .ok (transF (lvls a.td) a.dr a.ch 0).isNone S2 := by
      refine et_cmp (x := oT (transF (lvls a.td) a.dr a.ch 0)) (y := .non) (S1 := S2) (S2 := S2) (ev_call (es_cons (ev_var rfl) (es_cons (ev_var rfl) (es_cons (x := .int a.dr) (S1 := S1) rfl (es_cons (x := .int 0) (S1 := S1) rfl es_nil)))) htr) rfl ?_
      show some (oT (transF (lvls a.td) a.dr a.ch 0)).isNon = _
      rw [oT_non]
    cases htn : transF (lvls a.td) a.dr a.ch 0 with
    | none =>
      rw [htn] at hT
      obtain ⟨i, hbl⟩ := d_blocking (k := k + 1) (S := S2) (td := a.td) (dr := a.dr) (ch := a.ch) hg.period_of hg.level_at hg.levels_at hg.period_levels hg.extremes_of hg.blocking_sill hp hper (trans_none hl.1 htn)
      refine ⟨S2, Ret.run rfl (ret_cons s0 (ret_cons s1 (ret_F0 (door0.trans (by rw [decide_eq_false hd0])) (ret_T hT (ret_ret (ev_cmp (x := .int i) (y := .non) (S1 := S2) (S2 := S2) (ev_call (es_cons (x := tideD a.td) (S1 := S2) rfl (es_cons (ev_var rfl) (es_cons (x := .int a.dr) (S1 := S2) rfl es_nil))) hbl) rfl rfl))))))⟩
    | some tl =>
      rw [htn] at hT
      have ho := trans_open _ _ _ htn
      have hins := d_instance (k := k + 2) (S := S2) (a := a) hg.law_a_least hg.law_a_in hg.law_a_canonical hg.law_a_deep hg.law_instance hl.1 (by omega) h4
      generalize hS3 : S2 ++ [.lst a.jobs] = S3 at hins
      have s4 : exS (den g (k + 6)) (ir_law_looked.at 4) [some (.int (door : Int)), some (lvD (lvls a.td)), some a.enc, some (chD a.ch), some (oT B), none, none, none, none] S2 = .ok (.nx, [some (.int (door : Int)), some (lvD (lvls a.td)), some a.enc, some (chD a.ch), some (oT B), some (.tup [.tup a.jobs, .tup []]), none, none, none]) S3 :=
        (x_set (x := .tup [.tup a.jobs, .tup []]) (S1 := S3) (ev_call (es_cons (ev_var rfl) (es_cons (ev_var rfl) es_nil)) hins)).trans rfl
      have door1 : evT (den g (k + 6)) (.cmp .Eq (.var 0) (.cst (.int 1))) [some (.int (door : Int)), some (lvD (lvls a.td)), some a.enc, some (chD a.ch), some (oT B), some (.tup [.tup a.jobs, .tup []]), none, none, none] S3 = .ok (decide ((door : Int) = 1)) S3 := et_cmp (x := .int (door : Int)) (y := .int 1) (S1 := S3) (S2 := S3) rfl rfl rfl
      suffices hrest : ∃ S' : Sto, Ret (exSs (den g (k + 6)) (ir_law_looked.tl 5) [some (.int (door : Int)), some (lvD (lvls a.td)), some a.enc, some (chD a.ch), some (oT B), some (.tup [.tup a.jobs, .tup []]), none, none, none] S3) (.bl true) S' by
        obtain ⟨S', hrest⟩ := hrest
        exact ⟨S', Ret.run rfl (ret_cons s0 (ret_cons s1 (ret_F0 (door0.trans (by rw [decide_eq_false hd0])) (ret_F0 hT (ret_cons s4 hrest)))))⟩
      by_cases hd1 : (door : Int) = 1
      · obtain ⟨S4, hea⟩ := d_earliest (k := k + 2) (S := S3) (a := a) hg.next_hour hg.closures_of hg.first_start hg.later_bound hg.timeline hg.earliest ok hL ho
        obtain ⟨c5, htr2⟩ := d_transit (k := k + 5) (S := S4) (lv := lvls a.td) (dr := a.dr) (ch := a.ch) (z := a.bg) hg.law_a_transit hl.1 (by omega) hc1 (by omega) hb0 (by omega)
        refine ⟨S4 ++ [c5], ret_T (door1.trans (by rw [decide_eq_true hd1])) (ret_ret (ev_call (es_cons (ev_call (es_cons (ev_var rfl) es_nil) hea) (es_cons (ev_call (es_cons (ev_var rfl) (es_cons (ev_var rfl) (es_cons (x := .int a.dr) (S1 := S4) rfl (es_cons (x := .int a.bg) (S1 := S4) rfl es_nil)))) htr2) es_nil)) (same_T hg.law_same fun l e => ?_)))⟩
        rw [trans_len _ _ _ e]; omega
      · -- the latest schedule
        suffices hrest : ∃ S' : Sto, Ret (exSs (den g (k + 6)) (ir_law_looked.tl 6) [some (.int (door : Int)), some (lvD (lvls a.td)), some a.enc, some (chD a.ch), some (oT B), some (.tup [.tup a.jobs, .tup []]), none, none, none] S3) (.bl true) S' by
          obtain ⟨S', hrest⟩ := hrest
          exact ⟨S', ret_F0 (door1.trans (by rw [decide_eq_false hd1])) hrest⟩
        have hclen : ∀ {e : En} {S : Sto}, e[3]? = some (some (chD a.ch)) → evT (den g (k + 6)) (.cmp .Gt (.blt .len false (.cons (.var 3) .nil)) (.cst (.int 0))) e S = .ok (decide (a.ch ≠ [])) S := fun {e S} h => by
          refine et_cmp (x := .int a.ch.length) (y := .int 0) (S1 := S) (S2 := S) (ev_blt (es_cons (ev_var h) es_nil) ?_) rfl ?_
          · show PV.R.ok (D.int (a.ch.map slD).length) S = _
            rw [List.length_map]
          · show some (decide ((0 : Int) < a.ch.length)) = _
            refine congrArg some ?_
            cases a.ch with
            | nil => rfl
            | cons x l => rw [decide_eq_true (by simp only [List.length_cons]; omega), decide_eq_true (by simp)]
        -- the last sill
        have hlast : ∀ {p : List Sl} {s : Sl}, a.ch = p ++ [s] → ∀ {e : En} {S : Sto}, e[2]? = some (some a.enc) → e[3]? = some (some (chD a.ch)) → evT (den g (k + 6)) (.cmp .Lt (.idx (.var 2) (.cst (.int 3))) (.idx (.idx (.var 3) (.neg (.cst (.int 1)))) (.cst (.int 0)))) e S = .ok (decide (a.z < s.1)) S := fun {p s} hps {e S} h2 h3 => by
          refine et_cmp (x := .int a.z) (y := .int s.1) (S1 := S) (S2 := S) (ev_idx (x := a.enc) (y := .int 3) (S1 := S) (S2 := S) (ev_var h2) rfl rfl) (ev_idx (x := slD s) (y := .int 0) (S1 := S) (S2 := S) (ev_idx (x := chD a.ch) (y := .int (-1)) (S1 := S) (S2 := S) (ev_var h3) rfl ?_) rfl rfl) rfl
          show atI (a.ch.map slD) (-1) = _
          rw [hps, List.map_append]
          exact atI_last _ _
        have hsplit : a.ch ≠ [] → ∃ (p : List Sl) (s : Sl), a.ch = p ++ [s] := fun h => ⟨a.ch.dropLast, a.ch.getLast h, (List.dropLast_concat_getLast h).symm⟩
        by_cases hearly : ∃ (p : List Sl) (s : Sl), a.ch = p ++ [s] ∧ a.z < s.1
        · obtain ⟨p, s, hps, hzs⟩ := hearly
          have hne : a.ch ≠ [] := by rw [hps]; simp
          have hBn : B = none := by
            rw [← hB, hps, List.reverse_append]
            exact back_none (lastF_none fun t h1 h2 => by omega)
          refine ⟨S3, ret_T (S1 := S3) ((et_and2 (p := true) (q := true) ((hclen rfl).trans (by rw [decide_eq_true hne])) fun _ => (hlast hps rfl rfl).trans (by rw [decide_eq_true hzs])).trans rfl) (ret_ret (ev_cmp (x := oT B) (y := .non) (S1 := S3) (S2 := S3) rfl rfl ?_))⟩
          rw [hBn]
          rfl
        · have hT6 : evT (den g (k + 6)) (.and (.cons (.cmp .Gt (.blt .len false (.cons (.var 3) .nil)) (.cst (.int 0))) (.cons (.cmp .Lt (.idx (.var 2) (.cst (.int 3))) (.idx (.idx (.var 3) (.neg (.cst (.int 1)))) (.cst (.int 0)))) .nil))) [some (.int (door : Int)), some (lvD (lvls a.td)), some a.enc, some (chD a.ch), some (oT B), some (.tup [.tup a.jobs, .tup []]), none, none, none] S3 = .ok false S3 := by
            by_cases hne : a.ch = []
            · exact (et_and2 (p := false) (q := false) ((hclen rfl).trans (by rw [decide_eq_false (by rw [hne]; simp)])) fun z => absurd z Bool.false_ne_true).trans rfl
            · obtain ⟨p, s, hps⟩ := hsplit hne
              refine (et_and2 (p := true) (q := false) ((hclen rfl).trans (by rw [decide_eq_true hne])) fun _ => (hlast hps rfl rfl).trans (by rw [decide_eq_false fun z => hearly ⟨p, s, hps, z⟩])).trans rfl
          -- what is due
          have s8 : exS (den g (k + 6)) (ir_law_looked.at 8) [some (.int (door : Int)), some (lvD (lvls a.td)), some a.enc, some (chD a.ch), some (oT B), some (.tup [.tup a.jobs, .tup []]), some (oT B), none, none] S3 = .ok (.nx, [some (.int (door : Int)), some (lvD (lvls a.td)), some a.enc, some (chD a.ch), some (oT B), some (.tup [.tup a.jobs, .tup []]), some (oT (lateF a.bg B)), none, none]) S3 := by
            cases B with
            | none =>
              refine (x_F (S1 := S3) ?_).trans rfl
              show evTA _ _ _ _ = _
              exact ta_F (et_cmp (x := .non) (y := .non) (S1 := S3) (S2 := S3) rfl rfl rfl)
            | some l =>
              have c1 : evT (den g (k + 6)) (.cmp .IsNot (.var 4) (.cst .non)) [some (.int (door : Int)), some (lvD (lvls a.td)), some a.enc, some (chD a.ch), some (oT (some l)), some (.tup [.tup a.jobs, .tup []]), some (oT (some l)), none, none] S3 = .ok true S3 := et_cmp (x := .tup (l.map D.int)) (y := .non) (S1 := S3) (S2 := S3) rfl rfl rfl
              cases l with
              | nil =>
                refine (x_F (S1 := S3) ?_).trans rfl
                show evTA _ _ _ _ = _
                exact ta_T c1 (ta_F ((llen (l := []) rfl).trans rfl))
              | cons x l =>
                have c3 : evT (den g (k + 6)) (.cmp .Lt (.idx (.var 4) (.cst (.int 0))) (.idx (.var 2) (.cst (.int 4)))) [some (.int (door : Int)), some (lvD (lvls a.td)), some a.enc, some (chD a.ch), some (oT (some (x :: l))), some (.tup [.tup a.jobs, .tup []]), some (oT (some (x :: l))), none, none] S3 = .ok (decide (x < a.bg)) S3 := et_cmp (x := .int x) (y := .int a.bg) (S1 := S3) (S2 := S3) (ev_idx (x := .tup ((x :: l).map D.int)) (y := .int 0) (S1 := S3) (S2 := S3) rfl rfl (atI_ok (by decide) rfl)) rfl rfl
                have hand : evT (den g (k + 6)) (.and (.cons (.cmp .IsNot (.var 4) (.cst .non)) (.cons (.cmp .Gt (.blt .len false (.cons (.var 4) .nil)) (.cst (.int 0))) (.cons (.cmp .Lt (.idx (.var 4) (.cst (.int 0))) (.idx (.var 2) (.cst (.int 4)))) .nil)))) [some (.int (door : Int)), some (lvD (lvls a.td)), some a.enc, some (chD a.ch), some (oT (some (x :: l))), some (.tup [.tup a.jobs, .tup []]), some (oT (some (x :: l))), none, none] S3 = .ok (decide (x < a.bg)) S3 := by
                  show evTA _ _ _ _ = _
                  exact ta_T c1 (ta_T ((llen (l := x :: l) rfl).trans rfl) (ta_one c3))
                by_cases hx : x < a.bg
                · rw [late_none (l := x :: l) ⟨by simp, hx⟩]
                  exact (x_T (hand.trans (by rw [decide_eq_true hx]))).trans rfl
                · rw [late_some (l := x :: l) fun z => hx z.2]
                  exact (x_F (hand.trans (by rw [decide_eq_false hx]))).trans rfl
          -- the deadlines
          have hdls : evE (den g (k + 6)) (.bin .Add (.slc (.idx (.var 2) (.cst (.int 5))) .nil (.cons (.neg (.cst (.int 1))) .nil)) (.blt .tuple false (.cons (.lc false [("sill", 8)] (.nm 8) (.seq (.slc (.var 3) (.cons (.neg (.cst (.int 1))) .nil) .nil)) .nil (.bin .Sub (.idx (.var 2) (.cst (.int 3))) (.idx (.var 8) (.cst (.int 0))))) .nil))) [some (.int (door : Int)), some (lvD (lvls a.td)), some a.enc, some (chD a.ch), some (oT B), some (.tup [.tup a.jobs, .tup []]), some (oT (lateF a.bg B)), none, none] S3 =
              .ok (.tup ((a.lt.dropLast ++ (a.ch.drop (a.ch.length - 1)).map fun s => a.z - s.1).map D.int)) S3 := by
            have e1 : evE (den g (k + 6)) (.slc (.idx (.var 2) (.cst (.int 5))) .nil (.cons (.neg (.cst (.int 1))) .nil)) [some (.int (door : Int)), some (lvD (lvls a.td)), some a.enc, some (chD a.ch), some (oT B), some (.tup [.tup a.jobs, .tup []]), some (oT (lateF a.bg B)), none, none] S3 = .ok (.tup (a.lt.dropLast.map D.int)) S3 := by
              refine ev_slc (x := .tup (a.lt.map D.int)) (S1 := S3) (S2 := S3) (l := none) (u := some (-1)) (ev_idx (x := a.enc) (y := .int 5) rfl rfl rfl) eo_nil (eo_int (i := -1) rfl) ?_
              show some (D.tup (cutD (a.lt.map D.int) none (some (-1)))) = _
              rw [cut_last, List.map_dropLast]
            have e2 : evI (den g (k + 6)) (.seq (.slc (.var 3) (.cons (.neg (.cst (.int 1))) .nil) .nil)) [some (.int (door : Int)), some (lvD (lvls a.td)), some a.enc, some (chD a.ch), some (oT B), some (.tup [.tup a.jobs, .tup []]), some (oT (lateF a.bg B)), none, none] S3 = .ok ((a.ch.drop (a.ch.length - 1)).map slD) S3 := by
              refine ei_seq (x := .tup ((a.ch.drop (a.ch.length - 1)).map slD)) (ev_slc (x := chD a.ch) (S1 := S3) (S2 := S3) (l := some (-1)) (u := none) rfl (eo_int (i := -1) rfl) eo_nil ?_) rfl
              show some (D.tup (cutD (a.ch.map slD) (some (-1)) none)) = _
              rw [cut_from, List.length_map, List.map_drop]
            have e3 : lcL (fun x S2 => (evE (den g (k + 6)) (.bin .Sub (.idx (.var 2) (.cst (.int 3))) (.idx (.var 8) (.cst (.int 0)))) [some (.int (door : Int)), some (lvD (lvls a.td)), some a.enc, some (chD a.ch), some (oT B), some (.tup [.tup a.jobs, .tup []]), some (oT (lateF a.bg B)), none, some x] S2).bind fun y S4 => PV.R.ok (some y) S4) ((a.ch.drop (a.ch.length - 1)).map slD) S3 = .ok (((a.ch.drop (a.ch.length - 1)).map fun s => a.z - s.1).map D.int) S3 := by
              have e : ((a.ch.drop (a.ch.length - 1)).map fun s => a.z - s.1).map D.int = ((a.ch.drop (a.ch.length - 1)).map slD).map fun d => match d with
                  | .tup [.int i, _] => .int (a.z - i)
                  | _ => .non := by
                rw [List.map_map, List.map_map]; rfl
              rw [e]
              refine lcL_map fun x hx => ?_
              obtain ⟨s, _, rfl⟩ := List.mem_map.mp hx
              rfl
            refine ev_bin (x := .tup (a.lt.dropLast.map D.int)) (y := .tup (((a.ch.drop (a.ch.length - 1)).map fun s => a.z - s.1).map D.int)) (S1 := S3) (S2 := S3) e1 (ev_blt (es_cons (ev_lc e2 rfl e3) es_nil) rfl) ?_
            show (if (a.lt.dropLast.map D.int).length + (((a.ch.drop (a.ch.length - 1)).map fun s => a.z - s.1).map D.int).length ≤ 16777216 then some (D.tup (a.lt.dropLast.map D.int ++ (((a.ch.drop (a.ch.length - 1)).map fun s => a.z - s.1).map D.int))) else none) = _
            have hll := ok.ltl
            rw [if_pos (by simp only [List.length_map, List.length_dropLast, List.length_drop]; omega), List.map_append]
          generalize hdd : a.lt.dropLast ++ (a.ch.drop (a.ch.length - 1)).map (fun s => a.z - s.1) = dls at hdls
          have hll := ok.ltl
          have hdl : dls.length = a.ch.length := by
            rw [← hdd]
            simp only [List.length_append, List.length_map, List.length_dropLast, List.length_drop]
            omega
          have hdl1 : ∀ i, i + 1 < a.ch.length → a.z ≤ dls.getD i 0 := fun i hi => by
            rw [← hdd, List.getD_eq_getElem?_getD, List.getElem?_append_left (by rw [List.length_dropLast]; omega), List.getElem?_dropLast, if_pos (by omega), List.getElem?_eq_getElem (by omega)]
            exact ok.ltz _ (List.getElem_mem _)
          have hdl2 : ∀ i, i + 1 = a.ch.length → dls.getD i 0 = a.z - (a.ch.getD i (0, 0)).1 := fun i hi => by
            rw [← hdd, List.getD_eq_getElem?_getD, List.getElem?_append_right (by rw [List.length_dropLast]; omega), List.length_dropLast, List.getElem?_map, List.getElem?_drop, show a.ch.length - 1 + (i - (a.lt.length - 1)) = i by omega, List.getD_eq_getElem?_getD, List.getElem?_eq_getElem (by omega)]
            rfl
          obtain ⟨S4, hlb⟩ := d_latest_by (k := k + 1) (S := S3) (a := a) hg.has_hour hg.last_hour hg.last_in_window hg.closures_of hg.last_start hg.latest_by ok hL hdl hdl1 hdl2
          rw [hB] at hlb
          refine ⟨S4, ret_F0 hT6 (ret_cons (x_set (x := oT B) (S1 := S3) rfl) (ret_cons s8 (ret_cons (x_set (x := .tup (dls.map D.int)) (S1 := S3) hdls) (ret_ret (ev_call (es_cons (ev_call (es_cons (ev_var rfl) (es_cons (ev_var rfl) es_nil)) hlb) (es_cons (ev_var rfl) es_nil)) (same_T hg.law_same (late_len fun l e => ?_)))))))⟩
          exact hlen l (hB.trans e)
end
end L2.PV

namespace L2.PV
open PySem PySem.Spec PyProof.Rows LamX
/-! L12: what is asked. -/
theorem back_le {lv : List Int} {dr : Int} : ∀ (ch : List Sl) (z : Int) (l : List Int), backF lv dr ch z = some l → (∀ s ∈ ch, 0 ≤ s.1) → ∀ x ∈ l, x ≤ z
  | [], z, l, e, _ => by cases (show some [] = some l from e); intro x hx; cases hx
  | s :: rest, z, l, e, hs => by
    cases hr : lastF (dp lv dr s) (z - s.1) with
    | none => rw [back_none hr] at e; cases e
    | some r =>
      rw [back_some hr] at e
      obtain ⟨l', e1, e2⟩ := Option.map_eq_some_iff.mp e
      have h1 := back_le rest r l' e1 fun s hx => hs s (List.mem_cons_of_mem _ hx)
      have h2 := (lastF_spec hr).2.1
      have h3 := hs s List.mem_cons_self
      intro x hx
      rw [← e2] at hx
      rcases List.mem_append.mp hx with hx | hx
      · have := h1 x hx; omega
      · rw [List.mem_singleton.mp hx]; omega
section
variable {g : List Fn} {k n : Nat} {S : Sto} (hg : IsT g)
include hg
theorem d_sill2 (hT : TapeAt n S) : ∃ (s : Sl) (S' : Sto), den g (k + 3) i_law_a_sill [.loc n] S = .ok (slD s) S' ∧ 1 ≤ s.1 ∧ s.1 ≤ 12 ∧ Tp n S S' := by
  obtain ⟨r1, S1, a1, c1, c2, b1⟩ := e_draw (k := k + 1) (e := [some (.loc n)]) (q := 12) hg rfl (by decide) (by decide) hT
  obtain ⟨s0, S2, a2, c3, b2⟩ := d_pickI (k := k) (l := [1, 2, 3, 1 + r1]) hg rfl (by simp) (by simp) b1.at
  obtain ⟨r3, S3, a3, _, _, b3⟩ := e_draw (k := k + 1) (e := [some (.loc n)]) (q := 20) hg rfl (by decide) (by decide) b2.at
  obtain ⟨r4, S4, a4, _, _, b4⟩ := e_draw (k := k + 1) (e := [some (.loc n)]) (q := 299) hg rfl (by decide) (by decide) b3.at
  obtain ⟨s1, S5, a5, _, b5⟩ := d_pickI (k := k) (l := [50, 50, 0, 40 + r3, -99, 199, r4 - 99]) hg rfl (by simp) (by simp) b4.at
  have hs0 : 1 ≤ s0 ∧ s0 ≤ 12 := by
    simp only [List.mem_cons, List.not_mem_nil, or_false] at c3
    rcases c3 with h | h | h | h <;> omega
  refine ⟨(s0, s1), S5, ?_, hs0.1, hs0.2, b1.trans (b2.trans (b3.trans (b4.trans b5)))⟩
  rw [den_at hg.law_a_sill]
  refine Ret.run rfl (ret_ret (ev_tup (es_cons (x := .int s0) (S1 := S2) (ev_call (es_cons (x := .loc n) (S1 := S) rfl (es_cons (x := .lst [.int 1, .int 2, .int 3, .int (1 + r1)]) (S1 := S1) (ev_lst (es_cons rfl (es_cons rfl (es_cons rfl (es_cons (ev_bin (x := .int 1) (S1 := S) rfl a1 rfl) es_nil))))) es_nil)) a2) (es_cons (x := .int s1) (S1 := S5) (ev_call (es_cons (x := .loc n) (S1 := S2) rfl (es_cons (x := .lst [.int 50, .int 50, .int 0, .int (40 + r3), .int (-99), .int 199, .int (r4 - 99)]) (S1 := S4) (ev_lst (es_cons rfl (es_cons rfl (es_cons rfl (es_cons (ev_bin (x := .int 40) (S1 := S2) rfl a3 rfl) (es_cons rfl (es_cons rfl (es_cons (ev_bin a4 (S2 := S4) (y := .int 99) rfl rfl) es_nil)))))))) es_nil)) a5) es_nil))))
/-- the depths that are met -/
theorem met_loop {lv : List Int} {M : Int} (hl0 : 0 < lv.length) (hl : lv.length ≤ 1000) (hM : ∀ (S : Sto) (tr : Bool), bltF .max1 tr [lvD lv] S = .ok (.int M) S) {v2 v3 v4 v7 v8 v9 v10 : Option D} {f : D → En → Sto → R (Fl × En)} (hf : f = fun x e1 S2 => (match asgT (.nm 6) x e1 with
      | some e2 => exSs (den g (k + 2)) (ir_law_asking.at 1).bd e2 S2
      | none => PV.R.bad)) : ∀ (ch : List Sl) (ms : List Int) (v6 : Option D) (S : Sto), ms.length + 2 * ch.length ≤ 1000 → TapeAt n S →
      ∃ (ms' : List Int) (v6' : Option D) (S' : Sto), forL f (ch.map slD) [some (.loc n), some (lvD lv), v2, v3, v4, some (.lst (ms.map D.int)), v6, v7, v8, v9, v10] S = .ok (.nx, [some (.loc n), some (lvD lv), v2, v3, v4, some (.lst (ms'.map D.int)), v6', v7, v8, v9, v10]) S' ∧ ms'.length = ms.length + 2 * ch.length ∧ Tp n S S'
  | [], ms, v6, S, _, hT => ⟨ms, v6, S, rfl, rfl, Tp.refl hT⟩
  | s :: ch, ms, v6, S, hlen, hT => by
    rw [List.length_cons] at hlen
    obtain ⟨r1, S1, a1, _, b1⟩ := d_pickI (k := k) (l := lv) hg rfl hl0 (by omega) hT
    have st : f (slD s) [some (.loc n), some (lvD lv), v2, v3, v4, some (.lst (ms.map D.int)), v6, v7, v8, v9, v10] S = .ok (.nx, [some (.loc n), some (lvD lv), v2, v3, v4, some (.lst ((ms ++ [s.2 + r1, s.2 + M]).map D.int)), some (slD s), v7, v8, v9, v10]) S1 := by
      subst hf
      refine (xs_cons (x_set (x := .lst ((ms ++ [s.2 + r1, s.2 + M]).map D.int)) (S1 := S1) (ev_bin (x := .lst (ms.map D.int)) (y := .lst [.int (s.2 + r1), .int (s.2 + M)]) (S1 := S) (S2 := S1) rfl (ev_lst (es_cons (x := .int (s.2 + r1)) (S1 := S1) (ev_bin (x := .int s.2) (y := .int r1) (S1 := S) (S2 := S1) rfl (ev_call (es_cons (x := .loc n) (S1 := S) rfl (es_cons (x := lvD lv) (S1 := S) rfl es_nil)) a1) rfl) (es_cons (x := .int (s.2 + M)) (S1 := S1) (ev_bin (x := .int s.2) (y := .int M) (S1 := S1) (S2 := S1) rfl (ev_blt (es_cons (x := lvD lv) (S1 := S1) rfl es_nil) (hM _ _)) rfl) es_nil))) ?_))).trans rfl
      show (if (ms.map D.int).length + 2 ≤ 16777216 then some (D.lst (ms.map D.int ++ [.int (s.2 + r1), .int (s.2 + M)])) else none) = _
      rw [if_pos (by rw [List.length_map]; omega), List.map_append]
      rfl
    obtain ⟨ms', v6', S', q1, q2, q3⟩ := met_loop hl0 hl hM hf ch (ms ++ [s.2 + r1, s.2 + M]) (some (slD s)) S1 (by rw [List.length_append]; simp only [List.length_cons, List.length_nil]; omega) b1.at
    refine ⟨ms', v6', S', ?_, ?_, b1.trans q3⟩
    · rw [List.map_cons, forL_cons1 st]
      exact q1
    · rw [q2, List.length_append, List.length_cons]
      simp only [List.length_cons, List.length_nil]
      omega
theorem ints_of_all2 {z : Int} : ∀ {xs ys : List D}, All2 (fun _ y => ∃ q : Int, y = D.int q ∧ z ≤ q ∧ q ≤ z + 20) xs ys → ∃ lt : List Int, ys = lt.map D.int ∧ lt.length = xs.length ∧ ∀ q ∈ lt, z ≤ q ∧ q ≤ z + 20
  | [], [], _ => ⟨[], rfl, rfl, fun q hq => by cases hq⟩
  | x :: xs, y :: ys, h => by
    obtain ⟨⟨q, rfl, h1, h2⟩, h3⟩ := h
    obtain ⟨lt, e1, e2, e3⟩ := ints_of_all2 h3
    refine ⟨q :: lt, by rw [e1]; rfl, by rw [List.length_cons, List.length_cons, e2], fun p hp => ?_⟩
    rcases List.mem_cons.mp hp with e | hp
    · rw [e]; exact ⟨h1, h2⟩
    · exact e3 p hp
  | [], _ :: _, h => h.elim
  | _ :: _, [], h => h.elim
theorem d_asking {td : List (List Int)} {ch : List Sl} {z : Int} (htd : TideOk td) (hch : ∀ s ∈ ch, 1 ≤ s.1 ∧ s.1 ≤ 12) (hc4 : ch.length ≤ 4) (hz0 : 0 ≤ z) (hz1 : z ≤ 100000) (hT : TapeAt n S) :
    ∃ (a : Aq) (S' : Sto), den g (k + 4) i_law_asking [.loc n, lvD (lvls td), tideD td, chD ch, .int z] S = .ok a.enc S' ∧ AqOk a ∧ a.td = td ∧ Tp n S S' := by
  have hl : 0 < (lvls td).length ∧ (lvls td).length ≤ 60 := by
    have hp : 0 < per td := (pf_pos td 1 (by decide) htd.1).1
    have hl : (lvls td).length = per td := by unfold lvls; simp
    have := htd.2
    omega
  obtain ⟨M, _, hmax⟩ := max_mem hg hl.1
  obtain ⟨ms, v6, S1, q1, q2, b1⟩ := met_loop (k := k + 1) (n := n) (lv := lvls td) (M := M) (v2 := some (tideD td)) (v3 := some (chD ch)) (v4 := some (.int z)) (v7 := none) (v8 := none) (v9 := none) (v10 := none) hg hl.1 (by omega) hmax rfl ch [0, 30] none S (by simp; omega) hT
  have hms : 2 ≤ ms.length := by rw [q2]; simp
  -- the menu of the draft
  obtain ⟨menu, hmen1, hmen2, hmen⟩ : ∃ menu : List Int, 0 < menu.length ∧ menu.length ≤ 1000 ∧ evE (den g (k + 3)) (.ife (.cmp .Gt (.blt .len false (.cons (.var 5) .nil)) (.cst (.int 2))) (.slc (.var 5) (.cons (.cst (.int 2)) .nil) .nil) (.var 5)) [some (.loc n), some (lvD (lvls td)), some (tideD td), some (chD ch), some (.int z), some (.lst (ms.map D.int)), v6, none, none, none, none] S1 = .ok (.lst (menu.map D.int)) S1 := by
    have hml : ms.length ≤ 10 := by
      have e : ([0, 30] : List Int).length = 2 := rfl
      rw [e] at q2
      omega
    have ht : evT (den g (k + 3)) (.cmp .Gt (.blt .len false (.cons (.var 5) .nil)) (.cst (.int 2))) [some (.loc n), some (lvD (lvls td)), some (tideD td), some (chD ch), some (.int z), some (.lst (ms.map D.int)), v6, none, none, none, none] S1 = .ok (decide (2 < ms.length)) S1 := by
      refine et_cmp (x := .int ms.length) (y := .int 2) (S1 := S1) (S2 := S1) (ev_blt (es_cons (x := .lst (ms.map D.int)) rfl es_nil) ?_) rfl ?_
      · show PV.R.ok (D.int (ms.map D.int).length) S1 = _
        rw [List.length_map]
      · show some (decide ((2 : Int) < ms.length)) = _
        refine congrArg some ?_
        by_cases h : 2 < ms.length
        · rw [decide_eq_true h, decide_eq_true (by omega)]
        · rw [decide_eq_false h, decide_eq_false (by omega)]
    by_cases h : 2 < ms.length
    · refine ⟨ms.drop 2, by rw [List.length_drop]; omega, by rw [List.length_drop]; omega, ev_ife (p := true) (ht.trans (by rw [decide_eq_true h])) ?_⟩
      refine ev_slc (x := .lst (ms.map D.int)) (S1 := S1) (S2 := S1) (l := some 2) (u := none) rfl (eo_int (i := 2) rfl) eo_nil ?_
      show some (D.lst (cutD (ms.map D.int) (some 2) none)) = _
      rw [show (2 : Int) = ((2 : Nat) : Int) from rfl, cut_drop (by rw [List.length_map]; omega), List.map_drop]
    · exact ⟨ms, by omega, by omega, ev_ife (p := false) (ht.trans (by rw [decide_eq_false h])) rfl⟩
  obtain ⟨dr, S2, a2, b2⟩ := d_near (k := k) (l := menu) (most := 500) hg hmen1 (by omega) b1.at
  obtain ⟨c3, a3⟩ := d_back (k := k + 2) (S := S2) (lv := lvls td) (dr := dr) (ch := ch) (z := z) hg.law_a_back hl.1 (by omega) (fun s hs => by have := hch s hs; omega) (by omega) hz0 (by omega)
  have b3 : Tp n S2 (S2 ++ [c3]) := Tp.snoc b2.at
  generalize hB : backF (lvls td) dr ch.reverse z = B at a3
  -- the release
  obtain ⟨r4, S4, a4, _, _, b4⟩ := e_draw (k := k + 2) (e := [some (.loc n), some (lvD (lvls td)), some (tideD td), some (chD ch), some (.int z), some (.lst (ms.map D.int)), v6, some (.int dr), some (oT B), some (.int 0), none]) (q := 2) hg rfl (by decide) (by decide) b3.at
  have hrel : ∃ (bg : Int) (S5 : Sto), 0 ≤ bg ∧ Tp n S4 S5 ∧ exS (den g (k + 3)) (ir_law_asking.at 5) [some (.loc n), some (lvD (lvls td)), some (tideD td), some (chD ch), some (.int z), some (.lst (ms.map D.int)), v6, some (.int dr), some (oT B), some (.int 0), none] (S2 ++ [c3]) = .ok (.nx, [some (.loc n), some (lvD (lvls td)), some (tideD td), some (chD ch), some (.int z), some (.lst (ms.map D.int)), v6, some (.int dr), some (oT B), some (.int bg), none]) S5 := by
    have ht : evT (den g (k + 3)) (.cmp .Eq (.call i_law_draw (.cons (.var 0) (.cons (.cst (.int 2)) .nil)) []) (.cst (.int 0))) [some (.loc n), some (lvD (lvls td)), some (tideD td), some (chD ch), some (.int z), some (.lst (ms.map D.int)), v6, some (.int dr), some (oT B), some (.int 0), none] (S2 ++ [c3]) = .ok (decide (r4 = 0)) S4 :=
      et_cmp (x := .int r4) (y := .int 0) (S1 := S4) (S2 := S4) a4 rfl rfl
    by_cases h0 : r4 = 0
    · obtain ⟨r5, S5, a5, _, b5⟩ := d_pickI (k := k + 1) (l := [0, 1, -1, -5, 0 - ((lvls td).length : Int)]) hg rfl (by simp) (by simp) b4.at
      have hbk : ∃ q : Int, evE (den g (k + 3)) (.ife (.and (.cons (.cmp .IsNot (.var 8) (.cst .non)) (.cons (.cmp .Gt (.blt .len false (.cons (.var 8) .nil)) (.cst (.int 0))) .nil))) (.idx (.var 8) (.cst (.int 0))) (.var 4)) [some (.loc n), some (lvD (lvls td)), some (tideD td), some (chD ch), some (.int z), some (.lst (ms.map D.int)), v6, some (.int dr), some (oT B), some (.int 0), none] S4 = .ok (.int q) S4 := by
        cases B with
        | none => exact ⟨z, ev_ife (p := false) ((et_and2 (p := false) (q := false) (et_cmp (x := .non) (y := .non) (S1 := S4) (S2 := S4) rfl rfl rfl) fun z => absurd z Bool.false_ne_true).trans rfl) rfl⟩
        | some l =>
          have c1 : evT (den g (k + 3)) (.cmp .IsNot (.var 8) (.cst .non)) [some (.loc n), some (lvD (lvls td)), some (tideD td), some (chD ch), some (.int z), some (.lst (ms.map D.int)), v6, some (.int dr), some (oT (some l)), some (.int 0), none] S4 = .ok true S4 := et_cmp (x := .tup (l.map D.int)) (y := .non) (S1 := S4) (S2 := S4) rfl rfl rfl
          cases l with
          | nil => exact ⟨z, ev_ife (p := false) ((et_and2 (p := true) (q := false) c1 fun _ => et_cmp (x := .int 0) (y := .int 0) (S1 := S4) (S2 := S4) rfl rfl rfl).trans rfl) rfl⟩
          | cons x l =>
            refine ⟨x, ev_ife (p := true) ((et_and2 (p := true) (q := true) c1 fun _ => et_cmp (x := .int (((x :: l).map D.int).length : Nat)) (y := .int 0) (S1 := S4) (S2 := S4) rfl rfl ?_).trans rfl) (ev_idx (x := .tup ((x :: l).map D.int)) (y := .int 0) (S1 := S4) (S2 := S4) rfl rfl (atI_ok (by decide) rfl))⟩
            show some (decide ((0 : Int) < (((x :: l).map D.int).length : Nat))) = _
            rw [decide_eq_true (by simp only [List.length_map, List.length_cons]; omega)]
      obtain ⟨q, hbk⟩ := hbk
      have hlen : evE (den g (k + 3)) (.blt .len false (.cons (.var 1) .nil)) [some (.loc n), some (lvD (lvls td)), some (tideD td), some (chD ch), some (.int z), some (.lst (ms.map D.int)), v6, some (.int dr), some (oT B), some (.int 0), none] S4 = .ok (.int (lvls td).length) S4 := ev_blt (es_cons (x := lvD (lvls td)) rfl es_nil) (by
        show PV.R.ok (D.int ((lvls td).map D.int).length) S4 = _
        rw [List.length_map])
      refine ⟨if 0 > q + r5 then 0 else q + r5, S5, by split <;> omega, b5, (x_T (ht.trans (by rw [decide_eq_true h0]))).trans ((xs_cons (x_set (x := .int (if 0 > q + r5 then 0 else q + r5)) (S1 := S5) (ev_blt (es_cons (x := .int (q + r5)) (S1 := S5) (ev_bin (x := .int q) (y := .int r5) (S1 := S4) (S2 := S5) hbk (ev_call (es_cons (x := .loc n) (S1 := S4) rfl (es_cons (x := .lst [.int 0, .int 1, .int (-1), .int (-5), .int (0 - ((lvls td).length : Int))]) (S1 := S4) (ev_lst (es_cons rfl (es_cons rfl (es_cons rfl (es_cons rfl (es_cons (ev_bin (x := .int 0) (y := .int (lvls td).length) (S1 := S4) (S2 := S4) rfl hlen rfl) es_nil)))))) es_nil)) a5) rfl) (es_cons (x := .int 0) rfl es_nil)) rfl))).trans rfl)⟩
    · exact ⟨0, S4, Int.le_refl _, Tp.refl b4.at, (x_F (ht.trans (by rw [decide_eq_false h0]))).trans rfl⟩
  obtain ⟨bg, S5, hbg, b5, a5⟩ := hrel
  -- the deadlines
  have hstep : ∀ x ∈ ch.map slD, ∀ S, TapeAt n S → ∃ y S', (fun x S2 => (evE (den g (k + 3)) (.bin .Add (.var 4) (.call i_law_pick (.cons (.var 0) (.cons (.lst false (.cons (.cst (.int 0)) (.cons (.cst (.int 0)) (.cons (.cst (.int 1)) (.cons (.cst (.int 20)) .nil))))) .nil)) [])) [some (.loc n), some (lvD (lvls td)), some (tideD td), some (chD ch), some (.int z), some (.lst (ms.map D.int)), some x, some (.int dr), some (oT B), some (.int bg), none] S2).bind fun y S4 => PV.R.ok (some y) S4) x S = .ok (some y) S' ∧ (fun _ y => ∃ q : Int, y = D.int q ∧ z ≤ q ∧ q ≤ z + 20) x y ∧ Tp n S S' := by
    intro x hx S hS
    obtain ⟨p, S', r1, r2, r3⟩ := d_pickI (k := k + 1) (l := [0, 0, 1, 20]) hg rfl (by simp) (by simp) hS
    refine ⟨.int (z + p), S', ?_, ⟨z + p, rfl, ?_⟩, r3⟩
    · show (evE (den g (k + 3)) (.bin .Add (.var 4) (.call i_law_pick _ [])) _ S).bind _ = _
      rw [ev_bin (x := .int z) (y := .int p) (z := .int (z + p)) (S1 := S) (S2 := S') rfl (ev_call (es_cons (x := .loc n) (S1 := S) rfl (es_cons (x := .lst [.int 0, .int 0, .int 1, .int 20]) (S1 := S) rfl es_nil)) r1) rfl]
      rfl
    · simp only [List.mem_cons, List.not_mem_nil, or_false] at r2
      rcases r2 with h | h | h | h <;> omega
  obtain ⟨ys, S6, r1, r2, b6⟩ := lc_draw _ S5 hstep b5.at
  obtain ⟨lt, rfl, hlt1, hlt2⟩ := ints_of_all2 hg r2
  rw [List.length_map] at hlt1
  obtain ⟨m, S7, a7, _, _, b7⟩ := e_draw (k := k + 2) (e := [some (.loc n), some (lvD (lvls td)), some (tideD td), some (chD ch), some (.int z), some (.lst (ms.map D.int)), v6, some (.int dr), some (oT B), some (.int bg), some (.tup (lt.map D.int))]) (q := 2) hg rfl (by decide) (by decide) b6.at
  refine ⟨⟨td, ch, dr, z, if 9999 < bg then 9999 else bg, lt, m⟩, S7, ?_, ⟨htd, hch, hc4, hz0, hz1, by show 0 ≤ (if 9999 < bg then 9999 else bg); split <;> omega, by show (if 9999 < bg then 9999 else bg) ≤ 100000; split <;> omega, hlt1, fun x hx => (hlt2 x hx).1, fun x hx => by have := (hlt2 x hx).2; omega⟩, rfl, b1.trans (b2.trans (b3.trans (b4.trans (b5.trans (b6.trans b7)))))⟩
  rw [den_at hg.law_asking]
  refine Ret.run rfl (ret_cons (x_set (x := .lst [.int 0, .int 30]) (S1 := S) rfl) (ret_cons ((x_for (xs := ch.map slD) (S1 := S) (ei_seq (x := chD ch) (ev_var rfl) rfl) rfl).trans q1) (ret_cons (x_set (x := .int dr) (S1 := S2) (ev_call (es_cons (x := .loc n) (S1 := S1) rfl (es_cons hmen (es_cons (x := .int 500) (S1 := S1) rfl es_nil))) a2)) (ret_cons (x_set (x := oT B) (S1 := S2 ++ [c3]) (ev_call (es_cons (ev_var rfl) (es_cons (ev_var rfl) (es_cons (ev_var rfl) (es_cons (ev_var rfl) es_nil)))) a3)) (ret_cons (x_set (x := .int 0) (S1 := S2 ++ [c3]) rfl) (ret_cons a5 (ret_cons (x_set (x := .tup (lt.map D.int)) (S1 := S6) (ev_blt (es_cons (ev_lc (xs := ch.map slD) (S1 := S5) (ei_seq (x := chD ch) (ev_var rfl) rfl) rfl r1) es_nil) rfl)) (ret_ret (ev_tup (es_cons (ev_var rfl) (es_cons (ev_var rfl) (es_cons (ev_var rfl) (es_cons (ev_var rfl) (es_cons (x := .int (if 9999 < bg then 9999 else bg)) (S1 := S6) (ev_blt (es_cons (ev_var rfl) (es_cons (x := .int 9999) rfl es_nil)) rfl) (es_cons (ev_var rfl) (es_cons a7 es_nil))))))))))))))))
end
end L2.PV

namespace L2.PV
open PySem PySem.Spec PyProof.Rows LamX
/-! L13: the law. -/
section
variable {g : List Fn} {k n : Nat} {S : Sto} (hg : IsT g)
include hg
theorem e_draw1 {e : En} {q : Int} (he : e[1]? = some (some (.loc n))) (h1 : 1 ≤ q) (h2 : q < 1073741824) (hT : TapeAt n S) : ∃ (r : Int) (S' : Sto), evE (den g (k + 1)) (.call i_law_draw (.cons (.var 1) (.cons (.cst (.int q)) .nil)) []) e S = .ok (.int r) S' ∧ 0 ≤ r ∧ r < q ∧ Tp n S S' := by
  obtain ⟨r, S', q1, q2, q3, q4⟩ := d_draw (k := k) (many := q) hg.law_draw h1 h2 hT
  exact ⟨r, S', ev_call (es_cons (ev_var he) (es_cons (x := .int q) (S1 := S) rfl es_nil)) q1, q2, q3, q4⟩
theorem sills_of_all2 : ∀ {xs ys : List D}, All2 (fun _ y => ∃ s : Sl, y = slD s ∧ 1 ≤ s.1 ∧ s.1 ≤ 12) xs ys → ∃ ch : List Sl, ys = ch.map slD ∧ ch.length = xs.length ∧ ∀ s ∈ ch, 1 ≤ s.1 ∧ s.1 ≤ 12
  | [], [], _ => ⟨[], rfl, rfl, fun q hq => by cases hq⟩
  | x :: xs, y :: ys, h => by
    obtain ⟨⟨q, rfl, h1, h2⟩, h3⟩ := h
    obtain ⟨lt, e1, e2, e3⟩ := sills_of_all2 h3
    refine ⟨q :: lt, by rw [e1]; rfl, by rw [List.length_cons, List.length_cons, e2], fun p hp => ?_⟩
    rcases List.mem_cons.mp hp with e | hp
    · rw [e]; exact ⟨h1, h2⟩
    · exact e3 p hp
  | [], _ :: _, h => h.elim
  | _ :: _, [], h => h.elim
omit hg in
theorem sum_bound : ∀ {ch : List Sl}, (∀ s ∈ ch, 1 ≤ s.1 ∧ s.1 ≤ 12) → 0 ≤ (ch.map fun s => s.1).sum ∧ (ch.map fun s => s.1).sum ≤ 12 * ch.length
  | [], _ => by simp
  | s :: ch, h => by
    obtain ⟨h1, h2⟩ := sum_bound (ch := ch) fun s hs => h s (List.mem_cons_of_mem _ hs)
    have h3 := h s List.mem_cons_self
    rw [List.map_cons, List.sum_cons, List.length_cons]
    omega
theorem d_put2 {a : Aq} {d' : Int} : den g (k + 1) i_law_put [a.enc, .int 2, .int d'] S = .ok ({ a with dr := d' } : Aq).enc S := by
  rw [den_at hg.law_put]
  exact Ret.run rfl (ret_ret rfl)
theorem d_channel {v0 v2 v3 : Option D} (hT : TapeAt n S) : ∃ (ch : List Sl) (S' : Sto), (∀ s ∈ ch, 1 ≤ s.1 ∧ s.1 ≤ 12) ∧ ch.length ≤ 4 ∧ Tp n S S' ∧ exS (den g (k + 3)) (ir_law.at 3) [v0, some (.loc n), v2, v3, none, none, none, none, none, none, none, none, none] S = .ok (.nx, [v0, some (.loc n), v2, v3, some (chD ch), none, none, none, none, none, none, none, none]) S' := by
  obtain ⟨m, S1, a1, c1, b1⟩ := d_pickI (k := k + 1) (l := [0, 1, 1, 2, 2, 3, 4]) hg rfl (by simp) (by simp) hT
  have hm : 0 ≤ m ∧ m ≤ 4 := by
    simp only [List.mem_cons, List.not_mem_nil, or_false] at c1
    rcases c1 with h | h | h | h | h | h | h <;> omega
  have hstep : ∀ x ∈ rngD 0 1 m.toNat, ∀ S, TapeAt n S → ∃ y S', (fun x S2 => (evE (den g (k + 3)) (.call i_law_a_sill (.cons (.var 1) .nil) []) [v0, some (.loc n), v2, v3, none, none, none, none, none, none, none, some x, none] S2).bind fun y S4 => PV.R.ok (some y) S4) x S = .ok (some y) S' ∧ (fun _ y => ∃ s : Sl, y = slD s ∧ 1 ≤ s.1 ∧ s.1 ≤ 12) x y ∧ Tp n S S' := by
    intro x _ S hS
    obtain ⟨s, S', r1, r2, r3, r4⟩ := d_sill2 (k := k) hg hS
    refine ⟨slD s, S', ?_, ⟨s, rfl, r2, r3⟩, r4⟩
    show (evE (den g (k + 3)) (.call i_law_a_sill (.cons (.var 1) .nil) []) _ S).bind _ = _
    rw [ev_call (es_cons (x := .loc n) (S1 := S) (ev_var rfl) es_nil) r1]
    rfl
  obtain ⟨ys, S2, r1, r2, b2⟩ := lc_draw _ S1 hstep b1.at
  obtain ⟨ch, rfl, h1, h2⟩ := sills_of_all2 hg r2
  rw [rngD_len] at h1
  have hlc : evE (den g (k + 3)) (.lc false [("k", 11)] (.nm 11) (.rng1 (.call i_law_pick (.cons (.var 1) (.cons (.lst false (.cons (.cst (.int 0)) (.cons (.cst (.int 1)) (.cons (.cst (.int 1)) (.cons (.cst (.int 2)) (.cons (.cst (.int 2)) (.cons (.cst (.int 3)) (.cons (.cst (.int 4)) .nil)))))))) .nil)) [])) .nil (.call i_law_a_sill (.cons (.var 1) .nil) [])) [v0, some (.loc n), v2, v3, none, none, none, none, none, none, none, none, none] S = .ok (.lst (ch.map slD)) S2 :=
    ev_lc (xs := rngD 0 1 m.toNat) (S1 := S1) (ei_rng1 (j := m) (ev_call (es_cons (x := .loc n) (S1 := S) (ev_var rfl) (es_cons (x := .lst [.int 0, .int 1, .int 1, .int 2, .int 2, .int 3, .int 4]) (S1 := S) rfl es_nil)) a1) (by omega) (by omega)) rfl r1
  exact ⟨ch, S2, h2, by omega, b1.trans b2, (x_set (x := chD ch) (S1 := S2) (ev_blt (es_cons hlc es_nil) rfl)).trans rfl⟩
theorem d_hour {v0 v2 v3 : Option D} {ch : List Sl} (hch : ∀ s ∈ ch, 1 ≤ s.1 ∧ s.1 ≤ 12) (hc4 : ch.length ≤ 4) (hT : TapeAt n S) : ∃ (z : Int) (S' : Sto), 0 ≤ z ∧ z ≤ 9900 ∧ Tp n S S' ∧ ∀ rest : ISs, exSs (den g (k + 3)) (.cons (ir_law.at 4) (.cons (ir_law.at 5) rest)) [v0, some (.loc n), v2, v3, some (chD ch), none, none, none, none, none, none, none, none] S = exSs (den g (k + 3)) rest [v0, some (.loc n), v2, v3, some (chD ch), some (.int z), none, none, none, none, none, none, none] S' := by
  obtain ⟨r1, S1, a1, c1, c1', b1⟩ := e_draw1 (k := k + 2) (e := [v0, some (.loc n), v2, v3, some (chD ch), none, none, none, none, none, none, none, none]) (q := 30) hg rfl (by decide) (by decide) hT
  obtain ⟨r2, S2, a2, c2, c2', b2⟩ := e_draw1 (k := k + 2) (e := [v0, some (.loc n), v2, v3, some (chD ch), none, none, none, none, none, none, none, none]) (q := 60) hg rfl (by decide) (by decide) b1.at
  obtain ⟨r3, S3, a3, c3, c3', b3⟩ := e_draw1 (k := k + 2) (e := [v0, some (.loc n), v2, v3, some (chD ch), none, none, none, none, none, none, none, none]) (q := 8) hg rfl (by decide) (by decide) b2.at
  obtain ⟨s1, s2⟩ := sum_bound hch
  generalize hsum : (ch.map fun s => s.1).sum = sm at s1 s2
  obtain ⟨z, S4, a4, c4, b4⟩ := d_pickI (k := k + 1) (l := [r1, r2, sm + r3]) hg rfl (by simp) (by simp) b3.at
  have hz : 0 ≤ z ∧ z ≤ 100 := by
    simp only [List.mem_cons, List.not_mem_nil, or_false] at c4
    rcases c4 with h | h | h <;> omega
  have hs : evE (den g (k + 3)) (.blt .sum false (.cons (.lc false [("sill", 12)] (.nm 12) (.seq (.var 4)) .nil (.idx (.var 12) (.cst (.int 0)))) .nil)) [v0, some (.loc n), v2, v3, some (chD ch), none, none, none, none, none, none, none, none] S2 = .ok (.int sm) S2 := by
    have e3 : lcL (fun x S2 => (evE (den g (k + 3)) (.idx (.var 12) (.cst (.int 0))) [v0, some (.loc n), v2, v3, some (chD ch), none, none, none, none, none, none, none, some x] S2).bind fun y S4 => PV.R.ok (some y) S4) (ch.map slD) S2 = .ok ((ch.map fun s => s.1).map D.int) S2 := by
      have e : (ch.map fun s => s.1).map D.int = (ch.map slD).map fun d => match d with
          | .tup [.int i, _] => .int i
          | _ => .non := by
        rw [List.map_map, List.map_map]; rfl
      rw [e]
      refine lcL_map fun x hx => ?_
      obtain ⟨s, _, rfl⟩ := List.mem_map.mp hx
      rfl
    rw [← hsum]
    exact ev_blt (es_cons (ev_lc (xs := ch.map slD) (S1 := S2) (ei_seq (x := chD ch) (ev_var rfl) rfl) rfl e3) es_nil) sum_ok
  have st4 : exS (den g (k + 3)) (ir_law.at 4) [v0, some (.loc n), v2, v3, some (chD ch), none, none, none, none, none, none, none, none] S = .ok (.nx, [v0, some (.loc n), v2, v3, some (chD ch), some (.int z), none, none, none, none, none, none, none]) S4 :=
    (x_set (x := .int z) (S1 := S4) (ev_call (es_cons (x := .loc n) (S1 := S) (ev_var rfl) (es_cons (x := .lst [.int r1, .int r2, .int (sm + r3)]) (S1 := S3) (ev_lst (es_cons a1 (es_cons a2 (es_cons (ev_bin (x := .int sm) (y := .int r3) (S1 := S2) (S2 := S3) hs a3 rfl) es_nil)))) es_nil)) a4)).trans rfl
  obtain ⟨r5, S5, a5, _, _, b5⟩ := e_draw1 (k := k + 2) (e := [v0, some (.loc n), v2, v3, some (chD ch), some (.int z), none, none, none, none, none, none, none]) (q := 12) hg rfl (by decide) (by decide) b4.at
  have ht : evT (den g (k + 3)) (.cmp .Eq (.call i_law_draw (.cons (.var 1) (.cons (.cst (.int 12)) .nil)) []) (.cst (.int 0))) [v0, some (.loc n), v2, v3, some (chD ch), some (.int z), none, none, none, none, none, none, none] S4 = .ok (decide (r5 = 0)) S5 :=
    et_cmp (x := .int r5) (y := .int 0) (S1 := S5) (S2 := S5) a5 rfl rfl
  by_cases h0 : r5 = 0
  · obtain ⟨r6, S6, a6, c6, c6', b6⟩ := e_draw1 (k := k + 2) (e := [v0, some (.loc n), v2, v3, some (chD ch), some (.int z), none, none, none, none, none, none, none]) (q := 100) hg rfl (by decide) (by decide) b5.at
    refine ⟨9900 - r6, S6, by omega, by omega, b1.trans (b2.trans (b3.trans (b4.trans (b5.trans b6)))), fun rest => (xs_cons st4).trans (xs_cons ((x_T (ht.trans (by rw [decide_eq_true h0]))).trans ((xs_cons (x_set (x := .int (9900 - r6)) (S1 := S6) (ev_bin (x := .int 9900) (y := .int r6) (S1 := S5) (S2 := S6) rfl a6 rfl))).trans rfl)))⟩
  · exact ⟨z, S5, hz.1, by omega, b1.trans (b2.trans (b3.trans (b4.trans b5))), fun rest => (xs_cons st4).trans (xs_cons ((x_F (ht.trans (by rw [decide_eq_false h0]))).trans rfl))⟩
theorem d_second {v0 : Option D} {td : List (List Int)} {ch : List Sl} {z : Int} {a : Aq} (htd : TideOk td) (hch : ∀ s ∈ ch, 1 ≤ s.1 ∧ s.1 ≤ 12) (hc4 : ch.length ≤ 4) (hz0 : 0 ≤ z) (hz1 : z ≤ 9900) (ok : AqOk a) (hat : a.td = td) (hT : TapeAt n S) :
    ∃ (b : Aq) (kd : Int) (S' : Sto), AqOk b ∧ b.td = td ∧ Tp n S S' ∧ ∀ rest : ISs, exSs (den g (k + 5)) (.cons (ir_law.at 7) (.cons (ir_law.at 8) rest)) [v0, some (.loc n), some (tideD td), some (lvD (lvls td)), some (chD ch), some (.int z), some a.enc, none, none, none, none, none, none] S = exSs (den g (k + 5)) rest [v0, some (.loc n), some (tideD td), some (lvD (lvls td)), some (chD ch), some (.int z), some a.enc, some (.int kd), none, some b.enc, none, none, none] S' := by
  obtain ⟨kd, S1, a1, _, _, b1⟩ := e_draw1 (k := k + 4) (e := [v0, some (.loc n), some (tideD td), some (lvD (lvls td)), some (chD ch), some (.int z), some a.enc, none, none, none, none, none, none]) (q := 3) hg rfl (by decide) (by decide) hT
  have st7 : exS (den g (k + 5)) (ir_law.at 7) [v0, some (.loc n), some (tideD td), some (lvD (lvls td)), some (chD ch), some (.int z), some a.enc, none, none, none, none, none, none] S = .ok (.nx, [v0, some (.loc n), some (tideD td), some (lvD (lvls td)), some (chD ch), some (.int z), some a.enc, some (.int kd), none, none, none, none, none]) S1 := (x_set a1).trans rfl
  have t0 : evT (den g (k + 5)) (.cmp .Eq (.var 7) (.cst (.int 0))) [v0, some (.loc n), some (tideD td), some (lvD (lvls td)), some (chD ch), some (.int z), some a.enc, some (.int kd), none, none, none, none, none] S1 = .ok (decide (kd = 0)) S1 := et_cmp (x := .int kd) (y := .int 0) (S1 := S1) (S2 := S1) rfl rfl rfl
  have t1 : evT (den g (k + 5)) (.cmp .Eq (.var 7) (.cst (.int 1))) [v0, some (.loc n), some (tideD td), some (lvD (lvls td)), some (chD ch), some (.int z), some a.enc, some (.int kd), none, none, none, none, none] S1 = .ok (decide (kd = 1)) S1 := et_cmp (x := .int kd) (y := .int 1) (S1 := S1) (S2 := S1) rfl rfl rfl
  by_cases h0 : kd = 0
  · obtain ⟨r2, S2, a2, c2, c2', b2⟩ := e_draw1 (k := k + 4) (e := [v0, some (.loc n), some (tideD td), some (lvD (lvls td)), some (chD ch), some (.int z), some a.enc, some (.int kd), none, none, none, none, none]) (q := 3) hg rfl (by decide) (by decide) b1.at
    obtain ⟨b, S3, a3, okb, hb, b3⟩ := d_asking (k := k + 1) (z := z + 1 + r2) hg htd hch hc4 (by omega) (by omega) b2.at
    refine ⟨b, kd, S3, okb, hb, b1.trans (b2.trans b3), fun rest => (xs_cons st7).trans (xs_cons ((x_T (t0.trans (by rw [decide_eq_true h0]))).trans ((xs_cons (x_set (x := b.enc) (S1 := S3) (ev_call (es_cons (ev_var rfl) (es_cons (ev_var rfl) (es_cons (ev_var rfl) (es_cons (ev_var rfl) (es_cons (ev_bin (x := .int (z + 1)) (y := .int r2) (S1 := S1) (S2 := S2) (ev_bin (x := .int z) (y := .int 1) (S1 := S1) (S2 := S1) rfl rfl rfl) a2 rfl) es_nil))))) a3))).trans rfl)))⟩
  · by_cases h1 : kd = 1
    · obtain ⟨b, S3, a3, okb, hb, b3⟩ := d_asking (k := k + 1) (z := z) (ch := ch.reverse) hg htd (fun s hs => hch s (List.mem_reverse.mp hs)) (by rw [List.length_reverse]; exact hc4) hz0 (by omega) b1.at
      refine ⟨b, kd, S3, okb, hb, b1.trans b3, fun rest => (xs_cons st7).trans (xs_cons ((x_F (t0.trans (by rw [decide_eq_false h0]))).trans ((xs_cons ((x_T (t1.trans (by rw [decide_eq_true h1]))).trans ((xs_cons (x_set (x := b.enc) (S1 := S3) (ev_call (es_cons (ev_var rfl) (es_cons (ev_var rfl) (es_cons (ev_var rfl) (es_cons (x := chD ch.reverse) (S1 := S1) ?_ (es_cons (ev_var rfl) es_nil))))) a3))).trans rfl))).trans rfl)))⟩
      show PV.R.ok (D.tup (ch.map slD).reverse) S1 = _
      rw [← List.map_reverse]
      rfl
    · obtain ⟨r2, S2, a2, _, b2⟩ := d_pickI (k := k + 3) (l := [1, -1]) hg rfl (by simp) (by simp) b1.at
      have hput := d_put2 (k := k + 4) (S := S2) (a := a) (d' := if 500 < (if 0 > a.dr + r2 then 0 else a.dr + r2) then 500 else (if 0 > a.dr + r2 then 0 else a.dr + r2)) hg
      refine ⟨{ a with dr := if 500 < (if 0 > a.dr + r2 then 0 else a.dr + r2) then 500 else (if 0 > a.dr + r2 then 0 else a.dr + r2) }, kd, S2, ⟨ok.td, ok.ch, ok.len, ok.z0, ok.z1, ok.b0, ok.b1, ok.ltl, ok.ltz, ok.ltb⟩, hat, b1.trans b2, fun rest => (xs_cons st7).trans (xs_cons ((x_F (t0.trans (by rw [decide_eq_false h0]))).trans ((xs_cons ((x_F (t1.trans (by rw [decide_eq_false h1]))).trans ((xs_cons (x_set (S1 := S2) (ev_call (ds := [a.enc, .int 2, .int (if 500 < (if 0 > a.dr + r2 then 0 else a.dr + r2) then 500 else (if 0 > a.dr + r2 then 0 else a.dr + r2))]) (es_cons (ev_var rfl) (es_cons rfl (es_cons (ev_blt (es_cons (x := .int (if 0 > a.dr + r2 then 0 else a.dr + r2)) (S1 := S2) (ev_blt (es_cons (x := .int (a.dr + r2)) (S1 := S2) (ev_bin (x := .int a.dr) (y := .int r2) (S1 := S1) (S2 := S2) (ev_idx (x := a.enc) (y := .int 2) rfl rfl rfl) (ev_call (es_cons (x := .loc n) (S1 := S1) (ev_var rfl) (es_cons (x := .lst [.int 1, .int (-1)]) (S1 := S1) rfl es_nil)) a2) rfl) (es_cons (x := .int 0) rfl es_nil)) rfl) (es_cons (x := .int 500) rfl es_nil)) rfl) es_nil))) hput))).trans rfl))).trans rfl)))⟩
theorem d_law {ns : List Int} {d : D} (hd : d = .scr (ns.map D.int) ∨ d = .lst (ns.map D.int)) : ∃ S', den g 12 i_law [d] [] = .ok (.bl true) S' := by
  obtain ⟨c, a1, hc⟩ := d_tape (k := 10) (S := []) hg.law_tape hd
  have hT0 : TapeAt 0 ([] ++ [c]) := ⟨c, rfl, hc⟩
  obtain ⟨td, S2, a2, htd, b2⟩ := d_sea (k := 6) hg hT0
  have hal := d_law_a_all_levels (k := 8) (S := S2) hg.law_a_gcd hg.law_a_period hg.law_a_level hg.law_a_all_levels htd.1 (by have := htd.2; omega)
  obtain ⟨ch, S3, hch, hc4, b3, a3⟩ := d_channel (k := 8) (v0 := some d) (v2 := some (tideD td)) (v3 := some (lvD (lvls td))) hg b2.at
  obtain ⟨z, S4, hz0, hz1, b4, a4⟩ := d_hour (k := 8) (v0 := some d) (v2 := some (tideD td)) (v3 := some (lvD (lvls td))) hg hch hc4 b3.at
  obtain ⟨a, S5, a5, ok, hat, b5⟩ := d_asking (k := 7) (z := z) hg htd hch hc4 hz0 (by omega) b4.at
  obtain ⟨b, kd, S6, okb, hbt, b6, a6⟩ := d_second (k := 6) (v0 := some d) (a := a) hg htd hch hc4 hz0 hz1 ok hat b5.at
  obtain ⟨ts, S7, a7, hts, b7⟩ := d_turns (k := 9) (many := 3) hg.law_draw hg.law_turns (by decide) (by decide) b6.at
  have inner : ∀ (i : Nat) (v10 : Option D) (S : Sto), ∃ (e' : En) (S' : Sto), forL (fun x e1 S2 => (match asgT (.nm 10) x e1 with
      | some e2 => exSs (den g 11) ((ir_law.at 9).bd.at 0).bd e2 S2
      | none => PV.R.bad)) [a.enc, b.enc, a.enc] [some d, some (.loc 0), some (tideD td), some (lvD (lvls td)), some (chD ch), some (.int z), some a.enc, some (.int kd), some (.int i), some b.enc, v10, none, none] S = .ok (.nx, e') S' ∧ ∃ v10', e' = [some d, some (.loc 0), some (tideD td), some (lvD (lvls td)), some (chD ch), some (.int z), some a.enc, some (.int kd), some (.int i), some b.enc, v10', none, none] := by
    intro i v10 S
    refine forL_inv (fun _ e' _ => ∃ v10', e' = [some d, some (.loc 0), some (tideD td), some (lvD (lvls td)), some (chD ch), some (.int z), some a.enc, some (.int kd), some (.int i), some b.enc, v10', none, none]) ⟨v10, rfl⟩ fun j x e' S' hx hp => ?_
    obtain ⟨v10', rfl⟩ := hp
    obtain ⟨q, rfl, hq, hqt⟩ : ∃ q : Aq, x = q.enc ∧ AqOk q ∧ q.td = td := by
      have := List.mem_of_getElem? hx
      simp only [List.mem_cons, List.not_mem_nil, or_false] at this
      rcases this with h | h | h
      · exact ⟨a, h, ok, hat⟩
      · exact ⟨b, h, okb, hbt⟩
      · exact ⟨a, h, ok, hat⟩
    obtain ⟨S8, hl⟩ := d_looked (k := 4) (S := S') hg hq (door := i)
    rw [hqt] at hl
    refine ⟨[some d, some (.loc 0), some (tideD td), some (lvD (lvls td)), some (chD ch), some (.int z), some a.enc, some (.int kd), some (.int i), some b.enc, some q.enc, none, none], S8, .inl ?_, _, rfl⟩
    exact (xs_cons ((x_F (S1 := S8) (et_not (k := true) (et_call (es_cons (ev_var rfl) (es_cons (ev_var rfl) (es_cons (ev_var rfl) es_nil))) hl))).trans rfl)).trans rfl
  have outer := forL_inv (f := fun x e1 S2 => (match asgT (.nm 8) x e1 with
      | some e2 => exSs (den g 11) (ir_law.at 9).bd e2 S2
      | none => PV.R.bad)) (xs := ts) (e := [some d, some (.loc 0), some (tideD td), some (lvD (lvls td)), some (chD ch), some (.int z), some a.enc, some (.int kd), none, some b.enc, none, none, none]) (S := S7) (fun _ e' _ => ∃ v8 v10, e' = [some d, some (.loc 0), some (tideD td), some (lvD (lvls td)), some (chD ch), some (.int z), some a.enc, some (.int kd), v8, some b.enc, v10, none, none]) ⟨none, none, rfl⟩ (fun j x e' S' hx hp => by
      obtain ⟨v8, v10, rfl⟩ := hp
      obtain ⟨i, hi, rfl⟩ := hts x (List.mem_of_getElem? hx)
      obtain ⟨e', S8, i1, v10', rfl⟩ := inner i v10 S'
      refine ⟨[some d, some (.loc 0), some (tideD td), some (lvD (lvls td)), some (chD ch), some (.int z), some a.enc, some (.int kd), some (.int i), some b.enc, v10', none, none], S8, .inl ?_, _, _, rfl⟩
      exact (xs_cons ((x_for (xs := [a.enc, b.enc, a.enc]) (S1 := S') (ei_seq (x := .lst [a.enc, b.enc, a.enc]) (ev_lst (es_cons (ev_var rfl) (es_cons (ev_var rfl) (es_cons (ev_var rfl) es_nil)))) rfl) rfl).trans i1)).trans rfl)
  obtain ⟨e', S8, o1, v8, v10, rfl⟩ := outer
  refine ⟨S8, ?_⟩
  rw [den_at hg.law]
  have r9 : Ret (exSs (den g 11) (ir_law.tl 9) [some d, some (.loc 0), some (tideD td), some (lvD (lvls td)), some (chD ch), some (.int z), some a.enc, some (.int kd), none, some b.enc, none, none, none] S6) (.bl true) S8 :=
    ret_cons ((x_for (xs := ts) (S1 := S7) (ei_seq (x := .lst ts) (ev_call (es_cons (ev_var rfl) (es_cons (x := .int 3) (S1 := S6) rfl es_nil)) a7) rfl) rfl).trans o1) (ret_ret rfl)
  have r7 : Ret (exSs (den g 11) (ir_law.tl 7) [some d, some (.loc 0), some (tideD td), some (lvD (lvls td)), some (chD ch), some (.int z), some a.enc, none, none, none, none, none, none] S5) (.bl true) S8 := by
    obtain ⟨e', h⟩ := r9
    exact ⟨e', (a6 (ir_law.tl 9)).trans h⟩
  have r6 : Ret (exSs (den g 11) (ir_law.tl 6) [some d, some (.loc 0), some (tideD td), some (lvD (lvls td)), some (chD ch), some (.int z), none, none, none, none, none, none, none] S4) (.bl true) S8 :=
    ret_cons (x_set (x := a.enc) (S1 := S5) (ev_call (es_cons (ev_var rfl) (es_cons (ev_var rfl) (es_cons (ev_var rfl) (es_cons (ev_var rfl) (es_cons (ev_var rfl) es_nil))))) a5)) r7
  have r4 : Ret (exSs (den g 11) (ir_law.tl 4) [some d, some (.loc 0), some (tideD td), some (lvD (lvls td)), some (chD ch), none, none, none, none, none, none, none, none] S3) (.bl true) S8 := by
    obtain ⟨e', h⟩ := r6
    exact ⟨e', (a4 (ir_law.tl 6)).trans h⟩
  exact Ret.run rfl (ret_cons (x_set (x := .loc 0) (S1 := [] ++ [c]) (ev_call (es_cons (x := d) (S1 := []) rfl es_nil) a1)) (ret_cons (x_set (x := tideD td) (S1 := S2) (ev_call (es_cons (x := .loc 0) (S1 := [] ++ [c]) rfl es_nil) a2)) (ret_cons (x_set (x := lvD (lvls td)) (S1 := S2) (ev_call (es_cons (x := tideD td) (S1 := S2) rfl es_nil) hal)) (ret_cons a3 r4))))
end
theorem hlaw : ∀ ns : List Int, ns.length ≤ 63 → ∀ d, (d = .scr (ns.map D.int) ∨ d = .lst (ns.map D.int)) → ∃ S', den fs 12 i_law [d] [] = .ok (.bl true) S' := fun ns _ d hd => d_law (g := fs) rfl hd
end L2.PV

theorem PySem.Challenge.cw_portsched_k77_whole_latest_departures_an_holds : PySem.Challenge.rw_portsched_k77_whole_latest_departures_an.Holds :=
  L2.PV.law_end L2.PV.hlaw
