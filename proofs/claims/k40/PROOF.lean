import PyProof.Rows.All
import Wide.All
import OpenK.AllK
import Wide.FinOn
import HandS.ForMost
import HandS.ForExc
import HandS.Wide
import HandS.Lambda
import HandS.Walk
import HandS.TryMany
import HandS.IsInst
import HandS.DictComp
import HandS.Conv
import HandS.More
import HandS.SortInts
import HandS.Zip
import HandS.NoneIn
import HandS.CallLocal
import HandS.TupLen
import HandS.ExcSuper
import HandS.Flow
import HandS.DeepEq
import PyProof.ReprRoads
import PyProof.CallFns
import HandS.TupAny
import HandS.SetFor
import KE.GoesMore
import HandS.ListItems
import KE.KDictSum
import KE.KDictZip
import KE.KDictPairs
import HandS.Nested
import KE.KExcSuper
import HandS.ExcField
import HandS.Defaults
import HandS.Head0
import HandS.Head1
import HandS.Head2
import HandS.HeadEnd
import HandS.HeadHook1
import HandS.HeadHook2
import HandS.HeadHook3
import HandS.HeadHook4
import HandS.HeadWalk
import HandS.NestedK
import PySem.Challenge.RW_ringwalkers_k40_whole_one_lacking
set_option Elab.async false
set_option linter.all false
set_option maxRecDepth 100000
section
set_option Elab.async false
set_option linter.all false
/-! DsA: data values, the small language, its meaning by wishes (no heap, no frames). -/
namespace DS
open PySem L2

/-- a key of a dict: an int or a text, or a tuple of such -/
abbrev DK := Sum Key (List Key)
/-- data: trees; what is changed in place stands at an address (mref) -/
inductive D where
  | non | bl (b : Bool) | int (i : Int) | str (s : Str)
  | lst (xs : List D) | tup (xs : List D) | dic (kvs : List (DK × D))
  | ins (c : Nat) (fs : List (Str × D))
  | mref (a : Addr) | fn (i : Nat)
  deriving Inhabited
inductive MO where
  | lst (xs : List D) | dic (kvs : List (DK × D)) | ins (c : Nat) (fs : List (Str × D))
/-- the store of what may be changed -/
abbrev Sto := Addr → Option MO
def Sto.put (M : Sto) (a : Addr) (o : MO) : Sto := fun b => if b = a then some o else M b
def Sto.del (M : Sto) (a : Addr) : Sto := fun b => if b = a then none else M b
/-- an exception: its class, its fields -/
structure Exn where
  c : Nat
  fs : List (Str × D)
abbrev Po (α : Type) := α → Sto → Prop
/-- what a name may hold: data, or a closure -/
inductive SV where
  | d (x : D) | clo (l : Nat) (cs : List D)
  deriving Inhabited
abbrev DEnv := List (Option SV)

def MO.d : MO → D
  | .lst xs => .lst xs
  | .dic k => .dic k
  | .ins c f => .ins c f
/-- a value as it stands now -/
def vw (M : Sto) : D → D
  | .mref a => match M a with
    | some o => o.d
    | none => .mref a
  | d => d

inductive Ty where
  | int | bool | str | list | tuple | dict | cls (c : Nat)
  deriving DecidableEq
inductive Cst where
  | non | bl (b : Bool) | int (i : Int) | str (s : Str)
  deriving DecidableEq
def Cst.d : Cst → D
  | .non => .non
  | .bl b => .bl b
  | .int i => .int i
  | .str s => .str s
/-- built-ins by one or two values -/
inductive Bi where
  | len | int | abs | min2 | max2 | min1 | max1 | sum | all | any | sorted | list | tuple | dict | repr
  deriving DecidableEq
/-- methods that change nothing -/
inductive Me where
  | index | count | get1 | get2
  deriving DecidableEq
/-- methods that change -/
inductive Mu where
  | append | pop1 | pop0 | extend | clear
  deriving DecidableEq
/-- what takes an iterator: list(zip(..)) -/
inductive Bt where
  | list | dict | sorted | tuple | sum | min | max | any
  deriving DecidableEq
/-- targets: a slot, or a flat tuple of slots -/
inductive Tg where
  | nm (i : Nat) | tp (is : List Nat)
  deriving DecidableEq

mutual
/-- expressions -/
inductive IE where
  | var (i : Nat)
  | cst (c : Cst)
  | glb (c : Cst)                       -- a module's constant
  | fnv (i : Nat)                       -- a def as a value
  | bin (op : Operator) (a b : IE)
  | neg (a : IE)
  | not (a : IE)
  | cmp (op : CmpOp) (a b : IE)
  | chn (op op' : CmpOp) (a b c : IE)
  | and (a b : IE)
  | or (a b : IE)
  | ite (c : IB) (a b : IE)
  | tup (es : List IE)
  | lst (mu : Bool) (es : List IE)
  | dic (mu : Bool) (tk : Bool) (es : List IE)      -- key, value, key, value
  | idx (a b : IE)
  | slc (bl bh : Bool) (a lo hi : IE)   -- bl, bh: given, or left out (then None)
  | rev (a : IE)                        -- a[::-1]
  | att (a : IE) (f : Str)
  | cal (f : Nat) (es : List IE)
  | cak (f : Nat) (ps : List Nat) (es : List IE)   -- by keywords: the place of each
  | mak (c : Nat) (es : List IE)
  | cav (i : Nat) (es : List IE)        -- a local name is called
  | calL (f : Nat) (as : List IA)       -- a call with lambdas among the arguments
  | bi (b : Bi) (es : List IE)
  | bt (b : Bt) (mu : Bool) (it : IT)
  | isi (a : IE) (ts : List Ty)
  | me (m : Me) (a : IE) (es : List IE)
  | mu (m : Mu) (a : IE) (es : List IE)
  | meth (m : Str) (a : IE) (es : List IE)  -- a method of an own class
  | cmpr (mu : Bool) (e : IE) (tg : Tg) (it : IT) (c : IB)
  | cmp2 (mu : Bool) (e : IE) (tg : Tg) (it : IT) (c : IB) (tg2 : Tg) (it2 : IT) (c2 : IB)
  | dcm (mu : Bool) (tk : Bool) (k v : IE) (tg : Tg) (it : IT) (c : IB)
  | mut (a : IE)                        -- what is made here is changed later
  | frz (a : IE)                        -- what stood in the store is not changed any more
/-- arguments: expressions, lambdas (with the captured slots) -/
inductive IA where
  | e (e : IE)
  | l (l : Nat) (cs : List Nat)
/-- tests -/
inductive IB where
  | and (a b : IB) | or (a b : IB) | not (a : IB) | val (e : IE) | yes
/-- what is walked -/
inductive IT where
  | of (e : IE)
  | enm (e : IE)
  | zip (a b : IE)
  | rng (a : IE)
  | rng2 (a b : IE)
  | itm (e : IE)
  | vls (e : IE)
  | itv (e : IE)                        -- d.items(), d.values() that are taken up at once
  | vlv (e : IE)
  | zpl (a b : IE)                      -- zip of two lists, taken up at once
end
structure Hnd where
  c : Nat
  w : Str
  f : Sum Str Cst
inductive IS where
  | asg (tg : Tg) (e : IE)
  | par (is : List Nat) (es : List IE)         -- a, b = e1, e2
  | set (o i e : IE)
  | fld (o : IE) (f : Str) (e : IE)
  | exp (e : IE)
  | iff (c : IB) (a b : List IS)
  | for (tg : Tg) (it : IT) (b : List IS)
  | whl (c : IB) (b : List IS)
  | ret (e : IE)
  | rai (c : Nat) (es : List IE)
  | met (tu : Bool) (w : Str) (e : IE) (hs : List Hnd)
  | pas
  | fzv (i : Nat)                              -- no text: the slot's object is not changed any more
structure FnI where
  np : Nat
  nn : Nat
  body : List IS
structure LamI where
  nc : Nat
  np : Nat
  nn : Nat
  body : IE
structure Prg where
  fns : Nat → Option FnI
  lams : Nat → Option LamI
  inits : Nat → Option Nat           -- __init__ of an own class
  excs : Nat → Option (List Str)     -- an error class: the names of its fields
  meths : Nat → Str → Option Nat

/-! ### operations on data -/
def keyOf1 : D → Option Key
  | .int i => some (.inl i)
  | .str s => some (.inr s)
  | _ => none
def keysOf : List D → Option (List Key)
  | [] => some []
  | d :: r => match keyOf1 d, keysOf r with
    | some k, some ks => some (k :: ks)
    | _, _ => none
def keyOf : D → Option DK
  | .tup ds => (keysOf ds).map .inr
  | d => (keyOf1 d).map .inl
def ofKey1 : Key → D
  | .inl i => .int i
  | .inr s => .str s
def ofKey : DK → D
  | .inl k => ofKey1 k
  | .inr ks => .tup (ks.map ofKey1)
def getK (kvs : List (DK × D)) (k : DK) : Option D := (kvs.find? fun kv => decide (kv.1 = k)).map (·.2)
def setK (kvs : List (DK × D)) (k : DK) (v : D) : List (DK × D) :=
  if (kvs.any fun kv => decide (kv.1 = k)) = true then kvs.map (fun kv => if kv.1 = k then (kv.1, v) else kv) else kvs ++ [(k, v)]
def mrgK (kvs : List (DK × D)) (more : List (DK × D)) : List (DK × D) := more.foldl (fun acc kv => setK acc kv.1 kv.2) kvs
def isTK : DK → Bool
  | .inl _ => false
  | .inr _ => true

mutual
def toP : D → Option PyData
  | .non => some .none
  | .bl b => some (.bool b)
  | .int i => some (.int i)
  | .str s => some (.str s)
  | .lst xs => (toPs xs).map .list
  | .tup xs => (toPs xs).map .tuple
  | _ => none
def toPs : List D → Option (List PyData)
  | [] => some []
  | d :: r => match toP d, toPs r with
    | some p, some ps => some (p :: ps)
    | _, _ => none
end
/-- equality, where both are data without dicts -/
def eqP (a b : D) : Option Bool := match toP a, toP b with
  | some p, some q => if SeqAt.shaped p = true ∧ SeqAt.shaped q = true then some (PyData.eqv p q) else none
  | _, _ => none
def eqD (a b : D) : Option Bool := match a, b with
  | .str x, .str y => some (decide (x = y))
  | a, b => eqP a b
/-! ### what repr tells -/
def flatP : D → Option PyData
  | .non => some .none
  | .bl b => some (.bool b)
  | .int i => some (.int i)
  | .str s => some (.str s)
  | _ => none
def keyP1 : Key → PyData
  | .inl i => .int i
  | .inr s => .str s
def keyP : DK → PyData
  | .inl k => keyP1 k
  | .inr ks => .tuple (ks.map keyP1)
def kvsP : List (DK × D) → Option (List (PyData × PyData))
  | [] => some []
  | (k, d) :: r => match flatP d, kvsP r with
    | some p, some ps => some ((keyP k, p) :: ps)
    | _, _ => none
def toPR : D → Option PyData
  | .dic kvs => (kvsP kvs).map .dict
  | d => toP d
def lim : Nat := 1048576
def isTy : Ty → D → Bool
  | .int, .int _ => true
  | .int, .bl _ => true
  | .bool, .bl _ => true
  | .str, .str _ => true
  | .list, .lst _ => true
  | .tuple, .tup _ => true
  | .dict, .dic _ => true
  | .cls c, .ins c' _ => c == c'
  | _, _ => false
/-- a value whose kind is known -/
def known : D → Bool
  | .mref _ => false
  | .fn _ => false
  | _ => true
def tru : D → Option Bool
  | .non => some false
  | .bl b => some b
  | .int i => some (i != 0)
  | .str s => if s.length ≤ lim then some (s.length != 0) else none
  | .lst xs => some (!xs.isEmpty)
  | .tup xs => some (!xs.isEmpty)
  | _ => none
def opBin (op : Operator) (x y : D) (M : Sto) (Q : Po D) : Prop :=
  match op, vw M x, vw M y with
  | .Add, .int i, .int j => Q (.int (i + j)) M
  | .Sub, .int i, .int j => Q (.int (i - j)) M
  | .Mult, .int i, .int j => (CMul i j ∨ CMulW i j) ∧ Q (.int (i * j)) M
  | .FloorDiv, .int i, .int j => (CDiv i j ∨ CDivW i j) ∧ Q (.int (i / j)) M
  | .Mod, .int i, .int j => 0 < j ∧ Q (.int (i % j)) M
  | .Pow, .int i, .int j => CPow i j ∧ Q (.int (i ^ j.toNat)) M
  | .Add, .str s, .str t => s.length + t.length ≤ lim ∧ Q (.str (s ++ t)) M
  | .Add, .lst xs, .lst ys => xs.length ≤ lim ∧ ys.length ≤ lim ∧ Q (.lst (xs ++ ys)) M
  | .Add, .tup xs, .tup ys => xs ≠ [] ∧ ys ≠ [] ∧ xs.length ≤ lim ∧ ys.length ≤ lim ∧ Q (.tup (xs ++ ys)) M
  | .Mult, .lst xs, .int j => j ≤ lim ∧ -(2 ^ 62) ≤ j ∧ xs.length * j.toNat ≤ lim ∧ Q (.lst (List.replicate j.toNat xs).flatten) M
  | _, _, _ => False
/-- a flat value -/
def flat : D → Option V
  | .non => some .non
  | .bl b => some (.bl b)
  | .int i => some (.int i)
  | .str s => some (.str s)
  | _ => none
def opCmp (op : CmpOp) (x y : D) (M : Sto) (Q : Po D) : Prop :=
  match op with
  | .Lt => ∃ i j, vw M x = .int i ∧ vw M y = .int j ∧ Q (.bl (decide (i < j))) M
  | .LtE => ∃ i j, vw M x = .int i ∧ vw M y = .int j ∧ Q (.bl (decide (i ≤ j))) M
  | .Gt => ∃ i j, vw M x = .int i ∧ vw M y = .int j ∧ Q (.bl (decide (j < i))) M
  | .GtE => ∃ i j, vw M x = .int i ∧ vw M y = .int j ∧ Q (.bl (decide (j ≤ i))) M
  | .Eq => (∃ b, eqD (vw M x) (vw M y) = some b ∧ Q (.bl b) M) ∨ ∃ ss : List Str, vw M x = .lst (ss.map .str) ∧ vw M y = .lst (ss.map .str) ∧ Q (.bl true) M
  | .NotEq => ∃ b, eqD (vw M x) (vw M y) = some b ∧ Q (.bl (!b)) M
  | .Is => y = .non ∧ known (vw M x) = true ∧ Q (.bl (match vw M x with | .non => true | _ => false)) M
  | .IsNot => y = .non ∧ known (vw M x) = true ∧ Q (.bl (match vw M x with | .non => false | _ => true)) M
  | .In => opIn x y M fun b => Q (.bl b) M
  | .NotIn => opIn x y M fun b => Q (.bl (!b)) M
where
  opIn (x y : D) (M : Sto) (Q : Bool → Prop) : Prop :=
    match vw M y with
    | .lst ys => ∃ v vs, flat x = some v ∧ ys.map flat = vs.map some ∧ Q (inV v vs)
    | .tup ys => ∃ v vs, flat x = some v ∧ ys.map flat = vs.map some ∧ Q (inV v vs)
    | .dic kvs => ∃ k, keyOf x = some k ∧ (∀ kv ∈ kvs, isTK kv.1 = isTK k) ∧ Q (getK kvs k).isSome
    | .str t => ∃ s, x = .str s ∧ Q (!(Builtin.Str.occurrences t s 0 t.length 1).isEmpty)
    | _ => False
def opIdx (x i : D) (M : Sto) (Q : Po D) : Prop :=
  match vw M x with
  | .lst xs => ∃ j d, i = .int j ∧ atI xs j = some d ∧ Q d M
  | .tup xs => ∃ j d, i = .int j ∧ atI xs j = some d ∧ Q d M
  | .str s => ∃ j c, i = .int j ∧ s.length ≤ lim ∧ atI s.cps.toList j = some c ∧ Q (.str ⟨#[c]⟩) M
  | .dic kvs => ∃ key d, keyOf i = some key ∧ (∀ kv ∈ kvs, isTK kv.1 = isTK key) ∧ getK kvs key = some d ∧ Q d M
  | _ => False
def slL {α : Type} (xs : List α) (lo hi : Option Int) : List α := (xs.drop (HT.sIx xs.length 0 lo)).take (HT.sIx xs.length xs.length hi - HT.sIx xs.length 0 lo)
def opSlc (x lo hi : D) (M : Sto) (Q : Po D) : Prop :=
  ∃ l h, ixO lo = some l ∧ ixO hi = some h ∧
  match vw M x with
  | .lst xs => Q (.lst (slL xs l h)) M
  | .tup xs => Q (.tup (slL xs l h)) M
  | _ => False
where
  ixO : D → Option (Option Int)
    | .non => some none
    | .int j => if -(2 ^ 62) ≤ j ∧ j < 2 ^ 62 then some (some j) else none
    | _ => none
def intsD : List D → Option (List Int)
  | [] => some []
  | .int i :: r => (intsD r).map (i :: ·)
  | _ => none
def bls : List D → Option (List Bool)
  | [] => some []
  | .bl i :: r => (bls r).map (i :: ·)
  | _ => none
/-- pairs (key, value) -/
def pairsK : List D → Option (List (DK × D))
  | [] => some []
  | .tup [k, v] :: r => match keyOf k, pairsK r with
    | some k, some r => some ((k, v) :: r)
    | _, _ => none
  | _ => none
def pairUp : List D → Option (List (DK × D))
  | [] => some []
  | k :: v :: r => match keyOf k, pairUp r with
    | some k, some r => some ((k, v) :: r)
    | _, _ => none
  | _ => none
/-! ### repr -/
def commaS : List Str → Str
  | [] => ⟨#[]⟩
  | [x] => x
  | x :: y :: r => x ++ (Str.ofString ", ") ++ commaS (y :: r)
def oRepr (d : D) (M : Sto) (Q : Po D) : Prop := ∃ p, toPR (vw M d) = some p ∧ p.showable = true ∧ p.depth ≤ 60 ∧ p.shown.length ≤ lim ∧ Q (.str p.shown) M
def op1 (f : D → Sto → Po D → Prop) (ds : List D) (M : Sto) (Q : Po D) : Prop := match ds with
  | [d] => f d M Q
  | _ => False
def op2 (f : D → D → Sto → Po D → Prop) (ds : List D) (M : Sto) (Q : Po D) : Prop := match ds with
  | [d, e] => f d e M Q
  | _ => False
def oLen (d : D) (M : Sto) (Q : Po D) : Prop := match vw M d with
  | .lst xs => Q (.int xs.length) M
  | .tup xs => Q (.int xs.length) M
  | .dic kvs => Q (.int kvs.length) M
  | .str s => s.length ≤ lim ∧ Q (.int s.length) M
  | _ => False
def oInt (d : D) (M : Sto) (Q : Po D) : Prop := match d with
  | .int i => Q (.int i) M
  | .bl i => Q (.int (if i then 1 else 0)) M
  | _ => False
def oAbs (d : D) (M : Sto) (Q : Po D) : Prop := ∃ i, d = .int i ∧ Q (.int (if i < 0 then -i else i)) M
def oMin2 (d e : D) (M : Sto) (Q : Po D) : Prop := ∃ i j, d = .int i ∧ e = .int j ∧ Q (.int (if j < i then j else i)) M
def oMax2 (d e : D) (M : Sto) (Q : Po D) : Prop := ∃ i j, d = .int i ∧ e = .int j ∧ Q (.int (if j > i then j else i)) M
def oSum (d : D) (M : Sto) (Q : Po D) : Prop := ∃ xs ns, vw M d = .lst xs ∧ intsD xs = some ns ∧ Q (.int ns.sum) M
def oAll (d : D) (M : Sto) (Q : Po D) : Prop := ∃ xs bs, vw M d = .lst xs ∧ bls xs = some bs ∧ Q (.bl (bs.all id)) M
def oAny (d : D) (M : Sto) (Q : Po D) : Prop := ∃ xs bs, vw M d = .lst xs ∧ bls xs = some bs ∧ Q (.bl (bs.any id)) M
def oMax1 (d : D) (M : Sto) (Q : Po D) : Prop := ∃ xs ns, vw M d = .lst xs ∧ intsD xs = some ns ∧ ns ≠ [] ∧ ∀ m ∈ ns, (∀ y ∈ ns, y ≤ m) → Q (.int m) M
def oMin1 (d : D) (M : Sto) (Q : Po D) : Prop := ∃ xs ns, vw M d = .lst xs ∧ intsD xs = some ns ∧ ns ≠ [] ∧ ∀ m ∈ ns, (∀ y ∈ ns, m ≤ y) → Q (.int m) M
def oSorted (d : D) (M : Sto) (Q : Po D) : Prop := ∃ xs ns, vw M d = .lst xs ∧ intsD xs = some ns ∧ ∀ ns' : List Int, ns'.Perm ns → ns'.Pairwise (· ≤ ·) → Q (.lst (ns'.map .int)) M
def oList (d : D) (M : Sto) (Q : Po D) : Prop := match vw M d with
  | .lst xs => Q (.lst xs) M
  | .tup xs => Q (.lst xs) M
  | .dic kvs => Q (.lst (kvs.map fun kv => ofKey kv.1)) M
  | _ => False
def oTuple (d : D) (M : Sto) (Q : Po D) : Prop := match vw M d with
  | .lst xs => Q (.tup xs) M
  | .tup xs => Q (.tup xs) M
  | _ => False
def oDict (d : D) (M : Sto) (Q : Po D) : Prop := match vw M d with
  | .lst xs => ∃ kvs, pairsK xs = some kvs ∧ (∀ kv ∈ kvs, isTK kv.1 = false) ∧ Q (.dic (mrgK [] kvs)) M
  | .dic kvs => kvs ≠ [] ∧ (∀ kv ∈ kvs, isTK kv.1 = false) ∧ Q (.dic kvs) M
  | _ => False
def opBi (b : Bi) : List D → Sto → Po D → Prop := match b with
  | .len => op1 oLen
  | .int => op1 oInt
  | .abs => op1 oAbs
  | .min2 => op2 oMin2
  | .max2 => op2 oMax2
  | .sum => op1 oSum
  | .all => op1 oAll
  | .any => op1 oAny
  | .max1 => op1 oMax1
  | .min1 => op1 oMin1
  | .sorted => op1 oSorted
  | .list => op1 oList
  | .tuple => op1 oTuple
  | .dict => op1 oDict
  | .repr => op1 oRepr
/-- rest of an own class's field -/
def opAtt (x : D) (f : Str) (M : Sto) (Q : Po D) : Prop := ∃ c fs d, vw M x = .ins c fs ∧ fs.lookup f = some d ∧ Q d M
def seqOf : D → Option (List D)
  | .lst xs => some xs
  | .tup xs => some xs
  | _ => none
def opMe (m : Me) (x : D) (ds : List D) (M : Sto) (Q : Po D) : Prop :=
  match m with
  | .index => ∃ (y : D) (xs : List D) (v : V) (vs : List V) (j : Nat) (z : V), ds = [y] ∧ vw M x = .lst xs ∧ flat y = some v ∧ xs.map flat = vs.map some ∧ vs[j]? = some z ∧ eqV z v = true ∧
      (∀ (m : Nat) (z' : V), m < j → vs[m]? = some z' → eqV z' v = false) ∧ Q (.int (j : Nat)) M
  | .count => ∃ (k : Int) (xs : List D) (ns : List Int), ds = [.int k] ∧ vw M x = .lst xs ∧ intsD xs = some ns ∧ Q (.int (ns.count k : Nat)) M
  | .get1 => ∃ y kvs k, ds = [y] ∧ x = .dic kvs ∧ keyOf y = some k ∧ kvs ≠ [] ∧ (∀ kv ∈ kvs, isTK kv.1 = isTK k) ∧ Q ((getK kvs k).getD .non) M
  | .get2 => ∃ y z kvs k, ds = [y, z] ∧ x = .dic kvs ∧ keyOf y = some k ∧ kvs ≠ [] ∧ (∀ kv ∈ kvs, isTK kv.1 = isTK k) ∧ Q ((getK kvs k).getD z) M
/-- the kind whose method it is -/
def Me.ty : Me → Ty
  | .index => .list
  | .count => .list
  | _ => .dict
/-- a change in place; behind it M -/
def opMu (m : Mu) (x : D) (ds : List D) (M : Sto) (Q : Po D) : Prop :=
  ∃ (a : Addr) (xs : List D), x = .mref a ∧ M a = some (.lst xs) ∧
  match m with
  | .append => ∃ d, ds = [d] ∧ xs.length < lim ∧ Q .non (M.put a (.lst (xs ++ [d])))
  | .pop1 => ∃ (j : Int) (d : D), ds = [.int j] ∧ 0 ≤ j ∧ j < xs.length ∧ xs[j.toNat]? = some d ∧ Q d (M.put a (.lst (xs.eraseIdx j.toNat)))
  | .pop0 => ∃ d, ds = [] ∧ xs[xs.length - 1]? = some d ∧ Q d (M.put a (.lst xs.dropLast))
  | .extend => ∃ d ys, ds = [d] ∧ vw M d = .lst ys ∧ d ≠ .mref a ∧ xs.length ≤ lim ∧ ys.length ≤ lim ∧ Q .non (M.put a (.lst (xs ++ ys)))
  | .clear => ds = [] ∧ Q .non (M.put a (.lst []))
def opSet (x i d : D) (M : Sto) (Q : Sto → Prop) : Prop :=
  ∃ a, x = .mref a ∧
  match M a with
  | some (.lst xs) => ∃ j, i = .int j ∧ 0 ≤ j ∧ j < xs.length ∧ Q (M.put a (.lst (xs.set j.toNat d)))
  | some (.dic kvs) => ∃ k, keyOf i = some k ∧ (∀ kv ∈ kvs, isTK kv.1 = isTK k) ∧ kvs.length < lim ∧ Q (M.put a (.dic (setK kvs k d)))
  | _ => False
/-- what is made is changed later (then it stands in the store), or not -/
def made (mu : Bool) (d : D) (M : Sto) (Q : Po D) : Prop :=
  if mu then (match d with
    | .lst xs => ∀ p, M p = none → Q (.mref p) (M.put p (.lst xs))
    | .dic kvs => ∀ p, M p = none → Q (.mref p) (M.put p (.dic kvs))
    | _ => False)
  else Q d M
def frozen (d : D) (M : Sto) (Q : Po D) : Prop :=
  match d with
  | .mref a => ∃ o, M a = some o ∧ Q o.d (M.del a)
  | d => Q d M
/-- what is walked, what must hold at each turn, the store -/
abbrev IQ := List D → (Sto → Prop) → Sto → Prop
def anyS : Sto → Prop := fun _ => True
def sameS (d : D) (M : Sto) : Sto → Prop := fun M' => vw M' d = vw M d
def bindTg : Tg → D → DEnv → Option DEnv
  | .nm i, d, ρ => some (ρ.set i (some (.d d)))
  | .tp is, d, ρ => (seqOf d).bind fun xs => if xs.length = is.length then some ((is.zip xs).foldl (fun ρ (p : Nat × D) => ρ.set p.1 (some (.d p.2))) ρ) else none
def Tg.slots : Tg → List Nat
  | .nm i => [i]
  | .tp is => is
/-- the slots of a block's own names are empty in it -/
def wipeD (ρ : DEnv) : List Nat → DEnv
  | [] => ρ
  | v :: vs => (wipeD ρ vs).set v none

/-- the items that are walked, told one by one; g at each turn -/
def mapM' (g : Sto → Prop) (f : D → Sto → Po (Option D) → Prop) : List D → Sto → Po (List D) → Prop
  | [], M, Q => g M ∧ Q [] M
  | x :: xs, M, Q => g M ∧ f x M fun o M1 => mapM' g f xs M1 fun ys M2 => Q (o.toList ++ ys) M2
/-- .. where each gives several -/
def mapM'' (g : Sto → Prop) (f : D → Sto → Po (List D) → Prop) : List D → Sto → Po (List D) → Prop
  | [], M, Q => g M ∧ Q [] M
  | x :: xs, M, Q => g M ∧ f x M fun o M1 => mapM'' g f xs M1 fun ys M2 => Q (o ++ ys) M2
def walkM (g : Sto → Prop) (f : D → DEnv → Sto → (DEnv → Sto → Prop) → Prop) : List D → DEnv → Sto → (DEnv → Sto → Prop) → Prop
  | [], ρ, M, Q => g M ∧ Q ρ M
  | x :: xs, ρ, M, Q => g M ∧ f x ρ M fun ρ1 M1 => walkM g f xs ρ1 M1 Q

/-! ### the meaning -/
structure Calls where
  fn : Nat → List SV → Sto → Po D → Po Exn → Prop
  clo : Nat → List D → List D → Sto → Po D → Po Exn → Prop
def noEx : Po Exn := fun _ _ => False
def arrange {α : Type} (ps : List Nat) (ds : List α) : List α := (List.range ps.length).filterMap fun i => (ps.zip ds).lookup i
def slotsD (ρ : DEnv) : List Nat → Option (List D)
  | [] => some []
  | i :: is => match ρ[i]?, slotsD ρ is with
    | some (some (.d d)), some ds => some (d :: ds)
    | _, _ => none
def litD (t : Bool) (xs : List D) : D := if t then .tup xs else .lst xs
def enumD : Nat → List D → List D
  | _, [] => []
  | i, x :: xs => .tup [.int i, x] :: enumD (i + 1) xs
def zipD : List D → List D → List D
  | x :: xs, y :: ys => .tup [x, y] :: zipD xs ys
  | _, _ => []
def signs (s : Str) : List D := s.cps.toList.map fun c => .str ⟨#[c]⟩
def itOf (d : D) (M : Sto) (Q : IQ) : Prop :=
  match vw M d with
  | .lst xs => Q xs (sameS d M) M
  | .tup xs => Q xs anyS M
  | .dic kvs => d = .dic kvs ∧ Q (kvs.map fun kv => ofKey kv.1) anyS M
  | .str s => Q (signs s) anyS M
  | _ => False
def itRng (lo hi : Int) (M : Sto) (Q : IQ) : Prop :=
  -(2 ^ 62) ≤ lo ∧ lo < 2 ^ 62 ∧ -(2 ^ 62) ≤ hi ∧ hi < 2 ^ 62 ∧ Q ((List.range (hi - lo).toNat).map fun (i : Nat) => .int (lo + i)) anyS M
def opBt (b : Bt) (mu : Bool) (xs : List D) (M : Sto) (Q : Po D) : Prop :=
  match b with
  | .list => xs.length ≤ lim ∧ made mu (.lst xs) M Q
  | .tuple => xs.length ≤ lim ∧ Q (.tup xs) M
  | .dict => ∃ kvs, pairsK xs = some kvs ∧ (∀ kv ∈ kvs, isTK kv.1 = false) ∧ made mu (.dic (mrgK [] kvs)) M Q
  | .sorted => ∃ ns, intsD xs = some ns ∧ ∀ ns' : List Int, ns'.Perm ns → ns'.Pairwise (· ≤ ·) → made mu (.lst (ns'.map .int)) M Q
  | .sum => ∃ ns, intsD xs = some ns ∧ Q (.int ns.sum) M
  | .max => ∃ ns, intsD xs = some ns ∧ ns ≠ [] ∧ ∀ m ∈ ns, (∀ y ∈ ns, y ≤ m) → Q (.int m) M
  | .min => ∃ ns, intsD xs = some ns ∧ ns ≠ [] ∧ ∀ m ∈ ns, (∀ y ∈ ns, m ≤ y) → Q (.int m) M
  | .any => ∃ bs, bls xs = some bs ∧ Q (.bl (bs.any id)) M
section
variable (P : Prg) (Φ : Calls)
def isCall : SV → Bool
  | .d (.fn _) => true
  | .clo _ _ => true
  | _ => false
def callD (s : SV) (ds : List D) (M : Sto) (Q : Po D) (E : Po Exn) : Prop :=
  match s with
  | .d (.fn f) => Φ.fn f (ds.map .d) M Q E
  | .clo l cs => Φ.clo l cs ds M Q E
  | _ => False
mutual
def wpE : IE → DEnv → Sto → Po D → Po Exn → Prop
  | .var i, ρ, M, Q, _ => ∃ d, ρ[i]? = some (some (.d d)) ∧ Q d M
  | .cst c, _, M, Q, _ => Q c.d M
  | .glb c, _, M, Q, _ => Q c.d M
  | .fnv i, _, M, Q, _ => Q (.fn i) M
  | .bin op a b, ρ, M, Q, E => wpE a ρ M (fun x M1 => wpE b ρ M1 (fun y M2 => opBin op x y M2 Q) E) E
  | .neg a, ρ, M, Q, E => wpE a ρ M (fun x M1 => ∃ i, x = .int i ∧ Q (.int (-i)) M1) E
  | .not a, ρ, M, Q, E => wpE a ρ M (fun x M1 => ∃ b, tru (vw M1 x) = some b ∧ Q (.bl (!b)) M1) E
  | .cmp op a b, ρ, M, Q, E => wpE a ρ M (fun x M1 => wpE b ρ M1 (fun y M2 => opCmp op x y M2 Q) E) E
  | .chn op op' a b c, ρ, M, Q, E => wpE a ρ M (fun x M1 => wpE b ρ M1 (fun y M2 => opCmp op x y M2 fun z M3 => ∃ k, z = .bl k ∧
      if k = true then wpE c ρ M3 (fun u M4 => opCmp op' y u M4 Q) E else Q (.bl false) M3) E) E
  | .and a b, ρ, M, Q, E => wpE a ρ M (fun x M1 => ∃ c, x = .bl c ∧ if c = true then wpE b ρ M1 Q E else Q (.bl false) M1) E
  | .or a b, ρ, M, Q, E => wpE a ρ M (fun x M1 => ∃ c, x = .bl c ∧ if c = true then Q (.bl true) M1 else wpE b ρ M1 Q E) E
  | .ite c a b, ρ, M, Q, E => wpT c ρ M (fun k M1 => if k = true then wpE a ρ M1 Q E else wpE b ρ M1 Q E) E
  | .tup es, ρ, M, Q, E => wpEs es ρ M (fun ds M1 => Q (.tup ds) M1) E
  | .lst mu es, ρ, M, Q, E => wpEs es ρ M (fun ds M1 => made mu (.lst ds) M1 Q) E
  | .dic mu tk es, ρ, M, Q, E => wpEs es ρ M (fun ds M1 => ∃ kvs, pairUp ds = some kvs ∧ kvs.length ≤ 15 ∧ (∀ kv ∈ kvs, isTK kv.1 = tk) ∧ made mu (.dic (mrgK [] kvs)) M1 Q) E
  | .idx a b, ρ, M, Q, E => wpE a ρ M (fun x M1 => wpE b ρ M1 (fun y M2 => opIdx x y M2 Q) E) E
  | .slc bl bh a lo hi, ρ, M, Q, E => wpE a ρ M (fun x M1 => wpE lo ρ M1 (fun l M2 => (bl = true → l ≠ .non) ∧ ∃ o, opSlc.ixO l = some o ∧ wpE hi ρ M2 (fun h M3 => (bh = true → h ≠ .non) ∧ ∃ o, opSlc.ixO h = some o ∧ opSlc x l h M3 Q) E) E) E
  | .rev a, ρ, M, Q, E => wpE a ρ M (fun x M1 => match vw M1 x with
      | .lst xs => Q (.lst xs.reverse) M1
      | .tup xs => Q (.tup xs.reverse) M1
      | _ => False) E
  | .att a f, ρ, M, Q, E => wpE a ρ M (fun x M1 => opAtt x f M1 Q) E
  | .cal f es, ρ, M, Q, E => wpEs es ρ M (fun ds M1 => Φ.fn f (ds.map .d) M1 Q E) E
  | .calL f as, ρ, M, Q, E => wpAs as ρ M (fun ss M1 => Φ.fn f ss M1 Q noEx) E
  | .cak f ps es, ρ, M, Q, E => wpEs es ρ M (fun ds M1 => Φ.fn f ((arrange ps ds).map .d) M1 Q E) E
  | .mak c es, ρ, M, Q, E => ∃ f, P.inits c = some f ∧ wpEs es ρ M (fun ds M1 => ∀ p, M1 p = none →
      Φ.fn f (.d (.mref p) :: ds.map .d) (M1.put p (.ins c [])) (fun d M2 => d = .non ∧ ∃ o, M2 p = some o ∧ Q o.d (M2.del p)) noEx) E
  | .cav i es, ρ, M, Q, E => ∃ d, ρ[i]? = some (some d) ∧ isCall d = true ∧ wpEs es ρ M (fun ds M1 => callD Φ d ds M1 Q E) E
  | .bi b es, ρ, M, Q, E => wpEs es ρ M (fun ds M1 => opBi b ds M1 Q) E
  | .bt b mu it, ρ, M, Q, E => wpI it ρ M (fun xs _ M1 => opBt b mu xs M1 Q) E
  | .isi a ts, ρ, M, Q, E => wpE a ρ M (fun x M1 => known (vw M1 x) = true ∧ Q (.bl (ts.any fun t => isTy t (vw M1 x))) M1) E
  | .me m a es, ρ, M, Q, E => wpE a ρ M (fun x M1 => isTy m.ty (vw M1 x) = true ∧ wpEs es ρ M1 (fun ds M2 => opMe m x ds M2 Q) E) E
  | .mu m a es, ρ, M, Q, E => wpE a ρ M (fun x M1 => isTy .list (vw M1 x) = true ∧ wpEs es ρ M1 (fun ds M2 => opMu m x ds M2 Q) E) E
  | .meth m a es, ρ, M, Q, E => wpE a ρ M (fun x M1 => ∃ c fs f, x = .ins c fs ∧ P.meths c m = some f ∧ wpEs es ρ M1 (fun ds M2 => Φ.fn f (.d x :: ds.map .d) M2 Q E) E) E
  | .cmpr mu e tg it c, ρ, M, Q, E => wpI it ρ M (fun xs g M1 => xs.length ≤ lim ∧ mapM' g (fun x M2 K => ∃ ρ', bindTg tg x (wipeD ρ tg.slots) = some ρ' ∧
      wpT c ρ' M2 (fun b M3 => if b = true then wpE e ρ' M3 (fun d M4 => K (some d) M4) noEx else K none M3) noEx) xs M1 fun ys M2 => made mu (.lst ys) M2 Q) E
  | .cmp2 mu e tg it c tg2 it2 c2, ρ, M, Q, E => wpI it ρ M (fun xs g M1 => xs.length ≤ 4096 ∧ mapM'' g (fun x M2 K => ∃ ρ', bindTg tg x (wipeD ρ (tg.slots ++ tg2.slots)) = some ρ' ∧
      wpT c ρ' M2 (fun b M3 => if b = true then wpI it2 ρ' M3 (fun zs g2 M4 => zs.length ≤ 4096 ∧ mapM' g2 (fun z M5 K2 => ∃ ρ2, bindTg tg2 z (wipeD ρ' tg2.slots) = some ρ2 ∧
        wpT c2 ρ2 M5 (fun b M6 => if b = true then wpE e ρ2 M6 (fun d M7 => K2 (some d) M7) noEx else K2 none M6) noEx) zs M4 K) noEx else K [] M3) noEx) xs M1 fun ys M2 => made mu (.lst ys) M2 Q) E
  | .dcm mu tk k v tg it c, ρ, M, Q, E => wpI it ρ M (fun xs g M1 => xs.length ≤ lim ∧ mapM' g (fun x M2 K => ∃ ρ', bindTg tg x (wipeD ρ tg.slots) = some ρ' ∧
      wpT c ρ' M2 (fun b M3 => if b = true then wpE k ρ' M3 (fun y M4 => wpE v ρ' M4 (fun z M5 => (∃ key, keyOf y = some key ∧ isTK key = tk) ∧ K (some (.tup [y, z])) M5) noEx) noEx else K none M3) noEx) xs M1 fun ys M2 =>
      ∃ kvs, pairsK ys = some kvs ∧ (∀ kv ∈ kvs, isTK kv.1 = tk) ∧ made mu (.dic (mrgK [] kvs)) M2 Q) E
  | .mut a, ρ, M, Q, E => wpE a ρ M (fun d M1 => made true d M1 Q) E
  | .frz a, ρ, M, Q, E => wpE a ρ M (fun d M1 => frozen d M1 Q) E
def wpT : IB → DEnv → Sto → Po Bool → Po Exn → Prop
  | .and a b, ρ, M, Q, E => wpT a ρ M (fun c M1 => if c = true then wpT b ρ M1 Q E else Q false M1) E
  | .or a b, ρ, M, Q, E => wpT a ρ M (fun c M1 => if c = true then Q true M1 else wpT b ρ M1 Q E) E
  | .not a, ρ, M, Q, E => wpT a ρ M (fun c M1 => Q (!c) M1) E
  | .val e, ρ, M, Q, E => wpE e ρ M (fun x M1 => ∃ b, tru (vw M1 x) = some b ∧ Q b M1) E
  | .yes, _, M, Q, _ => Q true M
def wpEs : List IE → DEnv → Sto → Po (List D) → Po Exn → Prop
  | [], _, M, Q, _ => Q [] M
  | e :: es, ρ, M, Q, E => wpE e ρ M (fun d M1 => wpEs es ρ M1 (fun ds M2 => Q (d :: ds) M2) E) E
def wpAs : List IA → DEnv → Sto → Po (List SV) → Po Exn → Prop
  | [], _, M, Q, _ => Q [] M
  | .e e :: r, ρ, M, Q, E => wpE e ρ M (fun d M1 => wpAs r ρ M1 (fun ss M2 => Q (.d d :: ss) M2) E) E
  | .l l cs :: r, ρ, M, Q, E => ∃ ds, slotsD ρ cs = some ds ∧ wpAs r ρ M (fun ss M2 => Q (.clo l ds :: ss) M2) E
def wpI : IT → DEnv → Sto → IQ → Po Exn → Prop
  | .of e, ρ, M, Q, E => wpE e ρ M (fun d M1 => itOf d M1 Q) E
  | .enm e, ρ, M, Q, E => wpE e ρ M (fun d M1 => ∃ xs, seqOf (vw M1 d) = some xs ∧ Q (enumD 0 xs) (sameS d M1) M1) E
  | .zip a b, ρ, M, Q, E => wpE a ρ M (fun x M1 => wpE b ρ M1 (fun y M2 => ∃ xs ys, ((vw M2 x = .lst xs ∧ vw M2 y = .lst ys) ∨ (x = .tup xs ∧ y = .tup ys)) ∧ Q (zipD xs ys) (fun M3 => sameS x M2 M3 ∧ sameS y M2 M3) M2) E) E
  | .rng a, ρ, M, Q, E => wpE a ρ M (fun x M1 => ∃ i, x = .int i ∧ itRng 0 i M1 Q) E
  | .rng2 a b, ρ, M, Q, E => wpE a ρ M (fun x M1 => wpE b ρ M1 (fun y M2 => ∃ i j, x = .int i ∧ y = .int j ∧ itRng i j M2 Q) E) E
  | .itm e, ρ, M, Q, E => wpE e ρ M (fun d M1 => ∃ kvs, d = .dic kvs ∧ (∀ kv ∈ kvs, isTK kv.1 = false) ∧ Q (kvs.map fun kv => .tup [ofKey kv.1, kv.2]) anyS M1) E
  | .itv e, ρ, M, Q, E => wpE e ρ M (fun d M1 => ∃ kvs, vw M1 d = .dic kvs ∧ (∀ kv ∈ kvs, isTK kv.1 = false) ∧ Q (kvs.map fun kv => .tup [ofKey kv.1, kv.2]) anyS M1) E
  | .zpl a b, ρ, M, Q, E => wpE a ρ M (fun x M1 => wpE b ρ M1 (fun y M2 => ∃ xs ys, (vw M2 x = .lst xs ∧ vw M2 y = .lst ys) ∧ Q (zipD xs ys) anyS M2) E) E
  | .vlv e, ρ, M, Q, E => wpE e ρ M (fun d M1 => ∃ kvs, vw M1 d = .dic kvs ∧ (∀ kv ∈ kvs, isTK kv.1 = false) ∧ Q (kvs.map fun kv => kv.2) anyS M1) E
  | .vls e, ρ, M, Q, E => wpE e ρ M (fun d M1 => ∃ kvs, d = .dic kvs ∧ (∀ kv ∈ kvs, isTK kv.1 = false) ∧ Q (kvs.map fun kv => kv.2) anyS M1) E
end
/-- what follows a statement -/
structure Nxt where
  nx : DEnv → Sto → Prop
  rt : Po D
  ex : Po Exn
def hndD (tu : Bool) : List Hnd → Exn → Sto → Nxt → Prop
  | [], x, M, N => N.ex x M
  | h :: hs, x, M, N => if h.c = x.c then (match h.f with
      | .inl f => ∃ d, x.fs.lookup f = some d ∧ N.rt (litD tu [.str h.w, d]) M
      | .inr c => N.rt (litD tu [.str h.w, c.d]) M) else hndD tu hs x M N
def whileN (t : DEnv → Sto → Po Bool → Prop) (b : DEnv → Sto → (DEnv → Sto → Prop) → Prop) (Q : DEnv → Sto → Prop) : Nat → DEnv → Sto → Prop
  | 0, _, _ => False
  | n + 1, ρ, M => t ρ M fun c M1 => if c = true then b ρ M1 (whileN t b Q n) else Q ρ M1
mutual
def wpS : IS → DEnv → Sto → Nxt → Prop
  | .asg tg e, ρ, M, N => wpE P Φ e ρ M (fun d M1 => ∃ ρ1, bindTg tg d ρ = some ρ1 ∧ N.nx ρ1 M1) N.ex
  | .par is es, ρ, M, N => wpEs P Φ es ρ M (fun ds M1 => ds.length = is.length ∧ N.nx ((is.zip ds).foldl (fun ρ (p : Nat × D) => ρ.set p.1 (some (.d p.2))) ρ) M1) N.ex
  | .set o i e, ρ, M, N => wpE P Φ e ρ M (fun d M1 => wpE P Φ o ρ M1 (fun x M2 => wpE P Φ i ρ M2 (fun j M3 => opSet x j d M3 fun M4 => N.nx ρ M4) N.ex) N.ex) N.ex
  | .fld o f e, ρ, M, N => wpE P Φ e ρ M (fun d M1 => wpE P Φ o ρ M1 (fun x M2 => ∃ a c fs, x = .mref a ∧ M2 a = some (.ins c fs) ∧ fs.length < 900 ∧ fs.lookup f = none ∧ N.nx ρ (M2.put a (.ins c (fs ++ [(f, d)])))) N.ex) N.ex
  | .exp e, ρ, M, N => wpE P Φ e ρ M (fun _ M1 => N.nx ρ M1) N.ex
  | .iff c a b, ρ, M, N => wpT P Φ c ρ M (fun k M1 => if k = true then wpSs a ρ M1 N else wpSs b ρ M1 N) N.ex
  | .for tg it b, ρ, M, N => wpI P Φ it ρ M (fun xs g M1 => walkM g (fun x ρ1 M2 K => ∃ ρ2, bindTg tg x ρ1 = some ρ2 ∧ wpSs b ρ2 M2 { N with nx := K }) xs ρ M1 N.nx) N.ex
  | .whl c b, ρ, M, N => ∃ n, whileN (fun ρ1 M1 Q => wpT P Φ c ρ1 M1 Q N.ex) (fun ρ1 M1 K => wpSs b ρ1 M1 { N with nx := K }) N.nx n ρ M
  | .ret e, ρ, M, N => wpE P Φ e ρ M (fun d M1 => N.rt d M1) N.ex
  | .rai c es, ρ, M, N => ∃ ns, P.excs c = some ns ∧ wpEs P Φ es ρ M (fun ds M1 => ds.length = ns.length ∧ N.ex ⟨c, ns.zip ds⟩ M1) N.ex
  | .met tu w e hs, ρ, M, N => wpE P Φ e ρ M (fun d M1 => N.rt (litD tu [.str w, d]) M1) (fun x M1 => hndD tu hs x M1 N)
  | .pas, ρ, M, N => N.nx ρ M
  | .fzv i, ρ, M, N => ∃ d, ρ[i]? = some (some (.d d)) ∧ frozen d M fun d' M1 => N.nx (ρ.set i (some (.d d'))) M1
def wpSs : List IS → DEnv → Sto → Nxt → Prop
  | [], ρ, M, N => N.nx ρ M
  | s :: ss, ρ, M, N => wpS s ρ M { N with nx := fun ρ1 M1 => wpSs ss ρ1 M1 N }
end
end
def emptyN (n : Nat) : DEnv := List.replicate n none
/-- a def's meaning by levels -/
def Phi (P : Prg) : Nat → Calls
  | 0 => ⟨fun _ _ _ _ _ => False, fun _ _ _ _ _ _ => False⟩
  | n + 1 => ⟨fun f ds M Q E => ∃ fi, P.fns f = some fi ∧ ds.length = fi.np ∧ wpSs P (Phi P n) fi.body (ds.map some ++ emptyN (fi.nn - fi.np)) M ⟨fun _ M' => Q .non M', Q, E⟩,
      fun l cs ds M Q E => ∃ li, P.lams l = some li ∧ ds.length = li.np ∧ cs.length = li.nc ∧ wpE P (Phi P n) li.body (ds.map (fun d => some (.d d)) ++ cs.map (fun d => some (.d d)) ++ emptyN (li.nn - (li.np + li.nc))) M Q E⟩
end DS
end
section
set_option Elab.async false
set_option linter.all false
set_option maxRecDepth 100000
/-! DsB: how data lie in the heap; what is kept. -/
namespace DS
open PySem PySem.Spec PyProof.Rows L2 LamX

/-- a lambda's text: its qualified name, parameters, body, scope; the captured names; the slots' names -/
structure LamTxt where
  qual : Str
  params : Arguments
  body : Expr
  scope : Scope
  caps : List Str
  ps : List Str
  N : List Str
structure GC where
  P : Prg
  fa : Nat → Addr
  ca : Nat → Addr
  lt : Nat → LamTxt → Prop
  cps : Nat → List Str
  T : List (Addr × Str)

/-- a cell that holds v -/
def CellH (c : Addr) (v : V) : HO := .ext fun h => ∃ u, h.IsCell c (some u) ∧ RelV v u
/-- a lambda's function object -/
def LamH (f : Addr) (t : LamTxt) (cl : List (Str × Addr)) (c' : Addr) : HO :=
  .ext fun h => ∃ pm ctv, h.get? f = some (PySem.W.kla_obj "<lambda>" t.qual t.params t.body t.scope cl pm c' ctv)

mutual
inductive Rep (G : GC) (F : Hp) : V → D → Prop
  | non : Rep G F .non .non
  | bl (b : Bool) : Rep G F (.bl b) (.bl b)
  | int (i : Int) : Rep G F (.int i) (.int i)
  | str (s : Str) : Rep G F (.str s) (.str s)
  | lst {a : Addr} {vs : List V} {ds : List D} : F a = some (.lst vs) → RepL G F vs ds → Rep G F (.ref a) (.lst ds)
  | tup {a : Addr} {vs : List V} {ds : List D} : F a = some (.tup vs) → RepL G F vs ds → Rep G F (.ref a) (.tup ds)
  | dicK {a : Addr} {kvs : List (Key × V)} {ds : List (DK × D)} : F a = some (.dK kvs) → RepK G F kvs ds → Rep G F (.ref a) (.dic ds)
  | dicT {a : Addr} {kvs : List (List Key × V)} {ds : List (DK × D)} : F a = some (.dT kvs) → RepT G F kvs ds → ds ≠ [] → Rep G F (.ref a) (.dic ds)
  | ins {a : Addr} {dx : Addr} {fs : List (Str × V)} {ds : List (Str × D)} : F a = some (.ins (G.ca 0) dx fs) → RepF G F fs ds → Rep G F (.ref a) (.ins 0 ds)
  | mref (a : Addr) : Rep G F (.ref a) (.mref a)
  | fn (i : Nat) : (G.P.fns i).isSome = true → Rep G F (.ref (G.fa i)) (.fn i)
inductive RepL (G : GC) (F : Hp) : List V → List D → Prop
  | nil : RepL G F [] []
  | cons {v : V} {vs : List V} {d : D} {ds : List D} : Rep G F v d → RepL G F vs ds → RepL G F (v :: vs) (d :: ds)
inductive RepK (G : GC) (F : Hp) : List (Key × V) → List (DK × D) → Prop
  | nil : RepK G F [] []
  | cons {k : Key} {v : V} {vs : List (Key × V)} {d : D} {ds : List (DK × D)} : Rep G F v d → RepK G F vs ds → RepK G F ((k, v) :: vs) ((.inl k, d) :: ds)
inductive RepT (G : GC) (F : Hp) : List (List Key × V) → List (DK × D) → Prop
  | nil : RepT G F [] []
  | cons {k : List Key} {v : V} {vs : List (List Key × V)} {d : D} {ds : List (DK × D)} : Rep G F v d → RepT G F vs ds → RepT G F ((k, v) :: vs) ((.inr k, d) :: ds)
inductive RepF (G : GC) (F : Hp) : List (Str × V) → List (Str × D) → Prop
  | nil : RepF G F [] []
  | cons {k : Str} {v : V} {vs : List (Str × V)} {d : D} {ds : List (Str × D)} : Rep G F v d → RepF G F vs ds → RepF G F ((k, v) :: vs) ((k, d) :: ds)
end
/-- more is known -/
def Sub (F F' : Hp) : Prop := ∀ a o, F a = some o → F' a = some o
theorem Sub.refl (F : Hp) : Sub F F := fun _ _ h => h
theorem Sub.trans {F F1 F2 : Hp} (a : Sub F F1) (b : Sub F1 F2) : Sub F F2 := fun c o h => b c o (a c o h)
theorem Sub.upd {F : Hp} {p : Addr} {o : HO} (h : F p = none) : Sub F (upd F p o) := fun b x e => by
  rw [upd_ne (ne_of_none e h)]; exact e
mutual
theorem Rep.mono {G : GC} {F F' : Hp} (s : Sub F F') : ∀ {v d}, Rep G F v d → Rep G F' v d
  | _, _, .non => .non
  | _, _, .bl b => .bl b
  | _, _, .int i => .int i
  | _, _, .str x => .str x
  | _, _, .lst h t => .lst (s _ _ h) (RepL.mono s t)
  | _, _, .tup h t => .tup (s _ _ h) (RepL.mono s t)
  | _, _, .dicK h t => .dicK (s _ _ h) (RepK.mono s t)
  | _, _, .dicT h t n => .dicT (s _ _ h) (RepT.mono s t) n
  | _, _, .ins h t => .ins (s _ _ h) (RepF.mono s t)
  | _, _, .mref a => .mref a
  | _, _, .fn i h => .fn i h
theorem RepL.mono {G : GC} {F F' : Hp} (s : Sub F F') : ∀ {v d}, RepL G F v d → RepL G F' v d
  | _, _, .nil => .nil
  | _, _, .cons h t => .cons (Rep.mono s h) (RepL.mono s t)
theorem RepK.mono {G : GC} {F F' : Hp} (s : Sub F F') : ∀ {v d}, RepK G F v d → RepK G F' v d
  | _, _, .nil => .nil
  | _, _, .cons h t => .cons (Rep.mono s h) (RepK.mono s t)
theorem RepT.mono {G : GC} {F F' : Hp} (s : Sub F F') : ∀ {v d}, RepT G F v d → RepT G F' v d
  | _, _, .nil => .nil
  | _, _, .cons h t => .cons (Rep.mono s h) (RepT.mono s t)
theorem RepF.mono {G : GC} {F F' : Hp} (s : Sub F F') : ∀ {v d}, RepF G F v d → RepF G F' v d
  | _, _, .nil => .nil
  | _, _, .cons h t => .cons (Rep.mono s h) (RepF.mono s t)
end

/-- cells and what they hold -/
inductive RepC (F : Hp) : List Addr → List V → Prop
  | nil : RepC F [] []
  | cons {c : Addr} {v : V} {ob : Obj} {cs : List Addr} {vs : List V} : F c = some (.frz ob (CellH c v)) → RepC F cs vs → RepC F (c :: cs) (v :: vs)
theorem RepC.mono {F F' : Hp} (s : Sub F F') : ∀ {cs vs}, RepC F cs vs → RepC F' cs vs
  | _, _, .nil => .nil
  | _, _, .cons h t => .cons (s _ _ h) (RepC.mono s t)
/-- what a name holds -/
inductive RepS (G : GC) (F : Hp) : V → SV → Prop
  | d {v : V} {x : D} : Rep G F v x → RepS G F v (.d x)
  | clo {f c' : Addr} {ob : Obj} {l : Nat} {t : LamTxt} {cl : List (Str × Addr)} {cs : List Addr} {vs : List V} {ds : List D} : G.lt l t → F f = some (.frz ob (LamH f t cl c')) → F c' = some (CodeO c' t.qual) →
      t.caps.map (fun x => cl.lookup x) = cs.map some → (∀ x c, cl.lookup x = some c → x ∈ t.caps) → (∀ x y c, cl.lookup x = some c → cl.lookup y = some c → x = y) → RepC F cs vs → RepL G F vs ds → RepS G F (.ref f) (.clo l ds)
theorem RepS.mono {G : GC} {F F' : Hp} (s : Sub F F') {v : V} {x : SV} : RepS G F v x → RepS G F' v x
  | .d r => .d (r.mono s)
  | .clo h1 h2 h3 h4 h5 h6 h7 t => .clo h1 (s _ _ h2) (s _ _ h3) h4 h5 h6 (h7.mono s) (RepL.mono s t)
/-- what the store tells of the object at a -/
def MRep (G : GC) (H F : Hp) (a : Addr) : MO → Prop
  | .lst ds => ∃ vs, H a = some (.lst vs) ∧ RepL G F vs ds
  | .dic ds => (∃ kvs, H a = some (.dK kvs) ∧ RepK G F kvs ds) ∨ ∃ kvs, H a = some (.dT kvs) ∧ RepT G F kvs ds ∧ ds ≠ []
  | .ins c ds => c = 0 ∧ ∃ dx fs, H a = some (.ins (G.ca 0) dx fs) ∧ RepF G F fs ds
theorem MRep.some {G : GC} {H F : Hp} {a : Addr} {o : MO} (h : MRep G H F a o) : ∃ u, H a = some u := by
  cases o with
  | lst ds => obtain ⟨_, e, _⟩ := h; exact ⟨_, e⟩
  | dic ds => rcases h with ⟨_, e, _⟩ | ⟨_, e, _⟩ <;> exact ⟨_, e⟩
  | ins c ds => obtain ⟨_, _, _, e, _⟩ := h; exact ⟨_, e⟩
theorem MRep.mono {G : GC} {H H' F F' : Hp} {a : Addr} {o : MO} (h : MRep G H F a o) (e : H' a = H a) (s : Sub F F') : MRep G H' F' a o := by
  cases o with
  | lst ds => obtain ⟨vs, e1, r⟩ := h; exact ⟨vs, e.trans e1, r.mono s⟩
  | dic ds =>
    rcases h with ⟨vs, e1, r⟩ | ⟨vs, e1, r⟩
    · exact .inl ⟨vs, e.trans e1, r.mono s⟩
    · exact .inr ⟨vs, e.trans e1, r.1.mono s, r.2⟩
  | ins c ds => obtain ⟨hc, dx, vs, e1, r⟩ := h; exact ⟨hc, dx, vs, e.trans e1, r.mono s⟩
/-- what is never locked -/
def isHard : HO → Bool
  | .tup _ => true
  | .ins _ _ _ => true
  | .frz _ _ => true
  | _ => false
/-- what is locked where it is known for ever -/
def isDic : HO → Bool
  | .dK _ => true
  | .dT _ => true
  | _ => false
/-- the heap, what is known of it for ever, the store -/
structure SR (G : GC) (H F : Hp) (M : Sto) : Prop where
  sub : ∀ a o, F a = some o → H a = some o ∨ ∃ ob, H a = some (.frz ob o)
  mo : ∀ a m, M a = some m → F a = none ∧ MRep G H F a m
  tabs : Tabs G.T H
  ntb : ∀ a ps, F a ≠ some (.tbl ps)
  hard : ∀ a o, F a = some o → isHard o = true → H a = some o
  dics : ∀ a o, F a = some o → isDic o = true → ∃ ob, H a = some (.frz ob o)
theorem SR.rd {G : GC} {H F : Hp} {M : Sto} (S : SR G H F M) {a : Addr} {o : HO} (h : F a = some o) : Rd H a o := by
  rcases S.sub a o h with e | ⟨ob, e⟩
  · exact .inl e
  · exact .inr ⟨ob, e⟩
theorem SR.tup {G : GC} {H F : Hp} {M : Sto} (S : SR G H F M) (a : Addr) (vs : List V) (h : F a = some (.tup vs)) : H a = some (.tup vs) := S.hard a _ h rfl
theorem SR.fnone {G : GC} {H F : Hp} {M : Sto} (S : SR G H F M) {a : Addr} (h : H a = none) : F a = none := by
  cases e : F a with
  | none => rfl
  | some o => rcases S.sub a o e with q | ⟨_, q⟩ <;> rw [h] at q <;> cases q
theorem SR.mnone {G : GC} {H F : Hp} {M : Sto} (S : SR G H F M) {a : Addr} (h : H a = none) : M a = none := by
  cases e : M a with
  | none => rfl
  | some o => obtain ⟨u, q⟩ := (S.mo a o e).2.some; rw [h] at q; cases q
theorem SR.mf {G : GC} {H F : Hp} {M : Sto} (S : SR G H F M) {a : Addr} {o : HO} (h : F a = some o) : M a = none := by
  cases e : M a with
  | none => rfl
  | some m => rw [(S.mo a m e).1] at h; cases h
/-- what was there and is no object of the store stays -/
def isHid : HO → Bool
  | .lst _ => true
  | .dK _ => true
  | .dT _ => true
  | _ => false
def Keep (H F : Hp) (M : Sto) (H' F' : Hp) (M' : Sto) : Prop := ∀ a o, H a = some o → M a = none → (∀ ps, o ≠ .tbl ps) → H' a = some o ∧ M' a = none ∧ (F a = none → isHid o = true → F' a = none)
theorem Keep.refl (H F : Hp) (M : Sto) : Keep H F M H F M := fun _ _ h m _ => ⟨h, m, fun e _ => e⟩
theorem Keep.trans {H H1 H2 F F1 F2 : Hp} {M M1 M2 : Sto} (a : Keep H F M H1 F1 M1) (b : Keep H1 F1 M1 H2 F2 M2) : Keep H F M H2 F2 M2 := fun c o h m t =>
  let ⟨h1, m1, f1⟩ := a c o h m t
  let ⟨h2, m2, f2⟩ := b c o h1 m1 t
  ⟨h2, m2, fun e n => f2 (f1 e n) n⟩
theorem Keep.adoptO {H F : Hp} {M : Sto} {b : Addr} {u : HO} (h : H b = some u) (hu : isHid u = false) : Keep H F M H (upd F b u) M := fun a o e m _ => ⟨e, m, fun z n => by
  have hab : a ≠ b := fun q => by subst q; rw [h] at e; cases e; rw [hu] at n; cases n
  rw [upd_ne hab]; exact z⟩
theorem Keep.adopt {H F : Hp} {M : Sto} {b : Addr} {vs : List V} (h : H b = some (.tup vs)) : Keep H F M H (upd F b (.tup vs)) M := Keep.adoptO h rfl
/-- slots -/
def VR (G : GC) (F : Hp) (σ : L2.St) (ρ : DEnv) : Prop := ∀ (i : Nat) (d : SV), ρ[i]? = some (some d) → ∃ v, σ[i]? = some (some v) ∧ RepS G F v d
theorem VR.mono {G : GC} {F F' : Hp} {σ : L2.St} {ρ : DEnv} (h : VR G F σ ρ) (s : Sub F F') : VR G F' σ ρ := fun i d e =>
  let ⟨v, e1, r⟩ := h i d e
  ⟨v, e1, r.mono s⟩
theorem VR.set {G : GC} {F : Hp} {σ : L2.St} {ρ : DEnv} {i : Nat} {v : V} {d : SV} (h : VR G F σ ρ) (hl : σ.length = ρ.length) (r : RepS G F v d) : VR G F (σ.set i (some v)) (ρ.set i (some d)) := fun j d' e => by
  by_cases hj : i = j
  · subst hj
    by_cases hi : i < ρ.length
    · rw [List.getElem?_set_self hi] at e
      cases e
      exact ⟨v, by rw [List.getElem?_set_self (by omega)], r⟩
    · rw [List.getElem?_eq_none (by simpa using hi)] at e
      cases e
  · rw [List.getElem?_set_ne hj] at e
    obtain ⟨w, e1, r1⟩ := h j d' e
    exact ⟨w, by rw [List.getElem?_set_ne hj]; exact e1, r1⟩
theorem VR.wipe {G : GC} {F : Hp} {σ : L2.St} {ρ : DEnv} (h : VR G F σ ρ) (hl : σ.length = ρ.length) : ∀ vs : List Nat, VR G F (L2.wipe σ vs) (wipeD ρ vs) ∧ (L2.wipe σ vs).length = (wipeD ρ vs).length
  | [] => ⟨h, hl⟩
  | v :: vs => by
    obtain ⟨ih, il⟩ := VR.wipe h hl vs
    refine ⟨fun j d e => ?_, by unfold L2.wipe wipeD; simp [il]⟩
    unfold wipeD at e
    unfold L2.wipe
    by_cases hj : v = j
    · subst hj
      by_cases hi : v < (wipeD ρ vs).length
      · rw [List.getElem?_set_self hi] at e; cases e
      · rw [List.getElem?_eq_none (by simpa using hi)] at e; cases e
    · rw [List.getElem?_set_ne hj] at e
      rw [List.getElem?_set_ne hj]
      exact ih j d e

/-- an exception as it lies -/
def XR (G : GC) (H F : Hp) (x : Exn) (cls : Value) (dd : Option Addr) : Prop := cls = .ref (G.ca x.c) ∧ (G.P.excs x.c).isSome = true ∧ ∃ d fs, dd = some d ∧ H d = some (.xd fs) ∧ RepF G F fs x.fs

/-! ### the readings -/
def PQ (G : GC) (H F : Hp) (M : Sto) (Qd : Po D) (Q : VK) : Prop := ∀ d M' v H' F', Qd d M' → SR G H' F' M' → Keep H F M H' F' M' → Sub F F' → Rep G F' v d → Q v H'
def PX (G : GC) (H F : Hp) (M : Sto) (Ed : Po Exn) (E : XK) : Prop := ∀ x M' cls dd H' F', Ed x M' → SR G H' F' M' → Keep H F M H' F' M' → Sub F F' → XR G H' F' x cls dd → E cls dd H'
section
variable {G : GC} {H F H1 F1 : Hp} {M M1 : Sto}
theorem PQ.step {Qd : Po D} {Q : VK} (h : PQ G H F M Qd Q) (k : Keep H F M H1 F1 M1) (s : Sub F F1) : PQ G H1 F1 M1 Qd Q := fun d M' v H' F' q S K' s' r => h d M' v H' F' q S (k.trans K') (s.trans s') r
theorem PX.step {Ed : Po Exn} {E : XK} (h : PX G H F M Ed E) (k : Keep H F M H1 F1 M1) (s : Sub F F1) : PX G H1 F1 M1 Ed E := fun d M' v H' F' F2 q S K' s' r => h d M' v H' F' F2 q S (k.trans K') (s.trans s') r
end
/-- how the state lies: SR, the slots -/
structure StR (G : GC) (σ : L2.St) (H F : Hp) (ρ : DEnv) (M : Sto) : Prop where
  sr : SR G H F M
  vr : VR G F σ ρ
  len : σ.length = ρ.length
theorem StR.step {G : GC} {σ : L2.St} {H F H1 F1 : Hp} {ρ : DEnv} {M M1 : Sto} (h : StR G σ H F ρ M) (s : SR G H1 F1 M1) (u : Sub F F1) : StR G σ H1 F1 ρ M1 := ⟨s, h.vr.mono u, h.len⟩
/-- the reading of an expression's meaning -/
def rdE (G : GC) (E : XK) (t : DEnv → Sto → Po D → Po Exn → Prop) : TE := fun σ H Q => ∃ ρ F M Qd Ed, StR G σ H F ρ M ∧ t ρ M Qd Ed ∧ PQ G H F M Qd Q ∧ PX G H F M Ed E
def rdT (G : GC) (E : XK) (t : DEnv → Sto → Po Bool → Po Exn → Prop) : TT := fun σ H Q => ∃ ρ F M Qd Ed, StR G σ H F ρ M ∧ t ρ M Qd Ed ∧
  (∀ b M' H' F', Qd b M' → SR G H' F' M' → Keep H F M H' F' M' → Sub F F' → Q b H') ∧ PX G H F M Ed E
def rdA (G : GC) (E : XK) (n : Nat) (t : DEnv → Sto → Po (List D) → Po Exn → Prop) : TA := fun σ H Q => ∃ ρ F M Qd Ed, StR G σ H F ρ M ∧ t ρ M Qd Ed ∧
  (∀ ds M' vs H' F', ds.length = n → Qd ds M' → SR G H' F' M' → Keep H F M H' F' M' → Sub F F' → RepL G F' vs ds → Q vs H') ∧ PX G H F M Ed E
end DS
end
section
set_option Elab.async false
set_option linter.all false
set_option maxRecDepth 100000
/-! DsC: operations on data are the model's. -/
namespace DS
open PySem PySem.Spec PyProof.Rows L2 LamX

section
variable {G : GC} {F H : Hp} {M : Sto} {v : V} {d : D}
/-! ### what is seen of a value -/
theorem vw_lst (S : SR G H F M) (r : Rep G F v d) {xs : List D} (e : vw M d = .lst xs) : ∃ a vs, v = .ref a ∧ Rd H a (.lst vs) ∧ RepL G F vs xs := by
  cases r with
  | lst h t => cases e; exact ⟨_, _, rfl, S.rd h, t⟩
  | mref a =>
    unfold vw at e
    cases hm : M a with
    | none => simp [hm] at e
    | some o =>
      simp only [hm] at e
      cases o with
      | lst ds => cases e; obtain ⟨_, vs, h, t⟩ := S.mo a _ hm; exact ⟨a, vs, rfl, .inl h, t⟩
      | dic ds => cases e
      | ins c ds => cases e
  | _ => cases e
theorem vw_tup (S : SR G H F M) (r : Rep G F v d) {xs : List D} (e : vw M d = .tup xs) : ∃ a vs, v = .ref a ∧ Rd H a (.tup vs) ∧ RepL G F vs xs := by
  cases r with
  | tup h t => cases e; exact ⟨_, _, rfl, S.rd h, t⟩
  | mref a =>
    unfold vw at e
    cases hm : M a with
    | none => simp [hm] at e
    | some o =>
      simp only [hm] at e
      cases o <;> cases e
  | _ => cases e
theorem vw_dic (S : SR G H F M) (r : Rep G F v d) {xs : List (DK × D)} (e : vw M d = .dic xs) : ∃ a, v = .ref a ∧ ((∃ vs, Rd H a (.dK vs) ∧ RepK G F vs xs) ∨ ∃ vs, Rd H a (.dT vs) ∧ RepT G F vs xs) := by
  cases r with
  | dicK h t => cases e; exact ⟨_, rfl, .inl ⟨_, S.rd h, t⟩⟩
  | dicT h t _ => cases e; exact ⟨_, rfl, .inr ⟨_, S.rd h, t⟩⟩
  | mref a =>
    unfold vw at e
    cases hm : M a with
    | none => simp [hm] at e
    | some o =>
      simp only [hm] at e
      cases o with
      | lst ds => cases e
      | dic ds =>
        cases e
        obtain ⟨_, ⟨vs, h, t⟩ | ⟨vs, h, t⟩⟩ := S.mo a _ hm
        · exact ⟨a, rfl, .inl ⟨vs, .inl h, t⟩⟩
        · exact ⟨a, rfl, .inr ⟨vs, .inl h, t.1⟩⟩
      | ins c ds => cases e
  | _ => cases e
theorem vw_ins (S : SR G H F M) (r : Rep G F v d) {c : Nat} {fs : List (Str × D)} (e : vw M d = .ins c fs) : c = 0 ∧ ∃ a dx vs, v = .ref a ∧ H a = some (.ins (G.ca 0) dx vs) ∧ RepF G F vs fs := by
  cases r with
  | ins h t => cases e; exact ⟨rfl, _, _, _, rfl, S.hard _ _ h rfl, t⟩
  | mref a =>
    unfold vw at e
    cases hm : M a with
    | none => simp [hm] at e
    | some o =>
      simp only [hm] at e
      cases o with
      | lst ds => cases e
      | dic ds => cases e
      | ins c ds => cases e; obtain ⟨_, hc, dx, vs, h, t⟩ := S.mo a _ hm; exact ⟨hc, a, dx, vs, rfl, h, t⟩
  | _ => cases e
theorem mref_view {a : Addr} {P : D → Prop} (e : P (vw M (.mref a))) (hn : ∀ o : MO, ¬ P o.d) (hm : ¬ P (.mref a)) : False := by
  unfold vw at e
  cases h : M a with
  | none => simp only [h] at e; exact hm e
  | some o => simp only [h] at e; exact hn o e
theorem vw_int (r : Rep G F v d) {i : Int} (e : vw M d = .int i) : d = .int i ∧ v = .int i := by
  cases r with
  | int j => cases e; exact ⟨rfl, rfl⟩
  | mref a => exact (mref_view (M := M) (a := a) (P := fun x => x = .int i) e (fun o => by cases o <;> intro z <;> cases z) (fun z => by cases z)).elim
  | _ => cases e
theorem vw_str (r : Rep G F v d) {i : Str} (e : vw M d = .str i) : d = .str i ∧ v = .str i := by
  cases r with
  | str j => cases e; exact ⟨rfl, rfl⟩
  | mref a => exact (mref_view (M := M) (a := a) (P := fun x => x = .str i) e (fun o => by cases o <;> intro z <;> cases z) (fun z => by cases z)).elim
  | _ => cases e
theorem vw_bl (r : Rep G F v d) {i : Bool} (e : vw M d = .bl i) : d = .bl i ∧ v = .bl i := by
  cases r with
  | bl j => cases e; exact ⟨rfl, rfl⟩
  | mref a => exact (mref_view (M := M) (a := a) (P := fun x => x = .bl i) e (fun o => by cases o <;> intro z <;> cases z) (fun z => by cases z)).elim
  | _ => cases e
theorem vw_non (r : Rep G F v d) (e : vw M d = .non) : d = .non ∧ v = .non := by
  cases r with
  | non => exact ⟨rfl, rfl⟩
  | mref a => exact (mref_view (M := M) (a := a) (P := fun x => x = .non) e (fun o => by cases o <;> intro z <;> cases z) (fun z => by cases z)).elim
  | _ => cases e
theorem rep_int {i : Int} (r : Rep G F v (.int i)) : v = .int i := by cases r; rfl
theorem rep_bl {i : Bool} (r : Rep G F v (.bl i)) : v = .bl i := by cases r; rfl
theorem rep_str {i : Str} (r : Rep G F v (.str i)) : v = .str i := by cases r; rfl
theorem rep_non (r : Rep G F v .non) : v = .non := by cases r; rfl
theorem rep_mref {a : Addr} (r : Rep G F v (.mref a)) : v = .ref a := by cases r; rfl
theorem RepL.length : ∀ {vs : List V} {ds : List D}, RepL G F vs ds → vs.length = ds.length
  | _, _, .nil => rfl
  | _, _, .cons _ t => by simp [RepL.length t]
theorem RepL.get : ∀ {vs : List V} {ds : List D} {i : Nat} {d : D}, RepL G F vs ds → ds[i]? = some d → ∃ v, vs[i]? = some v ∧ Rep G F v d
  | _, _, _, _, .nil, e => by simp at e
  | _, _, 0, _, .cons r _, e => by simp at e; subst e; exact ⟨_, rfl, r⟩
  | _, _, i + 1, d, .cons _ t, e => by
    obtain ⟨u, h1, h2⟩ := RepL.get (i := i) (d := d) t (by simpa using e)
    exact ⟨u, by simpa using h1, h2⟩
theorem RepL.append : ∀ {vs ws : List V} {ds es : List D}, RepL G F vs ds → RepL G F ws es → RepL G F (vs ++ ws) (ds ++ es)
  | _, _, _, _, .nil, s => s
  | _, _, _, _, .cons r t, s => .cons r (RepL.append t s)
theorem RepL.drop : ∀ {vs : List V} {ds : List D} (n : Nat), RepL G F vs ds → RepL G F (vs.drop n) (ds.drop n)
  | _, _, 0, r => r
  | _, _, _ + 1, .nil => .nil
  | _, _, n + 1, .cons _ t => RepL.drop n t
theorem RepL.take : ∀ {vs : List V} {ds : List D} (n : Nat), RepL G F vs ds → RepL G F (vs.take n) (ds.take n)
  | _, _, 0, _ => .nil
  | _, _, _ + 1, .nil => .nil
  | _, _, n + 1, .cons r t => .cons r (RepL.take n t)
theorem RepL.set {x : V} {y : D} (r : Rep G F x y) : ∀ {vs : List V} {ds : List D} (i : Nat), RepL G F vs ds → RepL G F (vs.set i x) (ds.set i y)
  | _, _, _, .nil => .nil
  | _, _, 0, .cons _ t => .cons r t
  | _, _, i + 1, .cons q t => .cons q (RepL.set r i t)
theorem RepL.eraseIdx : ∀ {vs : List V} {ds : List D} (i : Nat), RepL G F vs ds → RepL G F (vs.eraseIdx i) (ds.eraseIdx i)
  | _, _, _, .nil => .nil
  | _, _, 0, .cons _ t => t
  | _, _, i + 1, .cons q t => .cons q (RepL.eraseIdx i t)
theorem RepL.reverse : ∀ {vs : List V} {ds : List D}, RepL G F vs ds → RepL G F vs.reverse ds.reverse
  | _, _, .nil => .nil
  | _, _, .cons r t => by
    rw [List.reverse_cons, List.reverse_cons]
    exact (RepL.reverse t).append (.cons r .nil)
theorem RepL.rep {vs : List V} {ds : List D} (r : RepL G F vs ds) : ∀ n : Nat, RepL G F (List.replicate n vs).flatten (List.replicate n ds).flatten
  | 0 => .nil
  | n + 1 => by
    rw [List.replicate_succ, List.replicate_succ, List.flatten_cons, List.flatten_cons]
    exact r.append (RepL.rep r n)
theorem RepL.intsD : ∀ {vs : List V} {ds : List D} {ns : List Int}, RepL G F vs ds → intsD ds = some ns → vs = ns.map V.int
  | _, _, _, .nil, e => by simp [DS.intsD] at e; subst e; rfl
  | _, _, _, .cons (d := d) r t, e => by
    cases d with
    | int i =>
      simp only [DS.intsD, Option.map_eq_some_iff] at e
      obtain ⟨ns, e1, rfl⟩ := e
      rw [RepL.intsD t e1, rep_int r]; rfl
    | _ => simp [DS.intsD] at e
theorem RepL.bls : ∀ {vs : List V} {ds : List D} {ns : List Bool}, RepL G F vs ds → bls ds = some ns → vs = ns.map V.bl
  | _, _, _, .nil, e => by simp [DS.bls] at e; subst e; rfl
  | _, _, _, .cons (d := d) r t, e => by
    cases d with
    | bl i =>
      simp only [DS.bls, Option.map_eq_some_iff] at e
      obtain ⟨ns, e1, rfl⟩ := e
      rw [RepL.bls t e1, rep_bl r]; rfl
    | _ => simp [DS.bls] at e
theorem RepL.ofInts : ∀ ns : List Int, RepL G F (ns.map V.int) (ns.map D.int)
  | [] => .nil
  | n :: ns => .cons (.int n) (RepL.ofInts ns)
theorem RepK.length : ∀ {vs : List (Key × V)} {ds : List (DK × D)}, RepK G F vs ds → vs.length = ds.length
  | _, _, .nil => rfl
  | _, _, .cons _ t => by simp [RepK.length t]
theorem RepT.length : ∀ {vs : List (List Key × V)} {ds : List (DK × D)}, RepT G F vs ds → vs.length = ds.length
  | _, _, .nil => rfl
  | _, _, .cons _ t => by simp [RepT.length t]
theorem RepF.look : ∀ {vs : List (Str × V)} {ds : List (Str × D)} {f : Str} {d : D}, RepF G F vs ds → ds.lookup f = some d → ∃ v, vs.lookup f = some v ∧ Rep G F v d
  | _, _, _, _, .nil, e => by simp at e
  | _, _, f, d, .cons (k := k) r t, e => by
    simp only [List.lookup_cons] at e ⊢
    cases hb : f == k with
    | true => simp only [hb] at e; cases e; exact ⟨_, rfl, r⟩
    | false => simp only [hb] at e; exact RepF.look t e
theorem RepF.lookN : ∀ {vs : List (Str × V)} {ds : List (Str × D)} {f : Str}, RepF G F vs ds → ds.lookup f = none → vs.lookup f = none
  | _, _, _, .nil, e => rfl
  | _, _, f, .cons (k := k) r t, e => by
    simp only [List.lookup_cons] at e ⊢
    cases hb : f == k with
    | true => simp [hb] at e
    | false => simp only [hb] at e; exact RepF.lookN t e
theorem RepF.length : ∀ {vs : List (Str × V)} {ds : List (Str × D)}, RepF G F vs ds → vs.length = ds.length
  | _, _, .nil => rfl
  | _, _, .cons _ t => by simp [RepF.length t]
theorem RepF.snoc {f : Str} {x : V} {y : D} (r : Rep G F x y) : ∀ {vs : List (Str × V)} {ds : List (Str × D)}, RepF G F vs ds → RepF G F (vs ++ [(f, x)]) (ds ++ [(f, y)])
  | _, _, .nil => .cons r .nil
  | _, _, .cons q t => .cons q (RepF.snoc r t)

/-! ### new objects -/
theorem SR.tbl_no (S : SR G H F M) {p : Addr} {o : HO} (hp : H p = none) : Tabs G.T (L2.upd H p o) := S.tabs.ext fun b x e => by rw [upd_ne (ne_of_none e hp)]; exact e
theorem SR.newG (S : SR G H F M) {p : Addr} {o u : HO} (hp : H p = none) (hz : ∀ ps, o ≠ .tbl ps) (hu : (u = o ∧ isDic o = false) ∨ (isHard o = false ∧ ∃ ob, u = .frz ob o)) : SR G (upd H p u) (upd F p o) M := by
  refine ⟨fun a w e => ?_, fun a m e => ?_, S.tbl_no hp, fun a ps e => ?_, fun a vs e hh => ?_, fun a w e hh => ?_⟩
  · by_cases h : a = p
    · subst h; rw [upd_same] at e; cases e; rw [upd_same]
      rcases hu with ⟨rfl, _⟩ | ⟨_, ob, rfl⟩
      · exact .inl rfl
      · exact .inr ⟨ob, rfl⟩
    · rw [upd_ne h] at e; rw [upd_ne h]; exact S.sub a w e
  · have h : a ≠ p := fun z => by subst z; rw [S.mnone hp] at e; cases e
    obtain ⟨h1, h2⟩ := S.mo a m e
    exact ⟨by rw [upd_ne h]; exact h1, h2.mono (upd_ne h) (Sub.upd (S.fnone hp))⟩
  · by_cases h : a = p
    · subst h; rw [upd_same] at e; exact hz ps (Option.some.inj e)
    · rw [upd_ne h] at e; exact S.ntb a ps e
  · by_cases h : a = p
    · subst h; rw [upd_same] at e ⊢; cases e
      rcases hu with ⟨rfl, _⟩ | ⟨hn, _⟩
      · rfl
      · rw [hn] at hh; cases hh
    · rw [upd_ne h] at e ⊢; exact S.hard a vs e hh
  · by_cases h : a = p
    · subst h; rw [upd_same] at e ⊢; cases e
      rcases hu with ⟨_, hn⟩ | ⟨_, ob, rfl⟩
      · rw [hn] at hh; cases hh
      · exact ⟨ob, rfl⟩
    · rw [upd_ne h] at e ⊢; exact S.dics a w e hh
theorem SR.new (S : SR G H F M) {p : Addr} {o : HO} (hp : H p = none) (hz : ∀ ps, o ≠ .tbl ps := by intro _ z; cases z) (hd : isDic o = false := by rfl) : SR G (upd H p o) (upd F p o) M := S.newG hp hz (.inl ⟨rfl, hd⟩)
/-- new, and hidden -/
theorem SR.hid (S : SR G H F M) {p : Addr} {o : HO} (hp : H p = none) : SR G (upd H p o) F M := by
  refine ⟨fun a u e => ?_, fun a m e => ?_, S.tbl_no hp, S.ntb, fun a vs e hh => by rw [upd_ne (ne_of_none (S.hard a vs e hh) hp)]; exact S.hard a vs e hh, fun a w e hh => ?_⟩
  · have h : a ≠ p := fun z => by subst z; rw [S.fnone hp] at e; cases e
    rw [upd_ne h]; exact S.sub a u e
  · have h : a ≠ p := fun z => by subst z; rw [S.mnone hp] at e; cases e
    obtain ⟨h1, h2⟩ := S.mo a m e
    exact ⟨h1, h2.mono (upd_ne h) (Sub.refl F)⟩
  · obtain ⟨ob, q⟩ := S.dics a w e hh
    exact ⟨ob, by rw [upd_ne (ne_of_none q hp)]; exact q⟩
theorem SR.newM (S : SR G H F M) {p : Addr} {o : HO} {m : MO} (hp : H p = none) (hm : MRep G (upd H p o) F p m) : SR G (upd H p o) F (M.put p m) := by
  refine ⟨(S.hid hp).sub, fun a m' e => ?_, S.tbl_no hp, S.ntb, (S.hid hp).hard, (S.hid hp).dics⟩
  unfold Sto.put at e
  by_cases h : a = p
  · subst h; rw [if_pos rfl] at e; cases e; exact ⟨S.fnone hp, hm⟩
  · rw [if_neg h] at e; exact (S.hid hp).mo a m' e
theorem Keep.new (S : SR G H F M) {p : Addr} {o u : HO} (hp : H p = none) : Keep H F M (upd H p o) (upd F p u) M := fun a w e m _ => by
  have h := ne_of_none e hp
  exact ⟨by rw [upd_ne h]; exact e, m, fun z _ => by rw [upd_ne h]; exact z⟩
theorem Keep.hid (S : SR G H F M) {p : Addr} {o : HO} (hp : H p = none) : Keep H F M (upd H p o) F M := fun a w e m _ => by
  have h := ne_of_none e hp
  exact ⟨by rw [upd_ne h]; exact e, m, fun z _ => z⟩
theorem Keep.newM (S : SR G H F M) {p : Addr} {o : HO} {m : MO} (hp : H p = none) : Keep H F M (upd H p o) F (M.put p m) := fun a u e hm _ => by
  have h := ne_of_none e hp
  exact ⟨by rw [upd_ne h]; exact e, by unfold Sto.put; rw [if_neg h]; exact hm, fun z _ => z⟩
/-- an object of the store is changed -/
theorem SR.chg (S : SR G H F M) {a : Addr} {o : HO} {m m' : MO} (hm : M a = some m) (hr : MRep G (upd H a o) F a m') (hz : ∀ ps, H a ≠ some (.tbl ps)) : SR G (upd H a o) F (M.put a m') := by
  obtain ⟨h1, h2⟩ := S.mo a m hm
  refine ⟨fun b u e => ?_, fun b m2 e => ?_, ?_, S.ntb, fun b vs e hh => ?_, fun b w e hh => ?_⟩
  · have h : b ≠ a := fun z => by subst z; rw [h1] at e; cases e
    rw [upd_ne h]; exact S.sub b u e
  · unfold Sto.put at e
    by_cases h : b = a
    · subst h; rw [if_pos rfl] at e; cases e; exact ⟨h1, hr⟩
    · rw [if_neg h] at e
      obtain ⟨h3, h4⟩ := S.mo b m2 e
      exact ⟨h3, h4.mono (upd_ne h) (Sub.refl F)⟩
  · intro p hp
    obtain ⟨ps, e1, e2, e3⟩ := S.tabs p hp
    have hpa : p.1 ≠ a := fun z => by rw [z] at e1; exact hz ps e1
    refine ⟨ps, by rw [upd_ne hpa]; exact e1, e2, fun pos cv hc => ?_⟩
    obtain ⟨c, e4, e5⟩ := e3 pos cv hc
    refine ⟨c, e4, ?_⟩
    have hca : c ≠ a := fun z => by
      rw [z] at e5
      cases m with
      | lst ds => obtain ⟨_, e, _⟩ := h2; rw [e] at e5; cases e5
      | dic ds => rcases h2 with ⟨_, e, _⟩ | ⟨_, e, _⟩ <;> rw [e] at e5 <;> cases e5
      | ins c ds => obtain ⟨_, _, _, e, _⟩ := h2; rw [e] at e5; cases e5
    rw [upd_ne hca]; exact e5
  · have h : b ≠ a := fun z => by subst z; rw [h1] at e; cases e
    rw [upd_ne h]; exact S.hard b vs e hh
  · have h : b ≠ a := fun z => by subst z; rw [h1] at e; cases e
    rw [upd_ne h]; exact S.dics b w e hh
theorem Keep.chg {a : Addr} {o : HO} {m m' : MO} (hm : M a = some m) : Keep H F M (upd H a o) F (M.put a m') := fun b u e n _ => by
  have h : b ≠ a := fun z => by subst z; rw [hm] at n; cases n
  exact ⟨by rw [upd_ne h]; exact e, by unfold Sto.put; rw [if_neg h]; exact n, fun z _ => z⟩
/-- an object of the store is changed no more; a dict is locked -/
theorem SR.frz (S : SR G H F M) {a : Addr} {m : MO} (hm : M a = some m) : ∃ o, H a = some o ∧ (∀ u, ((u = o ∧ isDic o = false) ∨ (isDic o = true ∧ Mut (some o) ∧ ∃ ob, u = .frz ob o)) → SR G (upd H a u) (upd F a o) (M.del a) ∧ Sub F (upd F a o) ∧ Keep H F M (upd H a u) (upd F a o) (M.del a) ∧ Rep G (upd F a o) (.ref a) m.d) := by
  obtain ⟨h1, h2⟩ := S.mo a m hm
  obtain ⟨o, ho⟩ := h2.some
  have hs : Sub F (upd F a o) := Sub.upd h1
  have hz : ∀ ps, o ≠ .tbl ps := fun ps z => by
    subst z
    cases m with
    | lst ds => obtain ⟨_, e, _⟩ := h2; rw [e] at ho; cases ho
    | dic ds => rcases h2 with ⟨_, e, _⟩ | ⟨_, e, _⟩ <;> rw [e] at ho <;> cases ho
    | ins c ds => obtain ⟨_, _, _, e, _⟩ := h2; rw [e] at ho; cases ho
  refine ⟨o, ho, fun u hu => ⟨⟨fun b w e => ?_, fun b m2 e => ?_, ?_, fun b ps e => ?_, fun b vs e hh => ?_, fun b w e hh => ?_⟩, hs, fun b w e n _ => ?_, ?_⟩⟩
  · by_cases h : b = a
    · subst h; rw [upd_same] at e; cases e; rw [upd_same]
      rcases hu with ⟨rfl, _⟩ | ⟨_, _, ob, rfl⟩
      · exact .inl rfl
      · exact .inr ⟨ob, rfl⟩
    · rw [upd_ne h] at e ⊢; exact S.sub b w e
  · unfold Sto.del at e
    by_cases h : b = a
    · rw [if_pos h] at e; cases e
    · rw [if_neg h] at e
      obtain ⟨h3, h4⟩ := S.mo b m2 e
      exact ⟨by rw [upd_ne h]; exact h3, h4.mono (upd_ne h) hs⟩
  · intro p hp
    obtain ⟨ps, e1, e2, e3⟩ := S.tabs p hp
    have hpa : p.1 ≠ a := fun z => by rw [z, ho] at e1; exact hz ps (Option.some.inj e1)
    refine ⟨ps, by rw [upd_ne hpa]; exact e1, e2, fun pos cv hc => ?_⟩
    obtain ⟨c, e4, e5⟩ := e3 pos cv hc
    refine ⟨c, e4, ?_⟩
    have hca : c ≠ a := fun z => by
      rw [z] at e5
      cases m with
      | lst ds => obtain ⟨_, e, _⟩ := h2; rw [e] at e5; cases e5
      | dic ds => rcases h2 with ⟨_, e, _⟩ | ⟨_, e, _⟩ <;> rw [e] at e5 <;> cases e5
      | ins c ds => obtain ⟨_, _, _, e, _⟩ := h2; rw [e] at e5; cases e5
    rw [upd_ne hca]; exact e5
  · by_cases h : b = a
    · subst h; rw [upd_same] at e; exact hz ps (Option.some.inj e)
    · rw [upd_ne h] at e; exact S.ntb b ps e
  · by_cases h : b = a
    · subst h; rw [upd_same] at e ⊢; cases e
      rcases hu with ⟨rfl, _⟩ | ⟨hn, _, _⟩
      · rfl
      · cases o <;> first | (cases hn; done) | (cases hh; done)
    · rw [upd_ne h] at e ⊢; exact S.hard b vs e hh
  · by_cases h : b = a
    · subst h; rw [upd_same] at e ⊢; cases e
      rcases hu with ⟨_, hn⟩ | ⟨_, _, ob, rfl⟩
      · rw [hn] at hh; cases hh
      · exact ⟨ob, rfl⟩
    · rw [upd_ne h] at e ⊢; exact S.dics b w e hh
  · have hne : b ≠ a := fun z => by subst z; rw [hm] at n; cases n
    refine ⟨by rw [upd_ne hne]; exact e, ?_, fun z _ => by rw [upd_ne hne]; exact z⟩
    unfold Sto.del
    rw [if_neg hne]; exact n
  · cases m with
    | lst ds =>
      obtain ⟨vs, e, t⟩ := h2
      rw [e] at ho; cases ho
      exact .lst upd_same (t.mono hs)
    | dic ds =>
      rcases h2 with ⟨vs, e, t⟩ | ⟨vs, e, t⟩
      · rw [e] at ho; cases ho
        exact .dicK upd_same (t.mono hs)
      · rw [e] at ho; cases ho
        exact .dicT upd_same (t.1.mono hs) t.2
    | ins c ds =>
      obtain ⟨rfl, dx, vs, e, t⟩ := h2
      rw [e] at ho; cases ho
      exact .ins upd_same (t.mono hs)

variable {Qd : Po D} {Q : VK}
theorem PQ.same (h : PQ G H F M Qd Q) (S : SR G H F M) (r : Rep G F v d) (q : Qd d M) : Q v H := h d M v H F q S (Keep.refl H F M) (Sub.refl F) r
/-- a new thing that is not changed -/
theorem PQ.new (h : PQ G H F M Qd Q) (S : SR G H F M) {p : Addr} {o : HO} (hp : H p = none) (r : Rep G (upd F p o) v d) (q : Qd d M) (hz : ∀ ps, o ≠ .tbl ps := by intro _ z; cases z) (hd : isDic o = false := by rfl) : Q v (upd H p o) :=
  h d M v _ _ q (S.new hp hz hd) (Keep.new S hp) (Sub.upd (S.fnone hp)) r
theorem PQ.newL (h : PQ G H F M Qd Q) (S : SR G H F M) {p : Addr} {vs : List V} {ds : List D} (hp : H p = none) (r : RepL G F vs ds) (q : Qd (.lst ds) M) : Q (.ref p) (upd H p (.lst vs)) :=
  h.new S hp (.lst upd_same (r.mono (Sub.upd (S.fnone hp)))) q
theorem PQ.newT (h : PQ G H F M Qd Q) (S : SR G H F M) {p : Addr} {vs : List V} {ds : List D} (hp : H p = none) (r : RepL G F vs ds) (q : Qd (.tup ds) M) : Q (.ref p) (upd H p (.tup vs)) :=
  h.new S hp (.tup upd_same (r.mono (Sub.upd (S.fnone hp)))) q
theorem PQ.madeL (h : PQ G H F M Qd Q) (S : SR G H F M) {p : Addr} {vs : List V} {ds : List D} {mu : Bool} (hp : H p = none) (r : RepL G F vs ds) (q : made mu (.lst ds) M Qd) : Q (.ref p) (upd H p (.lst vs)) := by
  unfold made at q
  cases mu with
  | false => exact h.newL S hp r q
  | true =>
    have q : ∀ p, M p = none → Qd (.mref p) (M.put p (.lst ds)) := q
    exact h _ _ _ _ F (q p (S.mnone hp)) (S.newM hp ⟨vs, upd_same, r⟩) (Keep.newM S hp) (Sub.refl F) (.mref p)
/-- what is made is locked, if it is not changed later -/
def lockQ (mu : Bool) (Q : VK) : VK := fun v H => if mu = true then Q v H else ∃ d u, v = .ref d ∧ H d = some u ∧ Mut (some u) ∧ ∀ od, Q v (upd H d (.frz od u))
theorem PQ.madeK (h : PQ G H F M Qd Q) (S : SR G H F M) {p : Addr} {vs : List (Key × V)} {ds : List (DK × D)} {mu : Bool} (hp : H p = none) (r : RepK G F vs ds) (q : made mu (.dic ds) M Qd) : lockQ mu Q (.ref p) (upd H p (.dK vs)) := by
  unfold made at q
  cases mu with
  | false =>
    refine ⟨p, _, rfl, upd_same, trivial, fun od => ?_⟩
    rw [upd_upd]
    exact h _ M _ _ _ q (S.newG hp (fun _ z => by cases z) (.inr ⟨rfl, od, rfl⟩)) (Keep.new S hp) (Sub.upd (S.fnone hp)) (.dicK upd_same (r.mono (Sub.upd (S.fnone hp))))
  | true =>
    have q : ∀ p, M p = none → Qd (.mref p) (M.put p (.dic ds)) := q
    exact h _ _ _ _ F (q p (S.mnone hp)) (S.newM hp (.inl ⟨vs, upd_same, r⟩)) (Keep.newM S hp) (Sub.refl F) (.mref p)
theorem PQ.madeT (h : PQ G H F M Qd Q) (S : SR G H F M) {p : Addr} {vs : List (List Key × V)} {ds : List (DK × D)} {mu : Bool} (hp : H p = none) (r : RepT G F vs ds) (hn : ds ≠ []) (q : made mu (.dic ds) M Qd) : lockQ mu Q (.ref p) (upd H p (.dT vs)) := by
  unfold made at q
  cases mu with
  | false =>
    refine ⟨p, _, rfl, upd_same, trivial, fun od => ?_⟩
    rw [upd_upd]
    exact h _ M _ _ _ q (S.newG hp (fun _ z => by cases z) (.inr ⟨rfl, od, rfl⟩)) (Keep.new S hp) (Sub.upd (S.fnone hp)) (.dicT upd_same (r.mono (Sub.upd (S.fnone hp))) hn)
  | true =>
    have q : ∀ p, M p = none → Qd (.mref p) (M.put p (.dic ds)) := q
    exact h _ _ _ _ F (q p (S.mnone hp)) (S.newM hp (.inr ⟨vs, upd_same, r, hn⟩)) (Keep.newM S hp) (Sub.refl F) (.mref p)
end
theorem ep_lock {X : Cx} {pins : List (Addr × Obj)} {σ : L2.St} {mu : Bool} {Q : VK} {u : Value} {s : Shared} (h : EP X pins σ (lockQ mu Q) u s) : EP X pins σ Q u s := by
  obtain ⟨v, H, I, r, q⟩ := h
  cases mu with
  | true => exact ⟨v, H, I, r, q⟩
  | false =>
    obtain ⟨d, o, rfl, hd, mu, q⟩ := q
    obtain ⟨od, I1⟩ := I.lock hd mu
    exact ⟨_, _, I1, r, q od⟩
theorem pe_lk {X : Cx} {e : Expr} {t : TE} (mu : Bool) (h : PE X e t) : PE X e (fun σ H Q => t σ H (lockQ mu Q)) := ⟨fun pins s σ H Q I q => thn (h.run pins s σ H _ I q) fun _ _ z => ep_lock z⟩
theorem lim_line {n : Nat} (h : n ≤ lim) : n ≤ sizeLine := Nat.le_trans h (by decide)
theorem lim_line2 {n m : Nat} (h : n ≤ lim) (h' : m ≤ lim) : n + m ≤ sizeLine := Nat.le_trans (Nat.add_le_add h h') (by decide)
theorem lim_lt {n : Nat} (h : n < lim) : n < sizeLine := Nat.lt_of_lt_of_le h (by decide)
end DS
end
section
set_option Elab.async false
set_option linter.all false
set_option maxRecDepth 100000
/-! DsD: operators, comparisons, subscripts. -/
namespace DS
open PySem PySem.Spec PyProof.Rows L2 LamX

def OpD (G : GC) (X : Cx) (f : Value → Value → Sem Value) (od : D → D → Sto → Po D → Prop) : Prop :=
  ∀ (pins : List (Addr × Obj)) (s : Shared) (σ : L2.St) (H F : Hp) (M : Sto) (x y : V) (dx dy : D) (v u : Value) (Qd : Po D) (Q : VK), Inv X pins σ H s → SR G H F M → Rep G F x dx → Rep G F y dy → RelV x v → RelV y u →
    od dx dy M Qd → PQ G H F M Qd Q → wpAny (model X.prog X.w) X.A (f v u) (EP X pins σ Q) X.xe s
section
variable {G : GC} {X : Cx}
theorem OpR.toD {f : Value → Value → Sem Value} {r : R2} {od : D → D → Sto → Po D → Prop} (h : OpR X f r)
    (k : ∀ (H F : Hp) (M : Sto) (x y : V) (dx dy : D) (Qd : Po D) (Q : VK), SR G H F M → Rep G F x dx → Rep G F y dy → od dx dy M Qd → PQ G H F M Qd Q → r x y H Q) : OpD G X f od :=
  fun pins s σ H F M x y dx dy v u Qd Q I S r1 r2 rx ry q pq => h pins s σ H x y v u Q I rx ry (k H F M x y dx dy Qd Q S r1 r2 q pq)
/-- list + list, read -/
def rCatR (K : PySem.W.Frag) : R2 := fun x y H Q => ∃ l b xs zs, x = .ref l ∧ y = .ref b ∧ Rd H l (.lst xs) ∧ Rd H b (.lst zs) ∧ xs.length + zs.length ≤ sizeLine ∧ ∀ p, H p = none → Q (.ref p) (upd H p (.lst (xs ++ zs)))
theorem op_catR : OpR X (binaryOp .Add) (rCatR X.K) := by
  intro pins s σ H x y v u Q I rx ry h
  obtain ⟨l, b, xs, zs, rfl, rfl, hH, hB, hz, q⟩ := h
  cases rx
  cases ry
  obtain ⟨-, us, cap, ru, eu⟩ := hH.ok I.hok
  obtain ⟨-, ws, cap2, rw2, ew⟩ := hB.ok I.hok
  have n1 : xs.length = us.length := ru.length
  have n2 : zs.length = ws.length := rw2.length
  have both : us.toArray ++ ws.toArray = (us ++ ws).toArray := by simp
  refine PySem.P.add_list eu ew ?_ (by simp only [List.size_toArray]; omega)
  rw [both]
  have J := I.lnew (t' := s.toks) (ru.append rw2) (show (xs ++ zs).length ≤ sizeLine by simpa using hz)
  exact ⟨.ref _, _, J, rfl, q _ I.fresh⟩
/-- list * int, read -/
theorem rep_foldl (us : List Value) (m : Nat) : (List.replicate m us.toArray).foldl (fun a b => a ++ b) #[] = (List.replicate m us).flatten.toArray := by
  have key : ∀ (m : Nat) (pre : List Value), (List.replicate m us.toArray).foldl (fun a b => a ++ b) pre.toArray = (pre ++ (List.replicate m us).flatten).toArray := by
    intro m
    induction m with
    | zero => intro pre; simp
    | succ m ih =>
      intro pre
      rw [List.replicate_succ, List.foldl_cons, List.replicate_succ, List.flatten_cons, ← List.append_assoc]
      have := ih (pre ++ us)
      simpa using this
  simpa using key m []
def rRepR : R2 := fun x y H Q => ∃ l k xs, x = .ref l ∧ y = .int k ∧ Rd H l (.lst xs) ∧ -(2 ^ 63) ≤ k ∧ k < 2 ^ 63 ∧ xs.length * k.toNat ≤ sizeLine ∧
  ∀ p, H p = none → Q (.ref p) (upd H p (.lst (List.replicate k.toNat xs).flatten))
theorem op_repR : OpR X (binaryOp .Mult) rRepR := by
  intro pins s σ H x y v u Q I rx ry h
  obtain ⟨l, k, xs, rfl, rfl, hH, lo, hi, hz, q⟩ := h
  cases rx
  obtain ⟨tk, rfl⟩ := ry
  obtain ⟨-, us, cap, ru, eu⟩ := hH.ok I.hok
  have n1 : xs.length = us.length := ru.length
  have most : us.toArray.size * k.toNat ≤ sizeLine := by simpa [← n1] using hz
  have line : (sizeLine : Nat) ≤ (2 ^ 63 - 1) / 8 := by decide
  have c1 : ¬ (!Builtin.List.listFitsIndex k) = true := by simp [fitsIndex_both lo hi]
  have c2 : ¬ us.toArray.size * k.toNat > (2 ^ 63 - 1) / 8 := by omega
  have c3 : ¬ Builtin.List.listTooLong (us.toArray.size * k.toNat) = true := by rw [notLongL most]; simp
  have whole : List.foldl (fun a b => a ++ b) #[] (List.replicate (if us.toArray.isEmpty = true then 0 else k.toNat) us.toArray) = (List.replicate k.toNat us).flatten.toArray := by
    rw [rep_foldl]
    cases us with
    | nil => simp
    | cons a r => simp
  have isl : s.TypeIs (.ref l) "list" := ⟨_, eu, rfl⟩
  refine wpAny_binaryOp_repeat_ref (T := "list") (U := "int") (by decide) isl (fun s' => typeIs_int s' k tk) noFill_list_mul
    F.fills_int_mul F.slot_int_rmul repeat_list F.slot_int_index.lookup
    (call_meets F.slot_int_rmul (typeIs_int s k tk) F.entry_int_rmul (F.args_int_rmul_2 _ _)
      (int___rmul___int_list k tk l us.toArray cap) ⟨eu, rfl, isl, ?_⟩)
  refine call_meets F.slot_list_mul isl F.entry_list_mul (F.args_list_mul_2 _ _)
    (AutoListH.list___mul___list_int_3 l us.toArray cap k tk c1 c2 c3) ⟨eu, ?_⟩
  rw [whole]
  have J := I.lnew (t' := s.toks) (ru.rep k.toNat) (by rw [PyProof.Rows.lm_len_rep_flat, Nat.mul_comm]; exact hz)
  exact ⟨.ref _, _, J, rfl, q _ I.fresh⟩
theorem op_add3 : OpR X (binaryOp .Add) (fun x y H Q => (rI0 (fun i j => .int (i + j)) x y H Q ∨ (∃ i j, x = .str i ∧ y = .str j ∧ i.length + j.length ≤ sizeLine ∧ Q (.str (i ++ j)) H)) ∨ (rCatR X.K x y H Q ∨ rCatT X.K x y H Q)) :=
  (op_add.or op_add_str).or (op_catR.or op_catT)
theorem opD_bin (op : Operator) : OpD G X (binaryOp op) (opBin op) := by
  intro pins s σ H F M x y dx dy v u Qd Q I S r1 r2 rx ry q pq
  unfold opBin at q
  split at q
  case h_1 i j e1 e2 =>
    obtain ⟨rfl, rfl⟩ := vw_int r1 e1
    obtain ⟨rfl, rfl⟩ := vw_int r2 e2
    exact op_add pins s σ H _ _ v u Q I rx ry ⟨i, j, rfl, rfl, pq.same S (.int _) q⟩
  case h_2 i j e1 e2 =>
    obtain ⟨rfl, rfl⟩ := vw_int r1 e1
    obtain ⟨rfl, rfl⟩ := vw_int r2 e2
    exact op_sub pins s σ H _ _ v u Q I rx ry ⟨i, j, rfl, rfl, pq.same S (.int _) q⟩
  case h_3 i j e1 e2 =>
    obtain ⟨rfl, rfl⟩ := vw_int r1 e1
    obtain ⟨rfl, rfl⟩ := vw_int r2 e2
    obtain ⟨h | h, q⟩ := q
    · exact op_mul pins s σ H _ _ v u Q I rx ry ⟨i, j, rfl, rfl, h, pq.same S (.int _) q⟩
    · exact op_mulW pins s σ H _ _ v u Q I rx ry ⟨i, j, rfl, rfl, h, pq.same S (.int _) q⟩
  case h_4 i j e1 e2 =>
    obtain ⟨rfl, rfl⟩ := vw_int r1 e1
    obtain ⟨rfl, rfl⟩ := vw_int r2 e2
    obtain ⟨h | h, q⟩ := q
    · exact op_fdiv pins s σ H _ _ v u Q I rx ry ⟨i, j, rfl, rfl, h, pq.same S (.int _) q⟩
    · exact op_fdivW pins s σ H _ _ v u Q I rx ry ⟨i, j, rfl, rfl, h, pq.same S (.int _) q⟩
  case h_5 i j e1 e2 =>
    obtain ⟨rfl, rfl⟩ := vw_int r1 e1
    obtain ⟨rfl, rfl⟩ := vw_int r2 e2
    exact op_mod pins s σ H _ _ v u Q I rx ry ⟨i, j, rfl, rfl, q.1, pq.same S (.int _) q.2⟩
  case h_6 i j e1 e2 =>
    obtain ⟨rfl, rfl⟩ := vw_int r1 e1
    obtain ⟨rfl, rfl⟩ := vw_int r2 e2
    exact op_pow pins s σ H _ _ v u Q I rx ry ⟨i, j, rfl, rfl, q.1, pq.same S (.int _) q.2⟩
  case h_7 i j e1 e2 =>
    obtain ⟨rfl, rfl⟩ := vw_str r1 e1
    obtain ⟨rfl, rfl⟩ := vw_str r2 e2
    exact op_add_str pins s σ H _ _ v u Q I rx ry ⟨i, j, rfl, rfl, lim_line q.1, pq.same S (.str _) q.2⟩
  case h_8 xs ys e1 e2 =>
    obtain ⟨a, vs, rfl, h1, t1⟩ := vw_lst S r1 e1
    obtain ⟨b, ws, rfl, h2, t2⟩ := vw_lst S r2 e2
    refine op_catR pins s σ H _ _ v u Q I rx ry ⟨a, b, vs, ws, rfl, rfl, h1, h2, ?_, fun p hp => pq.newL S hp (t1.append t2) q.2.2⟩
    rw [t1.length, t2.length]
    exact lim_line2 q.1 q.2.1
  case h_9 xs ys e1 e2 =>
    obtain ⟨a, vs, rfl, h1, t1⟩ := vw_tup S r1 e1
    obtain ⟨b, ws, rfl, h2, t2⟩ := vw_tup S r2 e2
    obtain ⟨n1, n2, l1, l2, q⟩ := q
    refine op_catT pins s σ H _ _ v u Q I rx ry ⟨a, b, vs, ws, rfl, rfl, .inl h1, .inl h2, fun z => n1 ?_, ?_, fun z => ?_, fun _ p hp => pq.newT S hp (t1.append t2) q⟩
    · subst z; cases t1; rfl
    · rw [t1.length, t2.length]
      exact lim_line2 l1 l2
    · subst z; cases t2; exact absurd rfl n2
  case h_10 xs j e1 e2 =>
    obtain ⟨a, vs, rfl, h1, t1⟩ := vw_lst S r1 e1
    obtain ⟨rfl, rfl⟩ := vw_int r2 e2
    obtain ⟨l0, l1, l2, q⟩ := q
    refine op_repR pins s σ H _ _ v u Q I rx ry ⟨a, j, vs, rfl, rfl, h1, by omega, ?_, ?_, fun p hp => pq.newL S hp (t1.rep _) q⟩
    · have : (lim : Int) < 2 ^ 63 := by decide
      omega
    · rw [t1.length]; exact lim_line l2
  case h_11 => exact q.elim
/-! ### equality -/
mutual
theorem dp_of {H F : Hp} {M : Sto} {K : PySem.W.Frag} (S : SR G H F M) : ∀ (d : D) (v : V) (p : PyData), Rep G F v d → toP d = some p → Dp K H v p
  | .non, _, p, r, e => by cases r; simp only [toP] at e; cases e; exact .non
  | .bl b, _, p, r, e => by cases r; simp only [toP] at e; cases e; exact .bl b
  | .int b, _, p, r, e => by cases r; simp only [toP] at e; cases e; exact .int b
  | .str b, _, p, r, e => by cases r; simp only [toP] at e; cases e; exact .str b
  | .lst xs, _, p, r, e => by
    cases r with
    | lst h t =>
      simp only [toP, Option.map_eq_some_iff] at e
      obtain ⟨ps, e, rfl⟩ := e
      exact .lst (.inl (S.rd h)) (dp_all S xs _ ps t e)
  | .tup xs, _, p, r, e => by
    cases r with
    | tup h t =>
      simp only [toP, Option.map_eq_some_iff] at e
      obtain ⟨ps, e, rfl⟩ := e
      exact .tup (.inl (S.rd h)) (dp_all S xs _ ps t e)
  | .dic _, _, p, r, e => by simp [toP] at e
  | .ins _ _, _, p, r, e => by simp [toP] at e
  | .mref _, _, p, r, e => by simp [toP] at e
  | .fn _, _, p, r, e => by simp [toP] at e
theorem dp_all {H F : Hp} {M : Sto} {K : PySem.W.Frag} (S : SR G H F M) : ∀ (ds : List D) (vs : List V) (ps : List PyData), RepL G F vs ds → toPs ds = some ps → DpAll K H vs ps
  | [], _, ps, r, e => by cases r; simp only [toPs] at e; cases e; exact .nil
  | d :: ds, _, ps, r, e => by
    cases r with
    | cons r t =>
      simp only [toPs] at e
      split at e
      · rename_i p q e1 e2
        cases e
        exact .cons (dp_of S d _ _ r e1) (dp_all S ds _ _ t e2)
      · cases e
end
theorem dp_vw {H F : Hp} {M : Sto} {K : PySem.W.Frag} (S : SR G H F M) {d : D} {v : V} {p : PyData} (r : Rep G F v d) (e : toP (vw M d) = some p) : Dp K H v p := by
  cases h : vw M d with
  | non => obtain ⟨rfl, rfl⟩ := vw_non r h; rw [h] at e; exact dp_of S _ _ _ .non e
  | bl b => obtain ⟨rfl, rfl⟩ := vw_bl r h; rw [h] at e; exact dp_of S _ _ _ (.bl b) e
  | int b => obtain ⟨rfl, rfl⟩ := vw_int r h; rw [h] at e; exact dp_of S _ _ _ (.int b) e
  | str b => obtain ⟨rfl, rfl⟩ := vw_str r h; rw [h] at e; exact dp_of S _ _ _ (.str b) e
  | lst xs =>
    obtain ⟨a, vs, rfl, h1, t⟩ := vw_lst S r h
    rw [h] at e
    simp only [toP, Option.map_eq_some_iff] at e
    obtain ⟨ps, e, rfl⟩ := e
    exact .lst (.inl h1) (dp_all S _ _ _ t e)
  | tup xs =>
    obtain ⟨a, vs, rfl, h1, t⟩ := vw_tup S r h
    rw [h] at e
    simp only [toP, Option.map_eq_some_iff] at e
    obtain ⟨ps, e, rfl⟩ := e
    exact .tup (.inl h1) (dp_all S _ _ _ t e)
  | dic _ => rw [h] at e; simp [toP] at e
  | ins _ _ => rw [h] at e; simp [toP] at e
  | mref _ => rw [h] at e; simp [toP] at e
  | fn _ => rw [h] at e; simp [toP] at e
theorem eqP_split {a b : D} {c : Bool} (h : eqP a b = some c) : ∃ p q, toP a = some p ∧ toP b = some q ∧ SeqAt.shaped p = true ∧ SeqAt.shaped q = true ∧ c = PyData.eqv p q := by
  unfold eqP at h
  split at h
  · rename_i p q e1 e2
    split at h
    · rename_i hs
      cases h
      exact ⟨p, q, e1, e2, hs.1, hs.2, rfl⟩
    · cases h
  · cases h
theorem eqD_split {a b : D} {c : Bool} (h : eqD a b = some c) : (∃ x y, a = .str x ∧ b = .str y ∧ c = decide (x = y)) ∨ eqP a b = some c := by
  unfold eqD at h
  split at h
  · rename_i x y
    exact .inl ⟨x, y, rfl, rfl, (Option.some.inj h).symm⟩
  · exact .inr h
theorem vals_strs {F : Hp} : ∀ {ss : List Str} {vs : List V}, RepL G F vs (ss.map D.str) → vs = ss.map V.str
  | [], _, .nil => rfl
  | s :: ss, _, .cons r t => by rw [rep_str r, vals_strs t]; rfl
theorem RepL.flat : ∀ {F : Hp} {vs : List V} {ds : List D} {ws : List V}, RepL G F vs ds → ds.map DS.flat = ws.map some → vs = ws ∧ ws.all flatV = true
  | _, _, _, ws, .nil, e => by cases ws <;> simp at e; exact ⟨rfl, rfl⟩
  | F, _, _, ws, .cons (d := d) r t, e => by
    cases ws with
    | nil => simp at e
    | cons w ws =>
      simp only [List.map_cons, List.cons.injEq] at e
      obtain ⟨rfl, hf⟩ := RepL.flat t e.2
      have e1 := e.1
      cases r <;> simp only [DS.flat] at e1 <;> first | (cases e1; done) | (cases e1; exact ⟨rfl, by rw [List.all_cons, hf]; rfl⟩)
theorem flat_rep {F : Hp} {d : D} {v w : V} (r : Rep G F v d) (e : flat d = some w) : v = w ∧ flatV w = true := by
  cases r <;> simp only [flat] at e <;> first | (cases e; done) | (cases e; exact ⟨rfl, rfl⟩)
/-! ### keys -/
theorem keyOf1_rep {F : Hp} {d : D} {v : V} {k : Key} (r : Rep G F v d) (e : keyOf1 d = some k) : v = kV k := by
  cases r <;> simp only [keyOf1] at e <;> first | (cases e; done) | (cases e; rfl)
theorem keysOf_rep {F : Hp} : ∀ {ds : List D} {vs : List V} {ks : List Key}, RepL G F vs ds → keysOf ds = some ks → vs = ks.map kV
  | [], _, ks, r, e => by cases r; simp only [keysOf] at e; cases e; rfl
  | d :: ds, _, ks, r, e => by
    cases r with
    | cons r t =>
      simp only [keysOf] at e
      split at e
      · rename_i k ks' e1 e2
        cases e
        rw [keyOf1_rep r e1, keysOf_rep t e2]; rfl
      · cases e
theorem key_rep {H F : Hp} {M : Sto} (S : SR G H F M) {d : D} {v : V} {k : DK} (r : Rep G F v d) (e : keyOf d = some k) : (∃ k1, k = .inl k1 ∧ v = kV k1) ∨ ∃ ks b, k = .inr ks ∧ v = .ref b ∧ H b = some (.tup (ks.map kV)) := by
  cases d with
  | tup ds =>
    simp only [keyOf, Option.map_eq_some_iff] at e
    obtain ⟨ks, e, rfl⟩ := e
    cases r with
    | tup h t => exact .inr ⟨ks, _, rfl, rfl, by rw [S.tup _ _ h, keysOf_rep t e]⟩
  | _ =>
    simp only [keyOf, Option.map_eq_some_iff] at e
    obtain ⟨k1, e, rfl⟩ := e
    exact .inl ⟨k1, rfl, keyOf1_rep r e⟩
theorem RepK.get : ∀ {F : Hp} {kvs : List (Key × V)} {ds : List (DK × D)} (k : Key), RepK G F kvs ds → (∀ d, getK ds (.inl k) = some d → ∃ v, valV kvs k = some v ∧ Rep G F v d) ∧ (getK ds (.inl k) = none → valV kvs k = none)
  | _, _, _, k, .nil => ⟨fun d e => by simp [getK] at e, fun _ => rfl⟩
  | F, _, _, k, .cons (k := j) (v := v) (d := d) r t => by
    obtain ⟨ih1, ih2⟩ := RepK.get k t
    by_cases h : j = k
    · subst h
      have e : ∀ ds, getK ((Sum.inl j, d) :: ds) (.inl j) = some d := fun ds => by simp [getK]
      exact ⟨fun d' e' => by rw [e] at e'; cases e'; exact ⟨v, valV_pos rfl, r⟩, fun e' => by rw [e] at e'; cases e'⟩
    · have e : ∀ ds, getK ((Sum.inl j, d) :: ds) (.inl k) = getK ds (.inl k) := fun ds => by simp [getK, h]
      refine ⟨fun d' e' => ?_, fun e' => ?_⟩
      · rw [e] at e'; rw [valV_neg h]; exact ih1 d' e'
      · rw [e] at e'; rw [valV_neg h]; exact ih2 e'
theorem RepT.get : ∀ {F : Hp} {kvs : List (List Key × V)} {ds : List (DK × D)} (k : List Key), RepT G F kvs ds → (∀ d, getK ds (.inr k) = some d → ∃ v, valV kvs k = some v ∧ Rep G F v d) ∧ (getK ds (.inr k) = none → valV kvs k = none)
  | _, _, _, k, .nil => ⟨fun d e => by simp [getK] at e, fun _ => rfl⟩
  | F, _, _, k, .cons (k := j) (v := v) (d := d) r t => by
    obtain ⟨ih1, ih2⟩ := RepT.get k t
    by_cases h : j = k
    · subst h
      have e : ∀ ds, getK ((Sum.inr j, d) :: ds) (.inr j) = some d := fun ds => by simp [getK]
      exact ⟨fun d' e' => by rw [e] at e'; cases e'; exact ⟨v, valV_pos rfl, r⟩, fun e' => by rw [e] at e'; cases e'⟩
    · have e : ∀ ds, getK ((Sum.inr j, d) :: ds) (.inr k) = getK ds (.inr k) := fun ds => by simp [getK, h]
      refine ⟨fun d' e' => ?_, fun e' => ?_⟩
      · rw [e] at e'; rw [valV_neg h]; exact ih1 d' e'
      · rw [e] at e'; rw [valV_neg h]; exact ih2 e'
/-- what a dict holds at a key; an empty one may be told with either kind of keys -/
theorem dic_get {H F : Hp} {M : Sto} (S : SR G H F M) {x y : V} {dx dy : D} {kvs : List (DK × D)} {k : DK} (rx : Rep G F x dx) (e : vw M dx = .dic kvs) (ry : Rep G F y dy) (hk : keyOf dy = some k)
    (ha : ∀ kv ∈ kvs, isTK kv.1 = isTK k) : ∃ a, x = .ref a ∧ ((∃ o, DGet H a y o ∧ (∀ d, getK kvs k = some d → ∃ v, o = some v ∧ Rep G F v d) ∧ (getK kvs k = none → o = none)) ∨ (kvs = [] ∧ (Rd H a (.dK []) ∨ Rd H a (.dT [])))) := by
  obtain ⟨a, rfl, ⟨vs, h, t⟩ | ⟨vs, h, t⟩⟩ := vw_dic S rx e
  · refine ⟨a, rfl, ?_⟩
    rcases key_rep S ry hk with ⟨k1, rfl, rfl⟩ | ⟨ks, b, rfl, rfl, hb⟩
    · exact .inl ⟨_, .inl ⟨vs, k1, h, rfl, rfl⟩, t.get k1⟩
    · cases t with
      | nil => exact .inr ⟨rfl, .inl h⟩
      | cons r t => exact absurd (ha _ List.mem_cons_self) (by simp [isTK])
  · refine ⟨a, rfl, ?_⟩
    rcases key_rep S ry hk with ⟨k1, rfl, rfl⟩ | ⟨ks, b, rfl, rfl, hb⟩
    · cases t with
      | nil => exact .inr ⟨rfl, .inr h⟩
      | cons r t => exact absurd (ha _ List.mem_cons_self) (by simp [isTK])
    · exact .inl ⟨_, .inr ⟨vs, ks, b, h, rfl, hb, rfl⟩, t.get ks⟩
section
variable {H : Hp} {s : Shared} {σ : L2.St} {pins : List (Addr × Obj)} {a : Addr}
theorem emp_obj (I : Inv X pins σ H s) (h : Rd H a (.dK []) ∨ Rd H a (.dT [])) : (a == sysModules) = false ∧ ∃ o es ep, s.heap.get? a = some o ∧ o.ExactDict ∧ o.data = .dict es ep ∧ es.toList = [] := by
  rcases h with h | h
  · obtain ⟨_, hd, vs, rel, o, es, ep, e1, e2, e3, _, e5, _⟩ := dk_rd I.hok h
    refine ⟨hd, o, es, ep, e1, e2, e3, ?_⟩
    cases rel
    cases h : es.toList with
    | nil => rfl
    | cons x r => rw [h] at e5; cases e5
  · obtain ⟨_, hd, xs, rel, o, es, ep, e1, e2, e3, e4, _⟩ := dt_rd I.hok h
    refine ⟨hd, o, es, ep, e1, e2, e3, ?_⟩
    cases rel
    exact e4
theorem emp_K (I : Inv X pins σ H s) (h : Rd H a (.dK []) ∨ Rd H a (.dT [])) : (a == sysModules) = false ∧ s.heap.DictOf (mixKind X.prog X.w) a [] := by
  obtain ⟨hd, o, es, ep, e1, e2, e3, e4⟩ := emp_obj I h
  have es0 : es = #[] := by cases es; simp at e4; simp [e4]
  subst es0
  exact ⟨hd, o, #[], ep, e1, e2, e3, fun e he => by simp at he, .nil, List.nodup_nil⟩
theorem emp_T (I : Inv X pins σ H s) (h : Rd H a (.dK []) ∨ Rd H a (.dT [])) : (a == sysModules) = false ∧ s.heap.DictOfH (tupleKind (mixKind X.prog X.w)) a [] := by
  obtain ⟨hd, o, es, ep, e1, e2, e3, e4⟩ := emp_obj I h
  exact ⟨hd, o, es, ep, e1, e2, e3, by simpa using e4, fun x hx => by simp at hx, List.nodup_nil⟩
theorem emp_in {A : Around} {E : Value → Shared → Prop} {Q : Value → Shared → Prop} {y : V} {u : Value} (hu : A.units + 1 < cLine) (I : Inv X pins σ H s) (h : Rd H a (.dK []) ∨ Rd H a (.dT []))
    (hy : (∃ k, y = kV k) ∨ ∃ ks b, y = .ref b ∧ H b = some (.tup (List.map kV ks))) (ry : RelV y u) (q : ∀ s', Inv X pins σ H s' → Q (.bool false) s') : wpAny (model X.prog X.w) A (compareOp .In u (.ref a)) Q E s := by
  rcases hy with ⟨k, rfl⟩ | ⟨ks, b, rfl, hb⟩
  · obtain ⟨hd, dd⟩ := emp_K I h
    exact wpAny_in_of (kV_is ry) hd dd.mapOf (q _ (I.tok _))
  · cases (show u = Value.ref b from ry)
    obtain ⟨hd, dd⟩ := emp_T I h
    exact wpAny_in_heap (tupleKind_room_in1 hu) (key_of I.hok hb) hd dd (q _ (I.tok _))
theorem emp_notIn {A : Around} {E : Value → Shared → Prop} {Q : Value → Shared → Prop} {y : V} {u : Value} (hu : A.units + 1 < cLine) (I : Inv X pins σ H s) (h : Rd H a (.dK []) ∨ Rd H a (.dT []))
    (hy : (∃ k, y = kV k) ∨ ∃ ks b, y = .ref b ∧ H b = some (.tup (List.map kV ks))) (ry : RelV y u) (q : ∀ s', Inv X pins σ H s' → Q (.bool true) s') : wpAny (model X.prog X.w) A (compareOp .NotIn u (.ref a)) Q E s := by
  rcases hy with ⟨k, rfl⟩ | ⟨ks, b, rfl, hb⟩
  · obtain ⟨hd, dd⟩ := emp_K I h
    exact wpAny_notIn_of (kV_is ry) hd dd.mapOf (q _ (I.tok _))
  · cases (show u = Value.ref b from ry)
    obtain ⟨hd, dd⟩ := emp_T I h
    exact wpAny_notIn_heap (tupleKind_room_in1 hu) (key_of I.hok hb) hd dd (q _ (I.tok _))
end
theorem opD_in (neg : Bool) (hu : X.A.units + 64 < cLine) : OpD G X (compareOp (if neg then .NotIn else .In)) (fun x y M Q => opCmp.opIn x y M fun b => Q (.bl (if neg then !b else b)) M) := by
  intro pins s σ H F M x y dx dy v u Qd Q I S r1 r2 rx ry q pq
  have q : opCmp.opIn dx dy M fun b => Qd (.bl (if neg then !b else b)) M := q
  unfold opCmp.opIn at q
  split at q
  case h_1 ys e =>
    obtain ⟨w, ws, e1, e2, q⟩ := q
    obtain ⟨a, vs, rfl, h, t⟩ := vw_lst S r2 e
    obtain ⟨rfl, f1⟩ := flat_rep r1 e1
    obtain ⟨rfl, f2⟩ := t.flat e2
    cases neg
    · exact op_in_seq pins s σ H _ _ v u Q I rx ry ⟨a, vs, rfl, .inl (.inl h), f1, f2, pq.same S (.bl _) q⟩
    · exact op_notIn_seq pins s σ H _ _ v u Q I rx ry ⟨a, vs, rfl, .inl (.inl h), f1, f2, pq.same S (.bl _) q⟩
  case h_2 ys e =>
    obtain ⟨w, ws, e1, e2, q⟩ := q
    obtain ⟨a, vs, rfl, h, t⟩ := vw_tup S r2 e
    obtain ⟨rfl, f1⟩ := flat_rep r1 e1
    obtain ⟨rfl, f2⟩ := t.flat e2
    cases neg
    · exact op_in_seq pins s σ H _ _ v u Q I rx ry ⟨a, vs, rfl, .inr (.inl h), f1, f2, pq.same S (.bl _) q⟩
    · exact op_notIn_seq pins s σ H _ _ v u Q I rx ry ⟨a, vs, rfl, .inr (.inl h), f1, f2, pq.same S (.bl _) q⟩
  case h_3 kvs e =>
    obtain ⟨k, hk, ha, q⟩ := q
    obtain ⟨a, rfl, hd⟩ := dic_get S r2 e r1 hk ha
    cases (show u = Value.ref a from ry)
    rcases hd with ⟨o, g, g1, g2⟩ | ⟨rfl, hd⟩
    · have eo : (getK kvs k).isSome = o.isSome := by
        cases e : getK kvs k with
        | none => rw [g2 e]; rfl
        | some d => obtain ⟨v', e', _⟩ := g1 d e; rw [e']; rfl
      rw [eo] at q
      cases neg
      · exact d_in (by omega) I g rx fun s' I' => ⟨.bl _, H, I', rfl, pq.same S (.bl _) q⟩
      · exact d_notIn (by omega) I g rx fun s' I' => ⟨.bl _, H, I', rfl, pq.same S (.bl _) q⟩
    · have hy : (∃ k, x = kV k) ∨ ∃ ks b, x = .ref b ∧ H b = some (.tup (List.map kV ks)) := by
        rcases key_rep S r1 hk with ⟨k1, _, z⟩ | ⟨ks, b, _, z, zb⟩
        · exact .inl ⟨k1, z⟩
        · exact .inr ⟨ks, b, z, zb⟩
      cases neg
      · exact emp_in (by omega) I hd hy rx fun s' I' => ⟨.bl _, H, I', rfl, pq.same S (.bl _) q⟩
      · exact emp_notIn (by omega) I hd hy rx fun s' I' => ⟨.bl _, H, I', rfl, pq.same S (.bl _) q⟩
  case h_4 t e =>
    obtain ⟨s', e0, q'⟩ := q
    obtain ⟨_, rfl⟩ := vw_str r2 e
    rw [e0] at r1
    obtain rfl := rep_str r1
    cases neg
    · exact op_in_str pins s σ H _ _ v u Q I rx ry ⟨_, _, rfl, rfl, pq.same S (.bl _) q'⟩
    · exact op_notin_str pins s σ H _ _ v u Q I rx ry ⟨_, _, rfl, rfl, pq.same S (.bl _) q'⟩
  case h_5 => exact q.elim
theorem known_none {H F : Hp} {M : Sto} {d : D} {v : V} (r : Rep G F v d) (hk : known (vw M d) = true) : decide (v = .non) = (match vw M d with | .non => true | _ => false) := by
  cases r with
  | mref a =>
    have ev : vw M (.mref a) = (match M a with | some o => o.d | none => .mref a) := rfl
    rw [ev] at hk ⊢
    cases h : M a with
    | none => rw [h] at hk; simp [known] at hk
    | some o => cases o <;> rfl
  | fn i => simp [vw, known] at hk
  | _ => rfl
theorem opD_cmp (hu : X.A.units + 64 < cLine) (op : CmpOp) : OpD G X (compareOp op) (opCmp op) := by
  cases op with
  | In => intro pins s σ H F M x y dx dy v u Qd Q I S r1 r2 rx ry q pq; exact opD_in false hu pins s σ H F M x y dx dy v u Qd Q I S r1 r2 rx ry q pq
  | NotIn => intro pins s σ H F M x y dx dy v u Qd Q I S r1 r2 rx ry q pq; exact opD_in true hu pins s σ H F M x y dx dy v u Qd Q I S r1 r2 rx ry q pq
  | Lt =>
    refine OpR.toD op_lt fun H F M x y dx dy Qd Q S r1 r2 q pq => ?_
    obtain ⟨i, j, e1, e2, q⟩ := q
    exact ⟨i, j, (vw_int r1 e1).2, (vw_int r2 e2).2, pq.same S (.bl _) q⟩
  | LtE =>
    refine OpR.toD op_le fun H F M x y dx dy Qd Q S r1 r2 q pq => ?_
    obtain ⟨i, j, e1, e2, q⟩ := q
    exact ⟨i, j, (vw_int r1 e1).2, (vw_int r2 e2).2, pq.same S (.bl _) q⟩
  | Gt =>
    refine OpR.toD op_gt fun H F M x y dx dy Qd Q S r1 r2 q pq => ?_
    obtain ⟨i, j, e1, e2, q⟩ := q
    exact ⟨i, j, (vw_int r1 e1).2, (vw_int r2 e2).2, pq.same S (.bl _) q⟩
  | GtE =>
    refine OpR.toD op_ge fun H F M x y dx dy Qd Q S r1 r2 q pq => ?_
    obtain ⟨i, j, e1, e2, q⟩ := q
    exact ⟨i, j, (vw_int r1 e1).2, (vw_int r2 e2).2, pq.same S (.bl _) q⟩
  | Eq =>
    intro pins s σ H F M x y dx dy v u Qd Q I S r1 r2 rx ry q pq
    rcases q with ⟨b, e, q⟩ | ⟨ss, e1, e2, q⟩
    · rcases eqD_split e with ⟨z, z', e1, e2, rfl⟩ | e
      · obtain ⟨_, rfl⟩ := vw_str r1 e1
        obtain ⟨_, rfl⟩ := vw_str r2 e2
        refine op_eq pins s σ H _ _ v u Q I rx ry ⟨rfl, ?_⟩
        rw [dec_str, ← Bool.beq_eq_decide_eq] at *
        exact pq.same S (.bl _) q
      · obtain ⟨p, p', e1, e2, s1, s2, rfl⟩ := eqP_split e
        exact op_eqD hu pins s σ H _ _ v u Q I rx ry ⟨p, p', dp_vw S r1 e1, dp_vw S r2 e2, s1, s2, pq.same S (.bl _) q⟩
    · obtain ⟨a, vs, rfl, h1, t1⟩ := vw_lst S r1 e1
      obtain ⟨b, ws, rfl, h2, t2⟩ := vw_lst S r2 e2
      obtain rfl := vals_strs t1
      obtain rfl := vals_strs t2
      refine op_eqV hu pins s σ H _ _ v u Q I rx ry ⟨1, by omega, .inl ⟨a, b, _, _, rfl, rfl, .inl h1, .inl h2, ?_⟩, pq.same S (.bl _) q⟩
      clear t1 t2 h1 h2 e1 e2
      induction ss with
      | nil => exact .nil
      | cons z ss ih => exact .cons (.inl ⟨rfl, rfl⟩) ih
  | NotEq =>
    intro pins s σ H F M x y dx dy v u Qd Q I S r1 r2 rx ry ⟨b, e, q⟩ pq
    rcases eqD_split e with ⟨z, z', e1, e2, rfl⟩ | e
    · obtain ⟨_, rfl⟩ := vw_str r1 e1
      obtain ⟨_, rfl⟩ := vw_str r2 e2
      refine op_ne pins s σ H _ _ v u Q I rx ry ⟨rfl, ?_⟩
      rw [dec_str, ← Bool.beq_eq_decide_eq] at *
      exact pq.same S (.bl _) q
    · obtain ⟨p, p', e1, e2, s1, s2, rfl⟩ := eqP_split e
      exact op_neD hu pins s σ H _ _ v u Q I rx ry ⟨p, p', dp_vw S r1 e1, dp_vw S r2 e2, s1, s2, pq.same S (.bl _) q⟩
  | Is =>
    refine OpR.toD op_isN fun H F M x y dx dy Qd Q S r1 r2 q pq => ?_
    obtain ⟨rfl, hk, q⟩ := q
    refine ⟨rep_non r2, ?_⟩
    rw [known_none (H := H) r1 hk]
    exact pq.same S (.bl _) q
  | IsNot =>
    refine OpR.toD op_notN fun H F M x y dx dy Qd Q S r1 r2 q pq => ?_
    obtain ⟨rfl, hk, q⟩ := q
    refine ⟨rep_non r2, ?_⟩
    rw [known_none (H := H) r1 hk]
    refine pq.same S (.bl _) ?_
    have : (!(match vw M dx with | .non => true | _ => false)) = (match vw M dx with | .non => false | _ => true) := by cases vw M dx <;> rfl
    rw [this]; exact q
end
end DS
end
section
set_option Elab.async false
set_option linter.all false
set_option maxRecDepth 100000
/-! DsE: expressions: names, operators, tests, displays, subscripts. -/
namespace DS
open PySem PySem.Spec PyProof.Rows L2 LamX

abbrev WE := DEnv → Sto → Po D → Po Exn → Prop
abbrev WT := DEnv → Sto → Po Bool → Po Exn → Prop
abbrev WA := DEnv → Sto → Po (List D) → Po Exn → Prop
theorem PE_imp {X : Cx} {e : Expr} {t t' : TE} (h : PE X e t) (i : ∀ σ H Q, t' σ H Q → t σ H Q) : PE X e t' := ⟨fun pins s σ H Q I q => h.run pins s σ H Q I (i σ H Q q)⟩
theorem PT_imp {X : Cx} {e : Expr} {t t' : TT} (h : PT X e t) (i : ∀ σ H Q, t' σ H Q → t σ H Q) : PT X e t' := ⟨fun pins s σ H Q I q => h.run pins s σ H Q I (i σ H Q q)⟩
theorem PA_imp {X : Cx} {e : List Expr} {t t' : TA} (h : PA X e t) (i : ∀ σ H Q, t' σ H Q → t σ H Q) : PA X e t' := ⟨fun pos pins s σ H Q I q => h.run pos pins s σ H Q I (i σ H Q q)⟩
section
variable {G : GC} {X : Cx} {E : XK}
/-- an expression, told by its meaning, where what follows is told step by step -/
theorem rd_use {e : Expr} {t : WE} (h : PE X e (rdE G E t)) {pins : List (Addr × Obj)} {s : Shared} {σ : L2.St} {H F : Hp} {ρ : DEnv} {M : Sto} {Qd : Po D} {Ed : Po Exn} {Qf : Value → Shared → Prop}
    (I : Inv X pins σ H s) (S : StR G σ H F ρ M) (q : t ρ M Qd Ed) (px : PX G H F M Ed E)
    (k : ∀ u s1 v d H1 F1 M1, Inv X pins σ H1 s1 → StR G σ H1 F1 ρ M1 → Keep H F M H1 F1 M1 → Sub F F1 → Rep G F1 v d → RelV v u → Qd d M1 → Qf u s1) : wpAny (model X.prog X.w) X.A (eval e X.env) Qf X.xe s := by
  refine thn (h.run pins s σ H (fun v H1 => ∃ F1 M1 d, StR G σ H1 F1 ρ M1 ∧ Keep H F M H1 F1 M1 ∧ Sub F F1 ∧ Rep G F1 v d ∧ Qd d M1) I ⟨ρ, F, M, Qd, Ed, S, q, ?_, px⟩) fun u s1 ⟨v, H1, I1, r1, F1, M1, d, S1, K1, u1, r, q1⟩ => k u s1 v d H1 F1 M1 I1 S1 K1 u1 r r1 q1
  exact fun d M' v H' F' q S' K' u' r => ⟨F', M', d, S.step S' u', K', u', r, q⟩
theorem rt_use {e : Expr} {t : WT} (h : PT X e (rdT G E t)) {pins : List (Addr × Obj)} {s : Shared} {σ : L2.St} {H F : Hp} {ρ : DEnv} {M : Sto} {Qd : Po Bool} {Ed : Po Exn} {Qf : Bool → Shared → Prop}
    (I : Inv X pins σ H s) (S : StR G σ H F ρ M) (q : t ρ M Qd Ed) (px : PX G H F M Ed E)
    (k : ∀ b s1 H1 F1 M1, Inv X pins σ H1 s1 → StR G σ H1 F1 ρ M1 → Keep H F M H1 F1 M1 → Sub F F1 → Qd b M1 → Qf b s1) : wpAny (model X.prog X.w) X.A (isTrue e X.env (eval e X.env)) Qf X.xe s := by
  refine thn (h.run pins s σ H (fun b H1 => ∃ F1 M1, StR G σ H1 F1 ρ M1 ∧ Keep H F M H1 F1 M1 ∧ Sub F F1 ∧ Qd b M1) I ⟨ρ, F, M, Qd, Ed, S, q, ?_, px⟩) fun b s1 ⟨H1, I1, F1, M1, S1, K1, u1, q1⟩ => k b s1 H1 F1 M1 I1 S1 K1 u1 q1
  exact fun b M' H' F' q S' K' u' => ⟨F', M', S.step S' u', K', u', q⟩
theorem ra_use {es : List Expr} {t : WA} {n : Nat} (h : PA X es (rdA G E n t)) {pos : Pos} {pins : List (Addr × Obj)} {s : Shared} {σ : L2.St} {H F : Hp} {ρ : DEnv} {M : Sto} {Qd : Po (List D)} {Ed : Po Exn} {Qf : List Value → Shared → Prop}
    (I : Inv X pins σ H s) (S : StR G σ H F ρ M) (q : t ρ M Qd Ed) (px : PX G H F M Ed E)
    (k : ∀ us s1 vs ds H1 F1 M1, Inv X pins σ H1 s1 → StR G σ H1 F1 ρ M1 → Keep H F M H1 F1 M1 → Sub F F1 → RepL G F1 vs ds → Vals vs us → ds.length = n → Qd ds M1 → Qf us s1) : wpAny (model X.prog X.w) X.A (spliced (backTo pos (starEach es X.env))) Qf X.xe s := by
  refine thn (h.run pos pins s σ H (fun vs H1 => ∃ F1 M1 ds, StR G σ H1 F1 ρ M1 ∧ Keep H F M H1 F1 M1 ∧ Sub F F1 ∧ RepL G F1 vs ds ∧ ds.length = n ∧ Qd ds M1) I ⟨ρ, F, M, Qd, Ed, S, q, ?_, px⟩) fun us s1 ⟨vs, H1, I1, r1, F1, M1, ds, S1, K1, u1, r, hl, q1⟩ => k us s1 vs ds H1 F1 M1 I1 S1 K1 u1 r r1 hl q1
  exact fun ds M' vs H' F' hl q S' K' u' r => ⟨F', M', ds, S.step S' u', K', u', r, hl, q⟩

variable {a b c : Expr} {ta tb tc : WE} {pos : Pos}
theorem s_var {i : Nat} {x : Str} (hN : X.N[i]? = some x) (hv : Vis X.env.scope x) (hd : (x == ("__debug__" : Str)) = false) (hcd : (x == ("__classdict__" : Str)) = false) :
    PE X (.Name x pos) (rdE G E fun ρ M Q _ => ∃ d, ρ[i]? = some (some (.d d)) ∧ Q d M) := by
  refine PE_imp (pe_var (i := i) hN hv hd hcd) fun σ H Q ⟨ρ, F, M, Qd, Ed, S, ⟨d, e, q⟩, pq, _⟩ => ?_
  obtain ⟨v, e1, r⟩ := S.vr i _ e
  cases r with
  | d r => exact ⟨v, e1, pq.same S.sr r q⟩
theorem s_cst {e : Expr} {v : V} {d : D} (h : PE X e (tC v)) (r : ∀ F, Rep G F v d) : PE X e (rdE G E fun _ M Q _ => Q d M) :=
  PE_imp h fun σ H Q ⟨ρ, F, M, Qd, Ed, S, q, pq, _⟩ => pq.same S.sr (r F) q
theorem s_op {f : Value → Value → Sem Value} {od : D → D → Sto → Po D → Prop} {e : Expr} (ho : OpD G X f od) (ha : PE X a (rdE G E ta)) (hb : PE X b (rdE G E tb))
    (hw : ∀ {Q : Value → Shared → Prop} {s : Shared}, wpAny (model X.prog X.w) X.A (eval a X.env) (fun v s1 => wpAny (model X.prog X.w) X.A (eval b X.env) (fun u s2 => wpAny (model X.prog X.w) X.A (f v u) Q X.xe s2) X.xe s1) X.xe s →
      wpAny (model X.prog X.w) X.A (eval e X.env) Q X.xe s) :
    PE X e (rdE G E fun ρ M Q Ex => ta ρ M (fun x M1 => tb ρ M1 (fun y M2 => od x y M2 Q) Ex) Ex) := by
  refine ⟨fun pins s σ H Q I ⟨ρ, F, M, Qd, Ed, S, q, pq, px⟩ => hw ?_⟩
  refine rd_use ha I S q px fun v s1 x dx H1 F1 M1 I1 S1 K1 u1 r1 rx q1 => ?_
  refine rd_use hb I1 S1 q1 (px.step K1 u1) fun u s2 y dy H2 F2 M2 I2 S2 K2 u2 r2 ry q2 => ?_
  exact ho pins s2 σ H2 F2 M2 x y dx dy v u Qd Q I2 S2.sr (r1.mono u2) r2 rx ry q2 (pq.step (K1.trans K2) (u1.trans u2))
theorem s_bin (op : Operator) (ha : PE X a (rdE G E ta)) (hb : PE X b (rdE G E tb)) :
    PE X (.BinOp a op b pos) (rdE G E fun ρ M Q Ex => ta ρ M (fun x M1 => tb ρ M1 (fun y M2 => opBin op x y M2 Q) Ex) Ex) := s_op (opD_bin op) ha hb fun h => wpAny_BinOp h
theorem s_cmp (hu : X.A.units + 64 < cLine) (op : CmpOp) (hm : behindInMarks op b = false) (ha : PE X a (rdE G E ta)) (hb : PE X b (rdE G E tb)) :
    PE X (.Compare a [op] [b] pos) (rdE G E fun ρ M Q Ex => ta ρ M (fun x M1 => tb ρ M1 (fun y M2 => opCmp op x y M2 Q) Ex) Ex) := s_op (opD_cmp hu op) ha hb fun h => wpAny_Compare1 h hm
theorem s_chn (hu : X.A.units + 64 < cLine) (op op' : CmpOp) (hm : lastMarks [op, op'] [b, c] = false) (ha : PE X a (rdE G E ta)) (hb : PE X b (rdE G E tb)) (hc : PE X c (rdE G E tc)) :
    PE X (.Compare a [op, op'] [b, c] pos) (rdE G E fun ρ M Q Ex => ta ρ M (fun x M1 => tb ρ M1 (fun y M2 => opCmp op x y M2 fun z M3 => ∃ k, z = .bl k ∧
      if k = true then tc ρ M3 (fun u M4 => opCmp op' y u M4 Q) Ex else Q (.bl false) M3) Ex) Ex) := by
  refine ⟨fun pins s σ H Q I ⟨ρ, F, M, Qd, Ed, S, q, pq, px⟩ => ?_⟩
  refine Compare_chain ?_ hm
  refine rd_use ha I S q px fun v s1 x dx H1 F1 M1 I1 S1 K1 u1 r1 rx q1 => chain_link ?_
  refine rd_use hb I1 S1 q1 (px.step K1 u1) fun u s2 y dy H2 F2 M2 I2 S2 K2 u2 r2 ry q2 => ?_
  have q2 : opCmp op dx dy M2 fun z M3 => ∃ k, z = .bl k ∧ (if k = true then tc ρ M3 (fun u M4 => opCmp op' dy u M4 Qd) Ed else Qd (.bl false) M3) := q2
  refine thn (opD_cmp (G := G) hu op pins s2 σ H2 F2 M2 x y dx dy v u _ (fun z H3 => ∃ F3 M3 k, z = .bl k ∧ StR G σ H3 F3 ρ M3 ∧ Keep H2 F2 M2 H3 F3 M3 ∧ Sub F2 F3 ∧
    (if k = true then tc ρ M3 (fun u M4 => opCmp op' dy u M4 Qd) Ed else Qd (.bl false) M3)) I2 S2.sr (r1.mono u2) r2 rx ry q2 fun d M3 z H3 F3 q3 S3 K3 u3 r3 => ?_) fun w s3 ⟨z, H3, I3, r3, F3, M3, k, ez, S3, K3, u3, q3⟩ => ?_
  · obtain ⟨k, rfl, q3⟩ := q3
    exact ⟨F3, M3, k, rep_bl r3, S2.step S3 u3, K3, u3, q3⟩
  subst ez
  cases r3
  refine wpAny_truthy_bool ?_
  cases k with
  | false => exact ite_ff ⟨.bl false, H3, I3, rfl, (pq.step ((K1.trans K2).trans K3) ((u1.trans u2).trans u3)).same S3.sr (.bl false) q3⟩
  | true =>
    refine ite_tt (chain_last ?_)
    refine rd_use hc I3 S3 q3 (px.step ((K1.trans K2).trans K3) ((u1.trans u2).trans u3)) fun w' s4 z' dz H4 F4 M4 I4 S4 K4 u4 r4 rz q4 => ?_
    exact opD_cmp hu op' pins s4 σ H4 F4 M4 y z' dy dz u w' Qd Q I4 S4.sr (r2.mono (u3.trans u4)) r4 ry rz q4 (pq.step (((K1.trans K2).trans K3).trans K4) (((u1.trans u2).trans u3).trans u4))
theorem s_neg (ha : PE X a (rdE G E ta)) : PE X (.UnaryOp .USub a pos) (rdE G E fun ρ M Q Ex => ta ρ M (fun x M1 => ∃ i, x = .int i ∧ Q (.int (-i)) M1) Ex) := by
  refine ⟨fun pins s σ H Q I ⟨ρ, F, M, Qd, Ed, S, q, pq, px⟩ => UnaryOp_ ?_⟩
  refine rd_use ha I S q px fun v s1 x dx H1 F1 M1 I1 S1 K1 u1 r1 rx ⟨i, e, q1⟩ => ?_
  subst e
  exact un_neg pins s1 σ H1 x v Q I1 rx ⟨i, rep_int r1, (pq.step K1 u1).same S1.sr (.int _) q1⟩
/-! ### truth -/
theorem tru_rep {H F : Hp} {M : Sto} {d : D} {v : V} {k : Bool} (S : SR G H F M) (r : Rep G F v d) (e : tru (vw M d) = some k) : TruV X.K v H k := by
  cases h : vw M d with
  | non => obtain ⟨_, rfl⟩ := vw_non r h; rw [h] at e; cases e; exact rfl
  | bl b => obtain ⟨_, rfl⟩ := vw_bl r h; rw [h] at e; cases e; exact rfl
  | int b => obtain ⟨_, rfl⟩ := vw_int r h; rw [h] at e; cases e; exact rfl
  | str z =>
    obtain ⟨_, rfl⟩ := vw_str r h
    rw [h] at e
    simp only [tru] at e
    split at e
    · rename_i hl
      cases e
      refine ⟨lim_line hl, ?_⟩
      simp [bne, BEq.beq]
    · cases e
  | lst xs =>
    obtain ⟨a, vs, rfl, h1, t⟩ := vw_lst S r h
    rw [h] at e; cases e
    refine .inl ⟨vs, .inl h1, ?_⟩
    cases t <;> rfl
  | tup xs =>
    obtain ⟨a, vs, rfl, h1, t⟩ := vw_tup S r h
    rw [h] at e; cases e
    refine .inr (.inl ⟨vs, .inl h1, ?_⟩)
    cases t <;> rfl
  | dic _ => rw [h] at e; simp [tru] at e
  | ins _ _ => rw [h] at e; simp [tru] at e
  | mref _ => rw [h] at e; simp [tru] at e
  | fn _ => rw [h] at e; simp [tru] at e
theorem s_not (ha : PE X a (rdE G E ta)) : PE X (.UnaryOp .Not a pos) (rdE G E fun ρ M Q Ex => ta ρ M (fun x M1 => ∃ b, tru (vw M1 x) = some b ∧ Q (.bl (!b)) M1) Ex) := by
  refine ⟨fun pins s σ H Q I ⟨ρ, F, M, Qd, Ed, S, q, pq, px⟩ => UnaryOp_ ?_⟩
  refine rd_use ha I S q px fun v s1 x dx H1 F1 M1 I1 S1 K1 u1 r1 rx ⟨b, e, q1⟩ => not_of ?_
  refine thn (tru_ok pins s1 σ H1 x v (fun c H2 => c = b ∧ H2 = H1) I1 rx ⟨b, tru_rep S1.sr r1 e, rfl, rfl⟩) fun c s2 ⟨H2, I2, e1, e2⟩ => ?_
  subst e1 e2
  exact ⟨.bl _, _, I2, rfl, (pq.step K1 u1).same S1.sr (.bl _) q1⟩
theorem s_and {rest : List Expr} (ha : PE X a (rdE G E ta)) (hb : PE X (.BoolOp .And (b :: rest) pos) (rdE G E tb)) :
    PE X (.BoolOp .And (a :: b :: rest) pos) (rdE G E fun ρ M Q Ex => ta ρ M (fun x M1 => ∃ c, x = .bl c ∧ if c = true then tb ρ M1 Q Ex else Q (.bl false) M1) Ex) := by
  refine ⟨fun pins s σ H Q I ⟨ρ, F, M, Qd, Ed, S, q, pq, px⟩ => BoolOp_and ?_⟩
  refine rd_use ha I S q px fun v s1 x dx H1 F1 M1 I1 S1 K1 u1 r1 rx ⟨c, e, q1⟩ => ?_
  subst e
  obtain rfl := rep_bl r1
  cases rx
  refine wpAny_truthy_bool ?_
  cases c with
  | true => exact hb.run pins s1 σ H1 Q I1 ⟨ρ, F1, M1, Qd, Ed, S1, q1, pq.step K1 u1, px.step K1 u1⟩
  | false => exact ⟨.bl false, H1, I1, rfl, (pq.step K1 u1).same S1.sr (.bl _) q1⟩
theorem s_or {rest : List Expr} (ha : PE X a (rdE G E ta)) (hb : PE X (.BoolOp .Or (b :: rest) pos) (rdE G E tb)) :
    PE X (.BoolOp .Or (a :: b :: rest) pos) (rdE G E fun ρ M Q Ex => ta ρ M (fun x M1 => ∃ c, x = .bl c ∧ if c = true then Q (.bl true) M1 else tb ρ M1 Q Ex) Ex) := by
  refine ⟨fun pins s σ H Q I ⟨ρ, F, M, Qd, Ed, S, q, pq, px⟩ => BoolOp_or ?_⟩
  refine rd_use ha I S q px fun v s1 x dx H1 F1 M1 I1 S1 K1 u1 r1 rx ⟨c, e, q1⟩ => ?_
  subst e
  obtain rfl := rep_bl r1
  cases rx
  refine wpAny_truthy_bool ?_
  cases c with
  | false => exact hb.run pins s1 σ H1 Q I1 ⟨ρ, F1, M1, Qd, Ed, S1, q1, pq.step K1 u1, px.step K1 u1⟩
  | true => exact ⟨.bl true, H1, I1, rfl, (pq.step K1 u1).same S1.sr (.bl _) q1⟩
theorem s_one {op : BoolOp} {t : WE} (h : PE X a (rdE G E t)) : PE X (.BoolOp op [a] pos) (rdE G E t) := pe_one h
/-! ### tests -/
/-- a test that is a value's truth -/
def plainT : Expr → Bool
  | .UnaryOp .Not _ _ => false
  | .BoolOp _ _ _ => false
  | .IfExp _ _ _ _ => false
  | .Compare _ _ _ _ => false
  | _ => true
theorem isTrue_eq {e : Expr} {env : PySem.Env} {whole : Sem Value} (h : plainT e = true) : isTrue e env whole = (do let v ← whole; standAt e.pos; holding [v] (truthy v)) := by
  cases e with
  | UnaryOp op x p => cases op <;> first | rfl | cases h
  | BoolOp => cases h
  | IfExp => cases h
  | Compare => cases h
  | _ => rfl
def truW (t : WE) : WT := fun ρ M Q Ex => t ρ M (fun x M1 => ∃ b, tru (vw M1 x) = some b ∧ Q b M1) Ex
/-- the truth of a value -/
theorem tru_do {pins : List (Addr × Obj)} {s : Shared} {σ : L2.St} {H F : Hp} {M : Sto} {d : D} {v : V} {u : Value} {b : Bool} {Qf : Bool → Shared → Prop} (I : Inv X pins σ H s) (S : SR G H F M) (r : Rep G F v d) (rv : RelV v u) (e : tru (vw M d) = some b)
    (k : ∀ s', Inv X pins σ H s' → Qf b s') : wpAny (model X.prog X.w) X.A (truthy u) Qf X.xe s := by
  refine thn (tru_ok pins s σ H v u (fun c H2 => c = b ∧ H2 = H) I rv ⟨b, tru_rep S r e, rfl, rfl⟩) fun c s2 ⟨H2, I2, e1, e2⟩ => ?_
  subst e1 e2
  exact k s2 I2
theorem t_val (ha : PE X a (rdE G E ta)) (he : plainT a = true) : PT X a (rdT G E (truW ta)) := by
  refine ⟨fun pins s σ H Q I ⟨ρ, F, M, Qd, Ed, S, q, pq, px⟩ => isTrue_plain ?_ (isTrue_eq he)⟩
  refine rd_use ha I S q px fun v s1 x dx H1 F1 M1 I1 S1 K1 u1 r1 rx ⟨b, e, q1⟩ => ?_
  exact tru_do I1 S1.sr r1 rx e fun s' I' => ⟨H1, I', pq b M1 H1 F1 q1 S1.sr K1 u1⟩
theorem t_cmp (hu : X.A.units + 64 < cLine) (op : CmpOp) (hm : behindInMarks op b = false) (ha : PE X a (rdE G E ta)) (hb : PE X b (rdE G E tb)) :
    PT X (.Compare a [op] [b] pos) (rdT G E (truW fun ρ M Q Ex => ta ρ M (fun x M1 => tb ρ M1 (fun y M2 => opCmp op x y M2 Q) Ex) Ex)) := by
  refine ⟨fun pins s σ H Q I ⟨ρ, F, M, Qd, Ed, S, q, pq, px⟩ => wpAny_isTrue_Compare1 ?_ hm⟩
  refine rd_use ha I S q px fun v s1 x dx H1 F1 M1 I1 S1 K1 u1 r1 rx q1 => ?_
  refine rd_use hb I1 S1 q1 (px.step K1 u1) fun u s2 y dy H2 F2 M2 I2 S2 K2 u2 r2 ry q2 => ?_
  refine thn (opD_cmp (G := G) hu op pins s2 σ H2 F2 M2 x y dx dy v u _ (fun z H3 => ∃ F3 M3 d k, Rep G F3 z d ∧ tru (vw M3 d) = some k ∧ SR G H3 F3 M3 ∧ Q k H3) I2 S2.sr (r1.mono u2) r2 rx ry q2 fun d M3 z H3 F3 q3 S3 K3 u3 r3 => ?_) fun w s3 ⟨z, H3, I3, r3, F3, M3, d, k, rd, e, S3, q3⟩ => ?_
  · obtain ⟨k, e, q3⟩ := q3
    exact ⟨F3, M3, d, k, r3, e, S3, pq k M3 H3 F3 q3 S3 ((K1.trans K2).trans K3) ((u1.trans u2).trans u3)⟩
  exact tru_do I3 S3 rd r3 e fun s' I' => ⟨H3, I', q3⟩
theorem t_chn (hu : X.A.units + 64 < cLine) (op op' : CmpOp) (hm : lastMarks [op, op'] [b, c] = false) (ha : PE X a (rdE G E ta)) (hb : PE X b (rdE G E tb)) (hc : PE X c (rdE G E tc)) :
    PT X (.Compare a [op, op'] [b, c] pos) (rdT G E (truW fun ρ M Q Ex => ta ρ M (fun x M1 => tb ρ M1 (fun y M2 => opCmp op x y M2 fun z M3 => ∃ k, z = .bl k ∧
      if k = true then tc ρ M3 (fun u M4 => opCmp op' y u M4 Q) Ex else Q (.bl false) M3) Ex) Ex)) := by
  refine ⟨fun pins s σ H Q I ⟨ρ, F, M, Qd, Ed, S, q, pq, px⟩ => isTrue_chain ?_ hm⟩
  refine rd_use ha I S q px fun v s1 x dx H1 F1 M1 I1 S1 K1 u1 r1 rx q1 => test_link ?_
  refine rd_use hb I1 S1 q1 (px.step K1 u1) fun u s2 y dy H2 F2 M2 I2 S2 K2 u2 r2 ry q2 => ?_
  refine thn (opD_cmp (G := G) hu op pins s2 σ H2 F2 M2 x y dx dy v u _ (fun z H3 => ∃ F3 M3 k, z = .bl k ∧ StR G σ H3 F3 ρ M3 ∧ Keep H2 F2 M2 H3 F3 M3 ∧ Sub F2 F3 ∧
    (if k = true then tc ρ M3 (fun u M4 => opCmp op' dy u M4 fun x M1 => ∃ b, tru (vw M1 x) = some b ∧ Qd b M1) Ed else ∃ b, tru (vw M3 (.bl false)) = some b ∧ Qd b M3)) I2 S2.sr (r1.mono u2) r2 rx ry q2 fun d M3 z H3 F3 q3 S3 K3 u3 r3 => ?_) fun w s3 ⟨z, H3, I3, r3, F3, M3, k, ez, S3, K3, u3, q3⟩ => ?_
  · obtain ⟨k, rfl, q3⟩ := q3
    exact ⟨F3, M3, k, rep_bl r3, S2.step S3 u3, K3, u3, q3⟩
  subst ez
  cases r3
  refine wpAny_truthy_bool ?_
  cases k with
  | false =>
    obtain ⟨b, e, q3⟩ := q3
    cases e
    exact ite_ff ⟨H3, I3, pq false M3 H3 F3 q3 S3.sr ((K1.trans K2).trans K3) ((u1.trans u2).trans u3)⟩
  | true =>
    refine ite_tt (test_last ?_)
    refine rd_use hc I3 S3 q3 (px.step ((K1.trans K2).trans K3) ((u1.trans u2).trans u3)) fun w' s4 z' dz H4 F4 M4 I4 S4 K4 u4 r4 rz q4 => ?_
    refine thn (opD_cmp (G := G) hu op' pins s4 σ H4 F4 M4 y z' dy dz u w' _ (fun z H5 => ∃ F5 M5 d k, Rep G F5 z d ∧ tru (vw M5 d) = some k ∧ SR G H5 F5 M5 ∧ Q k H5) I4 S4.sr (r2.mono (u3.trans u4)) r4 ry rz q4 fun d M5 z H5 F5 q5 S5 K5 u5 r5 => ?_) fun w s5 ⟨z, H5, I5, r5, F5, M5, d, k, rd, e, S5, q5⟩ => ?_
    · obtain ⟨k, e, q5⟩ := q5
      exact ⟨F5, M5, d, k, r5, e, S5, pq k M5 H5 F5 q5 S5 ((((K1.trans K2).trans K3).trans K4).trans K5) ((((u1.trans u2).trans u3).trans u4).trans u5)⟩
    exact tru_do I5 S5 rd r5 e fun s' I' => ⟨H5, I', q5⟩
variable {tA tB : WT} {rest : List Expr}
theorem t_not (ha : PT X a (rdT G E tA)) : PT X (.UnaryOp .Not a pos) (rdT G E fun ρ M Q Ex => tA ρ M (fun c M1 => Q (!c) M1) Ex) :=
  ⟨fun pins s σ H Q I ⟨ρ, F, M, Qd, Ed, S, q, pq, px⟩ => isTrue_not (rt_use ha I S q px fun b s1 H1 F1 M1 I1 S1 K1 u1 q1 => ⟨H1, I1, pq _ M1 H1 F1 q1 S1.sr K1 u1⟩)⟩
theorem t_and1 (ha : PT X a (rdT G E tA)) : PW X (.BoolOp .And [a] pos) (rdT G E tA) := pw_and1 ha
theorem t_or1 (ha : PT X a (rdT G E tA)) : PW X (.BoolOp .Or [a] pos) (rdT G E tA) := pw_or1 ha
theorem t_and (ha : PT X a (rdT G E tA)) (hb : PW X (.BoolOp .And (b :: rest) pos) (rdT G E tB)) :
    PW X (.BoolOp .And (a :: b :: rest) pos) (rdT G E fun ρ M Q Ex => tA ρ M (fun c M1 => if c = true then tB ρ M1 Q Ex else Q false M1) Ex) := by
  refine ⟨fun wh pins s σ H Q I ⟨ρ, F, M, Qd, Ed, S, q, pq, px⟩ => isTrue_and ?_⟩
  refine rt_use ha I S q px fun k s1 H1 F1 M1 I1 S1 K1 u1 q1 => ?_
  cases k with
  | true => exact hb.run wh pins s1 σ H1 Q I1 ⟨ρ, F1, M1, Qd, Ed, S1, q1, fun b M' H' F' q S' K' u' => pq b M' H' F' q S' (K1.trans K') (u1.trans u'), px.step K1 u1⟩
  | false => exact ⟨H1, I1, pq _ M1 H1 F1 q1 S1.sr K1 u1⟩
theorem t_or (ha : PT X a (rdT G E tA)) (hb : PW X (.BoolOp .Or (b :: rest) pos) (rdT G E tB)) :
    PW X (.BoolOp .Or (a :: b :: rest) pos) (rdT G E fun ρ M Q Ex => tA ρ M (fun c M1 => if c = true then Q true M1 else tB ρ M1 Q Ex) Ex) := by
  refine ⟨fun wh pins s σ H Q I ⟨ρ, F, M, Qd, Ed, S, q, pq, px⟩ => isTrue_or ?_⟩
  refine rt_use ha I S q px fun k s1 H1 F1 M1 I1 S1 K1 u1 q1 => ?_
  cases k with
  | false => exact hb.run wh pins s1 σ H1 Q I1 ⟨ρ, F1, M1, Qd, Ed, S1, q1, fun b M' H' F' q S' K' u' => pq b M' H' F' q S' (K1.trans K') (u1.trans u'), px.step K1 u1⟩
  | true => exact ⟨H1, I1, pq _ M1 H1 F1 q1 S1.sr K1 u1⟩
theorem s_ite (hc : PT X c (rdT G E tA)) (ha : PE X a (rdE G E ta)) (hb : PE X b (rdE G E tb)) :
    PE X (.IfExp c a b pos) (rdE G E fun ρ M Q Ex => tA ρ M (fun k M1 => if k = true then ta ρ M1 Q Ex else tb ρ M1 Q Ex) Ex) := by
  refine ⟨fun pins s σ H Q I ⟨ρ, F, M, Qd, Ed, S, q, pq, px⟩ => wpAny_IfExp ?_⟩
  refine rt_use hc I S q px fun k s1 H1 F1 M1 I1 S1 K1 u1 q1 => ?_
  cases k with
  | true => exact ha.run pins s1 σ H1 Q I1 ⟨ρ, F1, M1, Qd, Ed, S1, q1, pq.step K1 u1, px.step K1 u1⟩
  | false => exact hb.run pins s1 σ H1 Q I1 ⟨ρ, F1, M1, Qd, Ed, S1, q1, pq.step K1 u1, px.step K1 u1⟩
/-! ### argument lists, displays -/
def notStar : Expr → Bool
  | .Starred _ _ => false
  | _ => true
theorem starEach_eq {e : Expr} {es : List Expr} {env : PySem.Env} (h : notStar e = true) : starEach (e :: es) env = (false, eval e env) :: starEach es env := by
  cases e with
  | Starred => cases h
  | _ => rfl
variable {es : List Expr} {t : WA}
theorem s_nil : PA X [] (rdA G E 0 fun _ M Q _ => Q [] M) := PA_imp pa_nil fun σ H Q ⟨ρ, F, M, Qd, Ed, S, q, pq, _⟩ => pq [] M [] H F rfl q S.sr (Keep.refl H F M) (Sub.refl F) .nil
theorem s_cons {n : Nat} (hs : notStar a = true) (ha : PE X a (rdE G E ta)) (hr : PA X es (rdA G E n t)) : PA X (a :: es) (rdA G E (n + 1) fun ρ M Q Ex => ta ρ M (fun d M1 => t ρ M1 (fun ds M2 => Q (d :: ds) M2) Ex) Ex) := by
  refine ⟨fun pos pins s σ H Q I ⟨ρ, F, M, Qd, Ed, S, q, pq, px⟩ => ?_⟩
  rw [starEach_eq hs]
  refine Calls.spliced_cons (rd_use ha I S q px fun u s1 x dx H1 F1 M1 I1 S1 K1 u1 r1 rx q1 => ?_)
  refine ra_use hr I1 S1 q1 (px.step K1 u1) fun us s2 vs ds H2 F2 M2 I2 S2 K2 u2 r2 rs hl q2 => ?_
  exact ⟨x :: vs, H2, I2, .cons rx rs, pq (dx :: ds) M2 (x :: vs) H2 F2 (by simp [hl]) q2 S2.sr (K1.trans K2) (u1.trans u2) (.cons (r1.mono u2) r2)⟩
theorem s_tup {x1} {n : Nat} (h : PA X es (rdA G E n t)) (hl : n ≤ lim) : PE X (.Tuple es x1 pos) (rdE G E fun ρ M Q Ex => t ρ M (fun ds M1 => Q (.tup ds) M1) Ex) := by
  refine PE_imp (pe_tup h) fun σ H Q ⟨ρ, F, M, Qd, Ed, S, q, pq, px⟩ => ?_
  refine ⟨ρ, F, M, _, Ed, S, q, fun ds M1 vs H1 F1 l q1 S1 K1 u1 r1 => ?_, px⟩
  exact ⟨by rw [r1.length, l]; exact lim_line hl, fun p hp => (pq.step K1 u1).newT S1 hp r1 q1⟩
theorem s_lst {mu : Bool} {n : Nat} (h : PA X es (rdA G E n t)) (hl : n ≤ lim) : PE X (.List es pos) (rdE G E fun ρ M Q Ex => t ρ M (fun ds M1 => made mu (.lst ds) M1 Q) Ex) := by
  refine PE_imp (pe_lst h) fun σ H Q ⟨ρ, F, M, Qd, Ed, S, q, pq, px⟩ => ?_
  refine ⟨ρ, F, M, _, Ed, S, q, fun ds M1 vs H1 F1 l q1 S1 K1 u1 r1 => ?_, px⟩
  exact ⟨by rw [r1.length, l]; exact lim_line hl, fun p hp => (pq.step K1 u1).madeL S1 hp r1 q1⟩
end
end DS
end
section
set_option Elab.async false
set_option linter.all false
set_option maxRecDepth 100000
/-! DsF: subscripts, slices, fields, built-ins by values. -/
namespace DS
open PySem PySem.Spec PyProof.Rows L2 LamX

section
variable {G : GC} {X : Cx} {E : XK} {a b c : Expr} {ta tb tc : WE} {pos : Pos}
/-! ### subscripts -/
def plainIx : Expr → Bool
  | .Slice _ _ _ _ => false
  | _ => true
theorem plainIx_eq {b : Expr} (h : plainIx b = true) : PlainIx b := fun o i => by
  cases b with
  | Slice => cases h
  | _ => rfl
def IxD (G : GC) (X : Cx) (od : D → D → Sto → Po D → Prop) : Prop :=
  ∀ (value slice : Expr) (pins : List (Addr × Obj)) (s : Shared) (σ : L2.St) (H F : Hp) (M : Sto) (x y : V) (dx dy : D) (v u : Value) (Qd : Po D) (Q : VK), Inv X pins σ H s → SR G H F M → Rep G F x dx → Rep G F y dy → RelV x v → RelV y u →
    od dx dy M Qd → PQ G H F M Qd Q → subscripted slice false v u = operate [v, u] (getItem v u) → wpAny (model X.prog X.w) X.A (subscriptTail value slice v u) (EP X pins σ Q) X.xe s
theorem RepL.atI {F : Hp} {vs : List V} {ds : List D} {j : Int} {d : D} (t : RepL G F vs ds) (e : L2.atI ds j = some d) : ∃ v, L2.atI vs j = some v ∧ Rep G F v d := by
  unfold L2.atI at e ⊢
  rw [t.length]
  cases h : ixN ds.length j with
  | none => simp [h] at e
  | some k =>
    simp only [h, Option.bind_some] at e ⊢
    exact t.get e
theorem ix_dict (hu : X.A.units + 1 < cLine) : IxR X (fun x y H Q => ∃ a v, x = .ref a ∧ DGet H a y (some v) ∧ Q v H) := by
  intro value slice pins s σ H x y v u Q I rx ry ⟨a, w, ex, g, q⟩ hs
  subst ex
  obtain rfl : v = Value.ref a := rx
  exact tail_any (dict_typeIs I g) PySem.F.slot_dict_getitem.lookup (d_getItem hu I g ry fun w' s3 I3 rw' => ⟨w, H, I3, rw', q⟩) hs
theorem ixD (hu : X.A.units + 64 < cLine) : IxD G X opIdx := by
  intro value slice pins s σ H F M x y dx dy v u Qd Q I S r1 r2 rx ry q pq hs
  unfold opIdx at q
  split at q
  case h_1 xs e =>
    obtain ⟨j, d, rfl, e1, q⟩ := q
    obtain ⟨p, vs, rfl, h, t⟩ := vw_lst S r1 e
    obtain ⟨w, e2, r⟩ := t.atI e1
    exact ix_list value slice pins s σ H _ _ v u Q I rx ry ⟨p, vs, j, w, rfl, rep_int r2, .inl h, e2, pq.same S r q⟩ hs
  case h_2 xs e =>
    obtain ⟨j, d, rfl, e1, q⟩ := q
    obtain ⟨p, vs, rfl, h, t⟩ := vw_tup S r1 e
    obtain ⟨w, e2, r⟩ := t.atI e1
    exact ix_tup value slice pins s σ H _ _ v u Q I rx ry ⟨p, vs, j, w, rfl, rep_int r2, .inl h, e2, pq.same S r q⟩ hs
  case h_3 z e =>
    obtain ⟨j, c, rfl, hl, e1, q⟩ := q
    obtain ⟨_, rfl⟩ := vw_str r1 e
    exact ix_str value slice pins s σ H _ _ v u Q I rx ry ⟨z, j, c, rfl, rep_int r2, lim_line hl, e1, pq.same S (.str _) q⟩ hs
  case h_4 kvs e =>
    obtain ⟨k, d, hk, ha, e1, q⟩ := q
    obtain ⟨p, rfl, ⟨o, g, g1, _⟩ | ⟨rfl, _⟩⟩ := dic_get S r1 e r2 hk ha
    · obtain ⟨w, rfl, r⟩ := g1 d e1
      exact ix_dict (by omega) value slice pins s σ H _ _ v u Q I rx ry ⟨p, w, rfl, g, pq.same S r q⟩ hs
    · simp [getK] at e1
  case h_5 => exact q.elim
theorem s_idx (hu : X.A.units + 64 < cLine) (hp : plainIx b = true) (ha : PE X a (rdE G E ta)) (hb : PE X b (rdE G E tb)) :
    PE X (.Subscript a b pos) (rdE G E fun ρ M Q Ex => ta ρ M (fun x M1 => tb ρ M1 (fun y M2 => opIdx x y M2 Q) Ex) Ex) := by
  refine ⟨fun pins s σ H Q I ⟨ρ, F, M, Qd, Ed, S, q, pq, px⟩ => Subscript_ ?_⟩
  refine rd_use ha I S q px fun v s1 x dx H1 F1 M1 I1 S1 K1 u1 r1 rx q1 => ?_
  refine rd_use hb I1 S1 q1 (px.step K1 u1) fun u s2 y dy H2 F2 M2 I2 S2 K2 u2 r2 ry q2 => ?_
  exact ixD hu a b pins s2 σ H2 F2 M2 x y dx dy v u Qd Q I2 S2.sr (r1.mono u2) r2 rx ry q2 (pq.step (K1.trans K2) (u1.trans u2)) (plainIx_eq hp _ _)
/-! ### slices -/
/-- a bound of a slice as it is written: nothing, or an expression -/
structure PB (G : GC) (X : Cx) (E : XK) (e : Option Expr) (t : WE) : Prop where
  run : ∀ (pins : List (Addr × Obj)) (s : Shared) (σ : L2.St) (H F : Hp) (ρ : DEnv) (M : Sto) (Qd : Po D) (Ed : Po Exn) (Qf : Value → Shared → Prop), Inv X pins σ H s → StR G σ H F ρ M →
    t ρ M (fun d M1 => ∃ o, opSlc.ixO d = some o ∧ Qd d M1) Ed → PX G H F M Ed E →
    (∀ u s1 d o H1 F1 M1, Inv X pins σ H1 s1 → StR G σ H1 F1 ρ M1 → Keep H F M H1 F1 M1 → Sub F F1 → opSlc.ixO d = some o → IsPart u o → Qd d M1 → Qf u s1) → wpAny (model X.prog X.w) X.A (evalPart e X.env) Qf X.xe s
theorem b_none : PB G X E none (fun _ M Q _ => Q .non M) := ⟨fun pins s σ H F ρ M Qd Ed Qf I S q px k => by
  rw [evalPart_none]
  obtain ⟨o, e, q⟩ := q
  cases e
  exact wpAny_pure (k _ s _ none H F M I S (Keep.refl H F M) (Sub.refl F) rfl .none q)⟩
theorem b_some (ha : PE X a (rdE G E ta)) : PB G X E (some a) (fun ρ M Q Ex => ta ρ M (fun d M1 => d ≠ .non ∧ Q d M1) Ex) := ⟨fun pins s σ H F ρ M Qd Ed Qf I S q px k => by
  rw [evalPart_some]
  refine rd_use ha I S q px fun u s1 x dx H1 F1 M1 I1 S1 K1 u1 r1 rx ⟨hn, o, e, q1⟩ => ?_
  cases dx with
  | non => exact absurd rfl hn
  | int i =>
    obtain rfl := rep_int r1
    obtain ⟨t, rfl⟩ := rx
    have e' := e
    simp only [opSlc.ixO] at e'
    split at e'
    · rename_i hb
      cases e'
      refine k _ s1 _ _ H1 F1 M1 I1 S1 K1 u1 e ?_ q1
      exact .int i t
    · cases e'
  | _ => simp [opSlc.ixO] at e⟩
theorem b_no : PB G X E none (fun ρ M Q Ex => (false = true → D.non ≠ .non) ∧ Q .non M) := by
  have e : (fun (ρ : DEnv) (M : Sto) (Q : Po D) (Ex : Po Exn) => (false = true → D.non ≠ .non) ∧ Q .non M) = fun _ M Q _ => Q .non M := by funext ρ M Q Ex; simp
  rw [e]; exact b_none
theorem b_so (ha : PE X a (rdE G E ta)) : PB G X E (some a) (fun ρ M Q Ex => ta ρ M (fun d M1 => (true = true → d ≠ .non) ∧ Q d M1) Ex) := by
  have e : (fun (ρ : DEnv) (M : Sto) (Q : Po D) (Ex : Po Exn) => ta ρ M (fun d M1 => (true = true → d ≠ .non) ∧ Q d M1) Ex) = fun ρ M Q Ex => ta ρ M (fun d M1 => d ≠ .non ∧ Q d M1) Ex := by funext ρ M Q Ex; simp
  rw [e]; exact b_some ha
theorem RepL.cut {F : Hp} {vs : List V} {ds : List D} (t : RepL G F vs ds) (lo hi : Option Int) : RepL G F (cutV vs lo hi) (slL ds lo hi) := by
  unfold cutV slL
  rw [t.length]
  exact (t.drop _).take _
theorem s_slc {lo hi : Option Expr} {tl th : WE} {p2 : Pos} (ha : PE X a (rdE G E ta)) (hl : PB G X E lo tl) (hh : PB G X E hi th) :
    PE X (.Subscript a (.Slice lo hi none p2) pos) (rdE G E fun ρ M Q Ex => ta ρ M (fun x M1 => tl ρ M1 (fun l M2 => ∃ o, opSlc.ixO l = some o ∧ th ρ M2 (fun h M3 => ∃ o, opSlc.ixO h = some o ∧ opSlc x l h M3 Q) Ex) Ex) Ex) := by
  refine ⟨fun pins s σ H Q I ⟨ρ, F, M, Qd, Ed, S, q, pq, px⟩ => Subscript_ ?_⟩
  refine rd_use ha I S q px fun v s1 x dx H1 F1 M1 I1 S1 K1 u1 r1 rx q1 => wpAny_Slice ?_
  refine hl.run pins s1 σ H1 F1 ρ M1 (fun l M2 => th ρ M2 (fun h M3 => ∃ o, opSlc.ixO h = some o ∧ opSlc dx l h M3 Qd) Ed) Ed _ I1 S1 q1 (px.step K1 u1) fun vl s2 dl ol H2 F2 M2 I2 S2 K2 u2 el pl q2 => ?_
  refine hh.run pins s2 σ H2 F2 ρ M2 (fun h M3 => opSlc dx dl h M3 Qd) Ed _ I2 S2 q2 (px.step (K1.trans K2) (u1.trans u2)) fun vh s3 dh oh H3 F3 M3 I3 S3 K3 u3 eh ph q3 => ?_
  rw [evalPart_none]
  refine wpAny_pure ?_
  have I4 := I3.kept (h' := s3.heap.push { cls := .type "slice", data := .fields #[vl, vh, .none] }) (t' := s3.toks) fun _ _ e => Heap.get?_push_of_some _ e
  have pq3 := pq.step ((K1.trans K2).trans K3) ((u1.trans u2).trans u3)
  have r3 := r1.mono (u2.trans u3)
  obtain ⟨l, h, e1, e2, q3⟩ := q3
  rw [el] at e1; rw [eh] at e2
  cases e1; cases e2
  have go : ∃ T id, typeLookup (.type T) "__getitem__" = pure (some (.builtin id)) ∧ ({ s3 with heap := s3.heap.push { cls := .type "slice", data := .fields #[vl, vh, .none] } } : Shared).TypeIs v T ∧
      wpAny (model X.prog X.w) X.A (getItem v (.ref s3.heap.objs.size)) (EP X pins σ Q) X.xe { s3 with heap := s3.heap.push { cls := .type "slice", data := .fields #[vl, vh, .none] } } := by
    split at q3
    case h_1 xs e =>
      obtain ⟨p, vs, rfl, h, t⟩ := vw_lst S3.sr r3 e
      exact sl_list pins _ σ H3 _ v vl vh ol oh _ Q I4 rx (Heap.IsSliceOf.new ..) pl ph ⟨p, vs, rfl, .inl h, fun z hz => pq3.newL S3.sr hz (t.cut ol oh) q3⟩
    case h_2 xs e =>
      obtain ⟨p, vs, ep, h, t⟩ := vw_tup S3.sr r3 e
      have ed : dx = .tup xs := by
        cases r3 with
        | tup h t => exact e
        | mref a' => exact (mref_view (M := M3) (a := a') (P := fun z => z = .tup xs) e (fun o => by cases o <;> intro z <;> cases z) (fun z => by cases z)).elim
        | _ => cases e
      subst ep
      refine L2.sl_tupA pins _ σ H3 _ v vl vh ol oh _ Q I4 rx (Heap.IsSliceOf.new ..) pl ph ⟨p, vs, rfl, .inl h, fun hw => ?_, fun _ z hz => pq3.newT S3.sr hz (t.cut ol oh) q3⟩
      have es : slL xs ol oh = xs := by
        unfold slL
        rw [← t.length, hw.1, hw.2, List.drop_zero, Nat.sub_zero, t.length, List.take_length]
      rw [es] at q3
      subst ed
      exact pq3.same S3.sr r3 q3
    case h_3 => exact q3.elim
  obtain ⟨T, id, hT, ht, hg⟩ := go
  exact tail_any (ops := [.ref s3.heap.objs.size, v]) ht hT hg (by with_unfolding_all rfl)
/-! ### fields -/
/-- an expression whose field is read plainly -/
def notSuper : Expr → Bool
  | .Call (.Name id _) [] [] _ => id != ("super" : Str)
  | _ => true
theorem attrBase_eq {e : Expr} {f : Str} {env : PySem.Env} {w : Sem Value} (h : notSuper e = true) : attributeBase e f env w = w := by
  unfold attributeBase
  split
  · rename_i id p pos
    have h' : (id != ("super" : Str)) = true := h
    simp only [h', Bool.true_or, if_true]
  · rfl
theorem s_att {f : Str} (hb : notSuper a = true) (hc : Cls X.K (G.ca 0)) (hn : NoAttr X.K (G.ca 0) f) (ha : PE X a (rdE G E ta)) : PE X (.Attribute a f pos) (rdE G E fun ρ M Q Ex => ta ρ M (fun x M1 => opAtt x f M1 Q) Ex) := by
  refine PE_imp (pe_fld ha (attrBase_eq hb)) fun σ H Q ⟨ρ, F, M, Qd, Ed, S, q, pq, px⟩ => ?_
  refine ⟨ρ, F, M, _, Ed, S, q, fun d M1 v H1 F1 ⟨c, fs, y, e, l, q1⟩ S1 K1 u1 r1 => ?_, px⟩
  obtain ⟨_, p, dx, vs, rfl, h, t⟩ := vw_ins S1 r1 e
  obtain ⟨w, lw, rw'⟩ := t.look l
  exact ⟨p, G.ca 0, dx, vs, w, rfl, h, hc, hn, lw, (pq.step K1 u1).same S1 rw' q1⟩
/-! ### built-ins by values -/
def CallD (G : GC) (X : Cx) (f : Value) (od : List D → Sto → Po D → Prop) : Prop :=
  ∀ (pins : List (Addr × Obj)) (s : Shared) (σ : L2.St) (H F : Hp) (M : Sto) (vs : List V) (ds : List D) (us : List Value) (Qd : Po D) (Q : VK), Inv X pins σ H s → SR G H F M → RepL G F vs ds → Vals vs us →
    od ds M Qd → PQ G H F M Qd Q → wpAny (model X.prog X.w) X.A (call f us) (EP X pins σ Q) X.xe s
theorem CallR.toD {f : Value} {r : List V → Hp → VK → Prop} {od : List D → Sto → Po D → Prop} (h : CallR X f r)
    (k : ∀ (H F : Hp) (M : Sto) (vs : List V) (ds : List D) (Qd : Po D) (Q : VK), SR G H F M → RepL G F vs ds → od ds M Qd → PQ G H F M Qd Q → r vs H Q) : CallD G X f od :=
  fun pins s σ H F M vs ds us Qd Q I S r1 rv q pq => h pins s σ H vs us Q I rv (k H F M vs ds Qd Q S r1 q pq)
theorem RepL.one {F : Hp} {vs : List V} {d : D} (r : RepL G F vs [d]) : ∃ v, vs = [v] ∧ Rep G F v d := by
  cases r with
  | cons r t => cases t; exact ⟨_, rfl, r⟩
theorem RepL.two {F : Hp} {vs : List V} {d e : D} (r : RepL G F vs [d, e]) : ∃ v w, vs = [v, w] ∧ Rep G F v d ∧ Rep G F w e := by
  cases r with
  | cons r t => obtain ⟨w, rfl, r'⟩ := t.one; exact ⟨_, w, rfl, r, r'⟩
theorem call_lenT : CallR X (.builtin "len") (fun xs H Q => ∃ (p : Addr) (kvs : List (List Key × V)), xs = [.ref p] ∧ Rd H p (.dT kvs) ∧ Q (.int ((kvs.length : Nat) : Int)) H) := by
  intro pins s σ H xs us Q I r ⟨p, kvs, ex, hp, q⟩
  subst ex
  obtain ⟨u, rfl, rx⟩ := vals1 r
  obtain rfl : u = .ref p := rx
  obtain ⟨z, hd, ys, rel, dd⟩ := dt_rd I.hok hp
  have hl : kvs.length = ys.length := Paired.length rel
  have hz : ys.length ≤ 2 ^ 24 := by rw [← hl]; rwa [sizeLine_eq] at z
  refine call_len_dictH hd dd (by omega) ?_
  rw [← hl]
  exact ⟨.int ((kvs.length : Nat) : Int), H, I.tok _, ⟨_, rfl⟩, q⟩
theorem call_lenK : CallR X (.builtin "len") (fun xs H Q => ∃ (p : Addr) (kvs : List (Key × V)), xs = [.ref p] ∧ Rd H p (.dK kvs) ∧ Q (.int kvs.length) H) := by
  intro pins s σ H xs us Q I r ⟨p, kvs, ex, hp, q⟩
  subst ex
  obtain ⟨u, rfl, rx⟩ := vals1 r
  cases rx
  exact d_len I hp fun t s' I' => ⟨.int kvs.length, H, I', ⟨t, rfl⟩, q⟩
theorem one_D {f : Value} {o : D → Sto → Po D → Prop}
    (h : ∀ (pins : List (Addr × Obj)) (s : Shared) (σ : L2.St) (H F : Hp) (M : Sto) (v : V) (d : D) (us : List Value) (Qd : Po D) (Q : VK), Inv X pins σ H s → SR G H F M → Rep G F v d → Vals [v] us → o d M Qd → PQ G H F M Qd Q → wpAny (model X.prog X.w) X.A (call f us) (EP X pins σ Q) X.xe s) :
    CallD G X f (op1 o) := by
  intro pins s σ H F M vs ds us Qd Q I S r1 rv q pq
  match ds, r1, q with
  | [d], r1, q =>
    obtain ⟨v, rfl, r⟩ := r1.one
    exact h pins s σ H F M v d us Qd Q I S r rv q pq
  | [], _, q => exact q.elim
  | _ :: _ :: _, _, q => exact q.elim
theorem two_D {f : Value} {o : D → D → Sto → Po D → Prop}
    (h : ∀ (pins : List (Addr × Obj)) (s : Shared) (σ : L2.St) (H F : Hp) (M : Sto) (v w : V) (d e : D) (us : List Value) (Qd : Po D) (Q : VK), Inv X pins σ H s → SR G H F M → Rep G F v d → Rep G F w e → Vals [v, w] us → o d e M Qd → PQ G H F M Qd Q → wpAny (model X.prog X.w) X.A (call f us) (EP X pins σ Q) X.xe s) :
    CallD G X f (op2 o) := by
  intro pins s σ H F M vs ds us Qd Q I S r1 rv q pq
  match ds, r1, q with
  | [d, e], r1, q =>
    obtain ⟨v, w, rfl, r, r'⟩ := r1.two
    exact h pins s σ H F M v w d e us Qd Q I S r r' rv q pq
  | [], _, q => exact q.elim
  | [_], _, q => exact q.elim
  | _ :: _ :: _ :: _, _, q => exact q.elim
theorem c_len : CallD G X (.builtin "len") (opBi .len) := one_D fun pins s σ H F M v d us Qd Q I S r rv q pq => by
  unfold oLen at q
  split at q
  · rename_i xs e
    obtain ⟨p, vs, rfl, h, t⟩ := vw_lst S r e
    rw [← t.length] at q
    exact call_len_seq pins s σ H _ us Q I rv ⟨p, vs, rfl, .inl (.inl h), pq.same S (.int _) q⟩
  · rename_i xs e
    obtain ⟨p, vs, rfl, h, t⟩ := vw_tup S r e
    rw [← t.length] at q
    exact call_len_seq pins s σ H _ us Q I rv ⟨p, vs, rfl, .inr (.inl h), pq.same S (.int _) q⟩
  · rename_i kvs e
    obtain ⟨p, rfl, ⟨vs, h, t⟩ | ⟨vs, h, t⟩⟩ := vw_dic S r e
    · rw [← t.length] at q
      exact call_lenK pins s σ H _ us Q I rv ⟨p, vs, rfl, h, pq.same S (.int _) q⟩
    · rw [← t.length] at q
      exact call_lenT pins s σ H _ us Q I rv ⟨p, vs, rfl, h, pq.same S (.int _) q⟩
  · rename_i z e
    obtain ⟨_, rfl⟩ := vw_str r e
    exact call_len_str pins s σ H _ us Q I rv ⟨z, rfl, lim_line q.1, pq.same S (.int _) q.2⟩
  · exact q.elim
theorem c_int : CallD G X (.type "int") (opBi .int) := one_D fun pins s σ H F M v d us Qd Q I S r rv q pq => by
  unfold oInt at q
  split at q
  · exact call_int1 pins s σ H _ us Q I rv (.inl ⟨_, by rw [rep_int r], pq.same S (.int _) q⟩)
  · exact call_int1 pins s σ H _ us Q I rv (.inr ⟨_, by rw [rep_bl r], pq.same S (.int _) q⟩)
  · exact q.elim
theorem c_abs : CallD G X (.builtin "abs") (opBi .abs) := one_D fun pins s σ H F M v d us Qd Q I S r rv ⟨i, e, q⟩ pq => by
  subst e
  exact call_abs pins s σ H _ us Q I rv ⟨i, by rw [rep_int r], pq.same S (.int _) q⟩
theorem c_min2 (hc : X.calm = true) : CallD G X (.builtin "min") (opBi .min2) := two_D fun pins s σ H F M v w d e us Qd Q I S r r' rv ⟨i, j, e1, e2, q⟩ pq => by
  subst e1 e2
  exact call_min2 hc pins s σ H _ us Q I rv ⟨i, j, by rw [rep_int r, rep_int r'], pq.same S (.int _) q⟩
theorem c_max2 (hc : X.calm = true) : CallD G X (.builtin "max") (opBi .max2) := two_D fun pins s σ H F M v w d e us Qd Q I S r r' rv ⟨i, j, e1, e2, q⟩ pq => by
  subst e1 e2
  exact call_max2 hc pins s σ H _ us Q I rv ⟨i, j, by rw [rep_int r, rep_int r'], pq.same S (.int _) q⟩
theorem c_sum (hc : X.calm = true) : CallD G X (.builtin "sum") (opBi .sum) := one_D fun pins s σ H F M v d us Qd Q I S r rv ⟨xs, ns, e, e2, q⟩ pq => by
  obtain ⟨p, vs, rfl, h, t⟩ := vw_lst S r e
  obtain rfl := t.intsD e2
  exact cr_sum hc pins s σ H _ us Q I rv ⟨p, ns, rfl, .inl h, pq.same S (.int _) q⟩
theorem c_all (hc : X.calm = true) : CallD G X (.builtin "all") (opBi .all) := one_D fun pins s σ H F M v d us Qd Q I S r rv ⟨xs, ns, e, e2, q⟩ pq => by
  obtain ⟨p, vs, rfl, h, t⟩ := vw_lst S r e
  obtain rfl := t.bls e2
  exact cr_all hc pins s σ H _ us Q I rv ⟨p, ns, rfl, .inl h, pq.same S (.bl _) q⟩
theorem c_any (hc : X.calm = true) : CallD G X (.builtin "any") (opBi .any) := one_D fun pins s σ H F M v d us Qd Q I S r rv ⟨xs, ns, e, e2, q⟩ pq => by
  obtain ⟨p, vs, rfl, h, t⟩ := vw_lst S r e
  obtain rfl := t.bls e2
  exact cr_any hc pins s σ H _ us Q I rv ⟨p, ns, rfl, .inl h, pq.same S (.bl _) q⟩
theorem c_max1 (hc : X.calm = true) : CallD G X (.builtin "max") (opBi .max1) := one_D fun pins s σ H F M v d us Qd Q I S r rv ⟨xs, ns, e, e2, hn, q⟩ pq => by
  obtain ⟨p, vs, rfl, h, t⟩ := vw_lst S r e
  obtain rfl := t.intsD e2
  exact cr_max hc pins s σ H _ us Q I rv ⟨p, ns, rfl, .inl h, List.length_pos_iff.mpr hn, fun m hm hy => pq.same S (.int _) (q m hm hy)⟩
theorem c_min1 (hc : X.calm = true) : CallD G X (.builtin "min") (opBi .min1) := one_D fun pins s σ H F M v d us Qd Q I S r rv ⟨xs, ns, e, e2, hn, q⟩ pq => by
  obtain ⟨p, vs, rfl, h, t⟩ := vw_lst S r e
  obtain rfl := t.intsD e2
  exact cr_min hc pins s σ H _ us Q I rv ⟨p, ns, rfl, .inl h, List.length_pos_iff.mpr hn, fun m hm hy => pq.same S (.int _) (q m hm hy)⟩
theorem c_sorted : CallD G X (.builtin "sorted") (opBi .sorted) := one_D fun pins s σ H F M v d us Qd Q I S r rv ⟨xs, ns, e, e2, q⟩ pq => by
  obtain ⟨p, vs, rfl, h, t⟩ := vw_lst S r e
  obtain rfl := t.intsD e2
  exact cr_sortedI pins s σ H _ us Q I rv ⟨p, ns, rfl, .inl h, fun ns' z hp hs hz => pq.newL S hz (RepL.ofInts ns') (q ns' hp hs)⟩
/-! lists of a dict's keys -/
theorem RepK.keys {F : Hp} : ∀ {kvs : List (Key × V)} {ds : List (DK × D)}, RepK G F kvs ds → RepL G F (kvs.map fun kv => kV kv.1) (ds.map fun kv => ofKey kv.1)
  | _, _, .nil => .nil
  | _, _, .cons (k := k) r t => .cons (by cases k <;> first | exact .int _ | exact .str _) (RepK.keys t)
theorem rep_key1 {F : Hp} (k : Key) : Rep G F (kV k) (ofKey1 k) := by cases k <;> first | exact .int _ | exact .str _
theorem rep_keys1 {F : Hp} : ∀ ks : List Key, RepL G F (ks.map kV) (ks.map ofKey1)
  | [] => .nil
  | k :: ks => .cons (rep_key1 k) (rep_keys1 ks)
/-- tuples that stand there are known -/
theorem SR.adopt {H F : Hp} {M : Sto} (S : SR G H F M) {b : Addr} {vs : List V} (h : H b = some (.tup vs)) : SR G H (upd F b (.tup vs)) M ∧ Sub F (upd F b (.tup vs)) := by
  have hF : ∀ o, F b = some o → o = .tup vs := fun o e => by
    rcases S.sub b o e with q | ⟨ob, q⟩
    · rw [h] at q; exact (Option.some.inj q).symm
    · rw [h] at q; cases q
  have hM : M b = none := by
    cases e : M b with
    | none => rfl
    | some m =>
      obtain ⟨_, q⟩ := S.mo b m e
      cases m with
      | lst _ => obtain ⟨_, q, _⟩ := q; rw [h] at q; cases q
      | dic _ => rcases q with ⟨_, q, _⟩ | ⟨_, q, _⟩ <;> rw [h] at q <;> cases q
      | ins _ _ => obtain ⟨_, _, _, q, _⟩ := q; rw [h] at q; cases q
  have hs : Sub F (upd F b (.tup vs)) := fun a o e => by
    by_cases ha : a = b
    · subst ha; rw [upd_same, hF o e]
    · rw [upd_ne ha]; exact e
  refine ⟨⟨fun a o e => ?_, fun a m e => ?_, S.tabs, fun a ps e => ?_, fun a o e hh => ?_, fun a o e hh => ?_⟩, hs⟩
  · by_cases ha : a = b
    · subst ha; rw [upd_same] at e; cases e; exact .inl h
    · rw [upd_ne ha] at e; exact S.sub a o e
  · have ha : a ≠ b := fun z => by subst z; rw [hM] at e; cases e
    obtain ⟨h1, h2⟩ := S.mo a m e
    exact ⟨by rw [upd_ne ha]; exact h1, h2.mono rfl hs⟩
  · by_cases ha : a = b
    · subst ha; rw [upd_same] at e; cases e
    · rw [upd_ne ha] at e; exact S.ntb a ps e
  · by_cases ha : a = b
    · subst ha; rw [upd_same] at e; cases e; exact h
    · rw [upd_ne ha] at e; exact S.hard a o e hh
  · by_cases ha : a = b
    · subst ha; rw [upd_same] at e; cases e; cases hh
    · rw [upd_ne ha] at e; exact S.dics a o e hh
theorem SR.adopts {H : Hp} {M : Sto} {kvs : List (List Key × V)} {bs : List Addr} (hk : IsKeys H kvs bs) : ∀ {F : Hp} {ds : List (DK × D)}, SR G H F M → RepT G F kvs ds → ∃ F', SR G H F' M ∧ Keep H F M H F' M ∧ Sub F F' ∧ RepL G F' (bs.map V.ref) (ds.map fun kv => ofKey kv.1) := by
  unfold IsKeys at hk
  induction hk with
  | nil => intro F ds S r; cases r; exact ⟨F, S, Keep.refl H F M, Sub.refl F, .nil⟩
  | cons h t ih =>
    intro F ds S r
    cases r with
    | cons r rt =>
      obtain ⟨S1, u1⟩ := S.adopt h
      obtain ⟨F', S', k', u', rl⟩ := ih S1 (rt.mono u1)
      exact ⟨F', S', (Keep.adopt h).trans k', u1.trans u', .cons (.tup (u' _ _ upd_same) (rep_keys1 _)) rl⟩
theorem c_list (hc : X.calm = true) : CallD G X (.type "list") (opBi .list) := one_D fun pins s σ H F M v d us Qd Q I S r rv q pq => by
  unfold oList at q
  split at q
  · rename_i xs e
    obtain ⟨p, vs, rfl, h, t⟩ := vw_lst S r e
    exact call_list_of pins s σ H _ us Q I rv ⟨p, vs, rfl, .inl (.inl h), fun z hz => pq.newL S hz t q⟩
  · rename_i xs e
    obtain ⟨p, vs, rfl, h, t⟩ := vw_tup S r e
    exact call_list_of pins s σ H _ us Q I rv ⟨p, vs, rfl, .inr (.inl h), fun z hz => pq.newL S hz t q⟩
  · rename_i kvs e
    obtain ⟨p, rfl, ⟨vs, h, t⟩ | ⟨vs, h, t⟩⟩ := vw_dic S r e
    · exact call_listD hc pins s σ H _ us Q I rv ⟨p, vs, rfl, h, fun z hz => pq.newL S hz t.keys q⟩
    · refine call_list_dT hc pins s σ H _ us Q I rv ⟨p, vs, rfl, h, fun z bs hz hk => ?_⟩
      obtain ⟨F', S', k', u', rl⟩ := SR.adopts hk S t
      exact (pq.step k' u').newL S' hz rl q
  · exact q.elim
theorem c_tuple : CallD G X (.type "tuple") (opBi .tuple) := one_D fun pins s σ H F M v d us Qd Q I S r rv q pq => by
  unfold oTuple at q
  split at q
  · rename_i xs e
    obtain ⟨p, vs, rfl, h, t⟩ := vw_lst S r e
    exact call_tuple_of pins s σ H _ us Q I rv ⟨p, vs, rfl, .inl ⟨.inl h, fun z hz => pq.newT S hz t q⟩⟩
  · rename_i xs e
    obtain ⟨p, vs, ep, h, t⟩ := vw_tup S r e
    have ed : d = .tup xs := by
      cases r with
      | tup h t => exact e
      | mref a' => exact (mref_view (M := M) (a := a') (P := fun z => z = .tup xs) e (fun o => by cases o <;> intro z <;> cases z) (fun z => by cases z)).elim
      | _ => cases e
    subst ep ed
    exact call_tuple_of pins s σ H _ us Q I rv ⟨p, vs, rfl, .inr ⟨.inl h, pq.same S r q⟩⟩
  · exact q.elim
/-! dict(pairs) -/
theorem RepK.mem {F : Hp} : ∀ {kvs : List (Key × V)} {ds : List (DK × D)} (k : Key), RepK G F kvs ds → (kvs.any fun kv => decide (kv.1 = k)) = (ds.any fun kv => decide (kv.1 = .inl k))
  | _, _, _, .nil => rfl
  | _, _, k, .cons (k := j) r t => by
    rw [List.any_cons, List.any_cons, RepK.mem k t]
    congr 1
    simp
theorem RepK.map {F : Hp} {v : V} {d : D} (r : Rep G F v d) (k : Key) : ∀ {kvs : List (Key × V)} {ds : List (DK × D)}, RepK G F kvs ds → RepK G F (kvs.map fun kv => if kv.1 = k then (kv.1, v) else kv) (ds.map fun kv => if kv.1 = .inl k then (kv.1, d) else kv)
  | _, _, .nil => .nil
  | _, _, .cons (k := j) r' t => by
    rw [List.map_cons, List.map_cons]
    by_cases h : j = k
    · subst h
      simp only [if_true]
      exact .cons r (RepK.map r _ t)
    · have h2 : ¬ (Sum.inl j : DK) = Sum.inl k := fun z => h (Sum.inl.inj z)
      simp only [if_neg h, if_neg h2]
      exact .cons r' (RepK.map r _ t)
theorem RepK.snoc {F : Hp} {v : V} {d : D} (r : Rep G F v d) (k : Key) : ∀ {kvs : List (Key × V)} {ds : List (DK × D)}, RepK G F kvs ds → RepK G F (kvs ++ [(k, v)]) (ds ++ [(.inl k, d)])
  | _, _, .nil => .cons r .nil
  | _, _, .cons r' t => .cons r' (RepK.snoc r k t)
theorem RepK.put {F : Hp} {kvs : List (Key × V)} {ds : List (DK × D)} {v : V} {d : D} {k : Key} (t : RepK G F kvs ds) (r : Rep G F v d) : RepK G F (putK kvs k v) (setK ds (.inl k) d) := by
  unfold putK setK
  rw [t.mem k]
  split
  · exact RepK.map r k t
  · exact RepK.snoc r k t
theorem RepK.mrg {F : Hp} {more : List (Key × V)} : ∀ {ds : List (DK × D)} {kvs : List (Key × V)} {es : List (DK × D)}, RepK G F kvs es → RepK G F more ds → RepK G F (mergeK kvs more) (mrgK es ds) := by
  induction more with
  | nil => intro ds kvs es h t; cases t; exact h
  | cons p more ih =>
    intro ds kvs es h t
    cases t with
    | cons r t =>
      unfold mergeK mrgK
      rw [List.foldl_cons, List.foldl_cons]
      exact ih (h.put r) t
theorem pairsK_rep {H F : Hp} {M : Sto} (S : SR G H F M) : ∀ {xs : List D} {vs : List V} {kvs : List (DK × D)}, RepL G F vs xs → pairsK xs = some kvs → (∀ kv ∈ kvs, isTK kv.1 = false) →
    ∃ (ps : List Addr) (ws : List (Key × V)), vs = ps.map V.ref ∧ Paired (fun p kv => H p = some (.tup [kV kv.1, kv.2])) ps ws ∧ RepK G F ws kvs
  | [], _, kvs, .nil, e, _ => by simp only [pairsK] at e; cases e; exact ⟨[], [], rfl, .nil, .nil⟩
  | x :: xs, _, kvs, .cons r t, e, hk => by
    unfold pairsK at e
    split at e
    · rename_i h; cases h
    · rename_i k d rest h
      cases h
      split at e
      · rename_i key kvs' e1 e2
        cases e
        obtain ⟨ps, ws, rfl, hp, hr⟩ := pairsK_rep S t e2 fun kv hm => hk kv (List.mem_cons_of_mem _ hm)
        cases r with
        | tup h rt =>
          cases rt with
          | cons rk rt =>
            obtain ⟨w, rfl, rd⟩ := rt.one
            rcases key_rep S rk e1 with ⟨k1, rfl, rfl⟩ | ⟨ks, b, rfl, _, _⟩
            · exact ⟨_ :: ps, (k1, w) :: ws, rfl, .cons (S.tup _ _ h) hp, .cons rd hr⟩
            · have := hk _ List.mem_cons_self
              simp [isTK] at this
      · cases e
    · cases e
theorem c_dict (hc : X.calm = true) : CallD G X (.type "dict") (opBi .dict) := one_D fun pins s σ H F M v d us Qd Q I S r rv q pq => by
  unfold oDict at q
  split at q
  · rename_i xs e
    obtain ⟨kvs, e2, hk, q⟩ := q
    obtain ⟨p, vs, rfl, h, t⟩ := vw_lst S r e
    obtain ⟨ps, ws, rfl, hp, hr⟩ := pairsK_rep S t e2 hk
    refine thn (call_dictP hc pins s σ H _ us (lockQ false Q) I rv ⟨p, ps, ws, rfl, .inl h, Paired.mapP hp fun a b z => SqT.of z, fun z hz => ?_⟩) fun _ _ z => ep_lock z
    exact pq.madeK (mu := false) S hz (RepK.mrg .nil hr) q
  · rename_i kvs e
    obtain ⟨hn, hk, q⟩ := q
    obtain ⟨p, rfl, ⟨vs, h, t⟩ | ⟨vs, h, t⟩⟩ := vw_dic S r e
    · exact thn (call_dictD pins s σ H _ us (lockQ false Q) I rv ⟨p, vs, rfl, h, fun z hz => pq.madeK (mu := false) S hz t q⟩) fun _ _ z => ep_lock z
    · cases t with
      | nil => exact absurd rfl hn
      | cons r t => have := hk _ List.mem_cons_self; simp [isTK] at this
  · exact q.elim
end
end DS
end
section
set_option Elab.async false
set_option linter.all false
set_option maxRecDepth 100000
/-! DsG: repr; changes in place; isinstance. -/
namespace DS
open PySem PySem.Spec PyProof.Rows L2 LamX

section
variable {G : GC} {X : Cx} {E : XK} {a b c : Expr} {ta tb tc : WE} {pos : Pos}
/-! ### repr -/
theorem reads_flat {F : Hp} {h : Heap} {d : D} {v : V} {u : Value} {p : PyData} (r : Rep G F v d) (rv : RelV v u) (e : flatP d = some p) : Reads h u p [] := by
  cases r <;> simp only [flatP] at e <;> first
    | (cases e; done)
    | (cases e; cases rv; first | exact .none | exact .bool _)
    | (cases e; obtain ⟨t, rfl⟩ := rv; first | exact .int _ t | exact .str _ t)
theorem reads_key1 {h : Heap} {k : Key} {u : Value} (r : keyIs k u = true) : Reads h u (keyP1 k) [] := by
  rcases keyIs_shape r with ⟨i, t, rfl, rfl⟩ | ⟨x, t, rfl, rfl⟩
  · exact .int i t
  · exact .str x t
theorem reads_rel1 {h : Heap} {k : Key} {u : Value} (r : RelV (kV k) u) : Reads h u (keyP1 k) [] := by
  cases k with
  | inl i => obtain ⟨t, rfl⟩ := r; exact .int i t
  | inr x => obtain ⟨t, rfl⟩ := r; exact .str x t
theorem reads_keys1 {h : Heap} : ∀ {ks : List Key} {us : List Value}, Vals (ks.map kV) us → ReadsAll h us (ks.map keyP1) []
  | [], _, .nil => .nil
  | k :: ks, _, .cons r t => by
    have h2 := ReadsAll.cons (reads_rel1 (h := h) r) (reads_keys1 (h := h) t)
    exact h2
theorem readsK {F : Hp} {P : Program} {w : World} {h : Heap} : ∀ {kvs : List (Key × V)} {ds : List (DK × D)} {vs : List (Key × Value)} {es : List DictEntry} {ps : List (PyData × PyData)}, RepK G F kvs ds → KV kvs vs → Pairs (mixKind P w) es vs → kvsP ds = some ps →
    ReadsAll h (es.map (·.key)) (ps.map (·.1)) [] ∧ ReadsAll h (es.map (·.val)) (ps.map (·.2)) []
  | _, _, _, _, ps, .nil, .nil, .nil, e => by simp only [kvsP] at e; cases e; exact ⟨.nil, .nil⟩
  | _, _, _, _, ps, .cons r t, .cons k kt, .cons i v pt, e => by
    simp only [kvsP] at e
    split at e
    · rename_i p ps' e1 e2
      cases e
      obtain ⟨h1, h2⟩ := readsK t kt pt e2
      obtain ⟨k1, k2⟩ := k
      have i' : keyIs _ _ = true := (mixKind_is P w _ _).symm.trans i
      rw [← k1] at i'
      rw [← v] at k2
      refine ⟨?_, ?_⟩
      · have z := ReadsAll.cons (reads_key1 (h := h) i') h1
        exact z
      · have z := ReadsAll.cons (reads_flat (h := h) r k2 e1) h2
        exact z
    · cases e
theorem readsT {F H : Hp} {P : Program} {w : World} {h : Heap} (hok : HOk P w H h) {kvs : List (List Key × V)} {xs : List (List Key × Addr × Value)} (kt : KT H kvs xs) : ∀ {ds : List (DK × D)} {ps : List (PyData × PyData)}, RepT G F kvs ds → kvsP ds = some ps →
    ReadsAll h ((xs.map (entryOfKey (tupleKind (mixKind P w)))).map (·.key)) (ps.map (·.1)) [] ∧ ReadsAll h ((xs.map (entryOfKey (tupleKind (mixKind P w)))).map (·.val)) (ps.map (·.2)) [] := by
  induction kt with
  | nil => intro ds ps r e; cases r; simp only [kvsP] at e; cases e; exact ⟨.nil, .nil⟩
  | @cons p q ps' qs hh t ih =>
    intro ds ps r e
    obtain ⟨k1, k2, k3⟩ := hh
    cases r with
    | cons r rt =>
      simp only [kvsP] at e
      split at e
      · rename_i p1 ps1 e1 e2
        cases e
        obtain ⟨h1, h2⟩ := ih rt e2
        obtain ⟨z, its, rv, o, ho, hc, n, hd⟩ := (show ObjOk P w H h _ (.tup _) from hok _ _ k2)
        refine ⟨?_, ?_⟩
        · have y := ReadsAll.cons (Reads.tuple ho hc hd (reads_keys1 (h := h) rv)) h1
          exact y
        · have y := ReadsAll.cons (reads_flat (h := h) r k3 e1) h2
          exact y
      · cases e
mutual
theorem noDict : ∀ (d : D) (p : PyData), toP d = some p → p.hasDict = false
  | .non, p, e => by simp only [toP] at e; cases e; rfl
  | .bl _, p, e => by simp only [toP] at e; cases e; rfl
  | .int _, p, e => by simp only [toP] at e; cases e; rfl
  | .str _, p, e => by simp only [toP] at e; cases e; rfl
  | .lst xs, p, e => by
    simp only [toP, Option.map_eq_some_iff] at e
    obtain ⟨ps, e, rfl⟩ := e
    simp only [PyData.hasDict]; exact noDicts xs ps e
  | .tup xs, p, e => by
    simp only [toP, Option.map_eq_some_iff] at e
    obtain ⟨ps, e, rfl⟩ := e
    simp only [PyData.hasDict]; exact noDicts xs ps e
  | .dic _, p, e => by simp [toP] at e
  | .ins _ _, p, e => by simp [toP] at e
  | .mref _, p, e => by simp [toP] at e
  | .fn _, p, e => by simp [toP] at e
theorem noDicts : ∀ (ds : List D) (ps : List PyData), toPs ds = some ps → PyData.hasDictAll ps = false
  | [], ps, e => by simp only [toPs] at e; cases e; rfl
  | d :: ds, ps, e => by
    simp only [toPs] at e
    split at e
    · rename_i p q e1 e2
      cases e
      simp only [PyData.hasDictAll, noDict d p e1, noDicts ds q e2]; rfl
    · cases e
end
theorem reads_of {H F : Hp} {M : Sto} {s : Shared} {σ : L2.St} {pins : List (Addr × Obj)} {d : D} {v : V} {u : Value} {p : PyData} (I : Inv X pins σ H s) (S : SR G H F M) (r : Rep G F v d) (rv : RelV v u) (e : toPR (vw M d) = some p) :
    ∃ as, Reads s.heap u p as ∧ (p.hasDict = true → sysModules ∉ as) := by
  have plain : toP (vw M d) = some p → ∃ as, Reads s.heap u p as ∧ (p.hasDict = true → sysModules ∉ as) := fun e => by
    obtain ⟨as, h⟩ := Dp.reads I p v u (dp_vw S r e) rv
    refine ⟨as, h, fun z => ?_⟩
    rw [noDict _ _ e] at z
    cases z
  cases h : vw M d with
  | dic kvs =>
    rw [h] at e
    simp only [toPR, Option.map_eq_some_iff] at e
    obtain ⟨ps, e, rfl⟩ := e
    obtain ⟨a, rfl, ⟨vs, hr, t⟩ | ⟨vs, hr, t⟩⟩ := vw_dic S r h
    · cases rv
      obtain ⟨_, hd, ws, rel, o, es, ep, h1, h2, h3, _, h5, _⟩ := dk_rd I.hok hr
      obtain ⟨q1, q2⟩ := readsK t rel h5 e
      have R := Reads.dict (kvs := ps) h1 h2.1 h3 (as := []) (bs := []) q1 q2
      refine ⟨_, R, fun _ hm => ?_⟩
      have e2 : sysModules = a := by simpa using hm
      rw [← e2] at hd
      simp at hd
    · cases rv
      obtain ⟨_, hd, xs, rel, o, es, ep, h1, h2, h3, h4, _⟩ := dt_rd I.hok hr
      obtain ⟨q1, q2⟩ := readsT I.hok rel t e
      rw [← h4] at q1 q2
      have R := Reads.dict (kvs := ps) h1 h2.1 h3 (as := []) (bs := []) q1 q2
      refine ⟨_, R, fun _ hm => ?_⟩
      have e2 : sysModules = a := by simpa using hm
      rw [← e2] at hd
      simp at hd
  | _ => rw [h] at e; exact plain (by rw [h]; exact e)
theorem c_repr (hg : X.A.guards = some []) (hu : X.A.units + 64 < cLine) : CallD G X (.builtin "repr") (opBi .repr) := one_D fun pins s σ H F M v d us Qd Q I S r rv ⟨p, e, hs, hdp, hl, q⟩ pq => by
  obtain ⟨u, rfl, ru⟩ := vals1 rv
  obtain ⟨as, R, hsm⟩ := reads_of I S r ru e
  have fin : ∀ (t : Tok) h' tk, (∀ b o, s.heap.get? b = some o → h'.get? b = some o) → EP X pins σ Q (.str p.shown t) { s with heap := h', toks := tk } := fun t h' tk k =>
    ⟨.str p.shown, H, I.kept k, ⟨t, rfl⟩, pq.same S (.str _) q⟩
  cases R with
  | none => exact PySem.P.repr_of_none (fin _ s.heap _ fun _ _ e => e)
  | bool b => exact PySem.P.repr_of_bool (fin _ s.heap _ fun _ _ e => e)
  | int i t =>
    refine PySem.P.repr_of_int (of_decide_eq_true (by simpa only [PyData.showable] using hs)) ?_
    have z := fin s.toks s.heap (s.toks + 1) fun _ _ e => e
    simpa only [PyData.shown] using z
  | str x t =>
    refine PySem.P.repr_of_str ?_ (lim_line (by simpa only [PyData.shown] using hl))
    have z := fin s.toks s.heap (s.toks + 1) fun _ _ e => e
    simpa only [PyData.shown] using z
  | list h1 h2 h3 h4 => exact repr_of_reads' (.list h1 h2 h3 h4) hs hsm hg (by omega) (fun _ _ e => e) (fun h' t tk k => fin t h' tk k) (lim_line hl)
  | tuple h1 h2 h3 h4 => exact repr_of_reads' (.tuple h1 h2 h3 h4) hs hsm hg (by omega) (fun _ _ e => e) (fun h' t tk k => fin t h' tk k) (lim_line hl)
  | dict h1 h2 h3 h4 h5 => exact repr_of_reads' (.dict h1 h2 h3 h4 h5) hs hsm hg (by omega) (fun _ _ e => e) (fun h' t tk k => fin t h' tk k) (lim_line hl)
/-! ### methods -/
/-- what the frame of a method's call asks of the text -/
structure CallTxt (X : Cx) (o : Expr) (name : Str) (apos cpos : Pos) : Prop where
  base : notSuper o = true
  line : (apos.endLine == cpos.line) = true
def allPlain : List Expr → Bool
  | [] => true
  | e :: es => notStar e && allPlain es
theorem starEach_plain {env : PySem.Env} : ∀ {es : List Expr}, allPlain es = true → starEach es env = es.map fun e => (false, eval e env)
  | [], _ => rfl
  | e :: es, h => by
    simp only [allPlain, Bool.and_eq_true] at h
    rw [starEach_eq h.1, starEach_plain h.2]; rfl
theorem backTo_plain {env : PySem.Env} {pos : Pos} : ∀ {es : List Expr}, allPlain es = true → (backTo pos (starEach es env)).any (·.1) = false := fun {es} h => by
  rw [starEach_plain h]
  unfold backTo
  induction es with
  | nil => rfl
  | cons e es ih =>
    simp only [allPlain, Bool.and_eq_true] at h
    simp only [List.map_cons, List.any_cons, Bool.false_or]
    exact ih h.2
theorem backTo_all {env : PySem.Env} {pos : Pos} : ∀ {es : List Expr}, allPlain es = true → (backTo pos (starEach es env)).all (fun x => !x.1) = true := fun {es} h => by
  rw [starEach_plain h]
  unfold backTo
  induction es with
  | nil => rfl
  | cons e es ih =>
    simp only [allPlain, Bool.and_eq_true] at h
    simp only [List.map_cons, List.all_cons, Bool.not_false, Bool.true_and]
    exact ih h.2
/-- a built-in type's method by values -/
def MtD (G : GC) (X : Cx) (id : String) (od : D → List D → Sto → Po D → Prop) : Prop :=
  ∀ (pins : List (Addr × Obj)) (s : Shared) (σ : L2.St) (H F : Hp) (M : Sto) (x : V) (dx : D) (vs : List V) (ds : List D) (v : Value) (us : List Value) (Qd : Po D) (Q : VK), Inv X pins σ H s → SR G H F M → Rep G F x dx → RepL G F vs ds → RelV x v → Vals vs us →
    od dx ds M Qd → PQ G H F M Qd Q → wpAny (model X.prog X.w) X.A (call (.builtin id) (v :: us)) (EP X pins σ Q) X.xe s
theorem ty_list {H F : Hp} {M : Sto} {d : D} {v : V} {K : PySem.W.Frag} (S : SR G H F M) (r : Rep G F v d) (h : isTy .list (vw M d) = true) : tyV K "list" v H := by
  cases e : vw M d with
  | lst xs =>
    obtain ⟨a, vs, rfl, h1, _⟩ := vw_lst S r e
    exact .inl ⟨rfl, vs, .inl h1⟩
  | _ => rw [e] at h; cases h
variable {es : List Expr} {t : WA} {o e : Expr} {to : WE} {name : Str} {id : String} {apos cpos : Pos} {n : Nat}
theorem few_ok (h : allPlain (e :: es) = true) (hn : (e :: es).length < 29) : ((backTo cpos (starEach (e :: es) X.env)).all (fun x => !x.1) && (backToKw cpos (keywordEach [] X.env)).all (fun x => x.1.isSome)
      && decide ((e :: es).length + ([] : List Keyword).length + (if ([] : List Keyword).isEmpty then 0 else 1) < 30)) = true := by
  rw [backTo_all h]
  simp [keywordEach, backToKw]
  simp only [List.length_cons] at hn
  omega
/-- o.name(e, ..) of a list -/
theorem s_mlist {od : D → List D → Sto → Po D → Prop} (hT : CallTxt X o name apos cpos) (slot : Slot "list" name id) (hty : typeOf (.builtin id) = pure (.type "method_descriptor")) (hm : MtD G X id od) (ho : PE X o (rdE G E to))
    (ha : PA X (e :: es) (rdA G E n t)) (hp : allPlain (e :: es) = true) (hn : (e :: es).length < 29) :
    PE X (.Call (.Attribute o name apos) (e :: es) [] cpos) (rdE G E fun ρ M Q Ex => to ρ M (fun x M1 => isTy .list (vw M1 x) = true ∧ t ρ M1 (fun ds M2 => od x ds M2 Q) Ex) Ex) := by
  have hp' := hp
  simp only [allPlain, Bool.and_eq_true] at hp'
  refine ⟨fun pins s σ H Q I ⟨ρ, F, M, Qd, Ed, S, q, pq, px⟩ => ?_⟩
  refine wpAny_Call_method_late (attrBase_eq hT.base) (few_ok hp hn) hT.line rfl ?_
  refine rd_use ho I S q px fun v s1 x dx H1 F1 M1 I1 S1 K1 u1 r1 rx ⟨hy, q1⟩ => ?_
  obtain ⟨h1, h2⟩ := tyV_is I1 rx (ty_list S1.sr r1 hy)
  refine ⟨"list", id, PySem.F.plainAttrs_list, slot, hty, h1, h2, ?_⟩
  rw [starEach_eq hp'.1]
  refine Calls.callWith_builtin (by show (false || (backTo cpos (starEach es X.env)).any (·.1)) = false; rw [backTo_plain hp'.2] <;> rfl) (Calls.evalArgs_plain ?_)
  show wpAny _ _ (spliced (backTo cpos ((false, eval e X.env) :: starEach es X.env))) _ _ s1
  rw [← starEach_eq hp'.1]
  refine ra_use ha I1 S1 q1 (px.step K1 u1) fun us s2 vs ds H2 F2 M2 I2 S2 K2 u2 r2 rv hl q2 => ?_
  exact hm pins s2 σ H2 F2 M2 x dx vs ds v us Qd Q I2 S2.sr (r1.mono u2) r2 rx rv q2 (pq.step (K1.trans K2) (u1.trans u2))
/-- o.name() of a list -/
theorem s_mlist0 {od : D → List D → Sto → Po D → Prop} (hT : CallTxt X o name apos cpos) (slot : Slot "list" name id) (hty : typeOf (.builtin id) = pure (.type "method_descriptor")) (hm : MtD G X id od) (ho : PE X o (rdE G E to)) :
    PE X (.Call (.Attribute o name apos) [] [] cpos) (rdE G E fun ρ M Q Ex => to ρ M (fun x M1 => isTy .list (vw M1 x) = true ∧ od x [] M1 Q) Ex) := by
  refine ⟨fun pins s σ H Q I ⟨ρ, F, M, Qd, Ed, S, q, pq, px⟩ => ?_⟩
  refine wpAny_Call_method0_late (attrBase_eq hT.base) hT.line ?_
  refine rd_use ho I S q px fun v s1 x dx H1 F1 M1 I1 S1 K1 u1 r1 rx ⟨hy, q1⟩ => ?_
  obtain ⟨h1, h2⟩ := tyV_is I1 rx (ty_list S1.sr r1 hy)
  exact ⟨"list", id, PySem.F.plainAttrs_list, slot, hty, h1, h2, Calls.callWith_builtin rfl (PySem.evalArgs_none (hm pins s1 σ H1 F1 M1 x dx [] [] v [] Qd Q I1 S1.sr r1 .nil rx .nil q1 (pq.step K1 u1)))⟩
/-! the methods themselves -/
theorem PQ.chg {H F : Hp} {M : Sto} {Qd : Po D} {Q : VK} {a : Addr} {o : HO} {m m' : MO} {v : V} {d : D} (pq : PQ G H F M Qd Q) (S : SR G H F M) (hm : M a = some m) (hr : MRep G (upd H a o) F a m') (hz : ∀ ps, H a ≠ some (.tbl ps)) (r : Rep G F v d) (q : Qd d (M.put a m')) : Q v (upd H a o) :=
  pq d _ v _ F q (S.chg hm hr hz) (Keep.chg hm) (Sub.refl F) r
theorem PQ.chgL {H F : Hp} {M : Sto} {Qd : Po D} {Q : VK} {a : Addr} {m : MO} {v : V} {d : D} {ws ws' : List V} {ds : List D} (pq : PQ G H F M Qd Q) (S : SR G H F M) (hm : M a = some m) (hw : H a = some (.lst ws')) (t : RepL G F ws ds) (r : Rep G F v d) (q : Qd d (M.put a (.lst ds))) : Q v (upd H a (.lst ws)) :=
  pq.chg S hm (m' := .lst ds) ⟨ws, upd_same, t⟩ (fun ps z => by rw [hw] at z; cases z) r q
theorem RepL.dropLast {F : Hp} {vs : List V} {ds : List D} (t : RepL G F vs ds) : RepL G F vs.dropLast ds.dropLast := by
  rw [List.dropLast_eq_take, List.dropLast_eq_take, t.length]
  exact t.take _
theorem m_append : MtD G X "list.append" (opMu .append) := by
  intro pins s σ H F M x dx vs ds v us Qd Q I S r r2 rx rv ⟨a, xs, e1, e, d, e2, hl, q⟩ pq
  subst e1 e2
  obtain ⟨w, rfl, rw'⟩ := r2.one
  obtain rfl := rep_mref r
  obtain ⟨_, ws, hw, t⟩ := S.mo a _ e
  refine mt_append pins s σ H _ _ v us Q I rx rv ⟨a, ws, w, rfl, rfl, hw, by rw [t.length]; exact lim_lt hl, ?_⟩
  exact pq.chgL S e hw (t.append (.cons rw' .nil)) .non q
theorem m_pop1 : MtD G X "list.pop" (opMu .pop1) := by
  intro pins s σ H F M x dx vs ds v us Qd Q I S r r2 rx rv ⟨a, xs, e1, e, j, d, e2, h0, h1, hd, q⟩ pq
  subst e1 e2
  obtain ⟨w, rfl, rw'⟩ := r2.one
  obtain rfl := rep_int rw'
  obtain rfl := rep_mref r
  obtain ⟨_, ws, hw, t⟩ := S.mo a _ e
  obtain ⟨y, hy, ry⟩ := t.get hd
  have hz := (I.hok a _ hw).1
  have hl := t.length
  have line := line63
  refine mt_popAt pins s σ H _ _ v us Q I rx rv ⟨a, ws, j, j.toNat, y, rfl, rfl, hw, by omega, by omega, ?_, hy, ?_⟩
  · exact seqIndex_of h0 (by omega)
  · exact pq.chgL S e hw (t.eraseIdx _) ry q
theorem m_pop0 : MtD G X "list.pop" (opMu .pop0) := by
  intro pins s σ H F M x dx vs ds v us Qd Q I S r r2 rx rv ⟨a, xs, e1, e, d, e2, hd, q⟩ pq
  subst e1 e2
  cases r2
  obtain rfl := rep_mref r
  obtain ⟨_, ws, hw, t⟩ := S.mo a _ e
  rw [← t.length] at hd
  obtain ⟨y, hy, ry⟩ := t.get hd
  exact mt_pop pins s σ H _ _ v us Q I rx rv ⟨a, ws, y, rfl, rfl, hw, hy, pq.chgL S e hw t.dropLast ry q⟩
theorem m_clear : MtD G X "list.clear" (opMu .clear) := by
  intro pins s σ H F M x dx vs ds v us Qd Q I S r r2 rx rv ⟨a, xs, e1, e, e2, q⟩ pq
  subst e1 e2
  cases r2
  obtain rfl := rep_mref r
  obtain ⟨_, ws, hw, t⟩ := S.mo a _ e
  exact mt_clear pins s σ H _ _ v us Q I rx rv ⟨a, ws, rfl, rfl, hw, pq.chgL S e hw .nil .non q⟩
/-- list.extend by a list that is read -/
def rExtR : V → List V → Hp → VK → Prop := fun x vs H Q => ∃ l b xs zs, x = .ref l ∧ vs = [.ref b] ∧ H l = some (.lst xs) ∧ Rd H b (.lst zs) ∧ xs.length + zs.length ≤ sizeLine ∧ Q .non (upd H l (.lst (xs ++ zs)))
theorem mt_extR : MtM X "list.extend" rExtR := by
  intro pins s σ H x vs v us Q I rx rv ⟨l, b, xs, zs, e1, e2, hH, hB, hz, q⟩
  subst e1 e2
  cases rx
  obtain ⟨u, rfl, ru⟩ := rv.one
  cases ru
  obtain ⟨-, ys, c1, ry, ey⟩ := I.hok l _ hH
  obtain ⟨-, ws, c2, rw2, ew⟩ := hB.ok I.hok
  have n1 : xs.length = ys.length := ry.length
  have n2 : zs.length = ws.length := rw2.length
  have small : ys.toArray.size + ws.toArray.size ≤ sizeLine := by simp only [List.size_toArray]; omega
  have ok : ¬ (!ys.toArray.isEmpty && Builtin.List.listTooLong (ys.toArray.size + ws.toArray.size)) = true := by rw [notLongL small]; simp
  refine call_meets F.slot_list_extend ⟨_, ey, rfl⟩ F.entry_list_extend (F.args_list_extend_2 _ _)
    (AutoSeq1.list_extend_list_list_0 l ys.toArray c1 b ws.toArray c2 ok (by simp only [List.size_toArray]; omega) (by omega)) ⟨ey, ew, ?_⟩
  have J := I.lset (t' := s.toks) (its' := ys ++ ws) hH ey (f := fun a => a ++ ws.toArray) (by simp) (ry.append rw2) (by rw [List.length_append]; omega)
  exact ⟨.non, _, J, rfl, q⟩
theorem m_extend : MtD G X "list.extend" (opMu .extend) := by
  intro pins s σ H F M x dx vs ds v us Qd Q I S r r2 rx rv ⟨a, xs, e1, e, d, ys, e2, ev, hne, hl, hl2, q⟩ pq
  subst e1 e2
  obtain ⟨w, rfl, rw'⟩ := r2.one
  obtain rfl := rep_mref r
  obtain ⟨_, ws, hw, t⟩ := S.mo a _ e
  obtain ⟨b, zs, rfl, hb, t2⟩ := vw_lst S rw' ev
  refine mt_extR pins s σ H _ _ v us Q I rx rv ⟨a, b, ws, zs, rfl, rfl, hw, hb, by rw [t.length, t2.length]; exact lim_line2 hl hl2, ?_⟩
  exact pq.chgL S e hw (t.append t2) .non q
theorem m_index : MtD G X "list.index" (opMe .index) := by
  intro pins s σ H F M x dx vs ds v us Qd Q I S r r2 rx rv ⟨y, xs, fv, fs, j, z, e1, ev, fy, fx, hj, hz, hno, q⟩ pq
  subst e1
  obtain ⟨w, rfl, rw'⟩ := r2.one
  obtain ⟨a, ws, rfl, h, t⟩ := vw_lst S r ev
  obtain ⟨rfl, f1⟩ := flat_rep rw' fy
  obtain ⟨rfl, f2⟩ := t.flat fx
  exact mt_index pins s σ H _ _ v us Q I rx rv ⟨a, ws, w, j, z, rfl, rfl, .inl h, f1, f2, hj, hz, hno, pq.same S (.int _) q⟩
theorem m_count : MtD G X "list.count" (opMe .count) := by
  intro pins s σ H F M x dx vs ds v us Qd Q I S r r2 rx rv ⟨k, xs, ns, e1, ev, en, q⟩ pq
  subst e1
  obtain ⟨w, rfl, rw'⟩ := r2.one
  obtain rfl := rep_int rw'
  obtain ⟨a, ws, rfl, h, t⟩ := vw_lst S r ev
  obtain rfl := t.intsD en
  exact mt_lcount pins s σ H _ _ v us Q I rx rv ⟨a, ns, k, rfl, rfl, .inl h, pq.same S (.int _) q⟩
/-! ### stores o[i] = e -/
theorem emp_put {H : Hp} {s : Shared} {σ : L2.St} {pins : List (Addr × Obj)} {a : Addr} {o : HO} (I : Inv X pins σ H s) (mu : Mut (H a)) (ok : ObjOk X.prog X.w (upd H a o) s.heap a o) : Inv X pins σ (upd H a o) s := by
  have J := I.write (h' := s.heap) (t' := s.toks) (x := a) (e := a) (o := o) mu (.inl rfl) (fun _ _ _ e => e) (by
    cases h : H a with
    | none => rw [h] at mu; exact mu.elim
    | some u =>
      have hl := I.hok.lt h
      have := (I.hok a u h)
      cases u with
      | lst xs => obtain ⟨_, _, _, _, e⟩ := this; exact ⟨_, e⟩
      | dK kvs => obtain ⟨_, _, _, _, ob, _, _, e, _⟩ := this; exact ⟨_, e⟩
      | dT kvs => obtain ⟨_, _, _, _, ob, _, _, e, _⟩ := this; exact ⟨_, e⟩
      | set S n => obtain ⟨ob, _, _, _, e, _⟩ := this; exact ⟨_, e⟩
      | ins C dx fs => obtain ⟨_, _, _, e, _⟩ := this; exact ⟨_, e⟩
      | ext φ => obtain ⟨_, ⟨_, e⟩, _⟩ := this; exact ⟨_, e⟩
      | _ => rw [h] at mu; exact mu.elim) ok
  exact J
theorem RepT.mem {F : Hp} : ∀ {kvs : List (List Key × V)} {ds : List (DK × D)} (k : List Key), RepT G F kvs ds → (kvs.any fun kv => decide (kv.1 = k)) = (ds.any fun kv => decide (kv.1 = .inr k))
  | _, _, _, .nil => rfl
  | _, _, k, .cons (k := j) r t => by
    rw [List.any_cons, List.any_cons, RepT.mem k t]
    congr 1
    simp
theorem RepT.map {F : Hp} {v : V} {d : D} (r : Rep G F v d) (k : List Key) : ∀ {kvs : List (List Key × V)} {ds : List (DK × D)}, RepT G F kvs ds → RepT G F (kvs.map fun kv => if kv.1 = k then (kv.1, v) else kv) (ds.map fun kv => if kv.1 = .inr k then (kv.1, d) else kv)
  | _, _, .nil => .nil
  | _, _, .cons (k := j) r' t => by
    rw [List.map_cons, List.map_cons]
    by_cases h : j = k
    · subst h
      simp only [if_true]
      exact .cons r (RepT.map r _ t)
    · have h2 : ¬ (Sum.inr j : DK) = Sum.inr k := fun z => h (Sum.inr.inj z)
      simp only [if_neg h, if_neg h2]
      exact .cons r' (RepT.map r _ t)
theorem RepT.snoc {F : Hp} {v : V} {d : D} (r : Rep G F v d) (k : List Key) : ∀ {kvs : List (List Key × V)} {ds : List (DK × D)}, RepT G F kvs ds → RepT G F (kvs ++ [(k, v)]) (ds ++ [(.inr k, d)])
  | _, _, .nil => .cons r .nil
  | _, _, .cons r' t => .cons r' (RepT.snoc r k t)
theorem setK_ne {ds : List (DK × D)} {k : DK} {d : D} : setK ds k d ≠ [] := by
  unfold setK
  split
  · rename_i h
    cases ds with
    | nil => cases h
    | cons x r => simp
  · simp
theorem RepT.put {F : Hp} {kvs : List (List Key × V)} {ds : List (DK × D)} {v : V} {d : D} {k : List Key} (t : RepT G F kvs ds) (r : Rep G F v d) : RepT G F (putK kvs k v) (setK ds (.inr k) d) := by
  unfold putK setK
  rw [t.mem k]
  split
  · exact RepT.map r k t
  · exact RepT.snoc r k t
theorem setD (hu : X.A.units + 64 < cLine) {pins : List (Addr × Obj)} {s : Shared} {σ : L2.St} {H F : Hp} {M : Sto} {o i v : V} {dO di dv : D} {ov iv u : Value} {Qs : Sto → Prop} (I : Inv X pins σ H s) (S : SR G H F M) (ro : Rep G F o dO) (ri : Rep G F i di) (rv : Rep G F v dv)
    (rO : RelV o ov) (rI : RelV i iv) (rV : RelV v u) (q : opSet dO di dv M Qs) :
    wpAny (model X.prog X.w) X.A (setItem ov iv u) (fun _ s' => ∃ H' M', Inv X pins σ H' s' ∧ SR G H' F M' ∧ Keep H F M H' F M' ∧ Qs M') X.xe s := by
  obtain ⟨a, rfl, q⟩ := q
  obtain rfl := rep_mref ro
  obtain rfl : ov = Value.ref a := rO
  split at q
  · rename_i xs e
    obtain ⟨j, rfl, h0, h1, q⟩ := q
    obtain rfl := rep_int ri
    obtain ⟨_, ws, hw, t⟩ := S.mo a _ e
    have hl := t.length
    refine thn (set_list pins s σ H _ _ v _ iv u (fun H' => H' = upd H a (.lst (ws.set j.toNat v))) I (show RelV (.ref a) (Value.ref a) from rfl) rI rV ⟨a, ws, j, j.toNat, rfl, rfl, hw, ?_, rfl⟩) fun _ s' ⟨H', I', eH⟩ => ?_
    · unfold ixN
      rw [if_pos h0, if_pos (by omega)]
    · subst eH
      exact ⟨_, _, I', S.chg e (m' := .lst (xs.set j.toNat dv)) ⟨_, upd_same, t.set rv _⟩ (fun ps z => by rw [hw] at z; cases z), Keep.chg e, q⟩
  · rename_i kvs e
    obtain ⟨k, hk, ha, hl, q⟩ := q
    have hu1 : X.A.units + 1 < cLine := by omega
    have finK : ∀ {H1 : Hp} {ws : List (Key × V)} {k1 : Key}, Inv X pins σ H1 s → (∀ b, b ≠ a → H1 b = H b) → H1 a = some (.dK ws) → (∀ ps, H a ≠ some (.tbl ps)) → RepK G F ws kvs → k = .inl k1 → i = kV k1 →
        wpAny (model X.prog X.w) X.A (setItem (.ref a) iv u) (fun _ s' => ∃ H' M', Inv X pins σ H' s' ∧ SR G H' F M' ∧ Keep H F M H' F M' ∧ Qs M') X.xe s := fun {H1 ws k1} I1 hb hw hz t ek ei => by
      subst ek ei
      refine d_setItem hu1 I1 (DPut.k hw (by rw [t.length]; exact lim_lt hl)) rI rV fun s' I' => ?_
      have eH : upd H1 a (.dK (putK ws k1 v)) = upd H a (.dK (putK ws k1 v)) := by
        funext b
        by_cases hba : b = a
        · rw [hba, upd_same, upd_same]
        · rw [upd_ne hba, upd_ne hba, hb b hba]
      rw [eH] at I'
      exact ⟨_, _, I', S.chg e (m' := .dic (setK kvs (.inl k1) dv)) (.inl ⟨_, upd_same, t.put rv⟩) hz, Keep.chg e, q⟩
    have finT : ∀ {H1 : Hp} {ws : List (List Key × V)} {ks : List Key} {b : Addr}, Inv X pins σ H1 s → (∀ b, b ≠ a → H1 b = H b) → H1 a = some (.dT ws) → (∀ ps, H a ≠ some (.tbl ps)) → RepT G F ws kvs → k = .inr ks → i = .ref b → H1 b = some (.tup (ks.map kV)) →
        wpAny (model X.prog X.w) X.A (setItem (.ref a) iv u) (fun _ s' => ∃ H' M', Inv X pins σ H' s' ∧ SR G H' F M' ∧ Keep H F M H' F M' ∧ Qs M') X.xe s := fun {H1 ws ks b} I1 hb hw hz t ek ei htb => by
      subst ek ei
      refine d_setItem hu1 I1 (DPut.t hw htb (by rw [t.length]; exact lim_lt hl)) rI rV fun s' I' => ?_
      have eH : upd H1 a (.dT (putK ws ks v)) = upd H a (.dT (putK ws ks v)) := by
        funext b
        by_cases hba : b = a
        · rw [hba, upd_same, upd_same]
        · rw [upd_ne hba, upd_ne hba, hb b hba]
      rw [eH] at I'
      exact ⟨_, _, I', S.chg e (m' := .dic (setK kvs (.inr ks) dv)) (.inr ⟨_, upd_same, t.put rv, setK_ne⟩) hz, Keep.chg e, q⟩
    obtain ⟨_, ⟨ws, hw, t⟩ | ⟨ws, hw, t, tn⟩⟩ := S.mo a _ e
    · have hz : ∀ ps, H a ≠ some (.tbl ps) := fun ps z => by rw [hw] at z; cases z
      rcases key_rep S ri hk with ⟨k1, ek, ei⟩ | ⟨ks, b, ek, ei, hb⟩
      · exact finK I (fun _ _ => rfl) hw hz t ek ei
      · cases t with
        | nil =>
          have hba : b ≠ a := fun z => by subst z; rw [hw] at hb; cases hb
          obtain ⟨hd, o, es, ep, e1, e2, e3, e4⟩ := emp_obj I (.inl (.inl hw))
          have J := emp_put (o := .dT []) I (by rw [hw]; trivial) ⟨Nat.zero_le _, hd, [], .nil, o, es, ep, e1, e2, e3, by simpa using e4, List.nodup_nil⟩
          exact finT J (fun c hc => upd_ne hc) upd_same hz .nil ek ei (by rw [upd_ne hba]; exact hb)
        | cons r t => have := ha _ List.mem_cons_self; rw [ek] at this; simp [isTK] at this
    · have hz : ∀ ps, H a ≠ some (.tbl ps) := fun ps z => by rw [hw] at z; cases z
      rcases key_rep S ri hk with ⟨k1, ek, ei⟩ | ⟨ks, b, ek, ei, hb⟩
      · cases t with
        | nil =>
          obtain ⟨hd, dd⟩ := emp_K I (.inr (.inl hw))
          have J := emp_put (o := .dK []) I (by rw [hw]; trivial) ⟨Nat.zero_le _, hd, [], .nil, dd⟩
          exact finK J (fun c hc => upd_ne hc) upd_same hz .nil ek ei
        | cons r t => have := ha _ List.mem_cons_self; rw [ek] at this; simp [isTK] at this
      · exact finT I (fun _ _ => rfl) hw hz t ek ei hb
  · exact q.elim
/-! ### isinstance -/
def tyOf (G : GC) : D → Value
  | .non => .type "NoneType"
  | .bl _ => .type "bool"
  | .int _ => .type "int"
  | .str _ => .type "str"
  | .lst _ => .type "list"
  | .tup _ => .type "tuple"
  | .dic _ => .type "dict"
  | _ => .ref (G.ca 0)
def tyVal (G : GC) : Ty → Value
  | .int => .type "int"
  | .bool => .type "bool"
  | .str => .type "str"
  | .list => .type "list"
  | .tuple => .type "tuple"
  | .dict => .type "dict"
  | .cls _ => .ref (G.ca 0)
def tyNames : List String := ["NoneType", "bool", "int", "str", "list", "tuple", "dict"]
/-- what the written part must tell of the one own class -/
structure OwnCls (G : GC) (K : PySem.W.Frag) : Prop where
  cl : Cls K (G.ca 0)
  ha : PySem.W.findIn K (.ref (G.ca 0)) "__class__" = some (some (.builtin "object.__class__"))
  hn : PySem.W.specialIn K (.builtin "object.__class__") "__get__" = some (some (.builtin "getset_descriptor.__get__"))
  htk : PySem.W.takesIn K (.builtin "object.__class__") = some true
  hm : PySem.W.mroIn K (G.ca 0) (.type "object") = some true
  to : ∀ T ∈ tyNames, PySem.W.kitOne K (.type T) (.ref (G.ca 0)) = some false
  from' : ∀ T ∈ tyNames, PySem.W.kitOne K (.ref (G.ca 0)) (.type T) = some false
theorem kit_table : (tyNames.all fun a => ["bool", "int", "str", "list", "tuple", "dict"].all fun b => kitB a b == some (a == b || (a == "bool" && b == "int"))) = true := by decide +kernel
theorem kit_b {a b : String} (ha : a ∈ tyNames) (hb : b ∈ ["bool", "int", "str", "list", "tuple", "dict"]) {K : PySem.W.Frag} : PySem.W.kitOne K (.type a) (.type b) = some (a == b || (a == "bool" && b == "int")) := by
  have := List.all_eq_true.mp (List.all_eq_true.mp kit_table a ha) b hb
  exact kit_ty (by simpa using this)
theorem kit_one {K : PySem.W.Frag} (O : OwnCls G K) {d : D} (hk : known d = true) (hc : ∀ c fs, d = .ins c fs → c = 0) {t : Ty} (ht : ∀ c, t = .cls c → c = 0) : PySem.W.kitOne K (tyOf G d) (tyVal G t) = some (isTy t d) := by
  have own : PySem.W.kitOne K (.ref (G.ca 0)) (.ref (G.ca 0)) = some true := by unfold PySem.W.kitOne; rw [if_pos (by simp)]
  cases d with
  | ins c fs =>
    obtain rfl := hc c fs rfl
    cases t with
    | cls c => obtain rfl := ht c rfl; exact own
    | _ => exact O.from' _ (by simp [tyNames])
  | mref _ => cases hk
  | fn _ => cases hk
  | _ =>
    cases t with
    | cls c => exact O.to _ (by simp [tyNames])
    | _ => exact (kit_b (by simp [tyNames]) (by simp)).trans (by first | rfl | decide)
theorem kit_any {K : PySem.W.Frag} (O : OwnCls G K) {d : D} (hk : known d = true) (hc : ∀ c fs, d = .ins c fs → c = 0) : ∀ {ts : List Ty}, (∀ t ∈ ts, ∀ c, t = .cls c → c = 0) → PySem.W.kitAny K (tyOf G d) (ts.map (tyVal G)) = some (ts.any fun t => isTy t d)
  | [], _ => rfl
  | t :: ts, ht => by
    rw [List.map_cons, List.any_cons]
    refine kitAny_cons (kit_one O hk hc (ht t List.mem_cons_self)) (fun h => ?_) fun h => by rw [h]; rfl
    rw [h, Bool.false_or]
    exact kit_any O hk hc fun t' h' => ht t' (List.mem_cons_of_mem _ h')
theorem kit_at {pins : List (Addr × Obj)} {s : Shared} {σ : L2.St} {H F : Hp} {M : Sto} {d : D} {v : V} {u : Value} (O : OwnCls G X.K) (I : Inv X pins σ H s) (S : SR G H F M) (r : Rep G F v d) (rv : RelV v u) (hk : known (vw M d) = true) :
    ∃ P : Heap → Prop, PySem.W.KitX X.K u (tyOf G (vw M d)) P ∧ P s.heap ∧ u ≠ .builtin "__main__.__loader__#opaque" := by
  cases e : vw M d with
  | non => obtain ⟨_, rfl⟩ := vw_non r e; exact kit_of I rv (.base .non)
  | bl b => obtain ⟨_, rfl⟩ := vw_bl r e; exact kit_of I rv (.base (.bl b))
  | int b => obtain ⟨_, rfl⟩ := vw_int r e; exact kit_of I rv (.base (.int b))
  | str b => obtain ⟨_, rfl⟩ := vw_str r e; exact kit_of I rv (.base (.str b))
  | lst xs =>
    obtain ⟨a, vs, rfl, h | ⟨ob, h⟩, _⟩ := vw_lst S r e
    · exact kit_of I rv (.base (.lst h))
    · exact kit_of I rv (.base (.frz h))
  | tup xs =>
    obtain ⟨a, vs, rfl, h | ⟨ob, h⟩, _⟩ := vw_tup S r e
    · exact kit_of I rv (.base (.tup h))
    · exact kit_of I rv (.fTuple h)
  | dic xs =>
    obtain ⟨a, rfl, ⟨vs, h | ⟨ob, h⟩, _⟩ | ⟨vs, h | ⟨ob, h⟩, _⟩⟩ := vw_dic S r e
    · exact kit_of I rv (.base (.dK h))
    · exact kit_of I rv (.fDict h)
    · exact kit_of I rv (.base (.dT h))
    · cases rv
      obtain ⟨_, _, ys, _, o, es, ep, h1, h2, _⟩ := dt_rd I.hok (.inr ⟨ob, h⟩)
      exact ⟨_, PySem.W.kitx_dict, ⟨o, h1, h2.1⟩, fun z => nomatch z⟩
  | ins c fs =>
    obtain ⟨_, a, dx, vs, rfl, h, _⟩ := vw_ins S r e
    exact kit_of I rv (.base (.ins h O.cl O.ha O.hn O.htk O.hm))
  | mref _ => rw [e] at hk; cases hk
  | fn _ => rw [e] at hk; cases hk
theorem ins_zero {H F : Hp} {M : Sto} {d : D} {v : V} (S : SR G H F M) (r : Rep G F v d) : ∀ c fs, vw M d = .ins c fs → c = 0 := fun c fs e => (vw_ins S r e).1
/-- isinstance by data -/
def rIsD (G : GC) : List V → Hp → VK → Prop := fun xs H Q => ∃ (F : Hp) (M : Sto) (x : V) (d : D) (ts : List Ty), SR G H F M ∧ Rep G F x d ∧ known (vw M d) = true ∧ (∀ t ∈ ts, ∀ c, t = .cls c → c = 0) ∧
  ((∃ c t, ts = [t] ∧ xs = [x, c] ∧ ClsV c (tyVal G t)) ∨ ∃ tp cs, xs = [x, .ref tp] ∧ H tp = some (.tup cs) ∧ Paired ClsV cs (ts.map (tyVal G))) ∧ Q (.bl (ts.any fun t => isTy t (vw M d))) H
theorem call_isD (O : OwnCls G X.K) : CallR X (.builtin "isinstance") (rIsD G) := by
  intro pins s σ H xs us Q I r ⟨F, M, x, d, ts, S, rx, hk, ht, h, q⟩
  rcases h with ⟨c, t, rfl, rfl, k⟩ | ⟨tp, cs, rfl, hT, k⟩
  · obtain ⟨u1, u2, rfl, r1, r2⟩ := vals2 r
    have e2 := k.eq r2
    subst e2
    obtain ⟨P, Z, p, hx⟩ := kit_at O I S rx r1 hk
    refine PySem.W.kia_one Z I.kIn p (kit_one O hk (ins_zero S rx) (ht t List.mem_cons_self)) hx fun tk => ⟨.bl _, H, I.tok tk, rfl, ?_⟩
    simpa using q
  · obtain ⟨u1, u2, rfl, r1, r2⟩ := vals2 r
    cases (show u2 = Value.ref tp from r2)
    obtain ⟨P, Z, p, hx⟩ := kit_at O I S rx r1 hk
    obtain ⟨_, its, rv, ⟨oc, od, dt, sl⟩, h1, h2, n, h3⟩ := (show ObjOk X.prog X.w H s.heap tp (.tup cs) from I.hok tp _ hT)
    have e3 := ClsV.all k rv
    subst e3
    simp only at h2 h3
    subst h2 h3
    exact PySem.W.kia_tup Z I.kIn p h1 (kit_any O hk (ins_zero S rx) ht) hx fun tk => ⟨.bl _, H, I.tok tk, rfl, q⟩
/-- the classes that stand as an argument -/
inductive TyE (G : GC) (X : Cx) : Expr → Ty → Prop where
  | mk {e : Expr} {t : Ty} {v : V} : PE X e (tC v) → ClsV v (tyVal G t) → notStar e = true → (∀ c, t = .cls c → c = 0) → TyE G X e t
inductive TysE (G : GC) (X : Cx) : List Expr → List Ty → Prop where
  | nil : TysE G X [] []
  | cons {e : Expr} {t : Ty} {es : List Expr} {ts : List Ty} : TyE G X e t → TysE G X es ts → TysE G X (e :: es) (t :: ts)
theorem tys_pa {es : List Expr} {ts : List Ty} (h : TysE G X es ts) : allPlain es = true ∧ (∀ t ∈ ts, ∀ c, t = .cls c → c = 0) ∧ ∃ cs, PA X es (fun _ H Q => Q cs H) ∧ Paired ClsV cs (ts.map (tyVal G)) ∧ cs.length = es.length := by
  induction h with
  | nil => exact ⟨rfl, fun _ h => (by cases h), [], pa_nil, .nil, rfl⟩
  | cons h _ ih =>
    obtain ⟨p, h0, cs, ha, hp, hl⟩ := ih
    cases h with
    | mk he hc hs hz =>
      refine ⟨by simp only [allPlain, hs, p]; rfl, fun t ht => ?_, _, pa_cons he ha (starEach_eq hs), .cons hc hp, by simp [hl]⟩
      rcases List.mem_cons.mp ht with rfl | ht
      · exact hz
      · exact h0 t ht
theorem s_isi {eT : Expr} {ts : List Ty} {p : Pos} (O : OwnCls G X.K) (hg : Gl X "isinstance") (hm : X.mg "isinstance" = none) (hs : notStar a = true) (ha : PE X a (rdE G E ta))
    (hT : (∃ t, ts = [t] ∧ TyE G X eT t) ∨ ∃ es k p2, eT = .Tuple es k p2 ∧ TysE G X es ts ∧ es.length ≤ lim) :
    PE X (.Call (.Name "isinstance" p) [a, eT] [] pos) (rdE G E fun ρ M Q Ex => ta ρ M (fun x M1 => known (vw M1 x) = true ∧ Q (.bl (ts.any fun t => isTy t (vw M1 x))) M1) Ex) := by
  have hv : bootBuiltins "isinstance" = some (.builtin "isinstance") := by decide +kernel
  rcases hT with ⟨t, rfl, hT⟩ | ⟨es, k, p2, rfl, hT, hlim⟩
  · cases hT with
    | mk he hc hs2 hz =>
      have hpl : allPlain [eT] = true := by simp only [allPlain, hs2]; rfl
      refine PE_imp (pe_callB (call_isD O) hg hm hv (pa_cons ha (pa_cons he pa_nil (starEach_eq hs2)) (starEach_eq hs)) (by decide) (by decide) (starEach_eq hs) (backTo_plain hpl)) fun σ H Q ⟨ρ, F, M, Qd, Ed, S, q, pq, px⟩ => ?_
      refine ⟨ρ, F, M, _, Ed, S, q, fun d M1 v H1 F1 ⟨hk, q1⟩ S1 K1 u1 r1 => ?_, px⟩
      exact ⟨F1, M1, v, d, [t], S1, r1, hk, fun t' ht' => by rw [List.mem_singleton.mp ht']; exact hz, .inl ⟨_, t, rfl, rfl, hc⟩, (pq.step K1 u1).same S1 (.bl _) q1⟩
  · obtain ⟨hp, hz, cs, hA, hC, hl⟩ := tys_pa hT
    refine PE_imp (pe_callB (call_isD O) hg hm hv (pa_cons ha (pa_cons (pe_tup hA) pa_nil (starEach_eq rfl)) (starEach_eq hs)) (by decide) (by decide) (starEach_eq hs) (backTo_plain rfl)) fun σ H Q ⟨ρ, F, M, Qd, Ed, S, q, pq, px⟩ => ?_
    refine ⟨ρ, F, M, _, Ed, S, q, fun d M1 v H1 F1 ⟨hk, q1⟩ S1 K1 u1 r1 => ?_, px⟩
    refine ⟨by rw [hl]; exact lim_line hlim, fun z hz2 => ?_⟩
    refine ⟨F1, M1, v, d, ts, S1.hid hz2, r1, hk, hz, .inr ⟨z, cs, rfl, upd_same, hC⟩, ?_⟩
    exact (pq.step K1 u1) _ M1 _ _ F1 q1 (S1.hid hz2) (Keep.hid S1 hz2) (Sub.refl F1) (.bl _)
end
end DS
end
section
set_option Elab.async false
set_option linter.all false
set_option maxRecDepth 100000
/-! DsH: what is walked. -/
namespace DS
open PySem PySem.Spec PyProof.Rows L2 LamX

abbrev WI := DEnv → Sto → IQ → Po Exn → Prop
def KFrz (H1 : Hp) (M1 : Sto) (H : Hp) : Prop := ∀ a ob o, H1 a = some (.frz ob o) → M1 a = none → H a = some (.frz ob o)
theorem Keep.frz {H1 F1 H F : Hp} {M1 M : Sto} (k : Keep H1 F1 M1 H F M) : KFrz H1 M1 H := fun a ob o e m => (k a _ e m fun _ z => by cases z).1
/-- how data are walked, from H1 on -/
structure ItR (G : GC) (H1 F1 : Hp) (M1 : Sto) (g : Sto → Prop) (J : It) (ds : List D) : Prop where
  go : ∀ i H F M, i < ds.length → SR G H F M → Sub F1 F → KFrz H1 M1 H → g M → J.go i H
  stop : ∀ H F M, SR G H F M → Sub F1 F → KFrz H1 M1 H → g M → J.stop ds.length H
  yld : ∀ i d x H H' F M, ds[i]? = some d → SR G H F M → Sub F1 F → KFrz H1 M1 H → g M → J.yld i H x H' → ∃ F', SR G H' F' M ∧ Keep H F M H' F' M ∧ Sub F F' ∧ Rep G F' x d
def rdI (G : GC) (E : XK) (t : WI) : TI := fun σ H R => ∃ ρ F M Qd Ed, StR G σ H F ρ M ∧ t ρ M Qd Ed ∧
  (∀ ds g M1 J H1 F1, Qd ds g M1 → SR G H1 F1 M1 → Keep H F M H1 F1 M1 → Sub F F1 → ItR G H1 F1 M1 g J ds → R J H1) ∧ PX G H F M Ed E
section
variable {G : GC} {X : Cx} {E : XK}
/-! ### what yields, by data -/
section
variable {H1 F1 : Hp} {M1 : Sto} {K : PySem.W.Frag}
theorem itR_list {a : Addr} {dx : D} {xs : List D} (r : Rep G F1 (.ref a) dx) (e : vw M1 dx = .lst xs) : ItR G H1 F1 M1 (sameS dx M1) (Itl K a) xs where
  go := fun i H F M hi S u _ g => by
    obtain ⟨b, vs, eb, h, t⟩ := vw_lst S (r.mono u) (show vw M dx = .lst xs from g.trans e)
    cases eb
    obtain ⟨v, hv, _⟩ := t.get (List.getElem?_eq_getElem hi)
    exact ⟨vs, v, .inl h, hv⟩
  stop := fun H F M S u _ g => by
    obtain ⟨b, vs, eb, h, t⟩ := vw_lst S (r.mono u) (show vw M dx = .lst xs from g.trans e)
    cases eb
    exact ⟨vs, .inl h, Nat.le_of_eq t.length⟩
  yld := fun i d x H H' F M hd S u _ g y => by
    obtain ⟨b, vs, eb, h, t⟩ := vw_lst S (r.mono u) (show vw M dx = .lst xs from g.trans e)
    cases eb
    obtain ⟨rfl, y⟩ := y
    obtain ⟨v, hv, rv⟩ := t.get hd
    rw [y vs (.inl h)] at hv
    cases hv
    exact ⟨F, S, Keep.refl _ F M, Sub.refl F, rv⟩
theorem itR_tup {a : Addr} {vs : List V} {xs : List D} (h : F1 a = some (.tup vs)) (t : RepL G F1 vs xs) : ItR G H1 F1 M1 anyS (Itt K a) xs where
  go := fun i H F M hi S u _ _ => by
    obtain ⟨v, hv, _⟩ := t.get (List.getElem?_eq_getElem hi)
    exact ⟨vs, v, .of (S.tup a vs (u _ _ h)), hv⟩
  stop := fun H F M S u _ _ => ⟨vs, .of (S.tup a vs (u _ _ h)), Nat.le_of_eq t.length⟩
  yld := fun i d x H H' F M hd S u _ _ y => by
    obtain ⟨rfl, y⟩ := y
    obtain ⟨v, hv, rv⟩ := t.get hd
    rw [y vs (.of (S.tup a vs (u _ _ h)))] at hv
    cases hv
    exact ⟨F, S, Keep.refl _ F M, Sub.refl F, rv.mono u⟩
theorem signs_get {z : Str} {i : Nat} {d : D} (h : (signs z)[i]? = some d) : ∃ c, z.cps[i]? = some c ∧ d = .str ⟨#[c]⟩ := by
  unfold signs at h
  rw [List.getElem?_map, Option.map_eq_some_iff] at h
  obtain ⟨c, h1, rfl⟩ := h
  exact ⟨c, by simpa using h1, rfl⟩
theorem signs_len (z : Str) : (signs z).length = z.cps.size := by simp [signs]
theorem itR_str {z : Str} : ItR G H1 F1 M1 anyS (Its z) (signs z) where
  go := fun i H F M hi _ _ _ _ => by rw [signs_len] at hi; exact hi
  stop := fun H F M _ _ _ _ => by show z.cps.size ≤ _; rw [signs_len]; exact Nat.le_refl _
  yld := fun i d x H H' F M hd S u _ _ y => by
    obtain ⟨rfl, c, hc, rfl⟩ := y
    obtain ⟨c', hc', rfl⟩ := signs_get hd
    rw [hc] at hc'
    cases hc'
    exact ⟨F, S, Keep.refl _ F M, Sub.refl F, .str _⟩
theorem RepK.getK' {F : Hp} : ∀ {kvs : List (Key × V)} {ds : List (DK × D)} {i : Nat} {d : DK × D}, RepK G F kvs ds → ds[i]? = some d → ∃ k v, kvs[i]? = some (k, v) ∧ d.1 = .inl k ∧ Rep G F v d.2
  | _, _, 0, _, .cons r _, e => by simp at e; subst e; exact ⟨_, _, rfl, rfl, r⟩
  | _, _, i + 1, _, .cons _ t, e => by simpa using RepK.getK' (i := i) t (by simpa using e)
theorem RepK.len {F : Hp} : ∀ {kvs : List (Key × V)} {ds : List (DK × D)}, RepK G F kvs ds → kvs.length = ds.length
  | _, _, .nil => rfl
  | _, _, .cons _ t => by simp [RepK.len t]
theorem RepT.getT' {F : Hp} : ∀ {kvs : List (List Key × V)} {ds : List (DK × D)} {i : Nat} {d : DK × D}, RepT G F kvs ds → ds[i]? = some d → ∃ k v, kvs[i]? = some (k, v) ∧ d.1 = .inr k ∧ Rep G F v d.2
  | _, _, 0, _, .cons r _, e => by simp at e; subst e; exact ⟨_, _, rfl, rfl, r⟩
  | _, _, i + 1, _, .cons _ t, e => by simpa using RepT.getT' (i := i) t (by simpa using e)
theorem RepT.len {F : Hp} : ∀ {kvs : List (List Key × V)} {ds : List (DK × D)}, RepT G F kvs ds → kvs.length = ds.length
  | _, _, .nil => rfl
  | _, _, .cons _ t => by simp [RepT.len t]
theorem itR_keys {a : Addr} {ob : Obj} {vs : List (Key × V)} {kvs : List (DK × D)} (hM : M1 a = none) (h : H1 a = some (.frz ob (.dK vs))) (t : RepK G F1 vs kvs) : ItR G H1 F1 M1 anyS (Itk a ob vs) (kvs.map fun kv => ofKey kv.1) where
  go := fun i H F M hi S u k _ => ⟨k _ _ _ h hM, by rw [t.len]; simpa using hi⟩
  stop := fun H F M S u k _ => ⟨k _ _ _ h hM, by rw [t.len]; simp⟩
  yld := fun i d x H H' F M hd S u k _ y => by
    obtain ⟨rfl, kk, v, hk, rfl⟩ := y
    rw [List.getElem?_map, Option.map_eq_some_iff] at hd
    obtain ⟨kv, hd, rfl⟩ := hd
    obtain ⟨k2, v2, h2, e2, _⟩ := t.getK' hd
    rw [hk] at h2; cases h2
    rw [e2]
    refine ⟨F, S, Keep.refl _ F M, Sub.refl F, ?_⟩
    cases kk with
    | inl i => exact .int i
    | inr s => exact .str s
theorem itR_keysT {a : Addr} {ob : Obj} {vs : List (List Key × V)} {kvs : List (DK × D)} (hM : M1 a = none) (h : H1 a = some (.frz ob (.dT vs))) (t : RepT G F1 vs kvs) : ItR G H1 F1 M1 anyS (Itkt a ob vs) (kvs.map fun kv => ofKey kv.1) where
  go := fun i H F M hi S u k _ => ⟨k _ _ _ h hM, by rw [t.len]; simpa using hi⟩
  stop := fun H F M S u k _ => ⟨k _ _ _ h hM, by rw [t.len]; simp⟩
  yld := fun i d x H H' F M hd S u k _ y => by
    obtain ⟨rfl, kk, v, q, hk, rfl, hq⟩ := y
    rw [List.getElem?_map, Option.map_eq_some_iff] at hd
    obtain ⟨kv, hd, rfl⟩ := hd
    obtain ⟨k2, v2, h2, e2, _⟩ := t.getT' hd
    rw [hk] at h2; cases h2
    rw [e2]
    obtain ⟨S1, u1⟩ := S.adopt hq
    exact ⟨_, S1, Keep.adopt hq, u1, .tup upd_same (rep_keys1 _)⟩
theorem itR_vals {a : Addr} {ob : Obj} {vs : List (Key × V)} {kvs : List (DK × D)} (hM : M1 a = none) (h : H1 a = some (.frz ob (.dK vs))) (t : RepK G F1 vs kvs) : ItR G H1 F1 M1 anyS (Itd a ob vs) (kvs.map fun kv => kv.2) where
  go := fun i H F M hi S u k _ => ⟨k _ _ _ h hM, by rw [t.len]; simpa using hi⟩
  stop := fun H F M S u k _ => ⟨k _ _ _ h hM, by rw [t.len]; simp⟩
  yld := fun i d x H H' F M hd S u k _ y => by
    obtain ⟨rfl, kk, hk⟩ := y
    rw [List.getElem?_map, Option.map_eq_some_iff] at hd
    obtain ⟨kv, hd, rfl⟩ := hd
    obtain ⟨k2, v2, h2, e2, r2⟩ := t.getK' hd
    rw [hk] at h2; cases h2
    exact ⟨F, S, Keep.refl _ F M, Sub.refl F, r2.mono u⟩
theorem itR_items {a : Addr} {ob : Obj} {vs : List (Key × V)} {kvs : List (DK × D)} (hM : M1 a = none) (h : H1 a = some (.frz ob (.dK vs))) (t : RepK G F1 vs kvs) : ItR G H1 F1 M1 anyS (Iti a ob vs) (kvs.map fun kv => .tup [ofKey kv.1, kv.2]) where
  go := fun i H F M hi S u k _ => ⟨k _ _ _ h hM, by rw [t.len]; simpa using hi⟩
  stop := fun H F M S u k _ => ⟨k _ _ _ h hM, by rw [t.len]; simp⟩
  yld := fun i d x H H' F M hd S u k _ y => by
    obtain ⟨T, kk, v, hk, rfl, hT, rfl⟩ := y
    rw [List.getElem?_map, Option.map_eq_some_iff] at hd
    obtain ⟨kv, hd, rfl⟩ := hd
    obtain ⟨k2, v2, h2, e2, r2⟩ := t.getK' hd
    rw [hk] at h2; cases h2
    rw [e2]
    have u2 := Sub.upd (o := .tup [kV kk, v]) (S.fnone hT)
    refine ⟨_, S.new hT, Keep.new S hT, u2, .tup upd_same (.cons ?_ (.cons ((r2.mono u).mono u2) .nil))⟩
    cases kk with
    | inl i => exact .int i
    | inr s => exact .str s
theorem enumD_get : ∀ {xs : List D} {n i : Nat} {d : D}, (enumD n xs)[i]? = some d → ∃ x, xs[i]? = some x ∧ d = .tup [.int ((n + i : Nat) : Int), x]
  | [], _, _, _, h => by simp [enumD] at h
  | x :: xs, n, 0, d, h => by simp [enumD] at h; exact ⟨x, rfl, h.symm⟩
  | x :: xs, n, i + 1, d, h => by
    obtain ⟨y, h1, h2⟩ := enumD_get (xs := xs) (n := n + 1) (i := i) (by simpa [enumD] using h)
    exact ⟨y, by simpa using h1, by rw [h2]; congr 3; omega⟩
theorem enumD_len : ∀ (xs : List D) (n : Nat), (enumD n xs).length = xs.length
  | [], _ => rfl
  | x :: xs, n => by simp [enumD, enumD_len xs (n + 1)]
theorem itR_enum {a : Addr} {dx : D} {xs : List D} (r : Rep G F1 (.ref a) dx) (e : vw M1 dx = .lst xs) : ItR G H1 F1 M1 (sameS dx M1) (Ite K a) (enumD 0 xs) where
  go := fun i H F M hi S u _ g => by
    rw [enumD_len] at hi
    obtain ⟨b, vs, eb, h, t⟩ := vw_lst S (r.mono u) (show vw M dx = .lst xs from g.trans e)
    cases eb
    obtain ⟨v, hv, _⟩ := t.get (List.getElem?_eq_getElem hi)
    exact ⟨vs, v, .inl h, hv⟩
  stop := fun H F M S u _ g => by
    rw [enumD_len]
    obtain ⟨b, vs, eb, h, t⟩ := vw_lst S (r.mono u) (show vw M dx = .lst xs from g.trans e)
    cases eb
    exact ⟨vs, .inl h, Nat.le_of_eq t.length⟩
  yld := fun i d x H H' F M hd S u _ g y => by
    obtain ⟨d0, hd1, rfl⟩ := enumD_get hd
    obtain ⟨b, vs, eb, h, t⟩ := vw_lst S (r.mono u) (show vw M dx = .lst xs from g.trans e)
    cases eb
    obtain ⟨T, x0, rfl, hT, rfl, y⟩ := y
    obtain ⟨v, hv, rv⟩ := t.get hd1
    rw [y vs (.inl h)] at hv
    cases hv
    have u2 := Sub.upd (o := .tup [.int ((i : Nat) : Int), x0]) (S.fnone hT)
    refine ⟨_, S.new hT, Keep.new S hT, u2, .tup upd_same (.cons ?_ (.cons (rv.mono u2) .nil))⟩
    rw [Nat.zero_add]
    exact .int _
theorem zipD_get : ∀ {xs ys : List D} {i : Nat} {d : D}, (zipD xs ys)[i]? = some d → ∃ x y, xs[i]? = some x ∧ ys[i]? = some y ∧ d = .tup [x, y]
  | [], _, _, _, h => by simp [zipD] at h
  | _ :: _, [], _, _, h => by simp [zipD] at h
  | x :: xs, y :: ys, 0, d, h => by simp [zipD] at h; exact ⟨x, y, rfl, rfl, h.symm⟩
  | x :: xs, y :: ys, i + 1, d, h => by
    obtain ⟨a, b, h1, h2, h3⟩ := zipD_get (xs := xs) (ys := ys) (i := i) (by simpa [zipD] using h)
    exact ⟨a, b, by simpa using h1, by simpa using h2, h3⟩
theorem zipD_len : ∀ (xs ys : List D), (zipD xs ys).length = min xs.length ys.length
  | [], _ => by simp [zipD]
  | _ :: _, [] => by simp [zipD]
  | x :: xs, y :: ys => by simp [zipD, zipD_len xs ys]
theorem itR_zip {a b : Addr} {dx dy : D} {xs ys : List D} (r : Rep G F1 (.ref a) dx) (e : vw M1 dx = .lst xs) (r' : Rep G F1 (.ref b) dy) (e' : vw M1 dy = .lst ys) : ItR G H1 F1 M1 (fun M => sameS dx M1 M ∧ sameS dy M1 M) (Itz K a b) (zipD xs ys) where
  go := fun i H F M hi S u _ g => by
    rw [zipD_len] at hi
    obtain ⟨b, vs, eb, h, t⟩ := vw_lst S (r.mono u) (show vw M dx = .lst xs from g.1.trans e)
    cases eb
    obtain ⟨b, ws, eb, h', t'⟩ := vw_lst S (r'.mono u) (show vw M dy = .lst ys from g.2.trans e')
    cases eb
    obtain ⟨v, hv, _⟩ := t.get (List.getElem?_eq_getElem (show i < xs.length by omega))
    obtain ⟨v', hv', _⟩ := t'.get (List.getElem?_eq_getElem (show i < ys.length by omega))
    exact ⟨vs, ws, v, v', .inl h, .inl h', hv, hv'⟩
  stop := fun H F M S u _ g => by
    rw [zipD_len]
    obtain ⟨b, vs, eb, h, t⟩ := vw_lst S (r.mono u) (show vw M dx = .lst xs from g.1.trans e)
    cases eb
    obtain ⟨b, ws, eb, h', t'⟩ := vw_lst S (r'.mono u) (show vw M dy = .lst ys from g.2.trans e')
    cases eb
    exact ⟨vs, ws, .inl h, .inl h', by have := t.length; have := t'.length; omega⟩
  yld := fun i d x H H' F M hd S u _ g y => by
    obtain ⟨d0, d1, hd1, hd2, rfl⟩ := zipD_get hd
    obtain ⟨b, vs, eb, h, t⟩ := vw_lst S (r.mono u) (show vw M dx = .lst xs from g.1.trans e)
    cases eb
    obtain ⟨b, ws, eb, h', t'⟩ := vw_lst S (r'.mono u) (show vw M dy = .lst ys from g.2.trans e')
    cases eb
    obtain ⟨T, x0, y0, rfl, hT, rfl, y, y'⟩ := y
    obtain ⟨v, hv, rv⟩ := t.get hd1
    rw [y vs (.inl h)] at hv
    cases hv
    obtain ⟨v, hv, rv'⟩ := t'.get hd2
    rw [y' ws (.inl h')] at hv
    cases hv
    have u2 := Sub.upd (o := .tup [x0, y0]) (S.fnone hT)
    exact ⟨_, S.new hT, Keep.new S hT, u2, .tup upd_same (.cons (rv.mono u2) (.cons (rv'.mono u2) .nil))⟩
theorem itR_zipT {a b : Addr} {vs ws : List V} {xs ys : List D} (h : F1 a = some (.tup vs)) (t : RepL G F1 vs xs) (h' : F1 b = some (.tup ws)) (t' : RepL G F1 ws ys) {g : Sto → Prop} : ItR G H1 F1 M1 g (RZ.ItzT K a b) (zipD xs ys) where
  go := fun i H F M hi S u _ _ => by
    rw [zipD_len] at hi
    obtain ⟨v, hv, _⟩ := t.get (List.getElem?_eq_getElem (show i < xs.length by omega))
    obtain ⟨v', hv', _⟩ := t'.get (List.getElem?_eq_getElem (show i < ys.length by omega))
    exact ⟨vs, ws, v, v', .of (S.tup a vs (u _ _ h)), .of (S.tup b ws (u _ _ h')), hv, hv'⟩
  stop := fun H F M S u _ _ => by
    rw [zipD_len]
    exact ⟨vs, ws, .of (S.tup a vs (u _ _ h)), .of (S.tup b ws (u _ _ h')), by have := t.length; have := t'.length; omega⟩
  yld := fun i d x H H' F M hd S u _ _ y => by
    obtain ⟨d0, d1, hd1, hd2, rfl⟩ := zipD_get hd
    obtain ⟨T, x0, y0, rfl, hT, rfl, y, y'⟩ := y
    obtain ⟨v, hv, rv⟩ := t.get hd1
    rw [y vs (.of (S.tup a vs (u _ _ h)))] at hv
    cases hv
    obtain ⟨v, hv, rv'⟩ := t'.get hd2
    rw [y' ws (.of (S.tup b ws (u _ _ h')))] at hv
    cases hv
    have u2 := Sub.upd (o := .tup [x0, y0]) (S.fnone hT)
    exact ⟨_, S.new hT, Keep.new S hT, u2, .tup upd_same (.cons ((rv.mono u).mono u2) (.cons ((rv'.mono u).mono u2) .nil))⟩
theorem itR_range {lo hi : Int} : ItR G H1 F1 M1 anyS (Itr lo (hi - lo).toNat) ((List.range (hi - lo).toNat).map fun (i : Nat) => D.int (lo + i)) where
  go := fun i H F M hl _ _ _ _ => by show i < (hi - lo).toNat; simpa using hl
  stop := fun H F M _ _ _ _ => by show (hi - lo).toNat ≤ _; simp
  yld := fun i d x H H' F M hd S u _ _ y => by
    obtain ⟨rfl, rfl⟩ := y
    rw [List.getElem?_map, Option.map_eq_some_iff] at hd
    obtain ⟨k, hd, rfl⟩ := hd
    obtain ⟨hk, rfl⟩ := List.getElem?_eq_some_iff.mp hd
    refine ⟨F, S, Keep.refl _ F M, Sub.refl F, ?_⟩
    simp only [List.getElem_range]
    exact .int _
end
end
end DS
end
section
set_option Elab.async false
set_option linter.all false
set_option maxRecDepth 100000
/-! DsH2: enumerate of tuples; the forms of what is walked. -/
namespace PySem
open Sem (wp)
open AutoSeq1 (wpAny_loadPart')
theorem dsEnumNewT (l : Addr) (items : Array Value) (n : Nat) (dct : Option Addr) (sl : Array (Option Value)) :
    Meets (Builtin.«enumerate.__new__» ⟨[.type "enumerate", .ref l], []⟩) (fun _ R s => s.heap.get? l = some { cls := .type "tuple", dict := dct, data := .seq items n, slots := sl } ∧
      R (.ok (.ret (.ref (s.heap.push { cls := .type "tuple_iterator", data := .fields #[.ref l, .int 0 0] }).objs.size)))
        { s with heap := (s.heap.push { cls := .type "tuple_iterator", data := .fields #[.ref l, .int 0 0] }).push { cls := .type "enumerate", data := .fields #[.none, .bool false, .ref s.heap.objs.size, rawInt 0, .none, .none] } }) :=
  .of_wp fun prog w A R s h => by
    obtain ⟨hp, g, d, tk, os⟩ := s; obtain ⟨hl, h⟩ := h
    have hsub := sub_enumerate
    have hL : Heap.IsTuple (Shared.heap ⟨hp, g, d, tk, os⟩) l items := ⟨_, hl, rfl, n, rfl⟩
    wp_walk using wpAny_loadPart' hl
    refine wpAny_stack_any fun st => wpAny_pure ?_
    split
    · rename_i c _ _ _ _ _
      cases (c == Value.type "enumerate")
      · wp_walk using wpAny_loadPart' hl, wpAny_pyIter_tuple hL
        exact ⟨_, rfl, h⟩
      · wp_walk using wpAny_loadPart' hl, wpAny_pyIter_tuple hL
        exact ⟨_, rfl, h⟩
    · wp_walk using wpAny_loadPart' hl, wpAny_pyIter_tuple hL
      exact ⟨_, rfl, h⟩
theorem dsCallEnumT {prog : Program} {w : World} {A : Around} {E : Value → Shared → Prop} {s : Shared} {l : Addr} {items : Array Value} {Q : Value → Shared → Prop} (hL : s.heap.IsTuple l items) {o : Obj} (hget : s.heap.get? l = some o)
    (h : ∀ h', IsEnum h' (s.heap.objs.size + 1) s.heap.objs.size 0 .none → h'.IsTupleIter s.heap.objs.size l 0 →
      (∀ b o, s.heap.get? b = some o → h'.get? b = some o) → Q (.ref (s.heap.objs.size + 1)) { s with heap := h' }) :
    wpAny (model prog w) A (call (.type "enumerate") [.ref l]) Q E s := by
  obtain ⟨⟨c, dct, dt, sl⟩, hl, hc, n, hd⟩ := hL
  replace hc : c = .type "tuple" := hc
  replace hd : dt = .seq items n := hd
  subst hc hd
  refine callType_new F.called_enumerate (by decide) (F.typeCall_enumerate_1 _) (F.newCall_enumerate_1 _) (fun obj => F.args_object_init_2 obj _) F.entry_enumerate_new
    (dsEnumNewT l items n dct sl) ⟨hl, ?_⟩
  have hz : (s.heap.push { cls := .type "tuple_iterator", data := .fields #[.ref l, .int 0 0] }).objs.size = s.heap.objs.size + 1 := Heap.size_push ..
  show _ ∧ _
  rw [hz]
  have he : IsEnum ((s.heap.push { cls := .type "tuple_iterator", data := .fields #[.ref l, .int 0 0] }).push
      { cls := .type "enumerate", data := .fields #[.none, .bool false, .ref s.heap.objs.size, rawInt 0, .none, .none] }) (s.heap.objs.size + 1) s.heap.objs.size 0 .none := by
    have := Heap.get?_push_size (s.heap.push { cls := .type "tuple_iterator", data := .fields #[.ref l, .int 0 0] })
      (o := { cls := .type "enumerate", data := .fields #[.none, .bool false, .ref s.heap.objs.size, rawInt 0, .none, .none] }) rfl
    rw [hz] at this; exact this
  exact ⟨⟨_, he, rfl⟩, h _ he ⟨_, Heap.get?_push_of_some _ (Heap.get?_push_size _ rfl), rfl, rfl⟩ fun b o x => Heap.get?_push_of_some _ (Heap.get?_push_of_some _ x)⟩
end PySem
namespace DS
open PySem PySem.Spec PyProof.Rows L2 LamX
/-- enumerate of the tuple at a -/
def IteT (K : PySem.W.Frag) (a : Addr) : It :=
  ⟨fun i H => ∃ (xs : List V) (x : V), SqT K H a xs ∧ xs[i]? = some x, fun i H v H' => ∃ T x, v = .ref T ∧ H T = none ∧ H' = upd H T (.tup [.int (i : Nat), x]) ∧ ∀ xs, SqT K H a xs → xs[i]? = some x, fun i H => ∃ xs : List V, SqT K H a xs ∧ xs.length = i⟩
theorem turn_enumT {P : Program} {w : World} {K : PySem.W.Frag} {elts : List Expr} {kk : Nat} {tpos : Pos} (a e it : Addr) (hne : e ≠ it) (hea : e ≠ a) (hia : a ≠ it) :
    Turn P w K (.Tuple elts kk tpos) (IteT K a) [e, it] e (fun i h => (∃ old, IsEnum h e it ((i : Nat) : Int) old) ∧ h.IsTupleIter it a i) where
  mem := by simp
  obj := fun i h ⟨⟨old, he⟩, ⟨o, ho, hc, hd⟩⟩ b hb => by
    have e' : b = e ∨ b = it := by simpa using hb
    rcases e' with z | z
    · rw [z]; exact ⟨_, he, fun v q => nomatch q⟩
    · rw [z]; exact ⟨o, ho, fun v q => by rw [hd] at q; cases q⟩
  keep := fun i h h' ⟨⟨old, he⟩, hi⟩ k => ⟨⟨old, k e (by simp) _ he⟩, hi.at fun o q => k it (by simp) o q⟩
  item := by
    intro X hP hw hK hc i pins s σ H E I hf st hg
    subst hP hw hK
    obtain ⟨⟨old, he⟩, hit⟩ := st
    obtain ⟨xs, x, hq, hx⟩ := hg
    obtain ⟨its, rv, p, hz⟩ := I.tuple hq
    obtain ⟨u, hu, ru⟩ := rv.get hx
    have hel : e < s.heap.objs.size := Heap.lt_size he
    have hil : it < s.heap.objs.size := by obtain ⟨_, q, _⟩ := hit; exact Heap.lt_size q
    have hi : i < its.toArray.size := by
      obtain ⟨h1, _⟩ := List.getElem?_eq_some_iff.mp hu
      simpa using h1
    have Dr := Draws.tuple (prog := X.prog) (w := X.w) (A := X.A.in1) (I.ok.hd hc) it a hia its.toArray
    refine wpAny_pyNext_enum_itemD Dr he ⟨hit, p⟩ hi hne (by simp [hne, hea]) fun y h' tk hy ho st' hT hsz hk => ?_
    have ey : y = u := by
      have z : its.toArray[i]? = some u := by simpa using hu
      rw [hy] at z; exact Option.some.inj z
    subst ey
    refine ⟨_, rfl, wpAny_letOwnedTupleGo_enum (s := { s with heap := h', toks := tk + 1 }) ho fun h'' he' sb => ?_⟩
    have hT2 : h''.get? s.heap.objs.size = some { cls := .type "tuple", data := .seq #[.int i tk, y] } := (sb.2 _ (Nat.ne_of_gt hel)).trans hT
    have new : ObjOk X.prog X.w (upd H s.heap.objs.size (.tup [.int (i : Nat), x])) h'' s.heap.objs.size (.tup [.int (i : Nat), x]) :=
      ⟨by show 2 ≤ sizeLine; decide, [.int i tk, y], .cons ⟨_, rfl⟩ (.cons ru .nil), ⟨_, hT2, rfl, _, rfl⟩⟩
    have I1 : Inv X pins σ (upd H s.heap.objs.size (.tup [.int (i : Nat), x])) { s with heap := h'', toks := tk + 1 } :=
      I.turnedNew (ch := [e, it]) (fun b ob hb q => (sb.2 b (fun z => hb (by simp [z]))).trans (hk b ob (fun z => hb (by simp [z])) (fun z => hb (by simp [z])) q)) hf (Nat.le_refl _) new
    refine ⟨.ref s.heap.objs.size, _, I1, rfl, ⟨_, x, rfl, I.hok.fresh (Nat.le_refl _), rfl, fun ys hy => by rw [I.tuple_inj hy hq]; exact hx⟩, ⟨⟨y, ?_⟩, st'.1.at fun o q => (sb.2 it (Ne.symm hne)).trans q⟩, fun b hb => ?_⟩
    · have e1 : ((i + 1 : Nat) : Int) = (i : Int) + 1 := by omega
      rw [e1]; exact he'
    · have hb' : b < s.heap.objs.size := by
        have e' : b = e ∨ b = it := by simpa using hb
        rcases e' with z | z
        · rw [z]; exact hel
        · rw [z]; exact hil
      rw [upd_ne (Nat.ne_of_lt hb')]
      exact (hf b hb).1
  done := by
    intro X hP hw hK hc i pins s σ H E I hf st hg
    subst hP hw hK
    obtain ⟨⟨old, he⟩, hit⟩ := st
    obtain ⟨xs, hq, hx⟩ := hg
    obtain ⟨its, rv, p, hz⟩ := I.tuple hq
    obtain ⟨f0, f1, f2, f3, f4, f5⟩ := hf it (by simp)
    have hl := rv.length
    have Dr := Draws.tuple (prog := X.prog) (w := X.w) (A := X.A.in1) (I.ok.hd hc) it a hia its.toArray
    have hi : its.toArray.size = i := by simp; omega
    refine wpAny_pyNext_enum_endD Dr he (by rw [hi]; exact ⟨hit, p⟩) fun h' eb => ⟨rfl, I.turned (t' := s.toks) (fun b o hb q => eb b o hb q) f0 f1 f3 f4 f5⟩
  self := fun A i s Q E st h => let ⟨⟨_, he⟩, _⟩ := st; wpAny_pyIter_enum he h
section
variable {G : GC} {X : Cx} {E : XK}
theorem itR_enumT {H1 F1 : Hp} {M1 : Sto} {K : PySem.W.Frag} {g : Sto → Prop} {a : Addr} {vs : List V} {xs : List D} (h : F1 a = some (.tup vs)) (t : RepL G F1 vs xs) : ItR G H1 F1 M1 g (IteT K a) (enumD 0 xs) where
  go := fun i H F M hi S u _ _ => by
    rw [enumD_len] at hi
    obtain ⟨v, hv, _⟩ := t.get (List.getElem?_eq_getElem hi)
    exact ⟨vs, v, .of (S.tup a vs (u _ _ h)), hv⟩
  stop := fun H F M S u _ _ => by
    rw [enumD_len]
    exact ⟨vs, .of (S.tup a vs (u _ _ h)), t.length⟩
  yld := fun i d x H H' F M hd S u _ _ y => by
    obtain ⟨d0, hd1, rfl⟩ := enumD_get hd
    obtain ⟨T, x0, rfl, hT, rfl, y⟩ := y
    obtain ⟨v, hv, rv⟩ := t.get hd1
    rw [y vs (.of (S.tup a vs (u _ _ h)))] at hv
    cases hv
    have u2 := Sub.upd (o := .tup [.int ((i : Nat) : Int), x0]) (S.fnone hT)
    refine ⟨_, S.new hT, Keep.new S hT, u2, .tup upd_same (.cons ?_ (.cons ((rv.mono u).mono u2) .nil))⟩
    rw [Nat.zero_add]
    exact .int _
/-! ### the forms -/
variable {a b : Expr} {ta tb : WE} {pos p : Pos} {tg : Expr}
theorem vw_tup' {H F : Hp} {M : Sto} {d : D} {v : V} {xs : List D} (S : SR G H F M) (r : Rep G F v d) (e : vw M d = .tup xs) : ∃ p vs, v = .ref p ∧ d = .tup xs ∧ F p = some (.tup vs) ∧ RepL G F vs xs := by
  cases r with
  | tup h t => cases e; exact ⟨_, _, rfl, rfl, h, t⟩
  | mref a' => exact (mref_view (M := M) (a := a') (P := fun z => z = .tup xs) e (fun o => by cases o <;> intro z <;> cases z) (fun z => by cases z)).elim
  | _ => cases e
theorem it_list {pins : List (Addr × Obj)} {σ : L2.St} {H : Hp} {s : Shared} {R : It → Hp → Prop} {c : Addr} {xs : List V} (I : Inv X pins σ H s) (hq : SqL X.K H c xs) (q : R (Itl X.K c) H) :
    wpAny (model X.prog X.w) X.A (pyIter (.ref c)) (PIE X pins σ tg R) X.xe s := by
  obtain ⟨its, rv, p, hz⟩ := I.list hq
  exact wpAny_pyIter_list p.isList (pi_one (tk := s.toks) I _ (turn_list c _) ⟨_, Heap.get?_push_size _ rfl, rfl, rfl⟩ q)
theorem it_tup {pins : List (Addr × Obj)} {σ : L2.St} {H : Hp} {s : Shared} {R : It → Hp → Prop} {c : Addr} {xs : List V} (I : Inv X pins σ H s) (hq : SqT X.K H c xs) (q : R (Itt X.K c) H) :
    wpAny (model X.prog X.w) X.A (pyIter (.ref c)) (PIE X pins σ tg R) X.xe s := by
  obtain ⟨its, rv, p, hz⟩ := I.tuple hq
  exact wpAny_pyIter_tuple (show s.heap.IsTuple c its.toArray from p) (pi_one (tk := s.toks) I _ (turn_tuple c _) ⟨_, Heap.get?_push_size _ rfl, rfl, rfl⟩ q)
theorem it_str {pins : List (Addr × Obj)} {σ : L2.St} {H : Hp} {s : Shared} {R : It → Hp → Prop} {z : Str} {t : Tok} (I : Inv X pins σ H s) (q : R (Its z) H) :
    wpAny (model X.prog X.w) X.A (pyIter (.str z t)) (PIE X pins σ tg R) X.xe s := by
  cases ha : z.cps.all (· < 128)
  · exact wpAny_pyIter_wide ha (pi_one (tk := s.toks) I _ (turn_str _ z t "str_iterator" (.inr rfl)) ⟨_, Heap.get?_push_size _ rfl, rfl, rfl⟩ q)
  · exact wpAny_pyIter_ascii ha (pi_one (tk := s.toks) I _ (turn_str _ z t "str_ascii_iterator" (.inl rfl)) ⟨_, Heap.get?_push_size _ rfl, rfl, rfl⟩ q)
theorem it_keys {pins : List (Addr × Obj)} {σ : L2.St} {H : Hp} {s : Shared} {R : It → Hp → Prop} {d : Addr} {o : Obj} {kvs : List (Key × V)} (I : Inv X pins σ H s) (hd : H d = some (.frz o (.dK kvs))) (q : R (Itk d o kvs) H) :
    wpAny (model X.prog X.w) X.A (pyIter (.ref d)) (PIE X pins σ tg R) X.xe s := by
  obtain ⟨hs, hgd, hx, es, ep, vs, hdt, hsz, kv, hm⟩ := I.frzK hd
  refine iter_keys hs hgd hx hdt (pi_one (tk := s.toks) I _ (turn_keys _ hdt) ⟨_, Heap.get?_push_size _ rfl, rfl, ?_⟩ q)
  rw [hsz] <;> rfl
theorem it_keysT {pins : List (Addr × Obj)} {σ : L2.St} {H : Hp} {s : Shared} {R : It → Hp → Prop} {d : Addr} {o : Obj} {kvs : List (List Key × V)} (I : Inv X pins σ H s) (hd : H d = some (.frz o (.dT kvs))) (q : R (Itkt d o kvs) H) :
    wpAny (model X.prog X.w) X.A (pyIter (.ref d)) (PIE X pins σ tg R) X.xe s := by
  obtain ⟨hs, hgd, hx, es, ep, hdt, hsz, ent⟩ := I.frzT hd
  refine iter_keys hs hgd hx hdt (pi_one (tk := s.toks) I _ (turn_keysT _ hdt) ⟨_, Heap.get?_push_size _ rfl, rfl, ?_⟩ q)
  rw [hsz] <;> rfl
theorem i_of (ha : PE X a (rdE G E ta)) : PI X tg a (rdI G E fun ρ M Q Ex => ta ρ M (fun d M1 => itOf d M1 Q) Ex) := by
  refine ⟨fun pins s σ H R I ⟨ρ, F, M, Qd, Ed, S, q, pq, px⟩ => ?_⟩
  refine rd_use ha I S q px fun v s1 x dx H1 F1 M1 I1 S1 K1 u1 r1 rx q1 => ?_
  unfold itOf at q1
  split at q1
  case h_1 xs e =>
    obtain ⟨c, vs, rfl, h, t⟩ := vw_lst S1.sr r1 e
    cases rx
    exact it_list I1 (.inl h) (pq _ _ _ _ _ _ q1 S1.sr K1 u1 (itR_list r1 e))
  case h_2 xs e =>
    obtain ⟨c, vs, rfl, _, h, t⟩ := vw_tup' S1.sr r1 e
    cases rx
    exact it_tup I1 (.of (S1.sr.tup c vs h)) (pq _ _ _ _ _ _ q1 S1.sr K1 u1 (itR_tup h t))
  case h_3 kvs e =>
    obtain ⟨rfl, q1⟩ := q1
    cases r1 with
    | dicK h t =>
      cases rx
      obtain ⟨ob, hd⟩ := S1.sr.dics _ _ h rfl
      exact it_keys I1 hd (pq _ _ _ _ _ _ q1 S1.sr K1 u1 (itR_keys (S1.sr.mf h) hd t))
    | dicT h t _ =>
      cases rx
      obtain ⟨ob, hd⟩ := S1.sr.dics _ _ h rfl
      exact it_keysT I1 hd (pq _ _ _ _ _ _ q1 S1.sr K1 u1 (itR_keysT (S1.sr.mf h) hd t))
  case h_4 z e =>
    obtain ⟨_, rfl⟩ := vw_str r1 e
    obtain ⟨t, rfl⟩ := rx
    exact it_str I1 (pq _ _ _ _ _ _ q1 S1.sr K1 u1 itR_str)
  case h_5 => exact q1.elim
/-- lists of one, of two -/
def on1 (P : D → Sto → Prop) : Po (List D) := fun ds M => match ds with
  | [x] => P x M
  | _ => False
def on2 (P : D → D → Sto → Prop) : Po (List D) := fun ds M => match ds with
  | [x, y] => P x y M
  | _ => False
theorem on1_of {P : D → Sto → Prop} {F : Hp} {M : Sto} {vs : List V} {ds : List D} (t : RepL G F vs ds) (h : on1 P ds M) : ∃ v d, vs = [v] ∧ ds = [d] ∧ Rep G F v d ∧ P d M := by
  cases t with
  | nil => exact False.elim h
  | cons r t =>
    cases t with
    | nil => exact ⟨_, _, rfl, rfl, r, h⟩
    | cons _ _ => exact False.elim h
theorem on2_of {P : D → D → Sto → Prop} {F : Hp} {M : Sto} {vs : List V} {ds : List D} (t : RepL G F vs ds) (h : on2 P ds M) : ∃ v w d e, vs = [v, w] ∧ ds = [d, e] ∧ Rep G F v d ∧ Rep G F w e ∧ P d e M := by
  cases t with
  | nil => exact False.elim h
  | cons r t =>
    cases t with
    | nil => exact False.elim h
    | cons r' t =>
      cases t with
      | nil => exact ⟨_, _, _, _, rfl, rfl, r, r', h⟩
      | cons _ _ => exact False.elim h
theorem i_rng (hg : Gl X "range") (hm : X.mg "range" = none) (hs : notStar a = true) (ha : PE X a (rdE G E ta)) :
    PI X tg (.Call (.Name "range" p) [a] [] pos) (rdI G E fun ρ M Q Ex => ta ρ M (fun x M1 => ∃ i, x = .int i ∧ itRng 0 i M1 Q) Ex) := by
  have A1 := s_cons hs ha (s_nil (G := G) (E := E))
  refine ⟨fun pins s σ H R I ⟨ρ, F, M, Qd, Ed, S, q, pq, px⟩ => ?_⟩
  refine (pi_range1 hg hm A1 (by rw [starEach_eq hs]; rfl)).run pins s σ H R I ⟨ρ, F, M, on1 fun x M1 => ∃ i, x = .int i ∧ itRng 0 i M1 Qd, Ed, S, q, fun ds M1 vs H1 F1 hl q1 S1 K1 u1 r1 => ?_, px⟩
  obtain ⟨v, d, rfl, rfl, r, i, e, h1, h2, h3, h4, q2⟩ := on1_of r1 q1
  subst e
  refine ⟨i, by rw [rep_int r], h3, h4, ?_⟩
  have z := pq _ _ _ _ _ _ q2 S1 K1 u1 itR_range
  simpa using z
theorem i_rng2 (hg : Gl X "range") (hm : X.mg "range" = none) (hs : notStar a = true) (hs2 : notStar b = true) (ha : PE X a (rdE G E ta)) (hb : PE X b (rdE G E tb)) :
    PI X tg (.Call (.Name "range" p) [a, b] [] pos) (rdI G E fun ρ M Q Ex => ta ρ M (fun x M1 => tb ρ M1 (fun y M2 => ∃ i j, x = .int i ∧ y = .int j ∧ itRng i j M2 Q) Ex) Ex) := by
  have A1 := s_cons hs ha (s_cons hs2 hb (s_nil (G := G) (E := E)))
  refine ⟨fun pins s σ H R I ⟨ρ, F, M, Qd, Ed, S, q, pq, px⟩ => ?_⟩
  refine (pi_range2 hg hm A1 (by rw [starEach_eq hs, starEach_eq hs2]; rfl) (by rw [starEach_eq hs2]; rfl)).run pins s σ H R I ⟨ρ, F, M, on2 fun x y M2 => ∃ i j, x = .int i ∧ y = .int j ∧ itRng i j M2 Qd, Ed, S, q, fun ds M1 vs H1 F1 hl q1 S1 K1 u1 r1 => ?_, px⟩
  obtain ⟨v, w, d, d', rfl, rfl, r, r', i, j, e, e', h1, h2, h3, h4, q2⟩ := on2_of r1 q1
  subst e e'
  exact ⟨i, j, by rw [rep_int r, rep_int r'], ⟨h1, h2, h3, h4⟩, pq _ _ _ _ _ _ q2 S1 K1 u1 itR_range⟩
theorem i_itm {elts : List Expr} {kk : Nat} {tpos apos cpos : Pos} (hb : notSuper a = true) (hl : (apos.endLine == cpos.line) = true) (ha : PE X a (rdE G E ta)) :
    PI X (.Tuple elts kk tpos) (.Call (.Attribute a "items" apos) [] [] cpos) (rdI G E fun ρ M Q Ex => ta ρ M (fun d M1 => ∃ kvs, d = .dic kvs ∧ (∀ kv ∈ kvs, isTK kv.1 = false) ∧ Q (kvs.map fun kv => .tup [ofKey kv.1, kv.2]) anyS M1) Ex) := by
  refine ⟨fun pins s σ H R I ⟨ρ, F, M, Qd, Ed, S, q, pq, px⟩ => ?_⟩
  refine (pi_items ha (attrBase_eq hb) hl).run pins s σ H R I ⟨ρ, F, M, _, Ed, S, q, fun d M1 v H1 F1 ⟨kvs, e, hk, q1⟩ S1 K1 u1 r1 => ?_, px⟩
  subst e
  cases r1 with
  | dicK h t =>
    obtain ⟨ob, hd⟩ := S1.dics _ _ h rfl
    exact ⟨_, ob, _, rfl, hd, pq _ _ _ _ _ _ q1 S1 K1 u1 (itR_items (S1.mf h) hd t)⟩
  | dicT h t n =>
    cases t with
    | nil => exact absurd rfl n
    | cons r t => have := hk _ List.mem_cons_self; simp [isTK] at this
theorem i_vls {apos cpos : Pos} (hb : notSuper a = true) (hl : (apos.endLine == cpos.line) = true) (ha : PE X a (rdE G E ta)) :
    PI X tg (.Call (.Attribute a "values" apos) [] [] cpos) (rdI G E fun ρ M Q Ex => ta ρ M (fun d M1 => ∃ kvs, d = .dic kvs ∧ (∀ kv ∈ kvs, isTK kv.1 = false) ∧ Q (kvs.map fun kv => kv.2) anyS M1) Ex) := by
  refine ⟨fun pins s σ H R I ⟨ρ, F, M, Qd, Ed, S, q, pq, px⟩ => ?_⟩
  refine (pi_values ha (attrBase_eq hb) hl).run pins s σ H R I ⟨ρ, F, M, _, Ed, S, q, fun d M1 v H1 F1 ⟨kvs, e, hk, q1⟩ S1 K1 u1 r1 => ?_, px⟩
  subst e
  cases r1 with
  | dicK h t =>
    obtain ⟨ob, hd⟩ := S1.dics _ _ h rfl
    exact ⟨_, ob, _, rfl, hd, pq _ _ _ _ _ _ q1 S1 K1 u1 (itR_vals (S1.mf h) hd t)⟩
  | dicT h t n =>
    cases t with
    | nil => exact absurd rfl n
    | cons r t => have := hk _ List.mem_cons_self; simp [isTK] at this
theorem i_enm {elts : List Expr} {kk : Nat} {tpos : Pos} (hg : Gl X "enumerate") (hm : X.mg "enumerate" = none) (hs : notStar a = true) (ha : PE X a (rdE G E ta)) :
    PI X (.Tuple elts kk tpos) (.Call (.Name "enumerate" p) [a] [] pos) (rdI G E fun ρ M Q Ex => ta ρ M (fun d M1 => ∃ xs, seqOf (vw M1 d) = some xs ∧ Q (enumD 0 xs) (sameS d M1) M1) Ex) := by
  have A1 := s_cons hs ha (s_nil (G := G) (E := E))
  refine ⟨fun pins s σ H R I ⟨ρ, F, M, Qd, Ed, S, q, pq, px⟩ => ?_⟩
  refine Call_ (ld_blt I hg hm boot_enumerate (PyProof.Rows.callWith_type1 (ra_use (Qd := on1 fun d M1 => ∃ xs, seqOf (vw M1 d) = some xs ∧ Qd (enumD 0 xs) (sameS d M1) M1) A1 I S q px fun us s1 vs ds H1 F1 M1 I1 S1 K1 u1 r1 rv hl q1 => ?_) (starEach_eq hs) rfl))
  obtain ⟨v, d, rfl, rfl, r, xs, e, q2⟩ := on1_of r1 q1
  obtain ⟨u, rfl, ru⟩ := vals1 rv
  cases h : vw M1 d with
  | lst ys =>
    rw [h] at e
    cases e
    obtain ⟨c, vs, rfl, hc, t⟩ := vw_lst S1.sr r h
    cases ru
    obtain ⟨its, rv, p', hz⟩ := I1.list (show SqL X.K H1 c vs from .inl hc)
    refine call_enumerate_list p'.isList fun h' he hit hsz hk => wpAny_pyIter_enum he ?_
    have I2 : Inv X pins σ H1 { s1 with heap := h' } := I1.kept (t' := s1.toks) hk
    refine ⟨s1.heap.objs.size + 1, [s1.heap.objs.size + 1, s1.heap.objs.size], _, _, H1, rfl, I2, turn_enum c (s1.heap.objs.size + 1) s1.heap.objs.size, ⟨⟨.none, he⟩, hit, Nat.succ_ne_self _⟩, fun b hb => ?_, pq _ _ _ _ _ _ q2 S1.sr K1 u1 (itR_enum r h)⟩
    have hle : s1.heap.objs.size ≤ b := by
      have e' : b = s1.heap.objs.size + 1 ∨ b = s1.heap.objs.size := by simpa using hb
      rcases e' with z | z <;> rw [z]
      · exact Nat.le_succ _
      · exact Nat.le_refl _
    exact I1.fpOk hle (I1.hok.fresh hle)
  | tup ys =>
    rw [h] at e
    cases e
    obtain ⟨c, vs, rfl, _, hF, t⟩ := vw_tup' S1.sr r h
    cases ru
    obtain ⟨its, rv, p', hz⟩ := I1.tuple (.of (K := X.K) (S1.sr.tup c vs hF))
    obtain ⟨o, ho, _⟩ := id p'
    have hc := Heap.lt_size ho
    refine PySem.dsCallEnumT (show s1.heap.IsTuple c its.toArray from p') ho fun h' he hit hk => wpAny_pyIter_enum he ?_
    have I2 : Inv X pins σ H1 { s1 with heap := h' } := I1.kept (t' := s1.toks) hk
    refine ⟨s1.heap.objs.size + 1, [s1.heap.objs.size + 1, s1.heap.objs.size], _, _, H1, rfl, I2, turn_enumT c (s1.heap.objs.size + 1) s1.heap.objs.size (Nat.succ_ne_self _) (Nat.ne_of_gt (Nat.lt_succ_of_lt hc)) (Nat.ne_of_lt hc), ⟨⟨.none, he⟩, hit⟩, fun b hb => ?_, pq _ _ _ _ _ _ q2 S1.sr K1 u1 (itR_enumT hF t)⟩
    have hle : s1.heap.objs.size ≤ b := by
      have e' : b = s1.heap.objs.size + 1 ∨ b = s1.heap.objs.size := by simpa using hb
      rcases e' with z | z <;> rw [z]
      · exact Nat.le_succ _
      · exact Nat.le_refl _
    exact I1.fpOk hle (I1.hok.fresh hle)
  | _ => rw [h] at e; cases e
theorem i_zip {elts : List Expr} {kk : Nat} {tpos : Pos} (hg : Gl X "zip") (hm : X.mg "zip" = none) (hs : notStar a = true) (hs2 : notStar b = true) (ha : PE X a (rdE G E ta)) (hb : PE X b (rdE G E tb)) :
    PI X (.Tuple elts kk tpos) (.Call (.Name "zip" p) [a, b] [] pos) (rdI G E fun ρ M Q Ex => ta ρ M (fun x M1 => tb ρ M1 (fun y M2 => ∃ xs ys, ((vw M2 x = .lst xs ∧ vw M2 y = .lst ys) ∨ (x = .tup xs ∧ y = .tup ys)) ∧ Q (zipD xs ys) (fun M3 => sameS x M2 M3 ∧ sameS y M2 M3) M2) Ex) Ex) := by
  have A1 := s_cons hs ha (s_cons hs2 hb (s_nil (G := G) (E := E)))
  have hpl : allPlain [b] = true := by simp only [allPlain, hs2]; rfl
  refine ⟨fun pins s σ H R I ⟨ρ, F, M, Qd, Ed, S, q, pq, px⟩ => ?_⟩
  refine (RZ.pi_zipA hg hm A1 (starEach_eq hs) (backTo_plain hpl)).run pins s σ H R I ⟨ρ, F, M, on2 fun x y M2 => ∃ xs ys, ((vw M2 x = .lst xs ∧ vw M2 y = .lst ys) ∨ (x = .tup xs ∧ y = .tup ys)) ∧ Qd (zipD xs ys) (fun M3 => sameS x M2 M3 ∧ sameS y M2 M3) M2, Ed, S, q, fun ds M1 vs H1 F1 hl q1 S1 K1 u1 r1 => ?_, px⟩
  obtain ⟨v, w, d, d', rfl, rfl, r, r', xs, ys, hxy, q2⟩ := on2_of r1 q1
  rcases hxy with ⟨h, h'⟩ | ⟨rfl, rfl⟩
  · obtain ⟨c, vs, rfl, hc, t⟩ := vw_lst S1 r h
    obtain ⟨c', vs', rfl, hc', t'⟩ := vw_lst S1 r' h'
    exact ⟨c, c', vs, vs', rfl, .inl ⟨.inl hc, .inl hc', pq _ _ _ _ _ _ q2 S1 K1 u1 (itR_zip r h r' h')⟩⟩
  · cases r with
    | tup h t =>
      cases r' with
      | tup h' t' => exact ⟨_, _, _, _, rfl, .inr ⟨.of (S1.tup _ _ h), .of (S1.tup _ _ h'), pq _ _ _ _ _ _ q2 S1 K1 u1 (itR_zipT h t h' t')⟩⟩
end
end DS
end
section
set_option Elab.async false
set_option linter.all false
set_option maxRecDepth 100000
/-! DsI: targets, comprehensions. -/
namespace DS
open PySem PySem.Spec PyProof.Rows L2 LamX

/-! ### wiping -/
theorem wipe_get (σ : L2.St) : ∀ (vs : List Nat) (j : Nat), (L2.wipe σ vs)[j]? = if j ∈ vs ∧ j < σ.length then some none else σ[j]?
  | [], j => by simp [L2.wipe]
  | v :: vs, j => by
    unfold L2.wipe
    by_cases hj : v = j
    · subst hj
      by_cases hl : v < σ.length
      · rw [List.getElem?_set_self (by rw [L2.wipe_length]; exact hl), if_pos ⟨List.mem_cons_self, hl⟩]
      · rw [List.getElem?_eq_none (by rw [List.length_set, L2.wipe_length]; omega), if_neg (fun z => hl z.2), List.getElem?_eq_none (by omega)]
    · rw [List.getElem?_set_ne hj, wipe_get σ vs j]
      have : (j ∈ v :: vs) ↔ j ∈ vs := ⟨fun z => (List.mem_cons.mp z).resolve_left fun e => hj e.symm, List.mem_cons_of_mem _⟩
      by_cases hm : j ∈ vs ∧ j < σ.length
      · rw [if_pos hm, if_pos ⟨this.mpr hm.1, hm.2⟩]
      · rw [if_neg hm, if_neg fun z => hm ⟨this.mp z.1, z.2⟩]
theorem wipe_set {σ : L2.St} {i : Nat} {v : Option V} {vs : List Nat} (h : i ∈ vs) : L2.wipe (σ.set i v) vs = L2.wipe σ vs := by
  apply List.ext_getElem?
  intro j
  rw [wipe_get, wipe_get, List.length_set]
  by_cases hj : j ∈ vs ∧ j < σ.length
  · rw [if_pos hj, if_pos hj]
  · rw [if_neg hj, if_neg hj]
    by_cases e : i = j
    · subst e
      have : ¬ i < σ.length := fun z => hj ⟨h, z⟩
      rw [List.getElem?_eq_none (by rw [List.length_set]; omega), List.getElem?_eq_none (by omega)]
    · rw [List.getElem?_set_ne e]
/-- several slots -/
def setsS (is : List Nat) (vs : List V) (σ : L2.St) : L2.St := (is.zip vs).foldl (fun σ (p : Nat × V) => σ.set p.1 (some p.2)) σ
def setsD (is : List Nat) (ds : List D) (ρ : DEnv) : DEnv := (is.zip ds).foldl (fun ρ (p : Nat × D) => ρ.set p.1 (some (.d p.2))) ρ
theorem wipe_sets {vs : List Nat} : ∀ {is : List Nat} {xs : List V} {σ : L2.St}, (∀ j ∈ is, j ∈ vs) → L2.wipe (setsS is xs σ) vs = L2.wipe σ vs
  | [], _, _, _ => rfl
  | _ :: _, [], _, _ => rfl
  | i :: is, x :: xs, σ, h => by
    show L2.wipe (setsS is xs (σ.set i (some x))) vs = _
    rw [wipe_sets fun j hj => h j (List.mem_cons_of_mem _ hj), wipe_set (h i List.mem_cons_self)]
theorem setsS_len : ∀ (is : List Nat) (xs : List V) (σ : L2.St), (setsS is xs σ).length = σ.length
  | [], _, _ => rfl
  | _ :: _, [], _ => rfl
  | i :: is, x :: xs, σ => by
    show (setsS is xs (σ.set i (some x))).length = _
    rw [setsS_len, List.length_set]
theorem StR.set {G : GC} {σ : L2.St} {H F : Hp} {ρ : DEnv} {M : Sto} (S : StR G σ H F ρ M) {i : Nat} {v : V} {d : D} (r : Rep G F v d) : StR G (σ.set i (some v)) H F (ρ.set i (some (.d d))) M := ⟨S.sr, S.vr.set S.len (.d r), by rw [List.length_set, List.length_set]; exact S.len⟩
theorem StR.sets {G : GC} {H F : Hp} {M : Sto} : ∀ {is : List Nat} {vs : List V} {ds : List D} {σ : L2.St} {ρ : DEnv}, StR G σ H F ρ M → RepL G F vs ds → StR G (setsS is vs σ) H F (setsD is ds ρ) M
  | [], _, _, _, _, S, _ => S
  | _ :: _, _, _, _, _, S, .nil => S
  | i :: is, _, _, σ, ρ, S, .cons r t => StR.sets (is := is) (S.set r) t
theorem StR.wipe {G : GC} {H F : Hp} {M : Sto} {σ : L2.St} {ρ : DEnv} (S : StR G σ H F ρ M) (vs : List Nat) : StR G (L2.wipe σ vs) H F (wipeD ρ vs) M := let ⟨a, b⟩ := S.vr.wipe S.len vs; ⟨S.sr, a, b⟩
/-! ### targets -/
structure NmOk (X : Cx) (x : Str) (i : Nat) : Prop where
  ix : X.N[i]? = some x
  loc : Loc X.env.scope x
  fn : X.fn x = true ∨ X.env.scope.names.lookup x = some .local
inductive NmsOk (X : Cx) : List Expr → List Nat → Prop
  | nil : NmsOk X [] []
  | cons {x : Str} {p : Pos} {i : Nat} {es : List Expr} {is : List Nat} : NmOk X x i → NmsOk X es is → NmsOk X (.Name x p :: es) (i :: is)
inductive TgOk (X : Cx) : Expr → Tg → Prop
  | nm {x : Str} {p : Pos} {i : Nat} : NmOk X x i → TgOk X (.Name x p) (.nm i)
  | tp {es : List Expr} {k : Nat} {p : Pos} {is : List Nat} : NmsOk X es is → TgOk X (.Tuple es k p) (.tp is)
def gB (G : GC) (tg : Tg) : TG := fun v σ H Q => ∃ d ρ ρ' F M, StR G σ H F ρ M ∧ Rep G F v d ∧ bindTg tg d ρ = some ρ' ∧ ∀ σ', StR G σ' H F ρ' M → (∀ vs, (∀ j ∈ tg.slots, j ∈ vs) → L2.wipe σ' vs = L2.wipe σ vs) → Q σ' H
def gSets (is : List Nat) : TGs := fun vs σ H Q => vs.length = is.length ∧ Q (setsS is vs σ) H
section
variable {G : GC} {X : Cx} {E : XK}
theorem pgs_names (hN : X.N.Nodup) {es : List Expr} {is : List Nat} (h : NmsOk X es is) : PGs X es (gSets is) ∧ (assignEach es X.env).length = is.length ∧ (assignEach es X.env).findIdx? (·.1) = none := by
  induction h with
  | nil => exact ⟨⟨fun pins s σ H vs us Q I r q => pgs_nil.run pins s σ H vs us Q I r ⟨List.length_eq_zero_iff.mp q.1, by
      have e := List.length_eq_zero_iff.mp q.1
      subst e
      exact q.2⟩⟩, rfl, rfl⟩
  | @cons x p i es is h t ih =>
    obtain ⟨g, hl, hf⟩ := ih
    refine ⟨⟨fun pins s σ H vs us Q I r q => (pgs_cons (pg_name hN h.ix h.loc h.fn) g rfl).run pins s σ H vs us Q I r ?_⟩, ?_, ?_⟩
    · obtain ⟨q1, q2⟩ := q
      cases vs with
      | nil => cases q1
      | cons v vs => exact ⟨v, vs, rfl, Nat.succ.inj q1, q2⟩
    · show (assignEach es X.env).length + 1 = _
      rw [hl]; rfl
    · show (List.findIdx? (·.1) ((false, assign (.Name x p) X.env) :: assignEach es X.env)) = none
      rw [List.findIdx?_cons]
      simp [hf]
theorem s_tg (hc : X.calm = true) (hN : X.N.Nodup) {e : Expr} {tg : Tg} (h : TgOk X e tg) : PG X e (gB G tg) := by
  cases h with
  | nm h =>
    refine ⟨fun pins s σ H v u Q I r ⟨d, ρ, ρ', F, M, S, rv, hb, q⟩ => (pg_name hN h.ix h.loc h.fn).run pins s σ H v u Q I r ?_⟩
    cases hb
    exact q _ (S.set rv) fun vs hv => wipe_set (hv _ List.mem_cons_self)
  | @tp es k p is h =>
    obtain ⟨g, hl, hf⟩ := pgs_names hN h
    refine ⟨fun pins s σ H v u Q I r ⟨d, ρ, ρ', F, M, S, rv, hb, q⟩ => ?_⟩
    have fin : ∀ {vs : List V} {xs : List D}, seqOf d = some xs → RepL G F vs xs → vs.length = is.length ∧ Q (setsS is vs σ) H := fun {vs xs} e t => by
      have hb : ((seqOf d).bind fun xs => if xs.length = is.length then some (setsD is xs ρ) else none) = some ρ' := hb
      rw [e] at hb
      simp only [Option.bind_some] at hb
      split at hb
      · rename_i hlen
        cases hb
        exact ⟨by rw [t.length]; exact hlen, q _ (S.sets t) fun vs hv => wipe_sets hv⟩
      · cases hb
    cases rv with
    | tup hF t =>
      refine (pg_tup hc g hl hf).run pins s σ H _ u Q I r ⟨_, _, rfl, .of (S.sr.tup _ _ hF), (fin rfl t).1, fin rfl t⟩
    | lst hF t =>
      refine (pg_unl hc g hl hf).run pins s σ H _ u Q I r ⟨_, _, rfl, .inl (S.sr.rd hF), (fin rfl t).1, fin rfl t⟩
    | _ => cases (show (none : Option DEnv) = some ρ' from hb)
/-! ### list comprehensions -/
def E0 : XK := fun _ _ _ => False
theorem px0 {H F : Hp} {M : Sto} {E : XK} : PX G H F M noEx E := fun _ _ _ _ _ _ h => h.elim
theorem drop_get {α : Type} {xs : List α} {i : Nat} (h : i < xs.length) : ∃ x, xs[i]? = some x ∧ xs.drop i = x :: xs.drop (i + 1) := ⟨xs[i], List.getElem?_eq_getElem h, List.drop_eq_getElem_cons h⟩
theorem KFrz.refl (H : Hp) (M : Sto) : KFrz H M H := fun _ _ _ e _ => e
theorem KFrz.keep {H5 H6 F6 H7 F7 : Hp} {M5 M6 M7 : Sto} (k : KFrz H5 M5 H6) (m : ∀ a, M5 a = none → ∀ ob o, H6 a = some (.frz ob o) → M6 a = none) (k2 : Keep H6 F6 M6 H7 F7 M7) : KFrz H5 M5 H7 := fun a ob o e z => by
  have h := k a ob o e z
  exact (k2 a _ h (m a z ob o h) fun _ z => by cases z).1
theorem SR.nofrz {G : GC} {H F : Hp} {M : Sto} (S : SR G H F M) {a : Addr} {ob : Obj} {o : HO} (h : H a = some (.frz ob o)) : M a = none := by
  cases e : M a with
  | none => rfl
  | some m =>
    obtain ⟨_, q⟩ := S.mo a m e
    cases m with
    | lst _ => obtain ⟨_, q, _⟩ := q; rw [h] at q; cases q
    | dic _ => rcases q with ⟨_, q, _⟩ | ⟨_, q, _⟩ <;> rw [h] at q <;> cases q
    | ins _ _ => obtain ⟨_, _, _, q, _⟩ := q; rw [h] at q; cases q
theorem KFrz.off {H5 H6 : Hp} {M5 : Sto} {D : Addr} {o : HO} (k : KFrz H5 M5 H6) (h : ∀ ob u, H6 D ≠ some (.frz ob u)) : KFrz H5 M5 (upd H6 D o) := fun a ob u e z => by
  have q := k a ob u e z
  have ha : a ≠ D := fun x => by subst x; exact h _ _ q
  rw [upd_ne ha]; exact q
abbrev CompE (X : Cx) (scope : Scope) (P : Cx → Prop) : Prop := ∀ (s : Shared) (H : Hp) (C : Addr) (cl : List (Str × Addr)) (fp : List Addr), P (X.blk s H scope (compEnvC scope cl C X.env) fp)
section
variable {H H1 F F1 : Hp} {M M1 : Sto} {D : Addr} {o u : HO}
theorem notTab {T : List (Addr × Str)} {Hh : Hp} (t : Tabs T Hh) {a : Addr} {xs : HO} (h : Hh a = some xs) (hx : (∃ l, xs = .lst l) ∨ (∃ l, xs = .dK l) ∨ (∃ l, xs = .dT l)) (o : HO) : Tabs T (upd Hh a o) := fun p hp => by
  obtain ⟨ps, e1, e2, e3⟩ := t p hp
  have hpa : p.1 ≠ a := fun z => by
    rw [z, h] at e1
    rcases hx with ⟨l, rfl⟩ | ⟨l, rfl⟩ | ⟨l, rfl⟩ <;> cases e1
  refine ⟨ps, by rw [upd_ne hpa]; exact e1, e2, fun pos cv hc => ?_⟩
  obtain ⟨c, e4, e5⟩ := e3 pos cv hc
  refine ⟨c, e4, ?_⟩
  have hca : c ≠ a := fun z => by
    rw [z, h] at e5
    rcases hx with ⟨l, rfl⟩ | ⟨l, rfl⟩ | ⟨l, rfl⟩ <;> cases e5
  rw [upd_ne hca]; exact e5
/-- a thing that nobody knows is changed -/
theorem SR.hchg (S : SR G H F M) (h : H D = some u) (hx : (∃ l, u = .lst l) ∨ (∃ l, u = .dK l) ∨ (∃ l, u = .dT l)) (hF : F D = none) (hM : M D = none) : SR G (upd H D o) F M := by
  have nF : ∀ a w, F a = some w → a ≠ D := fun a w e z => by subst z; rw [hF] at e; cases e
  refine ⟨fun a w e => ?_, fun a m e => ?_, notTab S.tabs h hx o, S.ntb, fun a w e hh => ?_, fun a w e hh => ?_⟩
  · rw [upd_ne (nF a w e)]; exact S.sub a w e
  · have ha : a ≠ D := fun z => by subst z; rw [hM] at e; cases e
    obtain ⟨h1, h2⟩ := S.mo a m e
    exact ⟨h1, h2.mono (upd_ne ha) (Sub.refl F)⟩
  · rw [upd_ne (nF a w e)]; exact S.hard a w e hh
  · rw [upd_ne (nF a w e)]; exact S.dics a w e hh
/-- .. is known from now on -/
theorem SR.claim (S : SR G H F M) (h : H D = some u) (hu : (u = o ∧ isDic o = false) ∨ (isHard o = false ∧ ∃ ob, u = .frz ob o)) (hz : ∀ ps, o ≠ .tbl ps) (hF : F D = none) (hM : M D = none) : SR G H (upd F D o) M := by
  have hs : Sub F (upd F D o) := Sub.upd hF
  refine ⟨fun a w e => ?_, fun a m e => ?_, S.tabs, fun a ps e => ?_, fun a w e hh => ?_, fun a w e hh => ?_⟩
  · by_cases ha : a = D
    · subst ha; rw [upd_same] at e; cases e
      rcases hu with ⟨rfl, _⟩ | ⟨_, ob, rfl⟩
      · exact .inl h
      · exact .inr ⟨ob, h⟩
    · rw [upd_ne ha] at e; exact S.sub a w e
  · have ha : a ≠ D := fun z => by subst z; rw [hM] at e; cases e
    obtain ⟨h1, h2⟩ := S.mo a m e
    exact ⟨by rw [upd_ne ha]; exact h1, h2.mono rfl hs⟩
  · by_cases ha : a = D
    · subst ha; rw [upd_same] at e; exact hz ps (Option.some.inj e)
    · rw [upd_ne ha] at e; exact S.ntb a ps e
  · by_cases ha : a = D
    · subst ha; rw [upd_same] at e; cases e
      rcases hu with ⟨rfl, _⟩ | ⟨hn, _⟩
      · exact h
      · rw [hn] at hh; cases hh
    · rw [upd_ne ha] at e; exact S.hard a w e hh
  · by_cases ha : a = D
    · subst ha; rw [upd_same] at e; cases e
      rcases hu with ⟨_, hn⟩ | ⟨_, ob, rfl⟩
      · rw [hn] at hh; cases hh
      · exact ⟨ob, h⟩
    · rw [upd_ne ha] at e; exact S.dics a w e hh
theorem SR.claimM (S : SR G H F M) {m : MO} (hm : MRep G H F D m) (hF : F D = none) : SR G H F (M.put D m) := by
  refine ⟨S.sub, fun a m' e => ?_, S.tabs, S.ntb, S.hard, S.dics⟩
  unfold Sto.put at e
  by_cases ha : a = D
  · subst ha; rw [if_pos rfl] at e; cases e; exact ⟨hF, hm⟩
  · rw [if_neg ha] at e; exact S.mo a m' e
theorem Keep.offH (k : Keep H1 F1 M1 H F M) (h : H1 D = none) : Keep H1 F1 M1 (upd H D o) F M := fun a w e m t => by
  have ha := ne_of_none e h
  obtain ⟨x, y, z⟩ := k a w e m t
  exact ⟨by rw [upd_ne ha]; exact x, y, z⟩
theorem Keep.offF (k : Keep H1 F1 M1 H F M) (h : H1 D = none) : Keep H1 F1 M1 H (upd F D o) M := fun a w e m t => by
  have ha := ne_of_none e h
  obtain ⟨x, y, z⟩ := k a w e m t
  exact ⟨x, y, fun q n => by rw [upd_ne ha]; exact z q n⟩
theorem Keep.offM {mo : MO} (k : Keep H1 F1 M1 H F M) (h : H1 D = none) : Keep H1 F1 M1 H F (M.put D mo) := fun a w e m t => by
  have ha := ne_of_none e h
  obtain ⟨x, y, z⟩ := k a w e m t
  exact ⟨x, by unfold Sto.put; rw [if_neg ha]; exact y, z⟩
theorem PQ.madeAt {Qd : Po DS.D} {Q : VK} (pq : PQ G H1 F1 M1 Qd Q) (K : Keep H1 F1 M1 H F M) (us : Sub F1 F) (S : SR G H F M) (hD1 : H1 D = none) {vs : List V} {ds : List DS.D} {mu : Bool} (hD : H D = some (.lst vs)) (hF : F D = none) (hM : M D = none) (r : RepL G F vs ds)
    (q : made mu (.lst ds) M Qd) : Q (.ref D) H := by
  unfold made at q
  cases mu with
  | false =>
    have u2 : Sub F (upd F D (.lst vs)) := Sub.upd hF
    exact pq _ M _ H _ q (S.claim hD (.inl ⟨rfl, rfl⟩) (fun _ z => by cases z) hF hM) (K.offF hD1) (us.trans u2) (.lst upd_same (r.mono u2))
  | true =>
    have q : ∀ p, M p = none → Qd (.mref p) (M.put p (.lst ds)) := q
    exact pq _ _ _ H F (q D hM) (S.claimM (m := .lst ds) ⟨vs, hD, r⟩ hF) (K.offM hD1) us (.mref D)
theorem PQ.madeKAt {Qd : Po DS.D} {Q : VK} (pq : PQ G H1 F1 M1 Qd Q) (K : Keep H1 F1 M1 H F M) (us : Sub F1 F) (S : SR G H F M) (hD1 : H1 D = none) {vs : List (Key × V)} {ds : List (DK × DS.D)} {mu : Bool} (hD : H D = some (.dK vs)) (hF : F D = none) (hM : M D = none) (r : RepK G F vs ds)
    (q : made mu (.dic ds) M Qd) : lockQ mu Q (.ref D) H := by
  unfold made at q
  cases mu with
  | false =>
    refine ⟨D, _, rfl, hD, trivial, fun od => ?_⟩
    have u2 : Sub F (upd F D (.dK vs)) := Sub.upd hF
    have S1 : SR G (upd H D (.frz od (.dK vs))) F M := S.hchg hD (.inr (.inl ⟨_, rfl⟩)) hF hM
    exact pq _ M _ _ _ q (S1.claim upd_same (.inr ⟨rfl, od, rfl⟩) (fun _ z => by cases z) hF hM) ((K.offH hD1).offF hD1) (us.trans u2) (.dicK upd_same (r.mono u2))
  | true =>
    have q : ∀ p, M p = none → Qd (.mref p) (M.put p (.dic ds)) := q
    exact pq _ _ _ H F (q D hM) (S.claimM (m := .dic ds) (.inl ⟨vs, hD, r⟩) hF) (K.offM hD1) us (.mref D)
end
abbrev lcW (mu : Bool) (tg : Tg) (wi : WI) (tt : WT) (te : WE) : WE := fun ρ M Q Ex => wi ρ M (fun xs g M1 => xs.length ≤ lim ∧ mapM' g (fun x M2 K => ∃ ρ', bindTg tg x (wipeD ρ tg.slots) = some ρ' ∧
      tt ρ' M2 (fun b M3 => if b = true then te ρ' M3 (fun d M4 => K (some d) M4) noEx else K none M3) noEx) xs M1 fun ys M2 => made mu (.lst ys) M2 Q) Ex
theorem lc_imp {own : List (Str × Nat)} {tg : Tg} {wi : WI} {tt : WT} {te : WE} {mu : Bool} (ho : own.map (·.2) = tg.slots) : ∀ σ H Q, rdE G E (lcW mu tg wi tt te) σ H Q → tLc (rdI G E wi) (gB G tg) (rdT G E0 tt) (rdE G E0 te) (own.map (·.2)) σ H Q := by
  intro σ H Q ⟨ρ, F, M, Qd, Ed, S, q, pq, px⟩
  refine ⟨ρ, F, M, _, Ed, S, q, fun xs g M1 J H1 F1 ⟨hlim, q1⟩ S1 K1 u1 it D hD => ?_, px⟩
  refine ⟨fun i m H' => m = xs.length - i ∧ i ≤ xs.length ∧ ∃ F' M' acc ad, SR G H' F' M' ∧ Keep H1 F1 M1 H' F' M' ∧ Sub F1 F' ∧ H' D = some (.lst acc) ∧ F' D = none ∧ M' D = none ∧ acc.length ≤ i ∧ RepL G F' acc ad ∧
    mapM' g (fun x M2 K => ∃ ρ', bindTg tg x (wipeD ρ tg.slots) = some ρ' ∧ tt ρ' M2 (fun b M3 => if b = true then te ρ' M3 (fun d M4 => K (some d) M4) noEx else K none M3) noEx) (xs.drop i) M' fun ys M2 => made mu (.lst (ad ++ ys)) M2 Qd,
    ⟨xs.length, by simp, Nat.zero_le _, F1, M1, [], [], S1.hid hD, Keep.hid S1 hD, Sub.refl F1, upd_same, S1.fnone hD, S1.mnone hD, Nat.zero_le _, .nil, by simpa using q1⟩, ?_⟩
  rintro i m H2 ⟨rfl, hi2, F2, M2, acc, ad, S2, K2, u2, hD2, hF2, hM2, hl2, ra, q2⟩
  have pq2 := (pq.step K1 u1).step K2 u2
  by_cases hlt : i < xs.length
  · obtain ⟨x, hx, ed⟩ := drop_get hlt
    rw [ed] at q2
    obtain ⟨hg2, ρ', hb, q2⟩ := q2
    refine .inr ⟨it.go i H2 F2 M2 hlt S2 u2 K2.frz hg2, _, fun H' p' => ⟨xs.length - (i + 1), by omega, p'⟩, fun v H3 y => ?_⟩
    obtain ⟨F3, S3, K3, u3, rv⟩ := it.yld i x v H2 H3 F2 M2 hx S2 u2 K2.frz hg2 y
    have St3 : StR G (L2.wipe σ (own.map (·.2))) H3 F3 (wipeD ρ tg.slots) M2 := by
      rw [ho]
      exact (S.step S3 ((u1.trans u2).trans u3)).wipe tg.slots
    refine ⟨x, _, ρ', F3, M2, St3, rv, hb, fun σ' S' hw => ⟨?_, ?_⟩⟩
    · rw [hw _ (by rw [ho]; exact fun _ z => z)]
      apply List.ext_getElem?
      intro j
      rw [wipe_get, L2.wipe_length, wipe_get]
      split
      · rfl
      · rfl
    · refine ⟨ρ', F3, M2, _, noEx, S', q2, fun b M4 H4 F4 q4 S4 K4 u4 => ?_, px0⟩
      have K24 := K3.trans K4
      obtain ⟨hD4, hM4, hF4⟩ := K24 D _ hD2 hM2 fun _ z => by cases z
      have hF4 := hF4 hF2 rfl
      cases b with
      | false =>
        simp only [Bool.false_eq_true, if_false] at q4 ⊢
        exact ⟨trivial, hlt, F4, M4, acc, ad, S4, K2.trans K24, u2.trans (u3.trans u4), hD4, hF4, hM4, Nat.le_succ_of_le hl2, ra.mono (u3.trans u4), by simpa using q4⟩
      | true =>
        simp only [if_true] at q4 ⊢
        refine ⟨ρ', F4, M4, _, noEx, S'.step S4 u4, q4, fun d M5 w H5 F5 q5 S5 K5 u5 r5 => ?_, px0⟩
        obtain ⟨hD5, hM5, hF5⟩ := K5 D _ hD4 hM4 fun _ z => by cases z
        have hF5 := hF5 hF4 rfl
        have n1 : lim < sizeLine := by decide
        refine ⟨acc, hD5, Nat.lt_trans (Nat.lt_of_le_of_lt hl2 hlt) (Nat.lt_of_le_of_lt hlim n1), trivial, hlt, F5, M5, acc ++ [w], ad ++ [d], S5.hchg hD5 (.inl ⟨_, rfl⟩) hF5 hM5, (K2.trans (K24.trans K5)).offH hD, u2.trans (u3.trans (u4.trans u5)), upd_same, hF5, hM5, by simp; omega, (ra.mono (u3.trans (u4.trans u5))).append (.cons r5 .nil), ?_⟩
        simpa using q5
  · have e : i = xs.length := by omega
    subst e
    rw [List.drop_length] at q2
    obtain ⟨hg2, q2⟩ := q2
    exact .inl ⟨it.stop H2 F2 M2 S2 u2 K2.frz hg2, (pq.step K1 u1).madeAt K2 u2 S2 hD hD2 hF2 hM2 ra (by simpa using q2)⟩
theorem s_lc {elt tgE iter : Expr} {ifs : List Expr} {scope : Scope} {own : List (Str × Nat)} {pos : Pos} {tg : Tg} {wi : WI} {tt : WT} {te : WE} {mu : Bool}
    (hc : X.calm = true) (hN : X.N.Nodup) (hi : PI X tgE iter (rdI G E wi)) (ok : BlkOk X.N X.env.scope scope own) (ho : own.map (·.2) = tg.slots)
    (hg : CompE X scope fun Y => PG Y tgE (gB G tg)) (ht : CompE X scope fun Y => PTs Y ifs (rdT G E0 tt)) (he : CompE X scope fun Y => PE Y elt (rdE G E0 te)) (hs : ∀ x, foldedSetIterable iter X.env x = pure x) :
    PE X (.ListComp elt [⟨tgE, iter, ifs, 0⟩] scope pos) (rdE G E (lcW mu tg wi tt te)) := PE_imp (pe_lc hc hN hi ok hg ht he hs) (lc_imp ho)
end
end DS
end
section
set_option Elab.async false
set_option linter.all false
set_option maxRecDepth 100000
/-! DsJ: double comprehensions, dict comprehensions. -/
namespace DS
open PySem PySem.Spec PyProof.Rows L2 LamX
section
variable {G : GC} {X : Cx} {E : XK}
abbrev lc2W (mu : Bool) (tg : Tg) (wi : WI) (tt : WT) (tg1 : Tg) (wi1 : WI) (tt1 : WT) (te : WE) : WE := fun ρ M Q Ex => wi ρ M (fun xs g M1 => xs.length ≤ 4096 ∧ mapM'' g (fun x M2 K => ∃ ρ', bindTg tg x (wipeD ρ (tg.slots ++ tg1.slots)) = some ρ' ∧
      tt ρ' M2 (fun b M3 => if b = true then wi1 ρ' M3 (fun zs g2 M4 => zs.length ≤ 4096 ∧ mapM' g2 (fun z M5 K2 => ∃ ρ2, bindTg tg1 z (wipeD ρ' tg1.slots) = some ρ2 ∧
        tt1 ρ2 M5 (fun b M6 => if b = true then te ρ2 M6 (fun d M7 => K2 (some d) M7) noEx else K2 none M6) noEx) zs M4 K) noEx else K [] M3) noEx) xs M1 fun ys M2 => made mu (.lst ys) M2 Q) Ex
theorem lc2_imp {own : List (Str × Nat)} {tg tg1 : Tg} {wi wi1 : WI} {tt tt1 : WT} {te : WE} {mu : Bool} (ho : own.map (·.2) = tg.slots ++ tg1.slots) : ∀ σ H Q, rdE G E (lc2W mu tg wi tt tg1 wi1 tt1 te) σ H Q →
    tLc2 (rdI G E wi) (gB G tg) (rdT G E0 tt) (rdI G E0 wi1) (gB G tg1) (rdT G E0 tt1) (rdE G E0 te) (own.map (·.2)) tg1.slots σ H Q := by
  intro σ H Q ⟨ρ, F, M, Qd, Ed, S, q, pq, px⟩
  refine ⟨ρ, F, M, _, Ed, S, q, fun xs g M1 J H1 F1 ⟨hlim, q1⟩ S1 K1 u1 it D hD => ?_, px⟩
  generalize hf : (fun (x : DS.D) (M2 : Sto) (K : Po (List DS.D)) => ∃ ρ', bindTg tg x (wipeD ρ (tg.slots ++ tg1.slots)) = some ρ' ∧
      tt ρ' M2 (fun b M3 => if b = true then wi1 ρ' M3 (fun zs g2 M4 => zs.length ≤ 4096 ∧ mapM' g2 (fun z M5 K2 => ∃ ρ2, bindTg tg1 z (wipeD ρ' tg1.slots) = some ρ2 ∧
        tt1 ρ2 M5 (fun b M6 => if b = true then te ρ2 M6 (fun d M7 => K2 (some d) M7) noEx else K2 none M6) noEx) zs M4 K) noEx else K [] M3) noEx) = f at q1
  let Wd : Nat → Hp → Prop := fun i H' => i ≤ xs.length ∧ ∃ F' M' acc ad, SR G H' F' M' ∧ Keep H1 F1 M1 H' F' M' ∧ Sub F1 F' ∧ H' D = some (.lst acc) ∧ F' D = none ∧ M' D = none ∧ acc.length ≤ i * 4096 ∧ RepL G F' acc ad ∧
    mapM'' g f (xs.drop i) M' fun ys M2 => made mu (.lst (ad ++ ys)) M2 Qd
  refine ⟨fun i m H' => m = xs.length - i ∧ Wd i H',
    ⟨xs.length, by simp, Nat.zero_le _, F1, M1, [], [], S1.hid hD, Keep.hid S1 hD, Sub.refl F1, upd_same, S1.fnone hD, S1.mnone hD, Nat.zero_le _, .nil, by simpa using q1⟩, ?_⟩
  rintro i m H2 ⟨rfl, hi2, F2, M2, acc, ad, S2, K2, u2, hD2, hF2, hM2, hl2, ra, q2⟩
  by_cases hlt : i < xs.length
  · obtain ⟨x, hx, ed⟩ := drop_get hlt
    rw [ed] at q2
    obtain ⟨hg2, q2⟩ := q2
    rw [← hf] at q2
    obtain ⟨ρ', hb, q2⟩ := q2
    rw [hf] at q2
    refine .inr ⟨it.go i H2 F2 M2 hlt S2 u2 K2.frz hg2, fun H' => Wd (i + 1) H', fun H' p' => ⟨xs.length - (i + 1), by omega, rfl, p'⟩, fun v H3 y => ?_⟩
    obtain ⟨F3, S3, K3, u3, rv⟩ := it.yld i x v H2 H3 F2 M2 hx S2 u2 K2.frz hg2 y
    have St3 : StR G (L2.wipe σ (own.map (·.2))) H3 F3 (wipeD ρ (tg.slots ++ tg1.slots)) M2 := by
      rw [ho]
      exact (S.step S3 ((u1.trans u2).trans u3)).wipe _
    refine ⟨x, _, ρ', F3, M2, St3, rv, hb, fun σ2 S' hw => ⟨?_, ?_⟩⟩
    · rw [hw _ (by rw [ho]; exact fun _ z => List.mem_append_left _ z)]
      apply List.ext_getElem?
      intro j
      rw [wipe_get, L2.wipe_length, wipe_get]
      split
      · rfl
      · rfl
    · refine ⟨ρ', F3, M2, _, noEx, S', q2, fun b M4 H4 F4 q4 S4 K4 u4 => ?_, px0⟩
      have K24 := K3.trans K4
      obtain ⟨hD4, hM4, hF4⟩ := K24 D _ hD2 hM2 fun _ z => by cases z
      have hF4 := hF4 hF2 rfl
      cases b with
      | false =>
        simp only [Bool.false_eq_true, if_false] at q4 ⊢
        exact ⟨hlt, F4, M4, acc, ad, S4, K2.trans K24, u2.trans (u3.trans u4), hD4, hF4, hM4, by omega, ra.mono (u3.trans u4), by simpa using q4⟩
      | true =>
        simp only [if_true] at q4 ⊢
        have St4 := S'.step S4 u4
        refine ⟨ρ', F4, M4, _, noEx, St4, q4, fun zs g2 M5 J1 H5 F5 ⟨hlz, q5⟩ S5 K5 u5 it1 => ?_, px0⟩
        have St5 := St4.step S5 u5
        obtain ⟨hD5, hM5, hF5⟩ := K5 D _ hD4 hM4 fun _ z => by cases z
        have hF5 := hF5 hF4 rfl
        have K25 := K2.trans (K24.trans K5)
        have ra5 := ra.mono ((u3.trans u4).trans u5)
        refine ⟨fun j k H' => k = zs.length - j ∧ j ≤ zs.length ∧ ∃ F' M' acc' ad', SR G H' F' M' ∧ Keep H1 F1 M1 H' F' M' ∧ KFrz H5 M5 H' ∧ Sub F5 F' ∧ H' D = some (.lst acc') ∧ F' D = none ∧ M' D = none ∧ acc'.length ≤ i * 4096 + j ∧ RepL G F' acc' (ad ++ ad') ∧
          mapM' g2 (fun z M5 K2 => ∃ ρ2, bindTg tg1 z (wipeD ρ' tg1.slots) = some ρ2 ∧ tt1 ρ2 M5 (fun b M6 => if b = true then te ρ2 M6 (fun d M7 => K2 (some d) M7) noEx else K2 none M6) noEx) (zs.drop j) M'
            fun ys M2 => mapM'' g f (xs.drop (i + 1)) M2 fun ys' M2 => made mu (.lst (ad ++ ((ad' ++ ys) ++ ys'))) M2 Qd,
          ⟨zs.length, by simp, Nat.zero_le _, F5, M5, acc, [], S5, K25, KFrz.refl H5 M5, Sub.refl F5, hD5, hF5, hM5, by omega, by simpa using ra5, by simpa using q5⟩, ?_⟩
        rintro j k H6 ⟨rfl, hj, F6, M6, acc', ad', S6, K6, K6', u6, hD6, hF6, hM6, hl6, ra6, q6⟩
        have St6 : StR G (L2.wipe σ2 tg1.slots) H6 F6 (wipeD ρ' tg1.slots) M6 := (St5.step S6 u6).wipe _
        by_cases hjt : j < zs.length
        · obtain ⟨z, hz, edz⟩ := drop_get hjt
          rw [edz] at q6
          obtain ⟨hg6, ρ2, hbz, q6⟩ := q6
          refine .inr ⟨it1.go j H6 F6 M6 hjt S6 u6 K6' hg6, _, fun H' p' => ⟨zs.length - (j + 1), by omega, p'⟩, fun v1 H7 y1 => ?_⟩
          obtain ⟨F7, S7, K7, u7, rz⟩ := it1.yld j z v1 H6 H7 F6 M6 hz S6 u6 K6' hg6 y1
          have K7' : KFrz H5 M5 H7 := K6'.keep (fun a _ ob o h => S6.nofrz h) K7
          refine ⟨z, _, ρ2, F7, M6, St6.step S7 u7, rz, hbz, fun σ3 S'' hw1 => ⟨?_, ?_⟩⟩
          · rw [hw1 _ fun _ z => z]
            apply List.ext_getElem?
            intro j
            rw [wipe_get, L2.wipe_length, wipe_get]
            split
            · rfl
            · rfl
          · refine ⟨ρ2, F7, M6, _, noEx, S'', q6, fun b M8 H8 F8 q8 S8 K8 u8 => ?_, px0⟩
            have K68 := K7.trans K8
            obtain ⟨hD8, hM8, hF8⟩ := K68 D _ hD6 hM6 fun _ z => by cases z
            have hF8 := hF8 hF6 rfl
            have K8' : KFrz H5 M5 H8 := K7'.keep (fun a _ ob o h => S7.nofrz h) K8
            cases b with
            | false =>
              simp only [Bool.false_eq_true, if_false] at q8 ⊢
              exact ⟨trivial, hjt, F8, M8, acc', ad', S8, K6.trans K68, K8', u6.trans (u7.trans u8), hD8, hF8, hM8, by omega, ra6.mono (u7.trans u8), by simpa using q8⟩
            | true =>
              simp only [if_true] at q8 ⊢
              refine ⟨ρ2, F8, M8, _, noEx, S''.step S8 u8, q8, fun d M9 w H9 F9 q9 S9 K9 u9 r9 => ?_, px0⟩
              obtain ⟨hD9, hM9, hF9⟩ := K9 D _ hD8 hM8 fun _ z => by cases z
              have hF9 := hF9 hF8 rfl
              have K9' : KFrz H5 M5 H9 := K8'.keep (fun a _ ob o h => S8.nofrz h) K9
              have n1 : sizeLine = 4096 * 4096 := by decide
              have n2 : acc'.length < 4096 * 4096 := by omega
              refine ⟨acc', hD9, by rw [n1]; exact n2, trivial, hjt, F9, M9, acc' ++ [w], ad' ++ [d], S9.hchg hD9 (.inl ⟨_, rfl⟩) hF9 hM9, (K6.trans (K68.trans K9)).offH hD, K9'.off (fun ob u z => by rw [hD9] at z; cases z), u6.trans (u7.trans (u8.trans u9)), upd_same, hF9, hM9, by simp; omega, ?_, ?_⟩
              · rw [← List.append_assoc]
                exact (ra6.mono (u7.trans (u8.trans u9))).append (.cons r9 .nil)
              · simpa using q9
        · have e : j = zs.length := by omega
          subst e
          rw [List.drop_length] at q6
          obtain ⟨hg6, q6⟩ := q6
          exact .inl ⟨it1.stop H6 F6 M6 S6 u6 K6' hg6, hlt, F6, M6, acc', ad ++ ad', S6, K6, u2.trans ((u3.trans u4).trans (u5.trans u6)), hD6, hF6, hM6, by omega, ra6, by simpa using q6⟩
  · have e : i = xs.length := by omega
    subst e
    rw [List.drop_length] at q2
    obtain ⟨hg2, q2⟩ := q2
    exact .inl ⟨it.stop H2 F2 M2 S2 u2 K2.frz hg2, (pq.step K1 u1).madeAt K2 u2 S2 hD hD2 hF2 hM2 ra (by simpa using q2)⟩
theorem s_lc2 {elt tgE iter tgE1 iter1 : Expr} {ifs ifs1 : List Expr} {scope : Scope} {own : List (Str × Nat)} {pos : Pos} {tg tg1 : Tg} {wi wi1 : WI} {tt tt1 : WT} {te : WE} {mu : Bool}
    (hc : X.calm = true) (hN : X.N.Nodup) (hi : PI X tgE iter (rdI G E wi)) (ok : BlkOk X.N X.env.scope scope own) (ho : own.map (·.2) = tg.slots ++ tg1.slots)
    (hg : CompE X scope fun Y => PG Y tgE (gB G tg)) (ht : CompE X scope fun Y => PTs Y ifs (rdT G E0 tt)) (hi1 : CompE X scope fun Y => PI Y tgE1 iter1 (rdI G E0 wi1))
    (hg1 : CompE X scope fun Y => PG Y tgE1 (gB G tg1)) (ht1 : CompE X scope fun Y => PTs Y ifs1 (rdT G E0 tt1)) (he : CompE X scope fun Y => PE Y elt (rdE G E0 te))
    (hs : ∀ x, foldedSetIterable iter X.env x = pure x) (hs1 : ∀ env x, foldedSetIterable iter1 env x = pure x) :
    PE X (.ListComp elt [⟨tgE, iter, ifs, 0⟩, ⟨tgE1, iter1, ifs1, 0⟩] scope pos) (rdE G E (lc2W mu tg wi tt tg1 wi1 tt1 te)) :=
  PE_imp (pe_lc2 hc hN hi ok (vs1 := tg1.slots) (fun i hi => by rw [ho]; exact List.mem_append_right _ hi) hg ht hi1 hg1 ht1 he hs hs1) (lc2_imp ho)
/-! ### dict comprehensions (keys ints, texts) -/
abbrev dcW (mu tk : Bool) (tg : Tg) (wi : WI) (tt : WT) (tk' tv : WE) : WE := fun ρ M Q Ex => wi ρ M (fun xs g M1 => xs.length ≤ lim ∧ mapM' g (fun x M2 K => ∃ ρ', bindTg tg x (wipeD ρ tg.slots) = some ρ' ∧
      tt ρ' M2 (fun b M3 => if b = true then tk' ρ' M3 (fun y M4 => tv ρ' M4 (fun z M5 => (∃ key, keyOf y = some key ∧ isTK key = tk) ∧ K (some (.tup [y, z])) M5) noEx) noEx else K none M3) noEx) xs M1 fun ys M2 =>
      ∃ kvs, pairsK ys = some kvs ∧ (∀ kv ∈ kvs, isTK kv.1 = tk) ∧ made mu (.dic (mrgK [] kvs)) M2 Q) Ex
theorem pairsK_snoc {y z : DS.D} {k : DK} (hk : keyOf y = some k) : ∀ {ad : List DS.D} {ks : List (DK × DS.D)}, pairsK ad = some ks → pairsK (ad ++ [.tup [y, z]]) = some (ks ++ [(k, z)])
  | [], ks, e => by simp only [pairsK] at e; cases e; simp [pairsK, hk]
  | a :: ad, ks, e => by
    unfold pairsK at e
    split at e
    · rename_i h; cases h
    · rename_i k' v' rest h
      cases h
      split at e
      · rename_i key kvs' e1 e2
        cases e
        have ih := pairsK_snoc (z := z) hk e2
        simp only [List.cons_append, pairsK, e1, ih]
      · cases e
    · cases e
theorem dc_imp {own : List (Str × Nat)} {tg : Tg} {wi : WI} {tt : WT} {tk tv : WE} {mu : Bool} (ho : own.map (·.2) = tg.slots) : ∀ σ H Q, rdE G E (dcW mu false tg wi tt tk tv) σ H Q → tDc (rdI G E wi) (gB G tg) (rdT G E0 tt) (rdE G E0 tk) (rdE G E0 tv) (own.map (·.2)) σ H (lockQ mu Q) := by
  intro σ H Q ⟨ρ, F, M, Qd, Ed, S, q, pq, px⟩
  refine ⟨ρ, F, M, _, Ed, S, q, fun xs g M1 J H1 F1 ⟨hlim, q1⟩ S1 K1 u1 it D hD => ?_, px⟩
  refine ⟨fun i m H' => m = xs.length - i ∧ i ≤ xs.length ∧ ∃ F' M' acc ad ks, SR G H' F' M' ∧ Keep H1 F1 M1 H' F' M' ∧ Sub F1 F' ∧ H' D = some (.dK acc) ∧ F' D = none ∧ M' D = none ∧ acc.length ≤ i ∧ pairsK ad = some ks ∧ RepK G F' acc (mrgK [] ks) ∧
    mapM' g (fun x M2 K => ∃ ρ', bindTg tg x (wipeD ρ tg.slots) = some ρ' ∧
      tt ρ' M2 (fun b M3 => if b = true then tk ρ' M3 (fun y M4 => tv ρ' M4 (fun z M5 => (∃ key, keyOf y = some key ∧ isTK key = false) ∧ K (some (.tup [y, z])) M5) noEx) noEx else K none M3) noEx) (xs.drop i) M' fun ys M2 => ∃ kvs, pairsK (ad ++ ys) = some kvs ∧ (∀ kv ∈ kvs, isTK kv.1 = false) ∧ made mu (.dic (mrgK [] kvs)) M2 Qd,
    ⟨xs.length, by simp, Nat.zero_le _, F1, M1, [], [], [], S1.hid hD, Keep.hid S1 hD, Sub.refl F1, upd_same, S1.fnone hD, S1.mnone hD, Nat.zero_le _, rfl, .nil, by simpa using q1⟩, ?_⟩
  rintro i m H2 ⟨rfl, hi2, F2, M2, acc, ad, ks, S2, K2, u2, hD2, hF2, hM2, hl2, hks, ra, q2⟩
  by_cases hlt : i < xs.length
  · obtain ⟨x, hx, ed⟩ := drop_get hlt
    rw [ed] at q2
    obtain ⟨hg2, ρ', hb, q2⟩ := q2
    refine .inr ⟨it.go i H2 F2 M2 hlt S2 u2 K2.frz hg2, _, fun H' p' => ⟨xs.length - (i + 1), by omega, p'⟩, fun v H3 y => ?_⟩
    obtain ⟨F3, S3, K3, u3, rv⟩ := it.yld i x v H2 H3 F2 M2 hx S2 u2 K2.frz hg2 y
    have St3 : StR G (L2.wipe σ (own.map (·.2))) H3 F3 (wipeD ρ tg.slots) M2 := by
      rw [ho]
      exact (S.step S3 ((u1.trans u2).trans u3)).wipe tg.slots
    refine ⟨x, _, ρ', F3, M2, St3, rv, hb, fun σ' S' hw => ⟨?_, ?_⟩⟩
    · rw [hw _ (by rw [ho]; exact fun _ z => z)]
      apply List.ext_getElem?
      intro j
      rw [wipe_get, L2.wipe_length, wipe_get]
      split
      · rfl
      · rfl
    · refine ⟨ρ', F3, M2, _, noEx, S', q2, fun b M4 H4 F4 q4 S4 K4 u4 => ?_, px0⟩
      have K24 := K3.trans K4
      obtain ⟨hD4, hM4, hF4⟩ := K24 D _ hD2 hM2 fun _ z => by cases z
      have hF4 := hF4 hF2 rfl
      cases b with
      | false =>
        simp only [Bool.false_eq_true, if_false] at q4 ⊢
        exact ⟨trivial, hlt, F4, M4, acc, ad, ks, S4, K2.trans K24, u2.trans (u3.trans u4), hD4, hF4, hM4, Nat.le_succ_of_le hl2, hks, ra.mono (u3.trans u4), by simpa using q4⟩
      | true =>
        simp only [if_true] at q4 ⊢
        refine ⟨ρ', F4, M4, _, noEx, S'.step S4 u4, q4, fun y M5 vy H5 F5 q5 S5 K5 u5 ry => ?_, px0⟩
        refine ⟨ρ', F5, M5, _, noEx, (S'.step S4 u4).step S5 u5, q5, fun z M6 w H6 F6 ⟨⟨key, hk, htk⟩, q6⟩ S6 K6 u6 rz => ?_, px0⟩
        obtain ⟨hD6, hM6, hF6⟩ := (K5.trans K6) D _ hD4 hM4 fun _ z => by cases z
        have hF6 := hF6 hF4 rfl
        have n1 : lim < sizeLine := by decide
        rcases key_rep S6 (ry.mono u6) hk with ⟨k1, rfl, rfl⟩ | ⟨ks', b, rfl, _, _⟩
        · have u26 := u3.trans (u4.trans (u5.trans u6))
          refine ⟨acc, k1, rfl, hD6, Nat.lt_trans (Nat.lt_of_le_of_lt hl2 hlt) (Nat.lt_of_le_of_lt hlim n1), trivial, hlt, F6, M6, putK acc k1 w, ad ++ [.tup [y, z]], ks ++ [(.inl k1, z)], S6.hchg hD6 (.inr (.inl ⟨_, rfl⟩)) hF6 hM6, (K2.trans (K24.trans (K5.trans K6))).offH hD, u2.trans u26, upd_same, hF6, hM6, ?_, pairsK_snoc hk hks, ?_, ?_⟩
          · have := length_putK acc k1 w; omega
          · unfold mrgK
            rw [List.foldl_append]
            exact (ra.mono u26).put rz
          · simpa using q6
        · simp [isTK] at htk
  · have e : i = xs.length := by omega
    subst e
    rw [List.drop_length] at q2
    obtain ⟨hg2, kvs, hkv, _, q2⟩ := q2
    rw [List.append_nil, hks] at hkv
    cases hkv
    exact .inl ⟨it.stop H2 F2 M2 S2 u2 K2.frz hg2, (pq.step K1 u1).madeKAt K2 u2 S2 hD hD2 hF2 hM2 ra q2⟩
theorem s_dc {kx vx tgE iter : Expr} {ifs : List Expr} {scope : Scope} {own : List (Str × Nat)} {pos : Pos} {tg : Tg} {wi : WI} {tt : WT} {tk tv : WE} {mu : Bool}
    (hc : X.calm = true) (hN : X.N.Nodup) (hi : PI X tgE iter (rdI G E wi)) (ok : BlkOk X.N X.env.scope scope own) (ho : own.map (·.2) = tg.slots)
    (hg : CompE X scope fun Y => PG Y tgE (gB G tg)) (ht : CompE X scope fun Y => PTs Y ifs (rdT G E0 tt)) (hk : CompE X scope fun Y => PE Y kx (rdE G E0 tk)) (he : CompE X scope fun Y => PE Y vx (rdE G E0 tv)) (hs : ∀ x, foldedSetIterable iter X.env x = pure x) :
    PE X (.DictComp kx vx [⟨tgE, iter, ifs, 0⟩] scope pos) (rdE G E (dcW mu false tg wi tt tk tv)) := PE_imp (pe_lk mu (pe_dc hc hN hi ok hg ht hk he hs)) (dc_imp ho)
end
end DS
end
section
set_option Elab.async false
set_option linter.all false
set_option maxRecDepth 100000
/-! DsI2: cells that lie neither in the ground nor among the frames; list comprehensions that hand this on. -/
namespace DS
open PySem PySem.Spec PyProof.Rows L2 LamX
/-- no cell of the place lies in the ground or is a frame -/
def CB (X : Cx) : Prop := ∀ y c, X.env.cells.lookup y = some c → X.base.get? c = none ∧ c ∉ frs X.stack
section
variable {X : Cx} {pins : List (Addr × Obj)} {σ : L2.St} {H : Hp} {s : Shared}
theorem ground_big (I : Inv X pins σ H s) {c : Addr} (h : X.s_0.heap.objs.size ≤ c) : X.base.get? c = none := by
  cases e : X.base.get? c with
  | none => rfl
  | some o => exact absurd (Nat.lt_of_lt_of_le (Heap.lt_size e) I.ok.bsz) (Nat.not_lt.mpr h)
theorem cb_def (hfn : ∀ y, X.fn y = true) (I : Inv X pins σ H s) : CB X := fun y c e => by
  have hge := I.ok.cab y c (hfn y) e
  refine ⟨ground_big I hge, fun hb => ?_⟩
  rcases List.mem_cons.mp (I.stkSub c hb) with z | z
  · exact I.cne y c e z
  · obtain ⟨_, o, ho, _⟩ := I.ok.funs.mem z
    exact absurd (Heap.lt_size ho) (Nat.not_lt.mpr hge)
theorem cells_new : ∀ (names : List (Str × NameKind)) (n : Nat) (acc : List (Str × Addr)) {y : Str} {c : Addr}, (y, c) ∈ cellsFrom n names acc → (y, c) ∈ acc ∨ n ≤ c
  | [], _, _, _, _, h => .inl h
  | (m, k) :: r, n, acc, y, c, h => by
    unfold cellsFrom at h
    split at h
    · rcases cells_new r (n + 1) _ h with z | z
      · rcases List.mem_cons.mp z with z | z
        · cases z; exact .inr (Nat.le_refl _)
        · exact .inl z
      · exact .inr (by omega)
    · exact cells_new r n acc h
theorem frames_old (I : Inv X pins σ H s) {b : Addr} (hb : b ∈ frs X.stack) : b < s.heap.objs.size := by
  rcases List.mem_cons.mp (I.stkSub b hb) with z | z
  · obtain ⟨m, ⟨o, es, ep, e, _⟩, _⟩ := I.loc
    rw [z]; exact Heap.lt_size e
  · obtain ⟨_, o, ho, _⟩ := I.ok.funs.mem z
    obtain ⟨sl, h⟩ := I.base.slot b o ho (I.ok.frf b z) z fun x => I.ok.exfs b x z
    exact Heap.lt_size h
theorem cb_blk {scope : Scope} {fp : List Addr} (cb : CB X) (I : Inv X pins σ H s) (hfree : ∀ y ∈ scope.names, y.2 = .free → ∃ c, X.env.cells.lookup y.1 = some c) :
    CB (X.blk s H scope (compEnvC scope (cellsFrom (s.heap.objs.size + 1) scope.names (cloFrom X.env.cells scope.names [])) s.heap.objs.size X.env) fp) := fun y c e => by
  show X.base.get? c = none ∧ c ∉ frs X.stack
  rcases cells_new _ _ _ (PySem.mem_of_lookup e) with z | z
  · rcases cloFrom_mem z with z | ⟨z1, z2⟩
    · cases z
    · obtain ⟨c', hc'⟩ := hfree _ z1 rfl
      have z3 : X.env.cells.lookup y = some c' := hc'
      rw [z3] at z2
      subst z2
      exact cb y _ z3
  · refine ⟨?_, fun hb => absurd (frames_old I hb) (Nat.not_lt.mpr (Nat.le_of_succ_le z))⟩
    cases q : X.base.get? c with
    | none => rfl
    | some o => exact absurd (Heap.lt_size (I.bs c o q).1) (Nat.not_lt.mpr (Nat.le_of_succ_le z))
end
/-- what holds of a block of X, whose cells are as CB says -/
abbrev CompB (X : Cx) (scope : Scope) (P : Cx → Prop) : Prop :=
  ∀ (t : Shared) (G : Hp) (C : Addr) (cl : List (Str × Addr)) (fp : List Addr), CB (X.blk t G scope (compEnvC scope cl C X.env) fp) → P (X.blk t G scope (compEnvC scope cl C X.env) fp)
section
variable {X : Cx}
/-- a list comprehension of one row, its parts asked for under CB alone -/
theorem lq_core {pins : List (Addr × Obj)} {s : Shared} {σ : L2.St} {H : Hp} {Q : VK} {elt tg iter : Expr} {ifs : List Expr} {scope : Scope} {own : List (Str × Nat)} {pos pos2 : Pos} {wi : TI} {g : TG} {tt : TT} {te : TE}
    {use : Option (Value → Sem Unit)} {Qf : Value → Shared → Prop} (cb : CB X) (calm : X.calm = true) (nd : X.N.Nodup) (I0 : Inv X pins σ H s) (hi : PI X tg iter wi) (bk : BlkOk X.N X.env.scope scope own)
    (hg : CompB X scope fun Y => PG Y tg g) (ht : CompB X scope fun Y => PTs Y ifs tt) (he : CompB X scope fun Y => PE Y elt te)
    (plain : ∀ x, foldedSetIterable iter X.env x = pure x) (wish : tLc wi g tt te (own.map (·.2)) σ H Q)
    (after : ∀ L C s1 m H1, Inv X pins σ H1 s1 → Q (.ref L) H1 → s1.heap.Ns C m → FpOk X pins H1 C → compPost (model X.prog X.w) X.A X.xe use Qf (.ref L) C (.ok .next) s1) :
    wpAny (model X.prog X.w) X.A
      (comprehension (.ListComp elt [⟨tg, iter, ifs, 0⟩] scope pos) scope X.env pos2 (newList []) false (eval iter X.env) use) Qf X.xe s := by
  have capt : ∀ y ∈ scope.names, y.2 = .free → ∃ c, X.env.cells.lookup y.1 = some c := fun y hy e =>
    I0.ok.has _ (bk.free y hy e)
  refine wpAny_comprehension_free (use := use) rfl plain (closure_ok capt) bk.kind (fun y hy e => (bk.uniq y hy).trans (congrArg some e))
    (thn (hi.run pins s σ H _ I0 wish) fun _ sa hx => thn hx fun _ sb hsb => ?_)
  obtain ⟨it, fp, tn, J, Hb, rfl, Ib, T, stb, fpb, ask⟩ := hsb
  refine wpAny_newObj_type (newEnv_comp ?_) (by show 0 ≤ sizeLine; decide)
  generalize eL : sb.heap.objs.size = L
  have freeL : Hb L = none := Ib.hok.fresh (Nat.le_of_eq eL)
  obtain ⟨W, ⟨m0, w0⟩, turn⟩ := ask L freeL
  generalize esc : ({ sb with heap := sb.heap.push { cls := .type "list", data := .seq ([] : List Value).toArray } } : Shared) = sc
  have hc : sc.heap = sb.heap.push { cls := .type "list", data := .seq ([] : List Value).toArray } := by rw [← esc]
  have Ic : Inv X pins σ (upd Hb L (.lst [])) sc := by
    subst esc
    exact Ib.laid (t' := sb.toks) (fun b o e => Heap.get?_push_of_some _ e) (Nat.le_of_eq eL)
      ⟨Nat.zero_le _, [], 0, .nil, by subst eL; exact Heap.get?_push_size _ rfl⟩
  have small : ∀ b ∈ fp, b < sb.heap.objs.size := fun b hb => let ⟨_, e, _⟩ := T.obj _ _ stb b hb; Heap.lt_size e
  have fpc : ∀ b ∈ fp, FpOk X pins (upd Hb L (.lst [])) b ∧ b < sc.heap.objs.size := fun b hb => by
    have lt := small b hb
    refine ⟨⟨?_, (fpb b hb).2⟩, by rw [hc, Heap.size_push]; exact Nat.lt_succ_of_lt lt⟩
    rw [upd_ne (by rw [← eL]; exact Nat.ne_of_lt lt)]
    exact (fpb b hb).1
  have stc : tn 0 sc.heap := T.keep _ _ _ stb fun b _ o e => by rw [hc]; exact Heap.get?_push_of_some _ e
  have cbB := cb_blk (fp := fp) cb Ic capt
  have Id := block_start Ic bk nd fpc
  have pg := hg sc (upd Hb L (.lst [])) sc.heap.objs.size _ fp cbB
  have pt := ht sc (upd Hb L (.lst [])) sc.heap.objs.size _ fp cbB
  have pe := he sc (upd Hb L (.lst [])) sc.heap.objs.size _ fp cbB
  show codeAny _ _ (.compStart (.ListComp elt [⟨tg, iter, ifs, 0⟩] scope pos) 0 (.ref it) (.ref L)
      (compEnvC scope (cellsFrom (sc.heap.objs.size + 1) scope.names (cloFrom X.env.cells scope.names [])) sc.heap.objs.size X.env))
    (compPost (model X.prog X.w) X.A X.xe use Qf (.ref L) sc.heap.objs.size) { sc with heap := pushCells (sc.heap.push { cls := .type "dict", data := .dict #[] }) scope.names }
  have fp0 : ∀ b ∈ fp, (upd Hb L (.lst [])) b = none := fun b hb => (fpc b hb).1.1
  generalize ecv : compEnvC scope (cellsFrom (sc.heap.objs.size + 1) scope.names (cloFrom X.env.cells scope.names [])) sc.heap.objs.size X.env = cv at Id pg pt pe ⊢
  have cvL : cv.locals = sc.heap.objs.size := by subst ecv; rfl
  generalize eHc : upd Hb L (.lst []) = Hc at Ic Id pg pt pe w0 fp0 fpc
  generalize esd : ({ sc with heap := pushCells (sc.heap.push { cls := .type "dict", data := .dict #[] }) scope.names } : Shared) = sd at Id ⊢
  have std : tn 0 sd.heap := T.keep _ _ _ stc fun b _ o e => by
    subst esd; exact pushCells_keeps _ _ _ _ (Heap.get?_push_of_some _ e)
  have inB : ∀ {σ' : L2.St} {H' : Hp} {s' : Shared}, Inv (X.blk sc Hc scope cv fp) [] σ' H' s' → (∀ b ∈ fp, H' b = none) → ∀ b ∈ fp, FpOk (X.blk sc Hc scope cv fp) [] H' b :=
    fun {σ' H' s'} J' free b hb => by
      refine ⟨free b hb, (J'.ok.exf b hb).1, J'.ok.exfs b hb, .inl hb, (J'.ok.exf b hb).2, fun p hp => ?_⟩
      have hp : p ∈ ([] : List (Addr × Obj)) ++ [] := hp
      simp at hp
  suffices loop : codeAny (model X.prog X.w) X.A (.compLoop (.ListComp elt [⟨tg, iter, ifs, 0⟩] scope pos) 0 (.ref it) (.ref L) cv)
      (compPost (model X.prog X.w) X.A X.xe use Qf (.ref L) sc.heap.objs.size) sd from
    codeAny_compStart_list loop (T.self X.A 0 _ _ _ std loop)
  refine compLoop_any (fun n s' => ∃ i H', Inv (X.blk sc Hc scope cv fp) [] (L2.wipe σ (own.map (·.2))) H' s' ∧ tn i s'.heap ∧ (∀ b ∈ fp, H' b = none) ∧ W i n H') ?_ m0 ⟨0, Hc, Id, std, fp0, w0⟩
  rintro n se ⟨i, He, Ie, ste, fpe, we⟩
  rcases turn i n He we with ⟨stop, q⟩ | ⟨go, Nx, less, step⟩
  · refine thnF (T.done (X.blk sc Hc scope cv fp) rfl rfl rfl calm i [] se _ He (fun _ _ => False) Ie (inB Ie fpe) ste stop) fun r sf ⟨er, If⟩ => ?_
    subst er
    have Ig : Inv X pins σ He sf := Ic.call' (ch := fp) If.os If.base If.hok If.bare fun b hb =>
      let z := (fpc b hb).1.2
      ⟨z.2.2.1, z.1, z.2.2.2.1, z.2.2.2.2⟩
    have nC : He cv.locals = none := If.free
    rw [cvL] at nC
    obtain ⟨m, hn, _⟩ := If.loc
    have hn : sf.heap.Ns cv.locals m := hn
    rw [cvL] at hn
    exact after L sc.heap.objs.size sf m He Ig q hn (Ic.fpOk (Nat.le_refl _) nC)
  · refine thnF (T.item (X.blk sc Hc scope cv fp) rfl rfl rfl calm i [] se _ He (fun _ _ => False) Ie (inB Ie fpe) ste go) fun r sf ⟨u, er, hf⟩ => ?_
    subst er
    refine thnF hf fun _ sg ⟨x, Hg, Ig, rg, yg, stg, fpg⟩ => ?_
    refine thnF (pg.run _ sg _ Hg x u _ (Ig.pinned (inB Ig fpg) (T.obj _ _ stg)) rg (step x Hg yg)) fun _ sh ⟨σh, Hh, Ih, eσ, qh⟩ => ?_
    refine thnF (pt.run _ sh σh Hh _ Ih qh) fun b sk ⟨Hk, Ik, qk⟩ => ?_
    have turned : ∀ {s' : Shared} {H' : Hp}, Inv (X.blk sc Hc scope cv fp) ([] ++ pinsAt fp sg.heap) σh H' s' → Nx H' →
        ∃ m, m < n ∧ ∃ i H', Inv (X.blk sc Hc scope cv fp) [] (L2.wipe σ (own.map (·.2))) H' s' ∧ tn i s'.heap ∧ (∀ b ∈ fp, H' b = none) ∧ W i m H' := fun {s' H'} J' nx => by
      obtain ⟨m, lt, w⟩ := less H' nx
      have there : ∀ b ∈ fp, ∀ o, sg.heap.get? b = some o → s'.heap.get? b = some o ∧ H' b = none := fun b hb o e =>
        let z := J'.pin (b, o) (List.mem_append_right _ (List.mem_append_right _ (mem_pinsAt hb e)))
        ⟨z.1, z.2.1⟩
      have el : (L2.wipe σ (own.map (·.2))).length = σh.length := by rw [← eσ, wipe_length]
      refine ⟨m, lt, i + 1, H', (J'.unpinned (pins := [])).weak el (fun j v e => (wipe_some (vs := own.map (·.2)) (by rw [eσ]; exact e)).1), T.keep _ _ _ stg fun b hb o e => (there b hb o e).1, fun b hb => ?_, w⟩
      obtain ⟨o, e, _⟩ := T.obj _ _ stg b hb
      exact (there b hb o e).2
    cases b with
    | false =>
      simp only [Bool.false_eq_true, if_false] at qk ⊢
      exact turned Ik qk
    | true =>
      simp only [if_true] at qk ⊢
      exact thnF (pe.run _ sk σh Hk _ Ik qk) fun z sl ⟨yv, Hl, Il, rl, acc, hL, hz, nx⟩ =>
        app_ok (X := X.blk sc Hc scope cv fp) Il hL hz rl fun sm Im => turned Im nx
variable {G : GC} {E : XK} {elt tgE iter : Expr} {ifs : List Expr} {scope : Scope} {own : List (Str × Nat)} {pos : Pos} {tg : Tg} {wi : WI} {tt : WT} {te : WE} {mu : Bool}
/-- as a value -/
theorem s_lq (hcb : ∀ pins σ H s, Inv X pins σ H s → CB X) (calm : X.calm = true) (nd : X.N.Nodup) (hi : PI X tgE iter (rdI G E wi)) (bk : BlkOk X.N X.env.scope scope own) (ho : own.map (·.2) = tg.slots)
    (hg : CompB X scope fun Y => PG Y tgE (gB G tg)) (ht : CompB X scope fun Y => PTs Y ifs (rdT G E0 tt)) (he : CompB X scope fun Y => PE Y elt (rdE G E0 te)) (plain : ∀ x, foldedSetIterable iter X.env x = pure x) :
    PE X (.ListComp elt [⟨tgE, iter, ifs, 0⟩] scope pos) (rdE G E (lcW mu tg wi tt te)) := by
  refine PE_imp (t := tLc (rdI G E wi) (gB G tg) (rdT G E0 tt) (rdE G E0 te) (own.map (·.2))) ⟨fun pins s σ H Q I h => ?_⟩ (lc_imp ho)
  rw [eval_ListComp]
  refine lq_core (hcb _ _ _ _ I) calm nd I hi bk hg ht he plain h fun L C s1 m H1 I1 q hn f => ⟨m, hn, fun h2 sb => ?_⟩
  obtain ⟨f0, f1, _, f3, f4, f5⟩ := f
  exact ⟨.ref L, H1, I1.turned (t' := s1.toks) (fun b o hb e => (sb.2 b hb).trans e) f0 f1 f3 f4 f5, rfl, q⟩
/-- given to a name on its line -/
theorem st_lq {i : Nat} {y : Str} {py spos : Pos} (hcb : ∀ pins σ H s, Inv X pins σ H s → CB X) (calm : X.calm = true) (nd : X.N.Nodup) (hy : X.N[i]? = some y) (hyl : X.env.scope.names.lookup y = some .local)
    (sw : swapsWith (.ListComp elt [⟨tgE, iter, ifs, 0⟩] scope pos) (some (.Name y py)) spos.line X.env = pure true) (hi : PI X tgE iter (rdI G E wi)) (bk : BlkOk X.N X.env.scope scope own) (ho : own.map (·.2) = tg.slots)
    (hg : CompB X scope fun Y => PG Y tgE (gB G tg)) (ht : CompB X scope fun Y => PTs Y ifs (rdT G E0 tt)) (he : CompB X scope fun Y => PE Y elt (rdE G E0 te)) (plain : ∀ x, foldedSetIterable iter X.env x = pure x) :
    PS X (.Assign [.Name y py] (.ListComp elt [⟨tgE, iter, ifs, 0⟩] scope pos) spos) (tAsg (tLc (rdI G E wi) (gB G tg) (rdT G E0 tt) (rdE G E0 te) (own.map (·.2))) (gName i)) := by
  refine ⟨fun pins s σ H D I h => ?_⟩
  rw [exec_Assign_Name_used _ _ _ _ sw]
  refine wpAny_bind (wpAny_standAt (wpAny_bind ?_))
  show wpAny _ X.A (do
    let _ ← comprehension (.ListComp elt [⟨tgE, iter, ifs, 0⟩] scope pos) scope X.env (firstIterPos [⟨tgE, iter, ifs, 0⟩] pos) (newList []) false (eval iter X.env) (some (assign (.Name y py) X.env))) _ _ s
  replace h : tLc (rdI G E wi) (gB G tg) (rdT G E0 tt) (rdE G E0 te) (own.map (·.2)) σ H (fun x H1 => gName i x σ H1 D.nx) := h
  refine wpAny_bind (thn (lq_core (Qf := fun _ s2 => SP X pins D .next s2) (hcb _ _ _ _ I) calm nd I hi bk hg ht he plain h fun L C s1 m H1 I1 q hn f => ?_) fun _ _ hq => wpAny_pure (wpAny_pure hq))
  show wpAny _ _ (assign (.Name y py) X.env (.ref L)) _ _ _
  refine wpAny_assign_Name (store_ok2 (v := V.ref L) I1 nd hy (.inl hyl) rfl (fun s2 I2 ⟨a, sb, ha⟩ => ?_) (.inr hyl))
  obtain ⟨f0, f1, _, f3, f4, f5⟩ := f
  have ne : C ≠ a := fun z => by
    subst z
    rcases ha with z | z
    · exact f1 z
    · exact f4 y _ z rfl
  exact ⟨m, hn.sameBut sb ne, fun _ sb3 => ⟨_, H1, I2.turned (t' := s2.toks) (fun b o hb e => (sb3.2 b hb).trans e) f0 f1 f3 f4 f5, q⟩⟩
end
end DS
end
section
set_option Elab.async false
set_option linter.all false
set_option maxRecDepth 100000
/-! DsK: statements. -/
namespace DS
open PySem PySem.Spec PyProof.Rows L2 LamX
abbrev WS := DEnv → Sto → Nxt → Prop
/-- what follows, told by data -/
structure NR (G : GC) (E : XK) (H F : Hp) (M : Sto) (N : Nxt) (C : Ends) : Prop where
  nx : ∀ ρ' M' σ' H' F', N.nx ρ' M' → StR G σ' H' F' ρ' M' → Keep H F M H' F' M' → Sub F F' → C.nx σ' H'
  rt : PQ G H F M N.rt C.rt
  ex : PX G H F M N.ex E
theorem NR.step {G : GC} {E : XK} {H F H1 F1 : Hp} {M M1 : Sto} {N : Nxt} {C : Ends} (n : NR G E H F M N C) (k : Keep H F M H1 F1 M1) (s : Sub F F1) : NR G E H1 F1 M1 N C :=
  ⟨fun ρ' M' σ' H' F' q S K u => n.nx ρ' M' σ' H' F' q S (k.trans K) (s.trans u), n.rt.step k s, n.ex.step k s⟩
def rdS (G : GC) (E : XK) (t : WS) : TS := fun C σ H => ∃ ρ F M N, StR G σ H F ρ M ∧ t ρ M N ∧ NR G E H F M N C
theorem PS_imp {X : Cx} {s : Stmt} {t t' : TS} (h : PS X s t) (i : ∀ C σ H, t' C σ H → t C σ H) : PS X s t' := ⟨fun pins s σ H C I q => h.run pins s σ H C I (i C σ H q)⟩
theorem PSs_imp {X : Cx} {s : List Stmt} {t t' : TS} (h : PSs X s t) (i : ∀ C σ H, t' C σ H → t C σ H) : PSs X s t' := ⟨fun pins s σ H C I q => h.run pins s σ H C I (i C σ H q)⟩
section
variable {G : GC} {X : Cx} {E : XK} {a b c : Expr} {ta tb tc : WE} {pos : Pos}
theorem pss0 : PSs X [] (rdS G E fun ρ M N => N.nx ρ M) := PSs_imp pss_nil fun C σ H ⟨ρ, F, M, N, S, q, n⟩ => n.nx ρ M σ H F q S (Keep.refl H F M) (Sub.refl F)
theorem pss1 {st : Stmt} {rest : List Stmt} {t u : WS} (h1 : PS X st (rdS G E t)) (h2 : PSs X rest (rdS G E u)) : PSs X (st :: rest) (rdS G E fun ρ M N => t ρ M { N with nx := fun ρ1 M1 => u ρ1 M1 N }) :=
  PSs_imp (pss_cons h1 h2) fun C σ H ⟨ρ, F, M, N, S, q, n⟩ => ⟨ρ, F, M, _, S, q, fun ρ1 M1 σ1 H1 F1 q1 S1 K1 u1 => ⟨ρ1, F1, M1, N, S1, q1, n.step K1 u1⟩, n.rt, n.ex⟩
theorem st_pas : PS X (.Pass pos) (rdS G E fun ρ M N => N.nx ρ M) := PS_imp ps_pass fun C σ H ⟨ρ, F, M, N, S, q, n⟩ => n.nx ρ M σ H F q S (Keep.refl H F M) (Sub.refl F)
theorem st_ret (ha : PE X a (rdE G E ta)) : PS X (.Return (some a) pos) (rdS G E fun ρ M N => ta ρ M (fun d M1 => N.rt d M1) N.ex) :=
  PS_imp (ps_ret ha) fun C σ H ⟨ρ, F, M, N, S, q, n⟩ => ⟨ρ, F, M, _, N.ex, S, q, n.rt, n.ex⟩
theorem st_exp (ha : PE X a (rdE G E ta)) (hs : swapsWith a none pos.line X.env = pure false) : PS X (.Expr a pos) (rdS G E fun ρ M N => ta ρ M (fun _ M1 => N.nx ρ M1) N.ex) :=
  PS_imp (ps_expr ha hs) fun C σ H ⟨ρ, F, M, N, S, q, n⟩ => ⟨ρ, F, M, _, N.ex, S, q, fun d M1 v H1 F1 q1 S1 K1 u1 r1 => n.nx ρ M1 σ H1 F1 q1 (S.step S1 u1) K1 u1, n.ex⟩
theorem st_if {tt : WT} {p q : List Stmt} {u v : WS} (hc : PT X c (rdT G E tt)) (ha : PSs X p (rdS G E u)) (hb : PSs X q (rdS G E v)) :
    PS X (.If c p q pos) (rdS G E fun ρ M N => tt ρ M (fun k M1 => if k = true then u ρ M1 N else v ρ M1 N) N.ex) :=
  PS_imp (ps_if hc ha hb) fun C σ H ⟨ρ, F, M, N, S, q, n⟩ => ⟨ρ, F, M, _, N.ex, S, q, fun k M1 H1 F1 q1 S1 K1 u1 => by
    cases k with
    | true => exact ⟨ρ, F1, M1, N, S.step S1 u1, q1, n.step K1 u1⟩
    | false => exact ⟨ρ, F1, M1, N, S.step S1 u1, q1, n.step K1 u1⟩, n.ex⟩
/-- target = value -/
theorem st_asg {tgE : Expr} {tg : Tg} (hc : X.calm = true) (hN : X.N.Nodup) (ha : PE X a (rdE G E ta)) (hg : TgOk X tgE tg) (hs : swapsWithSole [tgE] a pos.line X.env = pure false) (hw : swappedStores [tgE] a X.env = pure none) :
    PS X (.Assign [tgE] a pos) (rdS G E fun ρ M N => ta ρ M (fun d M1 => ∃ ρ1, bindTg tg d ρ = some ρ1 ∧ N.nx ρ1 M1) N.ex) := by
  have h1 : (assignEach [tgE] X.env).map (·.2) = [assign tgE X.env] := by cases hg <;> rfl
  refine PS_imp (ps_asg ha (s_tg (G := G) hc hN hg) hs hw h1) fun C σ H ⟨ρ, F, M, N, S, q, n⟩ => ⟨ρ, F, M, _, N.ex, S, q, fun d M1 v H1 F1 ⟨ρ1, hb, q1⟩ S1 K1 u1 r1 => ?_, n.ex⟩
  exact ⟨d, ρ, ρ1, F1, M1, S.step S1 u1, r1, hb, fun σ' S' _ => n.nx ρ1 M1 σ' H1 F1 q1 S' K1 u1⟩
/-- a new list by a comprehension, on one line with its name -/
theorem st_set {t : TE} {i : Nat} {y : Str} {spos py : Pos} (h : PS X (.Assign [.Name y py] a spos) (tAsg t (gName i))) (im : ∀ σ H Q, rdE G E ta σ H Q → t σ H Q) :
    PS X (.Assign [.Name y py] a spos) (rdS G E fun ρ M N => ta ρ M (fun d M1 => ∃ ρ1, bindTg (.nm i) d ρ = some ρ1 ∧ N.nx ρ1 M1) N.ex) :=
  PS_imp h fun C σ H ⟨ρ, F, M, N, S, q, n⟩ => im σ H _ ⟨ρ, F, M, _, N.ex, S, q, fun d M1 v H1 F1 ⟨ρ1, hb, q1⟩ S1 K1 u1 r1 => by
    cases hb
    exact n.nx _ M1 _ H1 F1 q1 ((S.step S1 u1).set r1) K1 u1, n.ex⟩
/-- a, b = x, y -/
theorem st_par {i j : Nat} {x y : Str} {px py pt : Pos} {kt k2 : Nat} {pt2 : Pos} (hc : X.calm = true) (hN : X.N.Nodup) (hi : X.N[i]? = some x) (hj : X.N[j]? = some y) (hij : i ≠ j)
    (hx : X.env.scope.names.lookup x = some .local) (hy : X.env.scope.names.lookup y = some .local) {t : WA} (ha : PA X [a, b] (rdA G E 2 t))
    (hw : swappedStores [.Tuple [.Name x px, .Name y py] kt pt] (.Tuple [a, b] k2 pt2) X.env = pure (some [x, y])) (hs : swapsWithSole [.Tuple [.Name x px, .Name y py] kt pt] (.Tuple [a, b] k2 pt2) pos.line X.env = pure false) :
    PS X (.Assign [.Tuple [.Name x px, .Name y py] kt pt] (.Tuple [a, b] k2 pt2) pos) (rdS G E fun ρ M N => t ρ M (fun ds M1 => ds.length = 2 ∧ N.nx (([i, j].zip ds).foldl (fun ρ (p : Nat × DS.D) => ρ.set p.1 (some (.d p.2))) ρ) M1) N.ex) := by
  refine PS_imp (ps_par hc hN hi hj hij hx hy ha hw hs) fun C σ H ⟨ρ, F, M, N, S, q, n⟩ => ⟨ρ, F, M, _, N.ex, S, q, fun ds M1 vs H1 F1 hl ⟨_, q1⟩ S1 K1 u1 r1 => ?_, n.ex⟩
  cases r1 with
  | nil => cases hl
  | cons r t =>
    cases t with
    | nil => cases hl
    | cons r' t =>
      cases t with
      | nil => exact ⟨_, _, rfl, n.nx _ M1 _ H1 F1 q1 (((S.step S1 u1).set r).set r') K1 u1⟩
      | cons _ _ => cases hl
/-- o[i] = e -/
def gSubD (G : GC) (E : XK) (to ti : WE) : TG := fun v σ H Q => ∃ d ρ F M Ed Qs, StR G σ H F ρ M ∧ Rep G F v d ∧ to ρ M (fun x M2 => ti ρ M2 (fun j M3 => opSet x j d M3 Qs) Ed) Ed ∧ PX G H F M Ed E ∧
  ∀ M' H' F', Qs M' → StR G σ H' F' ρ M' → Keep H F M H' F' M' → Sub F F' → Q σ H'
theorem g_sub {o i : Expr} {to ti : WE} {tpos : Pos} (hu : X.A.units + 64 < cLine) (hp : plainIx i = true) (ho : PE X o (rdE G E to)) (hi : PE X i (rdE G E ti)) : PG X (.Subscript o i tpos) (gSubD G E to ti) := by
  refine ⟨fun pins s σ H x v Q I rx ⟨dx, ρ, F, M, Ed, Qs, S, r1, q, px, k⟩ => ?_⟩
  have hasg : assign (.Subscript o i tpos) X.env v = (do
      let ov ← holding [v] (eval o X.env)
      let iv ← holding [v, ov] (eval i X.env)
      standAt tpos
      holding [v, ov, iv] (setItem ov iv v)
      release [v, ov, iv] []) := by
    cases i with
    | Slice => cases hp
    | _ => rfl
  rw [hasg]
  refine wpAny_bind (wpAny_holding (rd_use ho I S q px fun ov s2 y dy H2 F2 M2 I2 S2 K2 u2 r2 ry q2 => ?_))
  refine wpAny_bind (wpAny_holding (rd_use hi I2 S2 q2 (px.step K2 u2) fun iv s3 z dz H3 F3 M3 I3 S3 K3 u3 r3 rz q3 => ?_))
  refine wpAny_bind (wpAny_standAt (wpAny_bind (wpAny_holding (thn (setD hu I3 S3.sr (r2.mono u3) r3 (r1.mono (u2.trans u3)) ry rz rx q3) fun _ s4 ⟨H4, M4, I4, S4, K4, q4⟩ => ?_))))
  exact wpAny_release ⟨σ, H4, I4, k M4 H4 F3 q4 ⟨S4, S3.vr, S3.len⟩ ((K2.trans K3).trans K4) (u2.trans u3)⟩
theorem st_sub {o i : Expr} {to ti : WE} {tpos : Pos} (hu : X.A.units + 64 < cLine) (hp : plainIx i = true) (ha : PE X a (rdE G E ta)) (ho : PE X o (rdE G E to)) (hi : PE X i (rdE G E ti)) (hs : swapsWithSole [.Subscript o i tpos] a pos.line X.env = pure false) :
    PS X (.Assign [.Subscript o i tpos] a pos) (rdS G E fun ρ M N => ta ρ M (fun d M1 => to ρ M1 (fun x M2 => ti ρ M2 (fun j M3 => opSet x j d M3 fun M4 => N.nx ρ M4) N.ex) N.ex) N.ex) := by
  refine PS_imp (ps_asg ha (g_sub hu hp ho hi) hs (by rfl) (by rfl)) fun C σ H ⟨ρ, F, M, N, S, q, n⟩ => ⟨ρ, F, M, _, N.ex, S, q, fun d M1 v H1 F1 q1 S1 K1 u1 r1 => ?_, n.ex⟩
  exact ⟨d, ρ, F1, M1, N.ex, _, S.step S1 u1, r1, q1, n.ex.step K1 u1, fun M' H' F' q' S' K' u' => n.nx ρ M' σ H' F' q' S' (K1.trans K') (u1.trans u')⟩
/-- for -/
theorem st_for {tgE iter : Expr} {tg : Tg} {wi : WI} {body : List Stmt} {u : WS} (hp : PassesOwn (model X.prog X.w) X.A X.env X.xe) (hc : X.calm = true) (hi : PI X tgE iter (rdI G E wi)) (hg : PG X tgE (gB G tg)) (hb : PSs X body (rdS G E u))
    (hs : ∀ x, foldedSetIterable iter X.env x = pure x) :
    PS X (.For tgE iter body [] pos) (rdS G E fun ρ M N => wi ρ M (fun xs g M1 => walkM g (fun x ρ1 M2 K => ∃ ρ2, bindTg tg x ρ1 = some ρ2 ∧ u ρ2 M2 { N with nx := K }) xs ρ M1 N.nx) N.ex) := by
  refine PS_imp (ps_for hp hc hi hg hb hs) fun C σ H ⟨ρ, F, M, N, S, q, n⟩ => ⟨ρ, F, M, _, N.ex, S, q, fun xs g M1 J H1 F1 q1 S1 K1 u1 it => ?_, n.ex⟩
  refine ⟨fun i m σ' H' => m = xs.length - i ∧ i ≤ xs.length ∧ ∃ ρ' F' M', StR G σ' H' F' ρ' M' ∧ Keep H1 F1 M1 H' F' M' ∧ Sub F1 F' ∧
    walkM g (fun x ρ1 M2 K => ∃ ρ2, bindTg tg x ρ1 = some ρ2 ∧ u ρ2 M2 { N with nx := K }) (xs.drop i) ρ' M' N.nx,
    ⟨xs.length, by simp, Nat.zero_le _, ρ, F1, M1, S.step S1 u1, Keep.refl H1 F1 M1, Sub.refl F1, by simpa using q1⟩, ?_⟩
  rintro i m σ2 H2 ⟨rfl, hi2, ρ2, F2, M2, S2, K2, u2, q2⟩
  by_cases hlt : i < xs.length
  · obtain ⟨x, hx, ed⟩ := drop_get hlt
    rw [ed] at q2
    obtain ⟨hg2, ρ3, hb3, q2⟩ := q2
    refine .inr ⟨it.go i H2 F2 M2 hlt S2.sr u2 K2.frz hg2, _, fun σ' H' p' => ⟨xs.length - (i + 1), by omega, p'⟩, fun v H3 y => ?_⟩
    obtain ⟨F3, S3, K3, u3, rv⟩ := it.yld i x v H2 H3 F2 M2 hx S2.sr u2 K2.frz hg2 y
    refine ⟨x, ρ2, ρ3, F3, M2, S2.step S3 u3, rv, hb3, fun σ' S' _ => ⟨ρ3, F3, M2, _, S', q2, fun ρ4 M4 σ4 H4 F4 q4 S4 K4 u4 => ?_, (n.step (K1.trans (K2.trans K3)) (u1.trans (u2.trans u3))).rt, (n.step (K1.trans (K2.trans K3)) (u1.trans (u2.trans u3))).ex⟩⟩
    exact ⟨rfl, hlt, ρ4, F4, M4, S4, K2.trans (K3.trans K4), u2.trans (u3.trans u4), q4⟩
  · have e : i = xs.length := by omega
    subst e
    rw [List.drop_length] at q2
    obtain ⟨hg2, q2⟩ := q2
    exact .inl ⟨it.stop H2 F2 M2 S2.sr u2 K2.frz hg2, n.nx ρ2 M2 σ2 H2 F2 q2 S2 (K1.trans K2) (u1.trans u2)⟩
/-- while -/
theorem st_whl {tt : WT} {body : List Stmt} {u : WS} (hp : PassesOwn (model X.prog X.w) X.A X.env X.xe) (hc : PT X c (rdT G E tt)) (hb : PSs X body (rdS G E u)) :
    PS X (.While c body [] pos) (rdS G E fun ρ M N => ∃ n, whileN (fun ρ1 M1 Q => tt ρ1 M1 Q N.ex) (fun ρ1 M1 K => u ρ1 M1 { N with nx := K }) N.nx n ρ M) := by
  refine PS_imp (ps_while hp hc hb) fun C σ H ⟨ρ, F, M, N, S, ⟨k, q⟩, n⟩ => ?_
  refine ⟨fun m σ' H' => ∃ ρ' F' M', StR G σ' H' F' ρ' M' ∧ Keep H F M H' F' M' ∧ Sub F F' ∧ whileN (fun ρ1 M1 Q => tt ρ1 M1 Q N.ex) (fun ρ1 M1 K => u ρ1 M1 { N with nx := K }) N.nx m ρ' M',
    ⟨k, ρ, F, M, S, Keep.refl H F M, Sub.refl F, q⟩, ?_⟩
  rintro m σ1 H1 ⟨ρ1, F1, M1, S1, K1, u1, q1⟩
  cases m with
  | zero => exact q1.elim
  | succ m =>
    refine ⟨ρ1, F1, M1, _, N.ex, S1, q1, fun b M2 H2 F2 q2 S2 K2 u2 => ?_, (n.step K1 u1).ex⟩
    cases b with
    | true =>
      simp only [if_true] at q2 ⊢
      refine ⟨_, fun σ' H' z => ⟨m, Nat.lt_succ_self m, z⟩, ?_⟩
      refine ⟨ρ1, F2, M2, _, S1.step S2 u2, q2, fun ρ3 M3 σ3 H3 F3 q3 S3 K3 u3 => ⟨ρ3, F3, M3, S3, K1.trans (K2.trans K3), u1.trans (u2.trans u3), q3⟩, (n.step (K1.trans K2) (u1.trans u2)).rt, (n.step (K1.trans K2) (u1.trans u2)).ex⟩
    | false =>
      simp only [Bool.false_eq_true, if_false] at q2 ⊢
      exact n.nx ρ1 M2 σ1 H2 F2 q2 (S1.step S2 u2) (K1.trans K2) (u1.trans u2)
/-! ### what is not changed any more -/
theorem frozen_do {pins : List (Addr × Obj)} {σ : L2.St} {H F : Hp} {M : Sto} {s : Shared} {v : V} {d : DS.D} {Qd : Po DS.D} (I : Inv X pins σ H s) (S : SR G H F M) (r : Rep G F v d) (q : frozen d M Qd) :
    ∃ H' F' M' d', Inv X pins σ H' s ∧ SR G H' F' M' ∧ Keep H F M H' F' M' ∧ Sub F F' ∧ Rep G F' v d' ∧ Qd d' M' := by
  unfold frozen at q
  split at q
  · rename_i a
    obtain ⟨o, hm, q⟩ := q
    obtain rfl := rep_mref r
    obtain ⟨ho, hH, f⟩ := S.frz hm
    cases hd : isDic ho with
    | false =>
      obtain ⟨S', u', K', r'⟩ := f ho (.inl ⟨rfl, hd⟩)
      have e : upd H a ho = H := by
        funext b
        by_cases h : b = a
        · subst h; rw [upd_same, hH]
        · rw [upd_ne h]
      rw [e] at S' K'
      exact ⟨H, _, _, _, I, S', K', u', r', q⟩
    | true =>
      have mu : Mut (some ho) := by cases ho <;> first | (cases hd; done) | trivial
      obtain ⟨ob, I'⟩ := I.lock hH mu
      obtain ⟨S', u', K', r'⟩ := f (.frz ob ho) (.inr ⟨hd, mu, ob, rfl⟩)
      exact ⟨_, _, _, _, I', S', K', u', r', q⟩
  · exact ⟨H, F, M, d, I, S, Keep.refl H F M, Sub.refl F, r, q⟩
theorem s_frz (ha : PE X a (rdE G E ta)) : PE X a (rdE G E fun ρ M Q Ex => ta ρ M (fun d M1 => frozen d M1 Q) Ex) := by
  refine ⟨fun pins s σ H Q I ⟨ρ, F, M, Qd, Ed, S, q, pq, px⟩ => ?_⟩
  refine rd_use ha I S q px fun u s1 v d H1 F1 M1 I1 S1 K1 u1 r1 rv q1 => ?_
  obtain ⟨H2, F2, M2, d2, I2, S2, K2, u2, r2, q2⟩ := frozen_do I1 S1.sr r1 q1
  exact ⟨v, H2, I2, rv, pq d2 M2 v H2 F2 q2 S2 (K1.trans K2) (u1.trans u2) r2⟩
theorem pss_fzv {i : Nat} {rest : List Stmt} {u : WS} (h : PSs X rest (rdS G E u)) : PSs X rest (rdS G E fun ρ M N => ∃ d, ρ[i]? = some (some (.d d)) ∧ frozen d M fun d' M1 => u (ρ.set i (some (.d d'))) M1 N) := by
  refine ⟨fun pins s σ H C I ⟨ρ, F, M, N, S, ⟨d, hd, q⟩, n⟩ => ?_⟩
  obtain ⟨v, hv, r⟩ := S.vr i _ hd
  cases r with
  | d r =>
  obtain ⟨H2, F2, M2, d2, I2, S2, K2, u2, r2, q2⟩ := frozen_do I S.sr r q
  have e : σ.set i (some v) = σ := by
    apply List.ext_getElem?
    intro j
    by_cases hj : i = j
    · subst hj
      rw [List.getElem?_set_self (List.getElem?_eq_some_iff.mp hv).1, hv]
    · rw [List.getElem?_set_ne hj]
  have S3 := (S.step S2 u2).set (i := i) r2
  rw [e] at S3
  exact h.run pins s σ H2 C I2 ⟨_, F2, M2, N, S3, q2, n.step K2 u2⟩
end
end DS
end
section
set_option Elab.async false
set_option linter.all false
set_option maxRecDepth 100000
/-! DsL: what takes up an iterator: list(d.items()), list(d.values()), sorted(d.values()), list(range(..)), dict(zip(..)). -/
namespace PySem.W
open PySem PySem.Calls PyProof.Rows PyProof.V PySem.Spec
/-- sorted(what gives ints) -/
theorem dsSorted {prog : Program} {w : World} {A : Around} {E : Value → Shared → Prop} {s : Shared} {T : String} {r d : Addr} {n : Nat} {P : Nat → Value → Prop} {OK : Heap → Prop} {Q : Value → Shared → Prop} {ns : List Int}
    (K : KdlSrc prog w T r d n P OK) (hh : A.handled = none) (hok : OK s.heap) (hn : n ≤ sizeLine) (hP : ∀ (vs : List Value), vs.length = n → (∀ (j : Nat) (v : Value), vs[j]? = some v → P j v) → IntsAre vs ns)
    (h : ∀ (h1 h' : Heap) (tk : Nat) (out : List Value) (os : List Int) (ep : Nat), (∀ b o, s.heap.get? b = some o → h1.get? b = some o) → IntsAre out os → os.Perm ns → os.Pairwise (· ≤ ·) → (∀ b o, h1.get? b = some o → h'.get? b = some o) →
      h'.get? h1.objs.size = some { cls := .type "list", data := .seq out.toArray ep } → Q (.ref h1.objs.size) { s with heap := h', toks := tk }) :
    wpAny (model prog w) A (call (.builtin "sorted") [.ref r]) Q E s := by
  refine call_function_entry kind_sorted plain_sorted entry_sorted (args_sorted1 _) ?_
  unfold Builtin.«sorted»
  refine wpAny_bind (m := checkCount "sorted" 1 1 _) (wpAny_pure ?_)
  refine wpAny_bind (kdu_collect (A := A.in1) K hh hok hn fun h' tk acc hk hacc => ?_)
  have hl : acc.toList.length = n := by rw [Array.length_toList]; exact hacc.1
  refine wpAny_bind (wpAny_newList ?_ (by rw [hl]; exact hn))
  have hi := hP acc.toList hl fun j v e => hacc.2 j v (by rw [← Array.getElem?_toList]; exact e)
  have hoL : (h'.push (seqObj "list" acc.toList.toArray 0)).get? h'.objs.size = some (seqObj "list" acc.toList.toArray 0) := Heap.get?_push_size _ rfl
  show wpAny _ _ _ _ _ { s with heap := h'.push (seqObj "list" acc.toList.toArray 0), toks := tk }
  refine wpAny_bind (wpAny_holding (wpAny_call_entry slot_list_sort ⟨_, hoL, rfl⟩ entry_list_sort (SrtO.list_sort_ord SrtO.swo_int hoL (by rw [hl]; exact hn) (fun h2 => SrtO.ints_sortable hi h2) fun out h1 h2 => ⟨_, rfl, ?_⟩) (args_list_sort _)))
  obtain ⟨k1, k2, k3⟩ := SrtO.ints_out hi h1 h2
  obtain ⟨ep, he'⟩ := sortedHeap_at (vs := acc.toList) (out := out.toArray) hoL
  refine wpAny_pure ⟨_, rfl, h h' _ tk out _ ep hk k1 k2 k3 (fun b o e => ?_) he'⟩
  have hb := Heap.lt_size e
  show (sortedHeap (h'.push (seqObj "list" acc.toList.toArray 0)) h'.objs.size acc.toList out.toArray).get? b = some o
  rw [sortedHeap_old (Nat.ne_of_lt hb) (by rw [size_push']; exact Nat.lt_succ_of_lt hb)]
  exact Heap.get?_push_of_some _ e
end PySem.W
namespace DS
open PySem PySem.Spec PyProof.Rows L2 LamX
section
variable {G : GC} {X : Cx} {E : XK} {a b c : Expr} {ta tb tc : WE} {pos p : Pos}
theorem vw_dicK {H F : Hp} {M : Sto} {d : DS.D} {v : V} {kvs : List (DK × DS.D)} (S : SR G H F M) (r : Rep G F v d) (e : vw M d = .dic kvs) (hk : ∀ kv ∈ kvs, isTK kv.1 = false) : ∃ a vs, v = .ref a ∧ Rd H a (.dK vs) ∧ RepK G F vs kvs := by
  have noT : ∀ {vs : List (List Key × V)}, RepT G F vs kvs → kvs ≠ [] → False := fun t n => by
    cases t with
    | nil => exact n rfl
    | cons r t => have := hk _ List.mem_cons_self; simp [isTK] at this
  cases r with
  | dicK h t => cases e; exact ⟨_, _, rfl, S.rd h, t⟩
  | dicT h t n => cases e; exact (noT t n).elim
  | mref a =>
    have ev : vw M (.mref a) = (match M a with | some o => o.d | none => .mref a) := rfl
    rw [ev] at e
    cases h : M a with
    | none => rw [h] at e; cases e
    | some o =>
      rw [h] at e
      cases o with
      | lst _ => cases e
      | ins _ _ => cases e
      | dic ks =>
        have e' : ks = kvs := by injection e
        subst e'
        obtain ⟨_, ⟨vs, hh, t⟩ | ⟨vs, hh, t, n⟩⟩ := S.mo a _ h
        · exact ⟨a, vs, rfl, .inl hh, t⟩
        · exact (noT t n).elim
  | _ => cases e
theorem RepK.vals {F : Hp} : ∀ {vs : List (Key × V)} {kvs : List (DK × DS.D)}, RepK G F vs kvs → RepL G F (vs.map (·.2)) (kvs.map fun kv => kv.2)
  | _, _, .nil => .nil
  | _, _, .cons r t => .cons r (RepK.vals t)
/-- the heap has grown -/
theorem SR.ext {H H' F : Hp} {M : Sto} (S : SR G H F M) (k : ∀ b o, H b = some o → H' b = some o) : SR G H' F M := by
  refine ⟨fun a o e => ?_, fun a m e => ?_, S.tabs.ext k, S.ntb, fun a o e hh => k _ _ (S.hard a o e hh), fun a o e hh => ?_⟩
  · rcases S.sub a o e with q | ⟨ob, q⟩
    · exact .inl (k _ _ q)
    · exact .inr ⟨ob, k _ _ q⟩
  · obtain ⟨h1, h2⟩ := S.mo a m e
    refine ⟨h1, ?_⟩
    obtain ⟨u, hu⟩ := h2.some
    exact h2.mono (by rw [k _ _ hu, hu]) (Sub.refl F)
  · obtain ⟨ob, q⟩ := S.dics a o e hh
    exact ⟨ob, k _ _ q⟩
theorem Keep.ext {H H' F : Hp} {M : Sto} (k : ∀ b o, H b = some o → H' b = some o) : Keep H F M H' F M := fun a o e m _ => ⟨k _ _ e, m, fun z _ => z⟩
theorem SR.adoptP {H : Hp} {M : Sto} {ts : List Addr} {kvs : List (Key × V)} (hk : Paired (fun (t : Addr) (q : Key × V) => H t = some (.tup [kV q.1, q.2])) ts kvs) : ∀ {F : Hp} {ds : List (DK × DS.D)}, SR G H F M → RepK G F kvs ds →
    ∃ F', SR G H F' M ∧ Keep H F M H F' M ∧ Sub F F' ∧ RepL G F' (ts.map V.ref) (ds.map fun kv => .tup [ofKey kv.1, kv.2]) := by
  induction hk with
  | nil => intro F ds S r; cases r; exact ⟨F, S, Keep.refl H F M, Sub.refl F, .nil⟩
  | cons h t ih =>
    intro F ds S r
    cases r with
    | @cons k v _ d _ r rt =>
      obtain ⟨S1, u1⟩ := S.adopt h
      obtain ⟨F', S', k', u', rl⟩ := ih S1 (rt.mono u1)
      refine ⟨F', S', (Keep.adopt h).trans k', u1.trans u', .cons (.tup (u' _ _ upd_same) (.cons ?_ (.cons (r.mono (u1.trans u')) .nil))) rl⟩
      cases k with
      | inl i => exact .int i
      | inr s => exact .str s
variable {p2 apos cpos : Pos} {mu : Bool}
theorem s_listItm (hc : X.calm = true) (hg : Gl X "list") (hm : X.mg "list" = none) (hb : notSuper a = true) (hl : (apos.endLine == cpos.line) = true) (ha : PE X a (rdE G E ta)) :
    PE X (.Call (.Name "list" p) [.Call (.Attribute a "items" apos) [] [] cpos] [] pos) (rdE G E fun ρ M Q Ex => ta ρ M (fun d M1 => ∃ kvs, vw M1 d = .dic kvs ∧ (∀ kv ∈ kvs, isTK kv.1 = false) ∧ opBt .list mu (kvs.map fun kv => .tup [ofKey kv.1, kv.2]) M1 Q) Ex) := by
  refine ⟨fun pins s σ H Q I ⟨ρ, F, M, Qd, Ed, S, q, pq, px⟩ => ?_⟩
  refine wpAny_Call_Name_kw (ld_blt I hg hm (u := .type "list") (by decide +kernel) ?_ (by decide) (by decide))
  have hs : starEach [.Call (.Attribute a "items" apos) [] [] cpos] X.env = (false, eval (.Call (.Attribute a "items" apos) [] [] cpos) X.env) :: starEach [] X.env := rfl
  refine PyProof.Rows.callWith_type1 ?_ hs rfl
  rw [hs]
  show wpAny _ _ (spliced ((false, eval (.Call (.Attribute a "items" apos) [] [] cpos) X.env) :: backTo pos (starEach [] X.env))) _ _ s
  refine Calls.spliced_cons ?_
  refine wpAny_Call_method (T := "dict") (id := "dict.items") (attrBase_eq hb) rfl hl PySem.F.plainAttrs_dict PySem.F.slot_dict_items PySem.F.type_dict_items (rd_use ha I S q px fun u s1 x dx H1 F1 M1 I1 S1 K1 u1 r1 rx ⟨kvs, e, hk, q1⟩ => ?_)
  obtain ⟨d, vs', rfl, hd, t⟩ := vw_dicK S1.sr r1 e hk
  cases rx
  obtain ⟨hz, hs0, vs, kv, hdo⟩ := dk_rd I1.hok hd
  obtain ⟨ep, hat⟩ := hdo.dictAt
  have lk : vs'.length = vs.length := Paired.length kv
  have I2 : Inv X pins σ H1 { s1 with heap := s1.heap.push { cls := .type "dict_items", data := .fields #[.ref d] } } := I1.kept (t' := s1.toks) fun b ob q => Heap.get?_push_of_some _ q
  refine ⟨hdo.typeIs, hdo.mapOf.noDict, ?_⟩
  show wpAny _ _ (callWith cpos (.builtin "dict.items") [.ref d] [] []) _ X.xe s1
  refine method_meetsIn PySem.F.slot_dict_items PySem.F.entry_dict_items rfl (PySem.evalArgs_none ⟨rfl, hdo.typeIs, PySem.F.args_dict_items_1 _, _, meets_dict_items (mixKind X.prog X.w) d hs0, ⟨vs, hdo⟩, ?_⟩)
  refine Calls.spliced_nil ?_
  refine PySem.W.kdx_call (knd := mixKind X.prog X.w) (kvs := vs) (ep := ep) (I1.ok.hd hc) ⟨_, Heap.get?_push_size _ rfl, rfl, rfl⟩ (hat.push _) (by omega) fun h' tk acc c as hk hS hl hG hacc => ?_
  obtain ⟨H', k1, k2, k3, k4, k5, k6, J⟩ := LiI.items_laid (tk := tk) I2 hz kv hk hS hl hG hacc
  refine ⟨.ref _, H', J, rfl, ?_⟩
  obtain ⟨F', S', kk, uu, rl⟩ := SR.adoptP k6 (S1.sr.ext k1) t
  have Kt := (Keep.ext k1).trans kk
  have hpF : F' _ = none := (kk _ _ k5 (S1.sr.mnone k2) fun _ z => by cases z).2.2 (S1.sr.fnone k2) rfl
  exact (pq.step K1 u1).madeAt Kt uu S' k2 k5 hpF (S1.sr.mnone k2) rl q1.2
/-- d.values() as it stands -/
theorem vals_view {Qf : Value → Shared → Prop} (hb : notSuper a = true) (hl : (apos.endLine == cpos.line) = true) (ha : PE X a (rdE G E ta)) {pins : List (Addr × Obj)} {s : Shared} {σ : L2.St} {H F : Hp} {ρ : DEnv} {M : Sto} {Qd : List DS.D → Sto → Prop} {Ed : Po Exn} (I : Inv X pins σ H s) (S : StR G σ H F ρ M)
    (q : ta ρ M (fun d M1 => ∃ kvs, vw M1 d = .dic kvs ∧ (∀ kv ∈ kvs, isTK kv.1 = false) ∧ Qd (kvs.map fun kv => kv.2) M1) Ed) (px : PX G H F M Ed E)
    (k : ∀ s2 H1 F1 M1 (r c : Addr) (vs : List (Key × V)) (ws : List (Key × Value)) (ep : Nat) (ds : List DS.D), Inv X pins σ H1 s2 → StR G σ H1 F1 ρ M1 → Keep H F M H1 F1 M1 → Sub F F1 → s2.heap.IsValuesView r c → s2.heap.DictAt (mixKind X.prog X.w) c ws ep → KV vs ws → vs.length ≤ sizeLine →
      RepL G F1 (vs.map (·.2)) ds → Qd ds M1 → Qf (.ref r) s2) :
    wpAny (model X.prog X.w) X.A (eval (.Call (.Attribute a "values" apos) [] [] cpos) X.env) Qf X.xe s := by
  refine wpAny_Call_method (T := "dict") (id := "dict.values") (attrBase_eq hb) rfl hl PySem.F.plainAttrs_dict PySem.F.slot_dict_values PySem.F.type_dict_values (rd_use ha I S q px fun u s1 x dx H1 F1 M1 I1 S1 K1 u1 r1 rx ⟨kvs, e, hk, q1⟩ => ?_)
  obtain ⟨d, vs', rfl, hd, t⟩ := vw_dicK S1.sr r1 e hk
  cases rx
  obtain ⟨hz, hs0, vs, kv, hdo⟩ := dk_rd I1.hok hd
  obtain ⟨ep, hat⟩ := hdo.dictAt
  have I2 : Inv X pins σ H1 { s1 with heap := s1.heap.push { cls := .type "dict_values", data := .fields #[.ref d] } } := I1.kept (t' := s1.toks) fun b ob q => Heap.get?_push_of_some _ q
  refine ⟨hdo.typeIs, hdo.mapOf.noDict, ?_⟩
  show wpAny _ _ (callWith cpos (.builtin "dict.values") [.ref d] [] []) _ X.xe s1
  refine method_meetsIn PySem.F.slot_dict_values PySem.F.entry_dict_values rfl (PySem.evalArgs_none ⟨rfl, hdo.typeIs, PySem.F.args_dict_values_1 _, _, meets_dict_values (mixKind X.prog X.w) d hs0, ⟨vs, hdo⟩, ?_⟩)
  have rl : RepL G F1 (vs'.map (·.2)) (kvs.map fun kv => kv.2) := RepK.vals t
  exact k _ H1 F1 M1 _ d vs' vs ep _ I2 S1 K1 u1 ⟨_, Heap.get?_push_size _ rfl, rfl, rfl⟩ (hat.push _) kv hz rl q1
theorem list_of_view {r : Addr} {pins : List (Addr × Obj)} {s : Shared} {σ : L2.St} {H F : Hp} {M : Sto} {vs : List (Key × V)} {ws : List (Key × Value)} {d : Addr} {ep : Nat} {ds : List DS.D} {Qd : Po DS.D} {Q : VK} (hc : X.calm = true) (I : Inv X pins σ H s) (S : SR G H F M)
    (hv : s.heap.IsValuesView r d) (hat : s.heap.DictAt (mixKind X.prog X.w) d ws ep) (kv : KV vs ws) (hz : vs.length ≤ sizeLine) (t : RepL G F (vs.map (·.2)) ds) (q : made mu (.lst ds) M Qd) (pq : PQ G H F M Qd Q) :
    wpAny (model X.prog X.w) X.A (call (.type "list") [.ref r]) (EP X pins σ Q) X.xe s := by
  have lk : vs.length = ws.length := Paired.length kv
  refine PySem.W.kdl_call (PySem.W.kdl_values (knd := mixKind X.prog X.w) (kvs := ws) (ep := ep)) (I.ok.hd hc) ⟨hv, hat⟩ (by rw [← lk]; exact hz) fun h' tk acc c' hk hD hacc => ?_
  have hvals : Vals (vs.map (·.2)) acc.toList := by
    refine vals_of_idx _ _ (by rw [List.length_map, Array.length_toList, hacc.1, lk]) fun j u hu => ?_
    obtain ⟨k, hw⟩ := hacc.2 j u (by rw [← Array.getElem?_toList]; exact hu)
    have hj : j < vs.length := by rw [lk]; exact (List.getElem?_eq_some_iff.mp hw).1
    obtain ⟨u', h1, h2⟩ := kv_get kv (i := j) (k := vs[j].1) (v := vs[j].2) (by rw [List.getElem?_eq_getElem hj])
    rw [hw] at h1
    cases h1
    exact ⟨_, by rw [List.getElem?_map, List.getElem?_eq_getElem hj] <;> rfl, h2⟩
  exact ⟨.ref s.heap.objs.size, upd H s.heap.objs.size (.lst (vs.map (·.2))), I.laid (t' := tk) hk (Nat.le_refl _)
    (show ObjOk X.prog X.w _ _ _ (.lst (vs.map (·.2))) from ⟨by rw [List.length_map]; exact hz, acc.toList, c', hvals, by rw [Array.toArray_toList]; exact hD⟩), rfl, pq.madeL S (I.hok.fresh (Nat.le_refl _)) t q⟩
theorem s_listVls (hc : X.calm = true) (hg : Gl X "list") (hm : X.mg "list" = none) (hb : notSuper a = true) (hl : (apos.endLine == cpos.line) = true) (ha : PE X a (rdE G E ta)) :
    PE X (.Call (.Name "list" p) [.Call (.Attribute a "values" apos) [] [] cpos] [] pos) (rdE G E fun ρ M Q Ex => ta ρ M (fun d M1 => ∃ kvs, vw M1 d = .dic kvs ∧ (∀ kv ∈ kvs, isTK kv.1 = false) ∧ opBt .list mu (kvs.map fun kv => kv.2) M1 Q) Ex) := by
  refine ⟨fun pins s σ H Q I ⟨ρ, F, M, Qd, Ed, S, q, pq, px⟩ => ?_⟩
  refine wpAny_Call_Name_kw (ld_blt I hg hm (u := .type "list") (by decide +kernel) ?_ (by decide) (by decide))
  have hs : starEach [.Call (.Attribute a "values" apos) [] [] cpos] X.env = (false, eval (.Call (.Attribute a "values" apos) [] [] cpos) X.env) :: starEach [] X.env := rfl
  refine PyProof.Rows.callWith_type1 ?_ hs rfl
  rw [hs]
  show wpAny _ _ (spliced ((false, eval (.Call (.Attribute a "values" apos) [] [] cpos) X.env) :: backTo pos (starEach [] X.env))) _ _ s
  refine Calls.spliced_cons (vals_view (Qd := fun ds M1 => opBt .list mu ds M1 Qd) hb hl ha I S q px fun s2 H1 F1 M1 r c vs ws ep ds I1 S1 K1 u1 hv hat kv hz t q1 => ?_)
  refine Calls.spliced_nil ?_
  exact list_of_view hc I1 S1.sr hv hat kv hz t q1.2 (pq.step K1 u1)
theorem intsV {F : Hp} {vs : List V} {ds : List DS.D} {ns : List Int} (t : RepL G F vs ds) (e : intsD ds = some ns) : vs = ns.map V.int := t.intsD e
theorem s_sortedVls (hc : X.calm = true) (hg : Gl X "sorted") (hm : X.mg "sorted" = none) (hb : notSuper a = true) (hl : (apos.endLine == cpos.line) = true) (ha : PE X a (rdE G E ta)) :
    PE X (.Call (.Name "sorted" p) [.Call (.Attribute a "values" apos) [] [] cpos] [] pos) (rdE G E fun ρ M Q Ex => ta ρ M (fun d M1 => ∃ kvs, vw M1 d = .dic kvs ∧ (∀ kv ∈ kvs, isTK kv.1 = false) ∧ opBt .sorted mu (kvs.map fun kv => kv.2) M1 Q) Ex) := by
  refine ⟨fun pins s σ H Q I ⟨ρ, F, M, Qd, Ed, S, q, pq, px⟩ => ?_⟩
  refine wpAny_Call_Name_kw (ld_blt I hg hm (u := .builtin "sorted") (by decide +kernel) ?_ (by decide) (by decide))
  have hs : starEach [.Call (.Attribute a "values" apos) [] [] cpos] X.env = [(false, eval (.Call (.Attribute a "values" apos) [] [] cpos) X.env)] := rfl
  rw [hs]
  refine PySem.callWith_builtin1 (vals_view (Qd := fun ds M1 => opBt .sorted mu ds M1 Qd) hb hl ha I S q px fun s2 H1 F1 M1 r c vs ws ep ds I1 S1 K1 u1 hv hat kv hz t ⟨ns, en, q1⟩ => ?_)
  have lk : vs.length = ws.length := Paired.length kv
  have ev := intsV t en
  refine PySem.W.dsSorted (ns := ns) (PySem.W.kdl_values (knd := mixKind X.prog X.w) (kvs := ws) (ep := ep)) (I1.ok.hd hc) ⟨hv, hat⟩ (by rw [← lk]; exact hz) (fun us hlen hus => ?_) fun h1 h' tk out os ep' hk k1 k2 k3 hk' hD => ?_
  · refine ints_of_vals ?_
    rw [← ev]
    refine vals_of_idx _ _ (by rw [List.length_map, hlen, lk]) fun j u hu => ?_
    obtain ⟨k, hw⟩ := hus j u hu
    have hj : j < vs.length := by rw [lk]; exact (List.getElem?_eq_some_iff.mp hw).1
    obtain ⟨u', h1, h2⟩ := kv_get kv (i := j) (k := vs[j].1) (v := vs[j].2) (by rw [List.getElem?_eq_getElem hj])
    rw [hw] at h1
    cases h1
    exact ⟨_, by rw [List.getElem?_map, List.getElem?_eq_getElem hj] <;> rfl, h2⟩
  · have I2 : Inv X pins σ H1 { s2 with heap := h1, toks := tk } := I1.kept hk
    have hlen : (os.map V.int).length ≤ sizeLine := by
      rw [List.length_map, k2.length_eq]
      have e := congrArg List.length ev
      rw [List.length_map, List.length_map] at e
      omega
    have I3 : Inv X pins σ (upd H1 h1.objs.size (.lst (os.map V.int))) { s2 with heap := h', toks := tk } := I2.laid (t' := tk) hk' (Nat.le_refl _) ⟨hlen, out, ep', vals_of_ints k1, hD⟩
    exact ⟨.ref _, _, I3, rfl, (pq.step K1 u1).madeL S1.sr (I2.hok.fresh (Nat.le_refl _)) (RepL.ofInts os) (q1 os k2 k3)⟩
/-- list(range(n)) -/
theorem list_of_range {lo hi : Int} {t u v : Tok} {pins : List (Addr × Obj)} {s : Shared} {σ : L2.St} {H F : Hp} {M : Sto} {Qd : Po DS.D} {Q : VK} {r : Addr} (hc : X.calm = true) (I : Inv X pins σ H s) (S : SR G H F M) (hr : IsRange s.heap r lo hi 1 t u v)
    (h1 : -(2 ^ 62) ≤ lo) (h2 : lo < 2 ^ 62) (h3 : -(2 ^ 62) ≤ hi) (h4 : hi < 2 ^ 62) (q : opBt .list mu ((List.range (hi - lo).toNat).map fun (i : Nat) => .int (lo + i)) M Qd) (pq : PQ G H F M Qd Q) :
    wpAny (model X.prog X.w) X.A (call (.type "list") [.ref r]) (EP X pins σ Q) X.xe s := by
  obtain ⟨hl, q⟩ := q
  have hl' : (hi - lo).toNat ≤ lim := by simpa using hl
  have hz : (hi - lo).toNat ≤ sizeLine := lim_line hl'
  refine call_list_range (n := (hi - lo).toNat) (I.ok.hd hc) hr (small_one h1 h2 h3 h4) (by rw [rangeSize_one]; split <;> omega) (Nat.le_trans hl' (by decide)) fun h' tk acc c' hk hD hacc => ?_
  have em : (((List.range (hi - lo).toNat).map fun (i : Nat) => lo + (i : Int)).map V.int).length = (hi - lo).toNat := by simp
  have hvals : Vals (((List.range (hi - lo).toNat).map fun (i : Nat) => lo + (i : Int)).map V.int) acc.toList := by
    refine vals_of_idx _ _ (by rw [em, Array.length_toList, hacc.1]) fun j w hw => ?_
    obtain ⟨t', e⟩ := hacc.2 j w (by rw [← Array.getElem?_toList]; exact hw)
    have hj : j < (hi - lo).toNat := by
      have := (List.getElem?_eq_some_iff.mp hw).1
      rw [Array.length_toList, hacc.1] at this
      exact this
    refine ⟨.int (lo + j), by simp [List.getElem?_range hj], t', ?_⟩
    rw [e, Int.mul_one]
  have er : RepL G F (((List.range (hi - lo).toNat).map fun (i : Nat) => lo + (i : Int)).map V.int) ((List.range (hi - lo).toNat).map fun (i : Nat) => DS.D.int (lo + i)) := by
    have := RepL.ofInts (G := G) (F := F) ((List.range (hi - lo).toNat).map fun (i : Nat) => lo + (i : Int))
    rw [List.map_map (f := fun (i : Nat) => lo + (i : Int)) (g := DS.D.int)] at this
    exact this
  exact ⟨.ref s.heap.objs.size, _, I.laid (t' := tk) hk (Nat.le_refl _) (show ObjOk X.prog X.w _ _ _ (.lst (((List.range (hi - lo).toNat).map fun (i : Nat) => lo + (i : Int)).map V.int)) from ⟨by rw [em]; exact hz, acc.toList, c', hvals, by rw [Array.toArray_toList]; exact hD⟩), rfl,
    pq.madeL S (I.hok.fresh (Nat.le_refl _)) er q⟩
theorem s_listRng1 (hc : X.calm = true) (hg : Gl X "list") (hm : X.mg "list" = none) (hg2 : Gl X "range") (hm2 : X.mg "range" = none) (hs : notStar a = true) (ha : PE X a (rdE G E ta)) :
    PE X (.Call (.Name "list" p) [.Call (.Name "range" p2) [a] [] cpos] [] pos) (rdE G E fun ρ M Q Ex => ta ρ M (fun x M1 => ∃ i, x = .int i ∧ itRng 0 i M1 fun xs _ M2 => opBt .list mu xs M2 Q) Ex) := by
  refine ⟨fun pins s σ H Q I ⟨ρ, F, M, Qd, Ed, S, q, pq, px⟩ => ?_⟩
  refine wpAny_Call_Name_kw (ld_blt I hg hm (u := .type "list") (by decide +kernel) ?_ (by decide) (by decide))
  have hs1 : starEach [.Call (.Name "range" p2) [a] [] cpos] X.env = (false, eval (.Call (.Name "range" p2) [a] [] cpos) X.env) :: starEach [] X.env := rfl
  refine PyProof.Rows.callWith_type1 ?_ hs1 rfl
  rw [hs1]
  show wpAny _ _ (spliced ((false, eval (.Call (.Name "range" p2) [a] [] cpos) X.env) :: backTo pos (starEach [] X.env))) _ _ s
  refine Calls.spliced_cons ?_
  have A1 := s_cons hs ha (s_nil (G := G) (E := E))
  refine Call_ (ld_blt I hg2 hm2 boot_range (PyProof.Rows.callWith_type1 (ra_use (Qd := on1 fun x M1 => ∃ i, x = .int i ∧ itRng 0 i M1 fun xs _ M2 => opBt .list mu xs M2 Qd) A1 I S q px fun us s1 vs ds H1 F1 M1 I1 S1 K1 u1 r1 rv hl q1 => ?_) (starEach_eq hs) rfl))
  obtain ⟨v, d, rfl, rfl, r, i, e, h1, h2, h3, h4, q2⟩ := on1_of r1 q1
  subst e
  obtain rfl := rep_int r
  obtain ⟨u, rfl, ⟨t, rfl⟩⟩ := vals1 rv
  refine call_range_1 (Calls.spliced_nil ?_)
  have I2 : Inv X pins σ H1 { s1 with heap := s1.heap.push { cls := .type "range", data := .fields #[.int 0 s1.toks, .int i t, .int 1 (s1.toks + 1)] }, toks := s1.toks + 1 + 1 } := I1.kept fun b o e => Heap.get?_push_of_some _ e
  exact list_of_range hc I2 S1.sr (IsRange.new ..) h1 h2 h3 h4 q2 (pq.step K1 u1)
theorem keyIs_rel {k : Key} {u : Value} (r : RelV (kV k) u) : keyIs k u = true := by
  cases k with
  | inl i => obtain ⟨t, rfl⟩ := r; exact keyIs_int i t
  | inr s => obtain ⟨t, rfl⟩ := r; exact keyIs_str s t
theorem zipRep {H F : Hp} {M : Sto} (S : SR G H F M) : ∀ {xs ys : List DS.D} {vs ws : List V} {us us2 : List Value} {kvs : List (DK × DS.D)}, RepL G F vs xs → RepL G F ws ys → Vals vs us → Vals ws us2 → pairsK (zipD xs ys) = some kvs → (∀ kv ∈ kvs, isTK kv.1 = false) →
    ∃ (ps : List (Key × V)) (prs : List (Key × Value)), RepK G F ps kvs ∧ KV ps prs ∧ prs.length = min us.length us2.length ∧ ∀ (i : Nat) (key v : Value), us[i]? = some key → us2[i]? = some v → ∃ k, prs[i]? = some (k, v) ∧ keyIs k key = true
  | [], _, _, _, _, _, kvs, .nil, _, .nil, _, e, _ => by simp only [zipD, pairsK] at e; cases e; exact ⟨[], [], .nil, .nil, by simp, fun i key v h => by simp at h⟩
  | x :: xs, [], _, _, _, _, kvs, .cons _ _, .nil, .cons _ _, .nil, e, _ => by simp only [zipD, pairsK] at e; cases e; exact ⟨[], [], .nil, .nil, by simp, fun i key v h h' => by simp at h'⟩
  | x :: xs, y :: ys, _, _, _, _, kvs, .cons r t, .cons (v := w) r' t', .cons (b := u) ru tu, .cons (b := u2) ru2 tu2, e, hk => by
    simp only [zipD, pairsK] at e
    split at e
    · rename_i k rest e1 e2
      cases e
      obtain ⟨ps, prs, h1, h2, h3, h4⟩ := zipRep S t t' tu tu2 e2 fun kv h => hk kv (List.mem_cons_of_mem _ h)
      rcases key_rep S r e1 with ⟨k1, rfl, rfl⟩ | ⟨ks, b, rfl, _, _⟩
      · refine ⟨(k1, w) :: ps, (k1, u2) :: prs, .cons r' h1, .cons ⟨rfl, ru2⟩ h2, by simp [h3], fun i key v a a2 => ?_⟩
        cases i with
        | zero => simp at a a2; subst a a2; exact ⟨k1, rfl, keyIs_rel ru⟩
        | succ i => simpa using h4 i key v (by simpa using a) (by simpa using a2)
      · have := hk _ List.mem_cons_self; simp [isTK] at this
    · cases e
theorem s_dictZip (hc : X.calm = true) (hg : Gl X "dict") (hm : X.mg "dict" = none) (hg2 : Gl X "zip") (hm2 : X.mg "zip" = none) (hs : notStar a = true) (hs2 : notStar b = true) (ha : PE X a (rdE G E ta)) (hb : PE X b (rdE G E tb)) :
    PE X (.Call (.Name "dict" p) [.Call (.Name "zip" p2) [a, b] [] cpos] [] pos) (rdE G E fun ρ M Q Ex => ta ρ M (fun x M1 => tb ρ M1 (fun y M2 => ∃ xs ys, (vw M2 x = .lst xs ∧ vw M2 y = .lst ys) ∧ opBt .dict mu (zipD xs ys) M2 Q) Ex) Ex) := by
  have A1 := s_cons hs ha (s_cons hs2 hb (s_nil (G := G) (E := E)))
  have hpl : allPlain [b] = true := by simp only [allPlain, hs2]; rfl
  refine ⟨fun pins s σ H Q I ⟨ρ, F, M, Qd, Ed, S, q, pq, px⟩ => ?_⟩
  refine wpAny_Call_Name_kw (ld_blt I hg hm (u := .type "dict") (by decide +kernel) ?_ (by decide) (by decide))
  have hs1 : starEach [.Call (.Name "zip" p2) [a, b] [] cpos] X.env = (false, eval (.Call (.Name "zip" p2) [a, b] [] cpos) X.env) :: starEach [] X.env := rfl
  refine PyProof.Rows.callWith_type1 ?_ hs1 rfl
  rw [hs1]
  show wpAny _ _ (spliced ((false, eval (.Call (.Name "zip" p2) [a, b] [] cpos) X.env) :: backTo pos (starEach [] X.env))) _ _ s
  refine Calls.spliced_cons ?_
  refine Call_ (ld_blt I hg2 hm2 PyProof.Rows.boot_zip (PyProof.Rows.callWith_type1 (ra_use (Qd := on2 fun x y M2 => ∃ xs ys, (vw M2 x = .lst xs ∧ vw M2 y = .lst ys) ∧ opBt .dict mu (zipD xs ys) M2 Qd) A1 I S q px fun us s1 vs ds H1 F1 M1 I1 S1 K1 u1 r1 rv hl q1 => ?_) (starEach_eq hs) (backTo_plain hpl)))
  obtain ⟨v, w, d, d', rfl, rfl, r, r', xs, ys, ⟨h, h'⟩, kvs, ek, hk, q2⟩ := on2_of r1 q1
  obtain ⟨c, vs, rfl, hc1, t⟩ := vw_lst S1.sr r h
  obtain ⟨c', vs', rfl, hc2, t'⟩ := vw_lst S1.sr r' h'
  obtain ⟨us1, us2, rfl, ru1, ru2⟩ := vals2 rv
  cases ru1
  cases ru2
  obtain ⟨its, rv1, p1, hz1⟩ := I1.list (show SqL X.K H1 c vs from .inl hc1)
  obtain ⟨its2, rv2, p2', hz2⟩ := I1.list (show SqL X.K H1 c' vs' from .inl hc2)
  refine call_zip_2 p1.isList p2'.isList fun h' hz hTI hTO hi1 hi2 hsz hk2 => Calls.spliced_nil ?_
  have I2 : Inv X pins σ H1 { s1 with heap := h' } := I1.kept (t' := s1.toks) hk2
  obtain ⟨ps, prs, hps, rel, hlen, hget⟩ := zipRep S1.sr t t' rv1 rv2 ek hk
  have la : c < s1.heap.objs.size := p1.lt
  have lb : c' < s1.heap.objs.size := p2'.lt
  refine PySem.call_dict_pairs (knd := mixKind X.prog X.w) (kvs := prs) (PySem.PairArg.zip (s1.heap.objs.size + 4) (s1.heap.objs.size + 2) (s1.heap.objs.size + 3) s1.heap.objs.size (s1.heap.objs.size + 1) c c' (PySem.W.ktu_apart s1.heap.objs.size c c' la lb) its.toArray its2.toArray) (I1.ok.hd hc)
    ⟨hz, hTI, ⟨_, _, hTO⟩, hi1, hi2, p1.isList.at fun o e => hk2 _ o e, p2'.isList.at fun o e => hk2 _ o e⟩ ⟨?_, fun i key v hi => ?_⟩ ?_ fun h3 tk hd3 hk3 => ?_
  · simp only [List.size_toArray]; exact hlen
  · obtain ⟨h1, h2⟩ := hi
    exact hget i key v (by simpa using h1) (by simpa using h2)
  · simp only [List.size_toArray]
    have := rv1.length
    omega
  · have hw : ∀ z ∈ [s1.heap.objs.size + 4, s1.heap.objs.size + 3, s1.heap.objs.size, s1.heap.objs.size + 1], FpOk X pins H1 z := fun z hz => by
      have hle : s1.heap.objs.size ≤ z := by
        have e' : z = s1.heap.objs.size + 4 ∨ z = s1.heap.objs.size + 3 ∨ z = s1.heap.objs.size ∨ z = s1.heap.objs.size + 1 := by simpa using hz
        rcases e' with e | e | e | e <;> rw [e]
        · exact Nat.le_add_right _ _
        · exact Nat.le_add_right _ _
        · exact Nat.le_refl _
        · exact Nat.le_add_right _ _
      exact I1.fpOk hle (I1.hok.fresh hle)
    have lk := Paired.length rel
    have hz3 : (mergeK [] ps).length ≤ sizeLine := by
      refine Nat.le_trans (length_mergeK ps []) ?_
      rw [List.length_nil, Nat.zero_add, lk, hlen]
      have := rv1.length
      omega
    have hm3 : (h'.objs.size == sysModules) = false := beq_eq_false_iff_ne.mpr (Nat.ne_of_gt I2.big)
    have I3 : Inv X pins σ (upd H1 h'.objs.size (.dK (mergeK [] ps))) { s1 with heap := h3, toks := tk } :=
      I2.turnedNew (t' := tk) (ch := [s1.heap.objs.size + 4, s1.heap.objs.size + 3, s1.heap.objs.size, s1.heap.objs.size + 1]) (fun z o hz e => hk3 z o hz e) hw (Nat.le_refl _)
        (show ObjOk X.prog X.w _ _ _ (.dK (mergeK [] ps)) from ⟨hz3, hm3, merged [] prs, KV.merge rel .nil, hd3⟩)
    exact ep_lock ⟨.ref _, _, I3, rfl, (pq.step K1 u1).madeK S1.sr (I2.hok.fresh (Nat.le_refl _)) (RepK.mrg .nil hps) q2⟩
end
end DS
end
section
set_option Elab.async false
set_option linter.all false
set_option maxRecDepth 100000
/-! DsM: displays of dicts, d.get, [::-1] of lists. -/
namespace DS
open PySem PySem.Spec PyProof.Rows L2 LamX
section
variable {G : GC} {X : Cx} {E : XK} {a b c : Expr} {ta tb tc : WE} {pos p : Pos} {mu : Bool}
/-- keys and values, one after another -/
inductive VF : List V → List (Value × Value) → Prop
  | nil : VF [] []
  | cons {k v : V} {u w : Value} {vs : List V} {ws : List (Value × Value)} : RelV k u → RelV v w → VF vs ws → VF (k :: v :: vs) ((u, w) :: ws)
structure PD (G : GC) (X : Cx) (E : XK) (pos : Pos) (keys : List (Option Expr)) (values : List Expr) (t : WA) : Prop where
  run : ∀ (pins : List (Addr × Obj)) (s : Shared) (σ : L2.St) (H F : Hp) (ρ : DEnv) (M : Sto) (Qd : Po (List DS.D)) (Ed : Po Exn) (Qf : List (Value × Value) → Shared → Prop), Inv X pins σ H s → StR G σ H F ρ M → t ρ M Qd Ed → PX G H F M Ed E →
    (∀ ws s1 vs ds H1 F1 M1, Inv X pins σ H1 s1 → StR G σ H1 F1 ρ M1 → Keep H F M H1 F1 M1 → Sub F F1 → RepL G F1 vs ds → VF vs ws → Qd ds M1 → Qf ws s1) →
    wpAny (model X.prog X.w) X.A (evalPairs (pairTrees keys values X.env pos)) Qf X.xe s
theorem pd_nil : PD G X E pos [] [] (fun _ M Q _ => Q [] M) := ⟨fun pins s σ H F ρ M Qd Ed Qf I S q px k => pairTrees_nil_walk (k [] s [] [] H F M I S (Keep.refl H F M) (Sub.refl F) .nil .nil q)⟩
theorem pd_cons {ks : List (Option Expr)} {vs : List Expr} {t : WA} (ha : PE X a (rdE G E ta)) (hb : PE X b (rdE G E tb)) (hr : PD G X E pos ks vs t) :
    PD G X E pos (some a :: ks) (b :: vs) (fun ρ M Q Ex => ta ρ M (fun x M1 => tb ρ M1 (fun y M2 => t ρ M2 (fun ds M3 => Q (x :: y :: ds) M3) Ex) Ex) Ex) := ⟨fun pins s σ H F ρ M Qd Ed Qf I S q px k => by
  refine pairTrees_cons_walk (rd_use ha I S q px fun u s1 x dx H1 F1 M1 I1 S1 K1 u1 r1 rx q1 => ?_)
  refine rd_use hb I1 S1 q1 (px.step K1 u1) fun w s2 y dy H2 F2 M2 I2 S2 K2 u2 r2 ry q2 => ?_
  refine hr.run pins s2 σ H2 F2 ρ M2 _ Ed _ I2 S2 q2 (px.step (K1.trans K2) (u1.trans u2)) fun ws s3 vs ds H3 F3 M3 I3 S3 K3 u3 r3 rel q3 => ?_
  exact k _ s3 (x :: y :: vs) (dx :: dy :: ds) H3 F3 M3 I3 S3 (K1.trans (K2.trans K3)) (u1.trans (u2.trans u3)) (.cons (r1.mono (u2.trans u3)) (.cons (r2.mono u3) r3)) (.cons rx ry rel) q3⟩
theorem pairUp_rep {H F : Hp} {M : Sto} (S : SR G H F M) : ∀ {ds : List DS.D} {vs : List V} {ws : List (Value × Value)} {kvs : List (DK × DS.D)}, RepL G F vs ds → VF vs ws → pairUp ds = some kvs → (∀ kv ∈ kvs, isTK kv.1 = false) →
    ∃ ps : List (Key × V), VV (ps.map fun kv => (kV kv.1, kv.2)) ws ∧ RepK G F ps kvs
  | [], _, _, kvs, .nil, .nil, e, _ => by simp only [pairUp] at e; cases e; exact ⟨[], .nil, .nil⟩
  | [x], _, _, kvs, .cons _ .nil, h, e, _ => by cases h
  | x :: y :: ds, _, _, kvs, .cons r (.cons r' t), .cons ru rw' h, e, hk => by
    simp only [pairUp] at e
    split at e
    · rename_i k rest e1 e2
      cases e
      obtain ⟨ps, h1, h2⟩ := pairUp_rep S t h e2 fun kv h => hk kv (List.mem_cons_of_mem _ h)
      rcases key_rep S r e1 with ⟨k1, rfl, rfl⟩ | ⟨ks, b, rfl, _, _⟩
      · exact ⟨(k1, _) :: ps, .cons ⟨ru, rw'⟩ h1, .cons r' h2⟩
      · have := hk _ List.mem_cons_self; simp [isTK] at this
    · cases e
theorem repK_len {F : Hp} : ∀ {ps : List (Key × V)} {kvs : List (DK × DS.D)}, RepK G F ps kvs → ps.length = kvs.length := fun t => t.len
theorem s_dic {keys : List (Option Expr)} {values : List Expr} {t : WA} (h : PD G X E pos keys values t) (hall : keys.all (·.isSome) = true) (hl : keys.length = values.length) (h0 : keys ≠ []) (h15 : keys.length ≤ 15) :
    PE X (.Dict keys values pos) (rdE G E fun ρ M Q Ex => t ρ M (fun ds M1 => ∃ kvs, pairUp ds = some kvs ∧ kvs.length ≤ 15 ∧ (∀ kv ∈ kvs, isTK kv.1 = false) ∧ made mu (.dic (mrgK [] kvs)) M1 Q) Ex) := by
  refine ⟨fun pins s σ H Q I ⟨ρ, F, M, Qd, Ed, S, q, pq, px⟩ => ?_⟩
  have hn := I.hok.fresh (Nat.le_refl s.heap.objs.size)
  have I1 := I.laid (a := s.heap.objs.size) (o := .dK []) (h' := s.heap.push { cls := .type "dict", data := .dict #[] }) (t' := s.toks) (fun _ _ q => Heap.get?_push_of_some _ q) (Nat.le_refl _) (dk_empty s.heap I.big)
  have S1 : StR G σ (upd H s.heap.objs.size (.dK [])) F ρ M := ⟨S.sr.hid hn, S.vr, S.len⟩
  have K1 : Keep H F M (upd H s.heap.objs.size (.dK [])) F M := Keep.hid S.sr hn
  refine wpAny_Dict_walk (knd := mixKind X.prog X.w) hall hl h0 h15 (h.run pins _ σ _ F ρ M _ Ed _ I1 S1 q (px.step K1 (Sub.refl F)) fun ws s2 vs ds H2 F2 M2 I2 S2 K2 u2 r2 rel ⟨kvs, e, hlen, hk, q2⟩ => ?_)
  obtain ⟨ps, hps, hr⟩ := pairUp_rep S2.sr r2 rel e hk
  obtain ⟨hD, hM, hF⟩ := K2 s.heap.objs.size _ upd_same (S.sr.mnone hn) fun _ z => by cases z
  have hF := hF (S.sr.fnone hn) rfl
  obtain ⟨rs, c, rk⟩ := carries_of (P := X.prog) (w := X.w) hps
  obtain ⟨z, hd, vs0, r0, dd⟩ := dk_of I2.hok hD
  cases r0
  refine ⟨rs, c, dd, fun h' dd' hs => ?_⟩
  have hz : (mergeK [] ps).length ≤ sizeLine := by
    have h1 := length_mergeK ps []
    rw [List.length_nil] at h1
    have h2 := hr.len
    rw [sizeLine_eq]; omega
  have he : ∃ q, h'.get? s.heap.objs.size = some q := let ⟨q, _, _, hq, _⟩ := dd'; ⟨q, hq⟩
  have I3 := d_write (t' := s2.toks + ws.length) I2 (by rw [hD]; exact True.intro) hs he (dk_new hz hd (rk.merge .nil) dd')
  refine ep_lock (mu := mu) ⟨.ref s.heap.objs.size, _, I3, rfl, ?_⟩
  exact pq.madeKAt ((K1.trans K2).offH hn) u2 (S2.sr.hchg hD (.inr (.inl ⟨_, rfl⟩)) hF hM) hn upd_same hF hM (RepK.mrg .nil hr) q2
theorem s_dic0 : PE X (.Dict [] [] pos) (rdE G E fun ρ M Q Ex => ∃ kvs, pairUp [] = some kvs ∧ kvs.length ≤ 15 ∧ (∀ kv ∈ kvs, isTK kv.1 = false) ∧ made mu (.dic (mrgK [] kvs)) M Q) :=
  PE_imp (pe_lk mu pe_dnewK) fun σ H Q ⟨ρ, F, M, Qd, Ed, S, ⟨kvs, e, _, _, q⟩, pq, px⟩ p hp => by
    have e' : ([] : List (DK × DS.D)) = kvs := Option.some.inj e
    subst e'
    exact pq.madeK S.sr hp .nil q
theorem s_dic0T : PE X (.Dict [] [] pos) (rdE G E fun ρ M Q Ex => ∃ kvs, pairUp [] = some kvs ∧ kvs.length ≤ 15 ∧ (∀ kv ∈ kvs, isTK kv.1 = true) ∧ made mu (.dic (mrgK [] kvs)) M Q) :=
  PE_imp (pe_lk mu pe_dnewK) fun σ H Q ⟨ρ, F, M, Qd, Ed, S, ⟨kvs, e, _, _, q⟩, pq, px⟩ p hp => by
    have e' : ([] : List (DK × DS.D)) = kvs := Option.some.inj e
    subst e'
    exact pq.madeK S.sr hp .nil q
end
end DS
end
section
set_option Elab.async false
set_option linter.all false
set_option maxRecDepth 100000
/-! DsN: calls of defs, by keywords, by a local name; instances made; methods of the own class. -/
namespace DS
open PySem PySem.Spec PyProof.Rows L2 LamX

/-- a def's promise, where nothing is being shown -/
structure FnG (P : Program) (w : World) (K : PySem.W.Frag) (mg : Str → Option Value) (base : Heap) (CX : CXT) (k : Nat) (f : Addr) (fd : FuncData) (ps : List Str) (sp : Sp) : Prop where
  len : ∀ vs H Q E, sp vs H Q E → vs.length = ps.length
  run : ∀ (A : Around) (outer : List Env) (s : Shared) (H : Hp) (args : Args) (us : List Value) (vs : List V) (Q : VK) (E : XK), A.guards = some [] → Room k A → Env0 P w K mg base A outer s H → BindsTo s fd args (ps.zip us) → Vals vs us → sp vs H Q E →
    codeAny (model P w) A (.call (.ref f) args) (CR CX outer P w H s Q E) s
inductive RepSL (G : GC) (F : Hp) : List V → List SV → Prop
  | nil : RepSL G F [] []
  | cons {v : V} {vs : List V} {d : SV} {ds : List SV} : RepS G F v d → RepSL G F vs ds → RepSL G F (v :: vs) (d :: ds)
theorem RepSL.length {G : GC} {F : Hp} : ∀ {vs ss}, RepSL G F vs ss → vs.length = ss.length
  | _, _, .nil => rfl
  | _, _, .cons _ t => by simp [t.length]
theorem RepSL.mono {G : GC} {F F' : Hp} (s : Sub F F') : ∀ {vs ss}, RepSL G F vs ss → RepSL G F' vs ss
  | _, _, .nil => .nil
  | _, _, .cons h t => .cons (h.mono s) (t.mono s)
theorem RepL.sl {G : GC} {F : Hp} : ∀ {vs ds}, RepL G F vs ds → RepSL G F vs (ds.map .d)
  | _, _, .nil => .nil
  | _, _, .cons h t => .cons (.d h) t.sl
theorem RepSL.append {G : GC} {F : Hp} : ∀ {vs ss ws ts}, RepSL G F vs ss → RepSL G F ws ts → RepSL G F (vs ++ ws) (ss ++ ts)
  | _, _, _, _, .nil, t => t
  | _, _, _, _, .cons h t, t2 => .cons h (t.append t2)
/-- told by data -/
def spD (G : GC) (Φ : Calls) (i n : Nat) : Sp := fun vs H Q E => vs.length = n ∧ ∃ ss F M Qd Ed, SR G H F M ∧ RepSL G F vs ss ∧ Φ.fn i ss M Qd Ed ∧ PQ G H F M Qd Q ∧ PX G H F M Ed E
structure FnI1 (P : Program) (w : World) (K : PySem.W.Frag) (mg : Str → Option Value) (base : Heap) (CX : CXT) (k : Nat) (G : GC) (Φ : Calls) (i : Nat) (fd : FuncData) (ps : List Str) : Prop where
  fn : FnG P w K mg base CX k (G.fa i) fd ps (spD G Φ i ps.length)
  kp : PySem.W.keepIn K (.ref (G.fa i)) = true
  bi : Binds K fd ps []
  at_ : ∃ oc od osl, K.lookup (G.fa i) = some ⟨oc, od, .func fd, osl⟩
  par : ps = fd.params.args.map (·.arg)
  len : ∀ ds M Q E, Φ.fn i ds M Q E → ds.length = ps.length
def FnAll (P : Program) (w : World) (K : PySem.W.Frag) (mg : Str → Option Value) (base : Heap) (CX : CXT) (k : Nat) (G : GC) (Φ : Calls) : Prop :=
  ∀ i, (G.P.fns i).isSome = true → ∃ fd ps, FnI1 P w K mg base CX k G Φ i fd ps
abbrev FnAllX (X : Cx) (CX : CXT) (k : Nat) (G : GC) (Φ : Calls) : Prop := FnAll X.prog X.w X.K X.mg X.base CX k G Φ
/-- what a call asks of the place where it stands -/
structure CanCall (X : Cx) (E : XK) (CX : CXT) (k : Nat) (G : GC) (Φ : Calls) : Prop where
  all : FnAllX X CX k G Φ
  gd : X.A.guards = some []
  room : Room (k + 1) X.A
  pass : Passes CX X E
section
variable {G : GC} {X : Cx} {E : XK} {CX : CXT} {k i : Nat} {Φ : Calls} {fd : FuncData} {ps : List Str} {pos p : Pos} {x : Str} {es : List Expr} {n : Nat} {t : WA} {e : Expr}
theorem run_fnG {f : Addr} {sp : Sp} {pins : List (Addr × Obj)} {σ : L2.St} {H : Hp} {s : Shared} {Q : VK} {us : List Value} {vs : List V} (F : FnG X.prog X.w X.K X.mg X.base CX k f fd ps sp) (hgd : X.A.guards = some []) (hr : Room k X.A) (hb : Binds X.K fd ps []) (hx : Passes CX X E)
    (I : Inv X pins σ H s) (r : Vals vs us) (h : sp vs H Q E) : wpAny (model X.prog X.w) X.A (call (.ref f) us) (EP X pins σ Q) X.xe s := by
  have hl : (us ++ []).length = ps.length := by rw [List.append_nil, ← r.length]; exact F.len _ _ _ _ h
  have hb' := hb s us I.kIn hl
  rw [List.append_nil] at hb'
  refine wpAny_call (codeAny_mono (F.run X.A X.stack s H ⟨us, []⟩ us vs Q E hgd hr I.env0 hb' r h) fun r s' hq => ?_)
  cases r with
  | error e => exact hx pins σ H s e s' I hq
  | ok fl =>
    cases fl with
    | ret u => exact I.after hq
    | next => exact False.elim hq
    | brk => exact False.elim hq
    | cont => exact False.elim hq
theorem run_D {pins : List (Addr × Obj)} {σ : L2.St} {H F : Hp} {M : Sto} {s : Shared} {Q : VK} {us : List Value} {vs : List V} {ss : List SV} {Qd : Po D} {Ed : Po Exn} (C : CanCall X E CX k G Φ) (hi : (G.P.fns i).isSome = true)
    (I : Inv X pins σ H s) (S : SR G H F M) (r : RepSL G F vs ss) (rv : Vals vs us) (q : Φ.fn i ss M Qd Ed) (pq : PQ G H F M Qd Q) (px : PX G H F M Ed E) : wpAny (model X.prog X.w) X.A (call (.ref (G.fa i)) us) (EP X pins σ Q) X.xe s := by
  obtain ⟨fd, ps, f⟩ := C.all i hi
  exact run_fnG f.fn C.gd (C.room.mono (Nat.le_succ k)) f.bi C.pass I rv ⟨by rw [r.length]; exact f.len _ _ _ _ q, ss, F, M, Qd, Ed, S, r, q, pq, px⟩
/-- f(..) -/
theorem s_cal (C : CanCall X E CX k G Φ) (hi : (G.P.fns i).isSome = true) (hg : Gl X x) (hm : X.mg x = some (.ref (G.fa i))) (hdb : (x == ("__debug__" : Str)) = false)
    (ha : PA X (e :: es) (rdA G E n t)) (hp : allPlain (e :: es) = true) : PE X (.Call (.Name x p) (e :: es) [] pos) (rdE G E fun ρ M Q Ex => t ρ M (fun ds M1 => Φ.fn i (ds.map .d) M1 Q Ex) Ex) := by
  refine ⟨fun pins s σ H Q I ⟨ρ, F, M, Qd, Ed, S, q, pq, px⟩ => ?_⟩
  have hp' := hp
  simp only [allPlain, Bool.and_eq_true] at hp'
  obtain ⟨fd, ps, f⟩ := C.all i hi
  refine wpAny_Call_Name_kw (ld_glob I hg hm ?_ hdb)
  refine PySem.W.callWith_K (h₀ := X.base) I.ok.mod.kin f.kp (ra_use ha I S q px fun us s1 vs ds H1 F1 M1 I1 S1 K1 u1 r1 rv hl q1 => ⟨I1.kIn, ?_⟩) (starEach_eq hp'.1) (backTo_plain hp'.2)
  exact run_D C hi I1 S1.sr r1.sl rv q1 (pq.step K1 u1) (px.step K1 u1)
theorem s_cal0 (C : CanCall X E CX k G Φ) (hi : (G.P.fns i).isSome = true) (hg : Gl X x) (hm : X.mg x = some (.ref (G.fa i))) (hdb : (x == ("__debug__" : Str)) = false) :
    PE X (.Call (.Name x p) [] [] pos) (rdE G E fun ρ M Q Ex => Φ.fn i (([] : List D).map .d) M Q Ex) := by
  refine ⟨fun pins s σ H Q I ⟨ρ, F, M, Qd, Ed, S, q, pq, px⟩ => ?_⟩
  obtain ⟨fd, ps, f⟩ := C.all i hi
  refine wpAny_Call_Name_kw (ld_glob I hg hm ?_ hdb)
  exact PySem.W.callWith_K0 I.kIn f.kp (run_D C hi I S.sr .nil .nil q pq px)
/-! ### keywords -/
structure PKD (G : GC) (X : Cx) (E : XK) (kws : List Keyword) (n : Nat) (t : WA) : Prop where
  run : ∀ (pos : Pos) (pins : List (Addr × Obj)) (s : Shared) (σ : L2.St) (H F : Hp) (ρ : DEnv) (M : Sto) (Qd : Po (List D)) (Ed : Po Exn) (Qf : List Value → Shared → Prop), Inv X pins σ H s → StR G σ H F ρ M → t ρ M Qd Ed → PX G H F M Ed E →
    (∀ us s1 vs ds H1 F1 M1, Inv X pins σ H1 s1 → StR G σ H1 F1 ρ M1 → Keep H F M H1 F1 M1 → Sub F F1 → RepL G F1 vs ds → Vals vs us → ds.length = n → Qd ds M1 → Qf us s1) →
    wpAny (model X.prog X.w) X.A (evalAll ((backToKw pos (keywordEach kws X.env)).map (·.2))) Qf X.xe s
theorem pkd_nil : PKD G X E [] 0 (fun _ M Q _ => Q [] M) := ⟨fun pos pins s σ H F ρ M Qd Ed Qf I S q px k => wpAny_evalAll_nil (k [] s [] [] H F M I S (Keep.refl H F M) (Sub.refl F) .nil .nil rfl q)⟩
theorem pkd_cons {ta : WE} {nm : Option Str} {kpos : Pos} {kws : List Keyword} (ha : PE X e (rdE G E ta)) (hr : PKD G X E kws n t) : PKD G X E (⟨nm, e, kpos⟩ :: kws) (n + 1) (fun ρ M Q Ex => ta ρ M (fun d M1 => t ρ M1 (fun ds M2 => Q (d :: ds) M2) Ex) Ex) := ⟨fun pos pins s σ H F ρ M Qd Ed Qf I S q px k => by
  show wpAny _ _ (evalAll ((do let v ← eval e X.env; standAt pos; pure v) :: (backToKw pos (keywordEach kws X.env)).map (·.2))) _ _ s
  refine wpAny_evalAll_cons (wpAny_bind (rd_use ha I S q px fun u s1 x dx H1 F1 M1 I1 S1 K1 u1 r1 rx q1 => wpAny_bind (wpAny_standAt (wpAny_pure ?_))))
  refine hr.run pos pins s1 σ H1 F1 ρ M1 _ Ed _ I1 S1 q1 (px.step K1 u1) fun us s2 vs ds H2 F2 M2 I2 S2 K2 u2 r2 rs hl q2 => ?_
  exact k _ s2 (x :: vs) (dx :: ds) H2 F2 M2 I2 S2 (K1.trans K2) (u1.trans u2) (.cons (r1.mono u2) r2) (.cons rx rs) (by simp [hl]) q2⟩
end
end DS
end
section
set_option Elab.async false
set_option linter.all false
set_option maxRecDepth 100000
/-! DsO: cells put aside for a while. -/
namespace DS
open PySem PySem.Spec PyProof.Rows L2 LamX

def dropH (H : Hp) (cs : List Addr) : Hp := fun a => if a ∈ cs then none else H a
def readd (H H' : Hp) (cs : List Addr) : Hp := fun a => if a ∈ cs then H a else H' a
theorem dropH_in {H : Hp} {cs : List Addr} {a : Addr} (h : a ∈ cs) : dropH H cs a = none := if_pos h
theorem dropH_out {H : Hp} {cs : List Addr} {a : Addr} (h : a ∉ cs) : dropH H cs a = H a := if_neg h
theorem readd_in {H H' : Hp} {cs : List Addr} {a : Addr} (h : a ∈ cs) : readd H H' cs a = H a := if_pos h
theorem readd_out {H H' : Hp} {cs : List Addr} {a : Addr} (h : a ∉ cs) : readd H H' cs a = H' a := if_neg h
theorem of_drop {H : Hp} {cs : List Addr} {a : Addr} {o : HO} (h : dropH H cs a = some o) : a ∉ cs ∧ H a = some o := by
  by_cases c : a ∈ cs
  · rw [dropH_in c] at h; cases h
  · rw [dropH_out c] at h; exact ⟨c, h⟩
def Cel (H : Hp) (cs : List Addr) : Prop := ∀ c ∈ cs, ∃ ob φ, H c = some (.frz ob (.ext φ))
/-- what data lean on -/
def isData : HO → Bool
  | .lst _ => true
  | .tup _ => true
  | .dK _ => true
  | .dT _ => true
  | .ins _ _ _ => true
  | _ => false
def Sub0 (F F' : Hp) : Prop := ∀ a o, F a = some o → isData o = true → F' a = some o
mutual
theorem Rep.mono0 {G : GC} {F F' : Hp} (s : Sub0 F F') : ∀ {v d}, Rep G F v d → Rep G F' v d
  | _, _, .non => .non
  | _, _, .bl b => .bl b
  | _, _, .int i => .int i
  | _, _, .str x => .str x
  | _, _, .lst h t => .lst (s _ _ h rfl) (RepL.mono0 s t)
  | _, _, .tup h t => .tup (s _ _ h rfl) (RepL.mono0 s t)
  | _, _, .dicK h t => .dicK (s _ _ h rfl) (RepK.mono0 s t)
  | _, _, .dicT h t n => .dicT (s _ _ h rfl) (RepT.mono0 s t) n
  | _, _, .ins h t => .ins (s _ _ h rfl) (RepF.mono0 s t)
  | _, _, .mref a => .mref a
  | _, _, .fn i h => .fn i h
theorem RepL.mono0 {G : GC} {F F' : Hp} (s : Sub0 F F') : ∀ {v d}, RepL G F v d → RepL G F' v d
  | _, _, .nil => .nil
  | _, _, .cons h t => .cons (Rep.mono0 s h) (RepL.mono0 s t)
theorem RepK.mono0 {G : GC} {F F' : Hp} (s : Sub0 F F') : ∀ {v d}, RepK G F v d → RepK G F' v d
  | _, _, .nil => .nil
  | _, _, .cons h t => .cons (Rep.mono0 s h) (RepK.mono0 s t)
theorem RepT.mono0 {G : GC} {F F' : Hp} (s : Sub0 F F') : ∀ {v d}, RepT G F v d → RepT G F' v d
  | _, _, .nil => .nil
  | _, _, .cons h t => .cons (Rep.mono0 s h) (RepT.mono0 s t)
theorem RepF.mono0 {G : GC} {F F' : Hp} (s : Sub0 F F') : ∀ {v d}, RepF G F v d → RepF G F' v d
  | _, _, .nil => .nil
  | _, _, .cons h t => .cons (Rep.mono0 s h) (RepF.mono0 s t)
end
theorem MRep.mono0 {G : GC} {H H' F F' : Hp} {a : Addr} {o : MO} (h : MRep G H F a o) (e : H' a = H a) (s : Sub0 F F') : MRep G H' F' a o := by
  cases o with
  | lst ds => obtain ⟨vs, e1, r⟩ := h; exact ⟨vs, e.trans e1, r.mono0 s⟩
  | dic ds =>
    rcases h with ⟨vs, e1, r⟩ | ⟨vs, e1, r⟩
    · exact .inl ⟨vs, e.trans e1, r.mono0 s⟩
    · exact .inr ⟨vs, e.trans e1, r.1.mono0 s, r.2⟩
  | ins c ds => obtain ⟨hc, dx, vs, e1, r⟩ := h; exact ⟨hc, dx, vs, e.trans e1, r.mono0 s⟩
section
variable {G : GC} {H F : Hp} {M : Sto} {cs : List Addr}
theorem Cel.ne {a : Addr} {o : HO} (C : Cel H cs) (h : H a = some o) (n : ∀ ob φ, o ≠ .frz ob (.ext φ)) : a ∉ cs := fun z => by
  obtain ⟨ob, φ, e⟩ := C a z
  rw [h] at e
  exact n _ _ (Option.some.inj e)
theorem HOk.drop {P : Program} {w : World} {h : Heap} (ok : HOk P w H h) (C : Cel H cs) : HOk P w (dropH H cs) h := fun b o e => by
  obtain ⟨_, e1⟩ := of_drop e
  refine (ok b o e1).stay (fun c v _ q => q) (fun c q => ?_) fun c xs q => ?_
  · rw [dropH_out (C.ne q fun _ _ z => by cases z)]; exact q
  · rw [dropH_out (C.ne q fun _ _ z => by cases z)]; exact q
theorem SR.sub0 (S : SR G H F M) (C : Cel H cs) : Sub0 F (dropH F cs) := fun a o e d => by
  have ha : a ∉ cs := fun z => by
    obtain ⟨ob, φ, h⟩ := C a z
    rcases S.sub a o e with q | ⟨ob', q⟩
    · rw [h] at q; cases q; cases d
    · rw [h] at q; cases q; cases d
  rw [dropH_out ha]; exact e
theorem SR.mout (S : SR G H F M) (C : Cel H cs) {a : Addr} {m : MO} (h : M a = some m) : a ∉ cs := by
  obtain ⟨_, q⟩ := S.mo a m h
  cases m with
  | lst _ => obtain ⟨_, q, _⟩ := q; exact C.ne q fun _ _ z => by cases z
  | dic _ => rcases q with ⟨_, q, _⟩ | ⟨_, q, _⟩ <;> exact C.ne q fun _ _ z => by cases z
  | ins _ _ => obtain ⟨_, _, _, q, _⟩ := q; exact C.ne q fun _ _ z => by cases z
theorem SR.drop (S : SR G H F M) (C : Cel H cs) : SR G (dropH H cs) (dropH F cs) M := by
  refine ⟨fun a o e => ?_, fun a m e => ?_, fun p hp => ?_, fun a ps e => ?_, fun a o e hh => ?_, fun a o e hh => ?_⟩
  · obtain ⟨ha, e⟩ := of_drop e
    rw [dropH_out ha]; exact S.sub a o e
  · obtain ⟨h1, h2⟩ := S.mo a m e
    have ha := S.mout C e
    exact ⟨by rw [dropH_out ha]; exact h1, h2.mono0 (dropH_out ha) (S.sub0 C)⟩
  · obtain ⟨ps, e1, e2, e3⟩ := S.tabs p hp
    refine ⟨ps, by rw [dropH_out (C.ne e1 fun _ _ z => by cases z)]; exact e1, e2, fun pos cv hc => ?_⟩
    obtain ⟨c, e4, e5⟩ := e3 pos cv hc
    exact ⟨c, e4, by rw [dropH_out (C.ne e5 fun _ _ z => by cases z)]; exact e5⟩
  · exact S.ntb a ps (of_drop e).2
  · obtain ⟨ha, e⟩ := of_drop e
    rw [dropH_out ha]; exact S.hard a o e hh
  · obtain ⟨ha, e⟩ := of_drop e
    rw [dropH_out ha]; exact S.dics a o e hh
/-! ### taken up again -/
variable {H' F' : Hp} {M' : Sto} {fs : List Addr} {h h' : Heap}
theorem un_readd {P : Program} {w : World} (ok : HOk P w H h) (C : Cel H cs) (nf : ∀ b ∈ fs, H b = none) (u : Un fs [] (dropH H cs) H' h h') (ok' : HOk P w H' h') : Un fs [] H (readd H H' cs) h h' ∧ HOk P w (readd H H' cs) h' ∧ ∀ c ∈ cs, H' c = none := by
  have dn : ∀ b, H b = none → dropH H cs b = none := fun b e => by
    by_cases hb : b ∈ cs
    · exact dropH_in hb
    · rw [dropH_out hb]; exact e
  have nc : ∀ b, H b = none → b ∉ cs := fun b e z => by obtain ⟨ob, φ, q⟩ := C b z; rw [e] at q; cases q
  have cell : ∀ c ∈ cs, ∃ ob φ, H c = some (.frz ob (.ext φ)) ∧ h.get? c = some ob ∧ h'.get? c = some ob ∧ H' c = none := fun c hc => by
    obtain ⟨ob, φ, e⟩ := C c hc
    obtain ⟨q, _⟩ := ok c _ e
    have cf : c ∉ fs := fun z => by rw [nf c z] at e; cases e
    exact ⟨ob, φ, e, q, u.keep c ob q (dropH_in hc) cf (by simp), u.free c ob q (dropH_in hc) (by simp)⟩
  refine ⟨⟨fun b o e n hb hx => u.keep b o e (dn b n) hb hx, fun b o e n hb hx => u.slot b o e (dn b n) hb hx, fun b o e n hx => ?_, fun b o e hx => u.there b o e hx, fun b xs e => ?_, fun b o x e => ?_, fun b ps e => ?_⟩, fun b o e => ?_, fun c hc => ?_⟩
  · rw [readd_out (nc b n)]; exact u.free b o e (dn b n) hx
  · have hb : b ∉ cs := C.ne e fun _ _ z => by cases z
    rw [readd_out hb]; exact u.tups b xs (by rw [dropH_out hb]; exact e)
  · by_cases hb : b ∈ cs
    · rw [readd_in hb]; exact e
    · rw [readd_out hb]; exact u.frzs b o x (by rw [dropH_out hb]; exact e)
  · have hb : b ∉ cs := C.ne e fun _ _ z => by cases z
    rw [readd_out hb]; exact u.tbls b ps (by rw [dropH_out hb]; exact e)
  · by_cases hb : b ∈ cs
    · rw [readd_in hb] at e
      obtain ⟨ob, φ, q, q1, q2, _⟩ := cell b hb
      rw [q] at e
      cases e
      obtain ⟨_, p, ex, st⟩ := ok b _ q
      exact ⟨q2, st _ _ p fun o z => by rw [q1] at z; cases z; exact q2, ⟨_, q2⟩, st⟩
    · rw [readd_out hb] at e
      refine (ok' b o e).stay (fun c v _ q => q) (fun c q => ?_) fun c xs q => ?_
      · have hc : c ∉ cs := fun z => by obtain ⟨_, _, _, _, _, q'⟩ := cell c z; rw [q'] at q; cases q
        rw [readd_out hc]; exact q
      · have hc : c ∉ cs := fun z => by obtain ⟨_, _, _, _, _, q'⟩ := cell c z; rw [q'] at q; cases q
        rw [readd_out hc]; exact q
  · obtain ⟨_, _, _, _, _, q'⟩ := cell c hc
    exact q'
theorem SR.readd (S : SR G H F M) (S' : SR G H' F' M') (hn : ∀ c ∈ cs, H' c = none) : SR G (readd H H' cs) (readd F F' cs) M' := by
  have nH : ∀ a o, H' a = some o → a ∉ cs := fun a o e z => by rw [hn a z] at e; cases e
  have nF : ∀ a o, F' a = some o → a ∉ cs := fun a o e z => by rw [S'.fnone (hn a z)] at e; cases e
  have sF : Sub F' (DS.readd F F' cs) := fun a o e => by rw [readd_out (nF a o e)]; exact e
  refine ⟨fun a o e => ?_, fun a m e => ?_, fun p hp => ?_, fun a ps e => ?_, fun a o e hh => ?_, fun a o e hh => ?_⟩
  · by_cases ha : a ∈ cs
    · rw [readd_in ha] at e ⊢; exact S.sub a o e
    · rw [readd_out ha] at e ⊢; exact S'.sub a o e
  · obtain ⟨h1, h2⟩ := S'.mo a m e
    obtain ⟨u, hu⟩ := h2.some
    have ha := nH a u hu
    exact ⟨by rw [readd_out ha]; exact h1, h2.mono (readd_out ha) sF⟩
  · obtain ⟨ps, e1, e2, e3⟩ := S'.tabs p hp
    refine ⟨ps, by rw [readd_out (nH _ _ e1)]; exact e1, e2, fun pos cv hc => ?_⟩
    obtain ⟨c, e4, e5⟩ := e3 pos cv hc
    exact ⟨c, e4, by rw [readd_out (nH _ _ e5)]; exact e5⟩
  · by_cases ha : a ∈ cs
    · rw [readd_in ha] at e; exact S.ntb a ps e
    · rw [readd_out ha] at e; exact S'.ntb a ps e
  · by_cases ha : a ∈ cs
    · rw [readd_in ha] at e ⊢; exact S.hard a o e hh
    · rw [readd_out ha] at e ⊢; exact S'.hard a o e hh
  · by_cases ha : a ∈ cs
    · rw [readd_in ha] at e ⊢; exact S.dics a o e hh
    · rw [readd_out ha] at e ⊢; exact S'.dics a o e hh
theorem Keep.readd (S' : SR G H' F' M') (hn : ∀ c ∈ cs, H' c = none) (k : Keep (dropH H cs) (dropH F cs) M H' F' M') : Keep H F M (DS.readd H H' cs) (DS.readd F F' cs) M' := fun a o e m t => by
  by_cases ha : a ∈ cs
  · exact ⟨by rw [readd_in ha]; exact e, S'.mnone (hn a ha), fun z _ => by rw [readd_in ha]; exact z⟩
  · obtain ⟨x, y, z⟩ := k a o (by rw [dropH_out ha]; exact e) m t
    exact ⟨by rw [readd_out ha]; exact x, y, fun q n => by rw [readd_out ha]; exact z (by rw [dropH_out ha]; exact q) n⟩
theorem Sub.readd (s : Sub (dropH F cs) F') : Sub F (DS.readd F F' cs) := fun a o e => by
  by_cases ha : a ∈ cs
  · rw [readd_in ha]; exact e
  · rw [readd_out ha]; exact s a o (by rw [dropH_out ha]; exact e)
theorem Sub.toReadd (S' : SR G H' F' M') (hn : ∀ c ∈ cs, H' c = none) : Sub F' (DS.readd F F' cs) := fun a o e => by
  have ha : a ∉ cs := fun z => by rw [S'.fnone (hn a z)] at e; cases e
  rw [readd_out ha]; exact e
end
/-- behind a call that ran without the cells -/
theorem ce_readd {P : Program} {w : World} {K : PySem.W.Frag} {mg : Str → Option Value} {base : Heap} {A : Around} {outer : List Env} {H : Hp} {cs : List Addr} {s s' : Shared} {Q : VK} {u : Value} (e0 : Env0 P w K mg base A outer s H) (C : Cel H cs)
    (h : CE outer P w (dropH H cs) s (fun v H' => (∀ c ∈ cs, H' c = none) → Q v (readd H H' cs)) u s') : CE outer P w H s Q u s' := by
  obtain ⟨v, H', os, bare, un, hok, r, q⟩ := h
  obtain ⟨un', hok', hn⟩ := un_readd e0.hok C e0.frf un hok
  exact ⟨v, _, os, bare, un', hok', r, q hn⟩
theorem cx_readd {P : Program} {w : World} {K : PySem.W.Frag} {mg : Str → Option Value} {base : Heap} {A : Around} {outer : List Env} {H : Hp} {cs : List Addr} {s s' : Shared} {E : XK} {u : Value} (e0 : Env0 P w K mg base A outer s H) (C : Cel H cs)
    (h : L2.CX P w outer (dropH H cs) s (fun cls d H' => (∀ c ∈ cs, H' c = none) → E cls d (readd H H' cs)) u s') : L2.CX P w outer H s E u s' := by
  obtain ⟨a, B, H', cls, d, rfl, fl, hok, ub, na, os, ag, hE⟩ := h
  have dn : ∀ b, H b = none → dropH H cs b = none := fun b e => by
    by_cases hb : b ∈ cs
    · exact dropH_in hb
    · rw [dropH_out hb]; exact e
  have nc : ∀ b, H b = none → b ∉ cs := fun b e z => by obtain ⟨ob, φ, q⟩ := C b z; rw [e] at q; cases q
  have cell : ∀ c ∈ cs, ∃ ob φ, H c = some (.frz ob (.ext φ)) ∧ s.heap.get? c = some ob ∧ B.get? c = some ob ∧ H' c = none := fun c hc => by
    obtain ⟨ob, φ, e⟩ := C c hc
    obtain ⟨q, _⟩ := e0.hok c _ e
    have cf : c ∉ frs outer := fun z => by rw [e0.frf c z] at e; cases e
    exact ⟨ob, φ, e, q, ub.keep c ob q (dropH_in hc) cf, ub.free c ob q (dropH_in hc)⟩
  have hn : ∀ c ∈ cs, H' c = none := fun c hc => by obtain ⟨_, _, _, _, _, q'⟩ := cell c hc; exact q'
  refine ⟨a, B, readd H H' cs, cls, d, rfl, fl, fun b o e => ?_, ⟨fun b o e n hb => ub.keep b o e (dn b n) hb, ub.slot, fun b o e n => ?_, ub.there, fun b xs e => ?_, fun b o x e => ?_, fun b ps e => ?_⟩, ?_, os, ag, hE hn⟩
  · by_cases hb : b ∈ cs
    · rw [readd_in hb] at e
      obtain ⟨ob, φ, q, q1, q2, _⟩ := cell b hb
      rw [q] at e
      cases e
      obtain ⟨_, p, ex, st⟩ := e0.hok b _ q
      exact ⟨q2, st _ _ p fun o z => by rw [q1] at z; cases z; exact q2, ⟨_, q2⟩, st⟩
    · rw [readd_out hb] at e
      refine (hok b o e).stay (fun c v _ q => q) (fun c q => ?_) fun c xs q => ?_
      · have hc : c ∉ cs := fun z => by rw [hn c z] at q; cases q
        rw [readd_out hc]; exact q
      · have hc : c ∉ cs := fun z => by rw [hn c z] at q; cases q
        rw [readd_out hc]; exact q
  · rw [readd_out (nc b n)]; exact ub.free b o e (dn b n)
  · have hb : b ∉ cs := C.ne e fun _ _ z => by cases z
    rw [readd_out hb]; exact ub.tups b xs (by rw [dropH_out hb]; exact e)
  · by_cases hb : b ∈ cs
    · rw [readd_in hb]; exact e
    · rw [readd_out hb]; exact ub.frzs b o x (by rw [dropH_out hb]; exact e)
  · have hb : b ∉ cs := C.ne e fun _ _ z => by cases z
    rw [readd_out hb]; exact ub.tbls b ps (by rw [dropH_out hb]; exact e)
  · have ha : a ∉ cs := fun z => by
      obtain ⟨_, _, _, _, q, _⟩ := cell a z
      rw [fl.2.1] at q; cases q
    rw [readd_out ha]; exact na
theorem Env0.drop {P : Program} {w : World} {K : PySem.W.Frag} {mg : Str → Option Value} {base : Heap} {A : Around} {outer : List Env} {H : Hp} {cs : List Addr} {s : Shared} (e0 : Env0 P w K mg base A outer s H) (C : Cel H cs) : Env0 P w K mg base A outer s (dropH H cs) := by
  have dn : ∀ b, H b = none → dropH H cs b = none := fun b e => by
    by_cases hb : b ∈ cs
    · exact dropH_in hb
    · rw [dropH_out hb]; exact e
  exact ⟨e0.frames, e0.mod, fun b o e => ⟨(e0.bs b o e).1, dn b (e0.bs b o e).2⟩, e0.bsz, e0.funs, fun b hb => dn b (e0.frf b hb), HOk.drop e0.hok C, e0.bare⟩
end DS
end
section
set_option Elab.async false
set_option linter.all false
set_option maxRecDepth 100000
/-! DsP: closures: run, called by a name. -/
namespace DS
open PySem PySem.Spec PyProof.Rows L2 LamX

theorem RepC.at' {F : Hp} : ∀ {cs : List Addr} {vs : List V} {i : Nat} {c : Addr}, RepC F cs vs → cs[i]? = some c → ∃ v ob, vs[i]? = some v ∧ F c = some (.frz ob (CellH c v))
  | _, _, 0, _, .cons h _, e => by simp at e; subst e; exact ⟨_, _, rfl, h⟩
  | _, _, i + 1, _, .cons _ t, e => by simpa using RepC.at' (i := i) t (by simpa using e)
theorem RepC.len {F : Hp} : ∀ {cs : List Addr} {vs : List V}, RepC F cs vs → cs.length = vs.length
  | _, _, .nil => rfl
  | _, _, .cons _ t => by simp [RepC.len t]
theorem RepC.cel {G : GC} {H F : Hp} {M : Sto} (S : SR G H F M) {cs : List Addr} {vs : List V} (r : RepC F cs vs) : Cel H cs := fun c hc => by
  obtain ⟨i, hi⟩ := List.mem_iff_getElem?.mp hc
  obtain ⟨v, ob, _, h⟩ := r.at' hi
  exact ⟨ob, _, S.hard c _ h rfl⟩
/-- the function of a lambda, without its body -/
abbrev nfL (t : LamTxt) (cl : List (Str × Addr)) (c' : Addr) : NdefX.NF := ⟨"<lambda>", t.qual, t.params, [], t.scope, cl, c'⟩
/-- a lambda's promise -/
structure LamOk (P : Program) (w : World) (K : PySem.W.Frag) (mg : Str → Option Value) (base : Heap) (k : Nat) (G : GC) (Φ : Calls) (l : Nat) (t : LamTxt) : Prop where
  run : ∀ (A : Around) (outer : List Env) (s : Shared) (H F : Hp) (M : Sto) (f c' : Addr) (ob : Obj) (cl : List (Str × Addr)) (cs : List Addr) (wsC : List V) (dsC : List D) (us : List Value) (vs : List V) (ds : List D) (Qd : Po D) (Ed : Po Exn) (Q : VK) (E : XK),
    A.guards = some [] → Room k A → Env0 P w K mg base A outer s H → SR G H F M → F f = some (.frz ob (LamH f t cl c')) → F c' = some (CodeO c' t.qual) → t.caps.map (fun x => cl.lookup x) = cs.map some → (∀ x c, cl.lookup x = some c → x ∈ t.caps) →
    (∀ x y c, cl.lookup x = some c → cl.lookup y = some c → x = y) → RepC F cs wsC → RepL G F wsC dsC → RepL G F vs ds → Vals vs us → Φ.clo l dsC ds M Qd Ed → PQ G H F M Qd Q → PX G H F M Ed E → codeAny (model P w) A (.call (.ref f) ⟨us, []⟩) (CR (L2.CX P w) outer P w H s Q E) s
def LamAll (P : Program) (w : World) (K : PySem.W.Frag) (mg : Str → Option Value) (base : Heap) (k : Nat) (G : GC) (Φ : Calls) : Prop := ∀ l t, G.lt l t → LamOk P w K mg base k G Φ l t
theorem VR.start {G : GC} {F : Hp} {vs : List V} {ss : List SV} {n m : Nat} (r : RepSL G F vs ss) : VR G F (vs.map some ++ List.replicate n none) (ss.map some ++ List.replicate m none) := fun i d e => by
  have hl := r.length
  by_cases hi : i < ss.length
  · rw [List.getElem?_append_left (by simpa using hi), List.getElem?_map] at e
    have hd : ss[i]? = some d := by
      cases q : ss[i]? with
      | none => rw [q] at e; cases e
      | some x => rw [q] at e; cases e; rfl
    rw [List.getElem?_append_left (by rw [List.length_map]; omega), List.getElem?_map]
    clear e hl hi
    induction r generalizing i with
    | nil => simp at hd
    | cons h t ih =>
      cases i with
      | zero => simp at hd; subst hd; exact ⟨_, rfl, h⟩
      | succ i => simpa using ih i (by simpa using hd)
  · rw [List.getElem?_append_right (by simpa using hi), List.getElem?_replicate] at e
    split at e <;> cases e
/-- THE RULE: a lambda by its body -/
theorem lamOk_of {P : Program} {w : World} {K : PySem.W.Frag} {mg : Str → Option Value} {base : Heap} {k : Nat} {G : GC} {Φ : Calls} {l : Nat} {t : LamTxt} {body : IE} {nn : Nat} {te : WE}
    (S : NdefX.NScope t.N t.ps t.caps t.scope) (hb : ∀ (cl : List (Str × Addr)) (pm cdv ctv : Value) (us : List Value), us.length = t.ps.length → bindArgs (PySem.W.kla_fn "<lambda>" t.qual t.params t.body t.scope cl pm cdv ctv) ⟨us, []⟩ = pure (t.ps.zip us)) (hnn : t.N.length = nn)
    (hΦ : ∀ cs ds M Q E, Φ.clo l cs ds M Q E → ds.length = t.ps.length ∧ cs.length = t.caps.length ∧ te (ds.map (fun d => some (.d d)) ++ cs.map (fun d => some (.d d)) ++ List.replicate (nn - (t.ps.length + t.caps.length)) none) M Q E)
    (hbody : ∀ (A : Around) (outer : List Env) (s : Shared) (H : Hp) (E : XK) (f c' : Addr) (cl : List (Str × Addr)), A.guards = some [] → Room k (A.deeper (NdefX.envF (nfL t cl c') f s.heap.objs.size)) →
      PE (NdefX.ncx (L2.CX P w) P w K mg base t.N (nfL t cl c') f A outer s H E) t.body (rdE G E te)) : LamOk P w K mg base (k + 1) G Φ l t := by
  refine ⟨fun A outer s H F M f c' ob cl cs wsC dsC us vs ds Qd Ed Q E hgd hr e0 SS hF hC hcaps hsub hinj rC rD rA rv q pq px => ?_⟩
  have C := rC.cel SS
  have hL := SS.hard f _ hF rfl
  obtain ⟨ho, ⟨pm, ctv, hget⟩, _, _⟩ := e0.hok f _ hL
  obtain ⟨n1, n2, n3⟩ := hΦ _ _ _ _ _ q
  have lim : s.heap.NoLimit := e0.mod.nolimit.keeps fun b o e => (e0.bs b o e).1
  have hcode : s.heap.CodeRec (.ref c') t.qual := by
    rcases SS.sub c' _ hC with z | ⟨ob', z⟩
    · exact NdefX.codeO_at e0.hok z
    · obtain ⟨_, ⟨oc, vs', tt, h1, h2, h3⟩, _, _⟩ := e0.hok c' _ z
      exact ⟨c', oc, vs', tt, rfl, h1, h2, h3⟩
  have hvl : vs.length = t.ps.length := by rw [rA.length]; exact n1
  have hlw : wsC.length = t.caps.length := by rw [rD.length]; exact n2
  have e0' := Env0.drop e0 C
  have S' := SS.drop C
  have s0 := SS.sub0 C
  have CA : NdefX.CellsAt cl t.caps (wsC.map some) s.heap (dropH H cs) := by
    have ix : ∀ (i : Nat) (y : Str), t.caps[i]? = some y → ∃ c, cs[i]? = some c ∧ cl.lookup y = some c := fun i y e => by
      have z := congrArg (fun l => l[i]?) hcaps
      simp only [List.getElem?_map, e, Option.map_some] at z
      cases h : cs[i]? with
      | none => rw [h] at z; cases z
      | some c => rw [h] at z; exact ⟨c, rfl, Option.some.inj z⟩
    have cell : ∀ (i : Nat) (c : Addr), cs[i]? = some c → ∃ v, wsC[i]? = some v ∧ ∃ u, s.heap.IsCell c (some u) ∧ L2.RelV v u := fun i c e => by
      obtain ⟨v, ob, h1, h2⟩ := rC.at' e
      obtain ⟨_, ⟨u, h3, h4⟩, _, _⟩ := e0.hok c _ (SS.hard c _ h2 rfl)
      exact ⟨v, h1, u, h3, h4⟩
    refine ⟨by rw [List.length_map]; exact hlw, fun y c e => ?_, hinj, fun i y e => ?_⟩
    · obtain ⟨i, hi⟩ := List.mem_iff_getElem?.mp (hsub y c e)
      obtain ⟨c1, h1, h2⟩ := ix i y hi
      rw [e] at h2
      cases h2
      obtain ⟨v, _, u, h3, _⟩ := cell i c h1
      exact ⟨dropH_in (List.mem_of_getElem? h1), _, h3⟩
    · obtain ⟨c, h1, h2⟩ := ix i y e
      obtain ⟨v, h3, u, h4, h5⟩ := cell i c h1
      refine ⟨c, h2, fun v' e' => ?_⟩
      rw [List.getElem?_map, h3] at e'
      cases e'
      exact ⟨u, h5, h4⟩
  have rc : codeAny (model P w) A (.call (.ref f) ⟨us, []⟩) (CR (L2.CX P w) outer P w (dropH H cs) s (fun v H' => (∀ c ∈ cs, H' c = none) → Q v (readd H H' cs)) (fun cls d H' => (∀ c ∈ cs, H' c = none) → E cls d (readd H H' cs))) s := by
    refine PySem.W.kla_callFunE hr.depth hget rfl S.co S.gen rfl hcode ?_
    rw [hb cl pm (.ref c') ctv us (by rw [← rv.length]; exact hvl)]
    refine wpAny_pure (wpAny_newFunctionEnv S.nocell (fun ⟨n, _⟩ hy => S.par n (List.of_mem_zip hy).1) (fun h₁ hns hsb => ⟨lim.fresh _ hsb, ?_⟩) S.kind)
    show codeAny _ _ (.expr t.body (NdefX.envF (nfL t cl c') f s.heap.objs.size)) _ _
    have kp : ∀ b o, s.heap.get? b = some o → h₁.get? b = some o := fun b o e => hsb.extBut b o (Nat.ne_of_lt (Heap.lt_size e)) (Heap.get?_push_of_some _ e)
    have J : Inv (NdefX.ncx (L2.CX P w) P w K mg base t.N (nfL t cl c') f A outer s (dropH H cs) (fun cls d H' => (∀ c ∈ cs, H' c = none) → E cls d (readd H H' cs))) [] (NdefX.startF t.N vs (wsC.map some)) (dropH H cs) { s with heap := h₁, toks := s.toks + (t.ps.zip us).length } :=
      NdefX.inv_startN S hr.hd e0' hvl rv CA hns kp
    refine PySem.W.kla_codeExpr (wpAny_mono ((hbody A outer s (dropH H cs) (fun cls d H' => (∀ c ∈ cs, H' c = none) → E cls d (readd H H' cs)) f c' cl hgd (hr.deeper _)).run [] _ _ (dropH H cs) (fun v H' => (∀ c ∈ cs, H' c = none) → Q v (readd H H' cs)) J ?_) (fun v s' hq => ?_) fun e s' hq => hq)
    · refine ⟨_, dropH F cs, M, Qd, Ed, ⟨S', ?_, ?_⟩, n3, fun d M' v H' F' q' S'' K' u' r' hn => ?_, fun x M' cls dd H' F' q' S'' K' u' ⟨r1, r0, dx, fs, r2, r3, r4⟩ hn => ?_⟩
      · have z := VR.start (G := G) (F := dropH F cs) (n := t.N.length - vs.length - wsC.length) (m := nn - (t.ps.length + t.caps.length)) ((rA.mono0 s0).sl.append (rD.mono0 s0).sl)
        simp only [List.map_append, List.map_map] at z
        unfold NdefX.startF
        rw [List.length_map, ← List.append_assoc]
        exact z
      · have hle : t.ps.length + t.caps.length ≤ t.N.length := by
          have e := congrArg List.length S.pre
          rw [List.length_take, List.length_append] at e
          omega
        unfold NdefX.startF
        simp only [List.length_append, List.length_map, List.length_replicate]
        omega
      · exact pq d M' v _ _ q' (SS.readd S'' hn) (Keep.readd S'' hn K') (Sub.readd u') (r'.mono (Sub.toReadd S'' hn))
      · refine px x M' cls dd _ _ q' (SS.readd S'' hn) (Keep.readd S'' hn K') (Sub.readd u') ⟨r1, r0, dx, fs, r2, ?_, r4.mono (Sub.toReadd S'' hn)⟩
        have hx : dx ∉ cs := fun z => by rw [hn dx z] at r3; cases r3
        rw [readd_out hx]; exact r3
    · obtain ⟨w', H', J', rv', q'⟩ := hq
      exact ⟨w', H', J'.os, J'.bare, J'.base, J'.hok, rv', q'⟩
  refine codeAny_mono rc fun r s' hq => ?_
  cases r with
  | error e => exact cx_readd e0 C hq
  | ok fl =>
    cases fl with
    | ret u => exact ce_readd e0 C hq
    | next => exact hq
    | brk => exact hq
    | cont => exact hq
section
variable {G : GC} {X : Cx} {E : XK} {CX : CXT} {k i : Nat} {Φ : Calls} {pos p : Pos} {x : Str} {es : List Expr} {n : Nat} {t : WA} {e : Expr}
/-- a local name is called -/
theorem s_cav {j : Nat} (C : CanCall X E (L2.CX X.prog X.w) k G Φ) (L : LamAll X.prog X.w X.K X.mg X.base k G Φ) (hN : X.N[j]? = some x) (hv : Vis X.env.scope x) (hd : (x == ("__debug__" : Str)) = false) (hcd : (x == ("__classdict__" : Str)) = false)
    (ha : PA X (e :: es) (rdA G E n t)) (hp : allPlain (e :: es) = true) : PE X (.Call (.Name x p) (e :: es) [] pos) (rdE G E fun ρ M Q Ex => ∃ d, ρ[j]? = some (some d) ∧ isCall d = true ∧ t ρ M (fun ds M1 => callD Φ d ds M1 Q Ex) Ex) := by
  refine ⟨fun pins s σ H Q I ⟨ρ, F, M, Qd, Ed, S, ⟨d, hj, hcl, q⟩, pq, px⟩ => ?_⟩
  have hp' := hp
  simp only [allPlain, Bool.and_eq_true] at hp'
  obtain ⟨v, e1, r⟩ := S.vr j _ hj
  refine wpAny_Call_Name_kw (thn ((pe_var (pos := p) (i := j) hN hv hd hcd).run pins s σ H (fun w H1 => w = v ∧ H1 = H) I ⟨v, e1, rfl, rfl⟩) fun u s1 ⟨w, H1, I1, rw1, ew, eH⟩ => ?_)
  subst ew eH
  cases r with
  | @d _ x r =>
    cases r with
    | fn i hi =>
      obtain rfl : u = Value.ref (G.fa i) := rw1
      obtain ⟨fd, ps, f⟩ := C.all i hi
      refine PySem.W.callWith_K (h₀ := X.base) I.ok.mod.kin f.kp (ra_use ha I1 S q px fun us s2 vs ds H2 F2 M2 I2 S2 K2 u2 r2 rv hl q2 => ⟨I2.kIn, ?_⟩) (starEach_eq hp'.1) (backTo_plain hp'.2)
      exact run_D C hi I2 S2.sr r2.sl rv q2 (pq.step K2 u2) (px.step K2 u2)
    | _ => cases hcl
  | @clo f c' ob l t' cl cs wsC dsC h1 h2 h3 h4 h5 h6 h7 h8 =>
    obtain rfl : u = Value.ref f := rw1
    have fnAt : ∀ {H2 F2 : Hp} {M2 : Sto} {s2 : Shared}, Inv X pins σ H2 s2 → SR G H2 F2 M2 → Sub F F2 → PySem.W.FnAt f s2.heap := fun {H2 F2 M2 s2} I2 S2 u2 => by
      obtain ⟨_, ⟨pm, ctv, hget⟩, _, _⟩ := I2.hok f _ (S2.hard f _ (u2 _ _ h2) rfl)
      exact ⟨_, _, _, _, hget⟩
    refine PySem.W.callWith_F (fnAt I1 S.sr (Sub.refl F)) (ra_use ha I1 S q px fun us s2 vs ds H2 F2 M2 I2 S2 K2 u2 r2 rv hl q2 => ⟨fnAt I2 S2.sr u2, ?_⟩) (starEach_eq hp'.1) (backTo_plain hp'.2)
    refine wpAny_call (codeAny_mono ((L l t' h1).run X.A X.stack s2 H2 F2 M2 f c' ob cl cs wsC dsC us vs ds Qd Ed Q E C.gd (C.room.mono (Nat.le_succ k)) I2.env0 S2.sr (u2 _ _ h2) (u2 _ _ h3) h4 h5 h6 (h7.mono u2) (h8.mono u2) r2 rv q2 (pq.step K2 u2) (px.step K2 u2)) fun r s' hq => ?_)
    cases r with
    | error e => exact C.pass pins σ H2 s2 e s' I2 hq
    | ok fl =>
      cases fl with
      | ret u => exact I2.after hq
      | next => exact False.elim hq
      | brk => exact False.elim hq
      | cont => exact False.elim hq
end
end DS
end
section
set_option Elab.async false
set_option linter.all false
set_option maxRecDepth 100000
/-! DsQ: lambdas made as arguments; calls with lambdas. -/
namespace DS
open PySem PySem.Spec PyProof.Rows L2 LamX
section
variable {G : GC} {H F : Hp} {M : Sto}
/-- a table grows, a code object is new -/
theorem SR.code (S : SR G H F M) {P c' : Addr} {q : Str} {ps ps' : Array Value} (hP : H P = some (.tbl ps)) (hc : H c' = none) (hT : Tabs G.T (upd (upd H P (.tbl ps')) c' (CodeO c' q))) :
    SR G (upd (upd H P (.tbl ps')) c' (CodeO c' q)) (upd F c' (CodeO c' q)) M ∧ Keep H F M (upd (upd H P (.tbl ps')) c' (CodeO c' q)) (upd F c' (CodeO c' q)) M ∧ Sub F (upd F c' (CodeO c' q)) := by
  have hcP : c' ≠ P := fun z => by rw [z, hP] at hc; cases hc
  have ne : ∀ a o, H a = some o → (∀ p, o ≠ .tbl p) → upd (upd H P (.tbl ps')) c' (CodeO c' q) a = some o := fun a o e n => by
    rw [upd_ne (ne_of_none e hc), upd_ne (fun z => by subst z; rw [hP] at e; exact n ps (Option.some.inj e).symm)]
    exact e
  have hs : Sub F (upd F c' (CodeO c' q)) := Sub.upd (S.fnone hc)
  refine ⟨⟨fun a o e => ?_, fun a m e => ?_, hT, fun a p e => ?_, fun a o e hh => ?_, fun a o e hh => ?_⟩, fun a o e m t => ⟨ne a o e t, m, fun z n => ?_⟩, hs⟩
  · by_cases ha : a = c'
    · subst ha; rw [upd_same] at e; cases e; exact .inl upd_same
    · rw [upd_ne ha] at e
      have nt : ∀ p, o ≠ .tbl p := fun p z => S.ntb a p (by rw [← z]; exact e)
      rcases S.sub a o e with x | ⟨ob, x⟩
      · exact .inl (ne a o x nt)
      · exact .inr ⟨ob, ne a _ x fun _ z => by cases z⟩
  · obtain ⟨h1, h2⟩ := S.mo a m e
    obtain ⟨u, hu⟩ := h2.some
    have ha : a ≠ c' := ne_of_none hu hc
    have nt : ∀ p, u ≠ .tbl p := fun p z => by
      subst z
      cases m with
      | lst _ => obtain ⟨_, x, _⟩ := h2; rw [hu] at x; cases x
      | dic _ => rcases h2 with ⟨_, x, _⟩ | ⟨_, x, _⟩ <;> rw [hu] at x <;> cases x
      | ins _ _ => obtain ⟨_, _, _, x, _⟩ := h2; rw [hu] at x; cases x
    exact ⟨by rw [upd_ne ha]; exact h1, h2.mono (by rw [ne a u hu nt, hu]) hs⟩
  · by_cases ha : a = c'
    · subst ha; rw [upd_same] at e; exact codeO_ne p (Option.some.inj e)
    · rw [upd_ne ha] at e; exact S.ntb a p e
  · by_cases ha : a = c'
    · subst ha; rw [upd_same] at e; cases e; cases hh
    · rw [upd_ne ha] at e
      exact ne a o (S.hard a o e hh) fun p z => S.ntb a p (by rw [← z]; exact e)
  · by_cases ha : a = c'
    · subst ha; rw [upd_same] at e; cases e; cases hh
    · rw [upd_ne ha] at e
      obtain ⟨ob, x⟩ := S.dics a o e hh
      exact ⟨ob, ne a _ x fun _ z => by cases z⟩
  · have ha : a ≠ c' := ne_of_none e hc
    rw [upd_ne ha]; exact z
/-- a code object that was found is known from now on -/
theorem SR.codeHit (S : SR G H F M) {c' : Addr} {q : Str} (hc : H c' = some (CodeO c' q)) : SR G H (upd F c' (CodeO c' q)) M ∧ Keep H F M H (upd F c' (CodeO c' q)) M ∧ Sub F (upd F c' (CodeO c' q)) := by
  have hF : ∀ o, F c' = some o → o = CodeO c' q := fun o e => by
    rcases S.sub c' o e with x | ⟨ob, x⟩
    · rw [hc] at x; exact (Option.some.inj x).symm
    · rw [hc] at x; cases x
  have hs : Sub F (upd F c' (CodeO c' q)) := fun a o e => by
    by_cases ha : a = c'
    · subst ha; rw [upd_same, hF o e]
    · rw [upd_ne ha]; exact e
  refine ⟨⟨fun a o e => ?_, fun a m e => ?_, S.tabs, fun a p e => ?_, fun a o e hh => ?_, fun a o e hh => ?_⟩, Keep.adoptO hc rfl, hs⟩
  · by_cases ha : a = c'
    · subst ha; rw [upd_same] at e; cases e; exact .inl hc
    · rw [upd_ne ha] at e; exact S.sub a o e
  · obtain ⟨h1, h2⟩ := S.mo a m e
    have ha : a ≠ c' := fun z => by
      subst z
      cases m with
      | lst _ => obtain ⟨_, x, _⟩ := h2; rw [hc] at x; cases x
      | dic _ => rcases h2 with ⟨_, x, _⟩ | ⟨_, x, _⟩ <;> rw [hc] at x <;> cases x
      | ins _ _ => obtain ⟨_, _, _, x, _⟩ := h2; rw [hc] at x; cases x
    exact ⟨by rw [upd_ne ha]; exact h1, h2.mono rfl hs⟩
  · by_cases ha : a = c'
    · subst ha; rw [upd_same] at e; exact codeO_ne p (Option.some.inj e)
    · rw [upd_ne ha] at e; exact S.ntb a p e
  · by_cases ha : a = c'
    · subst ha; rw [upd_same] at e; cases e; cases hh
    · rw [upd_ne ha] at e; exact S.hard a o e hh
  · by_cases ha : a = c'
    · subst ha; rw [upd_same] at e; cases e; cases hh
    · rw [upd_ne ha] at e; exact S.dics a o e hh
end
section
variable {G : GC} {X : Cx}
/-- the function object of a lambda, just made, is known -/
theorem lam_known {pins : List (Addr × Obj)} {σ : L2.St} {H F : Hp} {M : Sto} {s : Shared} {t : LamTxt} {cl : List (Str × Addr)} {c' : Addr} {pm ctv : Value} {h' : Heap} {tk : Nat} (I : Inv X pins σ H { s with heap := h', toks := tk }) (S : SR G H F M) :
    ∃ ob, Inv X pins σ (upd H h'.objs.size (.frz ob (LamH h'.objs.size t cl c'))) { s with heap := h'.push (PySem.W.kla_obj "<lambda>" t.qual t.params t.body t.scope cl pm c' ctv), toks := tk } ∧
      SR G (upd H h'.objs.size (.frz ob (LamH h'.objs.size t cl c'))) (upd F h'.objs.size (.frz ob (LamH h'.objs.size t cl c'))) M ∧ H h'.objs.size = none := by
  have hn : H h'.objs.size = none := I.hok.fresh (Nat.le_refl _)
  have he : (h'.push (PySem.W.kla_obj "<lambda>" t.qual t.params t.body t.scope cl pm c' ctv)).get? h'.objs.size = some (PySem.W.kla_obj "<lambda>" t.qual t.params t.body t.scope cl pm c' ctv) := Heap.get?_push_size _ rfl
  refine ⟨PySem.W.kla_obj "<lambda>" t.qual t.params t.body t.scope cl pm c' ctv, I.laid (t' := tk) (fun b u e => Heap.get?_push_of_some _ e) (Nat.le_refl _) ⟨he, ⟨pm, ctv, he⟩, ⟨_, he⟩, fun h1 h2 ⟨p, c, z⟩ st => ⟨p, c, st _ z⟩⟩, ?_, hn⟩
  exact S.newG hn (fun _ z => by cases z) (.inl ⟨rfl, rfl⟩)
theorem lam_makeD {pins : List (Addr × Obj)} {σ : L2.St} {H F : Hp} {M : Sto} {s : Shared} {c P : Addr} {t : LamTxt} {pos : Pos} {E : Value → Shared → Prop} {Q : Value → Shared → Prop} (I : Inv X pins σ H s) (S : SR G H F M) (TB : TabB X.base X.mg c P) (hcode : X.env.code = .ref c)
    (ht : t.qual = X.env.qual ++ "<lambda>") (hm : (P, t.qual) ∈ G.T) (hu : ∀ p ∈ G.T, p.1 = P → p.2 = t.qual) (hdef : defaultsOf t.params X.env = ([], [])) (hfree : ∀ y ∈ t.scope.names, y.2 = .free → ∃ c, X.env.cells.lookup y.1 = some c)
    (h : ∀ (f c' : Addr) (ob : Obj) (H1 F1 : Hp) (s' : Shared), Inv X pins σ H1 s' → SR G H1 F1 M → Keep H F M H1 F1 M → Sub F F1 → F1 f = some (.frz ob (LamH f t (cloFrom X.env.cells t.scope.names []) c')) → F1 c' = some (CodeO c' t.qual) → Q (.ref f) s') :
    wpAny (model X.prog X.w) X.A (eval (.Lambda t.params t.body t.scope pos) X.env) Q E s := by
  obtain ⟨ps, hP, htr, ha⟩ := S.tabs _ hm
  refine PySem.W.kla_eval hdef ?_
  rw [← ht]
  have bP : s.heap.BuiltinsAt X.mg P := TB.bm.keeps I.bk
  have hP' : s.heap.get? P = some { cls := .none, data := .fields ps } := I.hok P _ hP
  cases hc : codeAmong pos ps.toList with
  | none =>
    refine PySem.W.kla_makeFunction (mg := X.mg) (c := c) (P := P) (ps := ps) (closure_ok hfree) I.ok.glob (I.mod.glob.keeps I.bk) hcode (TB.code.keeps I.bk) hP' htr hc TB.gP bP fun c' ctv h' tk hx hge hlt hrec htb => ?_
    obtain ⟨c2, oc, vs, tt, e2, hoc, hd, hv⟩ := hrec
    cases e2
    have nC : H c' = none := I.hok.fresh hge
    have I1 := inv_table (t' := tk) (more := #[rawInt pos.line, rawInt pos.col, .ref c']) (h' := h') (q := t.qual) I hP (fun b o hb e => hx b o hb e) htb hge ⟨oc, vs, tt, hoc, hd, hv⟩
    have eL : (ps ++ #[rawInt pos.line, rawInt pos.col, .ref c']).toList = ps.toList ++ [rawInt pos.line, rawInt pos.col, .ref c'] := by simp
    have hE : ∀ b o, H b = some o → (∀ p, o ≠ .tbl p) → upd (upd H P (.tbl (ps ++ #[rawInt pos.line, rawInt pos.col, .ref c']))) c' (CodeO c' t.qual) b = some o := fun b o e n => by
      rw [upd_ne (ne_of_none e nC), upd_ne (fun z => by subst z; rw [hP] at e; exact n ps (Option.some.inj e).symm)]
      exact e
    have T1 : Tabs G.T (upd (upd H P (.tbl (ps ++ #[rawInt pos.line, rawInt pos.col, .ref c']))) c' (CodeO c' t.qual)) := fun p hp => by
      by_cases hb : p.1 = P
      · rw [hu p hp hb, hb]
        refine ⟨_, by rw [upd_ne (ne_of_none hP nC), upd_same], by rw [eL]; exact PySem.TriplesOk_snoc _ _ _ _ htr, fun p' cv hcv => ?_⟩
        rw [eL] at hcv
        rcases among_app _ htr hcv with z | z
        · obtain ⟨c0, e1, e2⟩ := ha p' cv z
          exact ⟨c0, e1, hE _ _ e2 codeO_ne⟩
        · exact ⟨c', z, upd_same⟩
      · obtain ⟨ps', a1, a2, a3⟩ := S.tabs p hp
        refine ⟨ps', by rw [upd_ne (ne_of_none a1 nC), upd_ne hb]; exact a1, a2, fun p' cv hcv => ?_⟩
        obtain ⟨c0, e1, e2⟩ := a3 p' cv hcv
        exact ⟨c0, e1, hE _ _ e2 codeO_ne⟩
    obtain ⟨S1, K1, u1⟩ := S.code (q := t.qual) hP nC T1
    obtain ⟨ob, I2, S2, hn⟩ := lam_known (t := t) (cl := cloFrom X.env.cells t.scope.names []) (c' := c') (pm := (X.mg "__name__").getD .none) (ctv := ctv) I1 S1
    have u2 := Sub.upd (o := .frz ob (LamH h'.objs.size t (cloFrom X.env.cells t.scope.names []) c')) (S1.fnone hn)
    exact h _ c' ob _ _ _ I2 S2 (K1.trans (Keep.new S1 hn)) (u1.trans u2) upd_same (u2 _ _ upd_same)
  | some cv =>
    obtain ⟨c', e, hco⟩ := ha pos cv hc
    subst e
    refine PySem.W.kla_makeFunctionHit (mg := X.mg) (c := c) (P := P) (ps := ps) (closure_ok hfree) I.ok.glob (I.mod.glob.keeps I.bk) hcode (TB.code.keeps I.bk) hP' htr hc bP fun ctv h' tk hx hsz => ?_
    have I1 : Inv X pins σ H { s with heap := h', toks := tk } := I.kept hx
    obtain ⟨S1, K1, u1⟩ := S.codeHit hco
    obtain ⟨ob, I2, S2, hn⟩ := lam_known (t := t) (cl := cloFrom X.env.cells t.scope.names []) (c' := c') (pm := (X.mg "__name__").getD .none) (ctv := ctv) I1 S1
    have u2 := Sub.upd (o := .frz ob (LamH h'.objs.size t (cloFrom X.env.cells t.scope.names []) c')) (S1.fnone hn)
    exact h _ c' ob _ _ _ I2 S2 (K1.trans (Keep.new S1 hn)) (u1.trans u2) upd_same (u2 _ _ upd_same)
end
end DS
end
section
set_option Elab.async false
set_option linter.all false
set_option maxRecDepth 100000
/-! DsR: a call with lambdas among the arguments. -/
namespace DS
open PySem PySem.Spec PyProof.Rows L2 LamX
/-- the cell at c as it stands -/
def cellHO (h : Heap) (c : Addr) : Option HO := match h.get? c with
  | some ob => match ob.data with
    | .cell (some u) => (absV u).map fun v => .frz ob (CellH c v)
    | _ => none
  | none => none
def addH (H : Hp) (h : Heap) (cs : List Addr) : Hp := fun a => if a ∈ cs then cellHO h a else H a
/-- each of them holds something, and is nobody's -/
def CellsIn (H : Hp) (h : Heap) (cs : List Addr) : Prop := ∀ c ∈ cs, H c = none ∧ ∃ ob v, h.get? c = some ob ∧ cellHO h c = some (.frz ob (CellH c v))
theorem cellHO_of {h : Heap} {c : Addr} {u : Value} {v : V} (x : h.IsCell c (some u)) (r : L2.RelV v u) : ∃ ob, h.get? c = some ob ∧ cellHO h c = some (.frz ob (CellH c v)) := by
  obtain ⟨ob, ho, hd⟩ := x
  refine ⟨ob, ho, ?_⟩
  unfold cellHO
  rw [ho]
  simp only [hd, r.abs, Option.map_some]
theorem cellHO_val {h : Heap} {c : Addr} {ob : Obj} {v : V} (e : cellHO h c = some (.frz ob (CellH c v))) : ∃ u w, h.get? c = some ob ∧ ob.data = .cell (some u) ∧ absV u = some w ∧ CellH c w = CellH c v := by
  unfold cellHO at e
  split at e
  · rename_i o ho
    split at e
    · rename_i u hd
      rw [Option.map_eq_some_iff] at e
      obtain ⟨w, h1, h2⟩ := e
      injection h2 with e1 e2
      subst e1
      exact ⟨u, w, ho, hd, h1, e2⟩
    · cases e
  · cases e
theorem absV_rel {u : Value} {v : V} (h : absV u = some v) : L2.RelV v u := by
  cases u <;> simp only [absV] at h <;> first
    | (cases h; done)
    | (cases h; first | rfl | exact ⟨_, rfl⟩)
section
variable {G : GC} {H F : Hp} {M : Sto} {h : Heap} {cs : List Addr} {P : Program} {w : World}
theorem addH_in {a : Addr} (ha : a ∈ cs) : addH H h cs a = cellHO h a := if_pos ha
theorem addH_out {a : Addr} (ha : a ∉ cs) : addH H h cs a = H a := if_neg ha
theorem CellsIn.out (C : CellsIn H h cs) {a : Addr} {o : HO} (e : H a = some o) : a ∉ cs := fun z => by rw [(C a z).1] at e; cases e
theorem CellsIn.le (C : CellsIn H h cs) {a : Addr} {o : HO} (e : H a = some o) : addH H h cs a = some o := by rw [addH_out (C.out e)]; exact e
theorem HOk.add (ok : HOk P w H h) (C : CellsIn H h cs) : HOk P w (addH H h cs) h := fun b o e => by
  by_cases hb : b ∈ cs
  · obtain ⟨_, ob, v, h1, h2⟩ := C b hb
    rw [addH_in hb, h2] at e
    cases e
    obtain ⟨u, w, _, hd, ha, hw⟩ := cellHO_val h2
    have hφ : ∀ h2 : Heap, h2.get? b = some ob → ∃ u', h2.IsCell b (some u') ∧ L2.RelV w u' := fun h2 z => ⟨u, ⟨ob, z, hd⟩, absV_rel ha⟩
    rw [← hw]
    exact ⟨h1, hφ h h1, ⟨ob, h1⟩, fun ha hb' ⟨u', ⟨o', z1, z2⟩, r⟩ st => ⟨u', ⟨o', st o' z1, z2⟩, r⟩⟩
  · rw [addH_out hb] at e
    exact (ok b o e).stay (fun c v _ q => q) (fun c q => C.le q) fun c xs q => C.le q
theorem SR.add (S : SR G H F M) (C : CellsIn H h cs) : SR G (addH H h cs) (addH F h cs) M := by
  have fout : ∀ a o, F a = some o → a ∉ cs := fun a o e z => by rw [S.fnone (C a z).1] at e; cases e
  have hs : Sub F (addH F h cs) := fun a o e => by rw [addH_out (fout a o e)]; exact e
  have cell : ∀ a o, a ∈ cs → addH F h cs a = some o → addH H h cs a = some o ∧ ∃ ob v, o = .frz ob (CellH a v) := fun a o ha e => by
    rw [addH_in ha] at e ⊢
    obtain ⟨_, ob, v, _, h2⟩ := C a ha
    rw [h2] at e
    cases e
    exact ⟨h2, ob, v, rfl⟩
  refine ⟨fun a o e => ?_, fun a m e => ?_, S.tabs.ext fun b o e => C.le e, fun a ps e => ?_, fun a o e hh => ?_, fun a o e hh => ?_⟩
  · by_cases ha : a ∈ cs
    · exact .inl (cell a o ha e).1
    · rw [addH_out ha] at e ⊢; exact S.sub a o e
  · obtain ⟨h1, h2⟩ := S.mo a m e
    obtain ⟨u, hu⟩ := h2.some
    have ha := C.out hu
    exact ⟨by rw [addH_out ha]; exact h1, h2.mono (by rw [addH_out ha]) hs⟩
  · by_cases ha : a ∈ cs
    · obtain ⟨_, ob, v, z⟩ := cell a _ ha e; cases z
    · rw [addH_out ha] at e; exact S.ntb a ps e
  · by_cases ha : a ∈ cs
    · exact (cell a o ha e).1
    · rw [addH_out ha] at e ⊢; exact S.hard a o e hh
  · by_cases ha : a ∈ cs
    · obtain ⟨_, ob, v, z⟩ := cell a _ ha e; subst z; cases hh
    · rw [addH_out ha] at e ⊢; exact S.dics a o e hh
theorem Sub.add (S : SR G H F M) (C : CellsIn H h cs) : Sub F (addH F h cs) := fun a o e => by
  have ha : a ∉ cs := fun z => by rw [S.fnone (C a z).1] at e; cases e
  rw [addH_out ha]; exact e
/-! ### put off again -/
variable {H' F' : Hp} {M' : Sto} {fs : List Addr} {h' : Heap}
theorem un_off (C : CellsIn H h cs) (u : Un fs [] (addH H h cs) H' h h') (ok' : HOk P w H' h') (nf : ∀ b ∈ fs, b ∉ cs) : Un fs [] H (dropH H' cs) h h' ∧ HOk P w (dropH H' cs) h' ∧ Cel H' cs := by
  have kept : ∀ c ∈ cs, ∃ ob v, h.get? c = some ob ∧ H' c = some (.frz ob (CellH c v)) ∧ h'.get? c = some ob := fun c hc => by
    obtain ⟨_, ob, v, h1, h2⟩ := C c hc
    have e := u.frzs c ob _ (by rw [addH_in hc]; exact h2)
    exact ⟨ob, v, h1, e, (ok' c _ e).1⟩
  have cel : Cel H' cs := fun c hc => by obtain ⟨ob, v, _, e, _⟩ := kept c hc; exact ⟨ob, _, e⟩
  have an : ∀ b, H b = none → b ∉ cs → addH H h cs b = none := fun b n hb => by rw [addH_out hb]; exact n
  refine ⟨⟨fun b o e n hb hx => ?_, fun b o e n hb hx => u.slot b o e (an b n (nf b hb)) hb hx, fun b o e n hx => ?_, fun b o e hx => u.there b o e hx, fun b xs e => ?_, fun b o x e => ?_, fun b ps e => ?_⟩, HOk.drop ok' cel, cel⟩
  · by_cases hc : b ∈ cs
    · obtain ⟨ob, v, h1, _, h3⟩ := kept b hc
      rw [h1] at e; cases e; exact h3
    · exact u.keep b o e (an b n hc) hb hx
  · by_cases hc : b ∈ cs
    · exact dropH_in hc
    · rw [dropH_out hc]; exact u.free b o e (an b n hc) hx
  · rw [dropH_out (C.out e)]; exact u.tups b xs (C.le e)
  · rw [dropH_out (C.out e)]; exact u.frzs b o x (C.le e)
  · rw [dropH_out (C.out e)]; exact u.tbls b ps (C.le e)
theorem Keep.off (C : CellsIn H h cs) (k : Keep (addH H h cs) (addH F h cs) M H' F' M') : Keep H F M (dropH H' cs) (dropH F' cs) M' := fun a o e m t => by
  have ha := C.out e
  obtain ⟨x, y, z⟩ := k a o (C.le e) m t
  exact ⟨by rw [dropH_out ha]; exact x, y, fun q n => by rw [dropH_out ha]; exact z (by rw [addH_out ha]; exact q) n⟩
theorem Sub.off (S : SR G H F M) (C : CellsIn H h cs) (s : Sub (addH F h cs) F') : Sub F (dropH F' cs) := fun a o e => by
  have ha : a ∉ cs := fun z => by rw [S.fnone (C a z).1] at e; cases e
  rw [dropH_out ha]; exact s a o (by rw [addH_out ha]; exact e)
end
/-! ### arguments -/
/-- an argument before the call: data, or a lambda just made -/
inductive RepP (G : GC) (X : Cx) (σ : L2.St) (F : Hp) : V → SV → Prop
  | d {v : V} {x : D} : Rep G F v x → RepP G X σ F v (.d x)
  | clo {f c' : Addr} {ob : Obj} {l : Nat} {t : LamTxt} {js : List Nat} {vs : List V} {ds : List D} : (G.lt l t ∧ t.caps = G.cps l) → F f = some (.frz ob (LamH f t (cloFrom X.env.cells t.scope.names []) c')) → F c' = some (CodeO c' t.qual) →
      js.map (fun j => X.N[j]?) = t.caps.map some → (∀ y ∈ t.caps, X.env.scope.names.lookup y = some .cell) → js.map (fun j => σ[j]?) = vs.map (fun v => some (some v)) → (∀ y ∈ t.scope.names, y.2 = .free → y.1 ∈ t.caps) → (∀ y ∈ t.caps, (y, NameKind.free) ∈ t.scope.names) → RepL G F vs ds → RepP G X σ F (.ref f) (.clo l ds)
inductive RepPL (G : GC) (X : Cx) (σ : L2.St) (F : Hp) : List V → List SV → Prop
  | nil : RepPL G X σ F [] []
  | cons {v : V} {vs : List V} {d : SV} {ds : List SV} : RepP G X σ F v d → RepPL G X σ F vs ds → RepPL G X σ F (v :: vs) (d :: ds)
theorem RepP.mono {G : GC} {X : Cx} {σ : L2.St} {F F' : Hp} (s : Sub F F') {v : V} {x : SV} : RepP G X σ F v x → RepP G X σ F' v x
  | .d r => .d (r.mono s)
  | .clo h1 h2 h3 h4 h5 h6 h7 h8 r => .clo h1 (s _ _ h2) (s _ _ h3) h4 h5 h6 h7 h8 (r.mono s)
theorem RepPL.mono {G : GC} {X : Cx} {σ : L2.St} {F F' : Hp} (s : Sub F F') : ∀ {vs ss}, RepPL G X σ F vs ss → RepPL G X σ F' vs ss
  | _, _, .nil => .nil
  | _, _, .cons h t => .cons (h.mono s) (t.mono s)
abbrev WAs := DEnv → Sto → Po (List SV) → Po Exn → Prop
structure PAS (G : GC) (X : Cx) (E : XK) (es : List Expr) (t : WAs) : Prop where
  run : ∀ (pos : Pos) (pins : List (Addr × Obj)) (s : Shared) (σ : L2.St) (H F : Hp) (ρ : DEnv) (M : Sto) (Qd : Po (List SV)) (Ed : Po Exn) (Qf : List Value → Shared → Prop), Inv X pins σ H s → StR G σ H F ρ M → t ρ M Qd Ed → PX G H F M Ed E →
    (∀ us s1 vs ss H1 F1 M1, Inv X pins σ H1 s1 → StR G σ H1 F1 ρ M1 → Keep H F M H1 F1 M1 → Sub F F1 → RepPL G X σ F1 vs ss → Vals vs us → Qd ss M1 → Qf us s1) →
    wpAny (model X.prog X.w) X.A (spliced (backTo pos (starEach es X.env))) Qf X.xe s
section
variable {G : GC} {X : Cx} {E : XK} {e : Expr} {es : List Expr} {ta : WE} {t : WAs}
theorem pas_nil : PAS G X E [] (fun _ M Q _ => Q [] M) := ⟨fun pos pins s σ H F ρ M Qd Ed Qf I S q px k => Calls.spliced_nil (k [] s [] [] H F M I S (Keep.refl H F M) (Sub.refl F) .nil .nil q)⟩
theorem pas_e (hs : notStar e = true) (ha : PE X e (rdE G E ta)) (hr : PAS G X E es t) : PAS G X E (e :: es) (fun ρ M Q Ex => ta ρ M (fun d M1 => t ρ M1 (fun ss M2 => Q (.d d :: ss) M2) Ex) Ex) := ⟨fun pos pins s σ H F ρ M Qd Ed Qf I S q px k => by
  rw [starEach_eq hs]
  refine Calls.spliced_cons (rd_use ha I S q px fun u s1 x dx H1 F1 M1 I1 S1 K1 u1 r1 rx q1 => ?_)
  refine hr.run pos pins s1 σ H1 F1 ρ M1 _ Ed _ I1 S1 q1 (px.step K1 u1) fun us s2 vs ss H2 F2 M2 I2 S2 K2 u2 r2 rs q2 => ?_
  exact k _ s2 (x :: vs) _ H2 F2 M2 I2 S2 (K1.trans K2) (u1.trans u2) (.cons (.d (r1.mono u2)) r2) (.cons rx rs) q2⟩
theorem slots_at {F : Hp} {σ : L2.St} {ρ : DEnv} (vr : VR G F σ ρ) : ∀ {js : List Nat} {ds : List D}, slotsD ρ js = some ds → ∃ vs : List V, js.map (fun j => σ[j]?) = vs.map (fun v => some (some v)) ∧ RepL G F vs ds
  | [], ds, h => by simp only [slotsD] at h; cases h; exact ⟨[], rfl, .nil⟩
  | j :: js, ds, h => by
    simp only [slotsD] at h
    split at h
    · rename_i d r e1 e2
      cases h
      obtain ⟨vs, h1, h2⟩ := slots_at vr e2
      obtain ⟨v, e3, r3⟩ := vr j _ e1
      cases r3 with
      | d r3 => exact ⟨v :: vs, by simp [h1, e3], .cons r3 h2⟩
    · cases h
/-- what a lambda asks of its maker -/
structure LamHere (G : GC) (X : Cx) (l : Nat) (t : LamTxt) (js : List Nat) : Prop where
  lt : G.lt l t ∧ t.caps = G.cps l
  qual : t.qual = X.env.qual ++ "<lambda>"
  tab : ∃ c P, TabB X.base X.mg c P ∧ X.env.code = .ref c ∧ (P, t.qual) ∈ G.T ∧ ∀ p ∈ G.T, p.1 = P → p.2 = t.qual
  dfl : defaultsOf t.params X.env = ([], [])
  js : js.map (fun j => X.N[j]?) = t.caps.map some
  cell : ∀ y ∈ t.caps, X.env.scope.names.lookup y = some .cell
  free : ∀ y ∈ t.scope.names, y.2 = .free → y.1 ∈ t.caps
  frk : ∀ y ∈ t.caps, (y, NameKind.free) ∈ t.scope.names
theorem pas_l {l : Nat} {lt : LamTxt} {js : List Nat} {lpos : Pos} (L : LamHere G X l lt js) (hr : PAS G X E es t) : PAS G X E (.Lambda lt.params lt.body lt.scope lpos :: es) (fun ρ M Q Ex => ∃ ds, slotsD ρ js = some ds ∧ t ρ M (fun ss M2 => Q (.clo l ds :: ss) M2) Ex) := ⟨fun pos pins s σ H F ρ M Qd Ed Qf I S ⟨ds, hsl, q⟩ px k => by
  obtain ⟨c, P, TB, hcode, hm, hu⟩ := L.tab
  obtain ⟨vs, h1, h2⟩ := slots_at S.vr hsl
  rw [starEach_eq (e := .Lambda lt.params lt.body lt.scope lpos) rfl]
  refine Calls.spliced_cons (lam_makeD I S.sr TB hcode L.qual hm hu L.dfl (fun y hy e => I.ok.has _ (.inl (L.cell _ (L.free y hy e)))) fun f c' ob H1 F1 s1 I1 S1 K1 u1 hf hc => ?_)
  refine hr.run pos pins s1 σ H1 F1 ρ M _ Ed _ I1 (S.step S1 u1) q (px.step K1 u1) fun us s2 vs2 ss H2 F2 M2 I2 S2 K2 u2 r2 rs q2 => ?_
  exact k _ s2 (.ref f :: vs2) _ H2 F2 M2 I2 S2 (K1.trans K2) (u1.trans u2) (.cons (.clo L.lt (u2 _ _ hf) (u2 _ _ hc) L.js L.cell h1 L.free L.frk (h2.mono (u1.trans u2))) r2) (.cons rfl rs) q2⟩
/-- the cell of a captured name, and what it holds -/
theorem cap_cell {pins : List (Addr × Obj)} {σ : L2.St} {H : Hp} {s : Shared} (I : Inv X pins σ H s) {j : Nat} {y : Str} {v : V} (hN : X.N[j]? = some y) (hk : X.env.scope.names.lookup y = some .cell) (hσ : σ[j]? = some (some v)) :
    ∃ c ob, X.env.cells.lookup y = some c ∧ H c = none ∧ s.heap.get? c = some ob ∧ cellHO s.heap c = some (.frz ob (CellH c v)) := by
  obtain ⟨m, _, hl⟩ := I.loc
  obtain ⟨u, r, q⟩ := hl j y v hN hσ (.inr (.inl hk))
  rcases q with ⟨k, _⟩ | ⟨_, c, hc, z⟩
  · have k : X.env.scope.names.lookup y = some .local := k
    rw [hk] at k; cases k
  · obtain ⟨ob, h1, h2⟩ := cellHO_of z r
    exact ⟨c, ob, hc, I.freeC y c hc, h1, h2⟩
def capsOf (G : GC) : SV → List Str
  | .clo l _ => G.cps l
  | _ => []
def cellsOf (G : GC) (X : Cx) (ss : List SV) : List Addr := (ss.flatMap (capsOf G)).filterMap fun y => X.env.cells.lookup y
theorem cells_in {pins : List (Addr × Obj)} {σ : L2.St} {H F : Hp} {s : Shared} (I : Inv X pins σ H s) : ∀ {vs : List V} {ss : List SV}, RepPL G X σ F vs ss → CellsIn H s.heap (cellsOf G X ss)
  | _, _, .nil => fun c hc => by simp [cellsOf] at hc
  | _, _, .cons (d := d) (ds := ds) r t => fun c hc => by
    have split : c ∈ (capsOf G d).filterMap (fun y => X.env.cells.lookup y) ∨ c ∈ cellsOf G X ds := by
      unfold cellsOf at hc ⊢
      rw [List.flatMap_cons, List.filterMap_append, List.mem_append] at hc
      exact hc
    rcases split with hc | hc
    · cases r with
      | d r => simp [capsOf] at hc
      | @clo f c' ob l t' js vs' ds' h1 h2 h3 h4 h5 h6 h7 h8 h9 =>
        have hcap : capsOf G (.clo l ds') = t'.caps := h1.2.symm
        rw [hcap] at hc
        obtain ⟨y, hy, hyc⟩ := List.mem_filterMap.mp hc
        obtain ⟨i, hi⟩ := List.mem_iff_getElem?.mp hy
        have e4 := congrArg (fun l => l[i]?) h4
        have e6 := congrArg (fun l => l[i]?) h6
        simp only [List.getElem?_map, hi, Option.map_some] at e4 e6
        cases hj : js[i]? with
        | none => rw [hj] at e4; cases e4
        | some j =>
          rw [hj] at e4 e6
          simp only [Option.map_some] at e4 e6
          cases hv : vs'[i]? with
          | none => rw [hv] at e6; cases e6
          | some v =>
            rw [hv] at e6
            obtain ⟨c1, ob1, k1, k2, k3, k4⟩ := cap_cell I (Option.some.inj e4) (h5 y hy) (Option.some.inj e6)
            rw [k1] at hyc
            cases hyc
            exact ⟨k2, ob1, v, k3, k4⟩
    · exact cells_in I t c hc
theorem ready1 {pins : List (Addr × Obj)} {σ : L2.St} {H F : Hp} {M : Sto} {s : Shared} {cs : List Addr} (I : Inv X pins σ H s) (S : SR G H F M) (C : CellsIn H s.heap cs) {v : V} {d : SV} (hsup : ∀ y ∈ capsOf G d, ∀ c, X.env.cells.lookup y = some c → c ∈ cs) (r : RepP G X σ F v d) :
    RepS G (addH F s.heap cs) v d := by
  have u := Sub.add S C
  cases r with
  | d r => exact .d (r.mono u)
  | @clo f c' ob l t js vs ds h1 h2 h3 h4 h5 h6 h7 h8 h9 =>
    have hfree : ∀ y ∈ t.scope.names, y.2 = .free → ∃ c, X.env.cells.lookup y.1 = some c := fun y hy e => I.ok.has _ (.inl (h5 _ (h7 y hy e)))
    have cm : ∀ y c, (cloFrom X.env.cells t.scope.names []).lookup y = some c → X.env.cells.lookup y = some c := fun y c e => NdefX.clo_cm hfree e
    have hsup' : ∀ y ∈ t.caps, ∀ c, X.env.cells.lookup y = some c → c ∈ cs := fun y hy c e => hsup y (by show y ∈ G.cps l; rw [← h1.2]; exact hy) c e
    -- the cells, one by one
    have main : ∀ (caps : List Str) (js : List Nat) (vs : List V), (∀ y ∈ caps, y ∈ t.caps) → js.map (fun j => X.N[j]?) = caps.map some → js.map (fun j => σ[j]?) = vs.map (fun v => some (some v)) →
        ∃ cl : List Addr, caps.map (fun x => (cloFrom X.env.cells t.scope.names []).lookup x) = cl.map some ∧ RepC (addH F s.heap cs) cl vs := by
      intro caps
      induction caps with
      | nil =>
        intro js vs _ e1 e2
        cases js with
        | nil => cases vs with
          | nil => exact ⟨[], rfl, .nil⟩
          | cons _ _ => simp at e2
        | cons _ _ => simp at e1
      | cons y caps ih =>
        intro js vs hy e1 e2
        cases js with
        | nil => simp at e1
        | cons j js =>
          cases vs with
          | nil => simp at e2
          | cons w vs =>
            simp only [List.map_cons, List.cons.injEq] at e1 e2
            obtain ⟨cl, k1, k2⟩ := ih js vs (fun z hz => hy z (List.mem_cons_of_mem _ hz)) e1.2 e2.2
            have hyt := hy y List.mem_cons_self
            obtain ⟨c, ob1, a1, a2, a3, a4⟩ := cap_cell I e1.1 (h5 y hyt) e2.1
            have hcs := hsup' y hyt c a1
            refine ⟨c :: cl, ?_, .cons (ob := ob1) ?_ k2⟩
            · rw [List.map_cons, List.map_cons, k1, NdefX.clo_has hfree (h8 y hyt) a1]
            · rw [addH_in hcs]; exact a4
    obtain ⟨cl, k1, k2⟩ := main t.caps js vs (fun _ z => z) h4 h6
    refine .clo h1.1 (u _ _ h2) (u _ _ h3) k1 (fun x c e => ?_) (fun x y c e1 e2 => I.ok.inj x y c (cm x c e1) (cm y c e2)) k2 (h9.mono u)
    rcases cloFrom_mem (PySem.mem_of_lookup e) with hm | ⟨z, _⟩
    · cases hm
    · exact h7 _ z rfl
theorem ready {pins : List (Addr × Obj)} {σ : L2.St} {H F : Hp} {M : Sto} {s : Shared} {cs : List Addr} (I : Inv X pins σ H s) (S : SR G H F M) (C : CellsIn H s.heap cs) : ∀ {vs : List V} {ss : List SV}, (∀ c ∈ cellsOf G X ss, c ∈ cs) → RepPL G X σ F vs ss → RepSL G (addH F s.heap cs) vs ss
  | _, _, _, .nil => .nil
  | _, d :: ds, hs, .cons r t => by
    have hsp : cellsOf G X (d :: ds) = (capsOf G d).filterMap (fun y => X.env.cells.lookup y) ++ cellsOf G X ds := by
      unfold cellsOf
      rw [List.flatMap_cons, List.filterMap_append]
    refine .cons (ready1 I S C (fun y hy c e => hs c ?_) r) (ready I S C (fun c hc => hs c ?_) t)
    · rw [hsp]; exact List.mem_append_left _ (List.mem_filterMap.mpr ⟨y, hy, e⟩)
    · rw [hsp]; exact List.mem_append_right _ hc
variable {k i : Nat} {Φ : Calls} {x : Str} {p pos : Pos}
/-- f(.., lambda .., ..): the callee lets nothing out -/
theorem s_calL (C : CanCall X E (L2.CX X.prog X.w) k G Φ) (hcb : ∀ pins σ H s, Inv X pins σ H s → CB X) (hi : (G.P.fns i).isSome = true) (hg : Gl X x) (hm : X.mg x = some (.ref (G.fa i))) (hdb : (x == ("__debug__" : Str)) = false)
    (ha : PAS G X E (e :: es) t) (hp : allPlain (e :: es) = true) : PE X (.Call (.Name x p) (e :: es) [] pos) (rdE G E fun ρ M Q Ex => t ρ M (fun ss M1 => Φ.fn i ss M1 Q noEx) Ex) := by
  refine ⟨fun pins s σ H Q I ⟨ρ, F, M, Qd, Ed, S, q, pq, px⟩ => ?_⟩
  have hp' := hp
  simp only [allPlain, Bool.and_eq_true] at hp'
  obtain ⟨fd, ps, f⟩ := C.all i hi
  refine wpAny_Call_Name_kw (ld_glob I hg hm ?_ hdb)
  refine PySem.W.callWith_K (h₀ := X.base) I.ok.mod.kin f.kp (ha.run pos pins s σ H F ρ M _ Ed _ I S q px fun us s1 vs ss H1 F1 M1 I1 S1 K1 u1 rp rv q1 => ⟨I1.kIn, ?_⟩) (starEach_eq hp'.1) (backTo_plain hp'.2)
  -- the cells are told for the call
  have cin := cells_in I1 rp
  have rs := ready I1 S1.sr cin (fun _ z => z) rp
  have SS := S1.sr.add cin
  have e0 := I1.env0
  have hcell : ∀ c ∈ cellsOf G X ss, ∃ y, X.env.cells.lookup y = some c := fun c hc => by
    unfold cellsOf at hc
    obtain ⟨y, _, h⟩ := List.mem_filterMap.mp hc
    exact ⟨y, h⟩
  have hout : ∀ c ∈ cellsOf G X ss, X.base.get? c = none ∧ c ∉ frs X.stack := fun c hc => by
    obtain ⟨y, h⟩ := hcell c hc
    exact hcb _ _ _ _ I y c h
  have nfr : ∀ b ∈ frs X.stack, b ∉ cellsOf G X ss := fun b hb hc => (hout b hc).2 hb
  have e1 : Env0 X.prog X.w X.K X.mg X.base X.A X.stack s1 (addH H1 s1.heap (cellsOf G X ss)) := by
    refine ⟨e0.frames, e0.mod, fun b o e => ⟨(e0.bs b o e).1, ?_⟩, e0.bsz, e0.funs, fun b hb => ?_, HOk.add e0.hok cin, e0.bare⟩
    · have hb : b ∉ cellsOf G X ss := fun z => by rw [(hout b z).1] at e; cases e
      rw [addH_out hb]; exact (e0.bs b o e).2
    · rw [addH_out (nfr b hb)]; exact e0.frf b hb
  have hl : us.length = ps.length := by rw [← rv.length, rs.length]; exact f.len _ _ _ _ q1
  have hb' := f.bi s1 us I1.kIn (by rw [List.append_nil]; exact hl)
  rw [List.append_nil] at hb'
  have run := f.fn.run X.A X.stack s1 (addH H1 s1.heap (cellsOf G X ss)) ⟨us, []⟩ us vs (fun v H' => Cel H' (cellsOf G X ss) → Q v (dropH H' (cellsOf G X ss))) (fun _ _ _ => False) C.gd (C.room.mono (Nat.le_succ k)) e1 hb' rv
    ⟨by rw [rv.length]; exact hl, ss, _, M1, Qd, noEx, SS, rs, q1, fun d M' v H' F' q' S' K' u' r' cel => ?_, px0⟩
  · refine wpAny_call (codeAny_mono run fun r s' hq => ?_)
    cases r with
    | error e =>
      obtain ⟨_, _, _, _, _, _, _, _, _, _, _, _, z⟩ := hq
      exact z.elim
    | ok fl =>
      cases fl with
      | ret u =>
        obtain ⟨v, H', os, bare, un, hok, r, q'⟩ := hq
        obtain ⟨un', hok', cel⟩ := un_off cin un hok nfr
        exact I1.after ⟨v, _, os, bare, un', hok', r, q' cel⟩
      | next => exact False.elim hq
      | brk => exact False.elim hq
      | cont => exact False.elim hq
  · exact pq d M' v _ _ q' (S'.drop cel) (K1.trans (Keep.off cin K')) (u1.trans (Sub.off S1.sr cin u')) (r'.mono0 (S'.sub0 cel))
end
end DS
end
section
set_option Elab.async false
set_option linter.all false
set_option maxRecDepth 100000
/-! DsS: instances of the own class: made, their fields stored, their methods; calls by keywords. -/
namespace DS
open PySem PySem.Spec PyProof.Rows L2 LamX
section
variable {G : GC} {X : Cx} {E : XK} {CX : CXT} {k i : Nat} {Φ : Calls} {x : Str} {p pos : Pos} {e : Expr} {es : List Expr} {n : Nat} {t : WA} {ta to : WE}
/-- C(..): an instance that is not changed any more behind its __init__ -/
theorem s_mak (C : CanCall X E (L2.CX X.prog X.w) k G Φ) (hi : (G.P.fns i).isSome = true) (Mk1 : Mk X.K (G.ca 0) (G.fa i)) (hg : Gl X x) (hm : X.mg x = some (.ref (G.ca 0))) (hP : G.P.inits 0 = some i) (hdb : (x == ("__debug__" : Str)) = false)
    (ha : PA X (e :: es) (rdA G E n t)) (hp : allPlain (e :: es) = true) :
    PE X (.Call (.Name x p) (e :: es) [] pos) (rdE G E fun ρ M Q Ex => ∃ f, G.P.inits 0 = some f ∧ t ρ M (fun ds M1 => ∀ p, M1 p = none → Φ.fn f (.d (.mref p) :: ds.map .d) (M1.put p (.ins 0 [])) (fun d M2 => d = .non ∧ ∃ o, M2 p = some o ∧ Q o.d (M2.del p)) noEx) Ex) := by
  refine ⟨fun pins s σ H Q I ⟨ρ, F, M, Qd, Ed, S, ⟨f, ef, q⟩, pq, px⟩ => ?_⟩
  rw [hP] at ef
  cases ef
  have hp' := hp
  simp only [allPlain, Bool.and_eq_true] at hp'
  obtain ⟨fd, ps, fn⟩ := C.all i hi
  refine wpAny_Call_Name_kw (ld_glob I hg hm ?_ hdb)
  refine PySem.W.callWith_K (h₀ := X.base) I.ok.mod.kin Mk1.kp (ra_use ha I S q px fun us s1 vs ds H1 F1 M1 I1 S1 K1 u1 r1 rv hl q1 => ⟨I1.kIn, ?_⟩) (starEach_eq hp'.1) (backTo_plain hp'.2)
  have nx : H1 (s1.heap.objs.size + 1) = none := I1.hok.fresh (Nat.le_succ _)
  have nd : H1 s1.heap.objs.size = none := I1.hok.fresh (Nat.le_refl _)
  have hne : s1.heap.objs.size ≠ s1.heap.objs.size + 1 := Nat.ne_of_lt (Nat.lt_succ_self _)
  have q2 := q1 (s1.heap.objs.size + 1) (S1.sr.mnone nx)
  have I2 := Inv.made (C := G.ca 0) I1
  have Sh : SR G (upd H1 s1.heap.objs.size (.own (s1.heap.objs.size + 1))) F1 M1 := S1.sr.hid nd
  have nx2 : upd H1 s1.heap.objs.size (.own (s1.heap.objs.size + 1)) (s1.heap.objs.size + 1) = none := by rw [upd_ne (Ne.symm hne)]; exact nx
  have S2 : SR G (upd (upd H1 s1.heap.objs.size (.own (s1.heap.objs.size + 1))) (s1.heap.objs.size + 1) (.ins (G.ca 0) s1.heap.objs.size [])) F1 (M1.put (s1.heap.objs.size + 1) (.ins 0 [])) :=
    Sh.newM nx2 (m := .ins 0 []) ⟨rfl, _, _, upd_same, .nil⟩
  have Kh := (Keep.hid S1.sr nd (o := .own (s1.heap.objs.size + 1))).trans (Keep.newM Sh nx2 (o := .ins (G.ca 0) s1.heap.objs.size []) (m := .ins 0 []))
  have rs : RepSL G F1 (V.ref (s1.heap.objs.size + 1) :: vs) (.d (.mref (s1.heap.objs.size + 1)) :: ds.map .d) := .cons (.d (.mref _)) r1.sl
  have rv2 : Vals (V.ref (s1.heap.objs.size + 1) :: vs) (Value.ref (s1.heap.objs.size + 1) :: us) := .cons rfl rv
  have hlen : (Value.ref (s1.heap.objs.size + 1) :: us).length = ps.length := by rw [← rv2.length, rs.length]; exact fn.len _ _ _ _ q2
  have hb' := fn.bi _ (Value.ref (s1.heap.objs.size + 1) :: us) I2.kIn (by rw [List.append_nil]; exact hlen)
  rw [List.append_nil] at hb'
  have hgd : (X.A.under (.builtin "type.__call__" ⟨.ref (G.ca 0) :: us, []⟩)).guards = some [] := by
    have := C.gd
    first | exact this | (simp [Around.under, this]; done)
  refine wpAny_call (make_map (f := G.fa i) I1.kIn Mk1.makes Mk1.init (beq_iff_eq.mp Mk1.fn) (codeAny_mono (fn.fn.run _ X.stack _ _ ⟨Value.ref (s1.heap.objs.size + 1) :: us, []⟩ (Value.ref (s1.heap.objs.size + 1) :: us) _
    (fun v H2 => v = .non ∧ ∃ F2 M2 o, SR G H2 F2 M2 ∧ Keep H1 F1 M1 H2 F2 M2 ∧ Sub F1 F2 ∧ M2 (s1.heap.objs.size + 1) = some o ∧ Qd o.d (M2.del (s1.heap.objs.size + 1))) (fun _ _ _ => False) hgd (C.room.make (G.ca 0) us [])
    (I2.env0.make (G.ca 0) us []) hb' rv2 ⟨by rw [rv2.length]; exact hlen, _, F1, _, _, noEx, S2, rs, q2, fun d M2 v H2 F2 ⟨ed, o, ho, q3⟩ S3 K3 u3 r3 => ?_, px0⟩) fun r s' hq' => ?_))
  · subst ed
    exact ⟨rep_non r3, F2, M2, o, S3, Kh.trans K3, u3, ho, q3⟩
  · cases r with
    | error e =>
      obtain ⟨_, _, _, _, _, _, _, _, _, _, _, _, z⟩ := hq'
      exact z.elim
    | ok fl =>
      cases fl with
      | ret u =>
        obtain ⟨v, H2, I3, rv3, ev, F2, M2, o, S3, K3, u3, ho, q3⟩ := I2.after hq'
        subst ev
        obtain ⟨H4, F4, M4, d4, I4, S4, K4, u4, r4, q4⟩ := frozen_do (Qd := Qd) I3 S3 (Rep.mref (s1.heap.objs.size + 1)) ⟨o, ho, q3⟩
        exact ⟨rv3, ⟨V.ref (s1.heap.objs.size + 1), H4, I4, rfl, pq d4 M4 _ H4 F4 q4 S4 (K1.trans (K3.trans K4)) (u1.trans (u3.trans u4)) r4⟩⟩
      | next => exact False.elim hq'
      | brk => exact False.elim hq'
      | cont => exact False.elim hq'
end
end DS
end
section
set_option Elab.async false
set_option linter.all false
set_option maxRecDepth 100000
set_option maxHeartbeats 2000000
/-! DsT: own exceptions: class C(..): def __init__(self, x): super().__init__(x); self.x = x. -/
namespace DS
open PySem PySem.W PySem.Calls PyProof.Rows PySem.HandSPX L2
def exB (f : Str) (q1 q2 q3 q4 q5 q6 q7 q8 q9 q10 q11 : Pos) : List Stmt :=
  [.Expr (.Call (.Attribute (.Call (.Name "super" q1) [] [] q2) "__init__" q3) [.Name f q4] [] q5) q6, .Assign [.Attribute (.Name "self" q7) f q8] (.Name f q9) q10]
/-- what the written part says of an exception's class -/
structure ExTxt (P : Program) (K : Frag) (mg : Str → Option Value) (cn f : Str) (C fI : Addr) : Prop where
  gC : mg cn = some (.ref C)
  dbg : (cn == ("__debug__" : Str)) = false
  cls : ∃ nm q N bs bm sn sub ab col dd k0 k1 k2 k3 k5, K.lookup C = some (excClassObj nm q C N bs bm true sn sub ab col dd k0 k1 k2 k3 k5 "ValueError.__new__") ∧ refsVE bm = true
  sa : findIn K (.ref C) "__setattr__" = some (some (.builtin "object.__setattr__"))
  ga : findIn K (.ref C) "__getattribute__" = some (some (.builtin "BaseException.__getattribute__"))
  gg : findIn K (.ref C) "__getattr__" = some none
  noN : findIn K (.ref C) f = some none
  iC : findIn K (.ref C) "__init__" = some (some (.ref fI))
  tC : typeIn K (.ref fI) = some (.type "function")
  kC : keepIn K (.ref C) = true
  exC : subIn K (.ref C) (.type "BaseException") = some true
  veC : subIn K (.ref C) (.type "ValueError") = some true
  slC : mroIn K C (.ref C) = some true
  tyC : typeIn K (.ref C) = some (.type "type")
  hdC : hasDictIn K C = true
  opq : nsIn K cStatics "thirdparty.any" = some none
  sm : ks_superIn K C C "__init__" = some (some (.builtin "ValueError.__init__"))
  sup : mg "super" = none
  f1 : (f == ("self" : Str)) = false
  f2 : (f == ("__debug__" : Str)) = false
  top : (P.main.scope.names.lookup ("super" : Str)).isSome = false
  fn : ∃ (oc : Value) (od : Option Addr) (qual : Str) (ps : Arguments) (ar : Arg) (sc : Scope) (doc pm : Value) (an : Option Addr) (cda : Addr) (ct : Value) (cc : Addr) (osl : Array (Option Value)) (q1 q2 q3 q4 q5 q6 q7 q8 q9 q10 : Pos) (vs : Array Value) (file : Str) (tf : Tok) (ccl cl : Value) (cdd cld : Option Addr) (ccs csl : Array (Option Value)),
    K.lookup fI = some ⟨oc, od, .func (ksFn "__init__" qual ps (exB f q1 q2 q3 q4 q5 q6 q7 q8 q9 q10 q10) sc .none .none doc pm an (.ref cda) ct cc), osl⟩ ∧ codeIn K (.ref cda) qual = true ∧
    K.lookup cda = some ⟨ccl, cdd, .fields vs, ccs⟩ ∧ vs[2]? = some (.str file tf) ∧ ((P.main.file : Str) == file) = true ∧ K.lookup cc = some ⟨cl, cld, .cell (some (.ref C)), csl⟩ ∧
    (q3.endLine == q5.line) = true ∧ (ps.posonlyargs ++ ps.args).head? = some ar ∧ ar.arg = "self" ∧ Binds K (ksFn "__init__" qual ps (exB f q1 q2 q3 q4 q5 q6 q7 q8 q9 q10 q10) sc .none .none doc pm an (.ref cda) ct cc) ["self", f] [] ∧
    sc.names.lookup ("self" : Str) = some .local ∧ sc.names.lookup f = some .local ∧ sc.names.lookup ("super" : Str) = some .globalImplicit ∧ sc.names.lookup ("__class__" : Str) = some .free ∧ (∀ x ∈ sc.names, x.2 ≠ .cell) ∧ sc.isCoroutine = false ∧ sc.isGenerator = false ∧ sc.kind = .function
/-- what __init__ leaves of a fresh exception at x -/
structure InitEnd (h h' : Heap) (x C dx : Addr) (f : Str) (v : Value) : Prop where
  keep : ∀ b o, b ≠ x → h.get? b = some o → h'.get? b = some o
  obj : ∃ t1, h'.get? x = some { cls := .ref C, dict := some dx, data := .fields #[.ref t1, .none, .none, .none, .bool false, .none] }
  dbig : h.objs.size ≤ dx
  dne : dx ≠ x
  ns : h'.Ns1 dx (fun y => if y = f then some v else none)
theorem ld1 {M : Model} {A : Around} {E : Value → Shared → Prop} {s : Shared} {env : Env} {m : Str → Option Value} {x : Str} {pos : Pos} {v : Value} {Q : Value → Shared → Prop} (hk : env.scope.kind = .function) (hl : env.kindOf x = some .local) (hn : s.heap.Ns env.locals m) (hv : m x = some v)
    (hd : (x == ("__debug__" : Str)) = false) (h : Q v s) : wpAny M A (eval (.Name x pos) env) Q E s := wpAny_Name (wpAny_loadName_local hk hl hn hv h) hd
theorem not_inter {env : Env} (e : env.scope.kind = .function) : interactive env = false := by unfold interactive; rw [e]; rfl
theorem at_method {M : Model} {A : Around} {E : Value → Shared → Prop} {s : Shared} {env : Env} {c : Code} {o : Expr} {name : Str} {apos pos : Pos} {args : List Expr} {Q : Value → Shared → Prop}
    (hform : methodCallForm (args.length + ([] : List Keyword).length) (backTo pos (starEach args env)) (backToKw pos (keywordEach [] env)) = true) (hline : (apos.endLine == pos.line) = true)
    (h : _root_.PySem.wpAt M A c (attributeBase o name env (eval o env)) (fun ov s₁ => ∀ pl, wpAny M A (getMethod ov name pl) (fun fx s₂ => wpAny M A (callWith pos fx.1 fx.2 (backTo pos (starEach args env)) []) Q E s₂) E s₁) E s) :
    _root_.PySem.wpAt M A c (eval (.Call (.Attribute o name apos) args [] pos) env) Q E s := by
  rw [arm_eval_Call]
  have hpos : methodCallPos true o env apos pos = pure pos := by unfold methodCallPos; simp [hline]
  refine _root_.PySem.wpAt_bind (_root_.PySem.wpAt_mono h (fun ov s₁ h₁ => _root_.PySem.wpAt_of_wpAny (wpAny_bind (wpAny_standAt ?_))) fun _ _ x => x)
  unfold methodCall
  rw [hform]
  exact wpAny_bind (wpAny_holding (wpAny_mono (h₁ _) (fun fx s₂ h₂ => wpAny_bind (wpAny_of_eq hpos h₂)) fun _ _ x => x))
section
variable {prog : Program} {w : World} {A : Around} {E : Value → Shared → Prop} {R : Result → Shared → Prop} {s : Shared} {K : Frag} {mg mb : Str → Option Value} {C fI : Addr} {cn f : Str}
theorem ex_init (T : ExTxt prog K mg cn f C fI) {x t0 : Addr} {v : Value} (X : K.In s.heap) (hg : s.heap.Ns mainGlobals mg) (hb : s.heap.Ns builtinsNs mb) (hmb : ∀ x : Str, x ≠ "__name__" → mb x = bootBuiltins x) (hlim : s.heap.NoLimit) (hx : s.heap.get? x = some (excO C t0)) (hnx : K.lookup x = none)
    (hroom : A.depth < recursionLimit) (hq : ∀ h' tk dx, InitEnd s.heap h' x C dx f v → R (.ok (.ret .none)) { s with heap := h', toks := tk }) :
    codeAny (model prog w) A (.call (.ref fI) ⟨[.ref x, v], []⟩) R s := by
  obtain ⟨oc, od, qual, ps, ar, sc, doc, pm, an, cda, ct, cc, osl, q1, q2, q3, q4, q5, q6, q7, q8, q9, q10, vs, file, tf, ccl, cl, cdd, cld, ccs, csl, ho, hcd, hcode, hvs, hfile, hcell, hlin, har, hself, hbi, l1, l2, l3, l4, hnc, sco, sgen, hk⟩ := T.fn
  obtain ⟨nm, q, N, bs, bm, sn, sub, ab, col, dd, k0, k1, k2, k3, k5, hC, hbm⟩ := T.cls
  have hcl : clsIn K C = some { name := nm, bases := bs, mro := .ref C :: bm, ns := N, qualname := q, hasDict := true, slotNames := sn, subclasses := sub, abstract := ab, collection := col, hasDel := false } := by unfold clsIn; rw [hC] <;> rfl
  have hbind := hbi s [.ref x, v] X rfl
  refine ks_codeAny_call_defAt hroom (X _ _ ho) rfl hlim (codeRec_of X hcd) rfl hbind hnc (fun y hy => ?_) (fun h₁ hn k => ?_) sco sgen hk
  · simp only [List.zip_cons_cons, List.zip_nil_right, List.append_nil, List.mem_cons, List.not_mem_nil, or_false] at hy
    rcases hy with rfl | rfl
    · exact l1
    · exact l2
  have hmS : (([(("self" : Str), Value.ref x), (f, v)] : List (Str × Value)).reverse.lookup ("self" : Str)) = some (.ref x) := by
    have z : (("self" : Str) == f) = false := by
      rw [Bool.eq_false_iff]; intro e
      have := beq_iff_eq.mp e
      rw [← this] at T
      exact absurd T.f1 (by decide)
    simp [List.lookup, z]
  have hmF : (([(("self" : Str), Value.ref x), (f, v)] : List (Str × Value)).reverse.lookup f) = some v := by simp [List.lookup]
  have X₁ : K.In h₁ := X.keeps k
  have hx₁ := k _ _ hx
  have Ix : InstAt h₁ x (excO C t0) C none := ⟨hx₁, rfl, rfl, trivial⟩
  obtain ⟨hh, g, d, tk, os⟩ := s
  refine ks_wpAt_execs_cons (ks_wpAt_Expr_any (at_method (by rfl) hlin ?_) (not_inter hk) (by rfl))
  refine ks_wpAt_super_base (ar := ar) l3 l4 (by decide) rfl (X₁ _ _ ho) rfl har rfl (X₁ _ _ hcode) rfl hvs hfile T.top ?_
  refine ks_loadName_global hk l3 (Calls.loadGlobal_builtin (hg.keeps k) T.sup (hb.keeps k) ((hmb _ (by decide +kernel)).trans (by first | boot_by_name | rfl | kernel_rfl)) ⟨rfl, ?_⟩)
  refine wpAny_loadName_free hk l4 (by rfl) ⟨_, X₁ _ _ hcell, rfl⟩ ?_
  rw [hself]
  refine wpAny_loadName_local hk l1 hn hmS ?_
  refine ks_wpAny_isType_cls (X₁ _ _ hC) rfl ⟨rfl, ?_⟩
  refine ks_wpAny_call_super (X₁ _ _ hC) rfl hx₁ rfl (fun c e => by cases e) (looks_mroIn X₁ T.slC) (fun h₂ e₂ kk => ?_)
  have X₂ : K.In h₂ := X₁.keeps kk
  have hx₂ := kk _ _ hx₁
  have I₂ : InstAt h₂ x (excO C t0) C none := ⟨hx₂, rfl, rfl, trivial⟩
  have hsm := T.sm
  unfold ks_superIn at hsm
  rw [hcl] at hsm
  intro pl
  refine kxs_getMethod kxs_ValueError (B := "ValueError") e₂ (looks_opaque X₂ T.opq) (l₀ := .ref C :: bm) (fun A Q E s k q => wpAny_bind ((looks_clsIn X₂ hcl) A _ E s k (wpAny_pure q))) rfl X₂ hsm (I₂.type.andThen (looks_subIn X₂ T.veC)) (ks_ne X₂ I₂ hcl) (by decide) ?_
  have kw : ∀ b o, h₂.get? b = some o → (h₂.push (kxs_mw "ValueError.__init__" x)).get? b = some o := fun b o e => Heap.get?_push_of_some _ e
  have hmw : (h₂.push (kxs_mw "ValueError.__init__" x)).get? h₂.objs.size = some (kxs_mw "ValueError.__init__" x) := Heap.get?_push_size _ rfl
  have hnL : (h₂.push (kxs_mw "ValueError.__init__" x)).Ns hh.objs.size (fun y => ([(("self" : Str), Value.ref x), (f, v)] : List (Str × Value)).reverse.lookup y) := hn.at fun o e => kw _ _ (kk _ _ e)
  refine kxs_callWith (i := "ValueError.__init__") (x := x) (by rfl) (evalArgs_plain ?_)
  refine Calls.spliced_cons (ld1 hk l2 hnL hmF T.f2 (Calls.spliced_nil ⟨hmw, ?_⟩))
  have hx₃ := kw _ _ hx₂
  have hT : ∀ X : String, bm.contains (.type X) = veTail.contains (.type X) := fun X => refsVE_contains X bm hbm
  have FB := F.excBase_ValueError
  refine wpAny_call (codeAny_of_tree ?_)
  show wpAny _ _ (callAny (.ref _) ⟨[v], []⟩) _ _ _
  simp only [callAny]
  refine wpAny_bind (wpAny_load hmw ?_)
  simp only [kxs_mw, show (Value.type "method-wrapper" == Value.type "method" || Value.type "method-wrapper" == Value.type "builtin_function_or_method" || Value.type "method-wrapper" == Value.type "method-wrapper") = true by decide, if_true]
  refine KFB.if_so (by decide) ?_
  refine wpAny_bind (check_bound_init FB.toExcCallFacts (kw _ _ (X₂ _ _ hC)) hx₃ rfl ?_)
  refine wpAny_bind (wpAny_pure (wpAny_pure ?_))
  refine ⟨plainId_quiet FB.init.plain _, codeAny_builtin FB.initEntry ?_⟩
  refine exc_init_tree (cls := .ref C) (t0 := t0) (dv := none) (c2 := .none) (c3 := .none) (b4 := .bool false) hx₃ (by rw [sizeLine_eq]; exact (by decide : 1 ≤ 16777216)) (fun h₄ k4 e4 t4 => ?_)
  have hne : hh.objs.size ≠ x := Nat.ne_of_gt (Heap.lt_size hx)
  have up : ∀ b o, b ≠ x → h₁.get? b = some o → h₄.get? b = some o := fun b o hb e => k4 b o hb (kw _ _ (kk _ _ e))
  have hn4 : h₄.Ns hh.objs.size (fun y => ([(("self" : Str), Value.ref x), (f, v)] : List (Str × Value)).reverse.lookup y) := hn.at fun o e => up _ _ hne e
  have X₄ : K.In h₄ := fun a o e => up a o (fun z => by rw [z, hnx] at e; cases e) (X₁ a o e)
  refine _root_.PySem.wpAt_of_wpAny ?_
  refine wpAny_execs_cons (plainObj_wpAny_Assign_Attribute ?_ (by rfl))
  refine ld1 hk l2 hn4 hmF T.f2 (ld1 hk l1 hn4 hmS (by decide) ?_)
  refine set_plain X₄ (ox := excO C _) (od := none) ⟨e4, rfl, rfl, trivial⟩ T.sa ?_
  refine exc_osa X₄ e4 hcl (show refsVE (.ref C :: bm) = true from hbm) rfl T.noN (fun h₅ tk₅ dx k₅ dn dne hx₅ hn₅ => ?_)
  have z : hh.objs.size < h₄.objs.size := hn4.lt
  exact wpAny_execs_nil (hq h₅ tk₅ dx ⟨fun b o hb e => k₅ b o hb (up b o hb (k b o e)), ⟨_, hx₅⟩, Nat.le_of_lt (Nat.lt_of_lt_of_le z dn), dne, hn₅⟩)
/-- a made exception -/
structure OwnMade (h h' : Heap) (e C d : Addr) (f : Str) (v : Value) : Prop where
  keep : ∀ b o, h.get? b = some o → h'.get? b = some o
  new : h.objs.size ≤ e
  obj : ∃ oe vs, h'.get? e = some oe ∧ oe.cls = .ref C ∧ oe.dict = some d ∧ oe.data = .fields vs ∧ vs[1]? = some .none
  dbig : h.objs.size ≤ d
  dne : d ≠ e
  ns : h'.Ns1 d (fun y => if y = f then some v else none)
theorem ex_made (T : ExTxt prog K mg cn f C fI) {v : Value} (X : K.In s.heap) (hg : s.heap.Ns mainGlobals mg) (hb : s.heap.Ns builtinsNs mb) (hmb : ∀ x : Str, x ≠ "__name__" → mb x = bootBuiltins x) (hlim : s.heap.NoLimit) (hroom : A.depth + 1 < recursionLimit)
    (hq : ∀ h' tk e d, OwnMade s.heap h' e C d f v → R (.ok (.ret (.ref e))) { s with heap := h', toks := tk }) :
    codeAny (model prog w) A (.call (.ref C) ⟨[v], []⟩) R s := by
  obtain ⟨nm, q, N, bs, bm, sn, sub, ab, col, dd, k0, k1, k2, k3, k5, hC, hbm⟩ := T.cls
  obtain ⟨hp, g, dr, tk, os⟩ := s
  have k : ∀ b o, hp.get? b = some o → ((hp.push (kdv_tup [v])).push (excO C hp.objs.size)).get? b = some o := fun b o e => Heap.get?_push_of_some _ (Heap.get?_push_of_some _ e)
  have hget : ((hp.push (kdv_tup [v])).push (excO C hp.objs.size)).get? (hp.objs.size + 1) = some (excO C hp.objs.size) := by heap_get
  have hnx : K.lookup (hp.objs.size + 1) = none := by
    cases e : K.lookup (hp.objs.size + 1) with
    | none => rfl
    | some o =>
      have z : hp.get? (hp.objs.size + 1) = some o := X _ _ e
      exact absurd (Nat.lt_of_succ_lt (Heap.lt_size z)) (Nat.lt_irrefl _)
  have one : [v].length ≤ sizeLine := by rw [sizeLine_eq]; exact (by decide : 1 ≤ 16777216)
  refine call_own F.excBase_ValueError (fun X => refsVE_contains X bm hbm) (X _ _ hC) (looks_findIn X T.iC) (fun self => bind_fn X self T.tC) one ?_
  refine ex_init (s := ⟨(hp.push (kdv_tup [v])).push (excO C hp.objs.size), g, dr, tk, os⟩) T (X.keeps k) (hg.keeps k) (hb.keeps k) hmb (hlim.keeps k) hget hnx ?_ fun h' tk' dx ⟨k', ⟨t1, hx⟩, dn, dne, hns⟩ => ?_
  · show A.depth + 1 < recursionLimit
    exact hroom
  · have old : ∀ b o, hp.get? b = some o → h'.get? b = some o := fun b o e => k' b o (Nat.ne_of_lt (Nat.lt_succ_of_lt (Heap.lt_size e))) (k b o e)
    have z : hp.objs.size + 1 + 1 ≤ dx := by
      first
        | (simpa only [Heap.size_push] using dn)
        | exact dn
        | (have q := dn; rw [Heap.size_push, Heap.size_push] at q; exact q)
    exact ⟨rfl, hq h' tk' (hp.objs.size + 1) dx ⟨old, Nat.le_succ _, ⟨_, _, hx, rfl, rfl, rfl, rfl⟩, Nat.le_trans (Nat.le_trans (Nat.le_succ _) (Nat.le_succ _)) z, dne, hns⟩⟩
end
theorem relO_ex {v : V} {v' : Value} (r : L2.RelV v v') (g f : Str) : RelO (List.lookup f [(g, v)]) (if f = g then some v' else none) := by
  by_cases hw : f = g
  · subst hw
    rw [if_pos rfl]
    have q : List.lookup f [(f, v)] = some v := by simp [List.lookup]
    rw [q]
    exact r
  · rw [if_neg hw]
    have qw : (f == g) = false := by simpa using hw
    have q2 : List.lookup f [(g, v)] = none := by simp [List.lookup, qw]
    rw [q2]
    trivial
section
variable {X : Cx} {C fI : Addr} {cn f : Str}
/-- C(e) -/
def tMkE (C : Addr) (f : Str) (ta : TA) : L2.St → Hp → XK → Prop := fun σ H Q => ta σ H fun vs H1 => ∃ v, vs = [v] ∧ ∀ d, H1 d = none → Q (.ref C) (some d) (upd H1 d (.xd [(f, v)]))
theorem pmk_ex {a : Expr} {ta : TA} {p pos : Pos} {k : Nat} (T : ExTxt X.prog X.K X.mg cn f C fI) (hr : Room k X.A) (ha : PA X [a] ta) (hg : Gl X cn) (hpl : allPlain [a] = true) :
    PMk X (.Call (.Name cn p) [a] [] pos) (tMkE C f ta) := by
  intro pins s σ H Q I h
  simp only [allPlain, Bool.and_eq_true] at hpl
  refine wpAny_Call_Name_kw (ld_glob I hg T.gC ?_ T.dbg)
  refine PySem.W.callWith_K (h₀ := X.base) I.ok.mod.kin T.kC (thn (ha.run pos pins s σ H _ I h) fun us s1 hh => ?_) (starEach_eq hpl.1) (backTo_plain (by rfl))
  obtain ⟨vs, H1, I1, r1, v, ev, q1⟩ := hh
  subst ev
  refine ⟨I1.kIn, ?_⟩
  cases r1 with
  | cons rv rn =>
    rename_i v' us'
    cases rn
    show wpAny _ _ (call (.ref C) [v']) _ _ _
    have hlim := I1.nolimit
    obtain ⟨mb, b1, b2⟩ := I1.mod.blt
    have bk := I1.bk
    have gl := I1.mod.glob.keeps I1.bk
    have bl := b1.keeps I1.bk
    obtain ⟨hp, g, dr, tk, os⟩ := s1
    refine wpAny_call (ex_made T I1.kIn gl bl b2 hlim (by have := hr.dp; omega) fun h' tk' e d M => ?_)
    show MkP X pins σ Q (.ref e) ⟨h', g, dr, tk', os⟩
    obtain ⟨oe, fv, hoe, hc, hd, hdat, h1⟩ := M.obj
    have hns := M.ns
    obtain ⟨G', g1, g2⟩ := restrict h' fun b => decide (b ≠ e)
    have gk : ∀ b, b ≠ e → G'.get? b = h'.get? b := fun b hb => g1 b (decide_eq_true hb)
    have ge : G'.get? e = none := g2 e (by simp)
    have old : ∀ b o, hp.get? b = some o → G'.get? b = some o := fun b o q => (gk b (Nat.ne_of_lt (Nat.lt_of_lt_of_le (Heap.lt_size q) M.new))).trans (M.keep b o q)
    have ob : ObjOk X.prog X.w (upd H1 d (.xd [(f, v)])) G' d (.xd [(f, v)]) :=
      ⟨_, hns.at (fun o q => (gk d M.dne).trans q), fun g => relO_ex rv f g⟩
    have J : Inv X pins σ (upd H1 d (.xd [(f, v)])) ⟨G', g, dr, tk', os⟩ := I1.laid (t' := tk') old M.dbig ob
    refine ⟨e, oe, fv, ⟨G', g, dr, tk', os⟩, _, .ref C, some d, rfl, J, fun b o q => ?_, ge, hoe, ⟨hc, hd⟩, hdat, h1, ?_, rfl, I1.bare, raises_own T.exC T.tyC, q1 d (I1.hok.fresh M.dbig)⟩
    · by_cases hb : b = e
      · have q' : G'.get? b = some o := q
        rw [hb, ge] at q'; cases q'
      · exact (gk b hb).symm.trans q
    · rw [upd_ne (Ne.symm M.dne)]
      exact I1.hok.fresh M.new
variable {G : GC} {E : XK} {t : WA} {a : Expr}
/-- raise C(e) -/
theorem st_rai {c : Nat} {p pos pos2 : Pos} {k : Nat} (hc : X.calm = true) (T : ExTxt X.prog X.K X.mg cn f (G.ca c) fI) (hP : G.P.excs c = some [f]) (hr : Room k X.A) (tk : Takes X (fun cls d _ H => E cls d H)) (ha : PA X [a] (rdA G E 1 t)) (hg : Gl X cn) (hpl : allPlain [a] = true) :
    PS X (.Raise (some (.Call (.Name cn p) [a] [] pos)) none pos2) (rdS G E fun ρ M N => ∃ ns, G.P.excs c = some ns ∧ t ρ M (fun ds M1 => ds.length = ns.length ∧ N.ex ⟨c, ns.zip ds⟩ M1) N.ex) := by
  refine PS_imp (ps_raise hc tk (pmk_ex T hr ha hg hpl)) fun D σ H ⟨ρ, F, M, N, S, ⟨ns, e, q⟩, n⟩ => ?_
  rw [hP] at e
  cases e
  refine ⟨ρ, F, M, _, N.ex, S, q, fun ds M1 vs H1 F1 hl ⟨_, q1⟩ S1 K1 u1 r1 => ?_, n.ex⟩
  cases r1 with
  | nil => cases hl
  | cons r t =>
    cases t with
    | cons _ _ => cases hl
    | nil =>
      refine ⟨_, rfl, fun d hd => ?_⟩
      exact n.ex _ M1 _ _ _ F1 q1 (S1.hid hd) (K1.trans (Keep.hid S1 hd)) u1 ⟨rfl, by rw [hP]; rfl, d, _, rfl, upd_same, .cons r .nil⟩
end
end DS
end
section
set_option Elab.async false
set_option linter.all false
set_option maxRecDepth 100000
/-! DsU: try: return [word, e] / except C as n: return [word, n.field] / .. -/
namespace DS
open PySem PySem.Spec PyProof.Rows L2
/-! ### several clauses, with names -/
def putE (σ : L2.St) (a : Addr) : Option Nat → L2.St
  | some i => σ.set i (some (.ref a))
  | none => σ
def dropE (D : Ends) : Option Nat → Ends
  | some i => { nx := fun σ' H' => D.nx (σ'.set i none) H', rt := D.rt, bk := fun σ' H' => D.bk (σ'.set i none) H', ct := fun σ' H' => D.ct (σ'.set i none) H' }
  | none => D
abbrev HLs := List (Value × Option Nat × (Addr → Value → Option Addr → TS))
def wManyA (K : PySem.W.Frag) (Wout : WX) (D : Ends) : HLs → WX
  | [] => Wout
  | (c, i, ts) :: r => fun cls d σ H => ∃ b, PySem.W.exmOne K cls c = some b ∧ (b = true → ∀ a, H a = none → ts a cls d (dropE D i) (putE σ a i) H) ∧ (b = false → wManyA K Wout D r cls d σ H)
def SuiteOk (X : Cx) (suite : List Stmt) (ts : Addr → Value → Option Addr → TS) : Prop :=
  ∀ (a : Addr) (oe : Obj) (cls : Value) (d : Option Addr) (pn : List (Addr × Obj)), Zc cls d oe → (∃ vs, oe.data = .fields vs) → PSs (X.suite a ((a, oe) :: pn)) suite (ts a cls d)
inductive HdsA (X : Cx) : List ExceptHandler → HLs → Prop
  | nil : HdsA X [] []
  | named {x n : Str} {c : Value} {i : Nat} {ts : Addr → Value → Option Addr → TS} {b₀ : Stmt} {suite : List Stmt} {np pos' : Pos} {hds : List ExceptHandler} {l : HLs} (hc : Names X x c) (hi : X.N[i]? = some n) (hn : X.env.kindOf n = some .local)
      (hsu : SuiteOk X (b₀ :: suite) ts) (r : HdsA X hds l) : HdsA X (.ExceptHandler (some (.Name x np)) (some n) (b₀ :: suite) pos' :: hds) ((c, some i, ts) :: l)
  | bare {x : Str} {c : Value} {ts : Addr → Value → Option Addr → TS} {b₀ : Stmt} {suite : List Stmt} {np pos' : Pos} {hds : List ExceptHandler} {l : HLs} (hc : Names X x c)
      (hsu : SuiteOk X (b₀ :: suite) ts) (r : HdsA X hds l) : HdsA X (.ExceptHandler (some (.Name x np)) none (b₀ :: suite) pos' :: hds) ((c, none, ts) :: l)
section
variable {X : Cx} {body : List Stmt} {h₀ : ExceptHandler} {hds : List ExceptHandler} {l : HLs} {pos : Pos} {tb : WX → TS} {Wout : WX}
theorem ps_tryA (hs : X.stack = X.env :: X.outer) (hf : X.env.frame = some X.env.locals) (hN : X.N.Nodup) (tk : Takes X Wout)
    (hb : ∀ (W : WX) (pn : List (Addr × Obj)) (xe : Value → Shared → Prop), Takes (X.tr pn xe) W → PassesOwn (model X.prog X.w) X.A X.env xe → PSs (X.tr pn xe) body (tb W))
    (hh : HdsA X (h₀ :: hds) l) : PS X (.Try body (h₀ :: hds) [] [] pos) (fun D σ H => tb (wManyA X.K Wout D l) D σ H) := by
  refine ⟨fun pins s σ H D I h => ?_⟩
  have ok := I.ok
  have hfr : X.A.frames = some (X.env :: X.outer) := by rw [ok.frames, hs]
  have back : ∀ {f : Flow} {s1 : Shared}, SP (X.tr (X.pn ++ pins) (fun e s₁ => wpAny (model X.prog X.w) X.A (noteFrame e X.env) (fun _ s₂ => wpAny (model X.prog X.w) X.A (setFlight e none) (fun _ s₃ =>
    wpAny (model X.prog X.w) X.A (handleBy e X.env (h₀ :: hds)) (SP X pins D) X.xe s₃) X.xe s₂) X.xe s₁)) [] D f s1 → SP X pins D f s1 := by
    intro f s1 hsp
    cases f with
    | ret u => obtain ⟨v, σ', H', J', r, q⟩ := hsp; exact ⟨v, σ', H', J'.ofTry ok, r, q⟩
    | next => obtain ⟨σ', H', J', q⟩ := hsp; exact ⟨σ', H', J'.ofTry ok, q⟩
    | brk => obtain ⟨σ', H', J', q⟩ := hsp; exact ⟨σ', H', J'.ofTry ok, q⟩
    | cont => obtain ⟨σ', H', J', q⟩ := hsp; exact ⟨σ', H', J'.ofTry ok, q⟩
  refine wpAny_Try_except (wpAny_mono ((hb (wManyA X.K Wout D l) (X.pn ++ pins) _ (fun u s' xx => ?_) PassesOwn.looking).run [] s σ H D (I.toTry _) h) (fun f s1 hsp => ?_) (fun e s1 he => he))
  · obtain ⟨a, B, sI, pins', σ', H', cls, d, rfl, J', nb, up, sky, na, os, ag, w⟩ := xx
    have J : Inv X pins σ' H' sI := J'.ofTry ok
    have sky' : Sky B (X.env :: X.outer) a (Zc cls d) X.env.locals s'.heap := hs ▸ sky
    show wpAny (model X.prog X.w) X.A (noteFrame (.ref a) X.env) _ _ _
    refine Sky.land Zc.steady hfr hf sky' fun h3 fl3 up3 => ?_
    have J3 : Inv X pins σ' H' { s' with heap := h3 } := J.landed nb fl3.1 (up.trans up3) os ag
    obtain ⟨oe3, vs3, he3, hz3, hd3⟩ := fl3.there
    have nfr : a ∉ frs (X.env :: X.outer) := fun hm => by
      obtain ⟨_, o', e', hnf⟩ := fl3.2.2.1.mem hm
      rw [he3] at e'; cases e'
      exact hnf _ hd3
    have nL : a ≠ X.env.locals := fun z => nfr (List.mem_filterMap.mpr ⟨X.env, List.mem_cons_self, by rw [hf, z]⟩)
    have nF : a ∉ X.fs := fun hm => by
      obtain ⟨e, he, q⟩ := List.mem_filterMap.mp hm
      exact nfr (List.mem_filterMap.mpr ⟨e, List.mem_cons_of_mem _ he, q⟩)
    have S3 := J3.suite he3 hd3 na nL nF
    have test : ∀ {x : Str} {c : Value} {np : Pos} {Q : Value → Shared → Prop} {E : Value → Shared → Prop}, Names X x c → Q c { s' with heap := h3 } → wpAny (model X.prog X.w) (X.A.mark (some (.ref a))) (eval (.Name x np) X.env) Q E { s' with heap := h3 } := fun hc q => by
      obtain ⟨hg, hdbg, hm | ⟨hm, hv, hnn⟩⟩ := hc
      · exact ld_glob (X := X.suite a ((a, oe3) :: (X.pn ++ pins))) S3 hg hm q hdbg
      · exact ld_blt (X := X.suite a ((a, oe3) :: (X.pn ++ pins))) S3 hg hm hv q hnn hdbg
    have LT : PySem.W.Looks (model X.prog X.w) h3 (typeOf (.ref a)) cls := fun A Q E s k q => wpAny_typeOf_ref (k _ _ he3) (by rw [hz3.1]; exact q)
    have go : ∀ {hds' : List ExceptHandler} {l' : HLs}, HdsA X hds' l' → wManyA X.K Wout D l' cls d σ' H' → wpAny (model X.prog X.w) X.A (handleBy (.ref a) X.env hds') (SP X pins D) X.xe { s' with heap := h3 } := by
      intro hds' l' hk
      induction hk with
      | nil =>
        intro w
        refine wpAny_handleBy_nil ?_
        obtain ⟨k1, k2, k3, oe, vs, T, oT, ts', he, hz, hd, h1, hr⟩ := id fl3
        unfold PySem.passOn
        refine wpAny_bind (wpAny_field he hd h1 ?_)
        rw [if_neg (show ¬ ((Value.ref T == Value.none) = true) from by simp)]
        have fin : wpAny (model X.prog X.w) X.A (setFlight (.ref a) X.env.frame) (fun _ s4 => wpAny (model X.prog X.w) X.A (throw (.ref a) : Sem Flow) (SP X pins D) X.xe s4) X.xe { s' with heap := h3 } := by
          rw [hf]
          refine HandSPX.setFlight_upZ fl3 fun h4 hh4 up4 => wpAny_throw (tk _ _ ?_)
          exact ⟨a, B, sI, pins, σ', H', cls, d, rfl, J, nb, (up.trans up3).trans up4, .inr (.inr (by rw [hs]; exact hh4)), na, os, ag, w⟩
        first
          | exact wpAny_bind (wpAny_pure (wpAny_bind fin))
          | exact wpAny_bind fin
      | @bare x c ts b₀ suite np pos' hds2 l2 hc hsu r ih =>
        intro w
        obtain ⟨b, hb1, hyes, hno⟩ := w
        have LM := PySem.W.exm_one (M := model X.prog X.w) (J3.kIn) LT hb1
        refine wpAny_handleBy_cons (codeAny_handlers_test ?_) (by intro q; cases q)
        refine test hc (LM.here ?_)
        cases b with
        | true =>
          refine codeAny_handlers_suite ?_
          refine HandSPX.lands_againZ fl3 fun h4 fl4 up4 => ?_
          have J4 : Inv X pins σ' H' { s' with heap := h4 } := J.landed nb fl4.1 ((up.trans up3).trans up4) os ag
          obtain ⟨oe4, vs4, he4, hz4, hd4⟩ := fl4.there
          have S4 := J4.suite he4 hd4 na nL nF
          refine wpAny_mono ((hsu a oe4 cls d (X.pn ++ pins) hz4 ⟨_, hd4⟩).run [] _ _ H' _ S4 (hyes rfl a na)) (fun f s6 hsp => ?_) (fun _ _ z => False.elim z)
          cases f with
          | ret u => obtain ⟨v6, σ6, H6, S6, r6, q6⟩ := hsp; exact ⟨_, _, _, S6.unsuite ok, r6, q6⟩
          | next => obtain ⟨σ6, H6, S6, q6⟩ := hsp; exact ⟨_, _, S6.unsuite ok, q6⟩
          | brk => obtain ⟨σ6, H6, S6, q6⟩ := hsp; exact ⟨_, _, S6.unsuite ok, q6⟩
          | cont => obtain ⟨σ6, H6, S6, q6⟩ := hsp; exact ⟨_, _, S6.unsuite ok, q6⟩
        | false =>
          show wpAny _ X.A (handleBy (.ref a) X.env hds2) _ _ _
          exact ih (hno rfl)
      | @named x n c i ts b₀ suite np pos' hds2 l2 hc hi hln hsu r ih =>
        intro w
        obtain ⟨b, hb1, hyes, hno⟩ := w
        have LM := PySem.W.exm_one (M := model X.prog X.w) (J3.kIn) LT hb1
        refine wpAny_handleBy_cons (codeAny_handlers_test ?_) (by intro q; cases q)
        refine test hc (LM.here ?_)
        cases b with
        | true =>
          refine codeAny_handlers_suite_as ?_
          refine HandSPX.lands_againZ fl3 fun h4 fl4 up4 => ?_
          have J4 : Inv X pins σ' H' { s' with heap := h4 } := J.landed nb fl4.1 ((up.trans up3).trans up4) os ag
          obtain ⟨oe4, vs4, he4, hz4, hd4⟩ := fl4.there
          have S4 := J4.suite he4 hd4 na nL nF
          refine store_ok (X := X.suite a ((a, oe4) :: (X.pn ++ pins))) (v := .ref a) S4 hN hi (.inl hln) rfl (fun s5 S5 => ?_) (.inr hln)
          refine wpAny_mono ((hsu a oe4 cls d (X.pn ++ pins) hz4 ⟨_, hd4⟩).run [] s5 _ H' _ S5 (hyes rfl a na)) (fun f s6 hsp => ?_) (fun _ _ z => False.elim z)
          have end_ : ∀ {σ6 : L2.St} {H6 : Hp} {Q : Shared → Prop}, Inv (X.suite a ((a, oe4) :: (X.pn ++ pins))) [] σ6 H6 s6 → (∀ s7, Inv X pins (σ6.set i none) H6 s7 → Q s7) →
              wpAny (model X.prog X.w) X.A (do bindName X.env n .none; unbindBehindTheSuite X.env n pos') (fun _ s7 => Q s7) X.xe s6 := fun S6 hq => gone_ok (S6.unsuite ok) hN hi hln hq
          cases f with
          | ret u => obtain ⟨v6, σ6, H6, S6, r6, q6⟩ := hsp; exact end_ S6 fun s7 J7 => ⟨_, _, _, J7, r6, q6⟩
          | next => obtain ⟨σ6, H6, S6, q6⟩ := hsp; exact end_ S6 fun s7 J7 => ⟨_, _, J7, q6⟩
          | brk => obtain ⟨σ6, H6, S6, q6⟩ := hsp; exact end_ S6 fun s7 J7 => ⟨_, _, J7, q6⟩
          | cont => obtain ⟨σ6, H6, S6, q6⟩ := hsp; exact end_ S6 fun s7 J7 => ⟨_, _, J7, q6⟩
        | false =>
          show wpAny _ X.A (handleBy (.ref a) X.env hds2) _ _ _
          exact ih (hno rfl)
    exact go hh w
  · have q := back hsp
    cases f with
    | next => exact wpAny_execs_nil q
    | ret u => exact q
    | brk => exact q
    | cont => exact q
end
end DS
end
section
set_option Elab.async false
set_option linter.all false
set_option maxRecDepth 100000
/-! DsV: the statement met: try: return [word, e], clauses that tell a field. -/
namespace DS
open PySem PySem.Spec PyProof.Rows L2 LamX
/-- a word and the field of the exception that slot i holds -/
def tPair (w : Str) (C : Addr) (f : Str) (i : Nat) (a : Addr) (cls : Value) (d : Option Addr) : TA := tCons (tC (.str w)) (tCons (tXf a cls d C f (tVar i)) tNil)
def tsH (tu : Bool) (w : Str) (C : Addr) (f : Str) (i : Nat) : Addr → Value → Option Addr → TS := fun a cls d => tRet (if tu = true then tTup (tPair w C f i a cls d) else tLst (tPair w C f i a cls d))
inductive LitE : Bool → List Expr → Expr → Prop
  | tup {es : List Expr} {k : Nat} {p : Pos} : LitE true es (.Tuple es k p)
  | lst {es : List Expr} {p : Pos} : LitE false es (.List es p)
section
variable {G : GC} {X : Cx} {tu : Bool} {w f n : Str} {c i : Nat}
theorem pe_lit {es : List Expr} {e : Expr} {t : TA} (l : LitE tu es e) (h : PA X es t) : PE X e (if tu = true then tTup t else tLst t) := by
  cases l with
  | tup => exact pe_tup h
  | lst => exact pe_lst h
theorem suite_f {e : Expr} {j : Nat} {p1 p2 p3 p5 : Pos} (T : XfC X.K (G.ca c)) (hno : PySem.W.findIn X.K (.ref (G.ca c)) f = some none) (hN : X.N[i]? = some n) (hl : X.env.kindOf n = some .local) (hd : (n == ("__debug__" : Str)) = false) (hcd : (n == ("__classdict__" : Str)) = false)
    (l : LitE tu [.Constant (.str w) j p1, .Attribute (.Name n p2) f p3] e) : SuiteOk X [.Return (some e) p5] (tsH tu w (G.ca c) f i) := by
  intro a oe cls d pn hz hf
  refine PSs_imp (pss_cons (ps_ret (pe_lit l (pa_cons pe_str (pa_cons (pe_xf T hno hz hf (pe_var (X := X.suite a ((a, oe) :: pn)) hN (.inl hl) hd hcd) (by rfl)) pa_nil (by rfl)) (by rfl)))) pss_nil) fun D σ H h => h
inductive MetH (G : GC) (X : Cx) (tu : Bool) : List Hnd → List ExceptHandler → HLs → Prop
  | nil : MetH G X tu [] [] []
  | cons {h : Hnd} {x n f : Str} {i j : Nat} {p1 p2 p3 p5 np pos' : Pos} {e : Expr} {hs : List Hnd} {hds : List ExceptHandler} {l : HLs} (hc : Names X x (.ref (G.ca h.c))) (hN : X.N[i]? = some n) (hl : X.env.kindOf n = some .local) (hd : (n == ("__debug__" : Str)) = false) (hcd : (n == ("__classdict__" : Str)) = false)
      (hf : h.f = .inl f) (T : XfC X.K (G.ca h.c)) (hno : PySem.W.findIn X.K (.ref (G.ca h.c)) f = some none) (le : LitE tu [.Constant (.str h.w) j p1, .Attribute (.Name n p2) f p3] e)
      (hex : ∀ c, (G.P.excs c).isSome = true → PySem.W.exmOne X.K (.ref (G.ca c)) (.ref (G.ca h.c)) = some (decide (h.c = c))) (r : MetH G X tu hs hds l) :
      MetH G X tu (h :: hs) (.ExceptHandler (some (.Name x np)) (some n) [.Return (some e) p5] pos' :: hds) ((.ref (G.ca h.c), some i, tsH tu h.w (G.ca h.c) f i) :: l)
theorem MetH.hds {hs : List Hnd} {hds : List ExceptHandler} {l : HLs} (m : MetH G X tu hs hds l) : HdsA X hds l := by
  induction m with
  | nil => exact .nil
  | cons hc hN hl hd hcd hf T hno le hex r ih => exact .named hc hN hl (suite_f T hno hN hl hd hcd le) ih
theorem repF_lookup {F : Hp} {f : Str} {d : DS.D} : ∀ {fs : List (Str × V)} {ds : List (Str × DS.D)}, RepF G F fs ds → ds.lookup f = some d → ∃ v, fs.lookup f = some v ∧ Rep G F v d
  | _, _, .nil, h => by cases h
  | _, _, .cons (k := k) r t, h => by
    simp only [List.lookup_cons] at h ⊢
    cases e : f == k with
    | true => rw [e] at h; cases h; exact ⟨_, rfl, r⟩
    | false => rw [e] at h; exact repF_lookup t h
theorem MetH.wish {E : XK} {H F H' F' : Hp} {M M' : Sto} {N : Nxt} {D : Ends} {x : Exn} {cls : Value} {dd : Option Addr} {σ : L2.St} (hσ : σ.length = X.N.length) (nr : NR G E H F M N D) (S : SR G H' F' M') (K' : Keep H F M H' F' M') (u' : Sub F F') (xr : XR G H' F' x cls dd) :
    ∀ {hs : List Hnd} {hds : List ExceptHandler} {l : HLs}, MetH G X tu hs hds l → hndD tu hs x M' N → wManyA X.K (fun cls d _ H => E cls d H) D l cls dd σ H' := by
  intro hs hds l m
  induction m with
  | nil => exact fun q => nr.ex x M' cls dd H' F' q S K' u' xr
  | @cons h y n f i j p1 p2 p3 p5 np pos' e hs hds l hc hN hl hd hcd hf T hno le hex r ih =>
    intro q
    obtain ⟨hcls, hsome, d, fs, ed, hd', rf⟩ := xr
    refine ⟨decide (h.c = x.c), by rw [hcls]; exact hex x.c hsome, fun hy a ha => ?_, fun hn => ?_⟩
    · have ec : h.c = x.c := of_decide_eq_true hy
      unfold hndD at q
      rw [if_pos ec, hf] at q
      obtain ⟨dv, hlk, q⟩ := q
      obtain ⟨v, hv, rv⟩ := repF_lookup rf hlk
      have hi : i < σ.length := by rw [hσ]; exact (List.getElem?_eq_some_iff.mp hN).1
      have key : ∀ Q : List V → Hp → Prop, Q [.str h.w, v] H' → tPair h.w (G.ca h.c) f i a cls dd (σ.set i (some (.ref a))) H' Q := fun Q hq =>
        ⟨.ref a, by rw [List.getElem?_set_self hi], rfl, by rw [hcls, ec], d, fs, v, ed, hd', hv, hq⟩
      have rl : RepL G F' [.str h.w, v] [.str h.w, dv] := .cons (.str _) (.cons rv .nil)
      have hz : [V.str h.w, v].length ≤ sizeLine := lim_line (by show 2 ≤ lim; decide)
      have pq := nr.rt.step K' u'
      unfold tsH tRet
      cases tu with
      | true => exact key (fun xs H1 => xs.length ≤ sizeLine ∧ ∀ p, H1 p = none → D.rt (.ref p) (upd H1 p (.tup xs))) ⟨hz, fun p hp => pq.newT S hp rl q⟩
      | false => exact key (fun xs H1 => xs.length ≤ sizeLine ∧ ∀ p, H1 p = none → D.rt (.ref p) (upd H1 p (.lst xs))) ⟨hz, fun p hp => pq.newL S hp rl q⟩
    · have nc : ¬ h.c = x.c := of_decide_eq_false hn
      unfold hndD at q
      rw [if_neg nc] at q
      exact ih q
variable {E : XK} {k : Nat} {Φ : Calls} {te : WE}
/-- try: return [w, e]; the clauses -/
theorem st_met {body : Expr} {h₀ : ExceptHandler} {hs : List Hnd} {hds : List ExceptHandler} {l : HLs} {e : Expr} {j : Nat} {p1 p5 pos : Pos} (hs1 : X.stack = X.env :: X.outer) (hfr : X.env.frame = some X.env.locals) (hN : X.N.Nodup) (tk : Takes X (fun cls d _ H => E cls d H))
    (hb : ∀ (pn : List (Addr × Obj)) (xe : Value → Shared → Prop) (E' : XK), Passes (L2.CX X.prog X.w) (X.tr pn xe) E' → PE (X.tr pn xe) e (rdE G E' te)) (le : LitE tu [.Constant (.str w) j p1, e] body) (hpl : allPlain [Expr.Constant (.str w) j p1, e] = true) (m : MetH G X tu hs (h₀ :: hds) l) :
    PS X (.Try [.Return (some body) p5] (h₀ :: hds) [] [] pos) (rdS G E fun ρ M N => te ρ M (fun d M1 => N.rt (litD tu [.str w, d]) M1) (fun x M1 => hndD tu hs x M1 N)) := by
  have hbody : ∀ (W : WX) (pn : List (Addr × Obj)) (xe : Value → Shared → Prop), Takes (X.tr pn xe) W → PassesOwn (model X.prog X.w) X.A X.env xe →
      PSs (X.tr pn xe) [.Return (some body) p5] (rdS G (fun cls d H => ∀ σ : L2.St, σ.length = X.N.length → W cls d σ H) fun ρ M N => te ρ M (fun d M1 => N.rt (litD tu [.str w, d]) M1) N.ex) := by
    intro W pn xe tkW _
    have ps : Passes (L2.CX X.prog X.w) (X.tr pn xe) (fun cls d H => ∀ σ : L2.St, σ.length = X.N.length → W cls d σ H) := fun pins σ H s e s' I c => tkW e s' (XE.of_call I (fun cls d H' h => h σ I.len) c)
    have he := hb pn xe _ ps
    have hpa : PA (X.tr pn xe) [Expr.Constant (.str w) j p1, e] (rdA G (fun cls d H => ∀ σ : L2.St, σ.length = X.N.length → W cls d σ H) 2 fun ρ M Q Ex => te ρ M (fun d M1 => Q [.str w, d] M1) Ex) := by
      have h2 : notStar e = true := by simp only [allPlain, Bool.and_eq_true] at hpl; exact hpl.2.1
      exact s_cons (by rfl) (s_cst (pe_str (X := X.tr pn xe) (x := w) (j := j) (pos := p1)) (fun F => Rep.str w)) (s_cons h2 he s_nil)
    cases le with
    | tup => exact PSs_imp (pss1 (st_ret (s_tup hpa (by decide))) pss0) fun C σ H h => h
    | lst => exact PSs_imp (pss1 (st_ret (s_lst (mu := false) hpa (by decide))) pss0) fun C σ H h => h
  refine PS_imp (ps_tryA hs1 hfr hN tk hbody m.hds) fun D σ H ⟨ρ, F, M, N, S, q, n⟩ => ?_
  refine ⟨ρ, F, M, ⟨fun _ _ => False, N.rt, fun x M1 => hndD tu hs x M1 N⟩, S, q, fun _ _ _ _ _ z => z.elim, n.rt, fun x M' cls dd H' F' q' S' K' u' xr σ' hσ' => ?_⟩
  exact m.wish hσ' n S' K' u' xr q'
end
end DS
end
section
set_option Elab.async false
set_option linter.all false
set_option maxRecDepth 100000
/-! DsW: self.f = e; calls by keywords. -/
namespace DS
open PySem PySem.Spec PyProof.Rows L2 LamX
theorem putF_new {f : Str} {v : V} : ∀ {fs : List (Str × V)}, fs.lookup f = none → putF f v fs = fs ++ [(f, v)]
  | [], _ => rfl
  | (g, x) :: r, h => by
    simp only [List.lookup_cons] at h
    have hg : ¬ g = f := fun e => by subst e; simp at h
    have hb : (f == g) = false := by simpa using fun e => hg e.symm
    rw [hb] at h
    rw [show putF f v ((g, x) :: r) = (if g = f then (g, v) :: r else (g, x) :: putF f v r) from rfl, if_neg hg, putF_new h]
    rfl
theorem RepF.len {G : GC} {F : Hp} : ∀ {fs : List (Str × V)} {ds : List (Str × D)}, RepF G F fs ds → fs.length = ds.length
  | _, _, .nil => rfl
  | _, _, .cons _ t => by simp [t.len]
theorem RepF.none_of {G : GC} {F : Hp} {f : Str} : ∀ {fs : List (Str × V)} {ds : List (Str × D)}, RepF G F fs ds → ds.lookup f = none → fs.lookup f = none
  | _, _, .nil, _ => rfl
  | _, _, .cons (k := k) r t, h => by
    simp only [List.lookup_cons] at h ⊢
    cases e : f == k with
    | true => rw [e] at h; cases h
    | false => rw [e] at h; exact t.none_of h
section
variable {G : GC} {X : Cx} {E : XK} {a o : Expr} {ta to : WE} {pos apos : Pos} {f : Str}
/-- o.f = e -/
theorem st_fld (hc : Cls X.K (G.ca 0)) (hn : NoAttr X.K (G.ca 0) f) (ha : PE X a (rdE G E ta)) (ho : PE X o (rdE G E to)) (hs : swapsWith a (some (.Attribute o f apos)) pos.line X.env = pure false) :
    PS X (.Assign [.Attribute o f apos] a pos) (rdS G E fun ρ M N => ta ρ M (fun d M1 => to ρ M1 (fun x M2 => ∃ p c fs, x = .mref p ∧ M2 p = some (.ins c fs) ∧ fs.length < 900 ∧ fs.lookup f = none ∧ N.nx ρ (M2.put p (.ins c (fs ++ [(f, d)])))) N.ex) N.ex) := by
  refine PS_imp (ps_fld ho ha hs) fun D σ H ⟨ρ, F, M, N, S, q, n⟩ => ?_
  refine ⟨ρ, F, M, _, N.ex, S, q, fun d M1 v H1 F1 q1 S1 K1 u1 r1 => ?_, n.ex⟩
  refine ⟨ρ, F1, M1, _, N.ex, S.step S1 u1, q1, fun x M2 v2 H2 F2 ⟨p, c, fs, ex, hm, hl, hlk, q2⟩ S2 K2 u2 r2 => ?_, n.ex.step K1 u1⟩
  subst ex
  obtain rfl := rep_mref r2
  obtain ⟨hF, rfl, dx, vs, hH, rf⟩ := S2.mo p _ hm
  refine ⟨p, G.ca 0, dx, vs, rfl, hH, hc, hn, by rw [rf.len]; omega, ?_⟩
  rw [putF_new (rf.none_of hlk)]
  have S3 : SR G (upd H2 p (.ins (G.ca 0) dx (vs ++ [(f, v)]))) F2 (M2.put p (.ins 0 (fs ++ [(f, d)]))) :=
    S2.chg hm ⟨rfl, dx, _, upd_same, RepF.snoc (r1.mono u2) rf⟩ (fun ps e => by rw [hH] at e; cases e)
  exact n.nx ρ _ σ _ F2 q2 ((S.step S1 u1).step S3 u2) ((K1.trans K2).trans (Keep.chg hm)) (u1.trans u2)
/-! ### f(k = e, ..) -/
theorem look_rel {α β : Type} {R : α → β → Prop} {P : List α → List β → Prop} (hc : ∀ {a b as bs}, P (a :: as) (b :: bs) → R a b ∧ P as bs) (hn : ∀ {as}, P as [] → as = []) (hm : ∀ {bs}, P [] bs → bs = []) (i : Nat) :
    ∀ (ps : List Nat) (as : List α) (bs : List β), P as bs → ((ps.zip as).lookup i = none ∧ (ps.zip bs).lookup i = none) ∨ ∃ a b, (ps.zip as).lookup i = some a ∧ (ps.zip bs).lookup i = some b ∧ R a b
  | [], _, _, _ => .inl ⟨rfl, rfl⟩
  | p :: ps, [], bs, h => by rw [hm h]; exact .inl ⟨rfl, rfl⟩
  | p :: ps, a :: as, [], h => by cases hn h
  | p :: ps, a :: as, b :: bs, h => by
    obtain ⟨r, h'⟩ := hc h
    simp only [List.zip_cons_cons, List.lookup_cons]
    cases e : i == p with
    | true => exact .inr ⟨a, b, rfl, rfl, r⟩
    | false => exact look_rel hc hn hm i ps as bs h'
theorem arr_rel {α β : Type} {R : α → β → Prop} {P : List α → List β → Prop} (h0 : P [] []) (h1 : ∀ {a b as bs}, R a b → P as bs → P (a :: as) (b :: bs)) (hc : ∀ {a b as bs}, P (a :: as) (b :: bs) → R a b ∧ P as bs) (hn : ∀ {as}, P as [] → as = []) (hm : ∀ {bs}, P [] bs → bs = [])
    {ps : List Nat} {as : List α} {bs : List β} (h : P as bs) : P (arrange ps as) (arrange ps bs) := by
  unfold arrange
  generalize List.range ps.length = l
  induction l with
  | nil => exact h0
  | cons i l ih =>
    rcases look_rel hc hn hm i ps as bs h with ⟨e1, e2⟩ | ⟨a, b, e1, e2, r⟩
    · simp only [List.filterMap_cons, e1, e2]; exact ih
    · simp only [List.filterMap_cons, e1, e2]; exact h1 r ih
theorem RepL.arr {F : Hp} {ps : List Nat} {vs : List V} {ds : List D} (r : RepL G F vs ds) : RepL G F (arrange ps vs) (arrange ps ds) :=
  arr_rel (R := Rep G F) (P := RepL G F) .nil .cons (fun h => by cases h with | cons r t => exact ⟨r, t⟩) (fun h => by cases h; rfl) (fun h => by cases h; rfl) r
theorem Vals.arr {ps : List Nat} {vs : List V} {us : List Value} (r : Vals vs us) : Vals (arrange ps vs) (arrange ps us) :=
  arr_rel (R := L2.RelV) (P := Vals) .nil .cons (fun h => by cases h with | cons r t => exact ⟨r, t⟩) (fun h => by cases h; rfl) (fun h => by cases h; rfl) r
/-- how the def at f takes the keywords ks -/
def KwB (K : PySem.W.Frag) (f : Addr) (ks : List Str) (ps : List Nat) : Prop :=
  ∀ fd oc od osl, K.lookup f = some ⟨oc, od, .func fd, osl⟩ → ∀ ws : List Value, ws.length = ks.length → bindArgs fd ⟨[], ks.zip ws⟩ = pure ((fd.params.args.map (·.arg)).zip (arrange ps ws))
variable {CX : CXT} {k i n : Nat} {Φ : Calls} {x : Str} {p : Pos} {ks : List Str} {perm : List Nat} {kws : List Keyword} {t : WA}
theorem s_cak (C : CanCall X E CX k G Φ) (hi : (G.P.fns i).isSome = true) (hg : Gl X x) (hm : X.mg x = some (.ref (G.fa i))) (hdb : (x == ("__debug__" : Str)) = false) (kb : KwB X.K (G.fa i) ks perm) (hn : n = ks.length)
    (hk : PKD G X E kws n t) (hall : (backToKw pos (keywordEach kws X.env)).all (·.1.isSome) = true) (hks : (backToKw pos (keywordEach kws X.env)).filterMap (·.1) = ks) (hpl : ((backTo pos (starEach [] X.env)).any (·.1) || (backToKw pos (keywordEach kws X.env)).any (·.1.isNone)) = false) :
    PE X (.Call (.Name x p) [] kws pos) (rdE G E fun ρ M Q Ex => t ρ M (fun ds M1 => Φ.fn i ((arrange perm ds).map .d) M1 Q Ex) Ex) := by
  refine ⟨fun pins s σ H Q I ⟨ρ, F, M, Qd, Ed, S, q, pq, px⟩ => ?_⟩
  obtain ⟨fd, ps, f⟩ := C.all i hi
  refine wpAny_Call_Name_kw (ld_glob I hg hm ?_ hdb)
  refine PySem.W.callWith_KW0 (h₀ := X.base) I.ok.mod.kin f.kp hall (hk.run pos pins s σ H F ρ M _ Ed _ I S q px fun us s1 vs ds H1 F1 M1 I1 S1 K1 u1 r1 rv hl q1 => ⟨I1.kIn, ?_⟩) hpl
  rw [hks, List.nil_append]
  obtain ⟨oc, od, osl, hat⟩ := f.at_
  have hb := kb fd oc od osl hat us (by rw [← rv.length, r1.length, hl, hn])
  rw [← f.par] at hb
  have rr := (r1.arr (ps := perm)).sl
  have hlen : (arrange perm us).length = ps.length := by rw [← (Vals.arr rv).length, rr.length]; exact f.len _ _ _ _ q1
  refine wpAny_call (codeAny_mono (f.fn.run X.A X.stack s1 H1 ⟨[], ks.zip us⟩ (arrange perm us) (arrange perm vs) Q E C.gd (C.room.mono (Nat.le_succ k)) I1.env0 (.of_eq hb) (Vals.arr rv)
    ⟨by rw [(Vals.arr (ps := perm) rv).length]; exact hlen, _, F1, M1, Qd, Ed, S1.sr, rr, q1, pq.step K1 u1, px.step K1 u1⟩) fun r s' hq => ?_)
  cases r with
  | error e => exact C.pass pins σ H1 s1 e s' I1 hq
  | ok fl =>
    cases fl with
    | ret u => exact I1.after hq
    | next => exact False.elim hq
    | brk => exact False.elim hq
    | cont => exact False.elim hq
end
end DS
end
section
set_option Elab.async false
set_option linter.all false
set_option maxRecDepth 100000
/-! DsX: a local name called without arguments. -/
namespace DS
open PySem PySem.Spec PyProof.Rows L2 LamX
section
variable {G : GC} {X : Cx} {E : XK} {k : Nat} {Φ : Calls} {pos p : Pos} {x : Str}
theorem s_cav0 {j : Nat} (C : CanCall X E (L2.CX X.prog X.w) k G Φ) (L : LamAll X.prog X.w X.K X.mg X.base k G Φ) (hN : X.N[j]? = some x) (hv : Vis X.env.scope x) (hd : (x == ("__debug__" : Str)) = false) (hcd : (x == ("__classdict__" : Str)) = false) :
    PE X (.Call (.Name x p) [] [] pos) (rdE G E fun ρ M Q Ex => ∃ d, ρ[j]? = some (some d) ∧ isCall d = true ∧ callD Φ d [] M Q Ex) := by
  refine ⟨fun pins s σ H Q I ⟨ρ, F, M, Qd, Ed, S, ⟨d, hj, hcl, q⟩, pq, px⟩ => ?_⟩
  obtain ⟨v, e1, r⟩ := S.vr j _ hj
  refine wpAny_Call_Name_kw (thn ((pe_var (pos := p) (i := j) hN hv hd hcd).run pins s σ H (fun w H1 => w = v ∧ H1 = H) I ⟨v, e1, rfl, rfl⟩) fun u s1 ⟨w, H1, I1, rw1, ew, eH⟩ => ?_)
  subst ew eH
  cases r with
  | @d _ x r =>
    cases r with
    | fn i hi =>
      obtain rfl : u = Value.ref (G.fa i) := rw1
      obtain ⟨fd, ps, f⟩ := C.all i hi
      exact PySem.W.callWith_K0 I1.kIn f.kp (run_D C hi I1 S.sr .nil .nil q pq px)
    | _ => cases hcl
  | @clo f c' ob l t' cl cs wsC dsC h1 h2 h3 h4 h5 h6 h7 h8 =>
    obtain rfl : u = Value.ref f := rw1
    obtain ⟨_, ⟨pm, ctv, hget⟩, _, _⟩ := I1.hok f _ (S.sr.hard f _ h2 rfl)
    refine PySem.W.callWith_F0 ⟨_, _, _, _, hget⟩ ?_
    refine wpAny_call (codeAny_mono ((L l t' h1).run X.A X.stack s1 H1 F M f c' ob cl cs wsC dsC [] [] [] Qd Ed Q E C.gd (C.room.mono (Nat.le_succ k)) I1.env0 S.sr h2 h3 h4 h5 h6 h7 h8 .nil .nil q pq px) fun r s' hq => ?_)
    cases r with
    | error e => exact C.pass pins σ H1 s1 e s' I1 hq
    | ok fl =>
      cases fl with
      | ret u => exact I1.after hq
      | next => exact False.elim hq
      | brk => exact False.elim hq
      | cont => exact False.elim hq
/-! ### built-ins by values -/
def rOfD (G : GC) (od : List DS.D → Sto → Po DS.D → Prop) : List V → Hp → VK → Prop := fun vs H Q => ∃ F M ds Qd, SR G H F M ∧ RepL G F vs ds ∧ od ds M Qd ∧ PQ G H F M Qd Q
variable {e : Expr} {es : List Expr} {n : Nat} {t : WA} {od : List DS.D → Sto → Po DS.D → Prop}
theorem CallD.toR {f : Value} (h : CallD G X f od) : CallR X f (rOfD G od) := fun pins s σ H vs us Q I rv ⟨F, M, ds, Qd, S, r, q, pq⟩ => h pins s σ H F M vs ds us Qd Q I S r rv q pq
theorem rd_bi (ha : PA X (e :: es) (rdA G E n t)) {e' : Expr} (h : PE X e' (tCB (rOfD G od) (rdA G E n t))) : PE X e' (rdE G E fun ρ M Q Ex => t ρ M (fun ds M1 => od ds M1 Q) Ex) :=
  PE_imp h fun σ H Q ⟨ρ, F, M, Qd, Ed, S, q, pq, px⟩ => ⟨ρ, F, M, _, Ed, S, q, fun ds M1 vs H1 F1 hl q1 S1 K1 u1 r1 => ⟨F1, M1, ds, Qd, S1, r1, q1, pq.step K1 u1⟩, px⟩
theorem s_biB {id : String} (hc : CallD G X (.builtin id) od) (hg : Gl X x) (hm : X.mg x = none) (hv : bootBuiltins x = some (.builtin id)) (ha : PA X (e :: es) (rdA G E n t)) (hn : x ≠ "__name__") (hdb : (x == ("__debug__" : Str)) = false) (hp : allPlain (e :: es) = true) :
    PE X (.Call (.Name x p) (e :: es) [] pos) (rdE G E fun ρ M Q Ex => t ρ M (fun ds M1 => od ds M1 Q) Ex) := by
  simp only [allPlain, Bool.and_eq_true] at hp
  exact rd_bi ha (pe_callB hc.toR hg hm hv ha hn hdb (starEach_eq hp.1) (backTo_plain hp.2))
theorem s_biT {T : String} (hc : CallD G X (.type T) od) (hg : Gl X x) (hm : X.mg x = none) (hv : bootBuiltins x = some (.type T)) (ha : PA X (e :: es) (rdA G E n t)) (hn : x ≠ "__name__") (hdb : (x == ("__debug__" : Str)) = false) (hp : allPlain (e :: es) = true) :
    PE X (.Call (.Name x p) (e :: es) [] pos) (rdE G E fun ρ M Q Ex => t ρ M (fun ds M1 => od ds M1 Q) Ex) := by
  simp only [allPlain, Bool.and_eq_true] at hp
  exact rd_bi ha (pe_callTy hc.toR hg hm hv ha hn hdb (starEach_eq hp.1) (backTo_plain hp.2))
/-! ### .. that are changed later -/
def muO (od : List DS.D → Sto → Po DS.D → Prop) : List DS.D → Sto → Po DS.D → Prop := fun ds M Q => od ds M (fun d M1 => made true d M1 Q)
theorem CallD.imp {f : Value} {o o' : List DS.D → Sto → Po DS.D → Prop} (h : CallD G X f o) (i : ∀ ds M Q, o' ds M Q → o ds M Q) : CallD G X f o' := fun pins s σ H F M vs ds us Qd Q I S r rv q pq => h pins s σ H F M vs ds us Qd Q I S r rv (i _ _ _ q) pq
theorem mu1 {o : DS.D → Sto → Po DS.D → Prop} : ∀ ds M Q, muO (op1 o) ds M Q → op1 (fun d M Q => o d M (fun d M1 => made true d M1 Q)) ds M Q := fun ds M Q h => by
  unfold muO at h
  cases ds with
  | nil => exact h
  | cons d t => cases t <;> exact h
theorem c_listM (hc : X.calm = true) : CallD G X (.type "list") (muO (opBi .list)) := CallD.imp (o := op1 (fun d M Q => oList d M (fun d M1 => made true d M1 Q))) (one_D fun pins s σ H F M v d us Qd Q I S r rv q pq => by
  unfold oList at q
  split at q
  · rename_i xs e
    obtain ⟨p, vs, rfl, h, t⟩ := vw_lst S r e
    exact call_list_of pins s σ H _ us Q I rv ⟨p, vs, rfl, .inl (.inl h), fun z hz => pq.madeL S hz t q⟩
  · rename_i xs e
    obtain ⟨p, vs, rfl, h, t⟩ := vw_tup S r e
    exact call_list_of pins s σ H _ us Q I rv ⟨p, vs, rfl, .inr (.inl h), fun z hz => pq.madeL S hz t q⟩
  · rename_i kvs e
    obtain ⟨p, rfl, ⟨vs, h, t⟩ | ⟨vs, h, t⟩⟩ := vw_dic S r e
    · exact call_listD hc pins s σ H _ us Q I rv ⟨p, vs, rfl, h, fun z hz => pq.madeL S hz t.keys q⟩
    · refine call_list_dT hc pins s σ H _ us Q I rv ⟨p, vs, rfl, h, fun z bs hz hk => ?_⟩
      obtain ⟨F', S', k', u', rl⟩ := SR.adopts hk S t
      exact (pq.step k' u').madeL S' hz rl q
  · exact q.elim) (mu1 (o := oList))
theorem c_dictM (hc : X.calm = true) : CallD G X (.type "dict") (muO (opBi .dict)) := CallD.imp (o := op1 (fun d M Q => oDict d M (fun d M1 => made true d M1 Q))) (one_D fun pins s σ H F M v d us Qd Q I S r rv q pq => by
  unfold oDict at q
  split at q
  · rename_i xs e
    obtain ⟨kvs, e2, hk, q⟩ := q
    obtain ⟨p, vs, rfl, h, t⟩ := vw_lst S r e
    obtain ⟨ps, ws, rfl, hp, hr⟩ := pairsK_rep S t e2 hk
    refine thn (call_dictP hc pins s σ H _ us (lockQ true Q) I rv ⟨p, ps, ws, rfl, .inl h, Paired.mapP hp fun a b z => SqT.of z, fun z hz => ?_⟩) fun _ _ z => ep_lock z
    exact pq.madeK (mu := true) S hz (RepK.mrg .nil hr) q
  · rename_i kvs e
    obtain ⟨hn, hk, q⟩ := q
    obtain ⟨p, rfl, ⟨vs, h, t⟩ | ⟨vs, h, t⟩⟩ := vw_dic S r e
    · exact thn (call_dictD pins s σ H _ us (lockQ true Q) I rv ⟨p, vs, rfl, h, fun z hz => pq.madeK (mu := true) S hz t q⟩) fun _ _ z => ep_lock z
    · cases t with
      | nil => exact absurd rfl hn
      | cons r t => have := hk _ List.mem_cons_self; simp [isTK] at this
  · exact q.elim) (mu1 (o := oDict))
theorem c_sortedM : CallD G X (.builtin "sorted") (muO (opBi .sorted)) := CallD.imp (o := op1 (fun d M Q => oSorted d M (fun d M1 => made true d M1 Q))) (one_D fun pins s σ H F M v d us Qd Q I S r rv ⟨xs, ns, e, e2, q⟩ pq => by
  obtain ⟨p, vs, rfl, h, t⟩ := vw_lst S r e
  obtain rfl := t.intsD e2
  exact cr_sortedI pins s σ H _ us Q I rv ⟨p, ns, rfl, .inl h, fun ns' z hp hs hz => pq.madeL S hz (RepL.ofInts ns') (q ns' hp hs)⟩) (mu1 (o := oSorted))
end
end DS
end
section
set_option Elab.async false
set_option linter.all false
set_option maxRecDepth 100000
/-! DsY: the checker: a text is what an IR says. -/
namespace DS
open PySem PySem.Spec PyProof.Rows L2 LamX
/-- where a text stands -/
structure CK where
  sc : Scope
  N : List Str
  fn : Str → Bool
  cb : Bool
  qual : Str
def CK.blk (c : CK) (scope : Scope) (b : Bool) : CK := ⟨relS scope c.sc, c.N, fun x => scope.names.lookup x == some .cell, b && c.cb, c.qual⟩
/-- a lambda's names -/
structure LamN where
  caps : List Str
  ps : List Str
  N : List Str
  deriving DecidableEq
structure Tab where
  fns : List (Str × Nat)
  csts : List (Str × Cst)
  own : Str
  mak : Option Nat
  flds : List Str
  meths : List (Str × Nat)
  excs : List (Str × Nat × Str)
  kws : List (Nat × List Str × List Nat)
  lnm : Nat → Option LamN
  lok : Nat → LamTxt → Bool

def bltNames : List Str := ["isinstance", "len", "int", "abs", "min", "max", "sum", "all", "any", "sorted", "list", "tuple", "dict", "repr", "range", "enumerate", "zip", "bool", "str", "super"]
def dbgB (x : Str) : Bool := !(x == ("__debug__" : Str))
def glB (c : CK) (x : Str) : Bool := (c.sc.names.lookup x == some .globalImplicit) && dbgB x
def visB (c : CK) (x : Str) : Bool := match c.sc.names.lookup x with
  | some .local => true
  | some .cell => true
  | some .free => true
  | _ => false
/-- a name of the def at slot i -/
def varB (c : CK) (i : Nat) (x : Str) : Bool := (c.N[i]? == some x) && visB c x && dbgB x && !(x == ("__classdict__" : Str))
def bltB (c : CK) (x nm : Str) : Bool := (x == nm) && glB c x && decide (nm ∈ bltNames)
def Cst.c : Cst → Const
  | .non => .none
  | .bl b => .bool b
  | .int i => .int i
  | .str s => .str s
def nmB (c : CK) (i : Nat) (x : Str) : Bool := (c.N[i]? == some x) && (match c.sc.names.lookup x with
  | some .local => true
  | some .cell => c.fn x
  | _ => false)
def nmsB (c : CK) : List Nat → List Expr → Bool
  | [], [] => true
  | i :: is, .Name x _ :: es => nmB c i x && nmsB c is es
  | _, _ => false
def tgB (c : CK) : Tg → Expr → Bool
  | .nm i, .Name x _ => nmB c i x
  | .tp is, .Tuple es _ _ => nmsB c is es
  | _, _ => false
def Ty.nm (T : Tab) : Ty → Str
  | .int => "int"
  | .bool => "bool"
  | .str => "str"
  | .list => "list"
  | .tuple => "tuple"
  | .dict => "dict"
  | .cls _ => T.own
def tyB (T : Tab) (c : CK) (t : Ty) : Expr → Bool
  | .Name x _ => (x == t.nm T) && glB c x && (match t with
    | .cls n => n == 0
    | _ => true)
  | _ => false
def tysB (T : Tab) (c : CK) : List Ty → List Expr → Bool
  | [], [] => true
  | t :: ts, e :: es => tyB T c t e && tysB T c ts es
  | _, _ => false
def tyArgB (T : Tab) (c : CK) (ts : List Ty) : Expr → Bool
  | .Tuple es _ _ => tysB T c ts es && decide (es.length ≤ lim)
  | e => (match ts with
    | [t] => tyB T c t e
    | _ => false)
def Bi.nm : Bi → Str
  | .len => "len"
  | .int => "int"
  | .abs => "abs"
  | .min2 => "min"
  | .max2 => "max"
  | .min1 => "min"
  | .max1 => "max"
  | .sum => "sum"
  | .all => "all"
  | .any => "any"
  | .sorted => "sorted"
  | .list => "list"
  | .tuple => "tuple"
  | .dict => "dict"
  | .repr => "repr"
def Me.nm : Me → Option Str
  | .index => some "index"
  | .count => some "count"
  | _ => none
def Mu.nm : Mu → Str × Nat
  | .append => ("append", 1)
  | .pop1 => ("pop", 1)
  | .pop0 => ("pop", 0)
  | .extend => ("extend", 1)
  | .clear => ("clear", 0)
def isYes : IB → Bool
  | .yes => true
  | _ => false
def notSet : Expr → Bool
  | .Set _ _ _ => false
  | _ => true
def isTup : Expr → Bool
  | .Tuple _ _ _ => true
  | _ => false
/-- the own names of a comprehension's block with their slots -/
def ownB : List Nat → List Expr → List (Str × Nat)
  | i :: is, .Name x _ :: es => (x, i) :: ownB is es
  | _, _ => []
def ownT : Tg → Expr → List (Str × Nat)
  | .nm i, .Name x _ => [(x, i)]
  | .tp is, .Tuple es _ _ => ownB is es
  | _, _ => []
def kwsOk (T : Tab) (f : Nat) (ps : List Nat) (kws : List Keyword) : Bool :=
  T.kws.any fun k => (k.1 == f) && decide (k.2.2 = ps) && decide (kws.map (·.arg) = k.2.1.map some)
def dflB (a : Arguments) : Bool := (match a.kw_defaults, a.defaults with
  | [], [] => true
  | _, _ => false)
/-- a lambda that is made at c -/
def lamB (T : Tab) (c : CK) (l : Nat) (cs : List Nat) (a : Arguments) (b : Expr) (s : Scope) : Bool := match T.lnm l with
  | none => false
  | some n => c.cb && T.lok l ⟨c.qual ++ "<lambda>", a, b, s, n.caps, n.ps, n.N⟩ && dflB a && decide (cs.map (fun j => c.N[j]?) = n.caps.map some) &&
      n.caps.all (fun y => c.sc.names.lookup y == some .cell) && s.names.all (fun y => !(y.2 == .free) || decide (y.1 ∈ n.caps)) && n.caps.all (fun y => decide ((y, NameKind.free) ∈ s.names))
section
variable (T : Tab)
mutual
def chkE : IE → CK → Expr → Bool
  | .var i, c, e => (match e with
    | .Name x _ => varB c i x
    | _ => false)
  | .cst k, _, e => (match e with
    | .Constant v _ _ => decide (v = k.c)
    | _ => false)
  | .glb k, c, e => (match e with
    | .Name x _ => glB c x && (T.csts.lookup x == some k)
    | _ => false)
  | .fnv i, c, e => (match e with
    | .Name x _ => glB c x && (T.fns.lookup x == some i)
    | _ => false)
  | .bin op a b, c, e => (match e with
    | .BinOp x o y _ => decide (o = op) && chkE a c x && chkE b c y
    | _ => false)
  | .neg a, c, e => (match e with
    | .UnaryOp .USub x _ => chkE a c x
    | _ => false)
  | .not a, c, e => (match e with
    | .UnaryOp .Not x _ => chkE a c x
    | _ => false)
  | .cmp op a b, c, e => (match e with
    | .Compare x [o] [y] _ => decide (o = op) && !behindInMarks op y && chkE a c x && chkE b c y
    | _ => false)
  | .chn op op' a b d, c, e => (match e with
    | .Compare x [o, o'] [y, z] _ => decide (o = op) && decide (o' = op') && !lastMarks [op, op'] [y, z] && chkE a c x && chkE b c y && chkE d c z
    | _ => false)
  | .and a b, c, e => (match e with
    | .BoolOp .And [x, y] _ => chkE a c x && chkE b c y
    | .BoolOp .And (x :: y :: z :: r) p => chkE a c x && chkE b c (.BoolOp .And (y :: z :: r) p)
    | _ => false)
  | .or a b, c, e => (match e with
    | .BoolOp .Or [x, y] _ => chkE a c x && chkE b c y
    | .BoolOp .Or (x :: y :: z :: r) p => chkE a c x && chkE b c (.BoolOp .Or (y :: z :: r) p)
    | _ => false)
  | .ite t a b, c, e => (match e with
    | .IfExp x y z _ => chkT t c x && chkE a c y && chkE b c z
    | _ => false)
  | .tup es, c, e => (match e with
    | .Tuple xs _ _ => chkEs es c xs && decide (xs.length ≤ lim)
    | _ => false)
  | .lst _ es, c, e => (match e with
    | .List xs _ => chkEs es c xs && decide (xs.length ≤ lim)
    | _ => false)
  | .dic _ tk es, c, e => (match e with
    | .Dict keys vals _ => (match keys with
      | [] => vals.isEmpty && es.isEmpty
      | _ => !tk && chkD es c keys vals && decide (keys.length ≤ 15))
    | _ => false)
  | .idx a b, c, e => (match e with
    | .Subscript x y _ => plainIx y && chkE a c x && chkE b c y
    | _ => false)
  | .slc bl bh a lo hi, c, e => (match e with
    | .Subscript x (.Slice l h none _) _ => chkE a c x && (match bl, l with
        | true, some y => chkE lo c y
        | false, none => (match lo with
          | .cst .non => true
          | _ => false)
        | _, _ => false) && (match bh, h with
        | true, some y => chkE hi c y
        | false, none => (match hi with
          | .cst .non => true
          | _ => false)
        | _, _ => false)
    | _ => false)
  | .rev _, _, _ => false
  | .att a f, c, e => (match e with
    | .Attribute x g _ => decide (g = f) && notSuper x && decide (f ∈ T.flds) && chkE a c x
    | _ => false)
  | .cal f es, c, e => (match e with
    | .Call (.Name x _) args [] _ => glB c x && (T.fns.lookup x == some f) && chkEs es c args
    | _ => false)
  | .cak f ps es, c, e => (match e with
    | .Call (.Name x _) [] kws _ => glB c x && (T.fns.lookup x == some f) && kwsOk T f ps kws && chkK es c kws
    | _ => false)
  | .mak n es, c, e => (match e with
    | .Call (.Name x _) args [] _ => (n == 0) && (x == T.own) && glB c x && T.mak.isSome && !args.isEmpty && chkEs es c args
    | _ => false)
  | .cav i es, c, e => (match e with
    | .Call (.Name x _) args [] _ => varB c i x && chkEs es c args
    | _ => false)
  | .calL f as, c, e => (match e with
    | .Call (.Name x _) args [] _ => c.cb && glB c x && (T.fns.lookup x == some f) && !args.isEmpty && chkAs as c args
    | _ => false)
  | .bi b es, c, e => (match e with
    | .Call (.Name x _) args [] _ => bltB c x b.nm && !args.isEmpty && chkEs es c args
    | _ => false)
  | .bt b _ it, c, e => (match e with
    | .Call (.Name x _) [y] [] _ => chkB b it c x y
    | _ => false)
  | .isi a ts, c, e => (match e with
    | .Call (.Name x _) [y, z] [] _ => bltB c x "isinstance" && notStar y && chkE a c y && tyArgB T c ts z
    | _ => false)
  | .me m a es, c, e => (match e with
    | .Call (.Attribute o nm ap) args [] cp => (m.nm == some nm) && notSuper o && (ap.endLine == cp.line) && !args.isEmpty && decide (args.length < 29) && chkE a c o && chkEs es c args
    | _ => false)
  | .mu m a es, c, e => (match e with
    | .Call (.Attribute o nm ap) args [] cp => (m.nm.1 == nm) && (m.nm.2 == args.length) && notSuper o && (ap.endLine == cp.line) && chkE a c o && chkEs es c args
    | _ => false)
  | .meth _ _ _, _, _ => false
  | .cmpr _ e1 tg it t, c, e => (match e with
    | .ListComp elt [⟨te, iter, ifs, 0⟩] scope _ => notSet iter && chkI it c te iter && blkC c.N c.sc scope (ownT tg te) && tgB (c.blk scope true) tg te && (match ifs with | [] => isYes t | [w] => chkT t (c.blk scope true) w | _ => false) && chkE e1 (c.blk scope true) elt
    | _ => false)
  | .cmp2 _ e1 tg it t tg2 it2 t2, c, e => (match e with
    | .ListComp elt [⟨te, iter, ifs, 0⟩, ⟨te2, iter2, ifs2, 0⟩] scope _ => notSet iter && notSet iter2 && chkI it c te iter && blkC c.N c.sc scope (ownT tg te ++ ownT tg2 te2) && tgB (c.blk scope false) tg te && (match ifs with | [] => isYes t | [w] => chkT t (c.blk scope false) w | _ => false) &&
        chkI it2 (c.blk scope false) te2 iter2 && tgB (c.blk scope false) tg2 te2 && (match ifs2 with | [] => isYes t2 | [w] => chkT t2 (c.blk scope false) w | _ => false) && chkE e1 (c.blk scope false) elt
    | _ => false)
  | .dcm _ tk k v tg it t, c, e => (match e with
    | .DictComp kx vx [⟨te, iter, ifs, 0⟩] scope _ => !tk && notSet iter && chkI it c te iter && blkC c.N c.sc scope (ownT tg te) && tgB (c.blk scope false) tg te && (match ifs with | [] => isYes t | [w] => chkT t (c.blk scope false) w | _ => false) && chkE k (c.blk scope false) kx && chkE v (c.blk scope false) vx
    | _ => false)
  | .mut a, c, e => (match a with
    | .bi b es => (match e with
      | .Call (.Name x _) args [] _ => (decide (b = .list) || decide (b = .dict) || decide (b = .sorted)) && bltB c x b.nm && !args.isEmpty && chkEs es c args
      | _ => false)
    | _ => false)
  | .frz a, c, e => chkE a c e
def chkT : IB → CK → Expr → Bool
  | .and a b, c, e => (match e with
    | .BoolOp .And [x, y] _ => chkT a c x && chkT b c y
    | .BoolOp .And (x :: y :: z :: r) p => chkT a c x && chkT b c (.BoolOp .And (y :: z :: r) p)
    | _ => false)
  | .or a b, c, e => (match e with
    | .BoolOp .Or [x, y] _ => chkT a c x && chkT b c y
    | .BoolOp .Or (x :: y :: z :: r) p => chkT a c x && chkT b c (.BoolOp .Or (y :: z :: r) p)
    | _ => false)
  | .not a, c, e => (match e with
    | .UnaryOp .Not x _ => chkT a c x
    | _ => false)
  | .val a, c, e => chkE a c e && (plainT e || (match a with
    | .cmp _ _ _ => true
    | .chn _ _ _ _ _ => true
    | _ => false))
  | .yes, _, _ => false
def chkEs : List IE → CK → List Expr → Bool
  | [], _, xs => xs.isEmpty
  | e :: es, c, xs => (match xs with
    | x :: r => notStar x && chkE e c x && chkEs es c r
    | [] => false)
def chkK : List IE → CK → List Keyword → Bool
  | [], _, xs => xs.isEmpty
  | e :: es, c, xs => (match xs with
    | x :: r => chkE e c x.value && chkK es c r
    | [] => false)
def chkD : List IE → CK → List (Option Expr) → List Expr → Bool
  | [], _, ks, vs => ks.isEmpty && vs.isEmpty
  | [_], _, _, _ => false
  | e :: d :: es, c, ks, vs => (match ks, vs with
    | some k :: ks, v :: vs => chkE e c k && chkE d c v && chkD es c ks vs
    | _, _ => false)
def chkAs : List IA → CK → List Expr → Bool
  | [], _, xs => xs.isEmpty
  | .e e :: es, c, xs => (match xs with
    | x :: r => notStar x && chkE e c x && chkAs es c r
    | [] => false)
  | .l l cs :: es, c, xs => (match xs with
    | .Lambda a b s _ :: r => lamB T c l cs a b s && chkAs es c r
    | _ => false)
/-- what is taken up at once -/
def chkB : Bt → IT → CK → Str → Expr → Bool
  | b, .itv a, c, x, y => decide (b = .list) && bltB c x "list" && (match y with
    | .Call (.Attribute o nm ap) [] [] cp => (nm == ("items" : Str)) && notSuper o && (ap.endLine == cp.line) && chkE a c o
    | _ => false)
  | b, .vlv a, c, x, y => ((decide (b = .list) && bltB c x "list") || (decide (b = .sorted) && bltB c x "sorted")) && (match y with
    | .Call (.Attribute o nm ap) [] [] cp => (nm == ("values" : Str)) && notSuper o && (ap.endLine == cp.line) && chkE a c o
    | _ => false)
  | b, .rng a, c, x, y => decide (b = .list) && bltB c x "list" && (match y with
    | .Call (.Name n _) [z] [] _ => bltB c n "range" && notStar z && chkE a c z
    | _ => false)
  | b, .zpl a d, c, x, y => decide (b = .dict) && bltB c x "dict" && (match y with
    | .Call (.Name n _) [z, w] [] _ => bltB c n "zip" && notStar z && notStar w && chkE a c z && chkE d c w
    | _ => false)
  | _, _, _, _, _ => false
/-- what is walked -/
def chkI : IT → CK → Expr → Expr → Bool
  | .of a, c, _, e => chkE a c e
  | .enm a, c, te, e => (match e with
    | .Call (.Name x _) [y] [] _ => isTup te && bltB c x "enumerate" && notStar y && chkE a c y
    | _ => false)
  | .zip a b, c, te, e => (match e with
    | .Call (.Name x _) [y, z] [] _ => isTup te && bltB c x "zip" && notStar y && notStar z && chkE a c y && chkE b c z
    | _ => false)
  | .rng a, c, _, e => (match e with
    | .Call (.Name x _) [y] [] _ => bltB c x "range" && notStar y && chkE a c y
    | _ => false)
  | .rng2 a b, c, _, e => (match e with
    | .Call (.Name x _) [y, z] [] _ => bltB c x "range" && notStar y && notStar z && chkE a c y && chkE b c z
    | _ => false)
  | .itm a, c, te, e => (match e with
    | .Call (.Attribute o nm ap) [] [] cp => isTup te && (nm == ("items" : Str)) && notSuper o && (ap.endLine == cp.line) && chkE a c o
    | _ => false)
  | .vls a, c, _, e => (match e with
    | .Call (.Attribute o nm ap) [] [] cp => (nm == ("values" : Str)) && notSuper o && (ap.endLine == cp.line) && chkE a c o
    | _ => false)
  | _, _, _, _ => false
end
end
end DS
end
section
set_option Elab.async false
set_option linter.all false
set_option maxRecDepth 100000
/-! DsZ: what the checker says of expressions holds. -/
namespace DS
open PySem PySem.Spec PyProof.Rows L2 LamX
def Cst.v : Cst → V
  | .non => .non
  | .bl b => .bl b
  | .int i => .int i
  | .str s => .str s
theorem cst_rep (G : GC) (F : Hp) : ∀ k : Cst, Rep G F k.v k.d
  | .non => .non
  | .bl b => .bl b
  | .int i => .int i
  | .str s => .str s
theorem pe_cst {X : Cx} {j : Nat} {pos : Pos} : ∀ k : Cst, PE X (.Constant k.c j pos) (tC k.v)
  | .non => pe_non
  | .bl _ => pe_bl
  | .int _ => pe_int
  | .str _ => pe_str
structure Facts (T : Tab) (G : GC) (P : Program) (K : PySem.W.Frag) (mg : Str → Option Value) : Prop where
  fn : ∀ x i, T.fns.lookup x = some i → (G.P.fns i).isSome = true ∧ mg x = some (.ref (G.fa i))
  cst : ∀ x k, T.csts.lookup x = some k → ∃ u, mg x = some u ∧ RelV k.v u
  blt : ∀ x ∈ bltNames, mg x = none
  own : OwnCls G K
  gOwn : mg T.own = some (.ref (G.ca 0))
  flds : ∀ f ∈ T.flds, NoAttr K (G.ca 0) f
  mak : ∀ i, T.mak = some i → (G.P.fns i).isSome = true ∧ Mk K (G.ca 0) (G.fa i) ∧ G.P.inits 0 = some i
  kws : ∀ k ∈ T.kws, KwB K (G.fa k.1) k.2.1 k.2.2
  exc : ∀ e ∈ T.excs, (∃ fI, ExTxt P K mg e.1 e.2.2 (G.ca e.2.1) fI) ∧ G.P.excs e.2.1 = some [e.2.2] ∧ XfC K (G.ca e.2.1) ∧
    ∀ c, (G.P.excs c).isSome = true → PySem.W.exmOne K (.ref (G.ca c)) (.ref (G.ca e.2.1)) = some (decide (e.2.1 = c))
  lok : ∀ l t, T.lok l t = true → G.lt l t
  cps : ∀ l n, T.lnm l = some n → G.cps l = n.caps
/-- a place as the checker knows it -/
structure XOk (T : Tab) (G : GC) (Φ : Calls) (k : Nat) (c : CK) (X : Cx) (E : XK) : Prop where
  sc : X.env.scope = c.sc
  nm : X.N = c.N
  nd : X.N.Nodup
  calm : X.calm = true
  fn : ∀ x, c.fn x = true → X.fn x = true
  call : CanCall X E (L2.CX X.prog X.w) k G Φ
  lam : LamAll X.prog X.w X.K X.mg X.base k G Φ
  facts : Facts T G X.prog X.K X.mg
  cb : c.cb = true → (∀ pins σ H s, Inv X pins σ H s → CB X) ∧ X.env.qual = c.qual ∧ ∃ cc PP, TabB X.base X.mg cc PP ∧ X.env.code = .ref cc ∧ (PP, c.qual ++ "<lambda>") ∈ G.T ∧ ∀ p ∈ G.T, p.1 = PP → p.2 = c.qual ++ "<lambda>"
section
variable {T : Tab} {G : GC} {Φ : Calls} {k : Nat} {c : CK} {X : Cx} {E : XK}
theorem XOk.hu (O : XOk T G Φ k c X E) : X.A.units + 64 < cLine := O.call.room.units
theorem passE0 {CX : CXT} (h : CX = L2.CX X.prog X.w) : Passes CX X E0 := by
  subst h
  intro pins σ H s e s' I hq
  obtain ⟨_, _, _, _, _, _, _, _, _, _, _, _, z⟩ := hq
  exact z.elim
theorem XOk.blk (O : XOk T G Φ k c X E) (b : Bool) {scope : Scope} {s : Shared} {H : Hp} {C : Addr} {cl : List (Str × Addr)} {fp : List Addr} (hcb : b = true → c.cb = true → CB (X.blk s H scope (compEnvC scope cl C X.env) fp)) :
    XOk T G Φ k (c.blk scope b) (X.blk s H scope (compEnvC scope cl C X.env) fp) E0 := by
  refine ⟨?_, O.nm, O.nd, O.calm, fun x h => h, ⟨O.call.all, O.call.gd, O.call.room, passE0 rfl⟩, O.lam, O.facts, fun h => ?_⟩
  · show relS scope X.env.scope = relS scope c.sc
    rw [O.sc]
  · have h : (b && c.cb) = true := h
    rw [Bool.and_eq_true] at h
    obtain ⟨_, h2, h3⟩ := O.cb h.2
    exact ⟨fun _ _ _ _ _ => hcb h.1 h.2, h2, h3⟩
theorem XOk.tr (O : XOk T G Φ k c X E) {pn : List (Addr × Obj)} {xe : Value → Shared → Prop} {E' : XK} (hp : Passes (L2.CX X.prog X.w) (X.tr pn xe) E') (hcb : c.cb = true → ∀ pins σ H s, Inv (X.tr pn xe) pins σ H s → CB X) : XOk T G Φ k c (X.tr pn xe) E' :=
  ⟨O.sc, O.nm, O.nd, O.calm, O.fn, ⟨O.call.all, O.call.gd, O.call.room, hp⟩, O.lam, O.facts, fun h => ⟨hcb h, (O.cb h).2⟩⟩
/-! ### names -/
theorem dbg_ok {x : Str} (h : dbgB x = true) : (x == ("__debug__" : Str)) = false := by simpa [dbgB] using h
theorem gl_ok (O : XOk T G Φ k c X E) {x : Str} (h : glB c x = true) : Gl X x ∧ (x == ("__debug__" : Str)) = false := by
  unfold glB at h
  rw [Bool.and_eq_true] at h
  refine ⟨?_, dbg_ok h.2⟩
  show X.env.scope.names.lookup x = _
  rw [O.sc]; exact beq_iff_eq.mp h.1
theorem vis_ok (O : XOk T G Φ k c X E) {x : Str} (h : visB c x = true) : Vis X.env.scope x := by
  unfold visB at h
  unfold Vis
  rw [O.sc]
  split at h <;> rename_i e
  · exact .inl e
  · exact .inr (.inl e)
  · exact .inr (.inr e)
  · cases h
theorem var_ok (O : XOk T G Φ k c X E) {i : Nat} {x : Str} (h : varB c i x = true) : X.N[i]? = some x ∧ Vis X.env.scope x ∧ (x == ("__debug__" : Str)) = false ∧ (x == ("__classdict__" : Str)) = false := by
  unfold varB at h
  simp only [Bool.and_eq_true] at h
  exact ⟨by rw [O.nm]; exact beq_iff_eq.mp h.1.1.1, vis_ok O h.1.1.2, dbg_ok h.1.2, by simpa using h.2⟩
theorem nm_ok (O : XOk T G Φ k c X E) {i : Nat} {x : Str} (h : nmB c i x = true) : NmOk X x i := by
  unfold nmB at h
  rw [Bool.and_eq_true] at h
  obtain ⟨h1, h2⟩ := h
  refine ⟨by rw [O.nm]; exact beq_iff_eq.mp h1, ?_, ?_⟩ <;> (try unfold L2.Loc) <;> (rw [O.sc]; split at h2 <;> rename_i e)
  · exact .inl e
  · exact .inr e
  · cases h2
  · exact .inr e
  · exact .inl (O.fn _ h2)
  · cases h2
theorem nms_ok (O : XOk T G Φ k c X E) : ∀ {is : List Nat} {es : List Expr}, nmsB c is es = true → NmsOk X es is
  | [], [], _ => .nil
  | i :: is, .Name x p :: es, h => by
    rw [nmsB, Bool.and_eq_true] at h
    exact .cons (nm_ok O h.1) (nms_ok O h.2)
theorem tg_ok (O : XOk T G Φ k c X E) : ∀ {tg : Tg} {e : Expr}, tgB c tg e = true → TgOk X e tg
  | .nm i, .Name x p, h => .nm (nm_ok O h)
  | .tp is, .Tuple es _ _, h => .tp (nms_ok O h)
theorem own_slots (c : CK) : ∀ {is : List Nat} {es : List Expr}, nmsB c is es = true → (ownB is es).map (·.2) = is
  | [], [], _ => rfl
  | i :: is, .Name x p :: es, h => by
    rw [nmsB, Bool.and_eq_true] at h
    rw [ownB, List.map_cons, own_slots c h.2]
theorem ownT_slots (c : CK) : ∀ {tg : Tg} {e : Expr}, tgB c tg e = true → (ownT tg e).map (·.2) = tg.slots
  | .nm i, .Name x p, h => rfl
  | .tp is, .Tuple es _ _, h => own_slots c h
theorem blt_ok (O : XOk T G Φ k c X E) {x nm : Str} (h : bltB c x nm = true) : x = nm ∧ Gl X x ∧ X.mg x = none ∧ (x == ("__debug__" : Str)) = false := by
  unfold bltB at h
  simp only [Bool.and_eq_true] at h
  obtain rfl := beq_iff_eq.mp h.1.1
  obtain ⟨g, d⟩ := gl_ok O h.1.2
  exact ⟨rfl, g, O.facts.blt _ (of_decide_eq_true h.2), d⟩
theorem blt_name {x : Str} (h : x ∈ bltNames) : x ≠ "__name__" := by
  intro z
  subst z
  revert h
  decide +kernel
theorem bltB_mem {x nm : Str} (h : bltB c x nm = true) : nm ∈ bltNames := by
  unfold bltB at h
  simp only [Bool.and_eq_true] at h
  exact of_decide_eq_true h.2
/-! ### built-ins -/
theorem bi_ok (O : XOk T G Φ k c X E) (b : Bi) : (∃ id, bootBuiltins b.nm = some (.builtin id) ∧ CallD G X (.builtin id) (opBi b)) ∨ ∃ t, bootBuiltins b.nm = some (.type t) ∧ CallD G X (.type t) (opBi b) := by
  cases b with
  | len => exact .inl ⟨_, by decide +kernel, c_len⟩
  | int => exact .inr ⟨_, by decide +kernel, c_int⟩
  | abs => exact .inl ⟨_, by decide +kernel, c_abs⟩
  | min2 => exact .inl ⟨_, by decide +kernel, c_min2 O.calm⟩
  | max2 => exact .inl ⟨_, by decide +kernel, c_max2 O.calm⟩
  | min1 => exact .inl ⟨_, by decide +kernel, c_min1 O.calm⟩
  | max1 => exact .inl ⟨_, by decide +kernel, c_max1 O.calm⟩
  | sum => exact .inl ⟨_, by decide +kernel, c_sum O.calm⟩
  | all => exact .inl ⟨_, by decide +kernel, c_all O.calm⟩
  | any => exact .inl ⟨_, by decide +kernel, c_any O.calm⟩
  | sorted => exact .inl ⟨_, by decide +kernel, c_sorted⟩
  | list => exact .inr ⟨_, by decide +kernel, c_list O.calm⟩
  | tuple => exact .inr ⟨_, by decide +kernel, c_tuple⟩
  | dict => exact .inr ⟨_, by decide +kernel, c_dict O.calm⟩
  | repr => exact .inl ⟨_, by decide +kernel, c_repr O.call.gd O.hu⟩
theorem s_bi (O : XOk T G Φ k c X E) {b : Bi} {x : Str} {p pos : Pos} {e : Expr} {es : List Expr} {n : Nat} {t : WA} (h : bltB c x b.nm = true) (ha : PA X (e :: es) (rdA G E n t)) (hp : allPlain (e :: es) = true) :
    PE X (.Call (.Name x p) (e :: es) [] pos) (rdE G E fun ρ M Q Ex => t ρ M (fun ds M1 => opBi b ds M1 Q) Ex) := by
  obtain ⟨rfl, g, m, d⟩ := blt_ok O h
  have hn := blt_name (bltB_mem h)
  rcases bi_ok O b with ⟨id, hv, hc⟩ | ⟨id, hv, hc⟩
  · exact s_biB hc g m hv ha hn d hp
  · exact s_biT hc g m hv ha hn d hp
theorem ty_ok (O : XOk T G Φ k c X E) {t : Ty} {e : Expr} (h : tyB T c t e = true) : TyE G X e t := by
  cases e with
  | Name x p =>
    have h' : ((x == t.nm T) && glB c x && (match (generalizing := false) t with
      | .cls n => n == 0
      | _ => true)) = true := h
    rw [Bool.and_eq_true, Bool.and_eq_true] at h'
    obtain ⟨⟨h1, h2⟩, h3⟩ := h'
    obtain rfl := beq_iff_eq.mp h1
    obtain ⟨g, d⟩ := gl_ok O h2
    have bl : ∀ (nm : Str) (w : String), nm = t.nm T → nm ∈ bltNames → bootBuiltins nm = some (.type w) → PE X (.Name (t.nm T) p) (tC (.ty w)) := fun nm w e1 e2 e3 => by
      subst e1
      exact pe_bltn g (O.facts.blt _ e2) e3 rfl (blt_name e2) d
    cases t with
    | cls n =>
      refine .mk (v := .ref (G.ca 0)) (pe_glob g O.facts.gOwn rfl d) (.own _) rfl fun c z => ?_
      cases z
      have h3 : (n == 0) = true := h3
      exact beq_iff_eq.mp h3
    | int => exact .mk (bl "int" "int" rfl (by decide +kernel) (by decide +kernel)) (.ty _) rfl fun _ z => by cases z
    | bool => exact .mk (bl "bool" "bool" rfl (by decide +kernel) (by decide +kernel)) (.ty _) rfl fun _ z => by cases z
    | str => exact .mk (bl "str" "str" rfl (by decide +kernel) (by decide +kernel)) (.ty _) rfl fun _ z => by cases z
    | list => exact .mk (bl "list" "list" rfl (by decide +kernel) (by decide +kernel)) (.ty _) rfl fun _ z => by cases z
    | tuple => exact .mk (bl "tuple" "tuple" rfl (by decide +kernel) (by decide +kernel)) (.ty _) rfl fun _ z => by cases z
    | dict => exact .mk (bl "dict" "dict" rfl (by decide +kernel) (by decide +kernel)) (.ty _) rfl fun _ z => by cases z
  | _ => cases h
theorem tys_ok (O : XOk T G Φ k c X E) : ∀ {ts : List Ty} {es : List Expr}, tysB T c ts es = true → TysE G X es ts
  | [], [], _ => .nil
  | t :: ts, e :: es, h => by
    rw [tysB, Bool.and_eq_true] at h
    exact .cons (ty_ok O h.1) (tys_ok O h.2)
theorem tyArg_ok (O : XOk T G Φ k c X E) {ts : List Ty} {e : Expr} (h : tyArgB T c ts e = true) : (∃ t, ts = [t] ∧ TyE G X e t) ∨ ∃ es k p2, e = .Tuple es k p2 ∧ TysE G X es ts ∧ es.length ≤ lim := by
  unfold tyArgB at h
  split at h
  · rw [Bool.and_eq_true] at h
    exact .inr ⟨_, _, _, rfl, tys_ok O h.1, of_decide_eq_true h.2⟩
  · split at h
    · exact .inl ⟨_, rfl, ty_ok O h⟩
    · cases h
theorem folded_ok {iter : Expr} (h : notSet iter = true) (env : PySem.Env) (x : Value) : foldedSetIterable iter env x = pure x := by
  cases iter with
  | Set _ _ _ => cases h
  | _ => rfl
end
end DS
end
section
set_option Elab.async false
set_option linter.all false
set_option maxRecDepth 100000
set_option maxHeartbeats 4000000
/-! DsZ2: what the checker says of expressions holds. -/
namespace DS
open PySem PySem.Spec PyProof.Rows L2 LamX
section
variable {T : Tab} {G : GC} {Φ : Calls} {k : Nat}
theorem pts0 {X : Cx} : PTs X [] (rdT G E0 fun _ M Q _ => Q true M) := by
  refine ⟨fun pins s σ H Q I ⟨ρ, F, M, Qd, Ed, S, q, pq, px⟩ => pts_nil.run pins s σ H Q I ?_⟩
  exact pq true M H F q S.sr (Keep.refl H F M) (Sub.refl F)
theorem hcb_of {c : CK} {X : Cx} {E : XK} (O : XOk T G Φ k c X E) (b : Bool) {scope : Scope} (P : Cx → Prop) (h : ∀ (s : Shared) (H : Hp) (C : Addr) (cl : List (Str × Addr)) (fp : List Addr), XOk T G Φ k (c.blk scope b) (X.blk s H scope (compEnvC scope cl C X.env) fp) E0 → P (X.blk s H scope (compEnvC scope cl C X.env) fp))
    (hb : b = false) : CompE X scope P := fun s H C cl fp => h s H C cl fp (O.blk b fun z => by rw [hb] at z; cases z)
theorem hcb_no {c : CK} {X : Cx} {E : XK} (O : XOk T G Φ k c X E) (b : Bool) {scope : Scope} (P : Cx → Prop) (h : ∀ (s : Shared) (H : Hp) (C : Addr) (cl : List (Str × Addr)) (fp : List Addr), XOk T G Φ k (c.blk scope b) (X.blk s H scope (compEnvC scope cl C X.env) fp) E0 → P (X.blk s H scope (compEnvC scope cl C X.env) fp))
    (hb : c.cb = false) : CompE X scope P := fun s H C cl fp => h s H C cl fp (O.blk b fun _ z => by rw [hb] at z; cases z)
theorem hcb_yes {c : CK} {X : Cx} {E : XK} (O : XOk T G Φ k c X E) (b : Bool) {scope : Scope} (P : Cx → Prop) (h : ∀ (s : Shared) (H : Hp) (C : Addr) (cl : List (Str × Addr)) (fp : List Addr), XOk T G Φ k (c.blk scope b) (X.blk s H scope (compEnvC scope cl C X.env) fp) E0 → P (X.blk s H scope (compEnvC scope cl C X.env) fp)) :
    CompB X scope P := fun s H C cl fp hc => h s H C cl fp (O.blk b fun _ _ => hc)
theorem isTup_ok {e : Expr} (h : isTup e = true) : ∃ es kk p, e = .Tuple es kk p := by
  cases e with
  | Tuple es kk p => exact ⟨es, kk, p, rfl⟩
  | _ => cases h
theorem notSuper_ok {e : Expr} (h : notSuper e = true) : notSuper e = true := h
theorem pw_of_pt_and {X : Cx} {E : XK} {e : Expr} {t : WT} {pos : Pos} (h : PT X e (rdT G E t)) : PW X (.BoolOp .And [e] pos) (rdT G E t) := t_and1 h
theorem lineB {a b : Nat} (h : (a == b) = true) : (a == b) = true := h
/-- lambdas among arguments -/
theorem lam_ok {c : CK} {X : Cx} {E : XK} (O : XOk T G Φ k c X E) {l : Nat} {cs : List Nat} {a : Arguments} {b : Expr} {s : Scope} (h : lamB T c l cs a b s = true) :
    ∃ t : LamTxt, t.params = a ∧ t.body = b ∧ t.scope = s ∧ LamHere G X l t cs := by
  unfold lamB at h
  split at h
  · cases h
  · rename_i n hn
    simp only [Bool.and_eq_true] at h
    obtain ⟨⟨⟨⟨⟨⟨h1, h2⟩, h3⟩, h4⟩, h5⟩, h6⟩, h7⟩ := h
    obtain ⟨_, q1, cc, PP, q2, q3, q4, q5⟩ := O.cb h1
    refine ⟨⟨c.qual ++ "<lambda>", a, b, s, n.caps, n.ps, n.N⟩, rfl, rfl, rfl, ⟨⟨O.facts.lok _ _ h2, (O.facts.cps _ _ hn).symm⟩, by show c.qual ++ _ = _; rw [q1], ⟨cc, PP, q2, q3, q4, q5⟩, ?_, ?_, ?_, ?_, ?_⟩⟩
    · show defaultsOf a X.env = _
      obtain ⟨_, _, _, _, kd, _, df⟩ := a
      unfold dflB at h3
      split at h3
      · rename_i e1 e2
        have e1 : kd = [] := e1
        have e2 : df = [] := e2
        subst e1 e2
        rfl
      · cases h3
    · rw [O.nm]; exact of_decide_eq_true h4
    · intro y hy
      rw [O.sc]
      exact beq_iff_eq.mp (List.all_eq_true.mp h5 y hy)
    · intro y hy e
      have z := List.all_eq_true.mp h6 y hy
      rw [e] at z
      simpa using z
    · intro y hy
      exact of_decide_eq_true (List.all_eq_true.mp h7 y hy)
theorem kws_ok {T : Tab} {f : Nat} {ps : List Nat} {kws : List Keyword} (h : kwsOk T f ps kws = true) : ∃ q ∈ T.kws, q.1 = f ∧ q.2.2 = ps ∧ kws.map (·.arg) = q.2.1.map some := by
  unfold kwsOk at h
  obtain ⟨q, hq, h⟩ := List.any_eq_true.mp h
  simp only [Bool.and_eq_true] at h
  exact ⟨q, hq, beq_iff_eq.mp h.1.1, of_decide_eq_true h.1.2, of_decide_eq_true h.2⟩
theorem kw_names (env : PySem.Env) : ∀ kws : List Keyword, (keywordEach kws env).map (·.1) = kws.map (·.arg)
  | [] => rfl
  | ⟨n, v, p⟩ :: r => by
    unfold keywordEach
    rw [List.map_cons, List.map_cons, kw_names env r]
theorem kw_back (pos : Pos) (ts : List (Option Str × Sem Value)) : (backToKw pos ts).map (·.1) = ts.map (·.1) := by
  unfold backToKw
  rw [List.map_map]; rfl
theorem some_all {α : Type} {xs : List (Option α)} {ys : List α} (h : xs = ys.map some) : xs.all (·.isSome) = true ∧ xs.filterMap id = ys ∧ xs.any (·.isNone) = false := by
  subst h
  refine ⟨by simp, by simp, by simp⟩
mutual
theorem soundE : ∀ (ie : IE) {c : CK} {X : Cx} {E : XK} {e : Expr}, XOk T G Φ k c X E → chkE T ie c e = true → PE X e (rdE G E (wpE G.P Φ ie))
  | .var i, c, X, E, e, O, h => by
    unfold chkE at h
    split at h
    · obtain ⟨h1, h2, h3, h4⟩ := var_ok O h
      exact s_var h1 h2 h3 h4
    · cases h
  | .cst q, c, X, E, e, O, h => by
    unfold chkE at h
    split at h
    · obtain rfl := of_decide_eq_true h
      exact s_cst (pe_cst q) (fun F => cst_rep G F q)
    · cases h
  | .glb q, c, X, E, e, O, h => by
    unfold chkE at h
    split at h
    · rw [Bool.and_eq_true] at h
      obtain ⟨g, d⟩ := gl_ok O h.1
      obtain ⟨u, m, r⟩ := O.facts.cst _ _ (beq_iff_eq.mp h.2)
      exact s_cst (pe_glob g m r d) (fun F => cst_rep G F q)
    · cases h
  | .fnv i, c, X, E, e, O, h => by
    unfold chkE at h
    split at h
    · rw [Bool.and_eq_true] at h
      obtain ⟨g, d⟩ := gl_ok O h.1
      obtain ⟨h1, m⟩ := O.facts.fn _ _ (beq_iff_eq.mp h.2)
      exact s_cst (v := .ref (G.fa i)) (pe_glob g m rfl d) (fun F => .fn i h1)
    · cases h
  | .bin op a b, c, X, E, e, O, h => by
    unfold chkE at h
    split at h
    · simp only [Bool.and_eq_true] at h
      obtain rfl := of_decide_eq_true h.1.1
      exact s_bin _ (soundE a O h.1.2) (soundE b O h.2)
    · cases h
  | .neg a, c, X, E, e, O, h => by
    unfold chkE at h
    split at h
    · exact s_neg (soundE a O h)
    · cases h
  | .not a, c, X, E, e, O, h => by
    unfold chkE at h
    split at h
    · exact s_not (soundE a O h)
    · cases h
  | .cmp op a b, c, X, E, e, O, h => by
    unfold chkE at h
    split at h
    · simp only [Bool.and_eq_true, Bool.not_eq_true'] at h
      obtain ⟨⟨⟨h1, h2⟩, h3⟩, h4⟩ := h
      obtain rfl := of_decide_eq_true h1
      exact s_cmp O.hu _ h2 (soundE a O h3) (soundE b O h4)
    · cases h
  | .chn op op' a b d, c, X, E, e, O, h => by
    unfold chkE at h
    split at h
    · simp only [Bool.and_eq_true, Bool.not_eq_true'] at h
      obtain ⟨⟨⟨⟨⟨h1, h2⟩, h3⟩, h4⟩, h5⟩, h6⟩ := h
      obtain rfl := of_decide_eq_true h1
      obtain rfl := of_decide_eq_true h2
      exact s_chn O.hu _ _ h3 (soundE a O h4) (soundE b O h5) (soundE d O h6)
    · cases h
  | .and a b, c, X, E, e, O, h => by
    unfold chkE at h
    split at h
    · rw [Bool.and_eq_true] at h
      exact s_and (soundE a O h.1) (s_one (soundE b O h.2))
    · rw [Bool.and_eq_true] at h
      exact s_and (soundE a O h.1) (soundE b O h.2)
    · cases h
  | .or a b, c, X, E, e, O, h => by
    unfold chkE at h
    split at h
    · rw [Bool.and_eq_true] at h
      exact s_or (soundE a O h.1) (s_one (soundE b O h.2))
    · rw [Bool.and_eq_true] at h
      exact s_or (soundE a O h.1) (soundE b O h.2)
    · cases h
  | .ite t a b, c, X, E, e, O, h => by
    unfold chkE at h
    split at h
    · simp only [Bool.and_eq_true] at h
      exact s_ite (soundT t O h.1.1).2 (soundE a O h.1.2) (soundE b O h.2)
    · cases h
  | .tup es, c, X, E, e, O, h => by
    unfold chkE at h
    split at h
    · rw [Bool.and_eq_true] at h
      exact s_tup (soundEs es O h.1).1 (of_decide_eq_true h.2)
    · cases h
  | .lst mu es, c, X, E, e, O, h => by
    unfold chkE at h
    split at h
    · rw [Bool.and_eq_true] at h
      exact s_lst (soundEs es O h.1).1 (of_decide_eq_true h.2)
    · cases h
  | .dic mu tk es, c, X, E, e, O, h => by
    unfold chkE at h
    split at h
    · split at h
      · rw [Bool.and_eq_true] at h
        obtain rfl := List.isEmpty_iff.mp h.1
        obtain rfl := List.isEmpty_iff.mp h.2
        cases tk
        · exact s_dic0
        · exact s_dic0T
      · rename_i hne
        simp only [Bool.and_eq_true, Bool.not_eq_true'] at h
        obtain ⟨⟨rfl, h2⟩, h3⟩ := h
        obtain ⟨q1, q2, q3⟩ := soundD es O h2
        exact s_dic (q1 _) q2 q3 (fun z => hne z) (of_decide_eq_true h3)
    · cases h
  | .idx a b, c, X, E, e, O, h => by
    unfold chkE at h
    split at h
    · simp only [Bool.and_eq_true] at h
      exact s_idx O.hu h.1.1 (soundE a O h.1.2) (soundE b O h.2)
    · cases h
  | .slc bl bh a lo hi, c, X, E, e, O, h => by
    unfold chkE at h
    split at h
    · rename_i x l h' p2 p
      rw [Bool.and_eq_true, Bool.and_eq_true] at h
      obtain ⟨⟨h1, h2⟩, h3⟩ := h
      have hl : PB G X E l (fun ρ M Q Ex => wpE G.P Φ lo ρ M (fun d M1 => (bl = true → d ≠ .non) ∧ Q d M1) Ex) := by
        split at h2
        · exact b_so (soundE lo O h2)
        · split at h2
          · exact b_no
          · cases h2
        · cases h2
      have hh : PB G X E h' (fun ρ M Q Ex => wpE G.P Φ hi ρ M (fun d M1 => (bh = true → d ≠ .non) ∧ Q d M1) Ex) := by
        split at h3
        · exact b_so (soundE hi O h3)
        · split at h3
          · exact b_no
          · cases h3
        · cases h3
      exact s_slc (soundE a O h1) hl hh
    · cases h
  | .rev a, c, X, E, e, O, h => by
    unfold chkE at h
    cases h
  | .att a f, c, X, E, e, O, h => by
    unfold chkE at h
    split at h
    · simp only [Bool.and_eq_true] at h
      obtain ⟨⟨⟨h1, h2⟩, h3⟩, h4⟩ := h
      obtain rfl := of_decide_eq_true h1
      exact s_att h2 O.facts.own.cl (O.facts.flds _ (of_decide_eq_true h3)) (soundE a O h4)
    · cases h
  | .cal f es, c, X, E, e, O, h => by
    unfold chkE at h
    split at h
    · rename_i x p args pos
      simp only [Bool.and_eq_true] at h
      obtain ⟨⟨h1, h2⟩, h3⟩ := h
      obtain ⟨g, d⟩ := gl_ok O h1
      obtain ⟨q1, q2⟩ := O.facts.fn _ _ (beq_iff_eq.mp h2)
      have ih := soundEs es O h3
      cases args with
      | nil =>
        cases es with
        | nil => exact s_cal0 O.call q1 g q2 d
        | cons _ _ => cases h3
      | cons a r => exact s_cal O.call q1 g q2 d ih.1 ih.2
    · cases h
  | .cak f ps es, c, X, E, e, O, h => by
    unfold chkE at h
    split at h
    · rename_i x p kws pos
      simp only [Bool.and_eq_true] at h
      obtain ⟨⟨⟨h1, h2⟩, h3⟩, h4⟩ := h
      obtain ⟨g, d⟩ := gl_ok O h1
      obtain ⟨q1, q2⟩ := O.facts.fn _ _ (beq_iff_eq.mp h2)
      obtain ⟨q, hq, rfl, rfl, hn⟩ := kws_ok h3
      have hk := soundK es O h4
      have nm : (backToKw pos (keywordEach kws X.env)).map (·.1) = q.2.1.map some := (kw_back _ _).trans ((kw_names X.env kws).trans hn)
      obtain ⟨z1, z2, z3⟩ := some_all nm
      refine s_cak O.call q1 g q2 d (O.facts.kws q hq) ?_ hk ?_ ?_ ?_
      · have := congrArg List.length hn
        simpa using this
      · rw [List.all_map] at z1; exact z1
      · rw [List.filterMap_map] at z2; exact z2
      · rw [List.any_map] at z3
        rw [Bool.or_eq_false_iff]
        exact ⟨rfl, z3⟩
    · cases h
  | .mak n es, c, X, E, e, O, h => by
    unfold chkE at h
    split at h
    · rename_i x p args pos
      simp only [Bool.and_eq_true] at h
      obtain ⟨⟨⟨⟨⟨h1, h2⟩, h3⟩, h4⟩, h5⟩, h6⟩ := h
      obtain rfl := beq_iff_eq.mp h1
      obtain rfl := beq_iff_eq.mp h2
      obtain ⟨g, d⟩ := gl_ok O h3
      obtain ⟨i, hi⟩ := Option.isSome_iff_exists.mp h4
      obtain ⟨q1, q2, q3⟩ := O.facts.mak i hi
      have ih := soundEs es O h6
      cases args with
      | nil => cases h5
      | cons a r => exact s_mak O.call q1 q2 g O.facts.gOwn q3 d ih.1 ih.2
    · cases h
  | .cav i es, c, X, E, e, O, h => by
    unfold chkE at h
    split at h
    · rename_i x p args pos
      simp only [Bool.and_eq_true] at h
      obtain ⟨h1, h2⟩ := h
      obtain ⟨a1, a2, a3, a4⟩ := var_ok O h1
      have ih := soundEs es O h2
      cases args with
      | nil =>
        cases es with
        | nil => exact s_cav0 O.call O.lam a1 a2 a3 a4
        | cons _ _ => cases h2
      | cons a r => exact s_cav O.call O.lam a1 a2 a3 a4 ih.1 ih.2
    · cases h
  | .calL f as, c, X, E, e, O, h => by
    unfold chkE at h
    split at h
    · rename_i x p args pos
      simp only [Bool.and_eq_true] at h
      obtain ⟨⟨⟨⟨h1, h2⟩, h3⟩, h4⟩, h5⟩ := h
      obtain ⟨g, d⟩ := gl_ok O h2
      obtain ⟨q1, q2⟩ := O.facts.fn _ _ (beq_iff_eq.mp h3)
      have ih := soundAs as O h5
      cases args with
      | nil => cases h4
      | cons a r => exact s_calL O.call (O.cb h1).1 q1 g q2 d ih.1 ih.2
    · cases h
  | .bi b es, c, X, E, e, O, h => by
    unfold chkE at h
    split at h
    · rename_i x p args pos
      simp only [Bool.and_eq_true] at h
      obtain ⟨⟨h1, h2⟩, h3⟩ := h
      have ih := soundEs es O h3
      cases args with
      | nil => cases h2
      | cons a r => exact s_bi O h1 ih.1 ih.2
    · cases h
  | .bt b mu it, c, X, E, e, O, h => by
    unfold chkE at h
    split at h
    · exact soundB b mu it O h
    · cases h
  | .isi a ts, c, X, E, e, O, h => by
    unfold chkE at h
    split at h
    · simp only [Bool.and_eq_true] at h
      obtain ⟨⟨⟨h1, h2⟩, h3⟩, h4⟩ := h
      obtain ⟨rfl, g, m, d⟩ := blt_ok O h1
      exact s_isi O.facts.own g m h2 (soundE a O h3) (tyArg_ok O h4)
    · cases h
  | .me m a es, c, X, E, e, O, h => by
    unfold chkE at h
    split at h
    · rename_i o nm ap args cp
      simp only [Bool.and_eq_true] at h
      obtain ⟨⟨⟨⟨⟨⟨h1, h2⟩, h3⟩, h4⟩, h5⟩, h6⟩, h7⟩ := h
      have ih := soundEs es O h7
      have io := soundE a O h6
      cases args with
      | nil => cases h4
      | cons z r =>
        cases m with
        | index =>
          obtain rfl : "index" = nm := Option.some.inj (beq_iff_eq.mp h1)
          exact s_mlist (od := opMe .index) ⟨h2, h3⟩ PySem.F.slot_list_index PySem.F.type_list_index m_index io ih.1 ih.2 (of_decide_eq_true h5)
        | count =>
          obtain rfl : "count" = nm := Option.some.inj (beq_iff_eq.mp h1)
          exact s_mlist (od := opMe .count) ⟨h2, h3⟩ PySem.F.slot_list_count PySem.F.type_list_count m_count io ih.1 ih.2 (of_decide_eq_true h5)
        | get1 => cases h1
        | get2 => cases h1
    · cases h
  | .mu m a es, c, X, E, e, O, h => by
    unfold chkE at h
    split at h
    · rename_i o nm ap args cp
      simp only [Bool.and_eq_true] at h
      obtain ⟨⟨⟨⟨⟨h1, h2⟩, h3⟩, h4⟩, h5⟩, h6⟩ := h
      have ih := soundEs es O h6
      have io := soundE a O h5
      cases m with
      | append =>
        obtain rfl : "append" = nm := beq_iff_eq.mp h1
        have hl : 1 = args.length := beq_iff_eq.mp h2
        cases args with
        | nil => cases hl
        | cons z r => exact s_mlist (od := opMu .append) ⟨h3, h4⟩ PySem.F.slot_list_append PySem.F.type_list_append m_append io ih.1 ih.2 (by rw [← hl]; decide)
      | pop1 =>
        obtain rfl : "pop" = nm := beq_iff_eq.mp h1
        have hl : 1 = args.length := beq_iff_eq.mp h2
        cases args with
        | nil => cases hl
        | cons z r => exact s_mlist (od := opMu .pop1) ⟨h3, h4⟩ PySem.F.slot_list_pop PySem.F.type_list_pop m_pop1 io ih.1 ih.2 (by rw [← hl]; decide)
      | extend =>
        obtain rfl : "extend" = nm := beq_iff_eq.mp h1
        have hl : 1 = args.length := beq_iff_eq.mp h2
        cases args with
        | nil => cases hl
        | cons z r => exact s_mlist (od := opMu .extend) ⟨h3, h4⟩ PySem.F.slot_list_extend PySem.F.type_list_extend m_extend io ih.1 ih.2 (by rw [← hl]; decide)
      | pop0 =>
        obtain rfl : "pop" = nm := beq_iff_eq.mp h1
        have hl : 0 = args.length := beq_iff_eq.mp h2
        cases args with
        | cons z r => cases hl
        | nil =>
          cases es with
          | nil => exact s_mlist0 (od := opMu .pop0) ⟨h3, h4⟩ PySem.F.slot_list_pop PySem.F.type_list_pop m_pop0 io
          | cons _ _ => cases h6
      | clear =>
        obtain rfl : "clear" = nm := beq_iff_eq.mp h1
        have hl : 0 = args.length := beq_iff_eq.mp h2
        cases args with
        | cons z r => cases hl
        | nil =>
          cases es with
          | nil => exact s_mlist0 (od := opMu .clear) ⟨h3, h4⟩ PySem.F.slot_list_clear PySem.F.type_list_clear m_clear io
          | cons _ _ => cases h6
    · cases h
  | .meth m a es, c, X, E, e, O, h => by
    unfold chkE at h
    cases h
  | .cmpr mu e1 tg it t, c, X, E, e, O, h => by
    unfold chkE at h
    split at h
    · rename_i elt te iter ifs scope pos
      simp only [Bool.and_eq_true] at h
      obtain ⟨⟨⟨⟨⟨h1, h2⟩, h3⟩, h4⟩, h5⟩, h6⟩ := h
      have hi := soundI it O h2
      have go : ∀ Y, XOk T G Φ k (c.blk scope true) Y E0 → PTs Y ifs (rdT G E0 (wpT G.P Φ t)) := fun Y OY => by
        split at h5
        · cases t with
          | yes => exact pts0
          | _ => cases h5
        · exact pts_one (soundT t OY h5).2
        · cases h5
      cases hcb : c.cb with
      | true =>
        exact s_lq (O.cb hcb).1 O.calm O.nd hi (by rw [O.nm, O.sc]; exact blkOk_by h3) (ownT_slots _ h4) (hcb_yes O true _ fun s H C cl fp OY => s_tg OY.calm OY.nd (tg_ok OY h4)) (hcb_yes O true _ fun s H C cl fp OY => go _ OY)
          (hcb_yes O true _ fun s H C cl fp OY => soundE e1 OY h6) (folded_ok h1 _)
      | false =>
        exact s_lc O.calm O.nd hi (by rw [O.nm, O.sc]; exact blkOk_by h3) (ownT_slots _ h4) (hcb_no O true _ (fun s H C cl fp OY => s_tg OY.calm OY.nd (tg_ok OY h4)) hcb) (hcb_no O true _ (fun s H C cl fp OY => go _ OY) hcb)
          (hcb_no O true _ (fun s H C cl fp OY => soundE e1 OY h6) hcb) (folded_ok h1 _)
    · cases h
  | .cmp2 mu e1 tg it t tg2 it2 t2, c, X, E, e, O, h => by
    unfold chkE at h
    split at h
    · rename_i elt te iter ifs te2 iter2 ifs2 scope pos
      simp only [Bool.and_eq_true] at h
      obtain ⟨⟨⟨⟨⟨⟨⟨⟨⟨h1, h2⟩, h3⟩, h4⟩, h5⟩, h6⟩, h7⟩, h8⟩, h9⟩, h10⟩ := h
      have hi := soundI it O h3
      have go : ∀ Y, XOk T G Φ k (c.blk scope false) Y E0 → PTs Y ifs (rdT G E0 (wpT G.P Φ t)) := fun Y OY => by
        split at h6
        · cases t with
          | yes => exact pts0
          | _ => cases h6
        · exact pts_one (soundT t OY h6).2
        · cases h6
      have go2 : ∀ Y, XOk T G Φ k (c.blk scope false) Y E0 → PTs Y ifs2 (rdT G E0 (wpT G.P Φ t2)) := fun Y OY => by
        split at h9
        · cases t2 with
          | yes => exact pts0
          | _ => cases h9
        · exact pts_one (soundT t2 OY h9).2
        · cases h9
      exact s_lc2 O.calm O.nd hi (by rw [O.nm, O.sc]; exact blkOk_by h4) (by rw [List.map_append, ownT_slots _ h5, ownT_slots _ h8]) (hcb_of O false _ (fun s H C cl fp OY => s_tg OY.calm OY.nd (tg_ok OY h5)) rfl) (hcb_of O false _ (fun s H C cl fp OY => go _ OY) rfl)
        (hcb_of O false _ (fun s H C cl fp OY => soundI it2 OY h7) rfl) (hcb_of O false _ (fun s H C cl fp OY => s_tg OY.calm OY.nd (tg_ok OY h8)) rfl) (hcb_of O false _ (fun s H C cl fp OY => go2 _ OY) rfl)
        (hcb_of O false _ (fun s H C cl fp OY => soundE e1 OY h10) rfl) (folded_ok h1 _) (fun _ => folded_ok h2 _)
    · cases h
  | .dcm mu tk q v tg it t, c, X, E, e, O, h => by
    unfold chkE at h
    split at h
    · rename_i kx vx te iter ifs scope pos
      simp only [Bool.and_eq_true, Bool.not_eq_true'] at h
      obtain ⟨⟨⟨⟨⟨⟨⟨rfl, h1⟩, h2⟩, h3⟩, h4⟩, h5⟩, h6⟩, h7⟩ := h
      have hi := soundI it O h2
      have go : ∀ Y, XOk T G Φ k (c.blk scope false) Y E0 → PTs Y ifs (rdT G E0 (wpT G.P Φ t)) := fun Y OY => by
        split at h5
        · cases t with
          | yes => exact pts0
          | _ => cases h5
        · exact pts_one (soundT t OY h5).2
        · cases h5
      exact s_dc O.calm O.nd hi (by rw [O.nm, O.sc]; exact blkOk_by h3) (ownT_slots _ h4) (hcb_of O false _ (fun s H C cl fp OY => s_tg OY.calm OY.nd (tg_ok OY h4)) rfl) (hcb_of O false _ (fun s H C cl fp OY => go _ OY) rfl)
        (hcb_of O false _ (fun s H C cl fp OY => soundE q OY h6) rfl) (hcb_of O false _ (fun s H C cl fp OY => soundE v OY h7) rfl) (folded_ok h1 _)
    · cases h
  | .mut a, c, X, E, e, O, h => by
    unfold chkE at h
    cases a with
    | bi b es =>
      simp only at h
      split at h
      · rename_i x p args pos
        simp only [Bool.and_eq_true, Bool.or_eq_true] at h
        obtain ⟨⟨⟨h0, h1⟩, h2⟩, h3⟩ := h
        have ih := soundEs es O h3
        obtain ⟨rfl, g, m, d⟩ := blt_ok O h1
        have hn := blt_name (bltB_mem h1)
        cases args with
        | nil => cases h2
        | cons z r =>
          rcases h0 with (h0 | h0) | h0
          · obtain rfl := of_decide_eq_true h0
            exact s_biT (od := muO (opBi .list)) (c_listM O.calm) g m (by decide +kernel) ih.1 hn d ih.2
          · obtain rfl := of_decide_eq_true h0
            exact s_biT (od := muO (opBi .dict)) (c_dictM O.calm) g m (by decide +kernel) ih.1 hn d ih.2
          · obtain rfl := of_decide_eq_true h0
            exact s_biB (od := muO (opBi .sorted)) c_sortedM g m (by decide +kernel) ih.1 hn d ih.2
      · cases h
    | _ => cases h
  | .frz a, c, X, E, e, O, h => by
    unfold chkE at h
    exact s_frz (soundE a O h)
theorem soundT : ∀ (t : IB) {c : CK} {X : Cx} {E : XK} {e : Expr}, XOk T G Φ k c X E → chkT T t c e = true → ((∀ op vs p, e = .BoolOp op vs p → PW X e (rdT G E (wpT G.P Φ t))) ∧ PT X e (rdT G E (wpT G.P Φ t)))
  | .and a b, c, X, E, e, O, h => by
    unfold chkT at h
    split at h
    · rw [Bool.and_eq_true] at h
      have w := t_and (pos := by assumption) (soundT a O h.1).2 (t_and1 (soundT b O h.2).2)
      exact ⟨fun _ _ _ _ => w, w.pt⟩
    · rw [Bool.and_eq_true] at h
      have w := t_and (soundT a O h.1).2 ((soundT b O h.2).1 _ _ _ rfl)
      exact ⟨fun _ _ _ _ => w, w.pt⟩
    · cases h
  | .or a b, c, X, E, e, O, h => by
    unfold chkT at h
    split at h
    · rw [Bool.and_eq_true] at h
      have w := t_or (pos := by assumption) (soundT a O h.1).2 (t_or1 (soundT b O h.2).2)
      exact ⟨fun _ _ _ _ => w, w.pt⟩
    · rw [Bool.and_eq_true] at h
      have w := t_or (soundT a O h.1).2 ((soundT b O h.2).1 _ _ _ rfl)
      exact ⟨fun _ _ _ _ => w, w.pt⟩
    · cases h
  | .not a, c, X, E, e, O, h => by
    unfold chkT at h
    split at h
    · exact ⟨fun _ _ _ z => (by cases z), t_not (soundT a O h).2⟩
    · cases h
  | .val a, c, X, E, e, O, h => by
    unfold chkT at h
    rw [Bool.and_eq_true, Bool.or_eq_true] at h
    obtain ⟨h1, h2⟩ := h
    rcases h2 with h2 | h2
    · exact ⟨fun _ _ _ z => (by subst z; cases h2), t_val (soundE a O h1) h2⟩
    · cases a with
      | cmp op a b =>
        unfold chkE at h1
        split at h1
        · simp only [Bool.and_eq_true, Bool.not_eq_true'] at h1
          obtain ⟨⟨⟨e1, e2⟩, e3⟩, e4⟩ := h1
          obtain rfl := of_decide_eq_true e1
          exact ⟨fun _ _ _ z => (by cases z), t_cmp O.hu _ e2 (soundE a O e3) (soundE b O e4)⟩
        · cases h1
      | chn op op' a b d =>
        unfold chkE at h1
        split at h1
        · simp only [Bool.and_eq_true, Bool.not_eq_true'] at h1
          obtain ⟨⟨⟨⟨⟨e1, e2⟩, e3⟩, e4⟩, e5⟩, e6⟩ := h1
          obtain rfl := of_decide_eq_true e1
          obtain rfl := of_decide_eq_true e2
          exact ⟨fun _ _ _ z => (by cases z), t_chn O.hu _ _ e3 (soundE a O e4) (soundE b O e5) (soundE d O e6)⟩
        · cases h1
      | _ => cases h2
  | .yes, c, X, E, e, O, h => by
    unfold chkT at h
    cases h
theorem soundEs : ∀ (es : List IE) {c : CK} {X : Cx} {E : XK} {xs : List Expr}, XOk T G Φ k c X E → chkEs T es c xs = true → PA X xs (rdA G E xs.length (wpEs G.P Φ es)) ∧ allPlain xs = true
  | [], c, X, E, xs, O, h => by
    unfold chkEs at h
    obtain rfl := List.isEmpty_iff.mp h
    exact ⟨s_nil, rfl⟩
  | e :: es, c, X, E, xs, O, h => by
    unfold chkEs at h
    split at h
    · simp only [Bool.and_eq_true] at h
      obtain ⟨⟨h1, h2⟩, h3⟩ := h
      have ih := soundEs es O h3
      exact ⟨s_cons h1 (soundE e O h2) ih.1, by unfold allPlain; rw [h1, ih.2]; rfl⟩
    · cases h
theorem soundK : ∀ (es : List IE) {c : CK} {X : Cx} {E : XK} {xs : List Keyword}, XOk T G Φ k c X E → chkK T es c xs = true → PKD G X E xs xs.length (wpEs G.P Φ es)
  | [], c, X, E, xs, O, h => by
    unfold chkK at h
    obtain rfl := List.isEmpty_iff.mp h
    exact pkd_nil
  | e :: es, c, X, E, xs, O, h => by
    unfold chkK at h
    split at h
    · rename_i x r
      rw [Bool.and_eq_true] at h
      obtain ⟨nm, v, p⟩ := x
      exact pkd_cons (soundE e O h.1) (soundK es O h.2)
    · cases h
theorem soundD : ∀ (es : List IE) {c : CK} {X : Cx} {E : XK} {ks : List (Option Expr)} {vs : List Expr}, XOk T G Φ k c X E → chkD T es c ks vs = true → (∀ pos, PD G X E pos ks vs (wpEs G.P Φ es)) ∧ ks.all (·.isSome) = true ∧ ks.length = vs.length
  | [], c, X, E, ks, vs, O, h => by
    unfold chkD at h
    rw [Bool.and_eq_true] at h
    obtain rfl := List.isEmpty_iff.mp h.1
    obtain rfl := List.isEmpty_iff.mp h.2
    exact ⟨fun _ => pd_nil, rfl, rfl⟩
  | [_], c, X, E, ks, vs, O, h => by
    unfold chkD at h
    cases h
  | e :: d :: es, c, X, E, ks, vs, O, h => by
    unfold chkD at h
    split at h
    · simp only [Bool.and_eq_true] at h
      obtain ⟨⟨h1, h2⟩, h3⟩ := h
      obtain ⟨q1, q2, q3⟩ := soundD es O h3
      exact ⟨fun pos => pd_cons (soundE e O h1) (soundE d O h2) (q1 pos), by rw [List.all_cons, q2]; rfl, by rw [List.length_cons, List.length_cons, q3]⟩
    · cases h
theorem soundAs : ∀ (es : List IA) {c : CK} {X : Cx} {E : XK} {xs : List Expr}, XOk T G Φ k c X E → chkAs T es c xs = true → PAS G X E xs (wpAs G.P Φ es) ∧ allPlain xs = true
  | [], c, X, E, xs, O, h => by
    unfold chkAs at h
    obtain rfl := List.isEmpty_iff.mp h
    exact ⟨pas_nil, rfl⟩
  | .e e :: es, c, X, E, xs, O, h => by
    unfold chkAs at h
    split at h
    · simp only [Bool.and_eq_true] at h
      obtain ⟨⟨h1, h2⟩, h3⟩ := h
      have ih := soundAs es O h3
      exact ⟨pas_e h1 (soundE e O h2) ih.1, by unfold allPlain; rw [h1, ih.2]; rfl⟩
    · cases h
  | .l l cs :: es, c, X, E, xs, O, h => by
    unfold chkAs at h
    split at h
    · simp only [Bool.and_eq_true] at h
      obtain ⟨h1, h2⟩ := h
      have ih := soundAs es O h2
      obtain ⟨t, rfl, rfl, rfl, L⟩ := lam_ok O h1
      exact ⟨pas_l L ih.1, by unfold allPlain; rw [ih.2]; rfl⟩
    · cases h
theorem soundB : ∀ (b : Bt) (mu : Bool) (it : IT) {c : CK} {X : Cx} {E : XK} {x : Str} {p pos : Pos} {y : Expr}, XOk T G Φ k c X E → chkB T b it c x y = true → PE X (.Call (.Name x p) [y] [] pos) (rdE G E (wpE G.P Φ (.bt b mu it)))
  | b, mu, .itv a, c, X, E, x, p, pos, y, O, h => by
    unfold chkB at h
    simp only [Bool.and_eq_true] at h
    obtain ⟨⟨h1, h2⟩, h3⟩ := h
    obtain rfl := of_decide_eq_true h1
    obtain ⟨rfl, g, m, d⟩ := blt_ok O h2
    split at h3
    · simp only [Bool.and_eq_true] at h3
      obtain ⟨⟨⟨e1, e2⟩, e3⟩, e4⟩ := h3
      obtain rfl := beq_iff_eq.mp e1
      exact s_listItm O.calm g m e2 e3 (soundE a O e4)
    · cases h3
  | b, mu, .vlv a, c, X, E, x, p, pos, y, O, h => by
    unfold chkB at h
    rw [Bool.and_eq_true, Bool.or_eq_true, Bool.and_eq_true, Bool.and_eq_true] at h
    obtain ⟨h1, h3⟩ := h
    split at h3
    · simp only [Bool.and_eq_true] at h3
      obtain ⟨⟨⟨e1, e2⟩, e3⟩, e4⟩ := h3
      obtain rfl := beq_iff_eq.mp e1
      rcases h1 with ⟨h1, h2⟩ | ⟨h1, h2⟩
      · obtain rfl := of_decide_eq_true h1
        obtain ⟨rfl, g, m, d⟩ := blt_ok O h2
        exact s_listVls O.calm g m e2 e3 (soundE a O e4)
      · obtain rfl := of_decide_eq_true h1
        obtain ⟨rfl, g, m, d⟩ := blt_ok O h2
        exact s_sortedVls O.calm g m e2 e3 (soundE a O e4)
    · cases h3
  | b, mu, .rng a, c, X, E, x, p, pos, y, O, h => by
    unfold chkB at h
    simp only [Bool.and_eq_true] at h
    obtain ⟨⟨h1, h2⟩, h3⟩ := h
    obtain rfl := of_decide_eq_true h1
    obtain ⟨rfl, g, m, d⟩ := blt_ok O h2
    split at h3
    · simp only [Bool.and_eq_true] at h3
      obtain ⟨⟨e1, e2⟩, e3⟩ := h3
      obtain ⟨rfl, g', m', d'⟩ := blt_ok O e1
      exact s_listRng1 O.calm g m g' m' e2 (soundE a O e3)
    · cases h3
  | b, mu, .zpl a d, c, X, E, x, p, pos, y, O, h => by
    unfold chkB at h
    simp only [Bool.and_eq_true] at h
    obtain ⟨⟨h1, h2⟩, h3⟩ := h
    obtain rfl := of_decide_eq_true h1
    obtain ⟨rfl, g, m, _⟩ := blt_ok O h2
    split at h3
    · simp only [Bool.and_eq_true] at h3
      obtain ⟨⟨⟨⟨e1, e2⟩, e3⟩, e4⟩, e5⟩ := h3
      obtain ⟨rfl, g', m', d'⟩ := blt_ok O e1
      exact s_dictZip O.calm g m g' m' e2 e3 (soundE a O e4) (soundE d O e5)
    · cases h3
  | b, mu, .of _, c, X, E, x, p, pos, y, O, h => by unfold chkB at h; cases h
  | b, mu, .enm _, c, X, E, x, p, pos, y, O, h => by unfold chkB at h; cases h
  | b, mu, .zip _ _, c, X, E, x, p, pos, y, O, h => by unfold chkB at h; cases h
  | b, mu, .rng2 _ _, c, X, E, x, p, pos, y, O, h => by unfold chkB at h; cases h
  | b, mu, .itm _, c, X, E, x, p, pos, y, O, h => by unfold chkB at h; cases h
  | b, mu, .vls _, c, X, E, x, p, pos, y, O, h => by unfold chkB at h; cases h
theorem soundI : ∀ (it : IT) {c : CK} {X : Cx} {E : XK} {te e : Expr}, XOk T G Φ k c X E → chkI T it c te e = true → PI X te e (rdI G E (wpI G.P Φ it))
  | .of a, c, X, E, te, e, O, h => by
    unfold chkI at h
    exact i_of (soundE a O h)
  | .enm a, c, X, E, te, e, O, h => by
    unfold chkI at h
    split at h
    · simp only [Bool.and_eq_true] at h
      obtain ⟨⟨⟨h1, h2⟩, h3⟩, h4⟩ := h
      obtain ⟨es, kk, p, rfl⟩ := isTup_ok h1
      obtain ⟨rfl, g, m, d⟩ := blt_ok O h2
      exact i_enm g m h3 (soundE a O h4)
    · cases h
  | .zip a b, c, X, E, te, e, O, h => by
    unfold chkI at h
    split at h
    · simp only [Bool.and_eq_true] at h
      obtain ⟨⟨⟨⟨⟨h1, h2⟩, h3⟩, h4⟩, h5⟩, h6⟩ := h
      obtain ⟨es, kk, p, rfl⟩ := isTup_ok h1
      obtain ⟨rfl, g, m, d⟩ := blt_ok O h2
      exact i_zip g m h3 h4 (soundE a O h5) (soundE b O h6)
    · cases h
  | .rng a, c, X, E, te, e, O, h => by
    unfold chkI at h
    split at h
    · simp only [Bool.and_eq_true] at h
      obtain ⟨⟨h1, h2⟩, h3⟩ := h
      obtain ⟨rfl, g, m, d⟩ := blt_ok O h1
      exact i_rng g m h2 (soundE a O h3)
    · cases h
  | .rng2 a b, c, X, E, te, e, O, h => by
    unfold chkI at h
    split at h
    · simp only [Bool.and_eq_true] at h
      obtain ⟨⟨⟨⟨h1, h2⟩, h3⟩, h4⟩, h5⟩ := h
      obtain ⟨rfl, g, m, d⟩ := blt_ok O h1
      exact i_rng2 g m h2 h3 (soundE a O h4) (soundE b O h5)
    · cases h
  | .itm a, c, X, E, te, e, O, h => by
    unfold chkI at h
    split at h
    · simp only [Bool.and_eq_true] at h
      obtain ⟨⟨⟨⟨h1, h2⟩, h3⟩, h4⟩, h5⟩ := h
      obtain ⟨es, kk, p, rfl⟩ := isTup_ok h1
      obtain rfl := beq_iff_eq.mp h2
      exact i_itm h3 h4 (soundE a O h5)
    · cases h
  | .vls a, c, X, E, te, e, O, h => by
    unfold chkI at h
    split at h
    · simp only [Bool.and_eq_true] at h
      obtain ⟨⟨⟨h2, h3⟩, h4⟩, h5⟩ := h
      obtain rfl := beq_iff_eq.mp h2
      exact i_vls h3 h4 (soundE a O h5)
    · cases h
  | .itv _, c, X, E, te, e, O, h => by unfold chkI at h; cases h
  | .vlv _, c, X, E, te, e, O, h => by unfold chkI at h; cases h
  | .zpl _ _, c, X, E, te, e, O, h => by unfold chkI at h; cases h
end
end
end DS
end
section
set_option Elab.async false
set_option linter.all false
set_option maxRecDepth 100000
set_option maxHeartbeats 4000000
/-! DsZ3: statements: the checker and what it says. -/
namespace DS
open PySem PySem.Spec PyProof.Rows L2 LamX
/-! ### a comprehension on one line with its name -/
section
variable {X : Cx}
theorem ps_locked {i : Nat} {y : Str} {st : Stmt} {t : TE} (mu : Bool) (hy : X.N[i]? = some y) (h : PS X st (tAsg t (gName i))) : PS X st (tAsg (fun σ H Q => t σ H (lockQ mu Q)) (gName i)) := by
  refine ⟨fun pins s σ H C I q => ?_⟩
  have hi : i < σ.length := by rw [I.len]; exact (List.getElem?_eq_some_iff.mp hy).1
  let Qx : VK := fun x H1 => C.nx (σ.set i (some x)) H1
  let C' : Ends := { C with nx := fun σ' H1 => match σ'[i]? with
    | some (some x) => σ' = σ.set i (some x) ∧ lockQ mu Qx x H1
    | _ => False }
  have e : (fun x H1 => C'.nx (σ.set i (some x)) H1) = lockQ mu Qx := by
    funext x H1
    show (match (σ.set i (some x))[i]? with
      | some (some z) => σ.set i (some x) = σ.set i (some z) ∧ lockQ mu Qx z H1
      | _ => False) = _
    rw [List.getElem?_set_self hi]
    simp
  refine thn (h.run pins s σ H C' I ?_) fun f s' hq => ?_
  · show t σ H (fun x H1 => C'.nx (σ.set i (some x)) H1)
    rw [e]; exact q
  · cases f with
    | next =>
      obtain ⟨σ', H', I', q'⟩ := hq
      have q' : (match σ'[i]? with
        | some (some z) => σ' = σ.set i (some z) ∧ lockQ mu Qx z H'
        | _ => False) := q'
      split at q'
      · rename_i x ex
        obtain ⟨e1, q'⟩ := q'
        cases mu with
        | true => exact ⟨σ', H', I', by rw [e1]; exact q'⟩
        | false =>
          obtain ⟨d, o, rfl, hd, mt, q'⟩ := q'
          obtain ⟨od, I1⟩ := I'.lock hd mt
          exact ⟨σ', _, I1, by rw [e1]; exact q' od⟩
      · exact q'.elim
    | ret u => exact hq
    | brk => exact hq
    | cont => exact hq
variable {kx vx tg iter : Expr} {ifs : List Expr} {scope : Scope} {own : List (Str × Nat)} {pos py spos : Pos} {wi : TI} {g : TG} {tt : TT} {tk tv : TE} {i : Nat} {y : Str}
theorem ps_asgDc (calm : X.calm = true) (nd : X.N.Nodup) (hy : X.N[i]? = some y) (hyl : X.env.scope.names.lookup y = some .local) (sw : swapsWith (.DictComp kx vx [⟨tg, iter, ifs, 0⟩] scope pos) (some (.Name y py)) spos.line X.env = pure true) (hi : PI X tg iter wi)
    (bk : BlkOk X.N X.env.scope scope own) (hg : CompE X scope fun Y => PG Y tg g) (ht : CompE X scope fun Y => PTs Y ifs tt) (hk : CompE X scope fun Y => PE Y kx tk) (he : CompE X scope fun Y => PE Y vx tv) (plain : ∀ x, foldedSetIterable iter X.env x = pure x) :
    PS X (.Assign [.Name y py] (.DictComp kx vx [⟨tg, iter, ifs, 0⟩] scope pos) spos) (tAsg (tDc wi g tt tk tv (own.map (·.2))) (gName i)) := by
  refine ⟨fun pins s σ H D I h => ?_⟩
  rw [exec_Assign_Name_used _ _ _ _ sw]
  refine wpAny_bind (wpAny_standAt (wpAny_bind ?_))
  show wpAny _ X.A (do
    let _ ← comprehension (.DictComp kx vx [⟨tg, iter, ifs, 0⟩] scope pos) scope X.env (firstIterPos [⟨tg, iter, ifs, 0⟩] pos) newDict false (eval iter X.env) (some (assign (.Name y py) X.env))) _ _ s
  replace h : tDc wi g tt tk tv (own.map (·.2)) σ H (fun x H1 => gName i x σ H1 D.nx) := h
  refine wpAny_bind (thn (dc_core (Qf := fun _ s2 => SP X pins D .next s2) calm nd I hi bk hg ht hk he plain h fun L C s1 m H1 I1 q hn f => ?_) fun _ _ hq => wpAny_pure (wpAny_pure hq))
  show wpAny _ _ (assign (.Name y py) X.env (.ref L)) _ _ _
  refine wpAny_assign_Name (store_ok2 (v := V.ref L) I1 nd hy (.inl hyl) rfl (fun s2 I2 ⟨a, sb, ha⟩ => ?_) (.inr hyl))
  obtain ⟨f0, f1, _, f3, f4, f5⟩ := f
  have ne : C ≠ a := fun z => by
    subst z
    rcases ha with z | z
    · exact f1 z
    · exact f4 y _ z rfl
  exact ⟨m, hn.sameBut sb ne, fun _ sb3 => ⟨_, H1, I2.turned (t' := s2.toks) (fun b o hb e => (sb3.2 b hb).trans e) f0 f1 f3 f4 f5, q⟩⟩
end
/-! ### what is exchanged -/
def swcB (sc : Scope) (value target : Expr) : Bool := match (match value with
    | .ListComp _ _ s _ => some s
    | .SetComp _ _ s _ => some s
    | .DictComp _ _ _ s _ => some s
    | _ => none : Option Scope), target with
  | some s, .Name t pos => (sc.names.lookup t == some .local) && (pos.line == value.pos.line) && !(s.names.any fun (n, k) => n == t && (k == .local || k == .cell))
  | _, _ => false
theorem swc_ok {env : PySem.Env} (hk : env.scope.kind = .function) (value target : Expr) (line : Nat) : swapsWith value (some target) line env = pure (swcB env.scope value target) := by
  have hb : env.blockKind = .function := by unfold Env.blockKind; rw [hk]; rfl
  unfold swapsWith swcB
  cases value <;> first
    | rfl
    | (cases target <;> first
      | rfl
      | (simp only [hb]; rfl))
def swNames (sc : Scope) (line : Nat) (ts : List Expr) : List Str := ts.filterMap fun
  | .Name id pos => if sc.names.lookup id == some .local && pos.line == line then some id else none
  | _ => none
def starred : Expr → Bool
  | .Starred _ _ => true
  | _ => false
/-- which names of a row of targets are stored from the right: none where it is stored as a tuple -/
def swS (sc : Scope) (ts vs : List Expr) : Option (Option (List Str)) :=
  if (!(ts.length == 2 || ts.length == 3) || vs.length != ts.length) = true then some none
  else if vs.any starred = true then some none
  else if ((swNames sc ((ts.head?.map (·.pos.line)).getD 0) ts).length != ts.length || (swNames sc ((ts.head?.map (·.pos.line)).getD 0) ts).eraseDups.length != (swNames sc ((ts.head?.map (·.pos.line)).getD 0) ts).length) = true then some none
  else if vs.all (foldedForSure 8) = true then some none
  else if vs.all (constantsAlone 8) = true then none
  else some (some (swNames sc ((ts.head?.map (·.pos.line)).getD 0) ts))
theorem swS_ok {env : PySem.Env} (hk : env.scope.kind = .function) {ts vs : List Expr} {k k2 : Nat} {p p2 : Pos} {r : Option (List Str)} (h : swS env.scope ts vs = some r) : swappedStores [.Tuple ts k p] (.Tuple vs k2 p2) env = pure r := by
  have hb : env.blockKind = .function := by unfold Env.blockKind; rw [hk]; rfl
  have hst : (vs.any fun | .Starred .. => true | _ => false) = vs.any starred := rfl
  have hnm : (ts.filterMap fun
    | .Name id pos => if env.kindOf id == some .local && pos.line == (ts.head?.map (·.pos.line)).getD 0 then some id else none
    | _ => none) = swNames env.scope ((ts.head?.map (·.pos.line)).getD 0) ts := rfl
  unfold swS at h
  unfold swappedStores
  simp only [hb, hst]
  split at h
  · rename_i c
    cases h
    have c' : (!(ts.length == 2 || ts.length == 3) || vs.length != ts.length || (ScopeKind.function != ScopeKind.function)) = true := by
      rw [Bool.or_eq_true]; exact .inl c
    simp only [c', if_true]
    all_goals rfl
  · rename_i c
    have c' : (!(ts.length == 2 || ts.length == 3) || vs.length != ts.length || (ScopeKind.function != ScopeKind.function)) = false := by
      rw [Bool.not_eq_true] at c
      rw [c]; rfl
    simp only [c', Bool.false_eq_true, if_false]
    split at h
    · rename_i d
      cases h
      exact if_pos d
    · rename_i d
      refine (if_neg d).trans ?_
      split at h
      · rename_i f
        cases h
        exact if_pos f
      · rename_i f
        refine (if_neg f).trans ?_
        split at h
        · rename_i u
          cases h
          exact if_pos u
        · rename_i u
          refine (if_neg u).trans ?_
          split at h
          · cases h
          · rename_i v
            cases h
            exact if_neg v
end DS
end
section
set_option Elab.async false
set_option linter.all false
set_option maxRecDepth 100000
set_option maxHeartbeats 4000000
/-! DsZ4: the checker of statements, and what it says. -/
namespace DS
open PySem PySem.Spec PyProof.Rows L2 LamX
def notComp : Expr → Bool
  | .ListComp _ _ _ _ => false
  | .SetComp _ _ _ _ => false
  | .DictComp _ _ _ _ _ => false
  | _ => true
def litB (tu : Bool) : Expr → Option (List Expr)
  | .Tuple es _ _ => if tu = true then some es else none
  | .List es _ => if tu = true then none else some es
  | _ => none
section
variable (T : Tab)
/-- a handler that hands a word and a field on -/
def hndB (c : CK) (tu : Bool) (h : Hnd) : ExceptHandler → Bool
  | .ExceptHandler (some (.Name x _)) (some n) [.Return (some e) _] _ => glB c x && (T.excs.any fun q => (q.1 == x) && (q.2.1 == h.c) && decide (h.f = .inl q.2.2)) && (match litB tu e with
    | some [.Constant v _ _, .Attribute (.Name m _) g _] => decide (v = .str h.w) && (m == n) && decide (h.f = .inl g) && (c.sc.names.lookup n == some .local) && decide (n ∈ c.N) && dbgB n && !(n == ("__classdict__" : Str))
    | _ => false)
  | _ => false
def hndsB (c : CK) (tu : Bool) : List Hnd → List ExceptHandler → Bool
  | [], [] => true
  | h :: hs, e :: es => hndB T c tu h e && hndsB c tu hs es
  | _, _ => false
def asgB (e : IE) (c : CK) (t v : Expr) : Bool :=
  if swcB c.sc v t = true then (match e, v with
    | .cmpr _ _ _ _ _, .ListComp _ [_] _ _ => true
    | .dcm _ _ _ _ _ _ _, .DictComp _ _ [_] _ _ => true
    | _, _ => false)
  else (match t, v with
    | .Tuple ts _ _, .Tuple vs _ _ => decide (swS c.sc ts vs = some none)
    | _, _ => true)
mutual
def chkS : IS → CK → Stmt → Bool
  | .asg tg e, c, s => (match s with
    | .Assign [t] v _ => tgB c tg t && chkE T e c v && asgB e c t v
    | _ => false)
  | .par is es, c, s => (match s with
    | .Assign [.Tuple [.Name x _, .Name y _] _ _] (.Tuple [a, b] _ _) _ => (match is with
      | [i, j] => (c.N[i]? == some x) && (c.N[j]? == some y) && !(i == j) && (c.sc.names.lookup x == some .local) && (c.sc.names.lookup y == some .local) && chkEs T es c [a, b]
      | _ => false) && (match s with
        | .Assign [.Tuple ts _ _] (.Tuple vs _ _) _ => decide (swS c.sc ts vs = some (some [x, y]))
        | _ => false)
    | _ => false)
  | .set o i e, c, s => (match s with
    | .Assign [.Subscript x y _] v _ => plainIx y && chkE T e c v && chkE T o c x && chkE T i c y
    | _ => false)
  | .fld o f e, c, s => (match s with
    | .Assign [.Attribute x g _] v _ => decide (g = f) && decide (f ∈ T.flds) && chkE T e c v && chkE T o c x
    | _ => false)
  | .exp e, c, s => (match s with
    | .Expr v _ => notComp v && chkE T e c v
    | _ => false)
  | .iff t a b, c, s => (match s with
    | .If x p q _ => chkT T t c x && chkSs a c p && chkSs b c q
    | _ => false)
  | .for tg it b, c, s => (match s with
    | .For t i p [] _ => notSet i && tgB c tg t && chkI T it c t i && chkSs b c p
    | _ => false)
  | .whl t b, c, s => (match s with
    | .While x p [] _ => chkT T t c x && chkSs b c p
    | _ => false)
  | .ret e, c, s => (match s with
    | .Return (some v) _ => chkE T e c v
    | .Return none _ => (match e with
      | .cst .non => true
      | _ => false)
    | _ => false)
  | .rai n es, c, s => (match s with
    | .Raise (some (.Call (.Name x _) [a] [] _)) none _ => glB c x && (T.excs.any fun q => (q.1 == x) && (q.2.1 == n)) && chkEs T es c [a]
    | _ => false)
  | .met tu w e hs, c, s => (match s with
    | .Try [.Return (some b) _] (h :: hds) [] [] _ => (match litB tu b with
        | some [.Constant v _ _, x] => decide (v = .str w) && notStar x && chkE T e c x
        | _ => false) && hndsB T c tu hs (h :: hds)
    | _ => false)
  | .pas, _, s => (match s with
    | .Pass _ => true
    | _ => false)
  | .fzv _, _, _ => false
def chkSs : List IS → CK → List Stmt → Bool
  | [], _, ss => ss.isEmpty
  | i :: is, c, ss => (match i with
    | .fzv _ => chkSs is c ss
    | i => (match ss with
      | s :: ss => chkS i c s && chkSs is c ss
      | [] => false))
end
end
/-- a place of a def's statements -/
structure SOk (T : Tab) (G : GC) (Φ : Calls) (k : Nat) (c : CK) (X : Cx) (E : XK) : Prop extends XOk T G Φ k c X E where
  hs : X.stack = X.env :: X.outer
  hfr : X.env.frame = some X.env.locals
  own : PassesOwn (model X.prog X.w) X.A X.env X.xe
  tk : Takes X (fun cls d _ H => E cls d H)
  kd : X.env.scope.kind = .function
  cbt : c.cb = true → ∀ pn xe pins σ H s, Inv (X.tr pn xe) pins σ H s → CB X
section
variable {T : Tab} {G : GC} {Φ : Calls} {k : Nat}
theorem asg_sound {c : CK} {X : Cx} {E : XK} {tg : Tg} {e : IE} {t v : Expr} {pos : Pos} (O : SOk T G Φ k c X E) (h1 : tgB c tg t = true) (h2 : chkE T e c v = true) (h3 : asgB e c t v = true) : PS X (.Assign [t] v pos) (rdS G E (wpS G.P Φ (.asg tg e))) := by
  have O' := O.toXOk
  have hc := O'.sc
  unfold asgB at h3
  split at h3
  · rename_i sw
    split at h3
    · rename_i mu e1 tg1 it t1 elt gen scope p
      unfold chkE at h2
      split at h2
      · rename_i elt te iter ifs scope p heq
        cases heq
        simp only [Bool.and_eq_true] at h2
        obtain ⟨⟨⟨⟨⟨q1, q2⟩, q3⟩, q4⟩, q5⟩, q6⟩ := h2
        have hi := soundI it O' q2
        have go : ∀ Y, XOk T G Φ k (c.blk scope true) Y E0 → PTs Y ifs (rdT G E0 (wpT G.P Φ t1)) := fun Y OY => by
          split at q5
          · cases t1 with
            | yes => exact pts0
            | _ => cases q5
          · exact pts_one (soundT t1 OY q5).2
          · cases q5
        cases t with
        | Name y py =>
          cases tg with
          | tp _ => cases h1
          | nm i =>
            have nm := nm_ok O' h1
            have sw' := swc_ok (env := X.env) O.kd (.ListComp elt [⟨te, iter, ifs, 0⟩] scope p) (.Name y py) pos.line
            rw [hc, sw] at sw'
            have hyl : X.env.scope.names.lookup y = some .local := by
              rw [hc]
              unfold swcB at sw
              simp only [Bool.and_eq_true] at sw
              exact beq_iff_eq.mp sw.1.1
            cases hcb : c.cb with
            | true =>
              exact st_set (st_lq (O'.cb hcb).1 O'.calm O'.nd nm.ix hyl sw' hi (by rw [O'.nm, O'.sc]; exact blkOk_by q3) (ownT_slots _ q4) (hcb_yes O' true _ fun s H C cl fp OY => s_tg OY.calm OY.nd (tg_ok OY q4)) (hcb_yes O' true _ fun s H C cl fp OY => go _ OY)
                (hcb_yes O' true _ fun s H C cl fp OY => soundE e1 OY q6) (folded_ok q1 _)) (lc_imp (mu := mu) (ownT_slots _ q4))
            | false =>
              exact st_set (ps_setLc O'.calm O'.nd nm.ix hyl sw' hi (by rw [O'.nm, O'.sc]; exact blkOk_by q3) (hcb_no O' true (fun Y => PG Y te (gB G tg1)) (fun s H C cl fp OY => s_tg OY.calm OY.nd (tg_ok OY q4)) hcb) (hcb_no O' true (fun Y => PTs Y ifs (rdT G E0 (wpT G.P Φ t1))) (fun s H C cl fp OY => go _ OY) hcb)
                (hcb_no O' true (fun Y => PE Y elt (rdE G E0 (wpE G.P Φ e1))) (fun s H C cl fp OY => soundE e1 OY q6) hcb) (folded_ok q1 _)) (lc_imp (mu := mu) (ownT_slots _ q4))
        | _ => cases sw
      · cases h2
    · rename_i mu tk e1 e2 tg1 it t1 kx vx gen scope p
      unfold chkE at h2
      split at h2
      · rename_i kx vx te iter ifs scope p heq
        cases heq
        simp only [Bool.and_eq_true, Bool.not_eq_true'] at h2
        obtain ⟨⟨⟨⟨⟨⟨⟨rfl, q1⟩, q2⟩, q3⟩, q4⟩, q5⟩, q6⟩, q7⟩ := h2
        have hi := soundI it O' q2
        have go : ∀ Y, XOk T G Φ k (c.blk scope false) Y E0 → PTs Y ifs (rdT G E0 (wpT G.P Φ t1)) := fun Y OY => by
          split at q5
          · cases t1 with
            | yes => exact pts0
            | _ => cases q5
          · exact pts_one (soundT t1 OY q5).2
          · cases q5
        cases t with
        | Name y py =>
          cases tg with
          | tp _ => cases h1
          | nm i =>
            have nm := nm_ok O' h1
            have sw' := swc_ok (env := X.env) O.kd (.DictComp kx vx [⟨te, iter, ifs, 0⟩] scope p) (.Name y py) pos.line
            rw [hc, sw] at sw'
            have hyl : X.env.scope.names.lookup y = some .local := by
              rw [hc]
              unfold swcB at sw
              simp only [Bool.and_eq_true] at sw
              exact beq_iff_eq.mp sw.1.1
            exact st_set (ps_locked mu nm.ix (ps_asgDc O'.calm O'.nd nm.ix hyl sw' hi (by rw [O'.nm, O'.sc]; exact blkOk_by q3) (hcb_of O' false _ (fun s H C cl fp OY => s_tg OY.calm OY.nd (tg_ok OY q4)) rfl) (hcb_of O' false _ (fun s H C cl fp OY => go _ OY) rfl)
              (hcb_of O' false _ (fun s H C cl fp OY => soundE e1 OY q6) rfl) (hcb_of O' false _ (fun s H C cl fp OY => soundE e2 OY q7) rfl) (folded_ok q1 _))) (dc_imp (mu := mu) (ownT_slots _ q4))
        | _ => cases sw
      · cases h2
    · cases h3
  · rename_i sw
    rw [Bool.not_eq_true] at sw
    have sw' : swapsWithSole [t] v pos.line X.env = pure false := by
      show swapsWith v (some t) pos.line X.env = pure false
      rw [swc_ok O.kd, hc, sw]
    refine st_asg O'.calm O'.nd (soundE e O' h2) (tg_ok O' h1) sw' ?_
    split at h3
    · rename_i ts k p vs k2 p2
      have z := of_decide_eq_true h3
      rw [← hc] at z
      exact swS_ok O.kd z
    · rename_i hne
      unfold swappedStores
      cases t with
      | Tuple ts k p =>
        cases v with
        | Tuple vs k2 p2 => exact absurd rfl (hne _ _ _ _ _ _ rfl)
        | _ => rfl
      | List ts p =>
        cases tg <;> cases h1
      | _ => rfl
theorem lit_ok {tu : Bool} {e : Expr} {es : List Expr} (h : litB tu e = some es) : LitE tu es e := by
  unfold litB at h
  split at h
  · split at h
    · rename_i ht; subst ht; cases h; exact .tup
    · cases h
  · split at h
    · cases h
    · rename_i ht
      rw [Bool.not_eq_true] at ht
      subst ht; cases h; exact .lst
  · cases h
theorem hnds_ok {c : CK} {X : Cx} {E : XK} (O : XOk T G Φ k c X E) {tu : Bool} : ∀ {hs : List Hnd} {es : List ExceptHandler}, hndsB T c tu hs es = true → ∃ l, MetH G X tu hs es l
  | [], [], _ => ⟨[], .nil⟩
  | h :: hs, e :: es, q => by
    unfold hndsB at q
    rw [Bool.and_eq_true] at q
    obtain ⟨q1, q2⟩ := q
    obtain ⟨l, ih⟩ := hnds_ok O q2
    unfold hndB at q1
    split at q1
    · rename_i x p1 n e p2 p3
      simp only [Bool.and_eq_true] at q1
      obtain ⟨⟨a1, a2⟩, a3⟩ := q1
      obtain ⟨r, hr, a2⟩ := List.any_eq_true.mp a2
      simp only [Bool.and_eq_true] at a2
      obtain ⟨⟨b1, b2⟩, b3⟩ := a2
      obtain ⟨g, d⟩ := gl_ok O a1
      obtain ⟨⟨fI, ex⟩, f2, f3, f4⟩ := O.facts.exc r hr
      have e1 : r.1 = x := beq_iff_eq.mp b1
      have e2 : r.2.1 = h.c := beq_iff_eq.mp b2
      have e3 : h.f = .inl r.2.2 := of_decide_eq_true b3
      split at a3
      · rename_i v j p4 m p5 g' p6 hl
        simp only [Bool.and_eq_true, Bool.not_eq_true'] at a3
        obtain ⟨⟨⟨⟨⟨⟨c1, c2⟩, c3⟩, c4⟩, c5⟩, c6⟩, c7⟩ := a3
        have c1 : v = .str h.w := of_decide_eq_true c1
        have c2 : m = n := beq_iff_eq.mp c2
        have c3 : h.f = .inl g' := of_decide_eq_true c3
        subst c1 c2
        have e4 : r.2.2 = g' := by rw [e3] at c3; exact Sum.inl.inj c3
        obtain ⟨i, hi⟩ := List.mem_iff_getElem?.mp (of_decide_eq_true c5)
        have hgC := ex.gC
        have noN := ex.noN
        rw [e1, e2] at hgC
        rw [e2, e4] at noN
        rw [e2] at f3 f4
        exact ⟨_, .cons (i := i) ⟨g, d, .inl hgC⟩ (by rw [O.nm]; exact hi) (by show X.env.scope.names.lookup _ = _; rw [O.sc]; exact beq_iff_eq.mp c4) (dbg_ok c6) c7 c3 f3 noN (lit_ok hl) f4 ih⟩
      · cases a3
    · cases q1
mutual
theorem soundS : ∀ (i : IS) {c : CK} {X : Cx} {E : XK} {s : Stmt}, SOk T G Φ k c X E → chkS T i c s = true → PS X s (rdS G E (wpS G.P Φ i))
  | .asg tg e, c, X, E, s, O, h => by
    unfold chkS at h
    split at h
    · simp only [Bool.and_eq_true] at h
      exact asg_sound O h.1.1 h.1.2 h.2
    · cases h
  | .par is es, c, X, E, s, O, h => by
    unfold chkS at h
    split at h
    · rename_i x px y py kt pt a b k2 pt2 pos
      rw [Bool.and_eq_true] at h
      obtain ⟨h, hw⟩ := h
      split at h
      · rename_i i j
        simp only [Bool.and_eq_true, Bool.not_eq_true'] at h
        obtain ⟨⟨⟨⟨⟨h1, h2⟩, h3⟩, h4⟩, h5⟩, h6⟩ := h
        have ih := soundEs es O.toXOk h6
        have hw := of_decide_eq_true hw
        rw [← O.sc] at hw h4 h5
        refine st_par O.calm O.nd (by rw [O.nm]; exact beq_iff_eq.mp h1) (by rw [O.nm]; exact beq_iff_eq.mp h2) (fun z => ?_) (beq_iff_eq.mp h4) (beq_iff_eq.mp h5) ih.1 (swS_ok O.kd hw) (by rfl)
        rw [z] at h3
        simp at h3
      · cases h
    · cases h
  | .set o i e, c, X, E, s, O, h => by
    unfold chkS at h
    split at h
    · rename_i x y tp v pos
      simp only [Bool.and_eq_true] at h
      refine st_sub O.hu h.1.1.1 (soundE e O.toXOk h.1.1.2) (soundE o O.toXOk h.1.2) (soundE i O.toXOk h.2) ?_
      have z := swc_ok (env := X.env) O.kd v (.Subscript x y tp) pos.line
      have e0 : swcB X.env.scope v (.Subscript x y tp) = false := by
        unfold swcB
        split
        · rename_i heq; cases heq
        · rfl
      rw [e0] at z
      exact z
    · cases h
  | .fld o f e, c, X, E, s, O, h => by
    unfold chkS at h
    split at h
    · simp only [Bool.and_eq_true] at h
      obtain ⟨⟨⟨h1, h2⟩, h3⟩, h4⟩ := h
      obtain rfl := of_decide_eq_true h1
      refine st_fld O.facts.own.cl (O.facts.flds _ (of_decide_eq_true h2)) (soundE e O.toXOk h3) (soundE o O.toXOk h4) ?_
      rw [swc_ok O.kd]
      congr 1
      unfold swcB
      split
      · rename_i heq; cases heq
      · rfl
    · cases h
  | .exp e, c, X, E, s, O, h => by
    unfold chkS at h
    split at h
    · rename_i v pos
      rw [Bool.and_eq_true] at h
      refine st_exp (soundE e O.toXOk h.2) ?_
      cases v <;> first
        | rfl
        | (cases h.1)
    · cases h
  | .iff t a b, c, X, E, s, O, h => by
    unfold chkS at h
    split at h
    · simp only [Bool.and_eq_true] at h
      exact st_if (soundT t O.toXOk h.1.1).2 (soundSs a O h.1.2) (soundSs b O h.2)
    · cases h
  | .for tg it b, c, X, E, s, O, h => by
    unfold chkS at h
    split at h
    · simp only [Bool.and_eq_true] at h
      obtain ⟨⟨⟨h1, h2⟩, h3⟩, h4⟩ := h
      exact st_for O.own O.calm (soundI it O.toXOk h3) (s_tg O.calm O.nd (tg_ok O.toXOk h2)) (soundSs b O h4) (folded_ok h1 _)
    · cases h
  | .whl t b, c, X, E, s, O, h => by
    unfold chkS at h
    split at h
    · rw [Bool.and_eq_true] at h
      exact st_whl O.own (soundT t O.toXOk h.1).2 (soundSs b O h.2)
    · cases h
  | .ret e, c, X, E, s, O, h => by
    unfold chkS at h
    split at h
    · exact st_ret (soundE e O.toXOk h)
    · split at h
      · exact PS_imp ps_retN fun C σ H ⟨ρ, F, M, N, S, q, n⟩ => n.rt.same S.sr .non q
      · cases h
    · cases h
  | .rai n es, c, X, E, s, O, h => by
    unfold chkS at h
    split at h
    · rename_i x p a pos pos2
      simp only [Bool.and_eq_true] at h
      obtain ⟨⟨h1, h2⟩, h3⟩ := h
      obtain ⟨r, hr, h2⟩ := List.any_eq_true.mp h2
      rw [Bool.and_eq_true] at h2
      obtain ⟨g, d⟩ := gl_ok O.toXOk h1
      obtain ⟨⟨fI, ex⟩, f2, _, _⟩ := O.facts.exc r hr
      have e1 : r.1 = x := beq_iff_eq.mp h2.1
      have e2 : r.2.1 = n := beq_iff_eq.mp h2.2
      rw [e1, e2] at ex
      rw [e2] at f2
      have ih := soundEs es O.toXOk h3
      exact st_rai O.calm ex f2 O.call.room O.tk ih.1 g ih.2
    · cases h
  | .met tu w e hs, c, X, E, s, O, h => by
    unfold chkS at h
    split at h
    · rename_i b p5 h₀ hds pos
      rw [Bool.and_eq_true] at h
      obtain ⟨h1, h2⟩ := h
      obtain ⟨l, hm⟩ := hnds_ok O.toXOk h2
      split at h1
      · rename_i v j p1 x hl
        simp only [Bool.and_eq_true] at h1
        obtain ⟨⟨q1, q2⟩, q3⟩ := h1
        have q1 : v = .str w := of_decide_eq_true q1
        subst q1
        refine st_met O.hs O.hfr O.nd O.tk (fun pn xe E' hp => ?_) (lit_ok hl) (by show (true && (notStar x && true)) = true; rw [q2]; rfl) hm
        exact soundE e (O.toXOk.tr hp fun hcb pins σ H s I => O.cbt hcb _ _ _ _ _ _ I) q3
      · cases h1
    · cases h
  | .pas, c, X, E, s, O, h => by
    unfold chkS at h
    split at h
    · exact st_pas
    · cases h
  | .fzv _, c, X, E, s, O, h => by
    unfold chkS at h
    cases h
theorem soundSs : ∀ (is : List IS) {c : CK} {X : Cx} {E : XK} {ss : List Stmt}, SOk T G Φ k c X E → chkSs T is c ss = true → PSs X ss (rdS G E (wpSs G.P Φ is))
  | [], c, X, E, ss, O, h => by
    unfold chkSs at h
    obtain rfl := List.isEmpty_iff.mp h
    exact pss0
  | i :: is, c, X, E, ss, O, h => by
    unfold chkSs at h
    split at h
    · exact pss_fzv (soundSs is O h)
    · split at h
      · rw [Bool.and_eq_true] at h
        have z := pss1 (soundS i O h.1) (soundSs is O h.2)
        exact z
      · cases h
end
end
end DS
end
section
set_option Elab.async false
set_option linter.all false
set_option maxRecDepth 100000
set_option maxHeartbeats 4000000
/-! DsZ5: all defs of a checked text keep what their IR says, at every level. -/
namespace DS
open PySem PySem.Spec PyProof.Rows L2 LamX
/-- a def's text is checked -/
structure DefOk (T : Tab) (G : GC) (K : PySem.W.Frag) (mg : Str → Option Value) (base : Heap) (i : Nat) (fi : FnI) : Prop where
  ex : ∃ (name qual : Str) (params : Arguments) (body : List Stmt) (scope : Scope) (dV kV doc pm cdv ct oc : Value) (an od : Option Addr) (osl : Array (Option Value)) (N ps : List Str) (cb : Bool),
    K.lookup (G.fa i) = some ⟨oc, od, .func (PySem.W.fnOf name qual params body scope dV kV doc pm an cdv ct), osl⟩ ∧ PySem.W.codeIn K cdv qual = true ∧ PySem.W.keepIn K (.ref (G.fa i)) = true ∧ FnScope N ps scope ∧ ps = params.args.map (·.arg) ∧
    Binds K (PySem.W.fnOf name qual params body scope dV kV doc pm an cdv ct) ps [] ∧ ps.length = fi.np ∧ N.length = fi.nn ∧ chkSs T fi.body ⟨scope, N, fun _ => true, cb, qual ++ ".<locals>."⟩ body = true ∧
    (cb = true → ∃ cc PP, TabB base mg cc PP ∧ cdv = .ref cc ∧ (PP, qual ++ ".<locals>." ++ "<lambda>") ∈ G.T ∧ ∀ p ∈ G.T, p.1 = PP → p.2 = qual ++ ".<locals>." ++ "<lambda>")
/-- a lambda's text is checked -/
structure LamTOk (T : Tab) (li : LamI) (t : LamTxt) : Prop where
  sc : NdefX.NScope t.N t.ps t.caps t.scope
  bi : ∀ (cl : List (Str × Addr)) (pm cdv ctv : Value) (us : List Value), us.length = t.ps.length → bindArgs (PySem.W.kla_fn "<lambda>" t.qual t.params t.body t.scope cl pm cdv ctv) ⟨us, []⟩ = pure (t.ps.zip us)
  np : t.ps.length = li.np
  nc : t.caps.length = li.nc
  nn : t.N.length = li.nn
  chk : chkE T li.body ⟨t.scope, t.N, fun _ => false, false, ("" : Str)⟩ t.body = true
section
variable {T T0 : Tab} {G : GC} {P : Program} {w : World} {K : PySem.W.Frag} {mg : Str → Option Value} {base : Heap}
def lev (n : Nat) : Nat := 2 * n + 1
theorem deeper_gd {A : Around} {env : PySem.Env} (h : A.guards = some []) : (A.deeper env).guards = some [] := by
  first
    | exact h
    | (simp [Around.deeper, h]; done)
    | (unfold Around.deeper; simp [Around.under, h])
theorem def_run {n i : Nat} {fi : FnI} (FA : Facts T G P K mg) (hfi : G.P.fns i = some fi) (D : DefOk T G K mg base i fi) (ih : FnAll P w K mg base (L2.CX P w) (lev n) G (Phi G.P n)) (ihL : LamAll P w K mg base (lev n) G (Phi G.P n)) :
    ∃ fd ps, FnI1 P w K mg base (L2.CX P w) (lev (n + 1)) G (Phi G.P (n + 1)) i fd ps := by
  obtain ⟨name, qual, params, body, scope, dV, kV, doc, pm, cdv, ct, oc, an, od, osl, N, ps, cb, lk, hcd, kp, S, hps, hb, hnp, hnn, hch, hcb⟩ := D.ex
  refine ⟨_, ps, ⟨⟨fun vs H Q E h => h.1, fun A outer s H args us vs Q E hgd hr e0 hbt rv hsp => ?_⟩, kp, hb, ⟨oc, od, osl, lk⟩, hps, fun ds M Q E h => ?_⟩⟩
  · obtain ⟨hl, ss, F, M, Qd, Ed, SS, rs, q, pq, px⟩ := hsp
    refine run_ofS (k := 2 * n + 2) lk hcd S (by simpa [lev, Nat.mul_add] using hr) e0 hbt rv hl fun hr' => ?_
    obtain ⟨fi', e1, e2, q⟩ := q
    rw [hfi] at e1
    cases e1
    let X := cxOf (L2.CX P w) P w K mg base N qual scope (G.fa i) cdv A outer s H E
    have tk : Takes X (fun cls d _ H => E cls d H) := takes_of rfl rfl rfl rfl
    have O : SOk T G (Phi G.P n) (lev n) ⟨scope, N, fun _ => true, cb, qual ++ ".<locals>."⟩ X E := by
      refine ⟨⟨rfl, rfl, S.nd, rfl, fun _ _ => rfl, ⟨ih, deeper_gd hgd, hr'.mono (by show lev n + 1 ≤ _; unfold lev; omega), passes_call tk fun _ _ _ _ h => h⟩, ihL, FA, fun hcb' => ⟨fun pins σ H s I => cb_def (fun _ => rfl) I, rfl, ?_⟩⟩, rfl, rfl, passes_of rfl, tk, S.kind, fun _ pn xe pins σ H s I => ?_⟩
      · exact hcb hcb'
      · exact cb_def (X := X.tr pn xe) (fun _ => rfl) I
    refine ⟨_, soundSs fi.body O hch, ss.map some ++ emptyN (fi.nn - fi.np), F, M, _, ⟨SS, ?_, ?_⟩, q, ⟨fun ρ' M' σ' H' F' q' S' K' u' => pq .non M' .non H' F' q' S'.sr K' u' .non, pq, px⟩⟩
    · exact VR.start rs
    · have hle : ps.length ≤ N.length := by
        have e := congrArg List.length S.pre
        rw [List.length_take] at e
        omega
      have h1 := rs.length
      unfold L2.start emptyN
      simp only [List.length_append, List.length_map, List.length_replicate]
      omega
  · obtain ⟨fi', e1, e2, _⟩ := h
    rw [hfi] at e1
    cases e1
    rw [e2, hnp]
theorem lam_run {n l : Nat} {li : LamI} {t : LamTxt} (FA : Facts T0 G P K mg) (hli : G.P.lams l = some li) (D : LamTOk T0 li t) (ih : FnAll P w K mg base (L2.CX P w) (lev n) G (Phi G.P n)) (ihL : LamAll P w K mg base (lev n) G (Phi G.P n)) :
    LamOk P w K mg base (lev (n + 1)) G (Phi G.P (n + 1)) l t := by
  have e : lev (n + 1) = (2 * n + 2) + 1 := by unfold lev; omega
  rw [e]
  refine lamOk_of (body := li.body) (nn := li.nn) (te := wpE G.P (Phi G.P n) li.body) D.sc D.bi D.nn (fun cs ds M Q E h => ?_) (fun A outer s H E f c' cl hgd hr => ?_)
  · obtain ⟨li', e1, e2, e3, h⟩ := h
    rw [hli] at e1
    cases e1
    refine ⟨e2.trans D.np.symm, e3.trans D.nc.symm, ?_⟩
    rw [D.np, D.nc]
    exact h
  · let X := NdefX.ncx (L2.CX P w) P w K mg base t.N (nfL t cl c') f A outer s H E
    have tk : Takes X (fun cls d _ H => E cls d H) := takes_of rfl rfl rfl rfl
    have O : XOk T0 G (Phi G.P n) (lev n) ⟨t.scope, t.N, fun _ => false, false, ("" : Str)⟩ X E := by
      refine ⟨rfl, rfl, D.sc.nd, rfl, fun _ z => (by cases z), ⟨ih, deeper_gd hgd, hr.mono (by show lev n + 1 ≤ _; unfold lev; omega), passes_call tk fun _ _ _ _ h => h⟩, ihL, FA, fun z => (by cases z)⟩
    exact soundE li.body O D.chk
/-- THE LEVELS -/
theorem all_levels (FA : Facts T G P K mg) (FA0 : Facts T0 G P K mg) (HD : ∀ i fi, G.P.fns i = some fi → DefOk T G K mg base i fi) (HL : ∀ l t, G.lt l t → ∃ li, G.P.lams l = some li ∧ LamTOk T0 li t) :
    ∀ n, FnAll P w K mg base (L2.CX P w) (lev n) G (Phi G.P n) ∧ LamAll P w K mg base (lev n) G (Phi G.P n)
  | 0 => by
    refine ⟨fun i hi => ?_, fun l t hl => ⟨fun A outer s H F M f c' ob cl cs wsC dsC us vs ds Qd Ed Q E _ _ _ _ _ _ _ _ _ _ _ _ _ q => False.elim q⟩⟩
    obtain ⟨fi, hfi⟩ := Option.isSome_iff_exists.mp hi
    obtain ⟨name, qual, params, body, scope, dV, kV, doc, pm, cdv, ct, oc, an, od, osl, N, ps, cb, lk, hcd, kp, S, hps, hb, hnp, hnn, hch, hcb⟩ := (HD i fi hfi).ex
    refine ⟨_, ps, ⟨⟨fun vs H Q E h => h.1, fun A outer s H args us vs Q E hgd hr e0 hbt rv hsp => ?_⟩, kp, hb, ⟨oc, od, osl, lk⟩, hps, fun ds M Q E h => False.elim h⟩⟩
    obtain ⟨_, _, _, _, _, _, _, _, q, _⟩ := hsp
    exact False.elim q
  | n + 1 => by
    obtain ⟨ih, ihL⟩ := all_levels FA FA0 HD HL n
    refine ⟨fun i hi => ?_, fun l t hl => ?_⟩
    · obtain ⟨fi, hfi⟩ := Option.isSome_iff_exists.mp hi
      exact def_run FA hfi (HD i fi hfi) ih ihL
    · obtain ⟨li, hli, D⟩ := HL l t hl
      exact lam_run FA0 hli D ih ihL
end
end DS
end
section
set_option Elab.async false
set_option linter.all false
set_option maxRecDepth 100000
set_option maxHeartbeats 4000000
/-! DsE1: facts of the text by Bools. -/
namespace DS
open PySem PySem.Spec PyProof.Rows L2 LamX
/-! ### arguments bound by place -/
theorem zip_look {α : Type} : ∀ {ns : List Str} {us : List α}, us.length = ns.length → ∀ n ∈ ns, ∃ u, (ns.zip us).lookup n = some u
  | [], _, _, n, h => by cases h
  | m :: ns, [], e, n, h => by cases e
  | m :: ns, u :: us, e, n, h => by
    by_cases q : n = m
    · subst q; exact ⟨u, by simp⟩
    · have hn : n ∈ ns := by
        rcases List.mem_cons.mp h with z | z
        · exact absurd z q
        · exact z
      obtain ⟨w, hw⟩ := zip_look (us := us) (Nat.succ.inj e) n hn
      refine ⟨w, ?_⟩
      have qb : (n == m) = false := by simpa using q
      simp only [List.zip_cons_cons, List.lookup, qb]
      exact hw
theorem fm_congr {α β : Type} {f g : α → Option β} : ∀ {l : List α}, (∀ x ∈ l, f x = g x) → l.filterMap f = l.filterMap g
  | [], _ => rfl
  | x :: l, h => by
    rw [List.filterMap_cons, List.filterMap_cons, h x List.mem_cons_self, fm_congr fun y hy => h y (List.mem_cons_of_mem _ hy)]
theorem zip_back {α : Type} : ∀ {ns : List Str} {us : List α}, ns.Nodup → us.length = ns.length → (ns.filterMap fun n => ((ns.zip us).lookup n).map (n, ·)) = ns.zip us
  | [], us, _, e => by simp
  | m :: ns, [], _, e => by cases e
  | m :: ns, u :: us, nd, e => by
    have nd' := List.nodup_cons.mp nd
    have ih := zip_back (us := us) nd'.2 (Nat.succ.inj e)
    rw [List.filterMap_cons]
    simp only [List.zip_cons_cons, List.lookup, beq_self_eq_true, Option.map_some]
    congr 1
    rw [← ih]
    refine fm_congr fun n hn => ?_
    have q : (n == m) = false := by
      have : n ≠ m := fun z => by subst z; exact nd'.1 hn
      simpa using this
    simp only [q]
    rw [ih]
theorem bind_plain {fd : FuncData} {us : List Value} {ar : List Arg} {kd : List (Option Expr)} {df : List Expr} (hp : fd.params = ⟨[], ar, none, [], kd, none, df⟩) (hd : fd.defaults = .none) (nd : (ar.map (·.arg)).Nodup) (hl : us.length = (ar.map (·.arg)).length) :
    bindArgs fd ⟨us, []⟩ = pure ((ar.map (·.arg)).zip us) := by
  unfold bindArgs
  rw [hp, hd]
  have hs : seqItems? .none = pure none := rfl
  simp only [hs, List.map_nil, List.nil_append, List.append_nil, List.forIn_nil, pure_bind]
  generalize ar.map (·.arg) = ns at nd hl
  have e0 : ((none : Option (Array Value)).getD #[]).toList = [] := rfl
  have c1 : (decide (us.length > ns.length) && (none : Option Arg).isNone) = false := by
    rw [hl]; simp
  have c2 : (ns.filter fun n => (List.lookup n (ns.zip us)).isNone) = [] := by
    rw [List.filter_eq_nil_iff]
    intro n hn
    obtain ⟨u, hu⟩ := zip_look hl n hn
    rw [hu]; simp
  simp only [c1, e0, List.drop_nil, List.length_nil, Nat.sub_zero, List.take_length, List.drop_length, List.zip_nil_right, List.forIn_nil, pure_bind, c2, zip_back nd hl]
  rfl
def parB (a : Arguments) : Bool := match a with
  | ⟨[], as, none, [], [], none, []⟩ => decide ((as.map (·.arg)).Nodup)
  | _ => false
theorem parB_ok {a : Arguments} (h : parB a = true) : ∃ as, a = ⟨[], as, none, [], [], none, []⟩ ∧ (as.map (·.arg)).Nodup := by
  unfold parB at h
  split at h
  · exact ⟨_, rfl, of_decide_eq_true h⟩
  · cases h
theorem par_bind {fd : FuncData} (h : parB fd.params = true) (hd : fd.defaults = .none) {us : List Value} (hl : us.length = (fd.params.args.map (·.arg)).length) : bindArgs fd ⟨us, []⟩ = pure ((fd.params.args.map (·.arg)).zip us) := by
  obtain ⟨as, e, nd⟩ := parB_ok h
  have z := bind_plain (fd := fd) (us := us) e hd nd (by rw [e] at hl; exact hl)
  rw [e]
  exact z
/-! ### scopes -/
def fscB (N ps : List Str) (sc : Scope) : Bool := decide (sc.kind = .function) && (!sc.isCoroutine && (!sc.isGenerator && (decide N.Nodup && (decide (N.take ps.length = ps) && (ps.all (fun x => (sc.names.lookup x == some .local) || (sc.names.lookup x == some .cell)) && sc.names.all (fun y => !(y.2 == .free)))))))
theorem fscB_ok {N ps : List Str} {sc : Scope} (h : fscB N ps sc = true) : FnScope N ps sc := by
  unfold fscB at h
  simp only [Bool.and_eq_true, Bool.not_eq_true', List.all_eq_true, Bool.or_eq_true] at h
  obtain ⟨h1, h2, h3, h4, h5, h6, h7⟩ := h
  refine ⟨of_decide_eq_true h1, h2, h3, of_decide_eq_true h4, of_decide_eq_true h5, fun x hx => ?_, fun y hy e => ?_⟩
  · rcases h6 x hx with z | z
    · exact .inl (beq_iff_eq.mp z)
    · exact .inr (beq_iff_eq.mp z)
  · have z := h7 y hy
    rw [e] at z
    revert z
    decide
/-! ### a def's text -/
structure Df where
  i : Nat
  d : He.DefD
  ps : List Str
  N : List Str
  cb : Bool
def defB (T : Tab) (fi : FnI) (f : Df) : Bool := fscB f.N f.ps f.d.scope && (decide (f.ps = f.d.params.args.map (·.arg)) && (parB f.d.params && ((f.ps.length == fi.np) && ((f.N.length == fi.nn) && (f.d.dfl.isEmpty && (f.d.kwd.isEmpty &&
  chkSs T fi.body ⟨f.d.scope, f.N, fun _ => true, f.cb, f.d.qual ++ ".<locals>."⟩ f.d.body))))))
theorem defB_ok {T : Tab} {G : GC} {K : PySem.W.Frag} {mg : Str → Option Value} {base : Heap} {fi : FnI} {f : Df} {fd : FuncData} (F : FunD K f.d.name f.d.qual f.d.params f.d.body f.d.scope (f.d.dvs K) (f.d.kws K) (G.fa f.i) fd) (h : defB T fi f = true)
    (hcb : f.cb = true → ∀ c, fd.code = .ref c → ∃ PP, TabB base mg c PP ∧ (PP, f.d.qual ++ ".<locals>." ++ "<lambda>") ∈ G.T ∧ ∀ p ∈ G.T, p.1 = PP → p.2 = f.d.qual ++ ".<locals>." ++ "<lambda>") : DefOk T G K mg base f.i fi := by
  unfold defB at h
  simp only [Bool.and_eq_true] at h
  obtain ⟨h1, h2, h3, h4, h5, h6, h7, h8⟩ := h
  obtain ⟨oc, od, dV, kV, doc, pm, an, cdv, ct, osl, e, lk, hcd, dv, kv⟩ := F.ex
  have kp := F.kp
  have e6 : f.d.dvs K = [] := by
    have : f.d.dfl = [] := List.isEmpty_iff.mp h6
    unfold He.DefD.dvs
    rw [this]; rfl
  rw [e6] at dv
  have edV : dV = .none := by
    rcases dv with ⟨_, z⟩ | ⟨z, _⟩
    · exact z
    · exact absurd rfl z
  subst e edV
  refine ⟨f.d.name, f.d.qual, f.d.params, f.d.body, f.d.scope, .none, kV, doc, pm, cdv, ct, oc, an, od, osl, f.N, f.ps, f.cb, lk, hcd, kp, fscB_ok h1, of_decide_eq_true h2, .all fun us hl => ?_, beq_iff_eq.mp h4, beq_iff_eq.mp h5, h8, fun hb => ?_⟩
  · rw [of_decide_eq_true h2] at hl ⊢
    exact par_bind (fd := PySem.W.fnOf f.d.name f.d.qual f.d.params f.d.body f.d.scope .none kV doc pm an cdv ct) h3 rfl hl
  · obtain ⟨c, rfl⟩ := He.codeIn_ref hcd
    obtain ⟨PP, a1, a2, a3⟩ := hcb hb c rfl
    exact ⟨c, PP, a1, rfl, a2, a3⟩
/-! ### a lambda's text -/
def lamTB (T : Tab) (li : LamI) (t : LamTxt) : Bool := NdefX.nscB t.N t.ps t.caps t.scope && (parB t.params && (decide (t.ps = t.params.args.map (·.arg)) && ((t.ps.length == li.np) && ((t.caps.length == li.nc) && ((t.N.length == li.nn) && chkE T li.body ⟨t.scope, t.N, fun _ => false, false, ("" : Str)⟩ t.body)))))
theorem lamTB_ok {T : Tab} {li : LamI} {t : LamTxt} (h : lamTB T li t = true) : LamTOk T li t := by
  unfold lamTB at h
  simp only [Bool.and_eq_true] at h
  obtain ⟨h1, h2, h3, h4, h5, h6, h7⟩ := h
  refine ⟨NdefX.nscope_by h1, fun cl pm cdv ctv us hl => ?_, beq_iff_eq.mp h4, beq_iff_eq.mp h5, beq_iff_eq.mp h6, h7⟩
  rw [of_decide_eq_true h3] at hl ⊢
  exact par_bind (fd := PySem.W.kla_fn "<lambda>" t.qual t.params t.body t.scope cl pm cdv ctv) h2 rfl hl
/-! ### the own class -/
def ownClB (K : PySem.W.Frag) (C : Addr) : Bool := decide (PySem.W.findIn K (.ref C) "__class__" = some (some (.builtin "object.__class__"))) && (decide (PySem.W.specialIn K (.builtin "object.__class__") "__get__" = some (some (.builtin "getset_descriptor.__get__"))) &&
  (decide (PySem.W.takesIn K (.builtin "object.__class__") = some true) && (decide (PySem.W.mroIn K C (.type "object") = some true) && (tyNames.all (fun t => decide (PySem.W.kitOne K (.type t) (.ref C) = some false)) && tyNames.all (fun t => decide (PySem.W.kitOne K (.ref C) (.type t) = some false))))))
theorem ownB_ok {G : GC} {K : PySem.W.Frag} (cl : Cls K (G.ca 0)) (h : ownClB K (G.ca 0) = true) : OwnCls G K := by
  unfold ownClB at h
  simp only [Bool.and_eq_true, List.all_eq_true, decide_eq_true_eq] at h
  obtain ⟨h1, h2, h3, h4, h5, h6⟩ := h
  exact ⟨cl, h1, h2, h3, h4, h5, h6⟩
/-! ### own exceptions -/
/-- self.x = x behind super().__init__(x) -/
def exBodyB (f : Str) : List Stmt → Bool
  | [.Expr (.Call (.Attribute (.Call (.Name s _) [] [] _) i q3) [.Name a _] [] q5) _, .Assign [.Attribute (.Name z _) b _] (.Name c _) _] =>
    (s == ("super" : Str)) && (i == ("__init__" : Str)) && (a == f) && (z == ("self" : Str)) && (b == f) && (c == f) && (q3.endLine == q5.line)
  | _ => false
theorem exBodyB_ok {f : Str} {b : List Stmt} (h : exBodyB f b = true) : ∃ q1 q2 q3 q4 q5 q6 q7 q8 q9 q10, b = exB f q1 q2 q3 q4 q5 q6 q7 q8 q9 q10 q10 ∧ (q3.endLine == q5.line) = true := by
  unfold exBodyB at h
  split at h
  · simp only [Bool.and_eq_true, beq_iff_eq] at h
    obtain ⟨⟨⟨⟨⟨⟨rfl, rfl⟩, rfl⟩, rfl⟩, h5⟩, h6⟩, h7⟩ := h
    subst h5
    exact ⟨_, _, _, _, _, _, _, _, _, _, by rw [h6] <;> rfl, by simpa using h7⟩
  · cases h
def exScB (f : Str) (sc : Scope) : Bool := (sc.names.lookup ("self" : Str) == some .local) && ((sc.names.lookup f == some .local) && ((sc.names.lookup ("super" : Str) == some .globalImplicit) && ((sc.names.lookup ("__class__" : Str) == some .free) && (sc.names.all (fun x => !(x.2 == .cell)) && (!sc.isCoroutine && (!sc.isGenerator && decide (sc.kind = .function)))))))
def exFnB (P : Program) (K : PySem.W.Frag) (f : Str) (C fI : Addr) : Bool := match K.lookup fI with
  | some ⟨_, _, .func ⟨nm, qual, ps, .stmts b, sc, gl, [(cn, cc)], .none, .none, _, _, _, .ref cda, _, bl⟩, _⟩ =>
    (nm == ("__init__" : Str)) && ((cn == ("__class__" : Str)) && ((gl == mainGlobals) && ((bl == builtinsNs) && (exBodyB f b && (exScB f sc && (parB ps && (decide (ps.args.map (·.arg) = [("self" : Str), f]) && (PySem.W.codeIn K (.ref cda) qual &&
    ((match K.lookup cda with
      | some ⟨_, _, .fields vs, _⟩ => (match (vs[2]? : Option Value) with
        | some (Value.str file _) => (P.main.file : Str) == file
        | _ => false)
      | _ => false) && (match K.lookup cc with
      | some ⟨_, _, .cell (some (.ref D)), _⟩ => D == C
      | _ => false))))))))))
  | _ => false
def exClsB (K : PySem.W.Frag) (C : Addr) : Bool := match K.lookup C with
  | some ⟨c, _, .cls ⟨_, _, r :: bm, _, _, hd, _, _, _, _, del⟩, sl⟩ => decide (c = .type "type") && (decide (r = .ref C) && (hd && (!del && (PySem.HandSPX.refsVE bm && (match sl.toList with
      | [_, _, _, _, some v, _] => decide (v = .builtin "ValueError.__new__")
      | _ => false)))))
  | _ => false
def excB (P : Program) (K : PySem.W.Frag) (f : Str) (C fI : Addr) : Bool :=
  exClsB K C && (decide (PySem.W.findIn K (.ref C) "__setattr__" = some (some (.builtin "object.__setattr__"))) && (decide (PySem.W.findIn K (.ref C) "__getattribute__" = some (some (.builtin "BaseException.__getattribute__"))) &&
  (decide (PySem.W.findIn K (.ref C) "__getattr__" = some none) && (decide (PySem.W.findIn K (.ref C) f = some none) && (decide (PySem.W.findIn K (.ref C) "__init__" = some (some (.ref fI))) && (decide (PySem.W.typeIn K (.ref fI) = some (.type "function")) &&
  (PySem.W.keepIn K (.ref C) && (decide (PySem.W.subIn K (.ref C) (.type "BaseException") = some true) && (decide (PySem.W.subIn K (.ref C) (.type "ValueError") = some true) && (decide (PySem.W.mroIn K C (.ref C) = some true) && (decide (PySem.W.typeIn K (.ref C) = some (.type "type")) &&
  (PySem.W.hasDictIn K C && (decide (PySem.W.nsIn K cStatics "thirdparty.any" = some none) && (decide (PySem.W.ks_superIn K C C "__init__" = some (some (.builtin "ValueError.__init__"))) && (!(f == ("self" : Str)) && (!(f == ("__debug__" : Str)) && (!(P.main.scope.names.lookup ("super" : Str)).isSome && exFnB P K f C fI)))))))))))))))))
theorem excB_ok {P : Program} {K : PySem.W.Frag} {mg : Str → Option Value} {cn f : Str} {C fI : Addr} (gC : mg cn = some (.ref C)) (dbg : (cn == ("__debug__" : Str)) = false) (sup : mg "super" = none) (h : excB P K f C fI = true) : ExTxt P K mg cn f C fI := by
  unfold excB at h
  simp only [Bool.and_eq_true, decide_eq_true_eq, Bool.not_eq_true'] at h
  obtain ⟨h1, h2, h3, h4, h5, h6, h7, h8, h9, h10, h11, h12, h13, h14, h15, h16, h17, h18, h19⟩ := h
  refine ⟨gC, dbg, ?_, h2, h3, h4, h5, h6, h7, h8, h9, h10, h11, h12, h13, h14, h15, sup, h16, h17, h18, ?_⟩
  · unfold exClsB at h1
    split at h1
    · rename_i c dd nm bs r bm ns q hd sn sub ab col del sl hk
      simp only [Bool.and_eq_true, decide_eq_true_eq, Bool.not_eq_true'] at h1
      obtain ⟨rfl, rfl, rfl, rfl, a5, a6⟩ := h1
      split at a6
      · rename_i k0 k1 k2 k3 v k5 hs
        obtain rfl := of_decide_eq_true a6
        have es : sl = #[k0, k1, k2, k3, some (.builtin "ValueError.__new__"), k5] := by
          rw [← Array.toList_inj]; exact hs
        subst es
        exact ⟨nm, q, ns, bs, bm, sn, sub, ab, col, dd, k0, k1, k2, k3, k5, hk, a5⟩
      · cases a6
    · cases h1
  · unfold exFnB at h19
    split at h19
    · rename_i oc od nm qual ps b sc gl cn2 cc doc pm an cda ct bl osl hk
      simp only [Bool.and_eq_true, decide_eq_true_eq, beq_iff_eq] at h19
      obtain ⟨rfl, rfl, rfl, rfl, a5, a6, a7, a8, a9, a10, a11⟩ := h19
      obtain ⟨q1, q2, q3, q4, q5, q6, q7, q8, q9, q10, rfl, hq⟩ := exBodyB_ok a5
      split at a10
      · rename_i ccl cdd vs ccs hk2
        split at a10
        · rename_i file tf hv
          split at a11
          · rename_i cl cld D csl hk3
            obtain rfl := beq_iff_eq.mp a11
            unfold exScB at a6
            simp only [Bool.and_eq_true, Bool.not_eq_true', List.all_eq_true, decide_eq_true_eq, beq_iff_eq] at a6
            obtain ⟨b1, b2, b3, b4, b5, b6, b7, b8⟩ := a6
            obtain ⟨as, ep, nd⟩ := parB_ok a7
            subst ep
            cases as with
            | nil => cases a8
            | cons ar as =>
              have a8' := a8
              simp only [List.map_cons, List.cons.injEq] at a8
              refine ⟨oc, od, qual, _, ar, sc, doc, pm, an, cda, ct, cc, osl, q1, q2, q3, q4, q5, q6, q7, q8, q9, q10, vs, file, tf, ccl, cl, cdd, cld, ccs, csl, hk, a9, hk2, hv, by simpa using a10, hk3, hq, rfl, a8.1, .all fun us hl => ?_, b1, b2, b3, b4, fun x hx e => ?_, b6, b7, b8⟩
              · have z := bind_plain (us := us) (fd := PySem.W.ksFn "__init__" qual ⟨[], ar :: as, none, [], [], none, []⟩ (exB f q1 q2 q3 q4 q5 q6 q7 q8 q9 q10 q10) sc .none .none doc pm an (.ref cda) ct cc) rfl rfl nd (by rw [a8']; exact hl)
                rw [a8'] at z
                exact z
              · have z := b5 x hx
                rw [e] at z
                revert z
                decide
          · cases a11
        · cases a10
      · cases a10
    · cases h19
end DS
end
section
set_option Elab.async false
set_option linter.all false
set_option maxRecDepth 100000
set_option maxHeartbeats 4000000
/-! DsE2: a law's end. -/
namespace DS
open PySem PySem.Spec PyProof.Rows L2 LamX
/-- the heap as told to the law: the script, the tables -/
def hpOf (a : Addr) (o : Obj) (ns : List Int) (ts : List Addr) : Hp := fun b => if b = a then some (.frz o (.lst (ns.map V.int))) else if b ∈ ts then some (.tbl #[]) else none
theorem law_callD {P : Program} {w : World} {K : PySem.W.Frag} {mg mb : Str → Option Value} {k : Nat} {fa a : Addr} {cs : List (Addr × Addr)} {fd : FuncData} {x : Str} {sp : Sp} {s₁ : Shared} {vs : List Value} {ns : List Int}
    (KX : K.In s₁.heap) (hns : s₁.heap.Ns mainGlobals mg) (hb : s₁.heap.Ns builtinsNs mb) (hbb : ∀ x : Str, x ≠ "__name__" → mb x = bootBuiltins x) (hlim : s₁.heap.NoLimit) (hg : s₁.gens = #[])
    (hT : ∀ p ∈ cs, s₁.heap.get? p.2 = some { cls := .none, data := .fields #[] }) (nT : ∀ p ∈ cs, K.lookup p.2 = none) (C : ∀ p ∈ cs, PySem.W.CodeHd s₁.heap p.1 p.2)
    (hbm : ∃ (bm : Addr) (ob : Obj), mg "__builtins__" = some (.ref bm) ∧ bm ≠ builtinsNs ∧ s₁.heap.get? bm = some ob ∧ ob.cls = .type "module" ∧ ob.dict = some builtinsNs ∧ ob.data = .plain)
    (ha : s₁.heap.get? a = some { cls := .type "list", data := .seq vs.toArray }) (na : K.lookup a = none) (hi : IntsAre vs ns) (hl : ns.length ≤ sizeLine) (hr : Room k callerA) (hgd : callerA.guards = some [])
    (F : ∀ base : Heap, K.In base → base.Ns mainGlobals mg → (∀ p ∈ cs, TabB base mg p.1 p.2) → FnG P w K mg base (L2.CX P w) k fa fd [x] sp) (hbind : ∀ (s : Shared) (u : Value), BindsTo s fd ⟨[u], []⟩ [(x, u)])
    (hsp : ∀ (H : Hp) (o : Obj), (∀ b, H b = hpOf a o ns (cs.map (·.2)) b) → (∀ p ∈ cs, p.2 ≠ a) → sp [.ref a] H (fun v _ => v = .bl true) fun _ _ _ => False) :
    codeAny (model P w) callerA (.call (.ref fa) ⟨[.ref a], []⟩) (fun r s' => r = .ok (.ret (.bool true)) ∧ OldK s₁.heap s'.heap ∧ s'.os = s₁.os ∧ AllBare s'.gens) s₁ := by
  have lenV := hi.length
  have tab : ∀ b, b ∈ cs.map (·.2) → s₁.heap.get? b = some { cls := .none, data := .fields #[] } ∧ K.lookup b = none := fun b z => by
    obtain ⟨p, hp, rfl⟩ := List.mem_map.mp z
    exact ⟨hT p hp, nT p hp⟩
  have aT : ∀ p ∈ cs, p.2 ≠ a := fun p hp z => by
    have q := hT p hp
    rw [z, ha] at q
    have q' : Data.seq vs.toArray _ = Data.fields #[] := congrArg Obj.data (Option.some.inj q)
    cases q'
  generalize eo : ({ cls := .type "list", data := .seq vs.toArray } : Obj) = o at ha
  generalize eH : hpOf a o ns (cs.map (·.2)) = H
  have Ha : H a = some (.frz o (.lst (ns.map V.int))) := by rw [← eH]; exact if_pos rfl
  have Ht : ∀ p ∈ cs, H p.2 = some (.tbl #[]) := fun p hp => by
    rw [← eH]
    exact (if_neg (aT p hp)).trans (if_pos (List.mem_map.mpr ⟨p, hp, rfl⟩))
  have Hn : ∀ b, b ≠ a → b ∉ cs.map (·.2) → H b = none := fun b h1 h2 => by rw [← eH]; exact (if_neg h1).trans (if_neg h2)
  have ok : HOk P w H s₁.heap := fun b u z => by
    by_cases hb1 : b = a
    · subst hb1
      rw [Ha] at z
      cases z
      refine ⟨ha, ?_⟩
      subst eo
      exact ⟨by rw [List.length_map]; exact hl, vs, _, vals_ints hi, ha⟩
    · by_cases hb2 : b ∈ cs.map (·.2)
      · obtain ⟨p, hp, rfl⟩ := List.mem_map.mp hb2
        rw [Ht p hp] at z
        cases z
        exact hT p hp
      · rw [Hn b hb1 hb2] at z; cases z
  have low : ∀ {b : Addr} {u : Obj}, s₁.heap.get? b = some u → H b = none → (hidT s₁.heap H).get? b = some u := fun e n => hidT_get e n
  have unt : ∀ {b : Addr} {u : Obj}, s₁.heap.get? b = some u → (∀ xs n, u.data ≠ .seq xs n) → u.data ≠ .fields #[] → H b = none := fun {b u} e h1 h2 => Hn b (fun z => by
      subst z
      rw [ha] at e
      cases e
      subst eo
      exact h1 _ _ rfl) fun z => by
      rw [(tab b z).1] at e
      cases e
      exact h2 rfl
  have dic : ∀ {b : Addr} {u : Obj} {es : Array DictEntry} {ep : Nat}, s₁.heap.get? b = some u → u.data = .dict es ep → H b = none := fun {b u es ep} e d =>
    unt e (fun xs n z => by rw [d] at z; cases z) fun z => by rw [d] at z; cases z
  have nsB : ∀ {b : Addr} {m : Str → Option Value}, s₁.heap.Ns b m → (hidT s₁.heap H).Ns b m := fun {b m} ⟨u, es, ep, e, d, r⟩ => ⟨u, es, ep, low e (dic e d), d, r⟩
  have KB : K.In (hidT s₁.heap H) := fun b u e => low (KX b u e) (Hn b (fun z => by subst z; rw [na] at e; cases e) fun z => by rw [(tab b z).2] at e; cases e)
  have hM : L2.Mod K mg (hidT s₁.heap H) := ⟨KB, nsB hns, ⟨mb, nsB hb, hbb⟩, let ⟨mc, h1, h2⟩ := hlim; ⟨mc, nsB h1, h2⟩⟩
  have TB : ∀ p ∈ cs, TabB (hidT s₁.heap H) mg p.1 p.2 := fun p hp => by
    refine ⟨?_, ?_, fun z => ?_⟩
    · obtain ⟨u, us, file, tf, flags, tg, inF, text, tt, e1, r1, r2, r3, r4, r5, r6, r7, r8, hne⟩ := C p hp
      exact ⟨u, us, file, tf, flags, tg, inF, text, tt, low e1 (unt e1 (fun xs n z => by rw [r2] at z; cases z) fun z => by rw [r2] at z; cases z; simp at r3), r1, r2, r3, r4, r5, r6, r7, r8, hne⟩
    · obtain ⟨bm, ob, b1, b2, b3, b4, b5, b6⟩ := hbm
      refine ⟨bm, ob, b1, b2, fun q => ?_, fun q => ?_, low b3 (unt b3 (fun xs n z => by rw [b6] at z; cases z) fun z => by rw [b6] at z; cases z), b4, b5, b6⟩
      · obtain ⟨u, es, ep, e, hd, _⟩ := hns
        rw [q, e] at b3
        cases b3
        rw [hd] at b6
        cases b6
      · rw [q, hT p hp] at b3
        cases b3
        cases b6
    · obtain ⟨u, es, ep, e, hd, _⟩ := hns
      rw [z, hT p hp] at e
      cases e
      cases hd
  have e0 : Env0 P w K mg (hidT s₁.heap H) callerA [] s₁ H :=
    ⟨rfl, hM, fun b u e => of_hidT e, Nat.le_of_eq (hidT_size _ _), trivial, fun b z => absurd (show b ∈ ([] : List Addr) from z) (by simp), ok, .of_eq hg⟩
  refine codeAny_mono ((F _ KB (nsB hns) TB).run callerA [] s₁ H ⟨[.ref a], []⟩ [.ref a] [.ref a] _ _ hgd hr e0 (hbind s₁ (.ref a)) (.cons rfl .nil) (hsp H o (fun b => by rw [eH]) aT)) fun r s' h => ?_
  cases r with
  | error e =>
    obtain ⟨_, _, _, _, _, _, _, _, _, _, _, _, z⟩ := h
    exact z.elim
  | ok fl =>
    cases fl with
    | next => exact False.elim h
    | brk => exact False.elim h
    | cont => exact False.elim h
    | ret u =>
      obtain ⟨v, H', os, bare, un, ok', r', q⟩ := h
      have q' : v = .bl true := q
      subst q'
      obtain rfl : u = Value.bool true := r'
      have noFr : ∀ b, b ∉ ([] : List Addr) := by simp
      have old : ∀ b u, b ∉ cs.map (·.2) → s₁.heap.get? b = some u → s'.heap.get? b = some u := fun b u nb e => by
        by_cases hb1 : b = a
        · subst hb1
          have z2 := un.frzs b o _ Ha
          obtain ⟨e2, _⟩ := ok' b _ z2
          rw [ha] at e
          cases e
          exact e2
        · exact un.keep b u e (Hn b hb1 nb) (noFr b) (by simp)
      refine ⟨rfl, ⟨fun b u e => ?_, fun b u e => ?_⟩, os, bare⟩
      · by_cases hb : b ∈ cs.map (·.2)
        · obtain ⟨p, hp, rfl⟩ := List.mem_map.mp hb
          obtain ⟨more, z⟩ := un.tbls p.2 #[] (Ht p hp)
          rw [hT p hp] at e
          cases e
          exact .inr (.inl ⟨((C p hp).tab (hT p hp)).isCodeTable, rfl, #[], _, rfl, by rw [Array.empty_append]; exact ok' p.2 _ z⟩)
        · exact .inl (old b u hb e)
      · by_cases hb : b ∈ cs.map (·.2)
        · obtain ⟨p, hp, rfl⟩ := List.mem_map.mp hb
          obtain ⟨more, z⟩ := un.tbls p.2 #[] (Ht p hp)
          exact ⟨_, ok' p.2 _ z⟩
        · exact ⟨u, old b u hb e⟩
/-- what is known of the law's promise at the head's heap h -/
def LawAtD (l : PySem.W.OpenLaw) (w : World) (K : PySem.W.Frag) (k n : Nat) (x : Str) (mg : Str → Option Value) (fa : Addr) (h : Heap) : Prop :=
  ∃ (fd : FuncData) (cs : List (Addr × Addr)) (sp : Sp), (∀ a vs, h.get? a = some { cls := .type "list", data := .seq (vs : List Value).toArray } → K.lookup a = none) ∧ (∀ p ∈ cs, h.get? p.2 = some { cls := .none, data := .fields #[] }) ∧ (∀ p ∈ cs, K.lookup p.2 = none) ∧ (∀ p ∈ cs, PySem.W.CodeHd h p.1 p.2) ∧
    (∀ (s : Shared) (u : Value), BindsTo s fd ⟨[u], []⟩ [(x, u)]) ∧
    (∀ (H : Hp) (a : Addr) (o : Obj) (ns : List Int), ns.length ≤ n → (∀ z ∈ ns, Builtin.Int.intBits z ≤ 1048576) → (∀ b, H b = hpOf a o ns (cs.map (·.2)) b) → (∀ p ∈ cs, p.2 ≠ a) → sp [.ref a] H (fun v _ => v = .bl true) fun _ _ _ => False) ∧
    ∀ base : Heap, K.In base → base.Ns mainGlobals mg → (∀ p ∈ cs, TabB base mg p.1 p.2) → FnG l.prog w K mg base (L2.CX l.prog w) k fa fd [x] sp
theorem walk_D {l : PySem.W.OpenLaw} {n k : Nat} {q : Program} {loose : List Str} {XP : (Str → Option Value) → Heap → Prop} {YP : World → Heap → Prop} {d : DefRec} {x : Str}
    (hn : l.most = some n) (hn2 : n ≤ sizeLine) (hdf : d.params.defaults = []) (hr : Room k callerA) (hgd : callerA.guards = some [])
    (F : ∀ (w : World) (mg : Str → Option Value) (fa : Addr) (h : Heap), YP w h → h.Ns mainGlobals mg → mg d.name = some (.ref fa) → ∃ K : PySem.W.Frag, K.In h ∧ LawAtD l w K k n x mg fa h) :
    PySem.W.WalkO q loose XP YP l.row.toRowW d [] (fun f vs => PySem.call f vs) := by
  refine Att.attach_callB hn hdf fun w s₀ s₁ mg mb fa o pm cd doc a vs ns G Y ho hd hcd hmg hobj hints hlen hbits hg => ?_
  obtain ⟨K, KX, fd, cs, sp, nl, hT, nT, C, hb, hsp, hF⟩ := F w mg fa _ Y G.T.g hmg
  exact law_callD KX G.T.g G.T.b G.T.builtins G.T.nolimit hg hT nT C G.T.bmain hobj (nl a vs hobj) hints (Nat.le_trans hlen hn2) hr hgd hF hb fun H o hH ht => hsp H a o ns hlen hbits hH ht
end DS
end
section
set_option Elab.async false
set_option linter.all false
set_option maxRecDepth 100000
set_option maxHeartbeats 4000000
/-! DsE3: a law from its data: the text of its defs, their IR, the names. -/
namespace DS
open PySem PySem.Spec PyProof.Rows L2 LamX
structure Dat where
  dfs : List Df
  fis : List (Nat × FnI)
  lis : List (Nat × LamI)
  lnm : List (Nat × LamN)
  mak : Option Nat
  own : Str
  flds : List Str
  csts : List (Str × Cst)
  excs : List (Str × Nat × Str)
  kws : List (Nat × List Str × List Nat)
  meths : List (Str × Nat)
namespace Dat
def at_ (d : Dat) (i : Nat) : Str × Option Str := match d.dfs.find? (fun f => f.i == i) with
  | some f => f.d.at_
  | none => ("", none)
def fnNames (d : Dat) : List (Str × Nat) := d.dfs.filterMap fun f => match f.d.at_ with
  | (x, none) => some (x, f.i)
  | _ => none
def T0 (d : Dat) : Tab := ⟨d.fnNames, d.csts, d.own, d.mak, d.flds, d.meths, d.excs, d.kws, fun l => d.lnm.lookup l, fun _ _ => false⟩
def T (d : Dat) : Tab := { d.T0 with lok := fun l t => match d.lis.lookup l with
  | some li => lamTB d.T0 li t
  | none => false }
def P (d : Dat) : Prg := ⟨fun i => d.fis.lookup i, fun l => d.lis.lookup l, fun c => if c = 0 then d.mak else none, fun c => (d.excs.find? (fun e => e.2.1 == c)).map fun e => [e.2.2], fun c m => if c = 0 then d.meths.lookup m else none⟩
def G (d : Dat) (K : PySem.W.Frag) : GC where
  P := d.P
  fa := fun i => He.fAd K (d.at_ i)
  ca := fun c => if c = 0 then He.ga K d.own else match d.excs.find? (fun e => e.2.1 == c) with
    | some e => He.ga K e.1
    | none => 0
  lt := fun l t => d.T.lok l t = true
  cps := fun l => match d.lnm.lookup l with
    | some n => n.caps
    | none => []
  T := (d.dfs.filter (·.cb)).map fun f => ((He.cT K f.d.at_).2, f.d.qual ++ ".<locals>." ++ "<lambda>")
def tf (d : Dat) : List He.Defn := (d.dfs.filter (·.cb)).map (·.d.at_)
def cstFa : Str × Cst → He.Fa
  | (x, .str z) => .str x z
  | (x, .int i) => .int x i
  | (x, _) => .glo x
def fa (d : Dat) : List He.Fa := d.fnNames.map (fun q => .glo q.1) ++ (bltNames.map .free ++ ([.glo d.own, .cls d.own, .mkr d.own] ++ (d.flds.map (.noat d.own) ++ (d.csts.map cstFa ++ d.excs.map fun e => .glo e.1))))
def noListB (K : PySem.W.Frag) : Bool := K.all fun q => match q.2.cls with
  | .type n => !(n == "list")
  | _ => true
def ex (d : Dat) (P : Program) (K : PySem.W.Frag) : Bool := ownClB K (He.ga K d.own) && (noListB K && (decide (((d.tf.map fun p => (He.cT K p).2)).Nodup) &&
  d.excs.all fun e => excB P K e.2.2 (He.ga K e.1) (He.ma K (He.ga K e.1) "__init__") && (xfB K (He.ga K e.1) && d.excs.all fun e' => decide (PySem.W.exmOne K (.ref (He.ga K e'.1)) (.ref (He.ga K e.1)) = some (decide (e.2.1 = e'.2.1))))))
/-- what is to be seen of the data alone -/
def okB (d : Dat) : Bool := decide ((d.dfs.map (·.i)).Nodup) && (d.dfs.all (fun f => (d.fis.lookup f.i).isSome) && (d.fis.all (fun q => d.dfs.any fun f => f.i == q.1) && (d.excs.all (fun e => dbgB e.1 && !(e.2.1 == 0)) && (decide ((d.excs.map (·.2.1)).Nodup) &&
  (d.csts.all (fun q => match q.2 with | .str _ => true | .int _ => true | _ => false) && (match d.mak with
    | some m => d.dfs.any fun f => (f.i == m) && decide (f.d.at_ = (d.own, some ("__init__" : Str)))
    | none => true))))))
end Dat
theorem find_nd {α : Type} {k : α → Nat} : ∀ {l : List α} {x : α}, (l.map k).Nodup → x ∈ l → l.find? (fun y => k y == k x) = some x
  | [], _, _, h => by cases h
  | y :: l, x, nd, h => by
    rw [List.map_cons, List.nodup_cons] at nd
    rcases List.mem_cons.mp h with rfl | h
    · simp
    · have hne : (k y == k x) = false := by
        have : k y ≠ k x := fun z => nd.1 (z ▸ List.mem_map.mpr ⟨x, h, rfl⟩)
        simpa using this
      rw [List.find?_cons, hne]
      exact find_nd nd.2 h
theorem find_mem {α : Type} {k : α → Nat} {l : List α} {n : Nat} {x : α} (h : l.find? (fun y => k y == n) = some x) : x ∈ l ∧ k x = n :=
  ⟨List.mem_of_find?_eq_some h, by simpa using List.find?_some h⟩
theorem mem_look {α β : Type} [BEq α] [LawfulBEq α] {l : List (α × β)} {a : α} {b : β} (h : l.lookup a = some b) : (a, b) ∈ l := by
  induction l with
  | nil => cases h
  | cons q l ih =>
    obtain ⟨c, e⟩ := q
    rw [List.lookup_cons] at h
    split at h
    · rename_i z
      obtain rfl := beq_iff_eq.mp z
      cases h
      exact List.mem_cons_self
    · exact List.mem_cons_of_mem _ (ih h)
section
variable {d : Dat} {Pr : Program} {w : World} {K : PySem.W.Frag} {h : Heap} {mg : Str → Option Value}
theorem Dat.okB_ok (o : d.okB = true) : (d.dfs.map (·.i)).Nodup ∧ (∀ f ∈ d.dfs, (d.fis.lookup f.i).isSome = true) ∧ (∀ q ∈ d.fis, ∃ f ∈ d.dfs, f.i = q.1) ∧ (∀ e ∈ d.excs, dbgB e.1 = true ∧ e.2.1 ≠ 0) ∧ (d.excs.map (·.2.1)).Nodup ∧
    (∀ q ∈ d.csts, (∃ s, q.2 = .str s) ∨ ∃ i, q.2 = .int i) ∧ ∀ m, d.mak = some m → ∃ f ∈ d.dfs, f.i = m ∧ f.d.at_ = (d.own, some ("__init__" : Str)) := by
  unfold Dat.okB at o
  simp only [Bool.and_eq_true, List.all_eq_true, decide_eq_true_eq] at o
  obtain ⟨h1, h2, h3, h4, h5, h6, h7⟩ := o
  refine ⟨h1, h2, fun q hq => ?_, fun e he => ?_, h5, fun q hq => ?_, fun m hm => ?_⟩
  · obtain ⟨f, hf, z⟩ := List.any_eq_true.mp (h3 q hq)
    exact ⟨f, hf, beq_iff_eq.mp z⟩
  · obtain ⟨z1, z2⟩ := h4 e he
    refine ⟨z1, fun z => ?_⟩
    rw [z] at z2
    cases z2
  · have z := h6 q hq
    split at z
    · exact .inl ⟨_, by assumption⟩
    · exact .inr ⟨_, by assumption⟩
    · cases z
  · rw [hm] at h7
    obtain ⟨f, hf, z⟩ := List.any_eq_true.mp h7
    rw [Bool.and_eq_true] at z
    exact ⟨f, hf, beq_iff_eq.mp z.1, of_decide_eq_true z.2⟩
theorem Dat.fa_at (o : d.okB = true) {f : Df} (hf : f ∈ d.dfs) : (d.G K).fa f.i = He.fAd K f.d.at_ := by
  obtain ⟨h1, _⟩ := Dat.okB_ok o
  show He.fAd K (d.at_ f.i) = _
  unfold Dat.at_
  rw [find_nd (k := fun g : Df => g.i) h1 hf]
theorem Dat.ca_at (o : d.okB = true) {e : Str × Nat × Str} (he : e ∈ d.excs) : (d.G K).ca e.2.1 = He.ga K e.1 := by
  obtain ⟨_, _, _, h4, h5, _⟩ := Dat.okB_ok o
  show (if e.2.1 = 0 then _ else _) = _
  rw [if_neg (h4 e he).2, find_nd (k := fun e : Str × Nat × Str => e.2.1) h5 he]
theorem dat_facts (o : d.okB = true) (KX : K.In h) (Gn : h.Ns mainGlobals mg) (F : ∀ f ∈ d.fa, f.ok K = true) (X : d.ex Pr K = true) (hkw : ∀ k ∈ d.kws, KwB K ((d.G K).fa k.1) k.2.1 k.2.2) : Facts d.T (d.G K) Pr K mg := by
  obtain ⟨o1, o2, o3, o4, o5, o6, o7⟩ := Dat.okB_ok o
  unfold Dat.ex at X
  simp only [Bool.and_eq_true, List.all_eq_true, decide_eq_true_eq] at X
  obtain ⟨x1, x2, x3, x4⟩ := X
  have f1 : ∀ q ∈ d.fnNames, mg q.1 = some (.ref (He.ga K q.1)) := fun q hq => He.glo_ok KX Gn (F _ (List.mem_append_left _ (List.mem_map.mpr ⟨q, hq, rfl⟩)))
  have f2 : ∀ x ∈ bltNames, mg x = none := fun x hx => He.free_ok KX Gn (F _ (List.mem_append_right _ (List.mem_append_left _ (List.mem_map.mpr ⟨x, hx, rfl⟩))))
  have f3 : ∀ z ∈ ([.glo d.own, .cls d.own, .mkr d.own] : List He.Fa), z.ok K = true := fun z hz => F _ (List.mem_append_right _ (List.mem_append_right _ (List.mem_append_left _ hz)))
  have f4 : ∀ z ∈ d.flds, NoAttr K (He.ga K d.own) z := fun z hz => He.noat_ok (F _ (List.mem_append_right _ (List.mem_append_right _ (List.mem_append_right _ (List.mem_append_left _ (List.mem_map.mpr ⟨z, hz, rfl⟩))))))
  have f5 : ∀ z ∈ d.csts, (Dat.cstFa z).ok K = true := fun z hz => F _ (List.mem_append_right _ (List.mem_append_right _ (List.mem_append_right _ (List.mem_append_right _ (List.mem_append_left _ (List.mem_map.mpr ⟨z, hz, rfl⟩))))))
  have f6 : ∀ e ∈ d.excs, mg e.1 = some (.ref (He.ga K e.1)) := fun e he => He.glo_ok KX Gn (F _ (List.mem_append_right _ (List.mem_append_right _ (List.mem_append_right _ (List.mem_append_right _ (List.mem_append_right _ (List.mem_map.mpr ⟨e, he, rfl⟩)))))))
  have c0 : (d.G K).ca 0 = He.ga K d.own := rfl
  have cl : Cls K ((d.G K).ca 0) := by rw [c0]; exact He.cls_ok (f3 _ (by simp))
  refine ⟨fun x i e => ?_, fun x k e => ?_, f2, ownB_ok cl (by rw [c0]; exact x1), He.glo_ok (x := d.own) KX Gn (f3 (.glo d.own) (by simp)), f4, fun i e => ?_, hkw, fun e he => ?_, fun l t z => z, fun l n e => ?_⟩
  · have m : (x, i) ∈ d.fnNames := mem_look e
    have m2 := m
    unfold Dat.fnNames at m2
    obtain ⟨f, hf, z⟩ := List.mem_filterMap.mp m2
    split at z
    · rename_i y hat
      cases z
      refine ⟨o2 f hf, ?_⟩
      rw [Dat.fa_at o hf, hat]
      exact f1 _ m
    · cases z
  · have m : (x, k) ∈ d.csts := mem_look e
    have z := f5 _ m
    rcases o6 _ m with ⟨s, hs⟩ | ⟨i, hs⟩
    · have hs : k = .str s := hs
      subst hs
      obtain ⟨t, ht⟩ := He.str_ok KX Gn z
      exact ⟨_, ht, t, rfl⟩
    · have hs : k = .int i := hs
      subst hs
      obtain ⟨t, ht⟩ := He.int_ok KX Gn z
      exact ⟨_, ht, t, rfl⟩
  · have e : d.mak = some i := e
    obtain ⟨f, hf, rfl, hat⟩ := o7 i e
    refine ⟨o2 f hf, ?_, ?_⟩
    · rw [Dat.fa_at o hf, hat, c0]
      exact He.mkr_ok (f3 _ (by simp))
    · show (if (0 : Nat) = 0 then d.mak else none) = _
      rw [if_pos rfl, e]
  · obtain ⟨y1, y2, y3⟩ := x4 e he
    rw [Dat.ca_at o he]
    refine ⟨⟨_, excB_ok (f6 e he) (dbg_ok (o4 e he).1) (f2 _ (by decide +kernel)) y1⟩, ?_, xfB_ok y2, fun c hc => ?_⟩
    · show (d.excs.find? (fun e' => e'.2.1 == e.2.1)).map _ = _
      rw [find_nd (k := fun e : Str × Nat × Str => e.2.1) o5 he]; rfl
    · have hc : ((d.excs.find? (fun e' => e'.2.1 == c)).map fun e => [e.2.2]).isSome = true := hc
      rw [Option.isSome_map] at hc
      obtain ⟨e', he'⟩ := Option.isSome_iff_exists.mp hc
      obtain ⟨m1, m2⟩ := find_mem (k := fun e : Str × Nat × Str => e.2.1) he'
      have m2 : e'.2.1 = c := m2
      subst m2
      rw [Dat.ca_at o m1]
      exact y3 e' m1
  · have e : d.lnm.lookup l = some n := e
    show (match d.lnm.lookup l with | some n => n.caps | none => []) = _
    rw [e]
/-- THE LAW: from its data -/
theorem law_D {l : PySem.W.OpenLaw} {fa : Addr} {li : Nat} {x nm : Str} {n m : Nat} (o : d.okB = true) (KX : K.In h) (Gn : h.Ns mainGlobals mg) (hmg : mg nm = some (.ref fa)) (S : He.SaysX d.fa (d.dfs.map (·.d)) [] d.tf (d.ex l.prog) w h K)
    (hC : ∀ f ∈ d.dfs, ∀ fi, d.fis.lookup f.i = some fi → defB d.T fi f = true) (hkw : ∀ k ∈ d.kws, KwB K ((d.G K).fa k.1) k.2.1 k.2.2)
    (hlaw : ∃ f ∈ d.dfs, f.i = li ∧ f.d.at_ = (nm, none) ∧ f.ps = [x])
    (math : ∀ ns : List Int, ns.length ≤ m → (∀ z ∈ ns, Builtin.Int.intBits z ≤ 1048576) → (Phi d.P (n + 1)).fn li [.d (.lst (ns.map .int))] (fun _ => none) (fun r _ => r = .bl true) noEx) :
    LawAtD l w K (lev (n + 1)) m x mg fa h := by
  obtain ⟨o1, o2, o3, o4, o5, o6, o7⟩ := Dat.okB_ok o
  have SD := S.t.d
  have FA := dat_facts o KX Gn (fun f hf => SD.facts hf) S.more hkw
  have FA0 : Facts d.T0 (d.G K) l.prog K mg := ⟨FA.fn, FA.cst, FA.blt, FA.own, FA.gOwn, FA.flds, FA.mak, FA.kws, FA.exc, fun _ _ z => (by cases z), FA.cps⟩
  have X := S.more
  unfold Dat.ex at X
  simp only [Bool.and_eq_true, List.all_eq_true, decide_eq_true_eq] at X
  obtain ⟨x1, x2, x3, x4⟩ := X
  have FD : ∀ f ∈ d.dfs, ∃ fd, FunD K f.d.name f.d.qual f.d.params f.d.body f.d.scope (f.d.dvs K) (f.d.kws K) ((d.G K).fa f.i) fd := fun f hf => by
    rw [Dat.fa_at o hf]
    exact SD.defs (List.mem_map.mpr ⟨f, hf, rfl⟩)
  have HL : ∀ l t, (d.G K).lt l t → ∃ li, (d.G K).P.lams l = some li ∧ LamTOk d.T0 li t := fun l t z => by
    have z : (match d.lis.lookup l with
      | some li => lamTB d.T0 li t
      | none => false) = true := z
    split at z
    · rename_i li e
      exact ⟨li, e, lamTB_ok z⟩
    · cases z
  obtain ⟨fL, hfL, rfl, hat, hps⟩ := hlaw
  obtain ⟨fdL, FL⟩ := FD fL hfL
  have eL : (d.G K).fa fL.i = fa := by
    rw [Dat.fa_at o hfL, hat]
    have z : (nm, fL.i) ∈ d.fnNames := List.mem_filterMap.mpr ⟨fL, hfL, by rw [hat]⟩
    have z2 := He.glo_ok KX Gn (SD.facts (f := .glo nm) (List.mem_append_left _ (List.mem_map.mpr ⟨_, z, rfl⟩)))
    rw [hmg] at z2
    exact (Value.ref.inj (Option.some.inj z2)).symm
  have hDef : ∀ base : Heap, K.In base → base.Ns mainGlobals mg → (∀ p ∈ d.tf.map (He.cT K), TabB base mg p.1 p.2) → ∀ i fi, (d.G K).P.fns i = some fi → DefOk d.T (d.G K) K mg base i fi := fun base hKb hnb hTB i fi e => by
    have e : d.fis.lookup i = some fi := e
    obtain ⟨f, hf, rfl⟩ := o3 _ (mem_look e)
    obtain ⟨fd, F⟩ := FD f hf
    refine defB_ok F (hC f hf fi e) fun hcb c hc => ?_
    have hin : f ∈ d.dfs.filter (·.cb) := List.mem_filter.mpr ⟨hf, hcb⟩
    have hcT : He.cT K f.d.at_ ∈ d.tf.map (He.cT K) := List.mem_map.mpr ⟨f.d.at_, List.mem_map.mpr ⟨f, hin, rfl⟩, rfl⟩
    obtain ⟨oc, od, dV, kV, doc, pm, an, cdv, ct, osl, e0, lk, _⟩ := F.ex
    rw [Dat.fa_at o hf] at lk
    have ec : (He.cT K f.d.at_).1 = c := He.codeOf_eq lk hc
    refine ⟨(He.cT K f.d.at_).2, ?_, ?_, ?_⟩
    · rw [← ec]; exact hTB _ hcT
    · exact List.mem_map.mpr ⟨f, hin, rfl⟩
    · intro p hp ep
      obtain ⟨f', hf', rfl⟩ := List.mem_map.mp hp
      have ep : (He.cT K f'.d.at_).2 = (He.cT K f.d.at_).2 := ep
      have nd : ((d.dfs.filter (·.cb)).map fun f => (He.cT K f.d.at_).2).Nodup := by
        have x3' := x3
        unfold Dat.tf at x3'
        rw [List.map_map] at x3'
        exact x3'
      have := find_nd (k := fun f : Df => (He.cT K f.d.at_).2) nd hf'
      have h2 := find_nd (k := fun f : Df => (He.cT K f.d.at_).2) nd hin
      rw [ep] at this
      rw [this] at h2
      cases h2
      rfl
  refine ⟨fdL, d.tf.map (He.cT K), spD (d.G K) (Phi d.P (n + 1)) fL.i 1, fun a vs ha => ?_, fun p hp => ?_, fun p hp => ?_, fun p hp => ?_, fun s u => ?_, fun H a ob ns hl hbits hH hta => ?_, fun base hKb hnb hTB => ?_⟩
  · cases hk : K.lookup a with
    | none => rfl
    | some ob =>
      have e1 := KX a ob hk
      rw [ha] at e1
      cases e1
      have z := List.all_eq_true.mp x2 _ (He.lookup_mem hk)
      cases z
  · obtain ⟨q, hq, rfl⟩ := List.mem_map.mp hp
    exact S.empty q hq
  · obtain ⟨q, hq, rfl⟩ := List.mem_map.mp hp
    exact S.out q hq
  · obtain ⟨q, hq, rfl⟩ := List.mem_map.mp hp
    exact PySem.W.codeHd_of_K KX (S.hd q hq)
  · have z := hC fL hfL
    obtain ⟨fi, hfi⟩ := Option.isSome_iff_exists.mp (o2 fL hfL)
    have z := z fi hfi
    unfold defB at z
    simp only [Bool.and_eq_true] at z
    obtain ⟨_, z2, z3, _, _, z6, _, _⟩ := z
    obtain ⟨oc, od, dV, kV, doc, pm, an, cdv, ct, osl, e0, lk, _, dv, _⟩ := FL.ex
    have e6 : fL.d.dvs K = [] := by
      have : fL.d.dfl = [] := List.isEmpty_iff.mp z6
      unfold He.DefD.dvs
      rw [this]; rfl
    rw [e6] at dv
    have edV : dV = .none := by
      rcases dv with ⟨_, z⟩ | ⟨z, _⟩
      · exact z
      · exact absurd rfl z
    subst e0 edV
    have ep := of_decide_eq_true z2
    rw [hps] at ep
    have b := par_bind (us := [u]) (fd := PySem.W.fnOf fL.d.name fL.d.qual fL.d.params fL.d.body fL.d.scope .none kV doc pm an cdv ct) z3 rfl (by
      show [u].length = (fL.d.params.args.map (·.arg)).length
      rw [← ep]; rfl)
    have b' : bindArgs (PySem.W.fnOf fL.d.name fL.d.qual fL.d.params fL.d.body fL.d.scope .none kV doc pm an cdv ct) ⟨[u], []⟩ = pure ((fL.d.params.args.map (·.arg)).zip [u]) := b
    rw [← ep] at b'
    exact .of_eq b'
  · -- the script is data
    have Ha : H a = some (.frz ob (.lst (ns.map V.int))) := by rw [hH]; exact if_pos rfl
    let F0 : Hp := fun b => if b = a then some (.lst (ns.map V.int)) else none
    have hF0 : ∀ b u, F0 b = some u → b = a ∧ u = .lst (ns.map V.int) := fun b u z => by
      by_cases hb : b = a
      · subst hb
        have z' : (if b = b then some (HO.lst (ns.map V.int)) else none) = some u := z
        rw [if_pos rfl] at z'
        exact ⟨rfl, (Option.some.inj z').symm⟩
      · have z' : (if b = a then some (HO.lst (ns.map V.int)) else none) = some u := z
        rw [if_neg hb] at z'
        cases z'
    refine ⟨rfl, [.d (.lst (ns.map .int))], F0, fun _ => none, _, noEx, ⟨fun b u z => ?_, fun b m z => (by cases z), fun p hp => ?_, fun b ps z => ?_, fun b u z hh => ?_, fun b u z hh => ?_⟩, .cons (.d (.lst (if_pos rfl) (RepL.ofInts ns))) .nil, math ns hl hbits, fun r M' v H' F' q S' K' u' rr => ?_, fun x M' cls dd H' F' q => q.elim⟩
    · obtain ⟨rfl, rfl⟩ := hF0 b u z
      exact .inr ⟨ob, Ha⟩
    · obtain ⟨f, hf, rfl⟩ := List.mem_map.mp hp
      have hm : He.cT K f.d.at_ ∈ d.tf.map (He.cT K) := List.mem_map.mpr ⟨f.d.at_, List.mem_map.mpr ⟨f, hf, rfl⟩, rfl⟩
      refine ⟨#[], ?_, trivial, fun pos cv z => ?_⟩
      · rw [hH]
        show (if (He.cT K f.d.at_).2 = a then _ else _) = _
        rw [if_neg (hta _ hm), if_pos (List.mem_map.mpr ⟨_, hm, rfl⟩)]
      · cases z
    · obtain ⟨_, z2⟩ := hF0 b _ z
      cases z2
    · obtain ⟨_, rfl⟩ := hF0 b u z
      cases hh
    · obtain ⟨_, rfl⟩ := hF0 b u z
      cases hh
    · have q : r = .bl true := q
      subst q
      exact rep_bl rr
  · obtain ⟨fi, hfi⟩ := Option.isSome_iff_exists.mp (o2 fL hfL)
    obtain ⟨AL, _⟩ := all_levels (w := w) FA FA0 (hDef base hKb hnb hTB) HL (n + 1)
    obtain ⟨fd', ps', FF⟩ := AL fL.i (by show (d.fis.lookup fL.i).isSome = true; exact o2 fL hfL)
    obtain ⟨oc, od, osl, lk'⟩ := FF.at_
    obtain ⟨oc2, od2, dV, kV, doc, pm, an, cdv, ct, osl2, e0, lk, _⟩ := FL.ex
    rw [lk'] at lk
    cases lk
    have z := hC fL hfL fi hfi
    unfold defB at z
    simp only [Bool.and_eq_true] at z
    have ep := of_decide_eq_true z.2.1
    have eps : ps' = [x] := by
      rw [FF.par, ← hps, ep, e0]
    subst eps
    rw [← eL]
    exact FF.fn
end
end DS
end
section
set_option Elab.async false
set_option linter.all false
set_option maxRecDepth 100000
set_option maxHeartbeats 4000000
/-! DsE4: the head's look at the text, with the statics; a law's last step. -/
namespace DS
open PySem PySem.Spec PyProof.Rows L2 LamX He
def lookAt (as : List Addr) (fa : List Fa) (fn : List DefD) (tf : List Defn) (ex : PySem.W.Frag → Bool) (g : Addr → Option Obj) : AlX := (obsT fa fn [] (frT g as), ex (frT g as) && tabsB g tf (frT g as))
theorem says_at {as : List Addr} {fa : List Fa} {fn : List DefD} {tf : List Defn} {ex : PySem.W.Frag → Bool} {w : World} {h : Heap} (e : lookAt as fa fn tf ex h.get? = valX fn [] w) : SaysX fa fn [] tf ex w h (frT h.get? as) := by
  generalize hK : frT h.get? as = K
  have e1 : obsT fa fn [] K = valT fn [] w := by rw [← hK]; exact congrArg (·.1) e
  have e2 : (ex K && tabsB h.get? tf K) = true := by rw [← hK]; exact congrArg (·.2) e
  rw [Bool.and_eq_true] at e2
  have tab : ∀ p ∈ tf, PySem.W.codeHdIn K (cT K p).1 (cT K p).2 = true ∧ ∃ o, h.get? (cT K p).2 = some o ∧ emptyTab o = true := fun p hp => by
    have z := List.all_eq_true.mp e2.2 p hp
    rw [Bool.and_eq_true] at z
    obtain ⟨z1, z2⟩ := z
    refine ⟨z1, ?_⟩
    split at z2
    · exact ⟨_, by assumption, z2⟩
    · cases z2
  refine ⟨e1, e2.1, fun p hp => (tab p hp).1, fun p hp => ?_, fun p hp => ?_⟩
  · obtain ⟨_, o, h1, h2⟩ := tab p hp
    rw [← hK] at h1 ⊢
    exact frT_none h1 h2
  · obtain ⟨_, o, h1, h2⟩ := tab p hp
    rw [h1, emptyTab_eq h2]
def eyes (g : Addr → Option Obj) (n : Nat) : List Addr := asD g n ++ [cStatics]
def lookY (n : Nat) (fa : List Fa) (fn : List DefD) (tf : List Defn) (ex : PySem.W.Frag → Bool) (g : Addr → Option Obj) : AlX := lookAt (eyes g n) fa fn tf ex g
def hookY (n : Nat) (fa : List Fa) (fn : List DefD) (tf : List Defn) (ex : PySem.W.Frag → Bool) : PySem.W.Hook where
  α := AlX
  obs := fun s => lookY n fa fn tf ex s.heap.get?
  val := fun w => valX fn [] w
  says := fun w h => ∃ K : PySem.W.Frag, K.In h ∧ SaysX fa fn [] tf ex w h K
  of := fun _ _ e => ⟨_, frT_in, says_at e⟩
  keeps := fun _ _ _ ⟨K, hK, c⟩ k => ⟨K, PySem.W.Frag.In.keeps hK k, ⟨c.t, c.more, c.hd, c.out, fun p hp => k _ _ (c.empty p hp)⟩⟩
theorem lookY_eq {n : Nat} {fa : List Fa} {fn : List DefD} {tf : List Defn} {ex : PySem.W.Frag → Bool} {g : Addr → Option Obj} {s : Shared} (h : ∀ a, g a = s.heap.get? a) : lookY n fa fn tf ex g = (hookY n fa fn tf ex).obs s := by
  have e : g = s.heap.get? := funext h
  subst e
  rfl
def chkDat (d : Dat) : Bool := d.dfs.all fun f => match d.fis.lookup f.i with
  | some fi => defB d.T fi f
  | none => true
theorem fis_of {d : Dat} (h : chkDat d = true) : ∀ f ∈ d.dfs, ∀ fi, d.fis.lookup f.i = some fi → defB d.T fi f = true := fun f hf fi e => by
  have z := List.all_eq_true.mp h f hf
  rw [e] at z
  exact z
/-! ### keywords -/
theorem look_app {α : Type} {a b : List (Str × α)} {k : Str} (h : a.lookup k = none) : (a ++ b).lookup k = b.lookup k := by
  induction a with
  | nil => rfl
  | cons q a ih =>
    obtain ⟨x, v⟩ := q
    rw [List.lookup_cons] at h
    rw [List.cons_append, List.lookup_cons]
    split at h
    · cases h
    · exact ih h
theorem kw_loop {ns : List Str} {f : Str × Value → List (Str × Value) × List (Str × Value) → Sem (ForInStep (List (Str × Value) × List (Str × Value)))}
    (hf : ∀ k v acc, k ∈ ns → acc.lookup k = none → f (k, v) (acc, []) = pure (.yield (acc ++ [(k, v)], []))) :
    ∀ (kvs acc : List (Str × Value)), (∀ q ∈ kvs, q.1 ∈ ns) → (kvs.map (·.1)).Nodup → (∀ q ∈ kvs, acc.lookup q.1 = none) → forIn kvs (acc, []) f = pure (acc ++ kvs, [])
  | [], acc, _, _, _ => by simp
  | (k, v) :: r, acc, h1, h2, h3 => by
    rw [List.map_cons, List.nodup_cons] at h2
    rw [List.forIn_cons, hf k v acc (h1 _ List.mem_cons_self) (h3 _ List.mem_cons_self), pure_bind]
    show forIn r (acc ++ [(k, v)], []) f = _
    rw [kw_loop hf r (acc ++ [(k, v)]) (fun q hq => h1 q (List.mem_cons_of_mem _ hq)) h2.2 fun q hq => ?_, List.append_assoc]
    · rfl
    · rw [look_app (h3 q (List.mem_cons_of_mem _ hq))]
      have : (q.1 == k) = false := by
        have : q.1 ≠ k := fun z => h2.1 (z ▸ List.mem_map.mpr ⟨q, hq, rfl⟩)
        simpa using this
      simp [List.lookup, this]
theorem bind_kw {fd : FuncData} {ws : List Value} {ks : List Str} {ar : List Arg} (hp : fd.params = ⟨[], ar, none, [], [], none, []⟩) (hd : fd.defaults = .none) (nd : (ar.map (·.arg)).Nodup) (hk : ks.Nodup) (hm : ∀ k ∈ ks, k ∈ ar.map (·.arg)) (ha : ∀ k ∈ ar.map (·.arg), k ∈ ks) (hw : ws.length = ks.length) :
    bindArgs fd ⟨[], ks.zip ws⟩ = pure ((ar.map (·.arg)).filterMap fun n => ((ks.zip ws).lookup n).map (n, ·)) := by
  unfold bindArgs
  rw [hp, hd]
  have hs : seqItems? .none = pure none := rfl
  simp only [hs, List.map_nil, List.nil_append, List.append_nil, List.forIn_nil, pure_bind]
  generalize ar.map (·.arg) = ns at nd hm ha
  have hz : (ks.zip ws).map (·.1) = ks := by
    rw [List.map_fst_zip]; omega
  rw [List.zip_nil_right, kw_loop (ns := ns) ?hf (ks.zip ws) [] (fun q hq => hm _ (List.of_mem_zip hq).1) (by rw [hz]; exact hk) (fun _ _ => rfl)]
  case hf =>
    intro k v acc h1 h2
    have c1 : (ns.contains k || ([] : List Str).contains k) = true := by simp [h1]
    simp only [c1, if_true, h2]
    rfl
  simp only [pure_bind, List.nil_append]
  have e0 : ((none : Option (Array Value)).getD #[]).toList = [] := rfl
  have c1 : (decide (([] : List Value).length > ns.length) && (none : Option Arg).isNone) = false := by simp
  have c2 : (ns.filter fun n => (List.lookup n (ks.zip ws)).isNone) = [] := by
    rw [List.filter_eq_nil_iff]
    intro n hn
    obtain ⟨u, hu⟩ := zip_look hw n (ha n hn)
    rw [hu]; simp
  simp only [c1, e0, List.drop_nil, List.length_nil, Nat.sub_zero, List.take_length, List.drop_length, List.zip_nil_right, List.forIn_nil, pure_bind, c2]
  rfl
theorem zip_range {α : Type} {F : Str → Option α} {φ : Nat → Option α} : ∀ (ns : List Str) (o : Nat), (∀ (i : Nat) (n : Str), ns[i]? = some n → ∃ u, F n = some u ∧ φ (o + i) = some u) →
    ns.filterMap (fun n => (F n).map (n, ·)) = ns.zip ((List.range' o ns.length).filterMap φ)
  | [], o, _ => by simp
  | n :: ns, o, h => by
    obtain ⟨u, h1, h2⟩ := h 0 n rfl
    rw [List.length_cons, List.range'_succ, List.filterMap_cons, List.filterMap_cons, h1]
    simp only [Nat.add_zero] at h2
    rw [h2]
    simp only [Option.map_some, List.zip_cons_cons]
    congr 1
    exact zip_range ns (o + 1) fun i m e => by
      obtain ⟨u, a, b⟩ := h (i + 1) m (by simpa using e)
      exact ⟨u, a, by rw [← b]; congr 1; omega⟩
theorem idx_look {α : Type} {ns : List Str} (nd : ns.Nodup) {i : Nat} {n : Str} (hi : ns[i]? = some n) : ∀ {ks : List Str} {ws : List α}, (∀ k ∈ ks, k ∈ ns) → (ks.zip ws).lookup n = ((ks.map fun k => ns.idxOf k).zip ws).lookup i
  | [], _, _ => by simp
  | _ :: _, [], _ => by simp
  | k :: ks, w :: ws, h => by
    have ih := idx_look (ws := ws) nd hi (ks := ks) fun z hz => h z (List.mem_cons_of_mem _ hz)
    have e : (n == k) = (i == ns.idxOf k) := by
      obtain ⟨hlt, hn⟩ := List.getElem?_eq_some_iff.mp hi
      have hk : k ∈ ns := h k List.mem_cons_self
      have hlt2 : ns.idxOf k < ns.length := List.idxOf_lt_length_iff.mpr hk
      have hget : ns[ns.idxOf k] = k := List.getElem_idxOf hlt2
      by_cases z : n = k
      · subst z
        have : i = ns.idxOf n := by
          exact (List.getElem?_inj hlt nd).mp (by rw [hi, List.getElem?_eq_getElem hlt2, hget])
        rw [← this]; simp
      · have : i ≠ ns.idxOf k := fun q => z (by subst q; rw [← hn, hget])
        have a1 : (n == k) = false := by simpa using z
        have a2 : (i == ns.idxOf k) = false := by simpa using this
        rw [a1, a2]
    simp only [List.map_cons, List.zip_cons_cons, List.lookup, e, ih]
theorem kw_arrange {ns ks : List Str} {ws : List Value} (nd : ns.Nodup) (hm : ∀ k ∈ ks, k ∈ ns) (ha : ∀ k ∈ ns, k ∈ ks) (hl : ks.length = ns.length) (hw : ws.length = ks.length) :
    (ns.filterMap fun n => ((ks.zip ws).lookup n).map (n, ·)) = ns.zip (arrange (ks.map fun k => ns.idxOf k) ws) := by
  unfold arrange
  rw [List.range_eq_range', List.length_map, hl]
  refine zip_range ns 0 fun i n hi => ?_
  obtain ⟨u, hu⟩ := zip_look hw n (ha n (List.mem_of_getElem? hi))
  exact ⟨u, hu, by rw [Nat.zero_add, ← idx_look nd hi hm]; exact hu⟩
/-- keywords by a Bool -/
def kwB (a : Arguments) (ks : List Str) (perm : List Nat) : Bool := parB a && (decide ks.Nodup && (ks.all (fun k => decide (k ∈ a.args.map (·.arg))) && ((a.args.map (·.arg)).all (fun k => decide (k ∈ ks)) && ((ks.length == (a.args.map (·.arg)).length) && decide (perm = ks.map fun k => (a.args.map (·.arg)).idxOf k)))))
theorem kwB_bind {fd : FuncData} {ks : List Str} {perm : List Nat} (h : kwB fd.params ks perm = true) (hd : fd.defaults = .none) {ws : List Value} (hl : ws.length = ks.length) : bindArgs fd ⟨[], ks.zip ws⟩ = pure ((fd.params.args.map (·.arg)).zip (arrange perm ws)) := by
  unfold kwB at h
  simp only [Bool.and_eq_true, List.all_eq_true, decide_eq_true_eq, beq_iff_eq] at h
  obtain ⟨h1, h2, h3, h4, h5, h6⟩ := h
  obtain ⟨as, e, nd⟩ := parB_ok h1
  rw [e] at h3 h4 h5 h6 ⊢
  rw [h6, ← kw_arrange nd h3 h4 h5 hl]
  exact bind_kw e hd nd h2 h3 h4 hl
def kwsDat (d : Dat) : Bool := d.kws.all fun k => d.dfs.any fun f => (f.i == k.1) && (f.d.dfl.isEmpty && kwB f.d.params k.2.1 k.2.2)
theorem kws_of {d : Dat} {K : PySem.W.Frag} (h : kwsDat d = true) (D : ∀ f ∈ d.dfs, ∃ fd, FunD K f.d.name f.d.qual f.d.params f.d.body f.d.scope (f.d.dvs K) (f.d.kws K) ((d.G K).fa f.i) fd) : ∀ k ∈ d.kws, KwB K ((d.G K).fa k.1) k.2.1 k.2.2 := fun k hk => by
  obtain ⟨f, hf, z⟩ := List.any_eq_true.mp (List.all_eq_true.mp h k hk)
  simp only [Bool.and_eq_true, beq_iff_eq] at z
  obtain ⟨z1, z2, z3⟩ := z
  obtain ⟨fd, F⟩ := D f hf
  rw [z1] at F
  obtain ⟨oc2, od2, dV, kV, doc, pm, an, cdv, ct, osl2, e0, lk2, _, dv, _⟩ := F.ex
  have e6 : f.d.dvs K = [] := by unfold DefD.dvs; rw [List.isEmpty_iff.mp z2]; rfl
  rw [e6] at dv
  have edV : dV = .none := by
    rcases dv with ⟨_, z⟩ | ⟨z, _⟩
    · exact z
    · exact absurd rfl z
  intro fd' oc od osl lk ws hl
  rw [lk] at lk2
  cases lk2
  subst e0 edV
  exact kwB_bind (fd := PySem.W.fnOf f.d.name f.d.qual f.d.params f.d.body f.d.scope .none kV doc pm an cdv ct) z3 rfl hl
end DS
end
section
set_option Elab.async false
set_option linter.all false
set_option maxRecDepth 100000
/-! MwA: the meaning step by step: one lemma a construct. -/
namespace DS
open PySem
namespace W
section
variable {P : Prg} {Φ : Calls} {ρ ρ' : DEnv} {M M' : Sto} {Q : Po D} {E : Po Exn} {nx : DEnv → Sto → Prop} {rt : Po D}
/-! ### a def -/
theorem fn_in {m i : Nat} {fi : FnI} {ds : List SV} (hm : 1 ≤ m) (hf : P.fns i = some fi) (hl : ds.length = fi.np) (h : wpSs P (Phi P (m - 1)) fi.body (ds.map some ++ emptyN (fi.nn - fi.np)) M ⟨fun _ M' => Q .non M', Q, E⟩) : (Phi P m).fn i ds M Q E := by
  obtain ⟨k, rfl⟩ : ∃ k, m = k + 1 := ⟨m - 1, by omega⟩
  exact ⟨fi, hf, hl, h⟩
theorem clo_in {m l : Nat} {li : LamI} {cs ds : List D} (hm : 1 ≤ m) (hf : P.lams l = some li) (hl : ds.length = li.np) (hc : cs.length = li.nc) (h : wpE P (Phi P (m - 1)) li.body (ds.map (fun d => some (.d d)) ++ cs.map (fun d => some (.d d)) ++ emptyN (li.nn - (li.np + li.nc))) M Q E) : (Phi P m).clo l cs ds M Q E := by
  obtain ⟨k, rfl⟩ : ∃ k, m = k + 1 := ⟨m - 1, by omega⟩
  exact ⟨li, hf, hl, hc, h⟩
/-! ### statements -/
theorem ss_nil (h : nx ρ M) : wpSs P Φ [] ρ M ⟨nx, rt, E⟩ := h
theorem ss_cons {s : IS} {ss : List IS} (h : wpS P Φ s ρ M ⟨fun ρ1 M1 => wpSs P Φ ss ρ1 M1 ⟨nx, rt, E⟩, rt, E⟩) : wpSs P Φ (s :: ss) ρ M ⟨nx, rt, E⟩ := h
theorem ss_env {ss : List IS} {N : Nxt} (e : ρ = ρ') (h : wpSs P Φ ss ρ' M N) : wpSs P Φ ss ρ M N := e ▸ h
theorem st_asg {i : Nat} {e : IE} (h : wpE P Φ e ρ M (fun d M1 => nx (ρ.set i (some (.d d))) M1) E) : wpS P Φ (.asg (.nm i) e) ρ M ⟨nx, rt, E⟩ := by
  unfold wpS
  have : (fun d M1 => ∃ ρ1, bindTg (.nm i) d ρ = some ρ1 ∧ nx ρ1 M1) = fun d M1 => nx (ρ.set i (some (.d d))) M1 := by
    funext d M1
    simp [bindTg]
  simp only [this]
  exact h
theorem st_tup {is : List Nat} {e : IE} (h : wpE P Φ e ρ M (fun d M1 => ∃ xs, seqOf d = some xs ∧ xs.length = is.length ∧ nx ((is.zip xs).foldl (fun ρ (p : Nat × D) => ρ.set p.1 (some (.d p.2))) ρ) M1) E) : wpS P Φ (.asg (.tp is) e) ρ M ⟨nx, rt, E⟩ := by
  unfold wpS
  have : (fun d M1 => ∃ ρ1, bindTg (.tp is) d ρ = some ρ1 ∧ nx ρ1 M1) = fun d M1 => ∃ xs, seqOf d = some xs ∧ xs.length = is.length ∧ nx ((is.zip xs).foldl (fun ρ (p : Nat × D) => ρ.set p.1 (some (.d p.2))) ρ) M1 := by
    funext d M1
    apply propext
    simp only [bindTg]
    cases h : seqOf d with
    | none => simp
    | some xs =>
      by_cases hl : xs.length = is.length
      · simp [hl]
      · simp [hl]
  simp only [this]
  exact h
theorem st_par {is : List Nat} {es : List IE} (h : wpEs P Φ es ρ M (fun ds M1 => ds.length = is.length ∧ nx ((is.zip ds).foldl (fun ρ (p : Nat × D) => ρ.set p.1 (some (.d p.2))) ρ) M1) E) : wpS P Φ (.par is es) ρ M ⟨nx, rt, E⟩ := h
theorem st_set {o i e : IE} (h : wpE P Φ e ρ M (fun d M1 => wpE P Φ o ρ M1 (fun x M2 => wpE P Φ i ρ M2 (fun j M3 => opSet x j d M3 fun M4 => nx ρ M4) E) E) E) : wpS P Φ (.set o i e) ρ M ⟨nx, rt, E⟩ := h
theorem st_fld {o e : IE} {f : Str} (h : wpE P Φ e ρ M (fun d M1 => wpE P Φ o ρ M1 (fun x M2 => ∃ a c fs, x = .mref a ∧ M2 a = some (.ins c fs) ∧ fs.length < 900 ∧ fs.lookup f = none ∧ nx ρ (M2.put a (.ins c (fs ++ [(f, d)])))) E) E) : wpS P Φ (.fld o f e) ρ M ⟨nx, rt, E⟩ := h
theorem st_exp {e : IE} (h : wpE P Φ e ρ M (fun _ M1 => nx ρ M1) E) : wpS P Φ (.exp e) ρ M ⟨nx, rt, E⟩ := h
theorem st_iff {c : IB} {a b : List IS} (h : wpT P Φ c ρ M (fun k M1 => if k = true then wpSs P Φ a ρ M1 ⟨nx, rt, E⟩ else wpSs P Φ b ρ M1 ⟨nx, rt, E⟩) E) : wpS P Φ (.iff c a b) ρ M ⟨nx, rt, E⟩ := h
theorem st_for {tg : Tg} {it : IT} {b : List IS} (h : wpI P Φ it ρ M (fun xs g M1 => walkM g (fun x ρ1 M2 K => ∃ ρ2, bindTg tg x ρ1 = some ρ2 ∧ wpSs P Φ b ρ2 M2 ⟨K, rt, E⟩) xs ρ M1 nx) E) : wpS P Φ (.for tg it b) ρ M ⟨nx, rt, E⟩ := h
theorem st_whl {c : IB} {b : List IS} (n : Nat) (h : whileN (fun ρ1 M1 Q => wpT P Φ c ρ1 M1 Q E) (fun ρ1 M1 K => wpSs P Φ b ρ1 M1 ⟨K, rt, E⟩) nx n ρ M) : wpS P Φ (.whl c b) ρ M ⟨nx, rt, E⟩ := ⟨n, h⟩
theorem st_ret {e : IE} (h : wpE P Φ e ρ M rt E) : wpS P Φ (.ret e) ρ M ⟨nx, rt, E⟩ := h
theorem st_rai {c : Nat} {es : List IE} {ns : List Str} (hn : P.excs c = some ns) (h : wpEs P Φ es ρ M (fun ds M1 => ds.length = ns.length ∧ E ⟨c, ns.zip ds⟩ M1) E) : wpS P Φ (.rai c es) ρ M ⟨nx, rt, E⟩ := ⟨ns, hn, h⟩
theorem st_met {tu : Bool} {w : Str} {e : IE} {hs : List Hnd} (h : wpE P Φ e ρ M (fun d M1 => rt (litD tu [.str w, d]) M1) (fun x M1 => hndD tu hs x M1 ⟨nx, rt, E⟩)) : wpS P Φ (.met tu w e hs) ρ M ⟨nx, rt, E⟩ := h
theorem st_pas (h : nx ρ M) : wpS P Φ .pas ρ M ⟨nx, rt, E⟩ := h
theorem st_fzv {i : Nat} {d : D} (e : ρ[i]? = some (some (.d d))) (h : frozen d M fun d' M1 => nx (ρ.set i (some (.d d'))) M1) : wpS P Φ (.fzv i) ρ M ⟨nx, rt, E⟩ := ⟨d, e, h⟩
/-! ### expressions -/
theorem e_var {i : Nat} {d : D} (e : ρ[i]? = some (some (.d d))) (q : Q d M) : wpE P Φ (.var i) ρ M Q E := ⟨d, e, q⟩
theorem e_int {k : Int} (q : Q (.int k) M) : wpE P Φ (.cst (.int k)) ρ M Q E := q
theorem e_str {k : Str} (q : Q (.str k) M) : wpE P Φ (.cst (.str k)) ρ M Q E := q
theorem e_bl {k : Bool} (q : Q (.bl k) M) : wpE P Φ (.cst (.bl k)) ρ M Q E := q
theorem e_non (q : Q .non M) : wpE P Φ (.cst .non) ρ M Q E := q
theorem e_gstr {k : Str} (q : Q (.str k) M) : wpE P Φ (.glb (.str k)) ρ M Q E := q
theorem e_gint {k : Int} (q : Q (.int k) M) : wpE P Φ (.glb (.int k)) ρ M Q E := q
theorem e_fnv {k : Nat} (q : Q (.fn k) M) : wpE P Φ (.fnv k) ρ M Q E := q
theorem e_bin {op : Operator} {a b : IE} (h : wpE P Φ a ρ M (fun x M1 => wpE P Φ b ρ M1 (fun y M2 => opBin op x y M2 Q) E) E) : wpE P Φ (.bin op a b) ρ M Q E := h
theorem e_neg {a : IE} (h : wpE P Φ a ρ M (fun x M1 => ∃ i, x = .int i ∧ Q (.int (-i)) M1) E) : wpE P Φ (.neg a) ρ M Q E := h
theorem e_not {a : IE} (h : wpE P Φ a ρ M (fun x M1 => ∃ b, tru (vw M1 x) = some b ∧ Q (.bl (!b)) M1) E) : wpE P Φ (.not a) ρ M Q E := h
theorem e_cmp {op : CmpOp} {a b : IE} (h : wpE P Φ a ρ M (fun x M1 => wpE P Φ b ρ M1 (fun y M2 => opCmp op x y M2 Q) E) E) : wpE P Φ (.cmp op a b) ρ M Q E := h
theorem e_chn {op op' : CmpOp} {a b c : IE} (h : wpE P Φ a ρ M (fun x M1 => wpE P Φ b ρ M1 (fun y M2 => opCmp op x y M2 fun z M3 => ∃ k, z = .bl k ∧
      if k = true then wpE P Φ c ρ M3 (fun u M4 => opCmp op' y u M4 Q) E else Q (.bl false) M3) E) E) : wpE P Φ (.chn op op' a b c) ρ M Q E := h
theorem e_and {a b : IE} (h : wpE P Φ a ρ M (fun x M1 => ∃ c, x = .bl c ∧ if c = true then wpE P Φ b ρ M1 Q E else Q (.bl false) M1) E) : wpE P Φ (.and a b) ρ M Q E := h
theorem e_or {a b : IE} (h : wpE P Φ a ρ M (fun x M1 => ∃ c, x = .bl c ∧ if c = true then Q (.bl true) M1 else wpE P Φ b ρ M1 Q E) E) : wpE P Φ (.or a b) ρ M Q E := h
theorem e_ite {c : IB} {a b : IE} (h : wpT P Φ c ρ M (fun k M1 => if k = true then wpE P Φ a ρ M1 Q E else wpE P Φ b ρ M1 Q E) E) : wpE P Φ (.ite c a b) ρ M Q E := h
theorem e_tup {es : List IE} (h : wpEs P Φ es ρ M (fun ds M1 => Q (.tup ds) M1) E) : wpE P Φ (.tup es) ρ M Q E := h
theorem e_lst {es : List IE} (h : wpEs P Φ es ρ M (fun ds M1 => Q (.lst ds) M1) E) : wpE P Φ (.lst false es) ρ M Q E := h
theorem e_lstm {es : List IE} (h : wpEs P Φ es ρ M (fun ds M1 => ∀ p, M1 p = none → Q (.mref p) (M1.put p (.lst ds))) E) : wpE P Φ (.lst true es) ρ M Q E := h
theorem e_dic {mu tk : Bool} {es : List IE} (h : wpEs P Φ es ρ M (fun ds M1 => ∃ kvs, pairUp ds = some kvs ∧ kvs.length ≤ 15 ∧ (∀ kv ∈ kvs, isTK kv.1 = tk) ∧ made mu (.dic (mrgK [] kvs)) M1 Q) E) : wpE P Φ (.dic mu tk es) ρ M Q E := h
theorem e_idx {a b : IE} (h : wpE P Φ a ρ M (fun x M1 => wpE P Φ b ρ M1 (fun y M2 => opIdx x y M2 Q) E) E) : wpE P Φ (.idx a b) ρ M Q E := h
theorem e_slc {bl bh : Bool} {a lo hi : IE} (h : wpE P Φ a ρ M (fun x M1 => wpE P Φ lo ρ M1 (fun l M2 => (bl = true → l ≠ .non) ∧ ∃ o, opSlc.ixO l = some o ∧ wpE P Φ hi ρ M2 (fun h M3 => (bh = true → h ≠ .non) ∧ ∃ o, opSlc.ixO h = some o ∧ opSlc x l h M3 Q) E) E) E) : wpE P Φ (.slc bl bh a lo hi) ρ M Q E := h
theorem e_att {a : IE} {f : Str} (h : wpE P Φ a ρ M (fun x M1 => opAtt x f M1 Q) E) : wpE P Φ (.att a f) ρ M Q E := h
theorem e_cal {f : Nat} {es : List IE} (h : wpEs P Φ es ρ M (fun ds M1 => Φ.fn f (ds.map .d) M1 Q E) E) : wpE P Φ (.cal f es) ρ M Q E := h
theorem e_calL {f : Nat} {as : List IA} (h : wpAs P Φ as ρ M (fun ss M1 => Φ.fn f ss M1 Q noEx) E) : wpE P Φ (.calL f as) ρ M Q E := h
theorem e_cak {f : Nat} {ps : List Nat} {es : List IE} (h : wpEs P Φ es ρ M (fun ds M1 => Φ.fn f ((arrange ps ds).map .d) M1 Q E) E) : wpE P Φ (.cak f ps es) ρ M Q E := h
theorem e_mak {c f : Nat} {es : List IE} (hf : P.inits c = some f) (h : wpEs P Φ es ρ M (fun ds M1 => ∀ p, M1 p = none →
      Φ.fn f (.d (.mref p) :: ds.map .d) (M1.put p (.ins c [])) (fun d M2 => d = .non ∧ ∃ o, M2 p = some o ∧ Q o.d (M2.del p)) noEx) E) : wpE P Φ (.mak c es) ρ M Q E := ⟨f, hf, h⟩
theorem e_cavF {i f : Nat} {es : List IE} (e : ρ[i]? = some (some (.d (.fn f)))) (h : wpEs P Φ es ρ M (fun ds M1 => Φ.fn f (ds.map .d) M1 Q E) E) : wpE P Φ (.cav i es) ρ M Q E := ⟨_, e, rfl, h⟩
theorem e_cavC {i l : Nat} {cs : List D} {es : List IE} (e : ρ[i]? = some (some (.clo l cs))) (h : wpEs P Φ es ρ M (fun ds M1 => Φ.clo l cs ds M1 Q E) E) : wpE P Φ (.cav i es) ρ M Q E := ⟨_, e, rfl, h⟩
theorem e_bi {b : Bi} {es : List IE} (h : wpEs P Φ es ρ M (fun ds M1 => opBi b ds M1 Q) E) : wpE P Φ (.bi b es) ρ M Q E := h
theorem e_bt {b : Bt} {mu : Bool} {it : IT} (h : wpI P Φ it ρ M (fun xs _ M1 => opBt b mu xs M1 Q) E) : wpE P Φ (.bt b mu it) ρ M Q E := h
theorem e_isi {a : IE} {ts : List Ty} (h : wpE P Φ a ρ M (fun x M1 => known (vw M1 x) = true ∧ Q (.bl (ts.any fun t => isTy t (vw M1 x))) M1) E) : wpE P Φ (.isi a ts) ρ M Q E := h
theorem e_me {m : Me} {a : IE} {es : List IE} (h : wpE P Φ a ρ M (fun x M1 => isTy m.ty (vw M1 x) = true ∧ wpEs P Φ es ρ M1 (fun ds M2 => opMe m x ds M2 Q) E) E) : wpE P Φ (.me m a es) ρ M Q E := h
theorem e_mu {m : Mu} {a : IE} {es : List IE} (h : wpE P Φ a ρ M (fun x M1 => isTy .list (vw M1 x) = true ∧ wpEs P Φ es ρ M1 (fun ds M2 => opMu m x ds M2 Q) E) E) : wpE P Φ (.mu m a es) ρ M Q E := h
theorem e_cmpr {mu : Bool} {e : IE} {tg : Tg} {it : IT} {c : IB} (h : wpI P Φ it ρ M (fun xs g M1 => xs.length ≤ lim ∧ mapM' g (fun x M2 K => ∃ ρ', bindTg tg x (wipeD ρ tg.slots) = some ρ' ∧
      wpT P Φ c ρ' M2 (fun b M3 => if b = true then wpE P Φ e ρ' M3 (fun d M4 => K (some d) M4) noEx else K none M3) noEx) xs M1 fun ys M2 => made mu (.lst ys) M2 Q) E) : wpE P Φ (.cmpr mu e tg it c) ρ M Q E := h
theorem e_cmp2 {mu : Bool} {e : IE} {tg : Tg} {it : IT} {c : IB} {tg2 : Tg} {it2 : IT} {c2 : IB} (h : wpI P Φ it ρ M (fun xs g M1 => xs.length ≤ 4096 ∧ mapM'' g (fun x M2 K => ∃ ρ', bindTg tg x (wipeD ρ (tg.slots ++ tg2.slots)) = some ρ' ∧
      wpT P Φ c ρ' M2 (fun b M3 => if b = true then wpI P Φ it2 ρ' M3 (fun zs g2 M4 => zs.length ≤ 4096 ∧ mapM' g2 (fun z M5 K2 => ∃ ρ2, bindTg tg2 z (wipeD ρ' tg2.slots) = some ρ2 ∧
        wpT P Φ c2 ρ2 M5 (fun b M6 => if b = true then wpE P Φ e ρ2 M6 (fun d M7 => K2 (some d) M7) noEx else K2 none M6) noEx) zs M4 K) noEx else K [] M3) noEx) xs M1 fun ys M2 => made mu (.lst ys) M2 Q) E) : wpE P Φ (.cmp2 mu e tg it c tg2 it2 c2) ρ M Q E := h
theorem e_dcm {mu tk : Bool} {k v : IE} {tg : Tg} {it : IT} {c : IB} (h : wpI P Φ it ρ M (fun xs g M1 => xs.length ≤ lim ∧ mapM' g (fun x M2 K => ∃ ρ', bindTg tg x (wipeD ρ tg.slots) = some ρ' ∧
      wpT P Φ c ρ' M2 (fun b M3 => if b = true then wpE P Φ k ρ' M3 (fun y M4 => wpE P Φ v ρ' M4 (fun z M5 => (∃ key, keyOf y = some key ∧ isTK key = tk) ∧ K (some (.tup [y, z])) M5) noEx) noEx else K none M3) noEx) xs M1 fun ys M2 =>
      ∃ kvs, pairsK ys = some kvs ∧ (∀ kv ∈ kvs, isTK kv.1 = tk) ∧ made mu (.dic (mrgK [] kvs)) M2 Q) E) : wpE P Φ (.dcm mu tk k v tg it c) ρ M Q E := h
theorem e_mut {a : IE} (h : wpE P Φ a ρ M (fun d M1 => made true d M1 Q) E) : wpE P Φ (.mut a) ρ M Q E := h
theorem e_frz {a : IE} (h : wpE P Φ a ρ M (fun d M1 => frozen d M1 Q) E) : wpE P Φ (.frz a) ρ M Q E := h
/-! ### tests -/
variable {Qt : Po Bool}
theorem t_and {a b : IB} (h : wpT P Φ a ρ M (fun c M1 => if c = true then wpT P Φ b ρ M1 Qt E else Qt false M1) E) : wpT P Φ (.and a b) ρ M Qt E := h
theorem t_or {a b : IB} (h : wpT P Φ a ρ M (fun c M1 => if c = true then Qt true M1 else wpT P Φ b ρ M1 Qt E) E) : wpT P Φ (.or a b) ρ M Qt E := h
theorem t_not {a : IB} (h : wpT P Φ a ρ M (fun c M1 => Qt (!c) M1) E) : wpT P Φ (.not a) ρ M Qt E := h
theorem t_val {e : IE} (h : wpE P Φ e ρ M (fun x M1 => ∃ b, tru (vw M1 x) = some b ∧ Qt b M1) E) : wpT P Φ (.val e) ρ M Qt E := h
theorem t_yes (h : Qt true M) : wpT P Φ .yes ρ M Qt E := h
/-! ### rows -/
variable {Qs : Po (List D)} {Qa : Po (List SV)}
theorem es_nil (h : Qs [] M) : wpEs P Φ [] ρ M Qs E := h
theorem es_cons {e : IE} {es : List IE} (h : wpE P Φ e ρ M (fun d M1 => wpEs P Φ es ρ M1 (fun ds M2 => Qs (d :: ds) M2) E) E) : wpEs P Φ (e :: es) ρ M Qs E := h
theorem as_nil (h : Qa [] M) : wpAs P Φ [] ρ M Qa E := h
theorem as_e {e : IE} {es : List IA} (h : wpE P Φ e ρ M (fun d M1 => wpAs P Φ es ρ M1 (fun ss M2 => Qa (.d d :: ss) M2) E) E) : wpAs P Φ (.e e :: es) ρ M Qa E := h
theorem as_l {l : Nat} {cs : List Nat} {es : List IA} {ds : List D} (e : slotsD ρ cs = some ds) (h : wpAs P Φ es ρ M (fun ss M2 => Qa (.clo l ds :: ss) M2) E) : wpAs P Φ (.l l cs :: es) ρ M Qa E := ⟨ds, e, h⟩
/-! ### what is walked -/
variable {Qi : IQ}
theorem i_of {e : IE} (h : wpE P Φ e ρ M (fun d M1 => itOf d M1 Qi) E) : wpI P Φ (.of e) ρ M Qi E := h
theorem i_enm {e : IE} (h : wpE P Φ e ρ M (fun d M1 => ∃ xs, seqOf (vw M1 d) = some xs ∧ Qi (enumD 0 xs) (sameS d M1) M1) E) : wpI P Φ (.enm e) ρ M Qi E := h
theorem i_zip {a b : IE} (h : wpE P Φ a ρ M (fun x M1 => wpE P Φ b ρ M1 (fun y M2 => ∃ xs ys, ((vw M2 x = .lst xs ∧ vw M2 y = .lst ys) ∨ (x = .tup xs ∧ y = .tup ys)) ∧ Qi (zipD xs ys) (fun M3 => sameS x M2 M3 ∧ sameS y M2 M3) M2) E) E) : wpI P Φ (.zip a b) ρ M Qi E := h
theorem i_rng {a : IE} (h : wpE P Φ a ρ M (fun x M1 => ∃ i, x = .int i ∧ itRng 0 i M1 Qi) E) : wpI P Φ (.rng a) ρ M Qi E := h
theorem i_rng2 {a b : IE} (h : wpE P Φ a ρ M (fun x M1 => wpE P Φ b ρ M1 (fun y M2 => ∃ i j, x = .int i ∧ y = .int j ∧ itRng i j M2 Qi) E) E) : wpI P Φ (.rng2 a b) ρ M Qi E := h
theorem i_itm {e : IE} (h : wpE P Φ e ρ M (fun d M1 => ∃ kvs, d = .dic kvs ∧ (∀ kv ∈ kvs, isTK kv.1 = false) ∧ Qi (kvs.map fun kv => .tup [ofKey kv.1, kv.2]) anyS M1) E) : wpI P Φ (.itm e) ρ M Qi E := h
theorem i_itv {e : IE} (h : wpE P Φ e ρ M (fun d M1 => ∃ kvs, vw M1 d = .dic kvs ∧ (∀ kv ∈ kvs, isTK kv.1 = false) ∧ Qi (kvs.map fun kv => .tup [ofKey kv.1, kv.2]) anyS M1) E) : wpI P Φ (.itv e) ρ M Qi E := h
theorem i_zpl {a b : IE} (h : wpE P Φ a ρ M (fun x M1 => wpE P Φ b ρ M1 (fun y M2 => ∃ xs ys, (vw M2 x = .lst xs ∧ vw M2 y = .lst ys) ∧ Qi (zipD xs ys) anyS M2) E) E) : wpI P Φ (.zpl a b) ρ M Qi E := h
theorem i_vls {e : IE} (h : wpE P Φ e ρ M (fun d M1 => ∃ kvs, d = .dic kvs ∧ (∀ kv ∈ kvs, isTK kv.1 = false) ∧ Qi (kvs.map fun kv => kv.2) anyS M1) E) : wpI P Φ (.vls e) ρ M Qi E := h
theorem i_vlv {e : IE} (h : wpE P Φ e ρ M (fun d M1 => ∃ kvs, vw M1 d = .dic kvs ∧ (∀ kv ∈ kvs, isTK kv.1 = false) ∧ Qi (kvs.map fun kv => kv.2) anyS M1) E) : wpI P Φ (.vlv e) ρ M Qi E := h
end
end W
end DS
end
section
set_option Elab.async false
set_option linter.all false
set_option maxRecDepth 100000
/-! MwB: operations on known values; rows, walks. -/
namespace DS
open PySem
namespace W
/-! ### the store -/
theorem put_same {M : Sto} {a : Addr} {o : MO} : (M.put a o) a = some o := by simp [Sto.put]
theorem put_ne {M : Sto} {a b : Addr} {o : MO} (h : b ≠ a) : (M.put a o) b = M b := by simp [Sto.put, h]
theorem del_same {M : Sto} {a : Addr} : (M.del a) a = none := by simp [Sto.del]
theorem del_ne {M : Sto} {a b : Addr} (h : b ≠ a) : (M.del a) b = M b := by simp [Sto.del, h]
theorem put_put {M : Sto} {a : Addr} {o o' : MO} : (M.put a o).put a o' = M.put a o' := by
  funext b; simp only [Sto.put]; split <;> rfl
theorem ne_new {M : Sto} {a p : Addr} {o : MO} (h : M a = some o) (hp : M p = none) : a ≠ p := fun z => by subst z; rw [h] at hp; cases hp
@[simp] theorem vw_int {M : Sto} {i : Int} : vw M (.int i) = .int i := rfl
@[simp] theorem vw_str {M : Sto} {i : Str} : vw M (.str i) = .str i := rfl
@[simp] theorem vw_bl {M : Sto} {i : Bool} : vw M (.bl i) = .bl i := rfl
@[simp] theorem vw_non {M : Sto} : vw M .non = .non := rfl
@[simp] theorem vw_lst {M : Sto} {i : List D} : vw M (.lst i) = .lst i := rfl
@[simp] theorem vw_tup {M : Sto} {i : List D} : vw M (.tup i) = .tup i := rfl
@[simp] theorem vw_dic {M : Sto} {i : List (DK × D)} : vw M (.dic i) = .dic i := rfl
@[simp] theorem vw_ins {M : Sto} {c : Nat} {i : List (Str × D)} : vw M (.ins c i) = .ins c i := rfl
@[simp] theorem vw_fn {M : Sto} {i : Nat} : vw M (.fn i) = .fn i := rfl
theorem vw_mref {M : Sto} {a : Addr} {o : MO} (h : M a = some o) : vw M (.mref a) = o.d := by simp [vw, h]
section
variable {M : Sto} {Q : Po D} {E : Po Exn} {x y : D} {i j : Int}
/-! ### arithmetic -/
theorem o_add (q : Q (.int (i + j)) M) : opBin .Add (.int i) (.int j) M Q := q
theorem o_sub (q : Q (.int (i - j)) M) : opBin .Sub (.int i) (.int j) M Q := q
theorem o_mul (h : (-(2 ^ 64) < i ∧ i < 2 ^ 64) ∨ (-(2 ^ 64) < j ∧ j < 2 ^ 64)) (q : Q (.int (i * j)) M) : opBin .Mult (.int i) (.int j) M Q := ⟨.inl h, q⟩
theorem o_mulw (h : i.natAbs.log2 + j.natAbs.log2 < 1000000) (q : Q (.int (i * j)) M) : opBin .Mult (.int i) (.int j) M Q := ⟨.inr h, q⟩
theorem o_fdiv (h : 0 < j ∧ j < 1073741824) (q : Q (.int (i / j)) M) : opBin .FloorDiv (.int i) (.int j) M Q := ⟨.inl h, q⟩
theorem o_mod (h : 0 < j) (q : Q (.int (i % j)) M) : opBin .Mod (.int i) (.int j) M Q := ⟨h, q⟩
theorem o_pow (h : 0 ≤ j ∧ j ≤ 1000000 ∧ i.natAbs < 2 ^ 64) (q : Q (.int (i ^ j.toNat)) M) : opBin .Pow (.int i) (.int j) M Q := ⟨h, q⟩
theorem o_addl {xs ys : List D} (hx : vw M x = .lst xs) (hy : vw M y = .lst ys) (h1 : xs.length ≤ lim) (h2 : ys.length ≤ lim) (q : Q (.lst (xs ++ ys)) M) : opBin .Add x y M Q := by
  unfold opBin
  rw [hx, hy]
  exact ⟨h1, h2, q⟩
/-! ### comparisons -/
theorem o_lt (q : Q (.bl (decide (i < j))) M) : opCmp .Lt (.int i) (.int j) M Q := ⟨i, j, rfl, rfl, q⟩
theorem o_le (q : Q (.bl (decide (i ≤ j))) M) : opCmp .LtE (.int i) (.int j) M Q := ⟨i, j, rfl, rfl, q⟩
theorem o_gt (q : Q (.bl (decide (j < i))) M) : opCmp .Gt (.int i) (.int j) M Q := ⟨i, j, rfl, rfl, q⟩
theorem o_ge (q : Q (.bl (decide (j ≤ i))) M) : opCmp .GtE (.int i) (.int j) M Q := ⟨i, j, rfl, rfl, q⟩
theorem eqD_int : eqD (.int i) (.int j) = some (decide (i = j)) := by
  unfold eqD eqP
  simp only [toP]
  have h1 : SeqAt.shaped (.int i) = true := by simp [SeqAt.shaped, PyData.canLay0, PyData.depth]
  have h2 : SeqAt.shaped (.int j) = true := by simp [SeqAt.shaped, PyData.canLay0, PyData.depth]
  rw [if_pos ⟨h1, h2⟩]
  simp only [PyData.eqv]
  by_cases h : i = j
  · subst h; simp
  · simp [h]
theorem eqD_str {s t : Str} : eqD (.str s) (.str t) = some (decide (s = t)) := rfl
theorem eqD_bl {a b : Bool} : eqD (.bl a) (.bl b) = some (a == b) := by
  cases a <;> cases b <;> rfl
theorem o_eq {b : Bool} (h : eqD (vw M x) (vw M y) = some b) (q : Q (.bl b) M) : opCmp .Eq x y M Q := .inl ⟨b, h, q⟩
theorem o_ne {b : Bool} (h : eqD (vw M x) (vw M y) = some b) (q : Q (.bl (!b)) M) : opCmp .NotEq x y M Q := ⟨b, h, q⟩
theorem o_eqi (q : Q (.bl (decide (i = j))) M) : opCmp .Eq (.int i) (.int j) M Q := o_eq eqD_int q
theorem o_nei (q : Q (.bl (!decide (i = j))) M) : opCmp .NotEq (.int i) (.int j) M Q := o_ne eqD_int q
theorem o_eqs {s t : Str} (q : Q (.bl (decide (s = t))) M) : opCmp .Eq (.str s) (.str t) M Q := o_eq eqD_str q
theorem o_nes {s t : Str} (q : Q (.bl (!decide (s = t))) M) : opCmp .NotEq (.str s) (.str t) M Q := o_ne eqD_str q
theorem o_eqb {s t : Bool} (q : Q (.bl (s == t)) M) : opCmp .Eq (.bl s) (.bl t) M Q := o_eq eqD_bl q
theorem o_neb {s t : Bool} (q : Q (.bl (!(s == t))) M) : opCmp .NotEq (.bl s) (.bl t) M Q := o_ne eqD_bl q
def isNon : D → Bool
  | .non => true
  | _ => false
theorem o_is (h : known (vw M x) = true) (q : Q (.bl (isNon (vw M x))) M) : opCmp .Is x .non M Q := ⟨rfl, h, q⟩
theorem o_isn (h : known (vw M x) = true) (q : Q (.bl (!isNon (vw M x))) M) : opCmp .IsNot x .non M Q := ⟨rfl, h, by
  have z : ∀ d : D, Q (.bl (!isNon d)) M → Q (.bl (match d with | .non => false | _ => true)) M := fun d => by cases d <;> exact id
  exact z _ q⟩
/-- truth -/
theorem tru_b {c : Bool} {F : Bool → Prop} (q : F c) : ∃ b, tru (vw M (.bl c)) = some b ∧ F b := ⟨c, rfl, q⟩
theorem tru_i {F : Bool → Prop} (q : F (i != 0)) : ∃ b, tru (vw M (.int i)) = some b ∧ F b := ⟨_, rfl, q⟩
theorem tru_n {F : Bool → Prop} (q : F false) : ∃ b, tru (vw M .non) = some b ∧ F b := ⟨_, rfl, q⟩
theorem tru_l {F : Bool → Prop} {xs : List D} (h : vw M x = .lst xs) (q : F (!xs.isEmpty)) : ∃ b, tru (vw M x) = some b ∧ F b := ⟨_, by rw [h]; rfl, q⟩
theorem tru_t {F : Bool → Prop} {xs : List D} (h : vw M x = .tup xs) (q : F (!xs.isEmpty)) : ∃ b, tru (vw M x) = some b ∧ F b := ⟨_, by rw [h]; rfl, q⟩
theorem bl_in {c : Bool} {F : Bool → Prop} (q : F c) : ∃ k, D.bl c = .bl k ∧ F k := ⟨c, rfl, q⟩
theorem int_in {F : Int → Prop} (q : F i) : ∃ k, D.int i = .int k ∧ F k := ⟨i, rfl, q⟩
theorem if_b {c : Bool} {A B : Prop} (h1 : c = true → A) (h2 : c = false → B) : if c = true then A else B := by
  cases c with
  | true => exact h1 rfl
  | false => exact h2 rfl
theorem if_tt {A B : Prop} (h : A) : if true = true then A else B := h
theorem if_ff {A B : Prop} (h : B) : if false = true then A else B := h
theorem if_nt {A B : Prop} (h : B) : if (!true) = true then A else B := h
theorem if_nf {A B : Prop} (h : A) : if (!false) = true then A else B := h
theorem if_t {c : Bool} {A B : Prop} (e : c = true) (h : A) : if c = true then A else B := by rw [if_pos e]; exact h
theorem if_f {c : Bool} {A B : Prop} (e : c = false) (h : B) : if c = true then A else B := by rw [e]; exact h
theorem isi_in (h : known (vw M x) = true) {ts : List Ty} {b : Bool} {F : D → Prop} (e : (ts.any fun t => isTy t (vw M x)) = b) (q : F (.bl b)) : known (vw M x) = true ∧ F (.bl (ts.any fun t => isTy t (vw M x))) := ⟨h, by rw [e]; exact q⟩
theorem isi_inb (h : known (vw M x) = true) {ts : List Ty} {b : Bool} {F : Bool → Prop} (e : (ts.any fun t => isTy t (vw M x)) = b) (q : F b) : known (vw M x) = true ∧ ∃ c, D.bl (ts.any fun t => isTy t (vw M x)) = .bl c ∧ F c := ⟨h, _, rfl, by rw [e]; exact q⟩
theorem isi_int (h : known (vw M x) = true) {ts : List Ty} {b : Bool} {F : Bool → Prop} (e : (ts.any fun t => isTy t (vw M x)) = b) (q : F b) : known (vw M x) = true ∧ ∃ c, tru (vw M (.bl (ts.any fun t => isTy t (vw M x)))) = some c ∧ F c := ⟨h, _, rfl, by rw [e]; exact q⟩
theorem isi_q (h : known (vw M x) = true) {ts : List Ty} {b : Bool} (e : (ts.any fun t => isTy t (vw M x)) = b) (q : Q (.bl b) M) : known (vw M x) = true ∧ Q (.bl (ts.any fun t => isTy t (vw M x))) M := ⟨h, by rw [e]; exact q⟩
theorem isi_an {d : D} {p : Prop} (h : known d = true) (q : p) : known d = true ∧ p := ⟨h, q⟩
theorem and_in {p q : Prop} (h : p) (k : q) : p ∧ q := ⟨h, k⟩
/-! ### fields, subscripts -/
theorem o_att {c : Nat} {fs : List (Str × D)} {f : Str} {d : D} (h : vw M x = .ins c fs) (hf : fs.lookup f = some d) (q : Q d M) : opAtt x f M Q := ⟨c, fs, d, h, hf, q⟩
theorem atI_nat {α : Type} {xs : List α} {n : Nat} {a : α} (h : xs[n]? = some a) : L2.atI xs (n : Int) = some a := by
  have hlt : n < xs.length := (List.getElem?_eq_some_iff.mp h).1
  unfold L2.atI L2.ixN
  have e : xs[n] = a := (List.getElem?_eq_some_iff.mp h).2
  simp [hlt, e]
theorem o_idxl {xs : List D} {d : D} (h : vw M x = .lst xs) (ha : L2.atI xs i = some d) (q : Q d M) : opIdx x (.int i) M Q := by
  unfold opIdx; rw [h]; exact ⟨i, d, rfl, ha, q⟩
theorem o_idxt {xs : List D} {d : D} (h : vw M x = .tup xs) (ha : L2.atI xs i = some d) (q : Q d M) : opIdx x (.int i) M Q := by
  unfold opIdx; rw [h]; exact ⟨i, d, rfl, ha, q⟩
theorem o_idxd {kvs : List (DK × D)} {key : DK} {d : D} (h : vw M x = .dic kvs) (hk : keyOf y = some key) (ht : ∀ kv ∈ kvs, isTK kv.1 = isTK key) (ha : getK kvs key = some d) (q : Q d M) : opIdx x y M Q := by
  unfold opIdx; rw [h]; exact ⟨key, d, hk, ht, ha, q⟩
theorem o_ind {kvs : List (DK × D)} {key : DK} (h : vw M y = .dic kvs) (hk : keyOf x = some key) (ht : ∀ kv ∈ kvs, isTK kv.1 = isTK key) (q : Q (.bl (getK kvs key).isSome) M) : opCmp .In x y M Q := by
  unfold opCmp opCmp.opIn
  simp only [h]
  exact ⟨key, hk, ht, q⟩
theorem o_ins {s t : Str} (q : Q (.bl (!(Builtin.Str.occurrences t s 0 t.length 1).isEmpty)) M) : opCmp .In (.str s) (.str t) M Q := ⟨s, rfl, q⟩
theorem o_nins {s t : Str} (q : Q (.bl (!(!(Builtin.Str.occurrences t s 0 t.length 1).isEmpty))) M) : opCmp .NotIn (.str s) (.str t) M Q := ⟨s, rfl, q⟩
/-! ### slices -/
theorem sl_no {F : Option Int → Prop} (q : F none) : (false = true → D.non ≠ .non) ∧ ∃ o, opSlc.ixO .non = some o ∧ F o := ⟨fun z => Bool.noConfusion z, none, rfl, q⟩
theorem ixO_at (h0 : -(2 ^ 62) ≤ j) (h1 : j < 2 ^ 62) : opSlc.ixO (.int j) = some (some j) := if_pos ⟨h0, h1⟩
theorem sl_at {F : Option Int → Prop} (h0 : -(2 ^ 62) ≤ j) (h1 : j < 2 ^ 62) (q : F (some j)) : (true = true → D.int j ≠ .non) ∧ ∃ o, opSlc.ixO (.int j) = some o ∧ F o := ⟨fun _ z => (by cases z), some j, ixO_at h0 h1, q⟩
theorem slL_take {α : Type} (xs : List α) (k : Nat) : slL xs none (some (k : Int)) = xs.take k := by
  unfold slL
  simp only [HT.sIx_none, HT.sIx_nat, List.drop_zero, Nat.sub_zero]
  by_cases h : k ≤ xs.length
  · rw [Nat.min_eq_left h]
  · rw [Nat.min_eq_right (by omega), List.take_of_length_le (Nat.le_refl _), List.take_of_length_le (by omega)]
theorem slL_drop {α : Type} (xs : List α) (k : Nat) : slL xs (some (k : Int)) none = xs.drop k := by
  unfold slL
  simp only [HT.sIx_none, HT.sIx_nat]
  by_cases h : k ≤ xs.length
  · rw [Nat.min_eq_left h, List.take_of_length_le (by simp)]
  · rw [Nat.min_eq_right (by omega), List.drop_eq_nil_of_le (Nat.le_refl _), List.drop_eq_nil_of_le (by omega)]; simp
theorem slL_all {α : Type} (xs : List α) : slL xs none none = xs := by
  unfold slL
  simp [HT.sIx_none]
theorem o_slc_take {xs : List D} {k : Nat} (h : vw M x = .lst xs) (hk : k < 2 ^ 62) (q : Q (.lst (xs.take k)) M) : opSlc x .non (.int k) M Q := by
  unfold opSlc
  refine ⟨none, some k, rfl, ixO_at (by omega) (by omega), ?_⟩
  simp only [h]
  rw [slL_take]; exact q
theorem o_slc_takeT {xs : List D} {k : Nat} (h : vw M x = .tup xs) (hk : k < 2 ^ 62) (q : Q (.tup (xs.take k)) M) : opSlc x .non (.int k) M Q := by
  unfold opSlc
  refine ⟨none, some k, rfl, ixO_at (by omega) (by omega), ?_⟩
  simp only [h]
  rw [slL_take]; exact q
theorem o_slc_drop {xs : List D} {k : Nat} (h : vw M x = .lst xs) (hk : k < 2 ^ 62) (q : Q (.lst (xs.drop k)) M) : opSlc x (.int k) .non M Q := by
  unfold opSlc
  refine ⟨some k, none, ixO_at (by omega) (by omega), rfl, ?_⟩
  simp only [h]
  rw [slL_drop]; exact q
/-! ### in a row of texts -/
theorem inV_strs (s : Str) (ss : List Str) : L2.inV (.str s) (ss.map .str) = decide (s ∈ ss) := by
  unfold L2.inV
  rw [List.any_map]
  induction ss with
  | nil => rfl
  | cons t ss ih =>
    rw [List.any_cons, ih]
    simp only [Function.comp, L2.eqV, List.mem_cons]
    by_cases h : t = s
    · subst h; simp
    · have h2 : ¬ s = t := fun z => h z.symm
      have h3 : (t == s) = false := by simpa using h
      simp [h3, h2]
theorem flat_strs (ss : List Str) : (ss.map D.str).map flat = (ss.map L2.V.str).map some := by
  rw [List.map_map, List.map_map]; rfl
theorem o_in_strl {s : Str} {ss : List Str} (h : vw M y = .lst (ss.map .str)) (q : Q (.bl (decide (s ∈ ss))) M) : opCmp .In (.str s) y M Q := by
  unfold opCmp opCmp.opIn
  simp only [h]
  exact ⟨.str s, ss.map .str, rfl, flat_strs ss, by rw [inV_strs]; exact q⟩
theorem o_nin_strl {s : Str} {ss : List Str} (h : vw M y = .lst (ss.map .str)) (q : Q (.bl (!decide (s ∈ ss))) M) : opCmp .NotIn (.str s) y M Q := by
  unfold opCmp opCmp.opIn
  simp only [h]
  exact ⟨.str s, ss.map .str, rfl, flat_strs ss, by rw [inV_strs]; exact q⟩
theorem o_in_strt {s : Str} {ss : List Str} (h : vw M y = .tup (ss.map .str)) (q : Q (.bl (decide (s ∈ ss))) M) : opCmp .In (.str s) y M Q := by
  unfold opCmp opCmp.opIn
  simp only [h]
  exact ⟨.str s, ss.map .str, rfl, flat_strs ss, by rw [inV_strs]; exact q⟩
/-! ### built-ins -/
theorem o_len_l {xs : List D} (h : vw M x = .lst xs) (q : Q (.int xs.length) M) : opBi .len [x] M Q := by
  show oLen x M Q
  unfold oLen; rw [h]; exact q
theorem o_len_t {xs : List D} (h : vw M x = .tup xs) (q : Q (.int xs.length) M) : opBi .len [x] M Q := by
  show oLen x M Q
  unfold oLen; rw [h]; exact q
theorem o_len_d {xs : List (DK × D)} (h : vw M x = .dic xs) (q : Q (.int xs.length) M) : opBi .len [x] M Q := by
  show oLen x M Q
  unfold oLen; rw [h]; exact q
theorem o_len_s {s : Str} (hl : s.length ≤ lim) (q : Q (.int s.length) M) : opBi .len [.str s] M Q := ⟨hl, q⟩
theorem o_int_i (q : Q (.int i) M) : opBi .int [.int i] M Q := q
theorem o_int_b {b : Bool} (q : Q (.int (if b then 1 else 0)) M) : opBi .int [.bl b] M Q := q
theorem intsD_map (ns : List Int) : intsD (ns.map .int) = some ns := by
  induction ns with
  | nil => rfl
  | cons n ns ih => simp [intsD, ih]
theorem bls_map (ns : List Bool) : bls (ns.map .bl) = some ns := by
  induction ns with
  | nil => rfl
  | cons n ns ih => simp [bls, ih]
theorem o_sum {ns : List Int} (h : vw M x = .lst (ns.map .int)) (q : Q (.int ns.sum) M) : opBi .sum [x] M Q := ⟨_, ns, h, intsD_map ns, q⟩
theorem o_all {bs : List Bool} (h : vw M x = .lst (bs.map .bl)) (q : Q (.bl (bs.all id)) M) : opBi .all [x] M Q := ⟨_, bs, h, bls_map bs, q⟩
theorem o_any {bs : List Bool} (h : vw M x = .lst (bs.map .bl)) (q : Q (.bl (bs.any id)) M) : opBi .any [x] M Q := ⟨_, bs, h, bls_map bs, q⟩
theorem o_list_l {xs : List D} (h : vw M x = .lst xs) (q : Q (.lst xs) M) : opBi .list [x] M Q := by
  show oList x M Q
  unfold oList; rw [h]; exact q
theorem o_list_t {xs : List D} (h : vw M x = .tup xs) (q : Q (.lst xs) M) : opBi .list [x] M Q := by
  show oList x M Q
  unfold oList; rw [h]; exact q
theorem o_list_d {xs : List (DK × D)} (h : vw M x = .dic xs) (q : Q (.lst (xs.map fun kv => ofKey kv.1)) M) : opBi .list [x] M Q := by
  show oList x M Q
  unfold oList; rw [h]; exact q
theorem o_tuple_l {xs : List D} (h : vw M x = .lst xs) (q : Q (.tup xs) M) : opBi .tuple [x] M Q := by
  show oTuple x M Q
  unfold oTuple; rw [h]; exact q
theorem o_tuple_t {xs : List D} (h : vw M x = .tup xs) (q : Q (.tup xs) M) : opBi .tuple [x] M Q := by
  show oTuple x M Q
  unfold oTuple; rw [h]; exact q
theorem o_dict_l {xs : List D} {kvs : List (DK × D)} (h : vw M x = .lst xs) (hk : pairsK xs = some kvs) (ht : ∀ kv ∈ kvs, isTK kv.1 = false) (q : Q (.dic (mrgK [] kvs)) M) : opBi .dict [x] M Q := by
  show oDict x M Q
  unfold oDict; rw [h]; exact ⟨kvs, hk, ht, q⟩
theorem o_max1 {ns : List Int} (h : vw M x = .lst (ns.map .int)) (hn : ns ≠ []) (q : ∀ m ∈ ns, (∀ y ∈ ns, y ≤ m) → Q (.int m) M) : opBi .max1 [x] M Q := ⟨_, ns, h, intsD_map ns, hn, q⟩
theorem o_min1 {ns : List Int} (h : vw M x = .lst (ns.map .int)) (hn : ns ≠ []) (q : ∀ m ∈ ns, (∀ y ∈ ns, m ≤ y) → Q (.int m) M) : opBi .min1 [x] M Q := ⟨_, ns, h, intsD_map ns, hn, q⟩
/-- sorted, as a function -/
def ins (x : Int) : List Int → List Int
  | [] => [x]
  | y :: r => if x ≤ y then x :: y :: r else y :: ins x r
def srt : List Int → List Int
  | [] => []
  | x :: r => ins x (srt r)
theorem ins_perm (x : Int) : ∀ l, (ins x l).Perm (x :: l)
  | [] => .refl _
  | y :: r => by
    unfold ins
    split
    · exact .refl _
    · exact ((ins_perm x r).cons y).trans (.swap x y r)
theorem srt_perm : ∀ l, (srt l).Perm l
  | [] => .refl _
  | x :: r => (ins_perm x _).trans ((srt_perm r).cons x)
theorem ins_sorted (x : Int) : ∀ l, l.Pairwise (· ≤ ·) → (ins x l).Pairwise (· ≤ ·)
  | [], _ => by simp [ins]
  | y :: r, h => by
    rw [List.pairwise_cons] at h
    unfold ins
    split
    · rename_i hxy
      refine List.pairwise_cons.mpr ⟨fun z hz => ?_, List.pairwise_cons.mpr h⟩
      rcases List.mem_cons.mp hz with rfl | hz
      · exact hxy
      · have := h.1 z hz; omega
    · rename_i hxy
      refine List.pairwise_cons.mpr ⟨fun z hz => ?_, ins_sorted x r h.2⟩
      rcases List.mem_cons.mp ((ins_perm x r).mem_iff.mp hz) with rfl | hz
      · omega
      · exact h.1 z hz
theorem srt_sorted : ∀ l, (srt l).Pairwise (· ≤ ·)
  | [] => .nil
  | x :: r => ins_sorted x _ (srt_sorted r)
theorem srt_unique {a b : List Int} (ha : a.Pairwise (· ≤ ·)) (hb : b.Pairwise (· ≤ ·)) (h : a.Perm b) : a = b :=
  h.eq_of_pairwise (fun _ _ _ _ h1 h2 => by omega) ha hb
theorem srt_eq {l m : List Int} (hp : m.Perm l) (hs : m.Pairwise (· ≤ ·)) : m = srt l := srt_unique hs (srt_sorted l) (hp.trans (srt_perm l).symm)
theorem o_sorted {ns : List Int} (h : vw M x = .lst (ns.map .int)) (q : Q (.lst ((srt ns).map .int)) M) : opBi .sorted [x] M Q := ⟨_, ns, h, intsD_map ns, fun ns' hp hs => by rw [srt_eq hp hs]; exact q⟩
theorem b_sorted {ns : List Int} (q : Q (.lst ((srt ns).map .int)) M) : opBt .sorted false (ns.map .int) M Q := ⟨ns, intsD_map ns, fun ns' hp hs => by rw [srt_eq hp hs]; exact q⟩
theorem b_list {xs : List D} (h : xs.length ≤ lim) (q : Q (.lst xs) M) : opBt .list false xs M Q := ⟨h, q⟩
theorem b_listm {xs : List D} (h : xs.length ≤ lim) (q : ∀ p, M p = none → Q (.mref p) (M.put p (.lst xs))) : opBt .list true xs M Q := ⟨h, q⟩
/-! ### changes in place -/
theorem u_append {a : Addr} {xs : List D} {d : D} (h : M a = some (.lst xs)) (hl : xs.length < lim) (q : Q .non (M.put a (.lst (xs ++ [d])))) : opMu .append (.mref a) [d] M Q := ⟨a, xs, rfl, h, d, rfl, hl, q⟩
theorem u_pop1 {a : Addr} {xs : List D} {n : Nat} {d : D} (h : M a = some (.lst xs)) (hx : xs[n]? = some d) (q : Q d (M.put a (.lst (xs.eraseIdx n)))) : opMu .pop1 (.mref a) [.int n] M Q := by
  have hlt : n < xs.length := (List.getElem?_eq_some_iff.mp hx).1
  refine ⟨a, xs, rfl, h, n, d, rfl, by omega, by omega, ?_, ?_⟩
  · simpa using hx
  · simpa using q
theorem u_extend {a : Addr} {xs ys : List D} {d : D} (h : M a = some (.lst xs)) (hd : vw M d = .lst ys) (hne : d ≠ .mref a) (h1 : xs.length ≤ lim) (h2 : ys.length ≤ lim) (q : Q .non (M.put a (.lst (xs ++ ys)))) : opMu .extend (.mref a) [d] M Q := ⟨a, xs, rfl, h, d, ys, rfl, hd, hne, h1, h2, q⟩
theorem u_set_l {a : Addr} {xs : List D} {n : Nat} {d : D} {R : Sto → Prop} (h : M a = some (.lst xs)) (hn : n < xs.length) (q : R (M.put a (.lst (xs.set n d)))) : opSet (.mref a) (.int n) d M R := by
  refine ⟨a, rfl, ?_⟩
  rw [h]
  exact ⟨n, rfl, by omega, by omega, by simpa using q⟩
theorem u_set_d {a : Addr} {kvs : List (DK × D)} {y d : D} {k : DK} {R : Sto → Prop} (h : M a = some (.dic kvs)) (hk : keyOf y = some k) (ht : ∀ kv ∈ kvs, isTK kv.1 = isTK k) (hl : kvs.length < lim) (q : R (M.put a (.dic (setK kvs k d)))) : opSet (.mref a) y d M R := by
  refine ⟨a, rfl, ?_⟩
  rw [h]
  exact ⟨k, hk, ht, hl, q⟩
theorem made_f {d : D} (q : Q d M) : made false d M Q := q
theorem made_l {xs : List D} (q : ∀ p, M p = none → Q (.mref p) (M.put p (.lst xs))) : made true (.lst xs) M Q := q
theorem made_d {xs : List (DK × D)} (q : ∀ p, M p = none → Q (.mref p) (M.put p (.dic xs))) : made true (.dic xs) M Q := q
theorem frz_m {a : Addr} {o : MO} (h : M a = some o) (q : Q o.d (M.del a)) : frozen (.mref a) M Q := ⟨o, h, q⟩
end
/-! ### rows and walks -/
section
variable {M : Sto} {Qi : IQ} {d : D}
theorem it_str {s : Str} (q : Qi (signs s) anyS M) : itOf (.str s) M Qi := q
theorem it_lst {xs : List D} (q : Qi xs (sameS (.lst xs) M) M) : itOf (.lst xs) M Qi := q
theorem it_tup {xs : List D} (q : Qi xs anyS M) : itOf (.tup xs) M Qi := q
theorem it_dic {kvs : List (DK × D)} (q : Qi (kvs.map fun kv => ofKey kv.1) anyS M) : itOf (.dic kvs) M Qi := ⟨rfl, q⟩
theorem it_lstv {xs : List D} (h : vw M d = .lst xs) (q : Qi xs (sameS d M) M) : itOf d M Qi := by unfold itOf; rw [h]; exact q
theorem it_enl {xs : List D} {F : List D → Prop} (q : F xs) : ∃ ys, seqOf (vw M (.lst xs)) = some ys ∧ F ys := ⟨xs, rfl, q⟩
theorem it_ent {xs : List D} {F : List D → Prop} (q : F xs) : ∃ ys, seqOf (vw M (.tup xs)) = some ys ∧ F ys := ⟨xs, rfl, q⟩
theorem it_rng {i : Int} (h0 : -(2 ^ 62) ≤ i) (h1 : i < 2 ^ 62) (q : Qi ((List.range i.toNat).map fun (k : Nat) => .int k) anyS M) : ∃ k, D.int i = .int k ∧ itRng 0 k M Qi := ⟨i, rfl, by omega, by omega, h0, h1, by
  have e : ((List.range (i - 0).toNat).map fun (k : Nat) => D.int (0 + k)) = (List.range i.toNat).map fun (k : Nat) => .int k := by simp
  rw [e]; exact q⟩
end
theorem any_in {M : Sto} : anyS M := trivial
theorem same_in {M : Sto} {d : D} : sameS d M M := rfl
section
variable {M : Sto} {gd : Sto → Prop}
/-- each item gives one thing, nothing changes -/
theorem map_all {α : Type} {c : α → D} {f : D → Sto → Po (Option D) → Prop} {g : α → D} {Q : Po (List D)} (hg : gd M) :
    ∀ (l : List α), (∀ x ∈ l, ∀ K : Po (Option D), K (some (g x)) M → f (c x) M K) → Q (l.map g) M → mapM' gd f (l.map c) M Q := by
  intro l
  induction l generalizing Q with
  | nil => exact fun _ q => ⟨hg, q⟩
  | cons x l ih =>
    intro h q
    exact ⟨hg, h x List.mem_cons_self _ (ih (fun y hy => h y (List.mem_cons_of_mem _ hy)) q)⟩
theorem map_allD {f : D → Sto → Po (Option D) → Prop} {g : D → D} {Q : Po (List D)} (hg : gd M) (l : List D) (h : ∀ x ∈ l, ∀ K : Po (Option D), K (some (g x)) M → f x M K) (q : Q (l.map g) M) : mapM' gd f l M Q := by
  have z := map_all (c := id) (f := f) (g := g) (Q := Q) hg l h q
  rwa [List.map_id] at z
/-- each item gives one thing or none, nothing changes -/
theorem map_some {α : Type} {c : α → D} {f : D → Sto → Po (Option D) → Prop} {g : α → Option D} {Q : Po (List D)} (hg : gd M) :
    ∀ (l : List α), (∀ x ∈ l, ∀ K : Po (Option D), K (g x) M → f (c x) M K) → Q (l.filterMap g) M → mapM' gd f (l.map c) M Q := by
  intro l
  induction l generalizing Q with
  | nil => exact fun _ q => ⟨hg, q⟩
  | cons x l ih =>
    intro h q
    refine ⟨hg, h x List.mem_cons_self _ (ih (fun y hy => h y (List.mem_cons_of_mem _ hy)) ?_)⟩
    rw [List.filterMap_cons] at q
    cases e : g x with
    | none => rw [e] at q; exact q
    | some d => rw [e] at q; exact q
/-- by an invariant over what is done, what is made, the store -/
theorem map_inv {f : D → Sto → Po (Option D) → Prop} {Q : Po (List D)} (I : Nat → List D → Sto → Prop) {xs : List D} (h0 : I 0 [] M) (hg : ∀ n ys M', I n ys M' → gd M')
    (step : ∀ n ys M' x, xs[n]? = some x → I n ys M' → ∀ K : Po (Option D), (∀ o M2, I (n + 1) (ys ++ o.toList) M2 → K o M2) → f x M' K) (fin : ∀ ys M', I xs.length ys M' → Q ys M') : mapM' gd f xs M Q := by
  have key : ∀ (rest pre : List D) (ys : List D) (M' : Sto) (R : Po (List D)), pre ++ rest = xs → I pre.length ys M' → (∀ zs M2, Q (ys ++ zs) M2 → R zs M2) → mapM' gd f rest M' R := by
    intro rest
    induction rest with
    | nil =>
      intro pre ys M' R e i k
      rw [List.append_nil] at e
      subst e
      exact ⟨hg _ _ _ i, k _ _ (by simpa using fin ys M' i)⟩
    | cons x rest ih =>
      intro pre ys M' R e i k
      refine ⟨hg _ _ _ i, ?_⟩
      have hx : xs[pre.length]? = some x := by rw [← e]; simp
      refine step pre.length ys M' x hx i _ fun o M2 i2 => ?_
      refine ih (pre ++ [x]) (ys ++ o.toList) M2 _ (by simpa using e) (by simpa using i2) fun zs M3 q => ?_
      exact k _ _ (by simpa using q)
  exact key xs [] [] M Q rfl h0 fun zs M2 q => by simpa using q
/-- a for by an invariant -/
theorem walk_inv {f : D → DEnv → Sto → (DEnv → Sto → Prop) → Prop} {R : DEnv → Sto → Prop} {ρ : DEnv} (I : Nat → DEnv → Sto → Prop) {xs : List D} (h0 : I 0 ρ M) (hg : ∀ n ρ' M', I n ρ' M' → gd M')
    (step : ∀ n ρ' M' x, xs[n]? = some x → I n ρ' M' → ∀ K : DEnv → Sto → Prop, (∀ ρ2 M2, I (n + 1) ρ2 M2 → K ρ2 M2) → f x ρ' M' K) (fin : ∀ ρ' M', I xs.length ρ' M' → R ρ' M') : walkM gd f xs ρ M R := by
  have key : ∀ (rest pre : List D) (ρ' : DEnv) (M' : Sto), pre ++ rest = xs → I pre.length ρ' M' → walkM gd f rest ρ' M' R := by
    intro rest
    induction rest with
    | nil =>
      intro pre ρ' M' e i
      rw [List.append_nil] at e
      subst e
      exact ⟨hg _ _ _ i, fin _ _ i⟩
    | cons x rest ih =>
      intro pre ρ' M' e i
      refine ⟨hg _ _ _ i, step pre.length ρ' M' x (by rw [← e]; simp) i _ fun ρ2 M2 i2 => ?_⟩
      exact ih (pre ++ [x]) ρ2 M2 (by simpa using e) (by simpa using i2)
  exact key xs [] ρ M rfl h0
/-- a while by an invariant and a measure -/
theorem while_inv {t : DEnv → Sto → Po Bool → Prop} {b : DEnv → Sto → (DEnv → Sto → Prop) → Prop} {R : DEnv → Sto → Prop} (I : Nat → DEnv → Sto → Prop)
    (step : ∀ n ρ' M', I n ρ' M' → ∀ K : Po Bool, (∀ M2, R ρ' M2 → K false M2) → (∀ M2, 0 < n → (∀ L : DEnv → Sto → Prop, (∀ ρ3 M3, I (n - 1) ρ3 M3 → L ρ3 M3) → b ρ' M2 L) → K true M2) → t ρ' M' K) :
    ∀ (n : Nat) {ρ : DEnv}, I n ρ M → whileN t b R (n + 1) ρ M := by
  have key : ∀ (n : Nat) (ρ : DEnv) (M : Sto), I n ρ M → whileN t b R (n + 1) ρ M := by
    intro n
    induction n with
    | zero =>
      intro ρ M i
      exact step 0 ρ M i _ (fun M2 r => by simpa using r) fun M2 h _ => absurd h (Nat.lt_irrefl 0)
    | succ n ih =>
      intro ρ M i
      refine step (n + 1) ρ M i _ (fun M2 r => by simpa using r) fun M2 _ hb => ?_
      simp only [if_true]
      exact hb _ fun ρ3 M3 i3 => ih ρ3 M3 i3
  exact fun n ρ i => key n ρ M i
end
end W
end DS
end
section
set_option Elab.async false
set_option linter.all false
set_option maxRecDepth 100000
/-! MwC: dicts with text keys, paths. -/
namespace DS
open PySem
def kS (s : Str) : DK := .inl (.inr s)
/-- a dict with text keys -/
def dS {α : Type} (c : α → D) (kvs : List (Str × α)) : D := .dic (kvs.map fun q => (kS q.1, c q.2))
abbrev dI (kvs : List (Str × Int)) : D := dS .int kvs
theorem getK_nil (k : DK) : getK [] k = none := rfl
theorem getK_cons (k k' : DK) (d : D) (l : List (DK × D)) : getK ((k', d) :: l) k = if k' = k then some d else getK l k := by
  unfold getK
  rw [List.find?_cons]
  by_cases h : k' = k
  · simp [h]
  · simp [h]
theorem kS_inj {a b : Str} : kS a = kS b ↔ a = b := by
  constructor
  · intro h; exact Sum.inr.inj (Sum.inl.inj h)
  · rintro rfl; rfl
theorem getK_dS {α : Type} (c : α → D) (kvs : List (Str × α)) (k : Str) : getK (kvs.map fun q => (kS q.1, c q.2)) (kS k) = (kvs.lookup k).map c := by
  induction kvs with
  | nil => rfl
  | cons q r ih =>
    obtain ⟨x, v⟩ := q
    rw [List.map_cons, getK_cons, ih, List.lookup_cons]
    by_cases h : x = k
    · subst h; simp
    · have h2 : (k == x) = false := by simpa using fun z : k = x => h z.symm
      rw [if_neg (fun z => h (kS_inj.mp z)), h2]
theorem isTK_dS {α : Type} (c : α → D) (kvs : List (Str × α)) : ∀ kv ∈ kvs.map (fun q => (kS q.1, c q.2)), isTK kv.1 = false := by
  intro kv h
  obtain ⟨q, _, rfl⟩ := List.mem_map.mp h
  rfl
theorem setK_new {kvs : List (DK × D)} {k : DK} {v : D} (h : ∀ kv ∈ kvs, kv.1 ≠ k) : setK kvs k v = kvs ++ [(k, v)] := by
  unfold setK
  rw [if_neg]
  simp only [List.any_eq_true, decide_eq_true_eq, not_exists, not_and]
  exact h
theorem mrg_app : ∀ (more kvs : List (DK × D)), ((kvs ++ more).map (·.1)).Nodup → mrgK kvs more = kvs ++ more
  | [], kvs, _ => by simp [mrgK]
  | (k, v) :: more, kvs, h => by
    have h1 : ∀ kv ∈ kvs, kv.1 ≠ k := fun kv hkv z => by
      rw [List.map_append, List.nodup_append] at h
      exact h.2.2 kv.1 (List.mem_map.mpr ⟨kv, hkv, rfl⟩) k (by simp) z
    show mrgK (setK kvs k v) more = _
    rw [setK_new h1, mrg_app more (kvs ++ [(k, v)]) (by simpa using h)]
    simp
theorem mrg_nd {kvs : List (DK × D)} (h : (kvs.map (·.1)).Nodup) : mrgK [] kvs = kvs := by
  have := mrg_app kvs [] (by simpa using h)
  simpa using this
theorem nd_kS {α : Type} {c : α → D} {kvs : List (Str × α)} (h : (kvs.map (·.1)).Nodup) : ((kvs.map fun q => (kS q.1, c q.2)).map (·.1)).Nodup := by
  rw [List.map_map]
  have e : ((fun x : DK × D => x.1) ∘ fun q : Str × α => (kS q.1, c q.2)) = kS ∘ (·.1) := rfl
  rw [e, ← List.map_map]
  exact List.Pairwise.map _ (fun a b hab z => hab (kS_inj.mp z)) h
theorem pairsK_S {α : Type} (c : α → D) (kvs : List (Str × α)) : pairsK (kvs.map fun q => .tup [.str q.1, c q.2]) = some (kvs.map fun q => (kS q.1, c q.2)) := by
  induction kvs with
  | nil => rfl
  | cons q r ih =>
    rw [List.map_cons, List.map_cons]
    unfold pairsK
    rw [ih]
    rfl
/-- a dict from pairs with text keys -/
theorem W.o_dict_S {α : Type} {c : α → D} {M : Sto} {Q : Po D} {x : D} {kvs : List (Str × α)} (h : vw M x = .lst (kvs.map fun q => .tup [.str q.1, c q.2])) (nd : (kvs.map (·.1)).Nodup) (q : Q (dS c kvs) M) : opBi .dict [x] M Q := by
  refine W.o_dict_l h (pairsK_S c kvs) (isTK_dS c kvs) ?_
  rw [mrg_nd (nd_kS nd)]
  exact q
theorem W.o_idxS {α : Type} {c : α → D} {M : Sto} {Q : Po D} {x : D} {kvs : List (Str × α)} {k : Str} {v : α} (h : vw M x = dS c kvs) (hv : kvs.lookup k = some v) (q : Q (c v) M) : opIdx x (.str k) M Q :=
  W.o_idxd (key := kS k) h rfl (isTK_dS c kvs) (by rw [getK_dS, hv]; rfl) q
theorem W.o_inS {α : Type} {c : α → D} {M : Sto} {Q : Po D} {y : D} {kvs : List (Str × α)} {k : Str} (h : vw M y = dS c kvs) (q : Q (.bl (kvs.lookup k).isSome) M) : opCmp .In (.str k) y M Q :=
  W.o_ind (key := kS k) h rfl (isTK_dS c kvs) (by rw [getK_dS, Option.isSome_map]; exact q)
/-- the rows of a dict with text keys -/
theorem itemsS {α : Type} (c : α → D) (kvs : List (Str × α)) : ((kvs.map fun q => (kS q.1, c q.2)).map fun kv => D.tup [ofKey kv.1, kv.2]) = kvs.map fun q => .tup [.str q.1, c q.2] := by
  rw [List.map_map]; rfl
theorem keysS {α : Type} (c : α → D) (kvs : List (Str × α)) : ((kvs.map fun q => (kS q.1, c q.2)).map fun kv => ofKey kv.1) = (kvs.map (·.1)).map .str := by
  rw [List.map_map, List.map_map]; rfl
theorem valsS {α : Type} (c : α → D) (kvs : List (Str × α)) : ((kvs.map fun q => (kS q.1, c q.2)).map fun kv => kv.2) = (kvs.map (·.2)).map c := by
  rw [List.map_map, List.map_map]; rfl
/-! ### plain data -/
def plainP (p : PyData) : Bool := p.canLay0 && decide (p.depth ≤ 60)
def plainD (d : D) : Prop := ∃ p, toP d = some p ∧ plainP p = true
theorem toPs_of : ∀ {xs : List D}, (∀ d ∈ xs, plainD d) → ∃ ps, toPs xs = some ps ∧ PyData.canLayAll0 ps = true ∧ PyData.depthAll ps ≤ 60
  | [], _ => ⟨[], rfl, rfl, by simp [PyData.depthAll]⟩
  | d :: xs, h => by
    obtain ⟨p, h1, h2⟩ := h d List.mem_cons_self
    obtain ⟨ps, h3, h4, h5⟩ := toPs_of fun y hy => h y (List.mem_cons_of_mem _ hy)
    simp only [plainP, Bool.and_eq_true, decide_eq_true_eq] at h2
    refine ⟨p :: ps, by simp [toPs, h1, h3], by simp [PyData.canLayAll0, h2.1, h4], ?_⟩
    simp only [PyData.depthAll]
    omega
theorem plain_int (i : Int) : plainD (.int i) := ⟨.int i, rfl, rfl⟩
theorem plain_str {s : Str} (h : PyData.strOk s = true) : plainD (.str s) := ⟨.str s, rfl, by simp [plainP, PyData.canLay0, h, PyData.depth]⟩
theorem plain_tup {xs : List D} (h : ∀ d ∈ xs, ∃ p, toP d = some p ∧ p.canLay0 = true ∧ p.depth ≤ 50) : plainD (.tup xs) := by
  have : ∀ {xs : List D}, (∀ d ∈ xs, ∃ p, toP d = some p ∧ p.canLay0 = true ∧ p.depth ≤ 50) → ∃ ps, toPs xs = some ps ∧ PyData.canLayAll0 ps = true ∧ PyData.depthAll ps ≤ 50 := by
    intro xs
    induction xs with
    | nil => exact fun _ => ⟨[], rfl, rfl, by simp [PyData.depthAll]⟩
    | cons d xs ih =>
      intro h
      obtain ⟨p, h1, h2, h6⟩ := h d List.mem_cons_self
      obtain ⟨ps, h3, h4, h5⟩ := ih fun y hy => h y (List.mem_cons_of_mem _ hy)
      refine ⟨p :: ps, by simp [toPs, h1, h3], by simp [PyData.canLayAll0, h2, h4], ?_⟩
      simp only [PyData.depthAll]
      omega
  obtain ⟨ps, h1, h2, h3⟩ := this h
  exact ⟨.tuple ps, by simp [toP, h1], by simp [plainP, PyData.canLay0, PyData.depth, h2]; omega⟩
theorem eq_nil {xs : List D} (h : ∀ d ∈ xs, plainD d) : eqD (.lst xs) (.lst []) = some xs.isEmpty := by
  obtain ⟨ps, h1, h2, h3⟩ := toPs_of h
  unfold eqD eqP
  simp only [toP, h1, toPs, Option.map_some]
  have a1 : SeqAt.shaped (.list ps) = true := by simp [SeqAt.shaped, PyData.canLay0, PyData.depth, h2]; omega
  have a2 : SeqAt.shaped (.list []) = true := rfl
  rw [if_pos ⟨a1, a2⟩]
  cases xs with
  | nil => cases h1; rfl
  | cons d xs =>
    cases ps with
    | nil => simp only [toPs] at h1; split at h1 <;> simp at h1
    | cons p ps => rfl
/-! ### enumerate -/
theorem enumD_map {α : Type} (c : α → D) : ∀ (l : List α) (i : Nat), enumD i (l.map c) = (l.zipIdx i).map fun q => .tup [.int (q.2 : Nat), c q.1]
  | [], _ => rfl
  | x :: l, i => by
    rw [List.map_cons, enumD, enumD_map c l (i + 1), List.zipIdx_cons, List.map_cons]
/-! ### paths -/
def rankL (ns : List Str) : List (Str × Int) := ns.zipIdx.map fun q => (q.1, (q.2 : Int))
def pathD (ns : List Str) : D := .ins 0 [("names", .tup (ns.map .str)), ("many", .int ns.length), ("ranks", dI (rankL ns))]
theorem rankL_keys (ns : List Str) : (rankL ns).map (·.1) = ns := by
  unfold rankL
  rw [List.map_map]
  have : ((fun x : Str × Int => x.1) ∘ fun q : Str × Nat => (q.1, (q.2 : Int))) = Prod.fst := rfl
  rw [this]
  simp
section
variable {M : Sto} {Q : Po D} {ns : List Str}
theorem W.p_names (q : Q (.tup (ns.map .str)) M) : opAtt (pathD ns) "names" M Q := W.o_att rfl (by rfl) q
theorem W.p_many (q : Q (.int ns.length) M) : opAtt (pathD ns) "many" M Q := W.o_att rfl (by rfl) q
theorem W.p_ranks (q : Q (dI (rankL ns)) M) : opAtt (pathD ns) "ranks" M Q := W.o_att rfl (by rfl) q
end
end DS
end
section
set_option Elab.async false
set_option linter.all false
set_option maxRecDepth 100000
/-! MwD: draws. -/
namespace DS
open PySem
/-- the draws at a: so many may still be drawn -/
def Dr (M : Sto) (a : Addr) (r : Nat) : Prop := ∃ c s t : Int, M a = some (.lst [.int c, .int s, .int t]) ∧ 0 ≤ c ∧ 0 ≤ s ∧ s < 2147483647 ∧ 0 ≤ t ∧ t + r ≤ 1000000000000
theorem Dr.mono {M : Sto} {a : Addr} {r r' : Nat} (h : Dr M a r) (hr : r' ≤ r) : Dr M a r' := by
  obtain ⟨c, s, t, h1, h2, h3, h4, h5, h6⟩ := h
  exact ⟨c, s, t, h1, h2, h3, h4, h5, by omega⟩
theorem Dr.some {M : Sto} {a : Addr} {r : Nat} (h : Dr M a r) : ∃ o, M a = some o := let ⟨_, _, _, e, _⟩ := h; ⟨_, e⟩
theorem Dr.ne {M : Sto} {a p : Addr} {r : Nat} (h : Dr M a r) (hp : M p = none) : p ≠ a := fun z => by
  obtain ⟨o, e⟩ := h.some
  rw [z, e] at hp; cases hp
/-- what is there stays, but for a -/
def Ke (a : Addr) (M M' : Sto) : Prop := ∀ b o, M b = some o → b ≠ a → M' b = some o
theorem Ke.refl (a : Addr) (M : Sto) : Ke a M M := fun _ _ h _ => h
theorem Ke.trans {a : Addr} {M M1 M2 : Sto} (h : Ke a M M1) (k : Ke a M1 M2) : Ke a M M2 := fun b o e n => k b o (h b o e n) n
theorem Ke.put {a : Addr} {M : Sto} {o : MO} : Ke a M (M.put a o) := fun b o' e n => by rw [W.put_ne n]; exact e
theorem Ke.new {a p : Addr} {M : Sto} {o : MO} (hp : M p = none) : Ke a M (M.put p o) := fun b o' e n => by rw [W.put_ne (W.ne_new e hp)]; exact e
theorem Ke.chg {a p : Addr} {M M' : Sto} {o : MO} (h : Ke a M M') (hp : M p = none) : Ke a M (M'.put p o) := fun b o' e n => by rw [W.put_ne (W.ne_new e hp)]; exact h b o' e n
theorem Ke.del {a p : Addr} {M M' : Sto} (h : Ke a M M') (hp : M p = none) : Ke a M (M'.del p) := fun b o' e n => by rw [W.del_ne (W.ne_new e hp)]; exact h b o' e n
theorem Dr.put {M : Sto} {a p : Addr} {r : Nat} {o : MO} (h : Dr M a r) (n : p ≠ a) : Dr (M.put p o) a r := by
  obtain ⟨c, s, t, h1, h2⟩ := h
  exact ⟨c, s, t, by rw [W.put_ne (Ne.symm n)]; exact h1, h2⟩
theorem Dr.del {M : Sto} {a p : Addr} {r : Nat} (h : Dr M a r) (n : p ≠ a) : Dr (M.del p) a r := by
  obtain ⟨c, s, t, h1, h2⟩ := h
  exact ⟨c, s, t, by rw [W.del_ne (Ne.symm n)]; exact h1, h2⟩
end DS
end
section
set_option Elab.async false
set_option linter.all false
set_option maxRecDepth 100000
/-! MwR: repr. -/
namespace DS
open PySem
theorem shI_len {i : Int} (h0 : 0 ≤ i) (h1 : i < 10 ^ 18) : (PyData.int i).shown.length ≤ 18 := by
  have e : (PyData.int i).shown = Str.ofString (toString i) := by simp [PyData.shown]
  rw [e]
  exact PyProof.Rows.toString_length_le h0 (by decide) h1
theorem shI_ok {i : Int} (h0 : 0 ≤ i) (h1 : i < 10 ^ 18) : (PyData.int i).showable = true := by
  simp only [PyData.showable, decide_eq_true_eq]
  have h : i.natAbs < 2 ^ 60 := by omega
  by_cases z : i.natAbs = 0
  · rw [z]; decide
  · have := (Nat.log2_lt z).mpr h
    omega
def shD (kvs : List (Str × Int)) : Str := (PyData.dict (kvs.map fun q => (.str q.1, .int q.2))).shown
theorem kvsP_S : ∀ kvs : List (Str × Int), kvsP (kvs.map fun q => (kS q.1, D.int q.2)) = some (kvs.map fun q => (.str q.1, .int q.2))
  | [] => rfl
  | q :: r => by
    rw [List.map_cons, List.map_cons, kvsP, kvsP_S r]
    rfl
theorem piled_S {k : Nat} : ∀ {kvs : List (Str × Int)}, (∀ q ∈ kvs, (PyData.str q.1).shown.length ≤ k ∧ 0 ≤ q.2 ∧ q.2 < 10 ^ 18) → piled (PyData.shownKv (kvs.map fun q => (.str q.1, .int q.2))) ≤ kvs.length * (k + 22) ∧ PyData.showableKv (kvs.map fun q => (.str q.1, .int q.2)) = true ∧ PyData.depthKv (kvs.map fun q => (.str q.1, .int q.2)) ≤ 10
  | [], _ => by simp [PyData.shownKv, PyData.showableKv, PyData.depthKv, piled]
  | q :: r, h => by
    obtain ⟨h1, h2, h3⟩ := h q List.mem_cons_self
    obtain ⟨i1, i2, i3⟩ := piled_S (fun x hx => h x (List.mem_cons_of_mem _ hx))
    refine ⟨?_, ?_, ?_⟩
    · rw [List.map_cons, PyData.shownKv, piled_cons, Str.length_append, Str.length_append]
      have := shI_len h2 h3
      have e : ((": " : String) : Str).length = 2 := rfl
      rw [e]
      rw [List.length_cons, Nat.succ_mul]
      omega
    · simp only [List.map_cons, PyData.showableKv, i2, shI_ok h2 h3, Bool.and_true]
      rfl
    · simp only [List.map_cons, PyData.depthKv, PyData.depth]
      omega
theorem W.o_repr_dI {M : Sto} {Q : Po D} {x : D} {kvs : List (Str × Int)} (k : Nat) (h : vw M x = dI kvs) (hq : ∀ q ∈ kvs, (PyData.str q.1).shown.length ≤ k ∧ 0 ≤ q.2 ∧ q.2 < 10 ^ 18) (hl : kvs.length * (k + 22) ≤ 1000000) (q : Q (.str (shD kvs)) M) : opBi .repr [x] M Q := by
  obtain ⟨h1, h2, h3⟩ := piled_S hq
  refine ⟨_, by rw [h]; show (kvsP _).map _ = _; rw [kvsP_S]; rfl, by simpa [PyData.showable] using h2, by simp only [PyData.depth]; omega, ?_, q⟩
  have e : (PyData.dict (kvs.map fun q => (.str q.1, .int q.2))).shown = dictText (PyData.shownKv (kvs.map fun q => (.str q.1, .int q.2))) := by simp [PyData.shown]
  rw [e]
  unfold dictText
  rw [Str.length_append, Str.length_append]
  have e1 : (("{" : String) : Str).length = 1 := rfl
  have e2 : (("}" : String) : Str).length = 1 := rfl
  rw [e1, e2]
  generalize PyData.shownKv (kvs.map fun q => (.str q.1, .int q.2)) = ts at *
  by_cases z : ts = []
  · subst z
    show 1 + 0 + 1 ≤ lim
    decide
  · have := join_length_add ts z
    unfold lim
    omega
theorem W.o_repr_int {M : Sto} {Q : Po D} {i : Int} (h0 : 0 ≤ i) (h1 : i < 10 ^ 18) (q : Q (.str (PyData.int i).shown) M) : opBi .repr [.int i] M Q :=
  ⟨.int i, rfl, shI_ok h0 h1, by simp [PyData.depth], by have := shI_len h0 h1; unfold lim; omega, q⟩
theorem W.o_repr_non {M : Sto} {Q : Po D} (q : Q (.str (PyData.none).shown) M) : opBi .repr [.non] M Q :=
  ⟨.none, rfl, rfl, by simp [PyData.depth], by decide +kernel, q⟩
/-- two equal lists of ints -/
theorem toPs_int : ∀ ns : List Int, toPs (ns.map .int) = some (ns.map .int)
  | [] => rfl
  | i :: r => by rw [List.map_cons, toPs, toPs_int r]; rfl
theorem lay_int : ∀ ns : List Int, PyData.canLayAll0 (ns.map .int) = true ∧ PyData.depthAll (ns.map .int) ≤ 10
  | [] => by simp [PyData.canLayAll0, PyData.depthAll]
  | i :: r => by
    have := lay_int r
    simp [PyData.canLayAll0, PyData.depthAll, PyData.canLay0, PyData.depth, this.1]
    omega
theorem eqD_ints (ns : List Int) : eqD (.lst (ns.map .int)) (.lst (ns.map .int)) = some true := by
  obtain ⟨h1, h2⟩ := lay_int ns
  have c : PyData.canLay0 (.list (ns.map .int)) = true := by simp [PyData.canLay0, h1]
  have a1 : SeqAt.shaped (.list (ns.map .int)) = true := by simp [SeqAt.shaped, PyData.canLay0, PyData.depth, h1]; omega
  unfold eqD eqP
  simp only [toP, toPs_int, Option.map_some]
  rw [if_pos ⟨a1, a1⟩]
  simp [SeqAt.eqv_refl _ c]
end DS
end
section
set_option maxHeartbeats 4000000
open PySem PySem.Spec PyProof.Rows L2 LamX DS
/-! ### the text of the law: where its defs stand, their IR, the names -/
namespace L
abbrev prog : Program := PySem.Challenge.pw_ringwalkers_k40_whole_one_lacking
def top (i : Nat) : Stmt := prog.main.body.getD i (.Pass ⟨0, 0, 0, 0⟩)
def inCls (j : Nat) : Stmt → Stmt
  | .ClassDef _ _ _ b _ _ _ _ _ _ _ => b.getD j (.Pass ⟨0, 0, 0, 0⟩)
  | s => s
def f1 : FnI := ⟨1, 1, [.ret (.isi (.var 0) [.list, .tuple])]⟩
def f2 : FnI := ⟨1, 1, [.ret (.and (.isi (.var 0) [.int]) (.not (.isi (.var 0) [.bool])))]⟩
def f3 : FnI := ⟨1, 1, [.ret (.and (.cal 2 [(.var 0)]) (.cmp .GtE (.var 0) (.cst (.int 0))))]⟩
def f4 : FnI := ⟨1, 1, [.ret (.and (.cal 2 [(.var 0)]) (.cmp .GtE (.var 0) (.cst (.int 1))))]⟩
def f5 : FnI := ⟨1, 2, [.iff (.or (.not (.val (.isi (.var 0) [.str]))) (.or (.not (.val (.chn .LtE .LtE (.cst (.int 1)) (.bi .len [(.var 0)]) (.cst (.int 8))))) (.val (.cmp .NotIn (.idx (.var 0) (.cst (.int 0))) (.glb (.str "abcdefghijklmnopqrstuvwxyz")))))) [.ret (.cst (.bl false))] [], .ret (.bi .all [(.cmpr false (.or (.cmp .In (.var 1) (.glb (.str "abcdefghijklmnopqrstuvwxyz"))) (.cmp .In (.var 1) (.glb (.str "0123456789")))) (.nm 1) (.of (.var 0)) .yes)])]⟩
def f6 : FnI := ⟨2, 5, [.iff (.not (.val (.cal 1 [(.var 1)]))) [.rai 2 [(.cst (.int 0))]] [], .for (.tp [2, 3]) (.enm (.var 1)) [.iff (.or (.not (.val (.cal 5 [(.var 3)]))) (.val (.cmp .In (.var 3) (.slc false true (.var 1) (.cst .non) (.var 2))))) [.rai 2 [(.var 2)]] []], .iff (.val (.cmp .Lt (.bi .len [(.var 1)]) (.cst (.int 2)))) [.rai 2 [(.bi .len [(.var 1)])]] [], .fld (.var 0) "names" (.bi .tuple [(.var 1)]), .fld (.var 0) "many" (.bi .len [(.att (.var 0) "names")]), .fld (.var 0) "ranks" (.dcm false false (.var 3) (.var 4) (.tp [4, 3]) (.enm (.att (.var 0) "names")) .yes)]⟩
def f7 : FnI := ⟨1, 1, [.iff (.not (.val (.isi (.var 0) [.cls 0]))) [.rai 3 [(.var 0)]] []]⟩
def f8 : FnI := ⟨3, 4, [.iff (.or (.not (.val (.isi (.var 1) [.dict]))) (.val (.cmp .NotEq (.bi .len [(.var 1)]) (.att (.var 0) "many")))) [.ret (.cst (.bl false))] [], .ret (.bi .all [(.cmpr false (.and (.cmp .In (.var 3) (.var 1)) (.cav 2 [(.idx (.var 1) (.var 3))])) (.nm 3) (.of (.att (.var 0) "names")) .yes)])]⟩
def f9 : FnI := ⟨1, 1, [.iff (.not (.val (.cal 4 [(.var 0)]))) [.rai 4 [(.var 0)]] []]⟩
def f10 : FnI := ⟨3, 3, [.exp (.cal 7 [(.var 0)]), .iff (.not (.val (.cal 8 [(.var 0), (.var 1), (.fnv 3)]))) [.rai 5 [(.var 1)]] [], .exp (.cal 9 [(.var 2)])]⟩
def f11 : FnI := ⟨3, 6, [.for (.tp [3, 4]) (.enm (.bi .sorted [(.cmpr false (.idx (.var 1) (.var 5)) (.nm 5) (.of (.att (.var 0) "names")) .yes)])) [.iff (.val (.cmp .Gt (.var 4) (.bin .Mult (.var 3) (.var 2)))) [.ret (.tup [(.var 3), (.var 4)])] []], .ret (.cst .non)]⟩
def f12 : FnI := ⟨3, 3, [.exp (.cal 10 [(.var 0), (.var 1), (.var 2)]), .ret (.cal 11 [(.var 0), (.var 1), (.var 2)])]⟩
def f13 : FnI := ⟨2, 4, [.iff (.or (.not (.val (.isi (.var 1) [.dict]))) (.val (.cmp .NotEq (.bi .len [(.var 1)]) (.bin .Sub (.att (.var 0) "many") (.cst (.int 1)))))) [.ret (.cst (.bl false))] [], .asg (.nm 2) (.cmpr false (.var 3) (.nm 3) (.of (.att (.var 0) "names")) (.val (.cmp .In (.var 3) (.var 1)))), .ret (.and (.cmp .Eq (.bi .len [(.var 2)]) (.bi .len [(.var 1)])) (.bi .all [(.cmpr false (.cal 3 [(.idx (.var 1) (.var 3))]) (.nm 3) (.of (.var 2)) .yes)]))]⟩
def f14 : FnI := ⟨3, 7, [.exp (.cal 7 [(.var 0)]), .iff (.not (.val (.cal 13 [(.var 0), (.var 1)]))) [.rai 6 [(.var 1)]] [], .exp (.cal 9 [(.var 2)]), .asg (.nm 3) (.bt .sorted false (.vlv (.var 1))), .iff (.val (.bi .any [(.cmpr false (.cmp .Gt (.var 6) (.bin .Mult (.bin .Add (.var 5) (.cst (.int 1))) (.var 2))) (.tp [5, 6]) (.enm (.var 3)) .yes)])) [.ret (.cst .non)] [], .asg (.nm 4) (.cmpr false (.var 5) (.tp [5, 6]) (.enm (.var 3)) (.val (.cmp .Gt (.var 6) (.bin .Mult (.var 5) (.var 2))))), .ret (.bin .Mult (.var 2) (.ite (.val (.var 4)) (.idx (.var 4) (.cst (.int 0))) (.bi .len [(.var 3)])))]⟩
def f15 : FnI := ⟨2, 5, [.asg (.nm 2) (.ite (.val (.cmp .Lt (.var 1) (.bi .len [(.var 0)]))) (.idx (.var 0) (.var 1)) (.bin .Add (.bin .Add (.bin .Mod (.bi .int [(.bi .sum [(.slc false true (.var 0) (.cst .non) (.cst (.int 1)))])]) (.cst (.int 1000003))) (.bin .Mult (.cst (.int 13)) (.var 1))) (.cst (.int 3)))), .asg (.nm 3) (.bin .Add (.bin .Mult (.cst (.int 7919)) (.var 1)) (.cst (.int 17))), .for (.nm 4) (.of (.var 0)) [.asg (.nm 3) (.bin .Mod (.bi .int [(.bin .Add (.bin .Mult (.var 3) (.cst (.int 37))) (.var 4))]) (.cst (.int 2147483629)))], .ret (.lst true [(.ite (.val (.cmp .GtE (.var 2) (.bin .Pow (.cst (.int 10)) (.cst (.int 18))))) (.var 2) (.cst (.int 0))), (.bin .Mod (.bi .int [(.bin .Add (.var 3) (.bin .Mult (.cst (.int 48271)) (.var 2)))]) (.cst (.int 2147483629))), (.cst (.int 0))])]⟩
def f16 : FnI := ⟨2, 4, [.iff (.val (.cmp .Gt (.idx (.var 0) (.cst (.int 0))) (.cst (.int 0)))) [.asg (.nm 2) (.bin .Mod (.bi .int [(.idx (.var 0) (.cst (.int 0)))]) (.var 1)), .set (.var 0) (.cst (.int 0)) (.bin .FloorDiv (.idx (.var 0) (.cst (.int 0))) (.var 1)), .ret (.var 2)] [], .set (.var 0) (.cst (.int 2)) (.bin .Add (.idx (.var 0) (.cst (.int 2))) (.cst (.int 1))), .asg (.nm 3) (.bin .Mod (.bin .Pow (.bi .int [(.bin .Add (.idx (.var 0) (.cst (.int 1))) (.bin .Mult (.cst (.int 7919)) (.idx (.var 0) (.cst (.int 2)))))]) (.cst (.int 5))) (.cst (.int 2147483647))), .ret (.bin .Mod (.bin .FloorDiv (.bin .Mod (.bi .int [(.bin .Mult (.bin .Add (.var 3) (.idx (.var 0) (.cst (.int 2)))) (.cst (.int 40692)))]) (.cst (.int 2147483629))) (.cst (.int 16))) (.var 1))]⟩
def f17 : FnI := ⟨2, 2, [.ret (.idx (.var 1) (.cal 16 [(.var 0), (.bi .len [(.var 1)])]))]⟩
def f18 : FnI := ⟨2, 4, [.par [2, 3] [(.mut (.bi .list [(.var 1)])), (.lst true [])], .whl (.val (.cmp .NotEq (.var 2) (.lst false []))) [.exp (.mu .append (.var 3) [(.mu .pop1 (.var 2) [(.cal 16 [(.var 0), (.bi .len [(.var 2)])])])])], .ret (.frz (.var 3))]⟩
def f19 : FnI := ⟨2, 4, [.iff (.val (.isi (.var 1) [.list, .tuple])) [.iff (.or (.val (.cmp .NotEq (.isi (.var 0) [.list]) (.isi (.var 1) [.list]))) (.val (.cmp .NotEq (.isi (.var 0) [.tuple]) (.isi (.var 1) [.tuple])))) [.ret (.cst (.bl false))] [], .ret (.and (.cmp .Eq (.bi .len [(.var 0)]) (.bi .len [(.var 1)])) (.bi .all [(.cmpr false (.cal 19 [(.var 2), (.var 3)]) (.tp [2, 3]) (.zip (.var 0) (.var 1)) .yes)]))] [], .iff (.val (.isi (.var 1) [.dict])) [.ret (.and (.isi (.var 0) [.dict]) (.cal 19 [(.bt .list false (.itv (.var 0))), (.bt .list false (.itv (.var 1)))]))] [], .iff (.val (.isi (.var 1) [.int])) [.ret (.and (.isi (.var 0) [.int]) (.and (.cmp .Eq (.isi (.var 0) [.bool]) (.isi (.var 1) [.bool])) (.cmp .Eq (.var 0) (.var 1))))] [], .ret (.and (.not (.isi (.var 0) [.int, .list, .tuple, .dict])) (.cmp .Eq (.var 0) (.var 1)))]⟩
def f20 : FnI := ⟨2, 4, [.iff (.val (.isi (.var 1) [.list, .tuple])) [.asg (.nm 2) (.cmpr false (.cal 20 [(.var 0), (.var 3)]) (.nm 3) (.of (.var 1)) .yes), .ret (.ite (.val (.cmp .Eq (.cal 16 [(.var 0), (.cst (.int 2))]) (.cst (.int 0)))) (.var 2) (.bi .tuple [(.var 2)]))] [], .ret (.var 1)]⟩
def f21 : FnI := ⟨2, 3, [.asg (.nm 2) (.lst false [(.cst (.str "a")), (.cst (.str "b")), (.cst (.str "c9")), (.cst (.str "zoe")), (.cst (.str "eightsgn")), (.cst (.str "m")), (.cst (.str "k2")), (.cst (.str "ann")), (.cst (.str "x")), (.cst (.str "bo")), (.cst (.str "q7")), (.cst (.str "last")), (.cst (.str "d")), (.cst (.str "e1")), (.cst (.str "ff")), (.cst (.str "g")), (.cst (.str "hal"))]), .ret (.slc false true (.cal 18 [(.var 0), (.bin .Add (.var 2) (.lst false [(.cst (.str "i")), (.cst (.str "jo")), (.cst (.str "kay2"))]))]) (.cst .non) (.var 1))]⟩
def f22 : FnI := ⟨2, 2, [.ret (.cal 21 [(.var 0), (.bin .Add (.cst (.int 2)) (.cal 16 [(.var 0), (.bin .Sub (.var 1) (.cst (.int 1)))]))])]⟩
def f23 : FnI := ⟨2, 2, [.ret (.mak 0 [(.cal 20 [(.var 0), (.var 1)])])]⟩
def f24 : FnI := ⟨1, 3, [.ret (.bi .dict [(.cmpr false (.tup [(.var 2), (.var 1)]) (.tp [1, 2]) (.enm (.var 0)) .yes)])]⟩
def f25 : FnI := ⟨4, 8, [.asg (.tp [4, 5]) (.tup [(.cal 23 [(.var 0), (.var 1)]), (.bin .Add (.bi .list [(.var 3)]) (.slc false true (.bi .list [(.var 3)]) (.cst .non) (.cst (.int 1))))]), .asg (.nm 6) (.cmpr false (.bi .repr [(.cav 2 [(.var 4), (.var 7)])]) (.nm 7) (.of (.var 5)) .yes), .ret (.cmp .Eq (.var 6) (.cmpr false (.bi .repr [(.cav 2 [(.cal 23 [(.var 0), (.var 1)]), (.var 7)])]) (.nm 7) (.of (.var 5)) .yes))]⟩
def f26 : FnI := ⟨2, 6, [.asg (.nm 2) (.bi .sorted [(.bt .list false (.vlv (.var 0)))]), .asg (.nm 3) (.cmpr false (.tup [(.var 4), (.var 5)]) (.tp [4, 5]) (.enm (.var 2)) (.val (.cmp .Gt (.var 5) (.bin .Mult (.var 4) (.var 1))))), .ret (.ite (.val (.cmp .NotEq (.var 3) (.lst false []))) (.idx (.var 3) (.cst (.int 0))) (.cst .non))]⟩
def f27 : FnI := ⟨3, 5, [.asg (.nm 3) (.cmpr false (.cal 16 [(.var 0), (.bin .Add (.bin .Mult (.var 4) (.var 2)) (.cst (.int 1)))]) (.nm 4) (.rng (.bi .len [(.var 1)])) .yes), .ret (.bt .dict false (.zpl (.var 1) (.cal 18 [(.var 0), (.var 3)])))]⟩
def f28 : FnI := ⟨1, 2, [.met false "told" (.cav 0 []) [⟨3, "path", (.inl "thing")⟩, ⟨6, "part", (.inl "part")⟩, ⟨4, "most", (.inl "most")⟩]]⟩
def f29 : FnI := ⟨3, 5, [.asg (.nm 3) (.cal 17 [(.var 0), (.var 1)]), .ret (.tup [(.var 3), (.bi .dict [(.cmpr false (.tup [(.var 4), (.idx (.var 2) (.var 4))]) (.nm 4) (.of (.cal 18 [(.var 0), (.var 1)])) (.val (.cmp .NotEq (.var 4) (.var 3))))])])]⟩
def f30 : FnI := ⟨3, 3, [.ret (.bi .dict [(.bin .Add (.bt .list false (.itv (.var 0))) (.lst false [(.tup [(.var 1), (.var 2)])]))])]⟩
def f31 : FnI := ⟨1, 17, [.asg (.tp [1, 2]) (.tup [(.cal 22 [(.var 0), (.cst (.int 6))]), (.cal 17 [(.var 0), (.lst false [(.cst (.int 1)), (.cst (.int 1)), (.cst (.int 2)), (.cst (.int 3))])])]), .par [3, 4] [(.cal 23 [(.var 0), (.var 1)]), (.lst true [])], .for (.nm 5) (.rng (.cst (.int 5))) [.asg (.nm 6) (.cal 27 [(.var 0), (.var 1), (.var 2)]), .iff (.val (.cmp .Gt (.var 5) (.cst (.int 1)))) [.asg (.nm 7) (.cal 17 [(.var 0), (.var 1)]), .asg (.nm 6) (.bi .dict [(.bin .Add (.bt .list false (.itv (.var 6))) (.lst false [(.tup [(.var 7), (.bin .Add (.idx (.var 6) (.var 7)) (.cal 16 [(.var 0), (.cst (.int 3))]))])]))])] [], .asg (.tp [8, 9]) (.cal 29 [(.var 0), (.var 1), (.var 6)]), .asg (.nm 10) (.cmpr false (.cal 30 [(.var 9), (.var 8), (.var 15)]) (.nm 15) (.rng (.bin .Add (.bin .Mult (.var 2) (.bi .len [(.var 1)])) (.cst (.int 2)))) .yes), .asg (.nm 11) (.cmpr false (.idx (.var 16) (.var 8)) (.nm 16) (.of (.var 10)) (.val (.cmp .Is (.cal 26 [(.var 16), (.var 2)]) (.cst .non)))), .par [12, 13] [(.ite (.val (.cmp .NotEq (.var 11) (.lst false []))) (.bi .max1 [(.var 11)]) (.cst .non)), (.bi .repr [(.var 9)])], .iff (.or (.val (.cmp .NotEq (.var 11) (.bt .list false (.rng (.bi .len [(.var 11)]))))) (.or (.not (.val (.cal 19 [(.cal 14 [(.var 3), (.var 9), (.var 2)]), (.var 12)]))) (.val (.cmp .NotEq (.bi .repr [(.var 9)]) (.var 13))))) [.ret (.cst (.bl false))] [], .iff (.not (.val (.cal 19 [(.cak 14 [2, 1, 0] [(.var 2), (.var 9), (.var 3)]), (.var 12)]))) [.ret (.cst (.bl false))] [], .iff (.and (.val (.cmp .IsNot (.var 12) (.cst .non))) (.val (.cmp .Is (.cal 12 [(.var 3), (.cal 30 [(.var 9), (.var 8), (.bin .Add (.var 12) (.cst (.int 1)))]), (.var 2)]) (.cst .non)))) [.ret (.cst (.bl false))] [], .exp (.mu .append (.var 4) [(.var 9)])], .asg (.nm 14) (.lst false [(.tup [(.idx (.var 4) (.cst (.int 0))), (.var 2)]), (.tup [(.idx (.var 4) (.cst (.int 0))), (.bin .Add (.var 2) (.cst (.int 1)))]), (.tup [(.idx (.var 4) (.cst (.int 1))), (.var 2)]), (.tup [(.idx (.var 4) (.cst (.int 1))), (.bin .Add (.bin .Add (.var 2) (.cst (.int 1))) (.cal 16 [(.var 0), (.cst (.int 9))]))])]), .ret (.calL 25 [.e (.var 0), .e (.var 1), .l 3100 [], .e (.var 14)])]⟩
def f32 : FnI := ⟨1, 10, [.asg (.tp [1, 2]) (.tup [(.cal 21 [(.var 0), (.bin .Add (.cst (.int 12)) (.cal 16 [(.var 0), (.cst (.int 9))]))]), (.cal 17 [(.var 0), (.lst false [(.cst (.int 3)), (.cst (.int 1000)), (.bin .Pow (.cst (.int 10)) (.cst (.int 6)))])])]), .par [3, 4] [(.cal 23 [(.var 0), (.var 1)]), (.cal 27 [(.var 0), (.var 1), (.var 2)])], .asg (.tp [5, 6]) (.cal 29 [(.var 0), (.var 1), (.var 4)]), .asg (.nm 7) (.cal 14 [(.var 3), (.var 6), (.var 2)]), .iff (.or (.not (.val (.isi (.var 7) [.int]))) (.or (.val (.isi (.var 7) [.bool])) (.val (.cmp .Lt (.var 7) (.idx (.var 4) (.var 5)))))) [.ret (.cst (.bl false))] [], .iff (.val (.cmp .IsNot (.cal 26 [(.cal 30 [(.var 6), (.var 5), (.var 7)]), (.var 2)]) (.cst .non))) [.ret (.cst (.bl false))] [], .iff (.val (.cmp .Is (.cal 26 [(.cal 30 [(.var 6), (.var 5), (.bin .Add (.var 7) (.cst (.int 1)))]), (.var 2)]) (.cst .non))) [.ret (.cst (.bl false))] [], .asg (.nm 8) (.bi .dict [(.cmpr false (.tup [(.var 9), (.bin .Add (.idx (.var 6) (.var 9)) (.var 2))]) (.nm 9) (.of (.var 6)) .yes)]), .ret (.cal 19 [(.cal 14 [(.var 3), (.var 8), (.var 2)]), (.ite (.val (.cal 26 [(.cal 30 [(.var 8), (.var 5), (.cst (.int 0))]), (.var 2)])) (.cst .non) (.cst (.int 0)))])]⟩
def f33 : FnI := ⟨3, 9, [.asg (.nm 3) (.idx (.cal 29 [(.var 0), (.var 1), (.cal 24 [(.var 1)])]) (.cst (.int 1))), .for (.nm 4) (.of (.tup [(.cst .non), (.cst (.int 5)), (.cst (.str "path")), (.lst false []), (.dic false false []), (.cst (.bl true))])) [.iff (.not (.val (.cal 19 [(.calL 28 [.l 3300 [4]]), (.lst false [(.cst (.str "path")), (.var 4)])]))) [.ret (.cst (.bl false))] []], .par [5, 6] [(.lst true [(.cst .non), (.cst (.int 5)), (.cst (.str "ab")), (.lst false []), (.bt .list false (.itv (.var 3))), (.cst (.bl true)), (.cal 24 [(.var 1)])]), (.bi .list [(.var 3)])], .for (.nm 4) (.of (.tup [(.cst .non), (.neg (.cst (.int 1))), (.cst (.bl true)), (.cst (.str "1")), (.lst false [(.cst (.int 1))])])) [.exp (.mu .append (.var 5) [(.bi .dict [(.bin .Add (.bt .list false (.itv (.var 3))) (.lst false [(.tup [(.idx (.var 6) (.cst (.int 0))), (.var 4)])]))])])], .exp (.mu .extend (.var 5) [(.lst false [(.bi .dict [(.slc true false (.bt .list false (.itv (.var 3))) (.cst (.int 1)) (.cst .non))]), (.bi .dict [(.bin .Add (.lst false [(.tup [(.cst (.str "nobody")), (.cst (.int 0))])]) (.slc true false (.bt .list false (.itv (.var 3))) (.cst (.int 1)) (.cst .non)))])])]), .for (.nm 4) (.of (.var 5)) [.iff (.not (.val (.cal 19 [(.calL 28 [.l 3301 [2, 4]]), (.lst false [(.cst (.str "part")), (.var 4)])]))) [.ret (.cst (.bl false))] []], .for (.nm 4) (.of (.tup [(.cst .non), (.cst (.int 0)), (.neg (.cst (.int 1))), (.cst (.bl true)), (.cst (.str "1")), (.lst false [(.cst (.int 1))]), (.dic false false [])])) [.iff (.not (.val (.cal 19 [(.calL 28 [.l 3302 [2, 3, 4]]), (.lst false [(.cst (.str "most")), (.var 4)])]))) [.ret (.cst (.bl false))] []], .asg (.nm 7) (.lst false [(.lst true [(.cst (.str "x"))]), (.dic true false [(.cst (.str "x")), (.cst (.int 1)), (.cst (.str "y")), (.cst (.int 2))])]), .asg (.nm 8) (.lst true [(.calL 28 [.l 3303 [2, 3, 7]])]), .exp (.mu .append (.var 8) [(.calL 28 [.l 3304 [2, 7]])]), .exp (.mu .append (.idx (.var 7) (.cst (.int 0))) [(.cst (.str "late"))]), .set (.idx (.var 7) (.cst (.int 1))) (.cst (.str "late")) (.cst (.int 1)), .ret (.cal 19 [(.var 8), (.lst false [(.lst false [(.cst (.str "most")), (.lst false [(.cst (.str "x")), (.cst (.str "late"))])]), (.lst false [(.cst (.str "part")), (.bi .dict [(.lst false [(.tup [(.cst (.str "x")), (.cst (.int 1))]), (.tup [(.cst (.str "y")), (.cst (.int 2))]), (.tup [(.cst (.str "late")), (.cst (.int 1))])])])])])])]⟩
def f34 : FnI := ⟨1, 4, [.for (.nm 1) (.rng (.bin .Add (.cst (.int 2)) (.bi .int [(.cmp .Gt (.bi .len [(.var 0)]) (.cst (.int 2)))]))) [.asg (.nm 2) (.cal 15 [(.var 0), (.var 1)]), .asg (.nm 3) (.cal 22 [(.var 2), (.cst (.int 6))]), .iff (.or (.not (.val (.cal 31 [(.var 2)]))) (.not (.val (.cal 32 [(.var 2)])))) [.ret (.cst (.bl false))] [], .iff (.not (.val (.cal 33 [(.var 2), (.var 3), (.cal 23 [(.var 2), (.var 3)])]))) [.ret (.cst (.bl false))] []], .ret (.cst (.bl true))]⟩
def l3100 : LamI := ⟨0, 2, 2, (.cal 14 [(.var 0), (.idx (.var 1) (.cst (.int 0))), (.idx (.var 1) (.cst (.int 1)))])⟩
def l3300 : LamI := ⟨1, 0, 1, (.cal 14 [(.var 0), (.cst .non), (.cst (.int 0))])⟩
def l3301 : LamI := ⟨2, 0, 2, (.cal 14 [(.var 0), (.var 1), (.cst (.int 0))])⟩
def l3302 : LamI := ⟨3, 0, 3, (.cal 14 [(.var 0), (.var 1), (.var 2)])⟩
def l3303 : LamI := ⟨3, 0, 3, (.cal 14 [(.var 0), (.var 1), (.idx (.var 2) (.cst (.int 0)))])⟩
def l3304 : LamI := ⟨2, 0, 2, (.cal 14 [(.var 0), (.idx (.var 1) (.cst (.int 1))), (.cst (.int 1))])⟩
def d1 : Df := ⟨1, ⟨("is_list", none), "is_list", "is_list", defArgs (top 4), defBody (top 4), defScope (top 4), [], []⟩, ["thing"], ["thing"], false⟩
def d2 : Df := ⟨2, ⟨("is_whole", none), "is_whole", "is_whole", defArgs (top 5), defBody (top 5), defScope (top 5), [], []⟩, ["thing"], ["thing"], false⟩
def d3 : Df := ⟨3, ⟨("is_number", none), "is_number", "is_number", defArgs (top 6), defBody (top 6), defScope (top 6), [], []⟩, ["thing"], ["thing"], false⟩
def d4 : Df := ⟨4, ⟨("is_positive", none), "is_positive", "is_positive", defArgs (top 7), defBody (top 7), defScope (top 7), [], []⟩, ["thing"], ["thing"], false⟩
def d5 : Df := ⟨5, ⟨("is_name", none), "is_name", "is_name", defArgs (top 8), defBody (top 8), defScope (top 8), [], []⟩, ["thing"], ["thing", "sign"], false⟩
def d6 : Df := ⟨6, ⟨("Path", some "__init__"), "__init__", "Path.__init__", defArgs ((inCls 0 (top 17))), defBody ((inCls 0 (top 17))), defScope ((inCls 0 (top 17))), [], []⟩, ["self", "walkers"], ["self", "walkers", "index", "name", "rank"], false⟩
def d7 : Df := ⟨7, ⟨("check_path", none), "check_path", "check_path", defArgs (top 18), defBody (top 18), defScope (top 18), [], []⟩, ["thing"], ["thing"], false⟩
def d8 : Df := ⟨8, ⟨("is_dict_of", none), "is_dict_of", "is_dict_of", defArgs (top 19), defBody (top 19), defScope (top 19), [], []⟩, ["path", "thing", "is_right"], ["path", "thing", "is_right", "name"], false⟩
def d9 : Df := ⟨9, ⟨("check_most", none), "check_most", "check_most", defArgs (top 21), defBody (top 21), defScope (top 21), [], []⟩, ["most"], ["most"], false⟩
def d10 : Df := ⟨10, ⟨("check_noted", none), "check_noted", "check_noted", defArgs (top 22), defBody (top 22), defScope (top 22), [], []⟩, ["path", "noted", "most"], ["path", "noted", "most"], false⟩
def d11 : Df := ⟨11, ⟨("fault_of", none), "fault_of", "fault_of", defArgs (top 23), defBody (top 23), defScope (top 23), [], []⟩, ["path", "noted", "most"], ["path", "noted", "most", "place", "number", "name"], false⟩
def d12 : Df := ⟨12, ⟨("noted_fault", none), "noted_fault", "noted_fault", defArgs (top 25), defBody (top 25), defScope (top 25), [], []⟩, ["path", "noted", "most"], ["path", "noted", "most"], false⟩
def d13 : Df := ⟨13, ⟨("is_part", none), "is_part", "is_part", defArgs (top 26), defBody (top 26), defScope (top 26), [], []⟩, ["path", "thing"], ["path", "thing", "known", "name"], false⟩
def d14 : Df := ⟨14, ⟨("most_lacking", none), "most_lacking", "most_lacking", defArgs (top 27), defBody (top 27), defScope (top 27), [], []⟩, ["path", "part", "most"], ["path", "part", "most", "row", "above", "place", "number"], false⟩
def d15 : Df := ⟨15, ⟨("_law_source", none), "_law_source", "_law_source", defArgs (top 29), defBody (top 29), defScope (top 29), [], []⟩, ["_law_script", "_law_place"], ["_law_script", "_law_place", "_law_cell", "_law_seed", "_law_other"], false⟩
def d16 : Df := ⟨16, ⟨("_law_draw", none), "_law_draw", "_law_draw", defArgs (top 30), defBody (top 30), defScope (top 30), [], []⟩, ["_law_draws", "_law_many"], ["_law_draws", "_law_many", "_law_found", "_law_seed"], false⟩
def d17 : Df := ⟨17, ⟨("_law_pick", none), "_law_pick", "_law_pick", defArgs (top 31), defBody (top 31), defScope (top 31), [], []⟩, ["_law_draws", "_law_some"], ["_law_draws", "_law_some"], false⟩
def d18 : Df := ⟨18, ⟨("_law_mixed", none), "_law_mixed", "_law_mixed", defArgs (top 32), defBody (top 32), defScope (top 32), [], []⟩, ["_law_draws", "_law_some"], ["_law_draws", "_law_some", "_law_rest", "_law_found"], false⟩
def d19 : Df := ⟨19, ⟨("_law_same", none), "_law_same", "_law_same", defArgs (top 33), defBody (top 33), defScope (top 33), [], []⟩, ["_law_found", "_law_due"], ["_law_found", "_law_due", "_law_x", "_law_y"], false⟩
def d20 : Df := ⟨20, ⟨("_law_loose", none), "_law_loose", "_law_loose", defArgs (top 34), defBody (top 34), defScope (top 34), [], []⟩, ["_law_draws", "_law_thing"], ["_law_draws", "_law_thing", "_law_found", "_law_part_here"], false⟩
def d21 : Df := ⟨21, ⟨("_law_names", none), "_law_names", "_law_names", defArgs (top 35), defBody (top 35), defScope (top 35), [], []⟩, ["_law_draws", "_law_many"], ["_law_draws", "_law_many", "_law_some"], false⟩
def d22 : Df := ⟨22, ⟨("_law_any_names", none), "_law_any_names", "_law_any_names", defArgs (top 36), defBody (top 36), defScope (top 36), [], []⟩, ["_law_draws", "_law_most"], ["_law_draws", "_law_most"], false⟩
def d23 : Df := ⟨23, ⟨("_law_made", none), "_law_made", "_law_made", defArgs (top 37), defBody (top 37), defScope (top 37), [], []⟩, ["_law_draws", "_law_names_here"], ["_law_draws", "_law_names_here"], false⟩
def d24 : Df := ⟨24, ⟨("_law_first", none), "_law_first", "_law_first", defArgs (top 38), defBody (top 38), defScope (top 38), [], []⟩, ["_law_names_here"], ["_law_names_here", "_law_at", "_law_name"], false⟩
def d25 : Df := ⟨25, ⟨("_law_in_turns", none), "_law_in_turns", "_law_in_turns", defArgs (top 39), defBody (top 39), defScope (top 39), [], []⟩, ["_law_draws", "_law_names_here", "_law_ask", "_law_things"], ["_law_draws", "_law_names_here", "_law_ask", "_law_things", "_law_made_here", "_law_rows", "_law_found", "_law_thing"], false⟩
def d26 : Df := ⟨26, ⟨("_law_fault", none), "_law_fault", "_law_fault", defArgs (top 40), defBody (top 40), defScope (top 40), [], []⟩, ["_law_numbers", "_law_most"], ["_law_numbers", "_law_most", "_law_row", "_law_some", "_law_place", "_law_number"], false⟩
def d27 : Df := ⟨27, ⟨("_law_right_list", none), "_law_right_list", "_law_right_list", defArgs (top 41), defBody (top 41), defScope (top 41), [], []⟩, ["_law_draws", "_law_names_here", "_law_most"], ["_law_draws", "_law_names_here", "_law_most", "_law_found", "_law_place"], false⟩
def d28 : Df := ⟨28, ⟨("_law_met", none), "_law_met", "_law_met", defArgs (top 42), defBody (top 42), defScope (top 42), [], []⟩, ["_law_ask"], ["_law_ask", "e"], false⟩
def d29 : Df := ⟨29, ⟨("_law_part", none), "_law_part", "_law_part", defArgs (top 43), defBody (top 43), defScope (top 43), [], []⟩, ["_law_draws", "_law_names_here", "_law_numbers"], ["_law_draws", "_law_names_here", "_law_numbers", "_law_name", "_law_one"], false⟩
def d30 : Df := ⟨30, ⟨("_law_with", none), "_law_with", "_law_with", defArgs (top 44), defBody (top 44), defScope (top 44), [], []⟩, ["_law_part_here", "_law_name", "_law_number"], ["_law_part_here", "_law_name", "_law_number"], false⟩
def d31 : Df := ⟨31, ⟨("_law_small_right", none), "_law_small_right", "_law_small_right", defArgs (top 45), defBody (top 45), defScope (top 45), [], []⟩, ["_law_draws"], ["_law_draws", "_law_names_here", "_law_most", "_law_path", "_law_parts", "_law_turn", "_law_numbers", "_law_bent", "_law_name", "_law_part_here", "_law_rows", "_law_some", "_law_due", "_law_was", "_law_things", "_law_number", "_law_row"], true⟩
def d32 : Df := ⟨32, ⟨("_law_great_right", none), "_law_great_right", "_law_great_right", defArgs (top 46), defBody (top 46), defScope (top 46), [], []⟩, ["_law_draws"], ["_law_draws", "_law_names_here", "_law_most", "_law_path", "_law_numbers", "_law_name", "_law_part_here", "_law_found", "_law_wrong", "_law_one"], false⟩
def d33 : Df := ⟨33, ⟨("_law_refused_right", none), "_law_refused_right", "_law_refused_right", defArgs (top 47), defBody (top 47), defScope (top 47), [], []⟩, ["_law_draws", "_law_names_here", "_law_path"], ["_law_draws", "_law_names_here", "_law_path", "_law_part_here", "_law_odd", "_law_odds", "_law_some", "_law_held", "_law_found"], true⟩
def d34 : Df := ⟨34, ⟨("law", none), "law", "law", defArgs (top 48), defBody (top 48), defScope (top 48), [], []⟩, ["_law_script"], ["_law_script", "_law_place", "_law_draws", "_law_names_here"], false⟩
def dat : Dat where
  dfs := [d1, d2, d3, d4, d5, d6, d7, d8, d9, d10, d11, d12, d13, d14, d15, d16, d17, d18, d19, d20, d21, d22, d23, d24, d25, d26, d27, d28, d29, d30, d31, d32, d33, d34]
  fis := [(1, f1), (2, f2), (3, f3), (4, f4), (5, f5), (6, f6), (7, f7), (8, f8), (9, f9), (10, f10), (11, f11), (12, f12), (13, f13), (14, f14), (15, f15), (16, f16), (17, f17), (18, f18), (19, f19), (20, f20), (21, f21), (22, f22), (23, f23), (24, f24), (25, f25), (26, f26), (27, f27), (28, f28), (29, f29), (30, f30), (31, f31), (32, f32), (33, f33), (34, f34)]
  lis := [(3100, l3100), (3300, l3300), (3301, l3301), (3302, l3302), (3303, l3303), (3304, l3304)]
  lnm := [(3100, ⟨[], ["_law_made_here", "_law_thing"], ["_law_made_here", "_law_thing"]⟩), (3300, ⟨["_law_odd"], [], ["_law_odd"]⟩), (3301, ⟨["_law_path", "_law_odd"], [], ["_law_path", "_law_odd"]⟩), (3302, ⟨["_law_path", "_law_part_here", "_law_odd"], [], ["_law_path", "_law_part_here", "_law_odd"]⟩), (3303, ⟨["_law_path", "_law_part_here", "_law_held"], [], ["_law_path", "_law_part_here", "_law_held"]⟩), (3304, ⟨["_law_path", "_law_held"], [], ["_law_path", "_law_held"]⟩)]
  mak := some 6
  own := "Path"
  flds := ["names", "many", "ranks"]
  csts := [("LETTERS", (.str "abcdefghijklmnopqrstuvwxyz")), ("FIGURES", (.str "0123456789"))]
  excs := [("BadWalkers", 2, "index"), ("BadPath", 3, "thing"), ("BadMost", 4, "most"), ("BadNoted", 5, "noted"), ("BadPart", 6, "part")]
  kws := [(14, ["most", "part", "path"], [2, 1, 0])]
  meths := []
def chkAll : Bool := chkDat dat
end L
end
section
set_option Elab.async false
set_option linter.all false
set_option maxRecDepth 100000
set_option maxHeartbeats 1000000
open PySem DS
local macro_rules | `(tactic| walk_at "w1") => `(tactic| with_reducible first
  | apply W.ss_cons | apply W.st_asg | apply W.st_ret | apply W.st_iff | apply W.st_exp | apply W.st_for | apply W.st_set | apply W.st_fld | apply W.st_pas | apply W.st_met | apply W.st_par | apply W.st_tup
  | apply W.e_int | apply W.e_str | apply W.e_bl | apply W.e_non | apply W.e_gstr | apply W.e_gint | apply W.e_fnv
  | apply W.e_cal | apply W.e_bin | apply W.e_cmp | apply W.e_idx | apply W.e_att | apply W.e_bi | apply W.e_isi | apply W.e_and | apply W.e_or | apply W.e_not | apply W.e_neg | apply W.e_chn | apply W.e_ite
  | apply W.e_tup | apply W.e_lst | apply W.e_lstm | apply W.e_dic | apply W.e_slc | apply W.e_calL | apply W.e_cak | apply W.e_bt | apply W.e_me | apply W.e_mu | apply W.e_cmpr | apply W.e_cmp2 | apply W.e_dcm | apply W.e_mut | apply W.e_frz
  | apply W.t_and | apply W.t_or | apply W.t_not | apply W.t_val | apply W.t_yes
  | apply W.es_cons | apply W.es_nil | apply W.as_nil | apply W.as_e
  | apply W.i_of | apply W.i_enm | apply W.i_zip | apply W.i_rng | apply W.i_rng2 | apply W.i_itm | apply W.i_itv | apply W.i_zpl | apply W.i_vls | apply W.i_vlv
  | apply W.ss_nil | apply W.sl_no | apply W.made_f | apply W.o_ins | apply W.o_nins | apply W.it_str | apply W.it_lst | apply W.it_tup | apply W.it_dic | apply W.it_enl | apply W.it_ent
  | apply W.if_tt | apply W.if_ff | apply W.if_nt | apply W.if_nf | apply W.tru_b | apply W.tru_i | apply W.tru_n | apply W.bl_in | apply W.int_in
  | apply W.o_add | apply W.o_sub | apply W.o_lt | apply W.o_le | apply W.o_gt | apply W.o_ge | apply W.o_eqi | apply W.o_nei | apply W.o_eqs | apply W.o_nes | apply W.o_eqb | apply W.o_neb | apply W.o_int_i | apply W.o_int_b)
local macro_rules | `(tactic| walk_at "w1") => `(tactic| ((with_reducible refine W.e_var (d := ?dd) ?ee ?qq); (case ee => exact rfl)))
local macro_rules | `(tactic| walk_at "w1") => `(tactic| ((with_reducible first | refine W.isi_int (b := ?bb) ?kk ?ee ?qq | refine W.isi_inb (b := ?bb) ?kk ?ee ?qq | refine W.isi_q (b := ?bb) ?kk ?ee ?qq | refine W.isi_in (b := ?bb) ?kk ?ee ?qq); (case kk => first | assumption | rfl); (case ee => first | exact (rfl : _ = true) | exact (rfl : _ = false) | exact rfl)))
local macro_rules | `(tactic| walk_at "w") => `(tactic| repeat walk_at "w1")
namespace L
abbrev P := dat.P
def isWh : D → Bool
  | .int _ => true
  | _ => false
def isNum : D → Bool
  | .int i => decide (0 ≤ i)
  | _ => false
def isPos : D → Bool
  | .int i => decide (1 ≤ i)
  | _ => false
variable {m : Nat} {M : Sto} {Q : Po D} {E : Po Exn}
theorem s1 {x : D} (hm : 1 ≤ m) (hk : known (vw M x) = true) (h : Q (.bl (isTy .list (vw M x) || isTy .tuple (vw M x))) M) : (Phi P m).fn 1 [.d x] M Q E := by
  refine W.fn_in hm rfl rfl ?_
  show wpSs _ _ f1.body [some (.d x)] _ _
  unfold f1
  walk_at "w"
  simpa using h
theorem s2 {x : D} (hm : 1 ≤ m) (hk : known (vw M x) = true) (h : Q (.bl (isWh (vw M x))) M) : (Phi P m).fn 2 [.d x] M Q E := by
  refine W.fn_in hm rfl rfl ?_
  show wpSs _ _ f2.body [some (.d x)] _ _
  unfold f2
  walk_at "w"
  refine W.if_b (fun e => ?_) fun e => ?_
  · walk_at "w"
    revert h e
    cases vw M x <;> simp [isTy, isWh]
  · revert h e
    cases vw M x <;> simp [isTy, isWh]
theorem s3 {x : D} (hm : 2 ≤ m) (hk : known (vw M x) = true) (h : Q (.bl (isNum (vw M x))) M) : (Phi P m).fn 3 [.d x] M Q E := by
  refine W.fn_in (by omega) rfl rfl ?_
  show wpSs _ _ f3.body [some (.d x)] _ _
  unfold f3
  walk_at "w"
  refine s2 (by omega) hk ?_
  walk_at "w"
  refine W.if_b (fun e => ?_) fun e => ?_
  · walk_at "w"
    cases hx : vw M x <;> rw [hx] at h e <;> try cases e
    exact ⟨_, _, hx, rfl, h⟩
  · revert h e
    cases vw M x <;> simp [isNum, isWh]
theorem s4 {x : D} (hm : 2 ≤ m) (hk : known (vw M x) = true) (h : Q (.bl (isPos (vw M x))) M) : (Phi P m).fn 4 [.d x] M Q E := by
  refine W.fn_in (by omega) rfl rfl ?_
  show wpSs _ _ f4.body [some (.d x)] _ _
  unfold f4
  walk_at "w"
  refine s2 (by omega) hk ?_
  walk_at "w"
  refine W.if_b (fun e => ?_) fun e => ?_
  · walk_at "w"
    cases hx : vw M x <;> rw [hx] at h e <;> try cases e
    exact ⟨_, _, hx, rfl, h⟩
  · revert h e
    cases vw M x <;> simp [isPos, isWh]
/-! ### names -/
def letters : Str := "abcdefghijklmnopqrstuvwxyz"
def figures : Str := "0123456789"
def inTxt (s t : Str) : Bool := !(Builtin.Str.occurrences t s 0 t.length 1).isEmpty
def nameB (s : Str) : Bool := decide (1 ≤ s.length) && (decide (s.length ≤ 8) && ((signs s).all fun c => match c with
  | .str c => inTxt c letters || inTxt c figures
  | _ => false) && (match s.cps.toList with
  | c :: _ => inTxt ⟨#[c]⟩ letters
  | [] => false))
theorem s5 {s : Str} (hm : 1 ≤ m) (hs : nameB s = true) (h : Q (.bl true) M) : (Phi P m).fn 5 [.d (.str s)] M Q E := by
  unfold nameB at hs
  simp only [Bool.and_eq_true, decide_eq_true_eq] at hs
  obtain ⟨h1, ⟨h2, h3⟩, h4⟩ := hs
  have hl : s.length ≤ lim := by unfold lim; omega
  refine W.fn_in (by omega) rfl rfl ?_
  show wpSs _ _ f5.body [some (.d (.str s)), none] _ _
  unfold f5
  walk_at "w"
  refine W.o_len_s hl ?_
  walk_at "w"
  refine W.if_t (by simp; omega) ?_
  walk_at "w"
  refine W.if_f (by simp; omega) ?_
  walk_at "w"
  split at h4
  · rename_i c r hc
    have ha : L2.atI s.cps.toList 0 = some c := by rw [hc]; exact W.atI_nat (n := 0) rfl
    refine ⟨0, c, rfl, hl, ha, ?_⟩
    walk_at "w"
    refine W.if_f (by show (!inTxt ⟨#[c]⟩ letters) = false; rw [h4]; rfl) ?_
    walk_at "w"
    refine ⟨by show (signs s).length ≤ lim; unfold signs; rw [List.length_map]; exact hl, ?_⟩
    refine W.map_allD (g := fun c => .bl (match c with
      | .str c => inTxt c letters || inTxt c figures
      | _ => false)) W.any_in (signs s) ?_ ?_
    · intro x hx K hK
      obtain ⟨c, hc, rfl⟩ := List.mem_map.mp hx
      refine ⟨_, rfl, ?_⟩
      walk_at "w"
      refine W.if_b (fun e => ?_) fun e => ?_
      · have e : inTxt ⟨#[c]⟩ letters = true := e
        simpa [e] using hK
      · have e : inTxt ⟨#[c]⟩ letters = false := e
        walk_at "w"
        have hK : K (some (.bl (inTxt ⟨#[c]⟩ letters || inTxt ⟨#[c]⟩ figures))) M := hK
        rw [e] at hK
        exact hK
    · walk_at "w"
      refine W.o_all (bs := (signs s).map fun c => match c with
        | .str c => inTxt c letters || inTxt c figures
        | _ => false) (by rw [List.map_map]; rfl) ?_
      rw [List.all_map]
      have e : ((signs s).all (id ∘ fun c => match c with
        | .str c => inTxt c letters || inTxt c figures
        | _ => false)) = true := h3
      rw [e]
      exact h
  · cases h4
/-! ### paths -/
/-- names that a path can have -/
structure NmsOk (ns : List Str) : Prop where
  nm : ∀ s ∈ ns, nameB s = true
  nd : ns.Nodup
  two : 2 ≤ ns.length
  few : ns.length ≤ 20
theorem s6 {w : D} {ns : List Str} {p : Addr} (hm : 2 ≤ m) (hn : NmsOk ns) (hp : M p = some (.ins 0 [])) (hw : w = .lst (ns.map .str) ∨ w = .tup (ns.map .str))
    (h : Q .non (M.put p (.ins 0 [("names", .tup (ns.map .str)), ("many", .int ns.length), ("ranks", dI (rankL ns))]))) : (Phi P m).fn 6 [.d (.mref p), .d w] M Q E := by
  refine W.fn_in (by omega) rfl rfl ?_
  show wpSs _ _ f6.body [some (.d (.mref p)), some (.d w), none, none, none] _ _
  unfold f6
  have hsq : seqOf w = some (ns.map .str) := by rcases hw with rfl | rfl <;> rfl
  have hkn : known (vw M w) = true := by rcases hw with rfl | rfl <;> rfl
  have hvw : vw M w = w := by rcases hw with rfl | rfl <;> rfl
  have hls : (isTy .list (vw M w) || isTy .tuple (vw M w)) = true := by rcases hw with rfl | rfl <;> rfl
  walk_at "w"
  refine s1 (by omega) hkn ?_
  rw [hls]
  walk_at "w"
  refine ⟨ns.map .str, by rw [hvw]; exact hsq, ?_⟩
  have hlen : ns.length < 2 ^ 62 := Nat.lt_of_le_of_lt hn.few (by decide)
  refine W.walk_inv (I := fun n ρ' M' => M' = M ∧ ∃ c d e, ρ' = [some (.d (.mref p)), some (.d w), c, d, e]) ⟨rfl, _, _, _, rfl⟩ (fun n ρ' M' i => by rw [i.1]; exact W.same_in) ?_ ?_
  · rintro n ρ' M' x hx ⟨rfl, c, d, e, rfl⟩ K hK
    rw [enumD_map, List.getElem?_map] at hx
    obtain ⟨⟨s, i⟩, hq, rfl⟩ := Option.map_eq_some_iff.mp hx
    rw [List.getElem?_zipIdx] at hq
    obtain ⟨s', hs, e0⟩ := Option.map_eq_some_iff.mp hq
    cases e0
    have hmem := List.mem_of_getElem? hs
    have hnl : n < ns.length := (List.getElem?_eq_some_iff.mp hs).1
    refine ⟨_, rfl, ?_⟩
    walk_at "w"
    refine s5 (by omega) (hn.nm _ hmem) ?_
    walk_at "w"
    refine W.sl_at (by omega) (by omega) ?_
    have hnot : decide (s ∈ ns.take n) = false := by
      rw [decide_eq_false_iff_not]
      intro z
      obtain ⟨k, hk⟩ := List.mem_iff_getElem?.mp z
      rw [List.getElem?_take] at hk
      split at hk
      · have := (List.getElem?_inj (by omega) hn.nd).mp (hk.trans hs.symm)
        omega
      · cases hk
    have fin : ∀ y, y = .lst ((ns.take n).map .str) ∨ y = .tup ((ns.take n).map .str) → ∀ Q : Po D, Q (.bl false) M' → opCmp .In (.str s) y M' Q := fun y hy Q q => by
      rcases hy with rfl | rfl
      · exact W.o_in_strl rfl (by rw [hnot]; exact q)
      · exact W.o_in_strt rfl (by rw [hnot]; exact q)
    have slc : ∀ Q : Po D, (∀ y, y = .lst ((ns.take n).map .str) ∨ y = .tup ((ns.take n).map .str) → Q y M') → opSlc w .non (.int ((0 + n : Nat) : Int)) M' Q := fun Q q => by
      rw [Nat.zero_add]
      rcases hw with rfl | rfl
      · exact W.o_slc_take rfl (by omega) (q _ (.inl (by rw [List.map_take])))
      · exact W.o_slc_takeT rfl (by omega) (q _ (.inr (by rw [List.map_take])))
    refine slc _ fun y hy => fin y hy _ ?_
    walk_at "w"
    exact hK _ _ ⟨rfl, _, _, _, rfl⟩
  · rintro ρ' M' ⟨rfl, c, d, e, rfl⟩
    have len : ∀ Q : Po D, Q (.int ns.length) M' → opBi .len [w] M' Q := fun Q q => by
      rcases hw with rfl | rfl
      · exact W.o_len_l rfl (by rw [List.length_map]; exact q)
      · exact W.o_len_t rfl (by rw [List.length_map]; exact q)
    have tup : ∀ Q : Po D, Q (.tup (ns.map .str)) M' → opBi .tuple [w] M' Q := fun Q q => by
      rcases hw with rfl | rfl
      · exact W.o_tuple_l rfl q
      · exact W.o_tuple_t rfl q
    walk_at "w"
    refine len _ ?_
    walk_at "w"
    refine W.if_f (by have := hn.two; simp; omega) ?_
    walk_at "w"
    refine tup _ ?_
    walk_at "w"
    refine ⟨p, 0, [], rfl, hp, by simp, rfl, ?_⟩
    walk_at "w"
    refine W.o_att (W.vw_mref W.put_same) rfl ?_
    walk_at "w"
    refine W.o_len_t rfl ?_
    walk_at "w"
    refine ⟨p, 0, _, rfl, W.put_same, by simp, rfl, ?_⟩
    walk_at "w"
    refine W.o_att (W.vw_mref W.put_same) rfl ?_
    walk_at "w"
    rw [enumD_map]
    refine ⟨by simp; have := hn.few; unfold lim; omega, ?_⟩
    refine W.map_all (g := fun q : Str × Nat => .tup [.str q.1, .int q.2]) W.same_in ns.zipIdx ?_ ?_
    · rintro ⟨s, i⟩ hs K hK
      refine ⟨_, rfl, ?_⟩
      walk_at "w"
      exact ⟨⟨kS s, rfl, rfl⟩, hK⟩
    · have e1 : ns.zipIdx.map (fun q : Str × Nat => D.tup [.str q.1, .int q.2]) = (rankL ns).map fun q => .tup [.str q.1, .int q.2] := by
        unfold rankL; rw [List.map_map]; rfl
      rw [e1]
      refine ⟨_, pairsK_S .int (rankL ns), isTK_dS .int (rankL ns), ?_⟩
      rw [mrg_nd (nd_kS (by rw [rankL_keys]; exact hn.nd))]
      walk_at "w"
      refine ⟨p, 0, _, rfl, W.put_same, by simp, rfl, ?_⟩
      walk_at "w"
      rw [W.put_put, W.put_put, List.length_map]
      exact h
end L
end
section
set_option Elab.async false
set_option linter.all false
set_option maxRecDepth 100000
set_option maxHeartbeats 1000000
open PySem DS
local macro_rules | `(tactic| walk_at "w1") => `(tactic| with_reducible first
  | apply W.ss_cons | apply W.st_asg | apply W.st_ret | apply W.st_iff | apply W.st_exp | apply W.st_for | apply W.st_set | apply W.st_fld | apply W.st_pas | apply W.st_met | apply W.st_par | apply W.st_tup
  | apply W.e_int | apply W.e_str | apply W.e_bl | apply W.e_non | apply W.e_gstr | apply W.e_gint | apply W.e_fnv
  | apply W.e_cal | apply W.e_bin | apply W.e_cmp | apply W.e_idx | apply W.e_att | apply W.e_bi | apply W.e_isi | apply W.e_and | apply W.e_or | apply W.e_not | apply W.e_neg | apply W.e_chn | apply W.e_ite
  | apply W.e_tup | apply W.e_lst | apply W.e_lstm | apply W.e_dic | apply W.e_slc | apply W.e_calL | apply W.e_cak | apply W.e_bt | apply W.e_me | apply W.e_mu | apply W.e_cmpr | apply W.e_cmp2 | apply W.e_dcm | apply W.e_mut | apply W.e_frz
  | apply W.t_and | apply W.t_or | apply W.t_not | apply W.t_val | apply W.t_yes
  | apply W.es_cons | apply W.es_nil | apply W.as_nil | apply W.as_e
  | apply W.i_of | apply W.i_enm | apply W.i_zip | apply W.i_rng | apply W.i_rng2 | apply W.i_itm | apply W.i_itv | apply W.i_zpl | apply W.i_vls | apply W.i_vlv
  | apply W.ss_nil | apply W.sl_no | apply W.made_f | apply W.o_ins | apply W.o_nins | apply W.it_str | apply W.it_lst | apply W.it_tup | apply W.it_dic | apply W.it_enl | apply W.it_ent
  | apply W.if_tt | apply W.if_ff | apply W.if_nt | apply W.if_nf | apply W.tru_b | apply W.tru_i | apply W.tru_n | apply W.bl_in | apply W.int_in
  | apply W.o_add | apply W.o_sub | apply W.o_lt | apply W.o_le | apply W.o_gt | apply W.o_ge | apply W.o_eqi | apply W.o_nei | apply W.o_eqs | apply W.o_nes | apply W.o_eqb | apply W.o_neb | apply W.o_int_i | apply W.o_int_b)
local macro_rules | `(tactic| walk_at "w1") => `(tactic| ((with_reducible refine W.e_var (d := ?dd) ?ee ?qq); (case ee => exact rfl)))
local macro_rules | `(tactic| walk_at "w1") => `(tactic| ((with_reducible first | refine W.isi_int (b := ?bb) ?kk ?ee ?qq | refine W.isi_inb (b := ?bb) ?kk ?ee ?qq | refine W.isi_q (b := ?bb) ?kk ?ee ?qq | refine W.isi_in (b := ?bb) ?kk ?ee ?qq); (case kk => first | assumption | rfl); (case ee => first | exact (rfl : _ = true) | exact (rfl : _ = false) | exact rfl)))
local macro_rules | `(tactic| walk_at "w") => `(tactic| repeat walk_at "w1")
namespace L
theorem perm_pick {α : Type} {l : List α} {i : Nat} (h : i < l.length) : ([l[i]] ++ l.eraseIdx i).Perm l := by
  have e : l = l.take i ++ l[i] :: l.drop (i + 1) := by rw [List.getElem_cons_drop h, List.take_append_drop]
  rw [List.eraseIdx_eq_take_drop_succ]
  show (l[i] :: (l.take i ++ l.drop (i + 1))).Perm l
  exact List.Perm.trans List.perm_middle.symm (by rw [← e])
variable {m : Nat} {M : Sto} {Q : Po D} {E : Po Exn} {a : Addr} {r : Nat}
theorem s16 {k : Int} (hm : 1 ≤ m) (hd : Dr M a r) (hr : 1 ≤ r) (h0 : 0 < k) (h1 : k < 1073741824) (h : ∀ (j : Int) (M' : Sto), 0 ≤ j → j < k → Dr M' a (r - 1) → Ke a M M' → Q (.int j) M') : (Phi P m).fn 16 [.d (.mref a), .d (.int k)] M Q E := by
  refine W.fn_in (by omega) rfl rfl ?_
  show wpSs _ _ f16.body [some (.d (.mref a)), some (.d (.int k)), none, none] _ _
  unfold f16
  obtain ⟨c, s, t, e, hc, hs, hs2, ht, htr⟩ := hd
  have v : vw M (.mref a) = .lst [.int c, .int s, .int t] := W.vw_mref e
  walk_at "w"
  refine W.o_idxl v (W.atI_nat (n := 0) rfl) ?_
  walk_at "w"
  refine W.if_b (fun g => ?_) fun g => ?_
  · walk_at "w"
    refine W.o_idxl v (W.atI_nat (n := 0) rfl) ?_
    walk_at "w"
    refine W.o_mod h0 ?_
    walk_at "w"
    refine W.o_idxl v (W.atI_nat (n := 0) rfl) ?_
    walk_at "w"
    refine W.o_fdiv ⟨h0, h1⟩ ?_
    walk_at "w"
    refine W.u_set_l (n := 0) e (by simp) ?_
    walk_at "w"
    refine h _ _ (Int.emod_nonneg _ (by omega)) (Int.emod_lt_of_pos _ h0) ⟨c / k, s, t, W.put_same, Int.ediv_nonneg hc (by omega), hs, hs2, ht, by omega⟩ Ke.put
  · walk_at "w"
    refine W.o_idxl v (W.atI_nat (n := 2) rfl) ?_
    walk_at "w"
    refine W.u_set_l (n := 2) e (by simp) ?_
    have v2 : vw (M.put a (.lst ([.int c, .int s, .int t].set 2 (.int (t + 1))))) (.mref a) = .lst [.int c, .int s, .int (t + 1)] := W.vw_mref W.put_same
    walk_at "w"
    refine W.o_idxl v2 (W.atI_nat (n := 1) rfl) ?_
    walk_at "w"
    refine W.o_idxl v2 (W.atI_nat (n := 2) rfl) ?_
    walk_at "w"
    refine W.o_mul (by omega) ?_
    walk_at "w"
    refine W.o_pow ⟨by omega, by omega, by omega⟩ ?_
    walk_at "w"
    refine W.o_mod (by omega) ?_
    walk_at "w"
    refine W.o_idxl v2 (W.atI_nat (n := 2) rfl) ?_
    walk_at "w"
    refine W.o_mul (by omega) ?_
    walk_at "w"
    refine W.o_mod (by omega) ?_
    walk_at "w"
    refine W.o_fdiv (by omega) ?_
    walk_at "w"
    refine W.o_mod h0 ?_
    exact h _ _ (Int.emod_nonneg _ (by omega)) (Int.emod_lt_of_pos _ h0) ⟨c, s, t + 1, W.put_same, hc, hs, hs2, by omega, by omega⟩ Ke.put
theorem s17 {w : D} {xs : List D} (hm : 2 ≤ m) (hd : Dr M a r) (hr : 1 ≤ r) (hw : w = .lst xs ∨ w = .tup xs) (h0 : xs ≠ []) (h1 : xs.length < 1073741824) (h : ∀ (d : D) (M' : Sto), d ∈ xs → Dr M' a (r - 1) → Ke a M M' → Q d M') : (Phi P m).fn 17 [.d (.mref a), .d w] M Q E := by
  refine W.fn_in (by omega) rfl rfl ?_
  show wpSs _ _ f17.body [some (.d (.mref a)), some (.d w)] _ _
  unfold f17
  walk_at "w"
  have len : ∀ Q : Po D, Q (.int xs.length) M → opBi .len [w] M Q := fun Q q => by
    rcases hw with rfl | rfl
    · exact W.o_len_l rfl q
    · exact W.o_len_t rfl q
  refine len _ ?_
  walk_at "w"
  have hp : 0 < xs.length := List.length_pos_iff.mpr h0
  refine s16 (by omega) hd hr (by omega) (by omega) fun j M' j0 j1 hd' hk => ?_
  obtain ⟨n, rfl⟩ := Int.eq_ofNat_of_zero_le j0
  have hn : n < xs.length := by omega
  have hx : xs[n]? = some xs[n] := List.getElem?_eq_getElem hn
  have fin := h xs[n] M' (List.getElem_mem hn) hd' hk
  rcases hw with rfl | rfl
  · exact W.o_idxl rfl (W.atI_nat hx) fin
  · exact W.o_idxt rfl (W.atI_nat hx) fin
theorem s18 {w : D} {xs : List D} (hm : 2 ≤ m) (hd : Dr M a r) (hr : xs.length ≤ r) (hw : w = .lst xs ∨ w = .tup xs) (hpl : ∀ d ∈ xs, plainD d) (h1 : xs.length < 1000000) (h : ∀ (ys : List D) (M' : Sto), ys.Perm xs → Dr M' a (r - xs.length) → Ke a M M' → Q (.lst ys) M') : (Phi P m).fn 18 [.d (.mref a), .d w] M Q E := by
  refine W.fn_in (by omega) rfl rfl ?_
  show wpSs _ _ f18.body [some (.d (.mref a)), some (.d w), none, none] _ _
  unfold f18
  have lst : ∀ Q : Po D, Q (.lst xs) M → opBi .list [w] M Q := fun Q q => by
    rcases hw with rfl | rfl
    · exact W.o_list_l rfl q
    · exact W.o_list_t rfl q
  walk_at "w"
  refine lst _ (W.made_l fun p1 n1 => ?_)
  walk_at "w"
  intro p2 n2
  walk_at "w"
  refine ⟨rfl, ?_⟩
  have ne1 : p1 ≠ a := hd.ne n1
  have ne12 : p1 ≠ p2 := W.ne_new W.put_same n2
  have n2' : M p2 = none := by rw [← n2, W.put_ne (Ne.symm ne12)]
  have ne2 : p2 ≠ a := hd.ne n2'
  walk_at "w"
  refine W.st_whl (xs.length + 1) ?_
  refine W.while_inv (I := fun n ρ' M' => ρ' = [some (.d (.mref a)), some (.d w), some (.d (.mref p1)), some (.d (.mref p2))] ∧ ∃ rest found, M' p1 = some (.lst rest) ∧ M' p2 = some (.lst found) ∧ rest.length = n ∧ n ≤ xs.length ∧ (found ++ rest).Perm xs ∧ Dr M' a (r - (xs.length - n)) ∧ Ke a M M') ?_ xs.length
    ⟨rfl, xs, [], by rw [W.put_ne ne12]; exact W.put_same, W.put_same, rfl, Nat.le_refl _, .refl _, by rw [Nat.sub_self, Nat.sub_zero]; exact (hd.put ne1).put ne2, fun b o e n => by rw [W.put_ne (W.ne_new e n2'), W.put_ne (W.ne_new e n1)]; exact e⟩
  rintro n ρ' M' ⟨rfl, rest, found, m1, m2, hl, hn, hp, hd', hk⟩ K kf kt
  have v1 : vw M' (.mref p1) = .lst rest := W.vw_mref m1
  have v2 : vw M' (.mref p2) = .lst found := W.vw_mref m2
  have hpr : ∀ d ∈ rest, plainD d := fun d hd => hpl d (hp.mem_iff.mp (List.mem_append_right _ hd))
  walk_at "w"
  refine W.o_ne (b := rest.isEmpty) (by rw [v1]; exact eq_nil hpr) ?_
  walk_at "w"
  cases hrest : rest with
  | nil =>
    subst hrest
    refine kf M' ?_
    walk_at "w"
    refine W.frz_m m2 ?_
    have hp0 : found.Perm xs := by simpa using hp
    have : n = 0 := hl.symm
    subst this
    exact h found _ hp0 ((hd'.mono (by omega)).del ne2) (hk.del n2')
  | cons x0 rest0 =>
    rw [← hrest]
    have hpos : 0 < n := by rw [← hl, hrest]; simp
    have he : (!rest.isEmpty) = true := by rw [hrest]; rfl
    rw [he]
    refine kt M' hpos fun L hL => ?_
    walk_at "w"
    refine ⟨by rw [v2]; rfl, ?_⟩
    walk_at "w"
    refine ⟨by rw [v1]; rfl, ?_⟩
    walk_at "w"
    refine W.o_len_l v1 ?_
    walk_at "w"
    refine s16 (by omega) hd' (by omega) (by omega) (by omega) fun j M2 j0 j1 hd2 hk2 => ?_
    obtain ⟨i, rfl⟩ := Int.eq_ofNat_of_zero_le j0
    have hi : i < rest.length := by omega
    have hx : rest[i]? = some rest[i] := List.getElem?_eq_getElem hi
    have b1 := hk2 p1 _ m1 ne1
    have b2 := hk2 p2 _ m2 ne2
    walk_at "w"
    refine W.u_pop1 b1 hx ?_
    walk_at "w"
    have b3 : (M2.put p1 (.lst (rest.eraseIdx i))) p2 = some (.lst found) := by rw [W.put_ne (Ne.symm ne12)]; exact b2
    have hfl : found.length + rest.length = xs.length := by rw [← List.length_append]; exact hp.length_eq
    refine W.u_append b3 (by unfold lim; omega) ?_
    walk_at "w"
    refine hL _ _ ⟨rfl, rest.eraseIdx i, found ++ [rest[i]], by rw [W.put_ne ne12]; exact W.put_same, W.put_same, by rw [List.length_eraseIdx_of_lt hi]; omega, by omega, ?_, ?_, ?_⟩
    · refine List.Perm.trans ?_ hp
      rw [List.append_assoc]
      refine List.Perm.append_left _ ?_
      exact perm_pick hi
    · have e : r - (xs.length - (n - 1)) = r - (xs.length - n) - 1 := by omega
      rw [e]
      exact (hd2.put ne1).put ne2
    · exact ((hk.trans hk2).chg n1).chg n2'
end L
end
section
set_option Elab.async false
set_option linter.all false
set_option maxRecDepth 100000
set_option maxHeartbeats 1000000
open PySem DS
local macro_rules | `(tactic| walk_at "w1") => `(tactic| with_reducible first
  | apply W.ss_cons | apply W.st_asg | apply W.st_ret | apply W.st_iff | apply W.st_exp | apply W.st_for | apply W.st_set | apply W.st_fld | apply W.st_pas | apply W.st_met | apply W.st_par | apply W.st_tup
  | apply W.e_int | apply W.e_str | apply W.e_bl | apply W.e_non | apply W.e_gstr | apply W.e_gint | apply W.e_fnv
  | apply W.e_cal | apply W.e_bin | apply W.e_cmp | apply W.e_idx | apply W.e_att | apply W.e_bi | apply W.e_isi | apply W.e_and | apply W.e_or | apply W.e_not | apply W.e_neg | apply W.e_chn | apply W.e_ite
  | apply W.e_tup | apply W.e_lst | apply W.e_lstm | apply W.e_dic | apply W.e_slc | apply W.e_calL | apply W.e_cak | apply W.e_bt | apply W.e_me | apply W.e_mu | apply W.e_cmpr | apply W.e_cmp2 | apply W.e_dcm | apply W.e_mut | apply W.e_frz
  | apply W.t_and | apply W.t_or | apply W.t_not | apply W.t_val | apply W.t_yes
  | apply W.es_cons | apply W.es_nil | apply W.as_nil | apply W.as_e
  | apply W.i_of | apply W.i_enm | apply W.i_zip | apply W.i_rng | apply W.i_rng2 | apply W.i_itm | apply W.i_itv | apply W.i_zpl | apply W.i_vls | apply W.i_vlv
  | apply W.ss_nil | apply W.sl_no | apply W.made_f | apply W.o_ins | apply W.o_nins | apply W.it_str | apply W.it_lst | apply W.it_tup | apply W.it_dic | apply W.it_enl | apply W.it_ent
  | apply W.if_tt | apply W.if_ff | apply W.if_nt | apply W.if_nf | apply W.tru_b | apply W.tru_i | apply W.tru_n | apply W.bl_in | apply W.int_in
  | apply W.o_add | apply W.o_sub | apply W.o_lt | apply W.o_le | apply W.o_gt | apply W.o_ge | apply W.o_eqi | apply W.o_nei | apply W.o_eqs | apply W.o_nes | apply W.o_eqb | apply W.o_neb | apply W.o_int_i | apply W.o_int_b)
local macro_rules | `(tactic| walk_at "w1") => `(tactic| ((with_reducible refine W.e_var (d := ?dd) ?ee ?qq); (case ee => exact rfl)))
local macro_rules | `(tactic| walk_at "w1") => `(tactic| ((with_reducible first | refine W.isi_int (b := ?bb) ?kk ?ee ?qq | refine W.isi_inb (b := ?bb) ?kk ?ee ?qq | refine W.isi_q (b := ?bb) ?kk ?ee ?qq | refine W.isi_in (b := ?bb) ?kk ?ee ?qq); (case kk => first | assumption | rfl); (case ee => first | exact (rfl : _ = true) | exact (rfl : _ = false) | exact rfl)))
local macro_rules | `(tactic| walk_at "w") => `(tactic| repeat walk_at "w1")
namespace L
variable {m : Nat} {M : Sto} {Q : Po D} {E : Po Exn} {a : Addr} {r : Nat}
theorem vw_known {d : D} (h : known d = true) : vw M d = d := by cases d <;> first | rfl | cases h
/-- what is no path is refused -/
theorem s7 {x : D} (hm : 1 ≤ m) (hk : known (vw M x) = true) (h1 : isTy (.cls 0) (vw M x) = true → Q .non M) (h2 : isTy (.cls 0) (vw M x) = false → E ⟨3, [("thing", x)]⟩ M) : (Phi P m).fn 7 [.d x] M Q E := by
  refine W.fn_in hm rfl rfl ?_
  show wpSs _ _ f7.body [some (.d x)] _ _
  unfold f7
  walk_at "w"
  refine W.if_b (fun e => ?_) fun e => ?_
  · walk_at "w"
    refine W.st_rai (ns := ["thing"]) rfl ?_
    walk_at "w"
    exact ⟨rfl, h2 (by simpa using e)⟩
  · walk_at "w"
    exact h1 (by simpa using e)
theorem s9 {x : D} (hm : 3 ≤ m) (hk : known (vw M x) = true) (h1 : isPos (vw M x) = true → Q .non M) (h2 : isPos (vw M x) = false → E ⟨4, [("most", x)]⟩ M) : (Phi P m).fn 9 [.d x] M Q E := by
  refine W.fn_in (by omega) rfl rfl ?_
  show wpSs _ _ f9.body [some (.d x)] _ _
  unfold f9
  walk_at "w"
  refine s4 (by omega) hk ?_
  walk_at "w"
  refine W.if_b (fun e => ?_) fun e => ?_
  · walk_at "w"
    refine W.st_rai (ns := ["most"]) rfl ?_
    walk_at "w"
    exact ⟨rfl, h2 (by simpa using e)⟩
  · walk_at "w"
    exact h1 (by simpa using e)
/-! ### parts -/
def inKs {α : Type} (kvs : List (Str × α)) (n : Str) : Bool := (kvs.lookup n).isSome
def vNum {α : Type} (c : α → D) (kvs : List (Str × α)) (n : Str) : Bool := match kvs.lookup n with
  | some v => isNum (c v)
  | none => true
def partB {α : Type} (ns : List Str) (c : α → D) (kvs : List (Str × α)) : Bool :=
  decide ((kvs.length : Int) = (ns.length : Int) - 1) && (decide (((ns.filter (inKs kvs)).length : Int) = kvs.length) && (ns.filter (inKs kvs)).all (vNum c kvs))
theorem lookup_mem {α : Type} {kvs : List (Str × α)} {k : Str} {v : α} (h : kvs.lookup k = some v) : (k, v) ∈ kvs := by
  induction kvs with
  | nil => cases h
  | cons q r ih =>
    obtain ⟨x, w⟩ := q
    rw [List.lookup_cons] at h
    by_cases e : k = x
    · subst e; simp at h; subst h; exact List.mem_cons_self
    · have : (k == x) = false := by simpa using e
      rw [this] at h
      exact List.mem_cons_of_mem _ (ih h)
theorem s13_no {x y : D} (hm : 1 ≤ m) (hk : known (vw M x) = true) (hn : isTy .dict (vw M x) = false) (h : Q (.bl false) M) : (Phi P m).fn 13 [.d y, .d x] M Q E := by
  refine W.fn_in (by omega) rfl rfl ?_
  show wpSs _ _ f13.body [some (.d y), some (.d x), none, none] _ _
  unfold f13
  walk_at "w"
  refine W.if_t (by simp [hn]) ?_
  walk_at "w"
  exact h
theorem filt_some {α : Type} (p : α → Bool) (g : α → D) : ∀ l : List α, l.filterMap (fun x => if p x = true then some (g x) else none) = (l.filter p).map g
  | [] => rfl
  | x :: l => by
    rw [List.filterMap_cons, List.filter_cons, filt_some p g l]
    cases p x <;> rfl
theorem s13 {α : Type} {c : α → D} {kvs : List (Str × α)} {ns : List Str} {x : D} (hm : 3 ≤ m) (hv : vw M x = dS c kvs) (hk : ∀ q ∈ kvs, known (c q.2) = true) (hl : ns.length ≤ 20) (h : Q (.bl (partB ns c kvs)) M) : (Phi P m).fn 13 [.d (pathD ns), .d x] M Q E := by
  refine W.fn_in (by omega) rfl rfl ?_
  show wpSs _ _ f13.body [some (.d (pathD ns)), some (.d x), none, none] _ _
  unfold f13
  have kn : known (vw M x) = true := by rw [hv]; rfl
  have ty : isTy .dict (vw M x) = true := by rw [hv]; rfl
  walk_at "w"
  refine W.if_f (by simp [ty]) ?_
  walk_at "w"
  refine W.o_len_d hv ?_
  rw [List.length_map]
  walk_at "w"
  refine W.p_many ?_
  walk_at "w"
  refine W.if_b (fun e => ?_) fun e => ?_
  · walk_at "w"
    have : partB ns c kvs = false := by
      unfold partB
      have : ¬ ((kvs.length : Int) = (ns.length : Int) - 1) := by simpa using e
      simp [this]
    rw [this] at h
    exact h
  · have e : ((kvs.length : Int) = (ns.length : Int) - 1) := by simpa using e
    walk_at "w"
    refine W.p_names ?_
    walk_at "w"
    refine ⟨by rw [List.length_map]; unfold lim; omega, ?_⟩
    refine W.map_some (g := fun n => if inKs kvs n = true then some (.str n) else none) W.any_in ns (fun n hn K hK => ?_) ?_
    · refine ⟨_, rfl, ?_⟩
      walk_at "w"
      refine W.o_inS hv ?_
      walk_at "w"
      refine W.if_b (fun e => ?_) fun e => ?_
      · walk_at "w"
        have e : inKs kvs n = true := e
        rw [e] at hK
        exact hK
      · have e : inKs kvs n = false := e
        rw [e] at hK
        exact hK
    · rw [filt_some]
      walk_at "w"
      refine W.o_len_l rfl ?_
      walk_at "w"
      refine W.o_len_d hv ?_
      rw [List.length_map, List.length_map]
      walk_at "w"
      refine W.if_b (fun e2 => ?_) fun e2 => ?_
      · have e2 : (((ns.filter (inKs kvs)).length : Int) = kvs.length) := by simpa using e2
        walk_at "w"
        have hl2 : (ns.filter (inKs kvs)).length ≤ ns.length := List.length_filter_le _ _
        refine ⟨by rw [List.length_map]; unfold lim; omega, ?_⟩
        refine W.map_all (g := fun n => .bl (vNum c kvs n)) W.same_in _ (fun n hn K hK => ?_) ?_
        · refine ⟨_, rfl, ?_⟩
          walk_at "w"
          have hin := (List.mem_filter.mp hn).2
          unfold inKs at hin
          obtain ⟨v, hv2⟩ := Option.isSome_iff_exists.mp hin
          refine W.o_idxS hv hv2 ?_
          walk_at "w"
          have hkn : known (c v) = true := hk (n, v) (lookup_mem hv2)
          refine s3 (by omega) (by rw [vw_known hkn]; exact hkn) ?_
          rw [vw_known hkn]
          unfold vNum at hK
          rw [hv2] at hK
          exact hK
        · walk_at "w"
          refine W.o_all (bs := (ns.filter (inKs kvs)).map (vNum c kvs)) (by rw [List.map_map]; rfl) ?_
          rw [List.all_map]
          unfold partB at h
          simp only [e, e2, decide_true, Bool.true_and] at h
          exact h
      · have e2 : ¬ (((ns.filter (inKs kvs)).length : Int) = kvs.length) := by simpa using e2
        unfold partB at h
        simp only [e2, decide_false, Bool.false_and, Bool.and_false] at h
        exact h
end L
end
section
set_option Elab.async false
set_option linter.all false
set_option maxRecDepth 100000
set_option maxHeartbeats 1000000
open PySem DS
local macro_rules | `(tactic| walk_at "w1") => `(tactic| with_reducible first
  | apply W.ss_cons | apply W.st_asg | apply W.st_ret | apply W.st_iff | apply W.st_exp | apply W.st_for | apply W.st_set | apply W.st_fld | apply W.st_pas | apply W.st_met | apply W.st_par | apply W.st_tup
  | apply W.e_int | apply W.e_str | apply W.e_bl | apply W.e_non | apply W.e_gstr | apply W.e_gint | apply W.e_fnv
  | apply W.e_cal | apply W.e_bin | apply W.e_cmp | apply W.e_idx | apply W.e_att | apply W.e_bi | apply W.e_isi | apply W.e_and | apply W.e_or | apply W.e_not | apply W.e_neg | apply W.e_chn | apply W.e_ite
  | apply W.e_tup | apply W.e_lst | apply W.e_lstm | apply W.e_dic | apply W.e_slc | apply W.e_calL | apply W.e_cak | apply W.e_bt | apply W.e_me | apply W.e_mu | apply W.e_cmpr | apply W.e_cmp2 | apply W.e_dcm | apply W.e_mut | apply W.e_frz
  | apply W.t_and | apply W.t_or | apply W.t_not | apply W.t_val | apply W.t_yes
  | apply W.es_cons | apply W.es_nil | apply W.as_nil | apply W.as_e
  | apply W.i_of | apply W.i_enm | apply W.i_zip | apply W.i_rng | apply W.i_rng2 | apply W.i_itm | apply W.i_itv | apply W.i_zpl | apply W.i_vls | apply W.i_vlv
  | apply W.ss_nil | apply W.sl_no | apply W.made_f | apply W.o_ins | apply W.o_nins | apply W.it_str | apply W.it_lst | apply W.it_tup | apply W.it_dic | apply W.it_enl | apply W.it_ent
  | apply W.if_tt | apply W.if_ff | apply W.if_nt | apply W.if_nf | apply W.tru_b | apply W.tru_i | apply W.tru_n | apply W.bl_in | apply W.int_in
  | apply W.o_add | apply W.o_sub | apply W.o_lt | apply W.o_le | apply W.o_gt | apply W.o_ge | apply W.o_eqi | apply W.o_nei | apply W.o_eqs | apply W.o_nes | apply W.o_eqb | apply W.o_neb | apply W.o_int_i | apply W.o_int_b)
local macro_rules | `(tactic| walk_at "w1") => `(tactic| ((with_reducible refine W.e_var (d := ?dd) ?ee ?qq); (case ee => exact rfl)))
local macro_rules | `(tactic| walk_at "w1") => `(tactic| ((with_reducible first | refine W.isi_int (b := ?bb) ?kk ?ee ?qq | refine W.isi_inb (b := ?bb) ?kk ?ee ?qq | refine W.isi_q (b := ?bb) ?kk ?ee ?qq | refine W.isi_in (b := ?bb) ?kk ?ee ?qq); (case kk => first | assumption | rfl); (case ee => first | exact (rfl : _ = true) | exact (rfl : _ = false) | exact rfl)))
local macro_rules | `(tactic| walk_at "w") => `(tactic| repeat walk_at "w1")
namespace L
open DS.W (srt)
variable {m : Nat} {M : Sto} {Q : Po D} {E : Po Exn} {a : Addr} {r : Nat}
def over (r : List Int) (k : Int) : List (Int × Nat) := r.zipIdx.filter fun q => decide ((q.2 : Int) * k < q.1)
def lackD (r : List Int) (k : Int) : D :=
  if (r.zipIdx.any fun q => decide (((q.2 : Int) + 1) * k < q.1)) = true then .non else .int (k * (match over r k with
    | [] => (r.length : Int)
    | q :: _ => (q.2 : Int)))
/-- all is right: what is told -/
theorem s14 {kvs : List (Str × Int)} {ns : List Str} {x : D} {k : Int} (hm : 4 ≤ m) (hv : vw M x = dI kvs) (hp : partB ns .int kvs = true) (hl : ns.length ≤ 20) (h0 : 1 ≤ k) (h1 : k < 2 ^ 60) (h : Q (lackD (srt (kvs.map (·.2))) k) M) : (Phi P m).fn 14 [.d (pathD ns), .d x, .d (.int k)] M Q E := by
  refine W.fn_in (by omega) rfl rfl ?_
  show wpSs _ _ f14.body [some (.d (pathD ns)), some (.d x), some (.d (.int k)), none, none, none, none] _ _
  unfold f14
  have hlen : kvs.length ≤ 20 := by
    unfold partB at hp
    simp only [Bool.and_eq_true, decide_eq_true_eq] at hp
    omega
  walk_at "w"
  refine s7 (by omega) rfl (fun _ => ?_) (fun z => by cases z)
  walk_at "w"
  refine s13 (by omega) hv (fun q _ => rfl) hl ?_
  walk_at "w"
  refine W.if_f (by rw [hp]; rfl) ?_
  walk_at "w"
  refine s9 (by omega) rfl (fun _ => ?_) (fun z => by simp [isPos, vw] at z; omega)
  walk_at "w"
  refine ⟨_, hv, isTK_dS .int kvs, ?_⟩
  rw [valsS]
  refine W.b_sorted ?_
  walk_at "w"
  have hsl : (srt (kvs.map (·.2))).length = kvs.length := by rw [(W.srt_perm _).length_eq, List.length_map]
  generalize hr : srt (kvs.map (·.2)) = r at *
  rw [enumD_map]
  have hzl : ∀ q ∈ r.zipIdx, q.2 < 20 := fun q hq => by
    have := List.snd_lt_of_mem_zipIdx hq
    omega
  refine ⟨by simp; unfold lim; omega, ?_⟩
  refine W.map_all (g := fun q : Int × Nat => .bl (decide (((q.2 : Int) + 1) * k < q.1))) W.same_in r.zipIdx (fun q hq K hK => ?_) ?_
  · refine ⟨_, rfl, ?_⟩
    walk_at "w"
    have := hzl q hq
    refine W.o_mul (by omega) ?_
    walk_at "w"
    exact hK
  · walk_at "w"
    refine W.o_any (bs := r.zipIdx.map fun q : Int × Nat => (decide (((q.2 : Int) + 1) * k < q.1))) (by rw [List.map_map]; rfl) ?_
    walk_at "w"
    rw [List.any_map]
    unfold lackD at h
    refine W.if_b (fun e => ?_) fun e => ?_
    · walk_at "w"
      have e2 : (r.zipIdx.any fun q => decide (((q.2 : Int) + 1) * k < q.1)) = true := e
      rw [if_pos e2] at h
      exact h
    · have e2 : (r.zipIdx.any fun q => decide (((q.2 : Int) + 1) * k < q.1)) = false := e
      rw [e2] at h
      walk_at "w"
      rw [enumD_map]
      refine ⟨by simp; unfold lim; omega, ?_⟩
      refine W.map_some (g := fun q : Int × Nat => if decide ((q.2 : Int) * k < q.1) = true then some (.int q.2) else none) W.same_in r.zipIdx (fun q hq K hK => ?_) ?_
      · refine ⟨_, rfl, ?_⟩
        walk_at "w"
        have := hzl q hq
        refine W.o_mul (by omega) ?_
        walk_at "w"
        refine W.if_b (fun e => ?_) fun e => ?_
        · walk_at "w"
          rw [e] at hK
          exact hK
        · rw [e] at hK
          exact hK
      · rw [filt_some]
        walk_at "w"
        refine W.tru_l rfl ?_
        have h : Q (.int (k * (match over r k with
    | [] => (r.length : Int)
    | q :: _ => (q.2 : Int)))) M := h
        show if (!((over r k).map _).isEmpty) = true then _ else _
        refine W.if_b (fun e => ?_) fun e => ?_
        · walk_at "w"
          cases ho : over r k with
          | nil => rw [ho] at e; cases e
          | cons q t =>
            rw [ho] at h
            have hq : q ∈ r.zipIdx := (List.mem_filter.mp (by unfold over at ho; rw [ho]; exact List.mem_cons_self)).1
            refine W.o_idxl (d := .int q.2) rfl ?_ ?_
            · show L2.atI ((over r k).map _) 0 = _
              rw [ho]
              exact W.atI_nat (n := 0) rfl
            · have := hzl q hq
              refine W.o_mul (by omega) ?_
              exact h
        · walk_at "w"
          refine W.o_len_l rfl ?_
          rw [List.length_map]
          refine W.o_mul (by omega) ?_
          cases ho : over r k with
          | nil => rw [ho] at h; exact h
          | cons q t => rw [ho] at e; cases e
/-- the path is none -/
theorem s14_path {x y z : D} (hm : 2 ≤ m) (hk : known (vw M x) = true) (hx : isTy (.cls 0) (vw M x) = false) (h : E ⟨3, [("thing", x)]⟩ M) : (Phi P m).fn 14 [.d x, .d y, .d z] M Q E := by
  refine W.fn_in (by omega) rfl rfl ?_
  show wpSs _ _ f14.body [some (.d x), some (.d y), some (.d z), none, none, none, none] _ _
  unfold f14
  walk_at "w"
  exact s7 (by omega) hk (fun z => by rw [hx] at z; cases z) fun _ => h
/-- the part is none -/
theorem s14_part0 {ns : List Str} {y z : D} (hm : 2 ≤ m) (hk : known (vw M y) = true) (hx : isTy .dict (vw M y) = false) (h : E ⟨6, [("part", y)]⟩ M) : (Phi P m).fn 14 [.d (pathD ns), .d y, .d z] M Q E := by
  refine W.fn_in (by omega) rfl rfl ?_
  show wpSs _ _ f14.body [some (.d (pathD ns)), some (.d y), some (.d z), none, none, none, none] _ _
  unfold f14
  walk_at "w"
  refine s7 (by omega) rfl (fun _ => ?_) (fun z => by cases z)
  walk_at "w"
  refine s13_no (by omega) hk hx ?_
  walk_at "w"
  refine W.st_rai (ns := ["part"]) rfl ?_
  walk_at "w"
  exact ⟨rfl, h⟩
theorem s14_part {α : Type} {c : α → D} {kvs : List (Str × α)} {ns : List Str} {y z : D} (hm : 4 ≤ m) (hv : vw M y = dS c kvs) (hk : ∀ q ∈ kvs, known (c q.2) = true) (hl : ns.length ≤ 20) (hp : partB ns c kvs = false) (h : E ⟨6, [("part", y)]⟩ M) : (Phi P m).fn 14 [.d (pathD ns), .d y, .d z] M Q E := by
  refine W.fn_in (by omega) rfl rfl ?_
  show wpSs _ _ f14.body [some (.d (pathD ns)), some (.d y), some (.d z), none, none, none, none] _ _
  unfold f14
  walk_at "w"
  refine s7 (by omega) rfl (fun _ => ?_) (fun z => by cases z)
  walk_at "w"
  refine s13 (by omega) hv hk hl ?_
  rw [hp]
  walk_at "w"
  refine W.st_rai (ns := ["part"]) rfl ?_
  walk_at "w"
  exact ⟨rfl, h⟩
theorem s14_most {kvs : List (Str × Int)} {ns : List Str} {x z : D} (hm : 4 ≤ m) (hv : vw M x = dI kvs) (hp : partB ns .int kvs = true) (hl : ns.length ≤ 20) (hk : known (vw M z) = true) (hz : isPos (vw M z) = false) (h : E ⟨4, [("most", z)]⟩ M) : (Phi P m).fn 14 [.d (pathD ns), .d x, .d z] M Q E := by
  refine W.fn_in (by omega) rfl rfl ?_
  show wpSs _ _ f14.body [some (.d (pathD ns)), some (.d x), some (.d z), none, none, none, none] _ _
  unfold f14
  walk_at "w"
  refine s7 (by omega) rfl (fun _ => ?_) (fun z => by cases z)
  walk_at "w"
  refine s13 (by omega) hv (fun q _ => rfl) hl ?_
  rw [hp]
  walk_at "w"
  exact s9 (by omega) hk (fun g => by rw [hz] at g; cases g) fun _ => h
end L
end
section
set_option Elab.async false
set_option linter.all false
set_option maxRecDepth 100000
set_option maxHeartbeats 1000000
open PySem DS
local macro_rules | `(tactic| walk_at "w1") => `(tactic| with_reducible first
  | apply W.ss_cons | apply W.st_asg | apply W.st_ret | apply W.st_iff | apply W.st_exp | apply W.st_for | apply W.st_set | apply W.st_fld | apply W.st_pas | apply W.st_met | apply W.st_par | apply W.st_tup
  | apply W.e_int | apply W.e_str | apply W.e_bl | apply W.e_non | apply W.e_gstr | apply W.e_gint | apply W.e_fnv
  | apply W.e_cal | apply W.e_bin | apply W.e_cmp | apply W.e_idx | apply W.e_att | apply W.e_bi | apply W.e_isi | apply W.e_and | apply W.e_or | apply W.e_not | apply W.e_neg | apply W.e_chn | apply W.e_ite
  | apply W.e_tup | apply W.e_lst | apply W.e_lstm | apply W.e_dic | apply W.e_slc | apply W.e_calL | apply W.e_cak | apply W.e_bt | apply W.e_me | apply W.e_mu | apply W.e_cmpr | apply W.e_cmp2 | apply W.e_dcm | apply W.e_mut | apply W.e_frz
  | apply W.t_and | apply W.t_or | apply W.t_not | apply W.t_val | apply W.t_yes
  | apply W.es_cons | apply W.es_nil | apply W.as_nil | apply W.as_e
  | apply W.i_of | apply W.i_enm | apply W.i_zip | apply W.i_rng | apply W.i_rng2 | apply W.i_itm | apply W.i_itv | apply W.i_zpl | apply W.i_vls | apply W.i_vlv
  | apply W.ss_nil | apply W.sl_no | apply W.made_f | apply W.o_ins | apply W.o_nins | apply W.it_str | apply W.it_lst | apply W.it_tup | apply W.it_dic | apply W.it_enl | apply W.it_ent
  | apply W.if_tt | apply W.if_ff | apply W.if_nt | apply W.if_nf | apply W.tru_b | apply W.tru_i | apply W.tru_n | apply W.bl_in | apply W.int_in
  | apply W.o_add | apply W.o_sub | apply W.o_lt | apply W.o_le | apply W.o_gt | apply W.o_ge | apply W.o_eqi | apply W.o_nei | apply W.o_eqs | apply W.o_nes | apply W.o_eqb | apply W.o_neb | apply W.o_int_i | apply W.o_int_b)
local macro_rules | `(tactic| walk_at "w1") => `(tactic| ((with_reducible refine W.isi_an ?kk ?qq); (case kk => first | assumption | rfl)))
local macro_rules | `(tactic| walk_at "w1") => `(tactic| ((with_reducible refine W.e_var (d := ?dd) ?ee ?qq); (case ee => exact rfl)))
local macro_rules | `(tactic| walk_at "w1") => `(tactic| ((with_reducible first | refine W.isi_int (b := ?bb) ?kk ?ee ?qq | refine W.isi_inb (b := ?bb) ?kk ?ee ?qq | refine W.isi_q (b := ?bb) ?kk ?ee ?qq | refine W.isi_in (b := ?bb) ?kk ?ee ?qq); (case kk => first | assumption | rfl); (case ee => first | exact (rfl : _ = true) | exact (rfl : _ = false) | exact rfl)))
local macro_rules | `(tactic| walk_at "w") => `(tactic| repeat walk_at "w1")
namespace L
open DS.W (srt)
variable {m : Nat} {M : Sto} {Q : Po D} {E : Po Exn} {a : Addr} {r : Nat}
/-! ### same -/
/-- two values that are told the same -/
def Sm (k : Nat) (M : Sto) (x y : D) : Prop := ∀ m ≥ k, ∀ (Q : Po D) (E : Po Exn), Q (.bl true) M → (Phi P m).fn 19 [.d x, .d y] M Q E
theorem Sm.mono {k k' : Nat} {M : Sto} {x y : D} (h : Sm k M x y) (hk : k ≤ k') : Sm k' M x y := fun m hm Q E q => h m (Nat.le_trans hk hm) Q E q
theorem Sm_int {i : Int} : Sm 1 M (.int i) (.int i) := by
  intro m hm Q E q
  refine W.fn_in (by omega) rfl rfl ?_
  show wpSs _ _ f19.body [some (.d (.int i)), some (.d (.int i)), none, none] _ _
  unfold f19
  walk_at "w"
  refine W.if_t (by simp) ?_
  walk_at "w"
  simpa using q
theorem Sm_bl {i : Bool} : Sm 1 M (.bl i) (.bl i) := by
  intro m hm Q E q
  refine W.fn_in (by omega) rfl rfl ?_
  show wpSs _ _ f19.body [some (.d (.bl i)), some (.d (.bl i)), none, none] _ _
  unfold f19
  walk_at "w"
  refine W.if_t (by simp) ?_
  walk_at "w"
  simpa using q
theorem Sm_str {s : Str} : Sm 1 M (.str s) (.str s) := by
  intro m hm Q E q
  refine W.fn_in (by omega) rfl rfl ?_
  show wpSs _ _ f19.body [some (.d (.str s)), some (.d (.str s)), none, none] _ _
  unfold f19
  walk_at "w"
  simpa using q
theorem Sm_non : Sm 1 M .non .non := by
  intro m hm Q E q
  refine W.fn_in (by omega) rfl rfl ?_
  show wpSs _ _ f19.body [some (.d .non), some (.d .non), none, none] _ _
  unfold f19
  walk_at "w"
  exact W.o_eq (b := true) rfl q
theorem zipD_zip : ∀ xs ys : List D, zipD xs ys = (xs.zip ys).map fun q => .tup [q.1, q.2]
  | [], _ => rfl
  | _ :: _, [] => rfl
  | x :: xs, y :: ys => by rw [zipD, zipD_zip xs ys]; rfl
theorem all_true {α : Type} (l : List α) : (l.map fun _ => true).all id = true := by simp
theorem Sm_lst {k : Nat} {x y : D} {xs ys : List D} (hx : vw M x = .lst xs) (hy : vw M y = .lst ys) (hl : xs.length = ys.length) (hs : xs.length ≤ lim) (h : ∀ p ∈ xs.zip ys, Sm k M p.1 p.2) : Sm (k + 1) M x y := by
  intro m hm Q E q
  refine W.fn_in (by omega) rfl rfl ?_
  show wpSs _ _ f19.body [some (.d x), some (.d y), none, none] _ _
  unfold f19
  have kx : known (vw M x) = true := by rw [hx]; rfl
  have ky : known (vw M y) = true := by rw [hy]; rfl
  walk_at "w"
  refine W.if_t (by rw [hy]; rfl) ?_
  walk_at "w"
  refine W.if_f (by rw [hx, hy]; rfl) ?_
  walk_at "w"
  refine W.if_f (by rw [hx, hy]; rfl) ?_
  walk_at "w"
  refine W.o_len_l hx ?_
  walk_at "w"
  refine W.o_len_l hy ?_
  walk_at "w"
  refine W.if_t (by simp [hl]) ?_
  walk_at "w"
  refine ⟨xs, ys, .inl ⟨hx, hy⟩, ?_⟩
  rw [zipD_zip]
  refine ⟨by simp; omega, ?_⟩
  refine W.map_all (g := fun _ => .bl true) ⟨W.same_in, W.same_in⟩ _ (fun p hp K hK => ?_) ?_
  · refine ⟨_, rfl, ?_⟩
    walk_at "w"
    exact h p hp _ (by omega) _ _ hK
  · walk_at "w"
    refine W.o_all (bs := (xs.zip ys).map fun _ => true) (by rw [List.map_map]; rfl) ?_
    rw [all_true]
    exact q
theorem Sm_tup {k : Nat} {xs ys : List D} (hl : xs.length = ys.length) (hs : xs.length ≤ lim) (h : ∀ p ∈ xs.zip ys, Sm k M p.1 p.2) : Sm (k + 1) M (.tup xs) (.tup ys) := by
  intro m hm Q E q
  refine W.fn_in (by omega) rfl rfl ?_
  show wpSs _ _ f19.body [some (.d (.tup xs)), some (.d (.tup ys)), none, none] _ _
  unfold f19
  walk_at "w"
  refine W.if_f rfl ?_
  walk_at "w"
  refine W.if_f rfl ?_
  walk_at "w"
  refine W.o_len_t rfl ?_
  walk_at "w"
  refine W.o_len_t rfl ?_
  walk_at "w"
  refine W.if_t (by simp [hl]) ?_
  walk_at "w"
  refine ⟨xs, ys, .inr ⟨rfl, rfl⟩, ?_⟩
  rw [zipD_zip]
  refine ⟨by simp; omega, ?_⟩
  refine W.map_all (g := fun _ => .bl true) ⟨W.same_in, W.same_in⟩ _ (fun p hp K hK => ?_) ?_
  · refine ⟨_, rfl, ?_⟩
    walk_at "w"
    exact h p hp _ (by omega) _ _ hK
  · walk_at "w"
    refine W.o_all (bs := (xs.zip ys).map fun _ => true) (by rw [List.map_map]; rfl) ?_
    rw [all_true]
    exact q
theorem Sm_dic {α : Type} {c : α → D} {k : Nat} {x y : D} {kvs : List (Str × α)} (hx : vw M x = dS c kvs) (hy : vw M y = dS c kvs) (hs : kvs.length ≤ lim) (hk : 1 ≤ k) (h : ∀ q ∈ kvs, Sm k M (c q.2) (c q.2)) : Sm (k + 3) M x y := by
  intro m hm Q E q
  refine W.fn_in (by omega) rfl rfl ?_
  show wpSs _ _ f19.body [some (.d x), some (.d y), none, none] _ _
  unfold f19
  have kx : known (vw M x) = true := by rw [hx]; rfl
  have ky : known (vw M y) = true := by rw [hy]; rfl
  walk_at "w"
  refine W.if_f (by rw [hy]; rfl) ?_
  walk_at "w"
  refine W.if_t (by rw [hy]; rfl) ?_
  walk_at "w"
  refine W.if_t (by rw [hx]; rfl) ?_
  walk_at "w"
  refine ⟨_, hx, isTK_dS c kvs, ?_⟩
  rw [itemsS]
  refine W.b_list (by rw [List.length_map]; exact hs) ?_
  walk_at "w"
  refine ⟨_, hy, isTK_dS c kvs, ?_⟩
  rw [itemsS]
  refine W.b_list (by rw [List.length_map]; exact hs) ?_
  walk_at "w"
  refine Sm_lst (k := k + 1) rfl rfl rfl (by rw [List.length_map]; exact hs) (fun p hp => ?_) _ (by omega) _ _ q
  rw [List.zip_map'] at hp
  obtain ⟨q, hq, rfl⟩ := List.mem_map.mp hp
  refine Sm_tup rfl (by show 2 ≤ lim; unfold lim; omega) fun p hp => ?_
  have hp : p ∈ [(D.str q.1, D.str q.1), (c q.2, c q.2)] := hp
  simp only [List.mem_cons, List.not_mem_nil, or_false] at hp
  rcases hp with rfl | rfl
  · exact Sm_str.mono hk
  · exact h q hq
/-! ### loose -/
theorem s20_list {w : D} {ns : List Str} (hm : 3 ≤ m) (hd : Dr M a r) (hr : 1 ≤ r) (hw : w = .lst (ns.map .str) ∨ w = .tup (ns.map .str)) (hl : ns.length ≤ lim) (h : ∀ w M', w = .lst (ns.map .str) ∨ w = .tup (ns.map .str) → Dr M' a (r - 1) → Ke a M M' → Q w M') : (Phi P m).fn 20 [.d (.mref a), .d w] M Q E := by
  refine W.fn_in (by omega) rfl rfl ?_
  show wpSs _ _ f20.body [some (.d (.mref a)), some (.d w), none, none] _ _
  unfold f20
  have kn : known (vw M w) = true := by rcases hw with rfl | rfl <;> rfl
  have it : ∀ Q : IQ, (∀ g : Sto → Prop, g M → Q (ns.map .str) g M) → itOf w M Q := fun Q q => by
    rcases hw with rfl | rfl
    · exact q _ W.same_in
    · exact q _ W.any_in
  walk_at "w"
  refine W.if_t (by rcases hw with rfl | rfl <;> rfl) ?_
  walk_at "w"
  refine it _ fun g hg => ?_
  refine ⟨by rw [List.length_map]; exact hl, ?_⟩
  refine W.map_all (g := fun s => .str s) hg ns (fun s hs K hK => ?_) ?_
  · refine ⟨_, rfl, ?_⟩
    walk_at "w"
    refine W.fn_in (by omega) rfl rfl ?_
    show wpSs _ _ f20.body [some (.d (.mref a)), some (.d (.str s)), none, none] _ _
    unfold f20
    walk_at "w"
    exact hK
  · walk_at "w"
    refine s16 (by omega) hd hr (by omega) (by omega) fun j M' j0 j1 hd' hk => ?_
    walk_at "w"
    refine W.if_b (fun e => ?_) fun e => ?_
    · walk_at "w"
      exact h _ _ (.inl rfl) hd' hk
    · walk_at "w"
      refine W.o_tuple_l rfl ?_
      exact h _ _ (.inr rfl) hd' hk
/-! ### names -/
def pool1 : List Str := ["a", "b", "c9", "zoe", "eightsgn", "m", "k2", "ann", "x", "bo", "q7", "last", "d", "e1", "ff", "g", "hal"]
def pool2 : List Str := ["i", "jo", "kay2"]
def pool : List Str := pool1 ++ pool2
theorem pool_nm : ∀ s ∈ pool, nameB s = true := by decide +kernel
theorem pool_nd : pool.Nodup := by decide +kernel
theorem pool_ok : ∀ s ∈ pool, PyData.strOk s = true := by decide +kernel
end L
end
section
set_option Elab.async false
set_option linter.all false
set_option maxRecDepth 100000
set_option maxHeartbeats 1000000
open PySem DS
local macro_rules | `(tactic| walk_at "w1") => `(tactic| with_reducible first
  | apply W.ss_cons | apply W.st_asg | apply W.st_ret | apply W.st_iff | apply W.st_exp | apply W.st_for | apply W.st_set | apply W.st_fld | apply W.st_pas | apply W.st_met | apply W.st_par | apply W.st_tup
  | apply W.e_int | apply W.e_str | apply W.e_bl | apply W.e_non | apply W.e_gstr | apply W.e_gint | apply W.e_fnv
  | apply W.e_cal | apply W.e_bin | apply W.e_cmp | apply W.e_idx | apply W.e_att | apply W.e_bi | apply W.e_isi | apply W.e_and | apply W.e_or | apply W.e_not | apply W.e_neg | apply W.e_chn | apply W.e_ite
  | apply W.e_tup | apply W.e_lst | apply W.e_lstm | apply W.e_dic | apply W.e_slc | apply W.e_calL | apply W.e_cak | apply W.e_bt | apply W.e_me | apply W.e_mu | apply W.e_cmpr | apply W.e_cmp2 | apply W.e_dcm | apply W.e_mut | apply W.e_frz
  | apply W.t_and | apply W.t_or | apply W.t_not | apply W.t_val | apply W.t_yes
  | apply W.es_cons | apply W.es_nil | apply W.as_nil | apply W.as_e
  | apply W.i_of | apply W.i_enm | apply W.i_zip | apply W.i_rng | apply W.i_rng2 | apply W.i_itm | apply W.i_itv | apply W.i_zpl | apply W.i_vls | apply W.i_vlv
  | apply W.ss_nil | apply W.sl_no | apply W.made_f | apply W.o_ins | apply W.o_nins | apply W.it_str | apply W.it_lst | apply W.it_tup | apply W.it_dic | apply W.it_enl | apply W.it_ent
  | apply W.if_tt | apply W.if_ff | apply W.if_nt | apply W.if_nf | apply W.tru_b | apply W.tru_i | apply W.tru_n | apply W.bl_in | apply W.int_in
  | apply W.o_add | apply W.o_sub | apply W.o_lt | apply W.o_le | apply W.o_gt | apply W.o_ge | apply W.o_eqi | apply W.o_nei | apply W.o_eqs | apply W.o_nes | apply W.o_eqb | apply W.o_neb | apply W.o_int_i | apply W.o_int_b)
local macro_rules | `(tactic| walk_at "w1") => `(tactic| ((with_reducible refine W.isi_an ?kk ?qq); (case kk => first | assumption | rfl)))
local macro_rules | `(tactic| walk_at "w1") => `(tactic| ((with_reducible refine W.e_var (d := ?dd) ?ee ?qq); (case ee => exact rfl)))
local macro_rules | `(tactic| walk_at "w1") => `(tactic| ((with_reducible first | refine W.isi_int (b := ?bb) ?kk ?ee ?qq | refine W.isi_inb (b := ?bb) ?kk ?ee ?qq | refine W.isi_q (b := ?bb) ?kk ?ee ?qq | refine W.isi_in (b := ?bb) ?kk ?ee ?qq); (case kk => first | assumption | rfl); (case ee => first | exact (rfl : _ = true) | exact (rfl : _ = false) | exact rfl)))
local macro_rules | `(tactic| walk_at "w") => `(tactic| repeat walk_at "w1")
namespace L
open DS.W (srt)
variable {m : Nat} {M : Sto} {Q : Po D} {E : Po Exn} {a : Addr} {r : Nat}
theorem perm_str {ys : List D} {ss : List Str} (h : ys.Perm (ss.map .str)) : ∃ ns : List Str, ys = ns.map .str ∧ ns.Perm ss := by
  let un : D → Str := fun d => match d with
    | .str s => s
    | _ => ""
  have e : ∀ l : List Str, (l.map D.str).map un = l := fun l => by
    rw [List.map_map]
    exact List.map_id l
  refine ⟨ys.map un, ?_, by have := h.map un; rwa [e] at this⟩
  rw [List.map_map]
  have : ∀ d ∈ ys, (D.str ∘ un) d = d := fun d hd => by
    obtain ⟨s, _, rfl⟩ := List.mem_map.mp (h.mem_iff.mp hd)
    rfl
  rw [List.map_congr_left this, List.map_id']
theorem perm_int {ys : List D} {ss : List Int} (h : ys.Perm (ss.map .int)) : ∃ ns : List Int, ys = ns.map .int ∧ ns.Perm ss := by
  let un : D → Int := fun d => match d with
    | .int s => s
    | _ => 0
  have e : ∀ l : List Int, (l.map D.int).map un = l := fun l => by
    rw [List.map_map]
    exact List.map_id l
  refine ⟨ys.map un, ?_, by have := h.map un; rwa [e] at this⟩
  rw [List.map_map]
  have : ∀ d ∈ ys, (D.int ∘ un) d = d := fun d hd => by
    obtain ⟨s, _, rfl⟩ := List.mem_map.mp (h.mem_iff.mp hd)
    rfl
  rw [List.map_congr_left this, List.map_id']
/-- names of the pool -/
structure Nm (ns : List Str) : Prop where
  nd : ns.Nodup
  pl : ∀ s ∈ ns, s ∈ pool
  two : 2 ≤ ns.length
  few : ns.length ≤ 20
theorem Nm.ok {ns : List Str} (h : Nm ns) : NmsOk ns := ⟨fun s hs => pool_nm s (h.pl s hs), h.nd, h.two, h.few⟩
theorem s21 {n : Nat} (hm : 3 ≤ m) (hd : Dr M a r) (hr : 20 ≤ r) (h2 : 2 ≤ n) (h20 : n ≤ 20) (h : ∀ ns M', Nm ns → ns.length = n → Dr M' a (r - 20) → Ke a M M' → Q (.lst (ns.map .str)) M') : (Phi P m).fn 21 [.d (.mref a), .d (.int n)] M Q E := by
  refine W.fn_in (by omega) rfl rfl ?_
  show wpSs _ _ f21.body [some (.d (.mref a)), some (.d (.int n)), none] _ _
  unfold f21
  walk_at "w"
  refine W.o_addl (xs := pool1.map .str) (ys := pool2.map .str) rfl rfl (by decide) (by decide) ?_
  rw [← List.map_append]
  walk_at "w"
  have pl : (pool.map D.str).length = 20 := rfl
  refine s18 (xs := pool.map .str) (by omega) hd (by rw [pl]; exact hr) (.inl rfl) (fun d hd => ?_) (by decide) fun ys M' hp hd' hk => ?_
  · obtain ⟨s, hs, rfl⟩ := List.mem_map.mp hd
    exact plain_str (pool_ok s hs)
  · obtain ⟨ns, rfl, hp2⟩ := perm_str hp
    rw [pl] at hd'
    walk_at "w"
    refine W.sl_at (by omega) (by omega) ?_
    refine W.o_slc_take rfl (by omega) ?_
    rw [← List.map_take]
    have hl : ns.length = 20 := by rw [hp2.length_eq]; rfl
    have hl2 : (ns.take n).length = n := by rw [List.length_take]; omega
    refine h (ns.take n) M' ⟨?_, fun s hs => hp2.mem_iff.mp (List.mem_of_mem_take hs), by omega, by omega⟩ hl2 hd' hk
    exact (List.take_sublist n ns).nodup (hp2.nodup_iff.mpr pool_nd)
theorem s22 (hm : 4 ≤ m) (hd : Dr M a r) (hr : 21 ≤ r) (h : ∀ ns M', Nm ns → ns.length ≤ 6 → Dr M' a (r - 21) → Ke a M M' → Q (.lst (ns.map .str)) M') : (Phi P m).fn 22 [.d (.mref a), .d (.int 6)] M Q E := by
  refine W.fn_in (by omega) rfl rfl ?_
  show wpSs _ _ f22.body [some (.d (.mref a)), some (.d (.int 6))] _ _
  unfold f22
  walk_at "w"
  refine s16 (by omega) hd (by omega) (by omega) (by omega) fun j M' j0 j1 hd' hk => ?_
  walk_at "w"
  obtain ⟨n, rfl⟩ := Int.eq_ofNat_of_zero_le j0
  have e : (2 + (n : Int)) = ((2 + n : Nat) : Int) := by omega
  rw [e]
  refine s21 (by omega) hd' (by omega) (by omega) (by omega) fun ns M2 hn hl hd2 hk2 => ?_
  exact h ns M2 hn (by omega) (hd2.mono (by omega)) (hk.trans hk2)
theorem s23 {w : D} {ns : List Str} (hm : 4 ≤ m) (hd : Dr M a r) (hr : 1 ≤ r) (hn : Nm ns) (hw : w = .lst (ns.map .str) ∨ w = .tup (ns.map .str)) (h : ∀ M', Dr M' a (r - 1) → Ke a M M' → Q (pathD ns) M') : (Phi P m).fn 23 [.d (.mref a), .d w] M Q E := by
  refine W.fn_in (by omega) rfl rfl ?_
  show wpSs _ _ f23.body [some (.d (.mref a)), some (.d w)] _ _
  unfold f23
  walk_at "w"
  refine W.e_mak (f := 6) rfl ?_
  walk_at "w"
  refine s20_list (by omega) hd hr hw (by have := hn.few; unfold lim; omega) fun w' M' hw' hd' hk => ?_
  walk_at "w"
  intro p hp
  refine s6 (by omega) hn.ok W.put_same hw' ?_
  refine ⟨rfl, _, W.put_same, ?_⟩
  have np : p ≠ a := hd'.ne hp
  refine h _ (((hd'.put np).put np).del np) ?_
  intro b o e n
  have := hk b o e n
  have nb : b ≠ p := W.ne_new this hp
  rw [W.del_ne nb, W.put_ne nb, W.put_ne nb]
  exact this
theorem s24 {ns : List Str} (hm : 1 ≤ m) (hn : ns.Nodup) (hl : ns.length ≤ lim) (h : Q (dI (rankL ns)) M) : (Phi P m).fn 24 [.d (.lst (ns.map .str))] M Q E := by
  refine W.fn_in (by omega) rfl rfl ?_
  show wpSs _ _ f24.body [some (.d (.lst (ns.map .str))), none, none] _ _
  unfold f24
  walk_at "w"
  rw [enumD_map]
  refine ⟨by simp; exact hl, ?_⟩
  refine W.map_all (g := fun q : Str × Nat => .tup [.str q.1, .int q.2]) W.same_in ns.zipIdx (fun q hq K hK => ?_) ?_
  · refine ⟨_, rfl, ?_⟩
    walk_at "w"
    exact hK
  · walk_at "w"
    refine W.o_dict_S (c := .int) (kvs := rankL ns) ?_ (by rw [rankL_keys]; exact hn) h
    unfold rankL
    rw [List.map_map]
    rfl
def faultD (r : List Int) (k : Int) : D := match over r k with
  | [] => .non
  | q :: _ => .tup [.int q.2, .int q.1]
theorem s26 {kvs : List (Str × Int)} {x : D} {k : Int} (hm : 1 ≤ m) (hv : vw M x = dI kvs) (hl : kvs.length ≤ 1000000) (h : Q (faultD (srt (kvs.map (·.2))) k) M) : (Phi P m).fn 26 [.d x, .d (.int k)] M Q E := by
  refine W.fn_in (by omega) rfl rfl ?_
  show wpSs _ _ f26.body [some (.d x), some (.d (.int k)), none, none, none, none] _ _
  unfold f26
  walk_at "w"
  refine ⟨_, hv, isTK_dS .int kvs, ?_⟩
  rw [valsS]
  refine W.b_list (by simp; unfold lim; omega) ?_
  walk_at "w"
  refine W.o_sorted rfl ?_
  walk_at "w"
  have hsl : (srt (kvs.map (·.2))).length = kvs.length := by rw [(W.srt_perm _).length_eq, List.length_map]
  generalize hr : srt (kvs.map (·.2)) = r at *
  rw [enumD_map]
  have hzl : ∀ q ∈ r.zipIdx, q.2 < 1000000 := fun q hq => by
    have := List.snd_lt_of_mem_zipIdx hq
    omega
  refine ⟨by simp; unfold lim; omega, ?_⟩
  refine W.map_some (g := fun q : Int × Nat => if decide ((q.2 : Int) * k < q.1) = true then some (.tup [.int q.2, .int q.1]) else none) W.same_in r.zipIdx (fun q hq K hK => ?_) ?_
  · refine ⟨_, rfl, ?_⟩
    walk_at "w"
    have := hzl q hq
    refine W.o_mul (by omega) ?_
    walk_at "w"
    refine W.if_b (fun e => ?_) fun e => ?_
    · walk_at "w"
      rw [e] at hK
      exact hK
    · rw [e] at hK
      exact hK
  · rw [filt_some]
    walk_at "w"
    refine W.o_ne (eq_nil fun d hd => ?_) ?_
    · obtain ⟨q, hq, rfl⟩ := List.mem_map.mp hd
      refine plain_tup fun d hd => ?_
      simp only [List.mem_cons, List.not_mem_nil, or_false] at hd
      rcases hd with rfl | rfl
      · exact ⟨_, rfl, rfl, by simp [PyData.depth]⟩
      · exact ⟨_, rfl, rfl, by simp [PyData.depth]⟩
    walk_at "w"
    show if (!((over r k).map _).isEmpty) = true then _ else _
    unfold faultD at h
    refine W.if_b (fun e => ?_) fun e => ?_
    · walk_at "w"
      cases ho : over r k with
      | nil => rw [ho] at e; cases e
      | cons q t =>
        rw [ho] at h
        refine W.o_idxl (d := .tup [.int q.2, .int q.1]) rfl ?_ h
        show L2.atI ((over r k).map _) 0 = _
        rw [ho]
        exact W.atI_nat (n := 0) rfl
    · walk_at "w"
      cases ho : over r k with
      | nil => rw [ho] at h; exact h
      | cons q t => rw [ho] at e; cases e
theorem s30 {kvs : List (Str × Int)} {x : D} {nm : Str} {n : Int} (hm : 1 ≤ m) (hv : vw M x = dI kvs) (hl : kvs.length ≤ 1000000) (hn : ((kvs ++ [(nm, n)]).map (·.1)).Nodup) (h : Q (dI (kvs ++ [(nm, n)])) M) : (Phi P m).fn 30 [.d x, .d (.str nm), .d (.int n)] M Q E := by
  refine W.fn_in (by omega) rfl rfl ?_
  show wpSs _ _ f30.body [some (.d x), some (.d (.str nm)), some (.d (.int n))] _ _
  unfold f30
  walk_at "w"
  refine ⟨_, hv, isTK_dS .int kvs, ?_⟩
  rw [itemsS]
  refine W.b_list (by simp; unfold lim; omega) ?_
  walk_at "w"
  refine W.o_addl rfl rfl (by simp; unfold lim; omega) (by show 1 ≤ lim; decide) ?_
  walk_at "w"
  refine W.o_dict_S (c := .int) (kvs := kvs ++ [(nm, n)]) ?_ hn h
  rw [List.map_append]
  rfl
end L
end
section
set_option Elab.async false
set_option linter.all false
set_option maxRecDepth 100000
/-! M40a: the plain law. -/
namespace L
open PySem DS
open DS.W (srt)
def okF (k : Int) : Int → List Int → Bool
  | _, [] => true
  | c, x :: r => decide (x ≤ c) && okF k (c + k) r
def lastF (k : Int) : Int → List Int → Int
  | c, [] => c
  | c, x :: r => if c < x then c else lastF k (c + k) r
theorem okF_cons {k c x : Int} {r : List Int} : okF k c (x :: r) = (decide (x ≤ c) && okF k (c + k) r) := rfl
theorem lastF_ge {k : Int} (hk : 0 ≤ k) : ∀ (r : List Int) (c : Int), c ≤ lastF k c r
  | [], c => Int.le_refl c
  | x :: r, c => by
    have := lastF_ge hk r (c + k)
    unfold lastF
    split <;> omega
theorem lastF_le {k : Int} (hk : 0 ≤ k) : ∀ (r : List Int) (c : Int), lastF k c r ≤ c + r.length * k
  | [], c => by simp [lastF]
  | x :: r, c => by
    have := lastF_le hk r (c + k)
    have e : ((r.length + 1 : Nat) : Int) * k = r.length * k + k := by rw [Int.natCast_add, Int.add_mul]; omega
    have h0 : 0 ≤ (r.length : Int) * k := Int.mul_nonneg (by omega) hk
    unfold lastF
    rw [List.length_cons, e]
    split <;> omega
theorem okF_ins {k n : Int} (hk : 0 ≤ k) : ∀ (r : List Int) (c : Int), okF k c (W.ins n r) = (okF k (c + k) r && decide (n ≤ lastF k c r))
  | [], c => by
    simp only [W.ins, okF, lastF, Bool.and_true, Bool.true_and]
    congr
  | x :: r, c => by
    have h1 := lastF_ge hk r (c + k)
    have ih := okF_ins (n := n) hk r (c + k)
    rw [W.ins]
    by_cases hx : n ≤ x
    · rw [if_pos hx]
      rw [okF_cons, okF_cons]
      by_cases g : c < x
      · rw [lastF, if_pos g]
        rw [Bool.and_comm]
      · rw [lastF, if_neg g]
        have a1 : decide (n ≤ c) = true := by simp; omega
        have a2 : decide (n ≤ lastF k (c + k) r) = true := by simp; omega
        rw [a1, a2]
        simp
    · rw [if_neg hx, okF_cons, okF_cons]
      rw [ih]
      by_cases g : c < x
      · rw [lastF, if_pos g]
        have a1 : decide (x ≤ c) = false := by simp; omega
        have a2 : decide (n ≤ c) = false := by simp; omega
        rw [a1, a2]
        simp
      · rw [lastF, if_neg g]
        have a1 : decide (x ≤ c) = true := by simp; omega
        have a2 : decide (x ≤ c + k) = true := by simp; omega
        rw [a1, a2]
        simp
theorem over_none {k : Int} : ∀ (r : List Int) (i : Nat), ((r.zipIdx i).filter fun q => decide ((q.2 : Int) * k < q.1)) = [] ↔ okF k (i * k) r = true
  | [], i => by simp [okF]
  | x :: r, i => by
    have ih := over_none (k := k) r (i + 1)
    have e : ((i + 1 : Nat) : Int) * k = i * k + k := by rw [Int.natCast_add, Int.add_mul]; omega
    rw [e] at ih
    rw [List.zipIdx_cons, List.filter_cons, okF]
    by_cases g : (i : Int) * k < x
    · have a1 : decide (x ≤ (i : Int) * k) = false := by simp; omega
      simp [g, a1]
    · have a1 : decide (x ≤ (i : Int) * k) = true := by simp; omega
      rw [a1, Bool.true_and, ← ih]
      simp only [g, decide_false, Bool.false_eq_true, if_false]
theorem any_ok {k : Int} : ∀ (r : List Int) (i : Nat), ((r.zipIdx i).any fun q => decide (((q.2 : Int) + 1) * k < q.1)) = !okF k ((i + 1) * k) r
  | [], i => by simp [okF]
  | x :: r, i => by
    have ih := any_ok (k := k) r (i + 1)
    have e : (((i + 1 : Nat) : Int) + 1) * k = (i + 1) * k + k := by have := Int.add_mul ((i : Int) + 1) 1 k; rw [Int.one_mul] at this; push_cast; exact this
    rw [e] at ih
    rw [List.zipIdx_cons, List.any_cons, ih, okF, Bool.not_and]
    congr 1
    by_cases g : ((i : Int) + 1) * k < x
    · have a1 : decide (x ≤ ((i : Int) + 1) * k) = false := by simp; omega
      simp [g, a1]
    · have a1 : decide (x ≤ ((i : Int) + 1) * k) = true := by simp; omega
      simp [g, a1]
theorem first_ok {k : Int} : ∀ (r : List Int) (i : Nat), (k * (match (r.zipIdx i).filter fun q => decide ((q.2 : Int) * k < q.1) with
    | [] => ((i + r.length : Nat) : Int)
    | q :: _ => (q.2 : Int))) = lastF k (i * k) r
  | [], i => by simp [lastF, Int.mul_comm]
  | x :: r, i => by
    have ih := first_ok (k := k) r (i + 1)
    have e : ((i + 1 : Nat) : Int) * k = i * k + k := by rw [Int.natCast_add, Int.add_mul]; omega
    rw [e] at ih
    rw [List.zipIdx_cons, List.filter_cons, lastF]
    by_cases g : (i : Int) * k < x
    · simp only [g, decide_true, if_true]
      exact Int.mul_comm _ _
    · simp only [g, decide_false, Bool.false_eq_true, if_false]
      rw [← ih, List.length_cons]
      have e2 : i + (r.length + 1) = i + 1 + r.length := by omega
      rw [e2]
theorem fault_ok {r : List Int} {k : Int} : W.isNon (faultD r k) = okF k 0 r := by
  have h := over_none (k := k) r 0
  unfold faultD
  unfold over
  cases e : (r.zipIdx.filter fun q => decide ((q.2 : Int) * k < q.1)) with
  | nil => have := h.mp e; simp at this; simp [W.isNon, this]
  | cons q t =>
    have : okF k 0 r = false := by
      cases g : okF k 0 r with
      | false => rfl
      | true => have := h.mpr (by simpa using g); rw [this] at e; cases e
    simp [W.isNon, this]
theorem lack_ok {r : List Int} {k : Int} : lackD r k = if okF k k r = true then .int (lastF k 0 r) else .non := by
  have h1 := any_ok (k := k) r 0
  have h2 := first_ok (k := k) r 0
  simp at h1 h2
  unfold lackD
  rw [show (r.zipIdx.any fun q => decide (((q.2 : Int) + 1) * k < q.1)) = !okF k k r from h1]
  unfold over
  cases g : okF k k r
  · simp
  · simp
    exact h2
theorem srt_snoc (l : List Int) (n : Int) : srt (l ++ [n]) = W.ins n (srt l) := by
  refine (W.srt_eq ?_ (W.ins_sorted n _ (W.srt_sorted l))).symm
  refine (W.ins_perm n (srt l)).trans ?_
  refine (List.Perm.cons n (W.srt_perm l)).trans ?_
  exact (List.perm_append_singleton n l).symm
theorem srt_congr {a b : List Int} (h : a.Perm b) : srt a = srt b := W.srt_eq ((W.srt_perm a).trans h) (W.srt_sorted a)
theorem range_le {L N : Nat} (h : L < N) : (List.range N).filter (fun i => decide (i ≤ L)) = List.range (L + 1) := by
  obtain ⟨d, rfl⟩ : ∃ d, N = L + 1 + d := ⟨N - (L + 1), by omega⟩
  rw [List.range_add, List.filter_append]
  have e1 : (List.range (L + 1)).filter (fun i => decide (i ≤ L)) = List.range (L + 1) := List.filter_eq_self.mpr fun i hi => by
    have := List.mem_range.mp hi
    simp; omega
  have e2 : ((List.range d).map (L + 1 + ·)).filter (fun i => decide (i ≤ L)) = [] := List.filter_eq_nil_iff.mpr fun i hi => by
    obtain ⟨j, _, rfl⟩ := List.mem_map.mp hi
    simp; omega
  rw [e1, e2, List.append_nil]
theorem okF_mono {k : Int} : ∀ {r : List Int} {c c' : Int}, okF k c r = true → c ≤ c' → okF k c' r = true
  | [], _, _, _, _ => rfl
  | x :: r, c, c', h, hc => by
    rw [okF_cons, Bool.and_eq_true, decide_eq_true_eq] at h ⊢
    exact ⟨by omega, okF_mono h.2 (by omega)⟩
theorem lastF_all {k : Int} : ∀ {r : List Int} {c : Int}, okF k c r = true → lastF k c r = c + r.length * k
  | [], c, _ => by simp [lastF]
  | x :: r, c, h => by
    rw [okF_cons, Bool.and_eq_true, decide_eq_true_eq] at h
    have ih := lastF_all h.2
    have e : ((r.length + 1 : Nat) : Int) * k = r.length * k + k := by rw [Int.natCast_add, Int.add_mul]; omega
    rw [lastF, if_neg (by omega), ih, List.length_cons, e]
    omega
theorem okF_snoc {k : Int} {l : List Int} {n : Int} (hk : 0 ≤ k) (h : okF k 0 (srt l) = true) (hn : n ≤ l.length * k) : okF k 0 (srt (l ++ [n])) = true := by
  rw [srt_snoc, okF_ins hk, okF_mono h (by omega), lastF_all h, (W.srt_perm l).length_eq]
  simp
  omega
end L
end
section
set_option Elab.async false
set_option linter.all false
set_option maxRecDepth 100000
set_option maxHeartbeats 1000000
open PySem DS
local macro_rules | `(tactic| walk_at "w1") => `(tactic| with_reducible first
  | apply W.ss_cons | apply W.st_asg | apply W.st_ret | apply W.st_iff | apply W.st_exp | apply W.st_for | apply W.st_set | apply W.st_fld | apply W.st_pas | apply W.st_met | apply W.st_par | apply W.st_tup
  | apply W.e_int | apply W.e_str | apply W.e_bl | apply W.e_non | apply W.e_gstr | apply W.e_gint | apply W.e_fnv
  | apply W.e_cal | apply W.e_bin | apply W.e_cmp | apply W.e_idx | apply W.e_att | apply W.e_bi | apply W.e_isi | apply W.e_and | apply W.e_or | apply W.e_not | apply W.e_neg | apply W.e_chn | apply W.e_ite
  | apply W.e_tup | apply W.e_lst | apply W.e_lstm | apply W.e_dic | apply W.e_slc | apply W.e_calL | apply W.e_cak | apply W.e_bt | apply W.e_me | apply W.e_mu | apply W.e_cmpr | apply W.e_cmp2 | apply W.e_dcm | apply W.e_mut | apply W.e_frz
  | apply W.t_and | apply W.t_or | apply W.t_not | apply W.t_val | apply W.t_yes
  | apply W.es_cons | apply W.es_nil | apply W.as_nil | apply W.as_e
  | apply W.i_of | apply W.i_enm | apply W.i_zip | apply W.i_rng | apply W.i_rng2 | apply W.i_itm | apply W.i_itv | apply W.i_zpl | apply W.i_vls | apply W.i_vlv
  | apply W.ss_nil | apply W.sl_no | apply W.made_f | apply W.o_ins | apply W.o_nins | apply W.it_str | apply W.it_lst | apply W.it_tup | apply W.it_dic | apply W.it_enl | apply W.it_ent
  | apply W.if_tt | apply W.if_ff | apply W.if_nt | apply W.if_nf | apply W.tru_b | apply W.tru_i | apply W.tru_n | apply W.bl_in | apply W.int_in
  | apply W.o_add | apply W.o_sub | apply W.o_lt | apply W.o_le | apply W.o_gt | apply W.o_ge | apply W.o_eqi | apply W.o_nei | apply W.o_eqs | apply W.o_nes | apply W.o_eqb | apply W.o_neb | apply W.o_int_i | apply W.o_int_b)
local macro_rules | `(tactic| walk_at "w1") => `(tactic| ((with_reducible refine W.isi_an ?kk ?qq); (case kk => first | assumption | rfl)))
local macro_rules | `(tactic| walk_at "w1") => `(tactic| ((with_reducible refine W.e_var (d := ?dd) ?ee ?qq); (case ee => exact rfl)))
local macro_rules | `(tactic| walk_at "w1") => `(tactic| ((with_reducible first | refine W.isi_int (b := ?bb) ?kk ?ee ?qq | refine W.isi_inb (b := ?bb) ?kk ?ee ?qq | refine W.isi_q (b := ?bb) ?kk ?ee ?qq | refine W.isi_in (b := ?bb) ?kk ?ee ?qq); (case kk => first | assumption | rfl); (case ee => first | exact (rfl : _ = true) | exact (rfl : _ = false) | exact rfl)))
local macro_rules | `(tactic| walk_at "w") => `(tactic| repeat walk_at "w1")
namespace L
open DS.W (srt)
variable {m : Nat} {M : Sto} {Q : Po D} {E : Po Exn} {a : Addr} {r : Nat}
/-! ### the source of draws -/
theorem s15 {zs : List Int} {t : Int} (hm : 1 ≤ m) (hz : zs.length ≤ 1000) (h0 : 0 ≤ t) (h1 : t ≤ 1000) (h : ∀ p M', M p = none → Dr M' p 1000000 → (∀ b o, M b = some o → M' b = some o) → Q (.mref p) M') : (Phi P m).fn 15 [.d (.lst (zs.map .int)), .d (.int t)] M Q E := by
  refine W.fn_in (by omega) rfl rfl ?_
  show wpSs _ _ f15.body [some (.d (.lst (zs.map .int))), some (.d (.int t)), none, none, none] _ _
  unfold f15
  have rest : ∀ (s : Int) nx ex, wpSs P (Phi P (m - 1)) (f15.body.drop 1) [some (.d (.lst (zs.map .int))), some (.d (.int t)), some (.d (.int s)), none, none] M ⟨nx, Q, ex⟩ := by
    intro s nx ex
    unfold f15
    show wpSs P (Phi P (m - 1)) (_ :: _) _ _ _
    walk_at "w"
    refine W.o_mul (by omega) ?_
    walk_at "w"
    refine W.walk_inv (I := fun n ρ' M' => M' = M ∧ ∃ x c, 0 ≤ x ∧ ρ' = [some (.d (.lst (zs.map .int))), some (.d (.int t)), some (.d (.int s)), some (.d (.int x)), c]) ⟨rfl, _, _, by omega, rfl⟩ (fun n ρ' M' i => by rw [i.1]; exact W.same_in) ?_ ?_
    · rintro n ρ' M' y hy ⟨rfl, x, c, hx, rfl⟩ K hK
      rw [List.getElem?_map] at hy
      obtain ⟨z, hz, rfl⟩ := Option.map_eq_some_iff.mp hy
      refine ⟨_, rfl, ?_⟩
      walk_at "w"
      refine W.o_mul (by omega) ?_
      walk_at "w"
      refine W.o_mod (by omega) ?_
      walk_at "w"
      exact hK _ _ ⟨rfl, _, _, Int.emod_nonneg _ (by omega), rfl⟩
    · rintro ρ' M' ⟨rfl, x, c, hx, rfl⟩
      walk_at "w"
      refine W.o_pow (by omega) ?_
      walk_at "w"
      have fin : ∀ k : Int, 0 ≤ k → ∀ p, M' p = none → Q (.mref p) (M'.put p (.lst [.int k, .int ((x + 48271 * s) % 2147483629), .int 0])) := fun k hk p hp =>
        h p _ hp ⟨k, _, 0, W.put_same, hk, Int.emod_nonneg _ (by omega), by have := Int.emod_lt_of_pos (x + 48271 * s) (b := 2147483629) (by omega); omega, by omega, by omega⟩ fun b o e => by rw [W.put_ne (W.ne_new e hp)]; exact e
      refine W.if_b (fun g => ?_) fun g => ?_
      · walk_at "w"
        refine W.o_mul (by omega) ?_
        walk_at "w"
        refine W.o_mod (by omega) ?_
        walk_at "w"
        exact fin s (by have g : (10 : Int) ^ 18 ≤ s := of_decide_eq_true g; omega)
      · walk_at "w"
        refine W.o_mul (by omega) ?_
        walk_at "w"
        refine W.o_mod (by omega) ?_
        walk_at "w"
        exact fin 0 (by omega)
  walk_at "w"
  refine W.o_len_l rfl ?_
  rw [List.length_map]
  walk_at "w"
  refine W.if_b (fun g => ?_) fun g => ?_
  · have g : t < zs.length := by simpa using g
    obtain ⟨n, rfl⟩ := Int.eq_ofNat_of_zero_le h0
    have hn : n < zs.length := by omega
    walk_at "w"
    refine W.o_idxl (d := .int zs[n]) rfl (W.atI_nat (by rw [List.getElem?_map, List.getElem?_eq_getElem hn]; rfl)) ?_
    exact rest zs[n] _ _
  · walk_at "w"
    refine W.sl_at (by omega) (by omega) ?_
    refine W.o_slc_take (k := 1) rfl (by omega) ?_
    walk_at "w"
    refine W.o_sum (ns := zs.take 1) (by rw [List.map_take]; rfl) ?_
    walk_at "w"
    refine W.o_mod (by omega) ?_
    walk_at "w"
    refine W.o_mul (by omega) ?_
    apply W.o_add
    apply W.e_int
    apply W.o_add
    exact rest _ _ _
/-! ### the right list -/
theorem s27 {ns : List Str} {k : Int} (hm : 3 ≤ m) (hd : Dr M a r) (hr : 40 ≤ r) (hn : Nm ns) (h0 : 1 ≤ k) (h1 : k ≤ 1000000)
    (h : ∀ ws M', ws.length = ns.length → (∀ w ∈ ws, 0 ≤ w ∧ w ≤ 20000000) → okF k 0 (srt ws) = true → Dr M' a (r - 40) → Ke a M M' → Q (dI (ns.zip ws)) M') : (Phi P m).fn 27 [.d (.mref a), .d (.lst (ns.map .str)), .d (.int k)] M Q E := by
  refine W.fn_in (by omega) rfl rfl ?_
  show wpSs _ _ f27.body [some (.d (.mref a)), some (.d (.lst (ns.map .str))), some (.d (.int k)), none, none] _ _
  unfold f27
  have fw := hn.few
  walk_at "w"
  refine W.o_len_l rfl ?_
  rw [List.length_map]
  refine W.it_rng (by omega) (by omega) ?_
  refine ⟨by simp; unfold lim; omega, ?_⟩
  refine W.map_inv (I := fun n ys M' => (∃ vs : List Int, ys = vs.map .int ∧ vs.length = n ∧ (∀ v ∈ vs, 0 ≤ v ∧ v ≤ 20000000) ∧ okF k 0 (srt vs) = true) ∧ n ≤ ns.length ∧ Dr M' a (r - n) ∧ Ke a M M') ⟨⟨[], rfl, rfl, by simp, rfl⟩, Nat.zero_le _, hd, Ke.refl a M⟩ (fun _ _ _ _ => trivial) ?_ ?_
  · rintro n ys M' x hx ⟨⟨vs, rfl, hv, hb, hok⟩, hn2, hd', hk⟩ K hK
    rw [List.getElem?_map] at hx
    obtain ⟨i, hi, rfl⟩ := Option.map_eq_some_iff.mp hx
    have hl := (List.getElem?_eq_some_iff.mp hi).1
    have hi2 := (List.getElem?_eq_some_iff.mp hi).2
    simp at hl hi2
    subst hi2
    refine ⟨_, rfl, ?_⟩
    walk_at "w"
    refine W.o_mul (by omega) ?_
    walk_at "w"
    have hb2 : (n : Int) * k ≤ 20 * 1000000 := Int.mul_le_mul (by omega) h1 (by omega) (by omega)
    have hb3 : 0 ≤ (n : Int) * k := Int.mul_nonneg (by omega) (by omega)
    refine s16 (by omega) hd' (by omega) (by omega) (by omega) fun j M2 j0 j1 hd2 hk2 => ?_
    refine hK (some (.int j)) _ ⟨⟨vs ++ [j], by simp, by simp [hv], fun v hv => ?_, okF_snoc (by omega) hok (by rw [hv]; omega)⟩, by omega, ?_, hk.trans hk2⟩
    · rcases List.mem_append.mp hv with g | g
      · exact hb v g
      · simp at g; subst g; omega
    · have e : r - (n + 1) = r - n - 1 := by omega
      rw [e]; exact hd2
  · rintro ys M' ⟨⟨vs, rfl, hv, hb, hok⟩, hn2, hd', hk⟩
    simp at hv hd'
    walk_at "w"
    refine s18 (xs := vs.map .int) (by omega) (hd'.mono (r' := r - 20) (by omega)) (by simp; omega) (.inl rfl) (fun d hd => ?_) (by simp; omega) fun ys M2 hp hd2 hk2 => ?_
    · obtain ⟨i, _, rfl⟩ := List.mem_map.mp hd
      exact plain_int i
    · obtain ⟨ws, rfl, hp2⟩ := perm_int hp
      refine ⟨_, _, ⟨rfl, rfl⟩, ?_⟩
      have e : zipD (ns.map .str) (ws.map .int) = (ns.zip ws).map fun q => .tup [.str q.1, .int q.2] := by
        rw [zipD_zip, List.zip_map, List.map_map]; rfl
      rw [e]
      have hwl : ws.length = ns.length := by rw [hp2.length_eq, hv]
      refine ⟨_, pairsK_S .int (ns.zip ws), isTK_dS .int (ns.zip ws), ?_⟩
      rw [mrg_nd (nd_kS (by rw [List.map_fst_zip (by omega)]; exact hn.nd))]
      walk_at "w"
      exact h ws M2 hwl (fun w hw => hb w (hp2.mem_iff.mp hw)) (by rw [srt_congr hp2]; exact hok) (hd2.mono (by simp; omega)) (hk.trans hk2)
/-! ### part of a list -/
/-- all but one name, each with a number -/
structure Pt (ns : List Str) (nm : Str) (kvs : List (Str × Int)) : Prop where
  mem : nm ∈ ns
  perm : (kvs.map (·.1)).Perm (ns.filter (· != nm))
  pos : ∀ q ∈ kvs, 0 ≤ q.2 ∧ q.2 ≤ 30000000
theorem s29 {ns : List Str} {kvs : List (Str × Int)} (hm : 3 ≤ m) (hd : Dr M a r) (hr : 21 ≤ r) (hn : Nm ns) (hin : ∀ s ∈ ns, ∃ v, kvs.lookup s = some v ∧ 0 ≤ v ∧ v ≤ 30000000)
    (h : ∀ nm kvs2 M', Pt ns nm kvs2 → (∀ q ∈ kvs2, kvs.lookup q.1 = some q.2) → Dr M' a (r - 21) → Ke a M M' → Q (.tup [.str nm, dI kvs2]) M') : (Phi P m).fn 29 [.d (.mref a), .d (.lst (ns.map .str)), .d (dI kvs)] M Q E := by
  refine W.fn_in (by omega) rfl rfl ?_
  show wpSs _ _ f29.body [some (.d (.mref a)), some (.d (.lst (ns.map .str))), some (.d (dI kvs)), none, none] _ _
  unfold f29
  have fw := hn.few
  have tw := hn.two
  walk_at "w"
  refine s17 (xs := ns.map .str) (by omega) hd (by omega) (.inl rfl) (by intro z; simp at z; subst z; simp at tw) (by simp; omega) fun d M2 hm2 hd2 hk2 => ?_
  obtain ⟨nm, hnm, rfl⟩ := List.mem_map.mp hm2
  walk_at "w"
  refine s18 (xs := ns.map .str) (by omega) hd2 (by simp; omega) (.inl rfl) (fun d hd => ?_) (by simp; omega) fun ys M3 hp hd3 hk3 => ?_
  · obtain ⟨s, hs, rfl⟩ := List.mem_map.mp hd
    exact plain_str (pool_ok s (hn.pl s hs))
  · obtain ⟨zs, rfl, hp2⟩ := perm_str hp
    walk_at "w"
    refine ⟨by simp; have := hp2.length_eq; unfold lim; omega, ?_⟩
    refine W.map_some (g := fun s => if (s != nm) = true then some (.tup [.str s, .int ((kvs.lookup s).getD 0)]) else none) W.same_in zs (fun s hs K hK => ?_) ?_
    · refine ⟨_, rfl, ?_⟩
      walk_at "w"
      obtain ⟨v, hv, _⟩ := hin s (hp2.mem_iff.mp hs)
      refine W.if_b (fun e => ?_) fun e => ?_
      · walk_at "w"
        refine W.o_idxS (c := .int) rfl hv ?_
        walk_at "w"
        have e2 : (s != nm) = true := by simpa using e
        rw [hv] at hK
        simp only [e2, if_true] at hK
        exact hK
      · have e2 : (s != nm) = false := by simpa using e
        rw [e2] at hK
        exact hK
    · rw [filt_some]
      walk_at "w"
      have e : ((zs.filter (· != nm)).map fun s => D.tup [.str s, .int ((kvs.lookup s).getD 0)]) = ((zs.filter (· != nm)).map fun s => (s, (kvs.lookup s).getD 0)).map fun q => .tup [.str q.1, .int q.2] := by
        rw [List.map_map]; rfl
      have e1 : (((zs.filter (· != nm)).map fun s => (s, (kvs.lookup s).getD 0)).map (·.1)) = zs.filter (· != nm) := by
        rw [List.map_map]; exact List.map_id _
      have hpf : (zs.filter (· != nm)).Perm (ns.filter (· != nm)) := hp2.filter _
      refine W.o_dict_S (c := .int) (kvs := (zs.filter (· != nm)).map fun s => (s, (kvs.lookup s).getD 0)) (by show D.lst _ = _; rw [← e]) (by rw [e1]; exact (List.filter_sublist).nodup (hp2.nodup_iff.mpr hn.nd)) ?_
      have lk : ∀ q ∈ (zs.filter (· != nm)).map fun s => (s, (kvs.lookup s).getD 0), kvs.lookup q.1 = some q.2 ∧ 0 ≤ q.2 ∧ q.2 ≤ 30000000 := fun q hq => by
        obtain ⟨s, hs, rfl⟩ := List.mem_map.mp hq
        obtain ⟨v, hv, h1, h2⟩ := hin s (hp2.mem_iff.mp (List.mem_filter.mp hs).1)
        show kvs.lookup s = some ((kvs.lookup s).getD 0) ∧ 0 ≤ (kvs.lookup s).getD 0 ∧ (kvs.lookup s).getD 0 ≤ 30000000
        rw [hv]
        exact ⟨rfl, h1, h2⟩
      exact h nm _ M3 ⟨hnm, by rw [e1]; exact hpf, fun q hq => (lk q hq).2⟩ (fun q hq => (lk q hq).1) (hd3.mono (by simp; omega)) (hk2.trans hk3)
end L
end
section
set_option Elab.async false
set_option linter.all false
set_option maxRecDepth 100000
/-! M40: the plain law. -/
namespace L
open PySem DS
open DS.W (srt)
theorem inKs_mem {α : Type} (kvs : List (Str × α)) (s : Str) : inKs kvs s = decide (s ∈ kvs.map (·.1)) := by
  unfold inKs
  induction kvs with
  | nil => rfl
  | cons q r ih =>
    obtain ⟨x, v⟩ := q
    rw [List.lookup_cons, List.map_cons]
    by_cases e : s = x
    · subst e; simp
    · have e2 : (s == x) = false := by simpa using e
      rw [e2]
      show (r.lookup s).isSome = _
      rw [ih]
      simp [e]
/-- a part, as the code sees it -/
theorem Pt.ok {ns : List Str} {nm : Str} {kvs : List (Str × Int)} (h : Pt ns nm kvs) (hn : Nm ns) : partB ns .int kvs = true := by
  have e : ns.filter (inKs kvs) = ns.filter (· != nm) := List.filter_congr fun s hs => by
    rw [inKs_mem]
    have : s ∈ kvs.map (·.1) ↔ s ≠ nm := by
      rw [h.perm.mem_iff, List.mem_filter]
      simp [hs]
    by_cases g : s = nm
    · have z : ¬ s ∈ kvs.map (·.1) := fun y => this.mp y g
      rw [decide_eq_false z]; subst g; simp
    · have z := this.mpr g
      rw [decide_eq_true z]; simpa using g
  have l1 : kvs.length = (ns.filter (· != nm)).length := by rw [← h.perm.length_eq, List.length_map]
  have l2 : (ns.filter (· != nm)).length = ns.length - 1 := by
    rw [← List.Nodup.erase_eq_filter hn.nd nm, List.length_erase_of_mem h.mem]
  have tw := hn.two
  unfold partB
  rw [e]
  simp only [Bool.and_eq_true, decide_eq_true_eq, List.all_eq_true]
  refine ⟨by omega, by omega, fun s hs => ?_⟩
  unfold vNum
  cases g : kvs.lookup s with
  | none => rfl
  | some v =>
    have := (h.pos _ (lookup_mem g)).1
    simpa [isNum] using this
theorem Pt.len {ns : List Str} {nm : Str} {kvs : List (Str × Int)} (h : Pt ns nm kvs) (hn : Nm ns) : kvs.length + 1 = ns.length := by
  have l1 : kvs.length = (ns.filter (· != nm)).length := by rw [← h.perm.length_eq, List.length_map]
  have l2 : (ns.filter (· != nm)).length = ns.length - 1 := by
    rw [← List.Nodup.erase_eq_filter hn.nd nm, List.length_erase_of_mem h.mem]
  have tw := hn.two
  omega
theorem Pt.all {ns : List Str} {nm : Str} {kvs : List (Str × Int)} (h : Pt ns nm kvs) (hn : Nm ns) (n : Int) : ((kvs ++ [(nm, n)]).map (·.1)).Perm ns := by
  rw [List.map_append]
  refine (h.perm.append_right [nm]).trans ?_
  rw [← List.Nodup.erase_eq_filter hn.nd nm]
  exact (List.perm_append_singleton nm _).trans (List.perm_cons_erase h.mem).symm
theorem Pt.nd {ns : List Str} {nm : Str} {kvs : List (Str × Int)} (h : Pt ns nm kvs) (hn : Nm ns) (n : Int) : ((kvs ++ [(nm, n)]).map (·.1)).Nodup := (h.all hn n).nodup_iff.mpr hn.nd
/-- what is told, and the numbers that would do -/
theorem fault_with {kvs : List (Str × Int)} {nm : Str} {n k : Int} (hk : 0 ≤ k) : W.isNon (faultD (srt ((kvs ++ [(nm, n)]).map (·.2))) k) = (okF k k (srt (kvs.map (·.2))) && decide (n ≤ lastF k 0 (srt (kvs.map (·.2))))) := by
  rw [fault_ok, List.map_append]
  show okF k 0 (srt (kvs.map (·.2) ++ [n])) = _
  rw [srt_snoc, okF_ins hk, Int.zero_add]
end L
end
section
set_option Elab.async false
set_option linter.all false
set_option maxRecDepth 100000
set_option maxHeartbeats 1000000
open PySem DS
local macro_rules | `(tactic| walk_at "w1") => `(tactic| with_reducible first
  | apply W.ss_cons | apply W.st_asg | apply W.st_ret | apply W.st_iff | apply W.st_exp | apply W.st_for | apply W.st_set | apply W.st_fld | apply W.st_pas | apply W.st_met | apply W.st_par | apply W.st_tup
  | apply W.e_int | apply W.e_str | apply W.e_bl | apply W.e_non | apply W.e_gstr | apply W.e_gint | apply W.e_fnv
  | apply W.e_cal | apply W.e_bin | apply W.e_cmp | apply W.e_idx | apply W.e_att | apply W.e_bi | apply W.e_isi | apply W.e_and | apply W.e_or | apply W.e_not | apply W.e_neg | apply W.e_chn | apply W.e_ite
  | apply W.e_tup | apply W.e_lst | apply W.e_lstm | apply W.e_dic | apply W.e_slc | apply W.e_calL | apply W.e_cak | apply W.e_bt | apply W.e_me | apply W.e_mu | apply W.e_cmpr | apply W.e_cmp2 | apply W.e_dcm | apply W.e_mut | apply W.e_frz
  | apply W.t_and | apply W.t_or | apply W.t_not | apply W.t_val | apply W.t_yes
  | apply W.es_cons | apply W.es_nil | apply W.as_nil | apply W.as_e
  | apply W.i_of | apply W.i_enm | apply W.i_zip | apply W.i_rng | apply W.i_rng2 | apply W.i_itm | apply W.i_itv | apply W.i_zpl | apply W.i_vls | apply W.i_vlv
  | apply W.ss_nil | apply W.sl_no | apply W.made_f | apply W.o_ins | apply W.o_nins | apply W.it_str | apply W.it_lst | apply W.it_tup | apply W.it_dic | apply W.it_enl | apply W.it_ent
  | apply W.if_tt | apply W.if_ff | apply W.if_nt | apply W.if_nf | apply W.tru_b | apply W.tru_i | apply W.tru_n | apply W.bl_in | apply W.int_in
  | apply W.o_add | apply W.o_sub | apply W.o_lt | apply W.o_le | apply W.o_gt | apply W.o_ge | apply W.o_eqi | apply W.o_nei | apply W.o_eqs | apply W.o_nes | apply W.o_eqb | apply W.o_neb | apply W.o_int_i | apply W.o_int_b)
local macro_rules | `(tactic| walk_at "w1") => `(tactic| ((with_reducible refine W.isi_an ?kk ?qq); (case kk => first | assumption | rfl)))
local macro_rules | `(tactic| walk_at "w1") => `(tactic| ((with_reducible refine W.e_var (d := ?dd) ?ee ?qq); (case ee => exact rfl)))
local macro_rules | `(tactic| walk_at "w1") => `(tactic| ((with_reducible first | refine W.isi_int (b := ?bb) ?kk ?ee ?qq | refine W.isi_inb (b := ?bb) ?kk ?ee ?qq | refine W.isi_q (b := ?bb) ?kk ?ee ?qq | refine W.isi_in (b := ?bb) ?kk ?ee ?qq); (case kk => first | assumption | rfl); (case ee => first | exact (rfl : _ = true) | exact (rfl : _ = false) | exact rfl)))
local macro_rules | `(tactic| walk_at "w") => `(tactic| repeat walk_at "w1")
namespace L
open DS.W (srt)
variable {m : Nat} {M : Sto} {Q : Po D} {E : Po Exn} {a : Addr} {r : Nat}
theorem lookup_nd {α : Type} {kvs : List (Str × α)} (h : (kvs.map (·.1)).Nodup) {q : Str × α} (hq : q ∈ kvs) : kvs.lookup q.1 = some q.2 := by
  induction kvs with
  | nil => cases hq
  | cons p t ih =>
    obtain ⟨x, v⟩ := p
    rw [List.map_cons, List.nodup_cons] at h
    rw [List.lookup_cons]
    rcases List.mem_cons.mp hq with rfl | hq
    · simp
    · have hx : q.1 ∈ t.map (·.1) := List.mem_map_of_mem hq
      have : q.1 ≠ x := fun z => h.1 (by rw [z] at hx; exact hx)
      have e : (q.1 == x) = false := by simpa using this
      rw [e]
      exact ih h.2 hq
theorem vals_perm {kvs : List (Str × Int)} {ns : List Str} (hp : (kvs.map (·.1)).Perm ns) (h : (kvs.map (·.1)).Nodup) : (ns.map fun s => (kvs.lookup s).getD 0).Perm (kvs.map (·.2)) := by
  have e : kvs.map (·.2) = (kvs.map (·.1)).map fun s => (kvs.lookup s).getD 0 := by
    rw [List.map_map]
    refine List.map_congr_left fun q hq => ?_
    show q.2 = (kvs.lookup q.1).getD 0
    rw [lookup_nd h hq]; rfl
  rw [e]
  exact (hp.map _).symm
theorem s8 {kvs : List (Str × Int)} {ns : List Str} {x : D} (hm : 3 ≤ m) (hn : Nm ns) (hv : vw M x = dI kvs) (hp : (kvs.map (·.1)).Perm ns) (h0 : ∀ q ∈ kvs, 0 ≤ q.2) (h : Q (.bl true) M) : (Phi P m).fn 8 [.d (pathD ns), .d x, .d (.fn 3)] M Q E := by
  refine W.fn_in (by omega) rfl rfl ?_
  show wpSs _ _ f8.body [some (.d (pathD ns)), some (.d x), some (.d (.fn 3)), none] _ _
  unfold f8
  have kn : known (vw M x) = true := by rw [hv]; rfl
  have hl : kvs.length = ns.length := by rw [← hp.length_eq, List.length_map]
  have fw := hn.few
  walk_at "w"
  refine W.if_f (by rw [hv]; rfl) ?_
  walk_at "w"
  refine W.o_len_d hv ?_
  rw [List.length_map]
  walk_at "w"
  refine W.p_many ?_
  walk_at "w"
  refine W.if_f (by simp [hl]) ?_
  walk_at "w"
  refine W.p_names ?_
  walk_at "w"
  refine ⟨by rw [List.length_map]; unfold lim; omega, ?_⟩
  refine W.map_all (g := fun n => .bl true) W.any_in ns (fun s hs K hK => ?_) ?_
  · refine ⟨_, rfl, ?_⟩
    have hm2 : s ∈ kvs.map (·.1) := hp.mem_iff.mpr hs
    obtain ⟨q, hq, rfl⟩ := List.mem_map.mp hm2
    have lk := lookup_nd (hp.nodup_iff.mpr hn.nd) hq
    walk_at "w"
    refine W.o_inS hv ?_
    rw [lk]
    walk_at "w"
    refine W.if_t rfl ?_
    refine W.e_cavF rfl ?_
    walk_at "w"
    refine W.o_idxS hv lk ?_
    walk_at "w"
    refine s3 (by omega) rfl ?_
    have : isNum (vw M (.int q.2)) = true := by simpa [isNum, vw] using h0 q hq
    rw [this]
    exact hK
  · walk_at "w"
    refine W.o_all (bs := ns.map fun _ => true) (by rw [List.map_map]; rfl) ?_
    rw [all_true]
    exact h
theorem s11 {kvs : List (Str × Int)} {ns : List Str} {x : D} {k : Int} (hm : 3 ≤ m) (hn : Nm ns) (hv : vw M x = dI kvs) (hp : (kvs.map (·.1)).Perm ns) (h : Q (faultD (srt (kvs.map (·.2))) k) M) : (Phi P m).fn 11 [.d (pathD ns), .d x, .d (.int k)] M Q E := by
  refine W.fn_in (by omega) rfl rfl ?_
  show wpSs _ _ f11.body [some (.d (pathD ns)), some (.d x), some (.d (.int k)), none, none, none] _ _
  unfold f11
  have fw := hn.few
  walk_at "w"
  refine W.p_names ?_
  walk_at "w"
  refine ⟨by rw [List.length_map]; unfold lim; omega, ?_⟩
  refine W.map_all (g := fun s => .int ((kvs.lookup s).getD 0)) W.any_in ns (fun s hs K hK => ?_) ?_
  · refine ⟨_, rfl, ?_⟩
    have hm2 : s ∈ kvs.map (·.1) := hp.mem_iff.mpr hs
    obtain ⟨q, hq, rfl⟩ := List.mem_map.mp hm2
    have lk := lookup_nd (hp.nodup_iff.mpr hn.nd) hq
    walk_at "w"
    refine W.o_idxS hv lk ?_
    walk_at "w"
    rw [lk] at hK
    exact hK
  · walk_at "w"
    refine W.o_sorted (ns := ns.map fun s => (kvs.lookup s).getD 0) (by rw [List.map_map]; rfl) ?_
    rw [srt_congr (vals_perm hp (hp.nodup_iff.mpr hn.nd))]
    have hsl : (srt (kvs.map (·.2))).length = ns.length := by rw [(W.srt_perm _).length_eq, List.length_map, ← hp.length_eq, List.length_map]
    generalize hr : srt (kvs.map (·.2)) = r at *
    walk_at "w"
    rw [enumD_map]
    refine W.walk_inv (I := fun n ρ' M' => M' = M ∧ (∃ c d e, ρ' = [some (.d (pathD ns)), some (.d x), some (.d (.int k)), c, d, e]) ∧ ∀ q ∈ (r.zipIdx).take n, decide ((q.2 : Int) * k < q.1) = false) ⟨rfl, ⟨_, _, _, rfl⟩, by simp⟩ (fun n ρ' M' i => by rw [i.1]; exact W.same_in) ?_ ?_
    · rintro n ρ' M' y hy ⟨rfl, ⟨c, d, e, rfl⟩, hI⟩ K hK
      rw [List.getElem?_map] at hy
      obtain ⟨q, hq, rfl⟩ := Option.map_eq_some_iff.mp hy
      have hmq := List.mem_of_getElem? hq
      have := List.snd_lt_of_mem_zipIdx hmq
      refine ⟨_, rfl, ?_⟩
      walk_at "w"
      refine W.o_mul (by omega) ?_
      walk_at "w"
      have hd : r.zipIdx = r.zipIdx.take n ++ q :: r.zipIdx.drop (n + 1) := by
        obtain ⟨hlt, e⟩ := List.getElem?_eq_some_iff.mp hq
        rw [← e, List.getElem_cons_drop, List.take_append_drop]
      refine W.if_b (fun g => ?_) fun g => ?_
      · walk_at "w"
        have : over r k = q :: (r.zipIdx.drop (n + 1)).filter fun q => decide ((q.2 : Int) * k < q.1) := by
          unfold over
          rw [hd, List.filter_append, List.filter_eq_nil_iff.mpr (fun p hp => by simpa using hI p hp), List.filter_cons]
          rw [if_pos g, ← hd]
          rfl
        unfold faultD at h
        rw [this] at h
        exact h
      · walk_at "w"
        refine hK _ _ ⟨rfl, ⟨_, _, _, rfl⟩, fun p hp => ?_⟩
        rw [List.take_add_one, hq] at hp
        rcases List.mem_append.mp hp with z | z
        · exact hI p z
        · simp at z; subst z; exact g
    · rintro ρ' M' ⟨rfl, ⟨c, d, e, rfl⟩, hI⟩
      walk_at "w"
      have : over r k = [] := by
        unfold over
        refine List.filter_eq_nil_iff.mpr fun p hp => ?_
        have := hI p (by rw [List.take_of_length_le (by simp)]; exact hp)
        simpa using this
      unfold faultD at h
      rw [this] at h
      exact h
theorem s12 {kvs : List (Str × Int)} {ns : List Str} {x : D} {k : Int} (hm : 6 ≤ m) (hn : Nm ns) (hv : vw M x = dI kvs) (hp : (kvs.map (·.1)).Perm ns) (h0 : ∀ q ∈ kvs, 0 ≤ q.2) (h1 : 1 ≤ k) (h : Q (faultD (srt (kvs.map (·.2))) k) M) : (Phi P m).fn 12 [.d (pathD ns), .d x, .d (.int k)] M Q E := by
  refine W.fn_in (by omega) rfl rfl ?_
  show wpSs _ _ f12.body [some (.d (pathD ns)), some (.d x), some (.d (.int k))] _ _
  unfold f12
  walk_at "w"
  refine W.fn_in (by omega) rfl rfl ?_
  show wpSs _ _ f10.body [some (.d (pathD ns)), some (.d x), some (.d (.int k))] _ _
  unfold f10
  walk_at "w"
  refine s7 (by omega) rfl (fun _ => ?_) (fun z => by cases z)
  walk_at "w"
  refine s8 (by omega) hn hv hp h0 ?_
  walk_at "w"
  refine s9 (by omega) rfl (fun _ => ?_) (fun z => by simp [isPos, vw] at z; omega)
  walk_at "w"
  exact s11 (by omega) hn hv hp h
end L
end
section
set_option Elab.async false
set_option linter.all false
set_option maxRecDepth 100000
set_option maxHeartbeats 1000000
open PySem DS
local macro_rules | `(tactic| walk_at "w1") => `(tactic| with_reducible first
  | apply W.ss_cons | apply W.st_asg | apply W.st_ret | apply W.st_iff | apply W.st_exp | apply W.st_for | apply W.st_set | apply W.st_fld | apply W.st_pas | apply W.st_met | apply W.st_par | apply W.st_tup
  | apply W.e_int | apply W.e_str | apply W.e_bl | apply W.e_non | apply W.e_gstr | apply W.e_gint | apply W.e_fnv
  | apply W.e_cal | apply W.e_bin | apply W.e_cmp | apply W.e_idx | apply W.e_att | apply W.e_bi | apply W.e_isi | apply W.e_and | apply W.e_or | apply W.e_not | apply W.e_neg | apply W.e_chn | apply W.e_ite
  | apply W.e_tup | apply W.e_lst | apply W.e_lstm | apply W.e_dic | apply W.e_slc | apply W.e_calL | apply W.e_cak | apply W.e_bt | apply W.e_me | apply W.e_mu | apply W.e_cmpr | apply W.e_cmp2 | apply W.e_dcm | apply W.e_mut | apply W.e_frz
  | apply W.t_and | apply W.t_or | apply W.t_not | apply W.t_val | apply W.t_yes
  | apply W.es_cons | apply W.es_nil | apply W.as_nil | apply W.as_e
  | apply W.i_of | apply W.i_enm | apply W.i_zip | apply W.i_rng | apply W.i_rng2 | apply W.i_itm | apply W.i_itv | apply W.i_zpl | apply W.i_vls | apply W.i_vlv
  | apply W.ss_nil | apply W.sl_no | apply W.made_f | apply W.o_ins | apply W.o_nins | apply W.it_str | apply W.it_lst | apply W.it_tup | apply W.it_dic | apply W.it_enl | apply W.it_ent
  | apply W.if_tt | apply W.if_ff | apply W.if_nt | apply W.if_nf | apply W.tru_b | apply W.tru_i | apply W.tru_n | apply W.bl_in | apply W.int_in
  | apply W.o_add | apply W.o_sub | apply W.o_lt | apply W.o_le | apply W.o_gt | apply W.o_ge | apply W.o_eqi | apply W.o_nei | apply W.o_eqs | apply W.o_nes | apply W.o_eqb | apply W.o_neb | apply W.o_int_i | apply W.o_int_b)
local macro_rules | `(tactic| walk_at "w1") => `(tactic| ((with_reducible refine W.isi_an ?kk ?qq); (case kk => first | assumption | rfl)))
local macro_rules | `(tactic| walk_at "w1") => `(tactic| ((with_reducible refine W.e_var (d := ?dd) ?ee ?qq); (case ee => exact rfl)))
local macro_rules | `(tactic| walk_at "w1") => `(tactic| ((with_reducible first | refine W.isi_int (b := ?bb) ?kk ?ee ?qq | refine W.isi_inb (b := ?bb) ?kk ?ee ?qq | refine W.isi_q (b := ?bb) ?kk ?ee ?qq | refine W.isi_in (b := ?bb) ?kk ?ee ?qq); (case kk => first | assumption | rfl); (case ee => first | exact (rfl : _ = true) | exact (rfl : _ = false) | exact rfl)))
local macro_rules | `(tactic| walk_at "w") => `(tactic| repeat walk_at "w1")
namespace L
open DS.W (srt)
variable {m : Nat} {M : Sto} {Q : Po D} {E : Po Exn} {a : Addr} {r : Nat}
theorem pool_sh : ∀ s ∈ pool, (PyData.str s).shown.length ≤ 30 := by decide +kernel
theorem Pt.in_pool {ns : List Str} {nm : Str} {kvs : List (Str × Int)} (h : Pt ns nm kvs) (hn : Nm ns) {q : Str × Int} (hq : q ∈ kvs) : q.1 ∈ pool :=
  hn.pl _ (List.mem_filter.mp (h.perm.mem_iff.mp (List.mem_map_of_mem hq))).1
theorem repr_part {ns : List Str} {nm : Str} {kvs : List (Str × Int)} {x : D} (h : Pt ns nm kvs) (hn : Nm ns) (hv : vw M x = dI kvs) (q : Q (.str (shD kvs)) M) : opBi .repr [x] M Q := by
  have := h.len hn
  have := hn.few
  refine W.o_repr_dI 30 hv (fun q hq => ?_) (by omega) q
  have := h.pos q hq
  exact ⟨pool_sh _ (h.in_pool hn hq), by omega, by omega⟩
theorem lastF_bd {ns : List Str} {nm : Str} {kvs : List (Str × Int)} (h : Pt ns nm kvs) (hn : Nm ns) {k : Int} (hk : 0 ≤ k) : 0 ≤ lastF k 0 (srt (kvs.map (·.2))) ∧ lastF k 0 (srt (kvs.map (·.2))) ≤ ((ns.length : Int) - 1) * k := by
  refine ⟨lastF_ge hk _ 0, ?_⟩
  have h1 := lastF_le hk (srt (kvs.map (·.2))) 0
  rw [(W.srt_perm _).length_eq, List.length_map] at h1
  have := h.len hn
  have e : ((ns.length : Int) - 1) = kvs.length := by omega
  rw [e]
  omega
/-- what the text of an answer is -/
def lackS (r : List Int) (k : Int) : Str := if okF k k r = true then (PyData.int (lastF k 0 r)).shown else (PyData.none).shown
theorem repr_lack {ns : List Str} {nm : Str} {kvs : List (Str × Int)} {k : Int} (h : Pt ns nm kvs) (hn : Nm ns) (h0 : 0 ≤ k) (h1 : k ≤ 1000000) (q : Q (.str (lackS (srt (kvs.map (·.2))) k)) M) : opBi .repr [lackD (srt (kvs.map (·.2))) k] M Q := by
  rw [lack_ok]
  unfold lackS at q
  obtain ⟨b0, b1⟩ := lastF_bd h hn h0
  have fw := hn.few
  have tw := hn.two
  have : ((ns.length : Int) - 1) * k ≤ 19 * 1000000 := Int.mul_le_mul (by omega) h1 h0 (by omega)
  cases e : okF k k (srt (kvs.map (·.2)))
  · rw [e] at q
    exact W.o_repr_non q
  · rw [e] at q
    exact W.o_repr_int b0 (by omega) q
/-- a thing to be asked -/
def Th (ns : List Str) (t : List (Str × Int) × Int) : Prop := (∃ nm, Pt ns nm t.1) ∧ 1 ≤ t.2 ∧ t.2 ≤ 1000000
def thD (t : List (Str × Int) × Int) : D := .tup [dI t.1, .int t.2]
def thS (t : List (Str × Int) × Int) : Str := lackS (srt (t.1.map (·.2))) t.2
theorem ask {ns : List Str} {t : List (Str × Int) × Int} (hm : 6 ≤ m) (hn : Nm ns) (ht : Th ns t) (h : Q (lackD (srt (t.1.map (·.2))) t.2) M) : (Phi P m).clo 3100 [] [pathD ns, thD t] M Q E := by
  refine W.clo_in (by omega) rfl rfl rfl ?_
  show wpE _ _ l3100.body [some (.d (pathD ns)), some (.d (thD t))] _ _ _
  unfold l3100
  obtain ⟨⟨nm, hp⟩, h1, h2⟩ := ht
  walk_at "w"
  refine W.o_idxt (d := dI t.1) rfl (W.atI_nat (n := 0) rfl) ?_
  walk_at "w"
  refine W.o_idxt (d := .int t.2) rfl (W.atI_nat (n := 1) rfl) ?_
  walk_at "w"
  exact s14 (by omega) rfl (hp.ok hn) hn.few h1 (by omega) h
theorem s25 {ns : List Str} {ts : List (List (Str × Int) × Int)} (hm : 8 ≤ m) (hd : Dr M a r) (hr : 10 ≤ r) (hn : Nm ns) (hl : ts.length ≤ 4) (ht : ∀ t ∈ ts, Th ns t) (h : ∀ M', Dr M' a (r - 10) → Q (.bl true) M') : (Phi P m).fn 25 [.d (.mref a), .d (.lst (ns.map .str)), .clo 3100 [], .d (.lst (ts.map thD))] M Q E := by
  refine W.fn_in (by omega) rfl rfl ?_
  show wpSs _ _ f25.body [some (.d (.mref a)), some (.d (.lst (ns.map .str))), some (.clo 3100 []), some (.d (.lst (ts.map thD))), none, none, none, none] _ _
  unfold f25
  walk_at "w"
  refine s23 (by omega) hd (by omega) hn (.inl rfl) fun M1 hd1 hk1 => ?_
  walk_at "w"
  refine W.o_list_l rfl ?_
  walk_at "w"
  refine W.o_list_l rfl ?_
  walk_at "w"
  refine W.sl_at (by omega) (by omega) ?_
  refine W.o_slc_take (k := 1) rfl (by omega) ?_
  rw [← List.map_take]
  refine W.o_addl rfl rfl (by simp; unfold lim; omega) (by simp; unfold lim; omega) ?_
  rw [← List.map_append]
  walk_at "w"
  refine ⟨_, rfl, rfl, ?_⟩
  have ht2 : ∀ t ∈ ts ++ ts.take 1, Th ns t := fun t h => by
    rcases List.mem_append.mp h with h | h
    · exact ht t h
    · exact ht t (List.mem_of_mem_take h)
  have hl2 : (ts ++ ts.take 1).length ≤ 5 := by simp; omega
  generalize ts ++ ts.take 1 = us at ht2 hl2 ⊢
  walk_at "w"
  refine ⟨by rw [List.length_map]; unfold lim; omega, ?_⟩
  refine W.map_all (g := fun t => .str (thS t)) W.same_in us (fun t hu K hK => ?_) ?_
  · refine ⟨_, rfl, ?_⟩
    have htt := ht2 t hu
    walk_at "w"
    refine W.e_cavC rfl ?_
    walk_at "w"
    refine ask (by omega) hn htt ?_
    obtain ⟨⟨nm, hp⟩, h1, h2⟩ := htt
    walk_at "w"
    exact repr_lack hp hn (by omega) h2 hK
  · walk_at "w"
    refine ⟨by rw [List.length_map]; unfold lim; omega, ?_⟩
    refine W.map_inv (I := fun n ys M' => n ≤ us.length ∧ ys = (us.take n).map (fun t => .str (thS t)) ∧ Dr M' a (r - 1 - n)) ⟨Nat.zero_le _, rfl, hd1⟩ (fun n ys M' i => (rfl : sameS (.lst _) _ _)) ?_ ?_
    · rintro n ys M' x hx ⟨hn1, rfl, hd'⟩ K hK
      rw [List.getElem?_map] at hx
      obtain ⟨t, hu, rfl⟩ := Option.map_eq_some_iff.mp hx
      have hlt := (List.getElem?_eq_some_iff.mp hu).1
      have htt := ht2 t (List.mem_of_getElem? hu)
      refine ⟨_, rfl, ?_⟩
      walk_at "w"
      refine W.e_cavC rfl ?_
      walk_at "w"
      refine s23 (by omega) hd' (by omega) hn (.inl rfl) fun M2 hd2 hk2 => ?_
      walk_at "w"
      refine ask (by omega) hn htt ?_
      obtain ⟨⟨nm, hp⟩, h1, h2⟩ := htt
      walk_at "w"
      refine repr_lack hp hn (by omega) h2 ?_
      refine hK _ _ ⟨by omega, ?_, ?_⟩
      · rw [List.take_add_one, hu]
        simp [thS]
      · have e : r - 1 - (n + 1) = r - 1 - n - 1 := by omega
        rw [e]; exact hd2
    · rintro ys M' ⟨_, rfl, hdf⟩
      rw [List.length_map] at hdf
      rw [List.length_map, List.take_length]
      walk_at "w"
      refine .inr ⟨us.map thS, ?_, ?_, h M' (hdf.mono (by omega))⟩
      · rw [List.map_map]; rfl
      · rw [List.map_map]; rfl
theorem Sm_lack {r : List Int} {k : Int} : Sm 1 M (lackD r k) (lackD r k) := by
  rw [lack_ok]
  split
  · exact Sm_int
  · exact Sm_non
theorem known_fault {r : List Int} {k : Int} : known (vw M (faultD r k)) = true ∧ vw M (faultD r k) = faultD r k := by
  unfold faultD
  split <;> exact ⟨rfl, rfl⟩
theorem hin_of {kvs : List (Str × Int)} {ns : List Str} (hk : kvs.map (·.1) = ns) (hn : ns.Nodup) (hb : ∀ q ∈ kvs, 0 ≤ q.2 ∧ q.2 ≤ 30000000) : ∀ s ∈ ns, ∃ v, kvs.lookup s = some v ∧ 0 ≤ v ∧ v ≤ 30000000 := fun s hs => by
  rw [← hk] at hs
  obtain ⟨q, hq, rfl⟩ := List.mem_map.mp hs
  exact ⟨q.2, lookup_nd (by rw [hk]; exact hn) hq, hb q hq⟩
end L
end
section
set_option Elab.async false
set_option linter.all false
set_option maxRecDepth 100000
set_option maxHeartbeats 1000000
open PySem DS
local macro_rules | `(tactic| walk_at "w1") => `(tactic| with_reducible first
  | apply W.ss_cons | apply W.st_asg | apply W.st_ret | apply W.st_iff | apply W.st_exp | apply W.st_for | apply W.st_set | apply W.st_fld | apply W.st_pas | apply W.st_met | apply W.st_par | apply W.st_tup
  | apply W.e_int | apply W.e_str | apply W.e_bl | apply W.e_non | apply W.e_gstr | apply W.e_gint | apply W.e_fnv
  | apply W.e_cal | apply W.e_bin | apply W.e_cmp | apply W.e_idx | apply W.e_att | apply W.e_bi | apply W.e_isi | apply W.e_and | apply W.e_or | apply W.e_not | apply W.e_neg | apply W.e_chn | apply W.e_ite
  | apply W.e_tup | apply W.e_lst | apply W.e_lstm | apply W.e_dic | apply W.e_slc | apply W.e_calL | apply W.e_cak | apply W.e_bt | apply W.e_me | apply W.e_mu | apply W.e_cmpr | apply W.e_cmp2 | apply W.e_dcm | apply W.e_mut | apply W.e_frz
  | apply W.t_and | apply W.t_or | apply W.t_not | apply W.t_val | apply W.t_yes
  | apply W.es_cons | apply W.es_nil | apply W.as_nil | apply W.as_e
  | apply W.i_of | apply W.i_enm | apply W.i_zip | apply W.i_rng | apply W.i_rng2 | apply W.i_itm | apply W.i_itv | apply W.i_zpl | apply W.i_vls | apply W.i_vlv
  | apply W.ss_nil | apply W.sl_no | apply W.made_f | apply W.o_ins | apply W.o_nins | apply W.it_str | apply W.it_lst | apply W.it_tup | apply W.it_dic | apply W.it_enl | apply W.it_ent
  | apply W.if_tt | apply W.if_ff | apply W.if_nt | apply W.if_nf | apply W.tru_b | apply W.tru_i | apply W.tru_n | apply W.bl_in | apply W.int_in
  | apply W.o_add | apply W.o_sub | apply W.o_lt | apply W.o_le | apply W.o_gt | apply W.o_ge | apply W.o_eqi | apply W.o_nei | apply W.o_eqs | apply W.o_nes | apply W.o_eqb | apply W.o_neb | apply W.o_int_i | apply W.o_int_b)
local macro_rules | `(tactic| walk_at "w1") => `(tactic| ((with_reducible refine W.isi_an ?kk ?qq); (case kk => first | assumption | rfl)))
local macro_rules | `(tactic| walk_at "w1") => `(tactic| ((with_reducible refine W.e_var (d := ?dd) ?ee ?qq); (case ee => exact rfl)))
local macro_rules | `(tactic| walk_at "w1") => `(tactic| ((with_reducible first | refine W.isi_int (b := ?bb) ?kk ?ee ?qq | refine W.isi_inb (b := ?bb) ?kk ?ee ?qq | refine W.isi_q (b := ?bb) ?kk ?ee ?qq | refine W.isi_in (b := ?bb) ?kk ?ee ?qq); (case kk => first | assumption | rfl); (case ee => first | exact (rfl : _ = true) | exact (rfl : _ = false) | exact rfl)))
local macro_rules | `(tactic| walk_at "w") => `(tactic| repeat walk_at "w1")
namespace L
open DS.W (srt)
variable {m : Nat} {M : Sto} {Q : Po D} {E : Po Exn} {a : Addr} {r : Nat}
theorem it_rng0 {Qi : IQ} {i : Int} (h0 : -(2 ^ 62) ≤ i) (h1 : i < 2 ^ 62) (q : Qi ((List.range i.toNat).map fun (k : Nat) => .int k) anyS M) : itRng 0 i M Qi := by
  obtain ⟨k, e, h⟩ := W.it_rng h0 h1 q
  cases e
  exact h
def updS (kvs : List (Str × Int)) (s : Str) (v : Int) : List (Str × Int) := kvs.map fun q => if q.1 = s then (q.1, v) else q
theorem updS_keys (kvs : List (Str × Int)) (s : Str) (v : Int) : (updS kvs s v).map (·.1) = kvs.map (·.1) := by
  unfold updS
  rw [List.map_map]
  refine List.map_congr_left fun q _ => ?_
  show (if q.1 = s then (q.1, v) else q).1 = q.1
  split <;> rfl
theorem mrgK_app : ∀ (b a c : List (DK × D)), mrgK a (b ++ c) = mrgK (mrgK a b) c
  | [], a, c => by simp [mrgK]
  | (k, v) :: b, a, c => by
    show mrgK (setK a k v) (b ++ c) = mrgK (mrgK (setK a k v) b) c
    exact mrgK_app b (setK a k v) c
theorem setK_upd {kvs : List (Str × Int)} {s : Str} {v : Int} (h : s ∈ kvs.map (·.1)) : setK (kvs.map fun q => (kS q.1, D.int q.2)) (kS s) (.int v) = (updS kvs s v).map fun q => (kS q.1, D.int q.2) := by
  unfold setK
  obtain ⟨q, hq, rfl⟩ := List.mem_map.mp h
  rw [if_pos (by
    rw [List.any_eq_true]
    exact ⟨(kS q.1, .int q.2), List.mem_map.mpr ⟨q, hq, rfl⟩, by simp⟩)]
  unfold updS
  rw [List.map_map, List.map_map]
  refine List.map_congr_left fun p hp => ?_
  show (if kS p.1 = kS q.1 then _ else _) = _
  by_cases e : p.1 = q.1
  · rw [if_pos (kS_inj.mpr e)]
    simp [e]
  · rw [if_neg (fun z => e (kS_inj.mp z))]
    simp [e]
/-- a dict of rows with one row more for a key that is there -/
theorem o_dict_upd {x : D} {kvs : List (Str × Int)} {s : Str} {v : Int} (h : vw M x = .lst ((kvs.map fun q => .tup [.str q.1, .int q.2]) ++ [.tup [.str s, .int v]])) (nd : (kvs.map (·.1)).Nodup) (hs : s ∈ kvs.map (·.1)) (q : Q (dI (updS kvs s v)) M) : opBi .dict [x] M Q := by
  have e : pairsK ((kvs.map fun q => .tup [.str q.1, .int q.2]) ++ [.tup [.str s, .int v]]) = some ((kvs ++ [(s, v)]).map fun q => (kS q.1, D.int q.2)) := by
    have := pairsK_S D.int (kvs ++ [(s, v)])
    rw [List.map_append] at this
    exact this
  refine W.o_dict_l h e (isTK_dS .int (kvs ++ [(s, v)])) ?_
  rw [List.map_append, mrgK_app, mrg_nd (nd_kS nd)]
  show Q (.dic (setK _ (kS s) (.int v))) M
  rw [setK_upd hs]
  exact q
def oks (kvs : List (Str × Int)) (k : Int) (N : Nat) : List Int := ((List.range N).filter fun (i : Nat) => okF k k (srt (kvs.map (·.2))) && decide ((i : Int) ≤ lastF k 0 (srt (kvs.map (·.2))))).map fun (i : Nat) => (i : Int)
theorem oks_eq {kvs : List (Str × Int)} {k : Int} {N : Nat} (h0 : 0 ≤ lastF k 0 (srt (kvs.map (·.2)))) (h1 : lastF k 0 (srt (kvs.map (·.2))) < N) : oks kvs k N = (List.range (if okF k k (srt (kvs.map (·.2))) = true then (lastF k 0 (srt (kvs.map (·.2)))).toNat + 1 else 0)).map fun (i : Nat) => (i : Int) := by
  unfold oks
  generalize lastF k 0 (srt (kvs.map (·.2))) = L at *
  obtain ⟨l, rfl⟩ := Int.eq_ofNat_of_zero_le h0
  cases okF k k (srt (kvs.map (·.2)))
  · simp
  · rw [if_pos rfl]
    have e : (List.range N).filter (fun (i : Nat) => true && decide ((i : Int) ≤ (l : Int))) = (List.range N).filter (fun i => decide (i ≤ l)) := List.filter_congr fun i _ => by simp
    rw [e, range_le (by omega)]
    rfl
/-- the part's turn: env from name and part on -/
def body31 : List IS := match f31.body with
  | _ :: _ :: .for _ _ b :: _ => b
  | _ => []
theorem turn31 {ns : List Str} {nm : Str} {kvs : List (Str × Int)} {k t : Int} {p : Addr} {ps : List D} {c6 c7 c10 c11 c12 c13 c14 c15 c16 : Option SV} {nx : DEnv → Sto → Prop} (hm : 10 ≤ m) (hn : Nm ns) (hl : ns.length ≤ 6) (h0 : 1 ≤ k) (h1 : k ≤ 3) (hp : Pt ns nm kvs) (hM : M p = some (.lst ps)) (hps : ps.length ≤ 5)
    (h : ∀ c10 c11 c12 c13 : Option SV, nx [some (.d (.mref a)), some (.d (.lst (ns.map .str))), some (.d (.int k)), some (.d (pathD ns)), some (.d (.mref p)), some (.d (.int t)), c6, c7, some (.d (.str nm)), some (.d (dI kvs)), c10, c11, c12, c13, c14, c15, c16] (M.put p (.lst (ps ++ [dI kvs])))) :
    wpSs P (Phi P m) (body31.drop 3) [some (.d (.mref a)), some (.d (.lst (ns.map .str))), some (.d (.int k)), some (.d (pathD ns)), some (.d (.mref p)), some (.d (.int t)), c6, c7, some (.d (.str nm)), some (.d (dI kvs)), c10, c11, c12, c13, c14, c15, c16] M ⟨nx, Q, E⟩ := by
  show wpSs P (Phi P m) (_ :: _) _ _ _
  obtain ⟨b0, b1⟩ := lastF_bd hp hn (k := k) (by omega)
  have pl := hp.len hn
  have tw := hn.two
  have hkn : k * (ns.length : Int) ≤ 3 * 6 := Int.mul_le_mul h1 (by omega) (by omega) (by omega)
  have hkn0 : 0 ≤ k * (ns.length : Int) := Int.mul_nonneg (by omega) (by omega)
  have hkn1 : ((ns.length : Int) - 1) * k ≤ k * ns.length := by rw [Int.sub_mul, Int.mul_comm]; omega
  walk_at "w"
  refine W.o_len_l rfl ?_
  rw [List.length_map]
  refine W.o_mul (by omega) ?_
  walk_at "w"
  refine it_rng0 (by omega) (by omega) ?_
  obtain ⟨N, hN⟩ : ∃ N : Nat, (k * (ns.length : Int) + 2).toNat = N := ⟨_, rfl⟩
  have hN1 : lastF k 0 (srt (kvs.map (·.2))) < N := by omega
  have hN2 : N ≤ 20 := by omega
  rw [hN]
  refine ⟨by simp; unfold lim; omega, ?_⟩
  refine W.map_all (g := fun (i : Nat) => dI (kvs ++ [(nm, (i : Int))])) W.any_in (List.range N) (fun i hi K hK => ?_) ?_
  · refine ⟨_, rfl, ?_⟩
    walk_at "w"
    exact s30 (by omega) rfl (by omega) (hp.nd hn _) hK
  walk_at "w"
  refine ⟨by simp; unfold lim; omega, ?_⟩
  refine W.map_some (c := fun (i : Nat) => dI (kvs ++ [(nm, (i : Int))])) (g := fun i => if (okF k k (srt (kvs.map (·.2))) && decide ((i : Int) ≤ lastF k 0 (srt (kvs.map (·.2))))) = true then some (.int i) else none) W.same_in (List.range N) (fun i hi K hK => ?_) ?_
  · refine ⟨_, rfl, ?_⟩
    walk_at "w"
    refine s26 (by omega) rfl (by simp; omega) ?_
    walk_at "w"
    refine W.o_is known_fault.1 ?_
    rw [known_fault.2, fault_with (by omega)]
    walk_at "w"
    refine W.if_b (fun e => ?_) fun e => ?_
    · walk_at "w"
      rw [e] at hK
      refine W.o_idxS (c := .int) (v := (i : Int)) rfl (lookup_nd (q := (nm, (i : Int))) (hp.nd hn _) (by simp)) ?_
      exact hK
    · rw [e] at hK
      exact hK
  rw [filt_some]
  have e0 : (((List.range N).filter fun (i : Nat) => okF k k (srt (kvs.map (·.2))) && decide ((i : Int) ≤ lastF k 0 (srt (kvs.map (·.2))))).map fun (i : Nat) => D.int i) = (oks kvs k N).map .int := by
    unfold oks
    rw [List.map_map]; rfl
  have oe := oks_eq b0 hN1
  have hT : (if okF k k (srt (kvs.map (·.2))) = true then (lastF k 0 (srt (kvs.map (·.2)))).toNat + 1 else 0) ≤ 30 := by split <;> omega
  have lk := lack_ok (r := srt (kvs.map (·.2))) (k := k)
  have due : ∀ Q : Po D, Q (lackD (srt (kvs.map (·.2))) k) M → (if (!((oks kvs k N).map D.int).isEmpty) = true then opBi .max1 [.lst ((oks kvs k N).map .int)] M Q else Q .non M) := fun Q q => by
    rw [lk] at q
    rw [oe]
    cases e : okF k k (srt (kvs.map (·.2)))
    · rw [e] at q
      exact q
    · rw [e] at q
      rw [if_pos rfl]
      rw [if_pos (by simp)]
      refine W.o_max1 rfl (by simp) fun x hx hy => ?_
      have : x = lastF k 0 (srt (kvs.map (·.2))) := by
        obtain ⟨i, hi, rfl⟩ := List.mem_map.mp hx
        have h1 := List.mem_range.mp hi
        have h2 := hy (lastF k 0 (srt (kvs.map (·.2)))) (List.mem_map.mpr ⟨(lastF k 0 (srt (kvs.map (·.2)))).toNat, List.mem_range.mpr (by omega), by omega⟩)
        omega
      rw [this]
      exact q
  have duS : ∀ {ρ : DEnv} {R : Po D} {E : Po Exn}, ρ[11]? = some (some (.d (.lst ((oks kvs k N).map .int)))) → R (lackD (srt (kvs.map (·.2))) k) M → (if (!((oks kvs k N).map D.int).isEmpty) = true then wpE P (Phi P m) (.bi .max1 [.var 11]) ρ M R E else wpE P (Phi P m) (.cst .non) ρ M R E) := fun hρ q => by
    have := due _ q
    refine W.if_b (fun g => ?_) fun g => ?_
    · rw [if_pos g] at this
      exact W.e_bi (W.es_cons (W.e_var hρ (W.es_nil this)))
    · rw [g] at this
      exact this
  rw [e0]
  walk_at "w"
  refine W.o_ne (eq_nil fun d hd => ?_) ?_
  · obtain ⟨i, _, rfl⟩ := List.mem_map.mp hd
    exact plain_int i
  walk_at "w"
  refine duS rfl ?_
  walk_at "w"
  refine repr_part hp hn rfl ?_
  walk_at "w"
  refine ⟨rfl, ?_⟩
  obtain ⟨T, hTe⟩ : ∃ T : Nat, (if okF k k (srt (kvs.map (·.2))) = true then (lastF k 0 (srt (kvs.map (·.2)))).toNat + 1 else 0) = T := ⟨_, rfl⟩
  rw [hTe] at oe hT
  have ol : (oks kvs k N).length = T := by rw [oe]; simp
  walk_at "w"
  refine W.o_len_l rfl ?_
  rw [List.length_map, ol]
  walk_at "w"
  refine it_rng0 (by omega) (by omega) ?_
  refine W.b_list (by simp; unfold lim; omega) ?_
  have e1 : (List.range (T : Int).toNat).map (fun (i : Nat) => D.int i) = (oks kvs k N).map .int := by
    rw [oe, List.map_map, Int.toNat_natCast]; rfl
  rw [e1]
  refine W.o_ne (eqD_ints _) ?_
  walk_at "w"
  refine s14 (by omega) rfl (hp.ok hn) hn.few h0 (by omega) ?_
  walk_at "w"
  refine Sm_lack _ (by omega) _ _ ?_
  walk_at "w"
  refine repr_part hp hn rfl ?_
  walk_at "w"
  refine W.if_f (by simp) ?_
  walk_at "w"
  refine s14 (by omega) rfl (hp.ok hn) hn.few h0 (by omega) ?_
  walk_at "w"
  refine Sm_lack _ (by omega) _ _ ?_
  walk_at "w"
  have kl : known (vw M (lackD (srt (kvs.map (·.2))) k)) = true ∧ vw M (lackD (srt (kvs.map (·.2))) k) = lackD (srt (kvs.map (·.2))) k := by
    rw [lk]; split <;> exact ⟨rfl, rfl⟩
  have fin : ∀ R : Nxt, R.nx = nx → (∃ c10 c11 c12 c13 : Option SV, True) := fun _ _ => ⟨none, none, none, none, trivial⟩
  cases eo : okF k k (srt (kvs.map (·.2)))
  · have ld : lackD (srt (kvs.map (·.2))) k = .non := by rw [lk, eo]; rfl
    rw [ld]
    refine W.o_isn rfl ?_
    walk_at "w"
    refine W.if_f rfl ?_
    walk_at "w"
    refine ⟨by rw [W.vw_mref hM]; rfl, ?_⟩
    walk_at "w"
    refine W.u_append hM (by unfold lim; omega) ?_
    walk_at "w"
    exact h _ _ _ _
  · have ld : lackD (srt (kvs.map (·.2))) k = .int (lastF k 0 (srt (kvs.map (·.2)))) := by rw [lk, eo]; rfl
    rw [ld]
    refine W.o_isn rfl ?_
    walk_at "w"
    refine W.if_t rfl ?_
    walk_at "w"
    refine s30 (by omega) rfl (by omega) (hp.nd hn _) ?_
    walk_at "w"
    refine s12 (by omega) hn rfl (hp.all hn _) (fun q hq => ?_) h0 ?_
    · rcases List.mem_append.mp hq with z | z
      · exact (hp.pos q z).1
      · simp at z; subst z; show 0 ≤ lastF k 0 _ + 1; omega
    walk_at "w"
    refine W.o_is known_fault.1 ?_
    rw [known_fault.2, fault_with (by omega)]
    walk_at "w"
    refine W.if_f (by simp; omega) ?_
    walk_at "w"
    refine ⟨by rw [W.vw_mref hM]; rfl, ?_⟩
    walk_at "w"
    refine W.u_append hM (by unfold lim; omega) ?_
    walk_at "w"
    exact h _ _ _ _
theorem s31 (hm : 11 ≤ m) (hd : Dr M a r) (hr : 1000 ≤ r) (h : ∀ M', Dr M' a (r - 1000) → Q (.bl true) M') : (Phi P m).fn 31 [.d (.mref a)] M Q E := by
  refine W.fn_in (by omega) rfl rfl ?_
  show wpSs _ _ f31.body [some (.d (.mref a)), none, none, none, none, none, none, none, none, none, none, none, none, none, none, none, none] _ _
  unfold f31
  walk_at "w"
  refine s22 (by omega) hd (by omega) fun ns M1 hn hl hd1 hk1 => ?_
  walk_at "w"
  refine s17 (xs := [.int 1, .int 1, .int 2, .int 3]) (by omega) hd1 (by omega) (.inl rfl) (by simp) (by decide) fun d M2 hmem hd2 hk2 => ?_
  obtain ⟨k, rfl, h0, h1⟩ : ∃ k : Int, d = .int k ∧ 1 ≤ k ∧ k ≤ 3 := by
    simp only [List.mem_cons, List.not_mem_nil, or_false] at hmem
    rcases hmem with rfl | rfl | rfl | rfl <;> exact ⟨_, rfl, by omega, by omega⟩
  walk_at "w"
  refine ⟨_, rfl, rfl, ?_⟩
  walk_at "w"
  refine s23 (by omega) hd2 (by omega) hn (.inl rfl) fun M3 hd3 hk3 => ?_
  walk_at "w"
  intro p hpn
  walk_at "w"
  refine ⟨rfl, ?_⟩
  have np : p ≠ a := hd3.ne hpn
  walk_at "w"
  refine it_rng0 (by omega) (by omega) ?_
  refine W.walk_inv (I := fun n ρ' M' => n ≤ 5 ∧ (∃ ts : List (List (Str × Int)), M' p = some (.lst (ts.map dI)) ∧ ts.length = n ∧ ∀ t ∈ ts, ∃ nm, Pt ns nm t) ∧ Dr M' a (r - 23 - 70 * n) ∧ ∃ c5 c6 c7 c8 c9 c10 c11 c12 c13 c14 c15 c16, ρ' = [some (.d (.mref a)), some (.d (.lst (ns.map .str))), some (.d (.int k)), some (.d (pathD ns)), some (.d (.mref p)), c5, c6, c7, c8, c9, c10, c11, c12, c13, c14, c15, c16]) ?_ (fun _ _ _ _ => trivial) ?_ ?_
  · exact ⟨by omega, ⟨[], W.put_same, rfl, by simp⟩, (hd3.put np).mono (by omega), _, _, _, _, _, _, _, _, _, _, _, _, rfl⟩
  · rintro n ρ' M' x hx ⟨hn5, ⟨ts, hM, htl, hts⟩, hd', c5, c6, c7, c8, c9, c10, c11, c12, c13, c14, c15, c16, rfl⟩ K hK
    rw [List.getElem?_map] at hx
    obtain ⟨i, hi, rfl⟩ := Option.map_eq_some_iff.mp hx
    have hil := (List.getElem?_eq_some_iff.mp hi).1
    simp at hil
    refine ⟨_, rfl, ?_⟩
    walk_at "w"
    refine s27 (by omega) hd' (by omega) hn h0 (by omega) fun ws M4 hwl hwb hwo hd4 hk4 => ?_
    have hk0 : (ns.zip ws).map (·.1) = ns := List.map_fst_zip (by omega)
    have hb0 : ∀ q ∈ ns.zip ws, 0 ≤ q.2 ∧ q.2 ≤ 20000000 := fun q hq => hwb _ (List.of_mem_zip hq).2
    have rest : ∀ (kvs : List (Str × Int)) (c7 : Option SV) (M5 : Sto), kvs.map (·.1) = ns → (∀ q ∈ kvs, 0 ≤ q.2 ∧ q.2 ≤ 30000000) → Dr M5 a (r - 23 - 70 * n - 42) → M5 p = some (.lst (ts.map dI)) → wpSs P (Phi P (m - 1)) (body31.drop 2) [some (.d (.mref a)), some (.d (.lst (ns.map .str))), some (.d (.int k)), some (.d (pathD ns)), some (.d (.mref p)), some (.d (.int i)), some (.d (dI kvs)), c7, c8, c9, c10, c11, c12, c13, c14, c15, c16] M5 ⟨K, Q, E⟩ := by
      intro kvs c7 M5 hkk hbb hd5 hM5
      show wpSs P (Phi P (m - 1)) (_ :: body31.drop 3) _ _ _
      walk_at "w"
      refine s29 (by omega) hd5 (by omega) hn (hin_of hkk hn.nd hbb) fun nm kvs2 M6 hpt _ hd6 hk6 => ?_
      refine ⟨_, rfl, rfl, ?_⟩
      refine turn31 (by omega) hn hl h0 h1 hpt (hk6 p _ hM5 np) (by simp; omega) fun c10 c11 c12 c13 => ?_
      refine hK _ _ ⟨by omega, ⟨ts ++ [kvs2], ?_, by simp [htl], fun t ht => ?_⟩, ?_, _, _, _, _, _, _, _, _, _, _, _, _, rfl⟩
      · rw [W.put_same, List.map_append]; rfl
      · rcases List.mem_append.mp ht with z | z
        · exact hts t z
        · simp at z; subst z; exact ⟨_, hpt⟩
      · exact (hd6.mono (by omega)).put np
    have hM4 := hk4 p _ hM np
    walk_at "w"
    refine W.if_b (fun g => ?_) fun g => ?_
    · walk_at "w"
      refine s17 (xs := ns.map .str) (by omega) hd4 (by omega) (.inl rfl) (by intro z; simp at z; subst z; have := hn.two; simp at this) (by have := hn.few; simp; omega) fun d M5 hm5 hd5 hk5 => ?_
      obtain ⟨s, hs, rfl⟩ := List.mem_map.mp hm5
      walk_at "w"
      refine ⟨_, rfl, isTK_dS .int _, ?_⟩
      rw [itemsS]
      refine W.b_list (by have := hn.few; simp; unfold lim; omega) ?_
      walk_at "w"
      have hs2 : s ∈ (ns.zip ws).map (·.1) := by rw [hk0]; exact hs
      obtain ⟨q, hq, hqs⟩ := List.mem_map.mp hs2
      have lk : (ns.zip ws).lookup s = some q.2 := by rw [← hqs]; exact lookup_nd (by rw [hk0]; exact hn.nd) hq
      refine W.o_idxS (c := .int) rfl lk ?_
      walk_at "w"
      refine s16 (by omega) hd5 (by omega) (by omega) (by omega) fun j M6 j0 j1 hd6 hk6 => ?_
      walk_at "w"
      refine W.o_addl rfl rfl (by have := hn.few; simp; unfold lim; omega) (by show 1 ≤ lim; decide) ?_
      walk_at "w"
      refine o_dict_upd rfl (by rw [hk0]; exact hn.nd) hs2 ?_
      refine rest (updS (ns.zip ws) s (q.2 + j)) _ M6 (by rw [updS_keys, hk0]) (fun p hp => ?_) (hd6.mono (by omega)) (hk6 p _ (hk5 p _ hM4 np) np)
      unfold updS at hp
      obtain ⟨z, hz, rfl⟩ := List.mem_map.mp hp
      have b1 := hb0 z hz
      have b2 := hb0 q hq
      split
      · show 0 ≤ q.2 + j ∧ q.2 + j ≤ 30000000; omega
      · omega
    · exact rest (ns.zip ws) _ M4 hk0 (fun q hq => by have := hb0 q hq; omega) (hd4.mono (by omega)) hM4
  · rintro ρ' M' ⟨hn5, ⟨ts, hM, htl, hts⟩, hd', c5, c6, c7, c8, c9, c10, c11, c12, c13, c14, c15, c16, rfl⟩
    simp at htl hd'
    obtain ⟨t0, t1, t2, t3, t4, rfl⟩ : ∃ t0 t1 t2 t3 t4, ts = [t0, t1, t2, t3, t4] := by
      match ts, htl with
      | [t0, t1, t2, t3, t4], _ => exact ⟨t0, t1, t2, t3, t4, rfl⟩
    have v := W.vw_mref hM
    have p0 := hts t0 (by simp)
    have p1 := hts t1 (by simp)
    walk_at "w"
    refine W.o_idxl v (W.atI_nat (n := 0) rfl) ?_
    walk_at "w"
    refine W.o_idxl v (W.atI_nat (n := 0) rfl) ?_
    walk_at "w"
    refine W.o_idxl v (W.atI_nat (n := 1) rfl) ?_
    walk_at "w"
    refine W.o_idxl v (W.atI_nat (n := 1) rfl) ?_
    walk_at "w"
    refine s16 (by omega) hd' (by omega) (by omega) (by omega) fun j M7 j0 j1 hd7 hk7 => ?_
    walk_at "w"
    refine W.as_l rfl ?_
    walk_at "w"
    refine s25 (ts := [(t0, k), (t0, k + 1), (t1, k), (t1, k + 1 + j)]) (by omega) hd7 (by omega) hn (by simp) (fun t ht => ?_) fun M' hd8 => ?_
    · simp only [List.mem_cons, List.not_mem_nil, or_false] at ht
      rcases ht with rfl | rfl | rfl | rfl
      · exact ⟨p0, by show 1 ≤ k; omega, by show k ≤ _; omega⟩
      · exact ⟨p0, by show 1 ≤ k + 1; omega, by show k + 1 ≤ _; omega⟩
      · exact ⟨p1, by show 1 ≤ k; omega, by show k ≤ _; omega⟩
      · exact ⟨p1, by show 1 ≤ k + 1 + j; omega, by show k + 1 + j ≤ _; omega⟩
    · exact h M' (hd8.mono (by omega))
end L
end
section
set_option Elab.async false
set_option linter.all false
set_option maxRecDepth 100000
set_option maxHeartbeats 1000000
open PySem DS
local macro_rules | `(tactic| walk_at "w1") => `(tactic| with_reducible first
  | apply W.ss_cons | apply W.st_asg | apply W.st_ret | apply W.st_iff | apply W.st_exp | apply W.st_for | apply W.st_set | apply W.st_fld | apply W.st_pas | apply W.st_met | apply W.st_par | apply W.st_tup
  | apply W.e_int | apply W.e_str | apply W.e_bl | apply W.e_non | apply W.e_gstr | apply W.e_gint | apply W.e_fnv
  | apply W.e_cal | apply W.e_bin | apply W.e_cmp | apply W.e_idx | apply W.e_att | apply W.e_bi | apply W.e_isi | apply W.e_and | apply W.e_or | apply W.e_not | apply W.e_neg | apply W.e_chn | apply W.e_ite
  | apply W.e_tup | apply W.e_lst | apply W.e_lstm | apply W.e_dic | apply W.e_slc | apply W.e_calL | apply W.e_cak | apply W.e_bt | apply W.e_me | apply W.e_mu | apply W.e_cmpr | apply W.e_cmp2 | apply W.e_dcm | apply W.e_mut | apply W.e_frz
  | apply W.t_and | apply W.t_or | apply W.t_not | apply W.t_val | apply W.t_yes
  | apply W.es_cons | apply W.es_nil | apply W.as_nil | apply W.as_e
  | apply W.i_of | apply W.i_enm | apply W.i_zip | apply W.i_rng | apply W.i_rng2 | apply W.i_itm | apply W.i_itv | apply W.i_zpl | apply W.i_vls | apply W.i_vlv
  | apply W.ss_nil | apply W.sl_no | apply W.made_f | apply W.o_ins | apply W.o_nins | apply W.it_str | apply W.it_lst | apply W.it_tup | apply W.it_dic | apply W.it_enl | apply W.it_ent
  | apply W.if_tt | apply W.if_ff | apply W.if_nt | apply W.if_nf | apply W.tru_b | apply W.tru_i | apply W.tru_n | apply W.bl_in | apply W.int_in
  | apply W.o_add | apply W.o_sub | apply W.o_lt | apply W.o_le | apply W.o_gt | apply W.o_ge | apply W.o_eqi | apply W.o_nei | apply W.o_eqs | apply W.o_nes | apply W.o_eqb | apply W.o_neb | apply W.o_int_i | apply W.o_int_b)
local macro_rules | `(tactic| walk_at "w1") => `(tactic| ((with_reducible refine W.isi_an ?kk ?qq); (case kk => first | assumption | rfl)))
local macro_rules | `(tactic| walk_at "w1") => `(tactic| ((with_reducible refine W.e_var (d := ?dd) ?ee ?qq); (case ee => exact rfl)))
local macro_rules | `(tactic| walk_at "w1") => `(tactic| ((with_reducible first | refine W.isi_int (b := ?bb) ?kk ?ee ?qq | refine W.isi_inb (b := ?bb) ?kk ?ee ?qq | refine W.isi_q (b := ?bb) ?kk ?ee ?qq | refine W.isi_in (b := ?bb) ?kk ?ee ?qq); (case kk => first | assumption | rfl); (case ee => first | exact (rfl : _ = true) | exact (rfl : _ = false) | exact rfl)))
local macro_rules | `(tactic| walk_at "w") => `(tactic| repeat walk_at "w1")
namespace L
open DS.W (srt)
variable {m : Nat} {M : Sto} {Q : Po D} {E : Po Exn} {a : Addr} {r : Nat}
theorem tru_fault {l : List Int} {k : Int} {F : Bool → Prop} (q : F (!W.isNon (faultD l k))) : ∃ b, tru (vw M (faultD l k)) = some b ∧ F b := by
  refine ⟨_, ?_, q⟩
  rw [known_fault.2]
  unfold faultD
  split <;> rfl
/-- a part of a right list, with its own number, is right -/
theorem right_part {ns : List Str} {ws : List Int} {nm : Str} {kvs : List (Str × Int)} {v k : Int} (hn : Nm ns) (hp : Pt ns nm kvs) (hl : ws.length = ns.length) (hk : ∀ q ∈ kvs, (ns.zip ws).lookup q.1 = some q.2) (hv : (ns.zip ws).lookup nm = some v) (h0 : 0 ≤ k) (hok : okF k 0 (srt ws) = true) :
    okF k k (srt (kvs.map (·.2))) = true ∧ v ≤ lastF k 0 (srt (kvs.map (·.2))) := by
  have hA := hp.all hn v
  have ndA := hp.nd hn v
  have hz : (ns.zip ws).map (·.1) = ns := List.map_fst_zip (by omega)
  have hz2 : (ns.zip ws).map (·.2) = ws := List.map_snd_zip (by omega)
  have p1 := vals_perm hA ndA
  have p2 := vals_perm (kvs := ns.zip ws) (ns := ns) (by rw [hz]) (by rw [hz]; exact hn.nd)
  rw [hz2] at p2
  have e : (ns.map fun s => ((kvs ++ [(nm, v)]).lookup s).getD 0) = ns.map fun s => ((ns.zip ws).lookup s).getD 0 := by
    refine List.map_congr_left fun s hs => ?_
    obtain ⟨q, hq, rfl⟩ := List.mem_map.mp (hA.mem_iff.mpr hs)
    rw [lookup_nd ndA hq]
    have : (ns.zip ws).lookup q.1 = some q.2 := by
      rcases List.mem_append.mp hq with z | z
      · exact hk q z
      · simp at z; subst z; exact hv
    rw [this]
  rw [e] at p1
  have pw : ((kvs ++ [(nm, v)]).map (·.2)).Perm ws := p1.symm.trans p2
  have f := fault_with (kvs := kvs) (nm := nm) (n := v) (k := k) h0
  rw [fault_ok, srt_congr pw, hok] at f
  have f := f.symm
  simp only [Bool.and_eq_true, decide_eq_true_eq] at f
  exact f
theorem s32 (hm : 11 ≤ m) (hd : Dr M a r) (hr : 1000 ≤ r) (h : ∀ M', Dr M' a (r - 1000) → Q (.bl true) M') : (Phi P m).fn 32 [.d (.mref a)] M Q E := by
  refine W.fn_in (by omega) rfl rfl ?_
  show wpSs _ _ f32.body [some (.d (.mref a)), none, none, none, none, none, none, none, none, none] _ _
  unfold f32
  walk_at "w"
  refine s16 (by omega) hd (by omega) (by omega) (by omega) fun j M1 j0 j1 hd1 hk1 => ?_
  obtain ⟨n, rfl⟩ := Int.eq_ofNat_of_zero_le j0
  walk_at "w"
  have e : (12 + (n : Int)) = ((12 + n : Nat) : Int) := by omega
  rw [e]
  refine s21 (by omega) hd1 (by omega) (by omega) (by omega) fun ns M2 hn hl hd2 hk2 => ?_
  walk_at "w"
  refine W.o_pow (by omega) ?_
  walk_at "w"
  refine s17 (xs := [.int 3, .int 1000, .int ((10 : Int) ^ (6 : Int).toNat)]) (by omega) hd2 (by omega) (.inl rfl) (by simp) (by decide) fun d M3 hmem hd3 hk3 => ?_
  obtain ⟨k, rfl, h0, h1⟩ : ∃ k : Int, d = .int k ∧ 1 ≤ k ∧ k ≤ 1000000 := by
    simp only [List.mem_cons, List.not_mem_nil, or_false] at hmem
    rcases hmem with rfl | rfl | rfl
    · exact ⟨_, rfl, by omega, by omega⟩
    · exact ⟨_, rfl, by omega, by omega⟩
    · exact ⟨_, rfl, by decide, by decide⟩
  refine ⟨_, rfl, rfl, ?_⟩
  walk_at "w"
  refine s23 (by omega) hd3 (by omega) hn (.inl rfl) fun M4 hd4 hk4 => ?_
  walk_at "w"
  refine s27 (by omega) hd4 (by omega) hn h0 h1 fun ws M5 hwl hwb hwo hd5 hk5 => ?_
  walk_at "w"
  refine ⟨rfl, ?_⟩
  have hz : (ns.zip ws).map (·.1) = ns := List.map_fst_zip (by omega)
  have hb0 : ∀ q ∈ ns.zip ws, 0 ≤ q.2 ∧ q.2 ≤ 20000000 := fun q hq => hwb _ (List.of_mem_zip hq).2
  have hin := hin_of hz hn.nd (fun q hq => by have := hb0 q hq; omega)
  walk_at "w"
  refine s29 (by omega) hd5 (by omega) hn hin fun nm kvs M6 hp hlk hd6 hk6 => ?_
  obtain ⟨v, hv, _⟩ := hin nm hp.mem
  obtain ⟨ro, rv⟩ := right_part hn hp hwl hlk hv (by omega) hwo
  have pl := hp.len hn
  have fw := hn.few
  refine ⟨_, rfl, rfl, ?_⟩
  walk_at "w"
  refine s14 (by omega) rfl (hp.ok hn) hn.few h0 (by omega) ?_
  rw [lack_ok, if_pos ro]
  walk_at "w"
  refine W.o_idxS (c := .int) (v := v) rfl hv ?_
  walk_at "w"
  refine W.if_f (by simp; omega) ?_
  walk_at "w"
  refine s30 (by omega) rfl (by omega) (hp.nd hn _) ?_
  walk_at "w"
  refine s26 (by omega) rfl (by simp; omega) ?_
  walk_at "w"
  refine W.o_isn known_fault.1 ?_
  rw [known_fault.2, fault_with (by omega), ro]
  walk_at "w"
  refine W.if_f (by simp) ?_
  walk_at "w"
  refine s30 (by omega) rfl (by omega) (hp.nd hn _) ?_
  walk_at "w"
  refine s26 (by omega) rfl (by simp; omega) ?_
  walk_at "w"
  refine W.o_is known_fault.1 ?_
  rw [known_fault.2, fault_with (by omega), ro]
  walk_at "w"
  refine W.if_f (by simp; omega) ?_
  walk_at "w"
  have ek : ((kvs.map fun q => (kS q.1, D.int q.2)).map fun kv => ofKey kv.1) = kvs.map fun q => .str q.1 := by
    rw [List.map_map]; rfl
  refine W.it_dic (kvs := kvs.map fun q => (kS q.1, D.int q.2)) ?_
  rw [ek]
  refine ⟨by rw [List.length_map]; unfold lim; omega, ?_⟩
  refine W.map_all (c := fun q : Str × Int => .str q.1) (g := fun q => .tup [.str q.1, .int (q.2 + k)]) W.any_in kvs (fun q hq K hK => ?_) ?_
  · refine ⟨_, rfl, ?_⟩
    walk_at "w"
    refine W.o_idxS (c := .int) (v := q.2) rfl (lookup_nd (hp.perm.nodup_iff.mpr (List.filter_sublist.nodup hn.nd)) hq) ?_
    walk_at "w"
    exact hK
  walk_at "w"
  have e2 : (kvs.map fun q => D.tup [.str q.1, .int (q.2 + k)]) = (kvs.map fun q => (q.1, q.2 + k)).map fun q => .tup [.str q.1, .int q.2] := by
    rw [List.map_map]; rfl
  have e3 : (kvs.map fun q => (q.1, q.2 + k)).map (·.1) = kvs.map (·.1) := by
    rw [List.map_map]; rfl
  have hp2 : Pt ns nm (kvs.map fun q => (q.1, q.2 + k)) := ⟨hp.mem, by rw [e3]; exact hp.perm, fun q hq => by
    obtain ⟨z, hz, rfl⟩ := List.mem_map.mp hq
    have := hb0 _ (lookup_mem (hlk z hz))
    show 0 ≤ z.2 + k ∧ z.2 + k ≤ 30000000
    omega⟩
  have hpos : ∀ w ∈ (kvs.map fun q => (q.1, q.2 + k)).map (·.2), 0 < w := fun w hw => by
    rw [List.map_map] at hw
    obtain ⟨z, hz, rfl⟩ := List.mem_map.mp hw
    have := hb0 _ (lookup_mem (hlk z hz))
    show 0 < z.2 + k
    omega
  refine W.o_dict_S (c := .int) (kvs := kvs.map fun q => (q.1, q.2 + k)) (by show D.lst _ = _; rw [← e2]) (by rw [e3]; exact hp.perm.nodup_iff.mpr (List.filter_sublist.nodup hn.nd)) ?_
  have pl2 := hp2.len hn
  generalize (kvs.map fun q => (q.1, q.2 + k)) = kv2 at hp2 hpos pl2 ⊢
  walk_at "w"
  refine s14 (by omega) rfl (hp2.ok hn) hn.few h0 (by omega) ?_
  walk_at "w"
  refine s30 (by omega) rfl (by omega) (hp2.nd hn _) ?_
  walk_at "w"
  refine s26 (by omega) rfl (by simp; omega) ?_
  refine tru_fault ?_
  have l0 : lastF k 0 (srt (kv2.map (·.2))) = 0 := by
    have hmem : ∀ w ∈ srt (kv2.map (·.2)), 0 < w := fun w hw => hpos w ((W.srt_perm _).mem_iff.mp hw)
    cases es : srt (kv2.map (·.2)) with
    | nil => rfl
    | cons x t =>
      rw [es] at hmem
      have := hmem x List.mem_cons_self
      unfold lastF
      rw [if_pos this]
  rw [fault_with (by omega), l0]
  have fin := h M6 (hd6.mono (by omega))
  have sl := Sm_lack (M := M6) (r := srt (kv2.map (·.2))) (k := k)
  rw [lack_ok, l0] at sl
  rw [lack_ok, l0]
  cases eo : okF k k (srt (kv2.map (·.2)))
  · rw [eo] at sl
    walk_at "w"
    exact sl _ (by omega) _ _ fin
  · rw [eo] at sl
    walk_at "w"
    exact sl _ (by omega) _ _ fin
end L
end
section
set_option Elab.async false
set_option linter.all false
set_option maxRecDepth 100000
set_option maxHeartbeats 1000000
open PySem DS
local macro_rules | `(tactic| walk_at "w1") => `(tactic| with_reducible first
  | apply W.ss_cons | apply W.st_asg | apply W.st_ret | apply W.st_iff | apply W.st_exp | apply W.st_for | apply W.st_set | apply W.st_fld | apply W.st_pas | apply W.st_met | apply W.st_par | apply W.st_tup
  | apply W.e_int | apply W.e_str | apply W.e_bl | apply W.e_non | apply W.e_gstr | apply W.e_gint | apply W.e_fnv
  | apply W.e_cal | apply W.e_bin | apply W.e_cmp | apply W.e_idx | apply W.e_att | apply W.e_bi | apply W.e_isi | apply W.e_and | apply W.e_or | apply W.e_not | apply W.e_neg | apply W.e_chn | apply W.e_ite
  | apply W.e_tup | apply W.e_lst | apply W.e_lstm | apply W.e_dic | apply W.e_slc | apply W.e_calL | apply W.e_cak | apply W.e_bt | apply W.e_me | apply W.e_mu | apply W.e_cmpr | apply W.e_cmp2 | apply W.e_dcm | apply W.e_mut | apply W.e_frz
  | apply W.t_and | apply W.t_or | apply W.t_not | apply W.t_val | apply W.t_yes
  | apply W.es_cons | apply W.es_nil | apply W.as_nil | apply W.as_e
  | apply W.i_of | apply W.i_enm | apply W.i_zip | apply W.i_rng | apply W.i_rng2 | apply W.i_itm | apply W.i_itv | apply W.i_zpl | apply W.i_vls | apply W.i_vlv
  | apply W.ss_nil | apply W.sl_no | apply W.made_f | apply W.o_ins | apply W.o_nins | apply W.it_str | apply W.it_lst | apply W.it_tup | apply W.it_dic | apply W.it_enl | apply W.it_ent
  | apply W.if_tt | apply W.if_ff | apply W.if_nt | apply W.if_nf | apply W.tru_b | apply W.tru_i | apply W.tru_n | apply W.bl_in | apply W.int_in
  | apply W.o_add | apply W.o_sub | apply W.o_lt | apply W.o_le | apply W.o_gt | apply W.o_ge | apply W.o_eqi | apply W.o_nei | apply W.o_eqs | apply W.o_nes | apply W.o_eqb | apply W.o_neb | apply W.o_int_i | apply W.o_int_b)
local macro_rules | `(tactic| walk_at "w1") => `(tactic| ((with_reducible refine W.isi_an ?kk ?qq); (case kk => first | assumption | rfl)))
local macro_rules | `(tactic| walk_at "w1") => `(tactic| ((with_reducible refine W.e_var (d := ?dd) ?ee ?qq); (case ee => exact rfl)))
local macro_rules | `(tactic| walk_at "w1") => `(tactic| ((with_reducible first | refine W.isi_int (b := ?bb) ?kk ?ee ?qq | refine W.isi_inb (b := ?bb) ?kk ?ee ?qq | refine W.isi_q (b := ?bb) ?kk ?ee ?qq | refine W.isi_in (b := ?bb) ?kk ?ee ?qq); (case kk => first | assumption | rfl); (case ee => first | exact (rfl : _ = true) | exact (rfl : _ = false) | exact rfl)))
local macro_rules | `(tactic| walk_at "w") => `(tactic| repeat walk_at "w1")
namespace L
open DS.W (srt)
variable {m : Nat} {M : Sto} {Q : Po D} {E : Po Exn} {a : Addr} {r : Nat}
/-- what was met is told -/
theorem s28 {l c : Nat} {cs : List D} {f w : Str} {d : D} (hm : 7 ≤ m) (hc : (c = 3 ∧ f = "thing" ∧ w = "path") ∨ (c = 6 ∧ f = "part" ∧ w = "part") ∨ (c = 4 ∧ f = "most" ∧ w = "most")) (ha : ∀ (Q' : Po D) (E' : Po Exn), E' ⟨c, [(f, d)]⟩ M → (Phi P (m - 1)).clo l cs [] M Q' E') (h : Q (.lst [.str w, d]) M) : (Phi P m).fn 28 [.clo l cs] M Q E := by
  refine W.fn_in (by omega) rfl rfl ?_
  show wpSs _ _ f28.body [some (.clo l cs), none] _ _
  unfold f28
  walk_at "w"
  refine W.e_cavC rfl ?_
  walk_at "w"
  refine ha _ _ ?_
  rcases hc with hc | hc | hc
  · obtain ⟨rfl, rfl, rfl⟩ := hc
    exact ⟨_, rfl, h⟩
  · obtain ⟨rfl, rfl, rfl⟩ := hc
    exact ⟨_, rfl, h⟩
  · obtain ⟨rfl, rfl, rfl⟩ := hc
    exact ⟨_, rfl, h⟩
theorem c3300 {d : D} (hm : 4 ≤ m) (hk : known (vw M d) = true) (hx : isTy (.cls 0) (vw M d) = false) (h : E ⟨3, [("thing", d)]⟩ M) : (Phi P m).clo 3300 [d] [] M Q E := by
  refine W.clo_in (by omega) rfl rfl rfl ?_
  show wpE _ _ l3300.body [some (.d d)] _ _ _
  unfold l3300
  walk_at "w"
  exact s14_path (by omega) hk hx h
/-- no part -/
def Odd (ns : List Str) (d : D) (M : Sto) : Prop := ∀ (m : Nat) (z : D) (Q : Po D) (E : Po Exn), 4 ≤ m → E ⟨6, [("part", d)]⟩ M → (Phi P m).fn 14 [.d (pathD ns), .d d, .d z] M Q E
theorem c3301 {ns : List Str} {d : D} (hm : 5 ≤ m) (ho : Odd ns d M) (h : E ⟨6, [("part", d)]⟩ M) : (Phi P m).clo 3301 [pathD ns, d] [] M Q E := by
  refine W.clo_in (by omega) rfl rfl rfl ?_
  show wpE _ _ l3301.body [some (.d (pathD ns)), some (.d d)] _ _ _
  unfold l3301
  walk_at "w"
  exact ho _ _ _ _ (by omega) h
theorem c3302 {ns : List Str} {kvs : List (Str × Int)} {d : D} (hm : 5 ≤ m) (hl : ns.length ≤ 20) (hp : partB ns .int kvs = true) (hk : known (vw M d) = true) (hx : isPos (vw M d) = false) (h : E ⟨4, [("most", d)]⟩ M) : (Phi P m).clo 3302 [pathD ns, dI kvs, d] [] M Q E := by
  refine W.clo_in (by omega) rfl rfl rfl ?_
  show wpE _ _ l3302.body [some (.d (pathD ns)), some (.d (dI kvs)), some (.d d)] _ _ _
  unfold l3302
  walk_at "w"
  exact s14_most (by omega) rfl hp hl hk hx h
theorem c3303 {ns : List Str} {kvs : List (Str × Int)} {d e : D} (hm : 5 ≤ m) (hl : ns.length ≤ 20) (hp : partB ns .int kvs = true) (hk : known (vw M d) = true) (hx : isPos (vw M d) = false) (h : E ⟨4, [("most", d)]⟩ M) : (Phi P m).clo 3303 [pathD ns, dI kvs, .lst [d, e]] [] M Q E := by
  refine W.clo_in (by omega) rfl rfl rfl ?_
  show wpE _ _ l3303.body [some (.d (pathD ns)), some (.d (dI kvs)), some (.d (.lst [d, e]))] _ _ _
  unfold l3303
  walk_at "w"
  refine W.o_idxl (d := d) rfl (W.atI_nat (n := 0) rfl) ?_
  walk_at "w"
  exact s14_most (by omega) rfl hp hl hk hx h
theorem c3304 {ns : List Str} {d e : D} (hm : 5 ≤ m) (ho : Odd ns e M) (h : E ⟨6, [("part", e)]⟩ M) : (Phi P m).clo 3304 [pathD ns, .lst [d, e]] [] M Q E := by
  refine W.clo_in (by omega) rfl rfl rfl ?_
  show wpE _ _ l3304.body [some (.d (pathD ns)), some (.d (.lst [d, e]))] _ _ _
  unfold l3304
  walk_at "w"
  refine W.o_idxl (d := e) rfl (W.atI_nat (n := 1) rfl) ?_
  walk_at "w"
  exact ho _ _ _ _ (by omega) h
/-! ### what is no part -/
theorem Odd.of {ns : List Str} {d : D} (hk : known (vw M d) = true) (hx : isTy .dict (vw M d) = false) : Odd ns d M := fun m z Q E hm h => s14_part0 (by omega) hk hx h
theorem Odd.dic {ns : List Str} {α : Type} {c : α → D} {kvs : List (Str × α)} {d : D} (hv : vw M d = dS c kvs) (hk : ∀ q ∈ kvs, known (c q.2) = true) (hl : ns.length ≤ 20) (hp : partB ns c kvs = false) : Odd ns d M := fun m z Q E hm h => s14_part (by omega) hv hk hl hp h
theorem partB_len {α : Type} {c : α → D} {ns : List Str} {kvs : List (Str × α)} (h : kvs.length + 1 ≠ ns.length) : partB ns c kvs = false := by
  unfold partB
  have : ¬ ((kvs.length : Int) = (ns.length : Int) - 1) := by omega
  simp [this]
theorem partB_in {α : Type} {c : α → D} {ns : List Str} {kvs : List (Str × α)} (h : (ns.filter (inKs kvs)).length ≠ kvs.length) : partB ns c kvs = false := by
  unfold partB
  have : ¬ (((ns.filter (inKs kvs)).length : Int) = kvs.length) := by omega
  simp [this]
theorem partB_val {α : Type} {c : α → D} {ns : List Str} {kvs : List (Str × α)} {s : Str} {v : α} (hs : s ∈ ns) (hl : kvs.lookup s = some v) (h : isNum (c v) = false) : partB ns c kvs = false := by
  unfold partB
  have : (ns.filter (inKs kvs)).all (vNum c kvs) = false := by
    rw [List.all_eq_false]
    refine ⟨s, List.mem_filter.mpr ⟨hs, by unfold inKs; rw [hl]; rfl⟩, ?_⟩
    unfold vNum
    rw [hl]
    simp [h]
  simp [this]
/-- dicts with text keys and any values -/
def updG (kvs : List (Str × D)) (s : Str) (v : D) : List (Str × D) := kvs.map fun q => if q.1 = s then (q.1, v) else q
theorem updG_keys (kvs : List (Str × D)) (s : Str) (v : D) : (updG kvs s v).map (·.1) = kvs.map (·.1) := by
  unfold updG
  rw [List.map_map]
  refine List.map_congr_left fun q _ => ?_
  show (if q.1 = s then (q.1, v) else q).1 = q.1
  split <;> rfl
theorem setK_updG {kvs : List (Str × D)} {s : Str} {v : D} (h : s ∈ kvs.map (·.1)) : setK (kvs.map fun q => (kS q.1, id q.2)) (kS s) v = (updG kvs s v).map fun q => (kS q.1, id q.2) := by
  unfold setK
  obtain ⟨q, hq, rfl⟩ := List.mem_map.mp h
  rw [if_pos (by
    rw [List.any_eq_true]
    exact ⟨(kS q.1, id q.2), List.mem_map.mpr ⟨q, hq, rfl⟩, by simp⟩)]
  unfold updG
  rw [List.map_map, List.map_map]
  refine List.map_congr_left fun p hp => ?_
  show (if kS p.1 = kS q.1 then _ else _) = _
  by_cases e : p.1 = q.1
  · rw [if_pos (kS_inj.mpr e)]
    simp [e]
  · rw [if_neg (fun z => e (kS_inj.mp z))]
    simp [e]
theorem o_dict_updG {x : D} {kvs : List (Str × Int)} {s : Str} {v : D} (h : vw M x = .lst ((kvs.map fun q => .tup [.str q.1, .int q.2]) ++ [.tup [.str s, v]])) (nd : (kvs.map (·.1)).Nodup) (hs : s ∈ kvs.map (·.1)) (q : Q (dS id (updG (kvs.map fun q => (q.1, .int q.2)) s v)) M) : opBi .dict [x] M Q := by
  have k1 : (kvs.map fun q => (q.1, D.int q.2)).map (·.1) = kvs.map (·.1) := by rw [List.map_map]; rfl
  have e : pairsK ((kvs.map fun q => .tup [.str q.1, .int q.2]) ++ [.tup [.str s, v]]) = some (((kvs.map fun q => (q.1, D.int q.2)) ++ [(s, v)]).map fun q => (kS q.1, id q.2)) := by
    have := pairsK_S id ((kvs.map fun q => (q.1, D.int q.2)) ++ [(s, v)])
    rw [List.map_append, List.map_map] at this
    exact this
  refine W.o_dict_l h e (isTK_dS id _) ?_
  rw [List.map_append, mrgK_app, mrg_nd (nd_kS (by rw [k1]; exact nd))]
  show Q (.dic (setK _ (kS s) v)) M
  rw [setK_updG (by rw [k1]; exact hs)]
  exact q
theorem updG_lookup {kvs : List (Str × D)} {s : Str} {v : D} (nd : (kvs.map (·.1)).Nodup) (hs : s ∈ kvs.map (·.1)) : (updG kvs s v).lookup s = some v := by
  obtain ⟨q, hq, rfl⟩ := List.mem_map.mp hs
  have : (q.1, v) ∈ updG kvs q.1 v := by
    unfold updG
    exact List.mem_map.mpr ⟨q, hq, by simp⟩
  exact lookup_nd (q := (q.1, v)) (by rw [updG_keys]; exact nd) this
theorem Sm_dI {kvs : List (Str × Int)} (hl : kvs.length ≤ 1000) : Sm 4 M (dI kvs) (dI kvs) :=
  Sm_dic (c := .int) (kvs := kvs) rfl rfl (by unfold lim; omega) (Nat.le_refl 1) fun _ _ => Sm_int
theorem Sm_rows {l : List (Str × Int)} (hl : l.length ≤ 1000) : Sm 3 M (.lst (l.map fun q => .tup [.str q.1, .int q.2])) (.lst (l.map fun q => .tup [.str q.1, .int q.2])) := by
  refine Sm_lst (k := 2) rfl rfl rfl (by rw [List.length_map]; unfold lim; omega) fun p hp => ?_
  rw [List.zip_map'] at hp
  obtain ⟨q, hq, rfl⟩ := List.mem_map.mp hp
  refine Sm_tup rfl (by show 2 ≤ lim; unfold lim; omega) fun p hp => ?_
  have hp : p ∈ [(D.str q.1, D.str q.1), (D.int q.2, D.int q.2)] := hp
  simp only [List.mem_cons, List.not_mem_nil, or_false] at hp
  rcases hp with rfl | rfl
  · exact Sm_str
  · exact Sm_int
theorem Sm_pair {k : Nat} {w : Str} {x y : D} (hk : 1 ≤ k) (h : Sm k M x y) : Sm (k + 1) M (.lst [.str w, x]) (.lst [.str w, y]) := by
  refine Sm_lst (k := k) rfl rfl rfl (by show 2 ≤ lim; unfold lim; omega) fun p hp => ?_
  have hp : p ∈ [(D.str w, D.str w), (x, y)] := hp
  simp only [List.mem_cons, List.not_mem_nil, or_false] at hp
  rcases hp with rfl | rfl
  · exact Sm_str.mono hk
  · exact h
theorem Sm_nil : Sm 1 M (.lst []) (.lst []) := Sm_lst (k := 0) rfl rfl rfl (by decide) fun p hp => by cases hp
theorem Sm_one {d : D} {k : Nat} (h : Sm k M d d) : Sm (k + 1) M (.lst [d]) (.lst [d]) := Sm_lst (k := k) rfl rfl rfl (by show 1 ≤ lim; decide) fun p hp => by
  have hp : p ∈ [(d, d)] := hp
  simp only [List.mem_cons, List.not_mem_nil, or_false] at hp
  subst hp
  exact h
/-- small things -/
def tiny : D → Bool
  | .non => true
  | .bl _ => true
  | .int _ => true
  | .str _ => true
  | .lst [] => true
  | .lst [.int _] => true
  | .dic [] => true
  | _ => false
theorem Sm_tiny {d : D} (h : tiny d = true) : Sm 4 M d d := by
  unfold tiny at h
  split at h
  · exact Sm_non.mono (by omega)
  · exact Sm_bl.mono (by omega)
  · exact Sm_int.mono (by omega)
  · exact Sm_str.mono (by omega)
  · exact Sm_nil.mono (by omega)
  · exact (Sm_one Sm_int).mono (by omega)
  · exact Sm_dI (kvs := []) (by simp)
  · cases h
theorem known_tiny {d : D} (h : tiny d = true) : known d = true := by
  unfold tiny at h
  split at h <;> first | rfl | cases h
end L
end
section
set_option Elab.async false
set_option linter.all false
set_option maxRecDepth 100000
set_option maxHeartbeats 1000000
open PySem DS
local macro_rules | `(tactic| walk_at "w1") => `(tactic| with_reducible first
  | apply W.ss_cons | apply W.st_asg | apply W.st_ret | apply W.st_iff | apply W.st_exp | apply W.st_for | apply W.st_set | apply W.st_fld | apply W.st_pas | apply W.st_met | apply W.st_par | apply W.st_tup
  | apply W.e_int | apply W.e_str | apply W.e_bl | apply W.e_non | apply W.e_gstr | apply W.e_gint | apply W.e_fnv
  | apply W.e_cal | apply W.e_bin | apply W.e_cmp | apply W.e_idx | apply W.e_att | apply W.e_bi | apply W.e_isi | apply W.e_and | apply W.e_or | apply W.e_not | apply W.e_neg | apply W.e_chn | apply W.e_ite
  | apply W.e_tup | apply W.e_lst | apply W.e_lstm | apply W.e_dic | apply W.e_slc | apply W.e_calL | apply W.e_cak | apply W.e_bt | apply W.e_me | apply W.e_mu | apply W.e_cmpr | apply W.e_cmp2 | apply W.e_dcm | apply W.e_mut | apply W.e_frz
  | apply W.t_and | apply W.t_or | apply W.t_not | apply W.t_val | apply W.t_yes
  | apply W.es_cons | apply W.es_nil | apply W.as_nil | apply W.as_e
  | apply W.i_of | apply W.i_enm | apply W.i_zip | apply W.i_rng | apply W.i_rng2 | apply W.i_itm | apply W.i_itv | apply W.i_zpl | apply W.i_vls | apply W.i_vlv
  | apply W.ss_nil | apply W.sl_no | apply W.made_f | apply W.o_ins | apply W.o_nins | apply W.it_str | apply W.it_lst | apply W.it_tup | apply W.it_dic | apply W.it_enl | apply W.it_ent
  | apply W.if_tt | apply W.if_ff | apply W.if_nt | apply W.if_nf | apply W.tru_b | apply W.tru_i | apply W.tru_n | apply W.bl_in | apply W.int_in
  | apply W.o_add | apply W.o_sub | apply W.o_lt | apply W.o_le | apply W.o_gt | apply W.o_ge | apply W.o_eqi | apply W.o_nei | apply W.o_eqs | apply W.o_nes | apply W.o_eqb | apply W.o_neb | apply W.o_int_i | apply W.o_int_b)
local macro_rules | `(tactic| walk_at "w1") => `(tactic| ((with_reducible refine W.isi_an ?kk ?qq); (case kk => first | assumption | rfl)))
local macro_rules | `(tactic| walk_at "w1") => `(tactic| ((with_reducible refine W.e_var (d := ?dd) ?ee ?qq); (case ee => exact rfl)))
local macro_rules | `(tactic| walk_at "w1") => `(tactic| ((with_reducible first | refine W.isi_int (b := ?bb) ?kk ?ee ?qq | refine W.isi_inb (b := ?bb) ?kk ?ee ?qq | refine W.isi_q (b := ?bb) ?kk ?ee ?qq | refine W.isi_in (b := ?bb) ?kk ?ee ?qq); (case kk => first | assumption | rfl); (case ee => first | exact (rfl : _ = true) | exact (rfl : _ = false) | exact rfl)))
local macro_rules | `(tactic| walk_at "w") => `(tactic| repeat walk_at "w1")
namespace L
open DS.W (srt)
variable {m : Nat} {M : Sto} {Q : Po D} {E : Po Exn} {a : Addr} {r : Nat}
/-- an odd part, told the same -/
def OddS (ns : List Str) (d : D) : Prop := ∀ M : Sto, Odd ns d M ∧ Sm 10 M d d ∧ ∀ q, d ≠ .mref q
theorem OddS.tiny {ns : List Str} {d : D} (h : tiny d = true) (hx : isTy .dict d = false) : OddS ns d := fun M =>
  ⟨Odd.of (by rw [vw_known (known_tiny h)]; exact known_tiny h) (by rw [vw_known (known_tiny h)]; exact hx), (Sm_tiny h).mono (by omega), fun q z => by subst z; cases h⟩
theorem part33 {ns : List Str} {nm : Str} {kvs : List (Str × Int)} (hp : Pt ns nm kvs) (hn : Nm ns) : (kvs.map (·.1)).Nodup := hp.perm.nodup_iff.mpr (List.filter_sublist.nodup hn.nd)
theorem bent_odd {ns : List Str} {nm : Str} {kvs : List (Str × Int)} {s : Str} {d : D} (hp : Pt ns nm kvs) (hn : Nm ns) (hs : s ∈ kvs.map (·.1)) (ht : tiny d = true) (hx : isNum d = false) : OddS ns (dS id (updG (kvs.map fun q => (q.1, .int q.2)) s d)) := fun M => by
  have k1 : (kvs.map fun q => (q.1, D.int q.2)).map (·.1) = kvs.map (·.1) := by rw [List.map_map]; rfl
  have nd := part33 hp hn
  have kn : ∀ q ∈ updG (kvs.map fun q => (q.1, D.int q.2)) s d, tiny q.2 = true := fun q hq => by
    unfold updG at hq
    obtain ⟨z, hz, rfl⟩ := List.mem_map.mp hq
    obtain ⟨y, _, rfl⟩ := List.mem_map.mp hz
    split
    · exact ht
    · rfl
  have lk := updG_lookup (kvs := kvs.map fun q => (q.1, D.int q.2)) (s := s) (v := d) (by rw [k1]; exact nd) (by rw [k1]; exact hs)
  have pl := hp.len hn
  have fw := hn.few
  refine ⟨Odd.dic (c := id) rfl (fun q hq => known_tiny (kn q hq)) hn.few (partB_val ((List.mem_filter.mp (hp.perm.mem_iff.mp hs)).1) lk hx), ?_, fun q z => by cases z⟩
  exact (Sm_dic (c := id) (k := 4) rfl rfl (by unfold updG; simp; unfold lim; omega) (by omega) fun q hq => Sm_tiny (kn q hq)).mono (by omega)
theorem dI_odd {ns : List Str} {kvs : List (Str × Int)} (hn : Nm ns) (hl : kvs.length ≤ 1000) (h : partB ns .int kvs = false) : OddS ns (dI kvs) := fun M =>
  ⟨Odd.dic (c := .int) rfl (fun _ _ => rfl) hn.few h, (Sm_dI hl).mono (by omega), fun q z => by cases z⟩
theorem items_odd {ns : List Str} {kvs : List (Str × Int)} (hl : kvs.length ≤ 1000) : OddS ns (.lst (kvs.map fun q => .tup [.str q.1, .int q.2])) := fun M =>
  ⟨Odd.of rfl rfl, (Sm_rows hl).mono (by omega), fun q z => by cases z⟩
theorem nobody_not : ("nobody" : Str) ∉ pool := by decide +kernel
theorem y_not : ("y" : Str) ∉ pool := by decide +kernel
theorem nobody_part {ns : List Str} {nm s : Str} {v : Int} {kvs : List (Str × Int)} (hp : Pt ns nm ((s, v) :: kvs)) (hn : Nm ns) : partB ns .int (("nobody", 0) :: kvs) = false := by
  refine partB_in ?_
  have pa : (nm :: s :: kvs.map (·.1)).Perm ns := by
    have := hp.all hn 0
    refine List.Perm.trans ?_ this
    rw [List.map_append]
    exact (List.perm_append_singleton nm (s :: kvs.map (·.1))).symm
  have nd : (nm :: s :: kvs.map (·.1)).Nodup := pa.nodup_iff.mpr hn.nd
  have np : ∀ x ∈ nm :: s :: kvs.map (·.1), x ≠ "nobody" := fun x hx z => nobody_not (z ▸ hn.pl x (pa.mem_iff.mp hx))
  have hnot : ∀ x : Str, x ∉ kvs.map (·.1) → x ≠ "nobody" → inKs (("nobody", 0) :: kvs) x = false := fun x h1 h2 => by
    rw [inKs_mem, decide_eq_false_iff_not, List.map_cons, List.mem_cons]
    exact fun z => z.elim h2 h1
  rw [List.nodup_cons, List.nodup_cons] at nd
  have f1 := hnot nm (fun z => nd.1 (List.mem_cons_of_mem _ z)) (np nm List.mem_cons_self)
  have f2 := hnot s nd.2.1 (np s (by simp))
  have := (pa.filter (inKs (("nobody", 0) :: kvs))).length_eq
  rw [List.filter_cons, f1, List.filter_cons, f2] at this
  simp only [Bool.false_eq_true, if_false] at this
  have le := List.length_filter_le (inKs (("nobody", 0) :: kvs)) (kvs.map (·.1))
  rw [List.length_map] at le
  rw [← this, List.length_cons]
  omega
theorem one_of {l : List Str} (hn : l.Nodup) (h : ∀ s ∈ l, s = "x") : l.length ≤ 1 := by
  match l, hn, h with
  | [], _, _ => simp
  | [_], _, _ => simp
  | p :: q :: t, hn, h =>
    have h1 := h p (by simp)
    have h2 := h q (by simp)
    subst h1
    rw [List.nodup_cons] at hn
    exact absurd (by rw [h2]; simp) hn.1
theorem held_part {ns : List Str} (hn : Nm ns) : partB ns .int [("x", 1), ("y", 2)] = false := by
  refine partB_in ?_
  have := one_of (l := ns.filter (inKs [("x", (1 : Int)), ("y", 2)])) (List.filter_sublist.nodup hn.nd) fun s hs => by
    obtain ⟨h1, h2⟩ := List.mem_filter.mp hs
    rw [inKs_mem, decide_eq_true_eq] at h2
    simp only [List.map_cons, List.map_nil, List.mem_cons, List.not_mem_nil, or_false] at h2
    rcases h2 with h2 | h2
    · exact h2
    · exact absurd (h2 ▸ hn.pl s h1) y_not
  show _ ≠ 2
  omega
end L
end
section
set_option Elab.async false
set_option linter.all false
set_option maxRecDepth 100000
set_option maxHeartbeats 1000000
open PySem DS
local macro_rules | `(tactic| walk_at "w1") => `(tactic| with_reducible first
  | apply W.ss_cons | apply W.st_asg | apply W.st_ret | apply W.st_iff | apply W.st_exp | apply W.st_for | apply W.st_set | apply W.st_fld | apply W.st_pas | apply W.st_met | apply W.st_par | apply W.st_tup
  | apply W.e_int | apply W.e_str | apply W.e_bl | apply W.e_non | apply W.e_gstr | apply W.e_gint | apply W.e_fnv
  | apply W.e_cal | apply W.e_bin | apply W.e_cmp | apply W.e_idx | apply W.e_att | apply W.e_bi | apply W.e_isi | apply W.e_and | apply W.e_or | apply W.e_not | apply W.e_neg | apply W.e_chn | apply W.e_ite
  | apply W.e_tup | apply W.e_lst | apply W.e_lstm | apply W.e_dic | apply W.e_slc | apply W.e_calL | apply W.e_cak | apply W.e_bt | apply W.e_me | apply W.e_mu | apply W.e_cmpr | apply W.e_cmp2 | apply W.e_dcm | apply W.e_mut | apply W.e_frz
  | apply W.t_and | apply W.t_or | apply W.t_not | apply W.t_val | apply W.t_yes
  | apply W.es_cons | apply W.es_nil | apply W.as_nil | apply W.as_e
  | apply W.i_of | apply W.i_enm | apply W.i_zip | apply W.i_rng | apply W.i_rng2 | apply W.i_itm | apply W.i_itv | apply W.i_zpl | apply W.i_vls | apply W.i_vlv
  | apply W.ss_nil | apply W.sl_no | apply W.made_f | apply W.o_ins | apply W.o_nins | apply W.it_str | apply W.it_lst | apply W.it_tup | apply W.it_dic | apply W.it_enl | apply W.it_ent
  | apply W.if_tt | apply W.if_ff | apply W.if_nt | apply W.if_nf | apply W.tru_b | apply W.tru_i | apply W.tru_n | apply W.bl_in | apply W.int_in
  | apply W.o_add | apply W.o_sub | apply W.o_lt | apply W.o_le | apply W.o_gt | apply W.o_ge | apply W.o_eqi | apply W.o_nei | apply W.o_eqs | apply W.o_nes | apply W.o_eqb | apply W.o_neb | apply W.o_int_i | apply W.o_int_b)
local macro_rules | `(tactic| walk_at "w1") => `(tactic| ((with_reducible refine W.isi_an ?kk ?qq); (case kk => first | assumption | rfl)))
local macro_rules | `(tactic| walk_at "w1") => `(tactic| ((with_reducible refine W.e_var (d := ?dd) ?ee ?qq); (case ee => exact rfl)))
local macro_rules | `(tactic| walk_at "w1") => `(tactic| ((with_reducible first | refine W.isi_int (b := ?bb) ?kk ?ee ?qq | refine W.isi_inb (b := ?bb) ?kk ?ee ?qq | refine W.isi_q (b := ?bb) ?kk ?ee ?qq | refine W.isi_in (b := ?bb) ?kk ?ee ?qq); (case kk => first | assumption | rfl); (case ee => first | exact (rfl : _ = true) | exact (rfl : _ = false) | exact rfl)))
local macro_rules | `(tactic| walk_at "w") => `(tactic| repeat walk_at "w1")
namespace L
open DS.W (srt)
variable {m : Nat} {M : Sto} {Q : Po D} {E : Po Exn} {a : Addr} {r : Nat}
def hx2 : List (Str × Int) := [("x", 1), ("y", 2)]
def hx3 : List (Str × Int) := [("x", 1), ("y", 2), ("late", 1)]
theorem nd2 : (hx2.map (·.1)).Nodup := by decide +kernel
theorem nd3 : (hx3.map (·.1)).Nodup := by decide +kernel
theorem not2 : ∀ q ∈ hx2, q.1 ≠ ("late" : Str) := by decide +kernel
theorem mrg2 : mrgK [] [(kS "x", D.int 1), (kS "y", D.int 2)] = hx2.map fun q => (kS q.1, D.int q.2) := mrg_nd (kvs := hx2.map fun q : Str × Int => (kS q.1, D.int q.2)) (nd_kS (c := D.int) nd2)
theorem set2 : setK (hx2.map fun q => (kS q.1, D.int q.2)) (kS "late") (.int 1) = hx3.map fun q => (kS q.1, D.int q.2) := by
  rw [setK_new fun kv hkv => ?_]
  · rfl
  · obtain ⟨q, hq, rfl⟩ := List.mem_map.mp hkv
    exact fun z => not2 q hq (kS_inj.mp z)
theorem s33 {ns : List Str} (hm : 20 ≤ m) (hd : Dr M a r) (hr : 1000 ≤ r) (hn : Nm ns) (h : ∀ M', Q (.bl true) M') : (Phi P m).fn 33 [.d (.mref a), .d (.lst (ns.map .str)), .d (pathD ns)] M Q E := by
  refine W.fn_in (by omega) rfl rfl ?_
  show wpSs _ _ f33.body [some (.d (.mref a)), some (.d (.lst (ns.map .str))), some (.d (pathD ns)), none, none, none, none, none, none] _ _
  unfold f33
  have fw := hn.few
  have tw := hn.two
  have hrk : ∀ q ∈ rankL ns, 0 ≤ q.2 ∧ q.2 ≤ 30000000 := fun q hq => by
    unfold rankL at hq
    obtain ⟨z, hz, rfl⟩ := List.mem_map.mp hq
    have := List.snd_lt_of_mem_zipIdx hz
    show 0 ≤ (z.2 : Int) ∧ (z.2 : Int) ≤ 30000000
    omega
  walk_at "w"
  refine s24 (by omega) hn.nd (by unfold lim; omega) ?_
  walk_at "w"
  refine s29 (by omega) hd (by omega) hn (hin_of (rankL_keys ns) hn.nd hrk) fun nm kvs M1 hp _ hd1 hk1 => ?_
  walk_at "w"
  refine W.o_idxt (d := dI kvs) rfl (W.atI_nat (n := 1) rfl) ?_
  have pl := hp.len hn
  have nd := part33 hp hn
  walk_at "w"
  refine ⟨[], rfl, by decide, by simp, ?_⟩
  walk_at "w"
  refine W.walk_inv (I := fun n ρ' M' => M' = M1 ∧ ∃ c, ρ' = [some (.d (.mref a)), some (.d (.lst (ns.map .str))), some (.d (pathD ns)), some (.d (dI kvs)), c, none, none, none, none]) ⟨rfl, _, rfl⟩ (fun _ _ _ _ => trivial) ?_ ?_
  · rintro n ρ' M' x hx ⟨rfl, c, rfl⟩ K hK
    have hmem := List.mem_of_getElem? hx
    have hf : tiny x = true ∧ isTy (.cls 0) x = false := by
      simp only [List.mem_cons, List.not_mem_nil, or_false] at hmem
      rcases hmem with rfl | rfl | rfl | rfl | rfl | rfl <;> exact ⟨rfl, rfl⟩
    have vk : vw M' x = x := vw_known (known_tiny hf.1)
    refine ⟨_, rfl, ?_⟩
    walk_at "w"
    refine W.as_l rfl ?_
    walk_at "w"
    refine s28 (by omega) (.inl ⟨rfl, rfl, rfl⟩) (fun Q' E' hE => c3300 (by omega) (by rw [vk]; exact known_tiny hf.1) (by rw [vk]; exact hf.2) hE) ?_
    walk_at "w"
    refine Sm_pair (k := 4) (by omega) (Sm_tiny hf.1) _ (by omega) _ _ ?_
    walk_at "w"
    exact hK _ _ ⟨rfl, _, rfl⟩
  rintro ρ' M' ⟨rfl, c4, rfl⟩
  walk_at "w"
  refine ⟨_, rfl, isTK_dS .int kvs, ?_⟩
  rw [itemsS]
  refine W.b_list (by simp; unfold lim; omega) ?_
  walk_at "w"
  refine s24 (by omega) hn.nd (by unfold lim; omega) ?_
  walk_at "w"
  intro p5 hp5
  walk_at "w"
  refine W.o_list_d rfl ?_
  rw [keysS]
  walk_at "w"
  refine ⟨rfl, ?_⟩
  obtain ⟨⟨s0, v0⟩, kvt, hkv⟩ : ∃ q t, kvs = q :: t := by
    cases kvs with
    | nil => simp at pl; omega
    | cons q t => exact ⟨q, t, rfl⟩
  have hs0 : s0 ∈ kvs.map (·.1) := by rw [hkv]; simp
  have hodd : ∀ d ∈ [D.non, .int 5, .str "ab", .lst [], .lst (kvs.map fun q => .tup [.str q.1, .int q.2]), .bl true, dI (rankL ns)], OddS ns d := fun d hd => by
    simp only [List.mem_cons, List.not_mem_nil, or_false] at hd
    rcases hd with rfl | rfl | rfl | rfl | rfl | rfl | rfl
    · exact OddS.tiny rfl rfl
    · exact OddS.tiny rfl rfl
    · exact OddS.tiny rfl rfl
    · exact OddS.tiny rfl rfl
    · exact items_odd (by omega)
    · exact OddS.tiny rfl rfl
    · exact dI_odd hn (by rw [← List.length_map (f := (·.1)), rankL_keys]; omega) (partB_len (by rw [← List.length_map (f := (·.1)), rankL_keys]; omega))
  obtain ⟨od0, hod, hol⟩ : ∃ l, [D.non, .int 5, .str "ab", .lst [], .lst (kvs.map fun q => .tup [.str q.1, .int q.2]), .bl true, dI (rankL ns)] = l ∧ l.length = 7 := ⟨_, rfl, rfl⟩
  rw [hod] at hodd ⊢
  walk_at "w"
  refine W.walk_inv (I := fun n ρ' M' => (∃ od, M' p5 = some (.lst od) ∧ (∀ d ∈ od, OddS ns d) ∧ od.length ≤ 7 + n) ∧ n ≤ 5 ∧ ∃ c, ρ' = [some (.d (.mref a)), some (.d (.lst (ns.map .str))), some (.d (pathD ns)), some (.d (dI kvs)), c, some (.d (.mref p5)), some (.d (.lst ((kvs.map (·.1)).map .str))), none, none]) ⟨⟨od0, W.put_same, hodd, by omega⟩, by omega, _, rfl⟩ (fun _ _ _ _ => trivial) ?_ ?_
  · rintro n ρ' M2 x hx ⟨⟨od, hM, ho, hl⟩, hn5, c, rfl⟩ K hK
    have hmem := List.mem_of_getElem? hx
    have hlt := (List.getElem?_eq_some_iff.mp hx).1
    have hf : tiny x = true ∧ isNum x = false := by
      simp only [List.mem_cons, List.not_mem_nil, or_false] at hmem
      rcases hmem with rfl | rfl | rfl | rfl | rfl <;> exact ⟨rfl, rfl⟩
    refine ⟨_, rfl, ?_⟩
    walk_at "w"
    refine ⟨by rw [W.vw_mref hM]; rfl, ?_⟩
    walk_at "w"
    refine ⟨_, rfl, isTK_dS .int kvs, ?_⟩
    rw [itemsS]
    refine W.b_list (by simp; unfold lim; omega) ?_
    walk_at "w"
    refine W.o_idxl (d := .str s0) rfl (W.atI_nat (n := 0) (by rw [hkv]; rfl)) ?_
    walk_at "w"
    refine W.o_addl rfl rfl (by simp; unfold lim; omega) (by show 1 ≤ lim; decide) ?_
    walk_at "w"
    refine o_dict_updG rfl nd hs0 ?_
    walk_at "w"
    refine W.u_append hM (by unfold lim; omega) ?_
    walk_at "w"
    refine hK _ _ ⟨⟨_, W.put_same, fun d hd => ?_, by simp; omega⟩, by simp at hlt; omega, _, rfl⟩
    rcases List.mem_append.mp hd with z | z
    · exact ho d z
    · simp at z; subst z; exact bent_odd hp hn hs0 hf.1 hf.2
  rintro ρ' M2 ⟨⟨od, hM, ho, hl⟩, _, c, rfl⟩
  walk_at "w"
  refine ⟨by rw [W.vw_mref hM]; rfl, ?_⟩
  walk_at "w"
  refine ⟨_, rfl, isTK_dS .int kvs, ?_⟩
  rw [itemsS]
  refine W.b_list (by simp; unfold lim; omega) ?_
  walk_at "w"
  refine W.sl_at (by omega) (by omega) ?_
  walk_at "w"
  refine W.o_slc_drop (k := 1) rfl (by omega) ?_
  rw [← List.map_drop]
  have hd1 : kvs.drop 1 = kvt := by rw [hkv]; rfl
  rw [hd1]
  have ndt : (kvt.map (·.1)).Nodup := by
    rw [hkv, List.map_cons, List.nodup_cons] at nd
    exact nd.2
  have klt : kvt.length + 1 = kvs.length := by rw [hkv]; rfl
  walk_at "w"
  refine W.o_dict_S (c := .int) rfl ndt ?_
  walk_at "w"
  refine ⟨_, rfl, isTK_dS .int kvs, ?_⟩
  rw [itemsS]
  refine W.b_list (by simp; unfold lim; omega) ?_
  walk_at "w"
  refine W.sl_at (by omega) (by omega) ?_
  walk_at "w"
  refine W.o_slc_drop (k := 1) rfl (by omega) ?_
  rw [← List.map_drop, hd1]
  refine W.o_addl rfl rfl (by show 1 ≤ lim; decide) (by simp; unfold lim; omega) ?_
  walk_at "w"
  have nob : ("nobody" : Str) ∉ kvt.map (·.1) := fun z => by
    obtain ⟨q, hq, e⟩ := List.mem_map.mp z
    have := hp.in_pool hn (q := q) (by rw [hkv]; exact List.mem_cons_of_mem _ hq)
    rw [e] at this
    exact nobody_not this
  refine W.o_dict_S (c := .int) (kvs := ("nobody", 0) :: kvt) rfl (by rw [List.map_cons, List.nodup_cons]; exact ⟨nob, ndt⟩) ?_
  walk_at "w"
  refine W.u_extend hM rfl (by intro z; cases z) (by unfold lim; omega) (by show 2 ≤ lim; decide) ?_
  have ho2 : ∀ d ∈ od ++ [dI kvt, dI (("nobody", 0) :: kvt)], OddS ns d := fun d hd => by
    rcases List.mem_append.mp hd with z | z
    · exact ho d z
    · simp only [List.mem_cons, List.not_mem_nil, or_false] at z
      rcases z with rfl | rfl
      · exact dI_odd hn (by omega) (partB_len (by omega))
      · exact dI_odd hn (by simp; omega) (nobody_part (by rw [← hkv]; exact hp) hn)
  walk_at "w"
  refine W.it_lstv (W.vw_mref W.put_same) ?_
  refine W.walk_inv (I := fun n ρ' M' => M' = M2.put p5 (.lst (od ++ [dI kvt, dI (("nobody", 0) :: kvt)])) ∧ ∃ c, ρ' = [some (.d (.mref a)), some (.d (.lst (ns.map .str))), some (.d (pathD ns)), some (.d (dI kvs)), c, some (.d (.mref p5)), some (.d (.lst ((kvs.map (·.1)).map .str))), none, none]) ⟨rfl, _, rfl⟩ (fun n ρ' M' i => by rw [i.1]; exact W.same_in) ?_ ?_
  · rintro n ρ' M3 x hx ⟨rfl, c, rfl⟩ K hK
    obtain ⟨o1, o2, o3⟩ := ho2 x (List.mem_of_getElem? hx) (M2.put p5 (.lst (od ++ [dI kvt, dI (("nobody", 0) :: kvt)])))
    refine ⟨_, rfl, ?_⟩
    walk_at "w"
    refine W.as_l rfl ?_
    walk_at "w"
    refine s28 (by omega) (.inr (.inl ⟨rfl, rfl, rfl⟩)) (fun Q' E' hE => c3301 (by omega) o1 hE) ?_
    walk_at "w"
    refine Sm_pair (k := 10) (by omega) o2 _ (by omega) _ _ ?_
    walk_at "w"
    exact hK _ _ ⟨rfl, _, rfl⟩
  rintro ρ' M3 ⟨hM3, c, rfl⟩
  clear hM3 ho2
  walk_at "w"
  refine ⟨[], rfl, by decide, by simp, ?_⟩
  walk_at "w"
  refine W.walk_inv (I := fun n ρ' M' => M' = M3 ∧ ∃ c, ρ' = [some (.d (.mref a)), some (.d (.lst (ns.map .str))), some (.d (pathD ns)), some (.d (dI kvs)), c, some (.d (.mref p5)), some (.d (.lst ((kvs.map (·.1)).map .str))), none, none]) ⟨rfl, _, rfl⟩ (fun n ρ' M' i => trivial) ?_ ?_
  · rintro n ρ' M' x hx ⟨rfl, c, rfl⟩ K hK
    have hmem := List.mem_of_getElem? hx
    have hf : tiny x = true ∧ isPos x = false := by
      simp only [List.mem_cons, List.not_mem_nil, or_false] at hmem
      rcases hmem with rfl | rfl | rfl | rfl | rfl | rfl | rfl <;> exact ⟨rfl, rfl⟩
    have vk : vw M' x = x := vw_known (known_tiny hf.1)
    refine ⟨_, rfl, ?_⟩
    walk_at "w"
    refine W.as_l rfl ?_
    walk_at "w"
    refine s28 (by omega) (.inr (.inr ⟨rfl, rfl, rfl⟩)) (fun Q' E' hE => c3302 (by omega) hn.few (hp.ok hn) (by rw [vk]; exact known_tiny hf.1) (by rw [vk]; exact hf.2) hE) ?_
    walk_at "w"
    refine Sm_pair (k := 4) (by omega) (Sm_tiny hf.1) _ (by omega) _ _ ?_
    walk_at "w"
    exact hK _ _ ⟨rfl, _, rfl⟩
  rintro ρ' M' ⟨rfl, c5, rfl⟩
  walk_at "w"
  intro q0 hq0
  walk_at "w"
  refine ⟨_, rfl, by decide, by intro kv h; simp only [List.mem_cons, List.not_mem_nil, or_false] at h; rcases h with rfl | rfl <;> rfl, ?_⟩
  show made true (.dic (mrgK [] [(kS "x", D.int 1), (kS "y", D.int 2)])) _ _
  rw [mrg2]
  refine W.made_d fun q1 hq1 => ?_
  walk_at "w"
  refine W.as_l rfl ?_
  walk_at "w"
  have n01 : q0 ≠ q1 := W.ne_new W.put_same hq1
  have v0 : ∀ o, vw ((M'.put q0 (.lst [.str "x"])).put q1 o) (.mref q0) = .lst [.str "x"] := fun o => by
    have w : ((M'.put q0 (.lst [.str "x"])).put q1 o) q0 = some (.lst [.str "x"]) := by rw [W.put_ne n01]; exact W.put_same
    rw [W.vw_mref w]; rfl
  refine s28 (by omega) (.inr (.inr ⟨rfl, rfl, rfl⟩)) (fun Q' E' hE => c3303 (by omega) hn.few (hp.ok hn) (by rw [v0]; rfl) (by rw [v0]; rfl) hE) ?_
  walk_at "w"
  intro p8 hp8
  have n81 : q1 ≠ p8 := W.ne_new W.put_same hp8
  have n80 : q0 ≠ p8 := W.ne_new (by rw [W.put_ne n01]; exact W.put_same) hp8
  walk_at "w"
  refine ⟨by rw [W.vw_mref W.put_same]; rfl, ?_⟩
  walk_at "w"
  refine W.as_l rfl ?_
  walk_at "w"
  have v1 : ∀ o', vw (((M'.put q0 (.lst [.str "x"])).put q1 (.dic (hx2.map fun q => (kS q.1, D.int q.2)))).put p8 o') (.mref q1) = dI hx2 := fun o' => by
    have w : (((M'.put q0 (.lst [.str "x"])).put q1 (.dic (hx2.map fun q => (kS q.1, D.int q.2)))).put p8 o') q1 = some (.dic (hx2.map fun q => (kS q.1, D.int q.2))) := by rw [W.put_ne n81]; exact W.put_same
    rw [W.vw_mref w]; rfl
  refine s28 (by omega) (.inr (.inl ⟨rfl, rfl, rfl⟩)) (fun Q' E' hE => c3304 (by omega) (Odd.dic (c := .int) (kvs := hx2) (v1 _) (fun _ _ => rfl) hn.few (held_part hn)) hE) ?_
  walk_at "w"
  refine W.u_append W.put_same (by show 1 < lim; decide) ?_
  walk_at "w"
  refine W.o_idxl (d := .mref q0) rfl (W.atI_nat (n := 0) rfl) ?_
  have m0 : ∀ o o' o'', ((((M'.put q0 (.lst [.str "x"])).put q1 o).put p8 o').put p8 o'') q0 = some (.lst [.str "x"]) := fun o o' o'' => by rw [W.put_ne n80, W.put_ne n80, W.put_ne n01]; exact W.put_same
  refine ⟨by rw [W.vw_mref (m0 _ _ _)]; rfl, ?_⟩
  walk_at "w"
  refine W.u_append (m0 _ _ _) (by show 1 < lim; decide) ?_
  walk_at "w"
  refine W.o_idxl (d := .mref q1) rfl (W.atI_nat (n := 1) rfl) ?_
  walk_at "w"
  refine W.u_set_d (k := kS "late") (kvs := hx2.map fun q => (kS q.1, D.int q.2)) (by rw [W.put_ne (Ne.symm n01), W.put_ne n81, W.put_ne n81, W.put_same]) rfl (isTK_dS .int _) (by show 2 < lim; decide) ?_
  rw [set2]
  walk_at "w"
  refine W.o_dict_S (c := .int) (kvs := hx3) rfl nd3 ?_
  walk_at "w"
  generalize hMF : ((((((M'.put q0 (.lst [.str "x"])).put q1 (.dic (hx2.map fun q => (kS q.1, D.int q.2)))).put p8 (.lst [.lst [.str "most", .mref q0]])).put p8 (.lst ([.lst [.str "most", .mref q0]] ++ [.lst [.str "part", .mref q1]]))).put q0 (.lst ([.str "x"] ++ [.str "late"]))).put q1 (.dic (hx3.map fun q => (kS q.1, D.int q.2)))) = MF
  have f8 : vw MF (.mref p8) = .lst [.lst [.str "most", .mref q0], .lst [.str "part", .mref q1]] := by
    have w : MF p8 = some (.lst [.lst [.str "most", .mref q0], .lst [.str "part", .mref q1]]) := by
      rw [← hMF, W.put_ne (Ne.symm n81), W.put_ne (Ne.symm n80)]; exact W.put_same
    rw [W.vw_mref w]; rfl
  have f0 : vw MF (.mref q0) = .lst [.str "x", .str "late"] := by
    have w : MF q0 = some (.lst [.str "x", .str "late"]) := by
      rw [← hMF, W.put_ne n01]; exact W.put_same
    rw [W.vw_mref w]; rfl
  have f1 : vw MF (.mref q1) = dI hx3 := by
    have w : MF q1 = some (.dic (hx3.map fun q => (kS q.1, D.int q.2))) := by
      rw [← hMF]; exact W.put_same
    rw [W.vw_mref w]; rfl
  have g0 : Sm 4 MF (.mref q0) (.lst [.str "x", .str "late"]) := (Sm_lst (k := 1) f0 rfl rfl (by show 2 ≤ lim; decide) fun p hp => by
    have hp : p ∈ [(D.str "x", D.str "x"), (D.str "late", D.str "late")] := hp
    simp only [List.mem_cons, List.not_mem_nil, or_false] at hp
    rcases hp with rfl | rfl <;> exact Sm_str).mono (by omega)
  have g1 : Sm 4 MF (.mref q1) (dI hx3) := Sm_dic (c := .int) (kvs := hx3) f1 rfl (by decide) (Nat.le_refl 1) fun _ _ => Sm_int
  refine Sm_lst (ys := [.lst [.str "most", .lst [.str "x", .str "late"]], .lst [.str "part", dI hx3]]) (k := 5) f8 rfl rfl (by show 2 ≤ lim; decide) (fun p hp => ?_) _ (by omega) _ _ (h MF)
  have hp : p ∈ [(D.lst [.str "most", .mref q0], D.lst [.str "most", .lst [.str "x", .str "late"]]), (D.lst [.str "part", .mref q1], D.lst [.str "part", dI hx3])] := hp
  simp only [List.mem_cons, List.not_mem_nil, or_false] at hp
  rcases hp with rfl | rfl
  · exact Sm_pair (by omega) g0
  · exact Sm_pair (by omega) g1
end L
end
section
set_option Elab.async false
set_option linter.all false
set_option maxRecDepth 100000
set_option maxHeartbeats 1000000
open PySem DS
local macro_rules | `(tactic| walk_at "w1") => `(tactic| with_reducible first
  | apply W.ss_cons | apply W.st_asg | apply W.st_ret | apply W.st_iff | apply W.st_exp | apply W.st_for | apply W.st_set | apply W.st_fld | apply W.st_pas | apply W.st_met | apply W.st_par | apply W.st_tup
  | apply W.e_int | apply W.e_str | apply W.e_bl | apply W.e_non | apply W.e_gstr | apply W.e_gint | apply W.e_fnv
  | apply W.e_cal | apply W.e_bin | apply W.e_cmp | apply W.e_idx | apply W.e_att | apply W.e_bi | apply W.e_isi | apply W.e_and | apply W.e_or | apply W.e_not | apply W.e_neg | apply W.e_chn | apply W.e_ite
  | apply W.e_tup | apply W.e_lst | apply W.e_lstm | apply W.e_dic | apply W.e_slc | apply W.e_calL | apply W.e_cak | apply W.e_bt | apply W.e_me | apply W.e_mu | apply W.e_cmpr | apply W.e_cmp2 | apply W.e_dcm | apply W.e_mut | apply W.e_frz
  | apply W.t_and | apply W.t_or | apply W.t_not | apply W.t_val | apply W.t_yes
  | apply W.es_cons | apply W.es_nil | apply W.as_nil | apply W.as_e
  | apply W.i_of | apply W.i_enm | apply W.i_zip | apply W.i_rng | apply W.i_rng2 | apply W.i_itm | apply W.i_itv | apply W.i_zpl | apply W.i_vls | apply W.i_vlv
  | apply W.ss_nil | apply W.sl_no | apply W.made_f | apply W.o_ins | apply W.o_nins | apply W.it_str | apply W.it_lst | apply W.it_tup | apply W.it_dic | apply W.it_enl | apply W.it_ent
  | apply W.if_tt | apply W.if_ff | apply W.if_nt | apply W.if_nf | apply W.tru_b | apply W.tru_i | apply W.tru_n | apply W.bl_in | apply W.int_in
  | apply W.o_add | apply W.o_sub | apply W.o_lt | apply W.o_le | apply W.o_gt | apply W.o_ge | apply W.o_eqi | apply W.o_nei | apply W.o_eqs | apply W.o_nes | apply W.o_eqb | apply W.o_neb | apply W.o_int_i | apply W.o_int_b)
local macro_rules | `(tactic| walk_at "w1") => `(tactic| ((with_reducible refine W.isi_an ?kk ?qq); (case kk => first | assumption | rfl)))
local macro_rules | `(tactic| walk_at "w1") => `(tactic| ((with_reducible refine W.e_var (d := ?dd) ?ee ?qq); (case ee => exact rfl)))
local macro_rules | `(tactic| walk_at "w1") => `(tactic| ((with_reducible first | refine W.isi_int (b := ?bb) ?kk ?ee ?qq | refine W.isi_inb (b := ?bb) ?kk ?ee ?qq | refine W.isi_q (b := ?bb) ?kk ?ee ?qq | refine W.isi_in (b := ?bb) ?kk ?ee ?qq); (case kk => first | assumption | rfl); (case ee => first | exact (rfl : _ = true) | exact (rfl : _ = false) | exact rfl)))
local macro_rules | `(tactic| walk_at "w") => `(tactic| repeat walk_at "w1")
namespace L
open DS.W (srt)
variable {m : Nat} {M : Sto} {Q : Po D} {E : Po Exn} {a : Addr} {r : Nat}
theorem s34 {zs : List Int} (hm : 30 ≤ m) (hz : zs.length ≤ 1000) (h : ∀ M', Q (.bl true) M') : (Phi P m).fn 34 [.d (.lst (zs.map .int))] M Q E := by
  refine W.fn_in (by omega) rfl rfl ?_
  show wpSs _ _ f34.body [some (.d (.lst (zs.map .int))), none, none, none] _ _
  unfold f34
  walk_at "w"
  refine W.o_len_l rfl ?_
  walk_at "w"
  have hif : ∀ b : Bool, (0 : Int) ≤ (if b = true then 1 else 0) ∧ (if b = true then (1 : Int) else 0) ≤ 1 := fun b => by cases b <;> decide
  have hi := hif (decide ((2 : Int) < ((zs.map D.int).length : Int)))
  refine it_rng0 (by omega) (by omega) ?_
  refine W.walk_inv (I := fun n ρ' M' => ∃ c d e, ρ' = [some (.d (.lst (zs.map .int))), c, d, e]) ⟨_, _, _, rfl⟩ (fun _ _ _ _ => trivial) ?_ ?_
  · rintro n ρ' M' x hx ⟨c, d, e, rfl⟩ K hK
    rw [List.getElem?_map] at hx
    obtain ⟨i, hil, rfl⟩ := Option.map_eq_some_iff.mp hx
    have hlt := (List.getElem?_eq_some_iff.mp hil).1
    have he := (List.getElem?_eq_some_iff.mp hil).2
    rw [List.length_range] at hlt
    simp at he
    subst he
    refine ⟨_, rfl, ?_⟩
    walk_at "w"
    refine s15 (by omega) hz (by omega) (by omega) fun p M1 _ hd1 _ => ?_
    walk_at "w"
    refine s22 (by omega) hd1 (by omega) fun ns M2 hn hl hd2 hk2 => ?_
    walk_at "w"
    refine s31 (by omega) hd2 (by omega) fun M3 hd3 => ?_
    walk_at "w"
    refine s32 (by omega) hd3 (by omega) fun M4 hd4 => ?_
    walk_at "w"
    refine s23 (by omega) hd4 (by omega) hn (.inl rfl) fun M5 hd5 hk5 => ?_
    walk_at "w"
    refine s33 (by omega) hd5 (by omega) hn fun M6 => ?_
    walk_at "w"
    exact hK _ _ ⟨_, _, _, rfl⟩
  · rintro ρ' M' ⟨c, d, e, rfl⟩
    walk_at "w"
    exact h M'
theorem math : ∀ ns : List Int, ns.length ≤ 63 → (∀ z ∈ ns, Builtin.Int.intBits z ≤ 1048576) → (Phi dat.P (60 + 1)).fn 34 [.d (.lst (ns.map .int))] (fun _ => none) (fun r _ => r = .bl true) noEx := fun ns h _ => s34 (by omega) (by omega) fun _ => rfl
end L
end
section
set_option maxHeartbeats 4000000
open PySem PySem.Spec PyProof.Rows L2 LamX DS
namespace L
abbrev R : PySem.W.OpenRow := PySem.W.OpenLaw.row PySem.Challenge.rw_ringwalkers_k40_whole_one_lacking
def nm0 : List PySem.Str := ["_wall", "__name__", "LETTERS", "FIGURES", "is_list", "is_whole", "is_number", "is_positive", "is_name", "WalkError", "BadWalkers", "BadPath", "BadMost", "BadNoted", "BadPart", "Path", "check_path", "is_dict_of", "check_most", "check_noted", "fault_of", "noted_fault", "is_part", "most_lacking", "_law_source", "_law_draw", "_law_pick", "_law_mixed", "_law_same", "_law_loose"]
def nm1 : List PySem.Str := ["_law_names", "_law_any_names", "_law_made", "_law_first", "_law_in_turns", "_law_fault", "_law_right_list", "_law_met", "_law_part", "_law_with", "_law_small_right", "_law_great_right", "_law_refused_right"]
def names : List PySem.Str := nm0 ++ nm1
abbrev hk : PySem.W.Hook := hookY 6 dat.fa (dat.dfs.map (·.d)) dat.tf (dat.ex prog)
def ob (s : PySem.W.SharedT) : He.AlX := lookY 6 dat.fa (dat.dfs.map (·.d)) dat.tf (dat.ex prog) (HandSHeadRun.getT s)
theorem ob_eq (s : PySem.W.SharedT) : ob s = hk.obs s.abs := lookY_eq (HandSHeadRun.getT_eq s)
set_option maxHeartbeats 0 in
theorem run (w : World) : HandSHeadRun.RunEq R (PySem.W.view R.prog [48]) hk ob 20000 names w := by
  intro os
  kernel_rfl
theorem seen : dat.okB = true := by decide +kernel
theorem all_chk : chkAll = true := by decide +kernel
theorem fis_one : ∀ f ∈ dat.dfs, ∀ fi, dat.fis.lookup f.i = some fi → defB dat.T fi f = true := fis_of all_chk
theorem kws_one : kwsDat dat = true := by decide +kernel
end L
open PySem PySem.W PySem.Calls PyProof.Rows
set_option maxHeartbeats 0 in
theorem PySem.Challenge.cw_ringwalkers_k40_whole_one_lacking_holds : PySem.Challenge.rw_ringwalkers_k40_whole_one_lacking.Holds := by
  w_on; o_law
  refine HandSHeadRun.head_any (r := OpenLaw.row PySem.Challenge.rw_ringwalkers_k40_whole_one_lacking) (q := view (OpenLaw.row PySem.Challenge.rw_ringwalkers_k40_whole_one_lacking).prog [48]) (H := L.hk) (ob := L.ob) (M := 20000) (loose := L.names) (d := HandSHeadRun.topDef (OpenLaw.row PySem.Challenge.rw_ringwalkers_k40_whole_one_lacking).prog 48) (kwd := []) L.ob_eq
    (by kernel_rfl) (fun s => by kernel_rfl) L.run (by kernel_rfl) (by kernel_rfl) (by kernel_rfl) (by rfl) (by first | assumption | decide +kernel) (by decide +kernel) ⟨rfl, rfl, rfl, rfl, rfl, by decide +kernel⟩ ?hw ?hc
  case hw => w_witness2
  case hc =>
    refine DS.walk_D (l := PySem.Challenge.rw_ringwalkers_k40_whole_one_lacking) (n := 63) (k := DS.lev 61) (x := "_law_script") rfl (by decide) (by kernel_rfl) ⟨rfl, by decide, by decide⟩ rfl ?F
    intro w mg fa h Y G hmg0
    obtain ⟨K, KX, c⟩ := Y
    have hmg : mg ("law" : PySem.Str) = some (.ref fa) := by
      have e : (HandSHeadRun.topDef (OpenLaw.row PySem.Challenge.rw_ringwalkers_k40_whole_one_lacking).prog 48).name = ("law" : PySem.Str) := by kernel_rfl
      rw [← e]; exact hmg0
    have D : ∀ f ∈ L.dat.dfs, ∃ fd, L2.FunD K f.d.name f.d.qual f.d.params f.d.body f.d.scope (f.d.dvs K) (f.d.kws K) ((L.dat.G K).fa f.i) fd := fun f hf => by
      rw [DS.Dat.fa_at L.seen hf]
      exact c.t.d.defs (List.mem_map.mpr ⟨f, hf, rfl⟩)
    exact ⟨K, KX, DS.law_D (d := L.dat) (li := 34) (n := 60) (nm := "law") L.seen KX G hmg c L.fis_one (DS.kws_of L.kws_one D) ⟨L.d34, List.mem_of_getElem? (i := 33) rfl, rfl, rfl, rfl⟩ L.math⟩
end
