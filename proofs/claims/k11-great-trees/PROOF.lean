import PyProof.Rows.All
import HandS.ForMost
import KE.SortData
import KE.KeyNested
import HandS.Star
import HandS.Wide
import HandS.Style
import HandS.TupAny
import KE.KDictKeyed
import PyProof.ReprReads
import KE.LtData
import PyProof.NeData
import HandS.Iter
import HandS.Conv
import HandS.SortKw
import KE.KDictDisplayH
import HandS.Words
import HandS.Ends
import PyProof.ReprLen
import PyProof.FitsInt
import PySem.Challenge.RW_ruledtrees_k11_counts_of_great_trees
set_option autoImplicit false
set_option Elab.async false
set_option linter.all false
section
set_option autoImplicit false
/-! Ev0: data, cells, a small syntax, its evaluator -/
namespace Ev
open PySem

/-- a value: tuples are data, lists and dicts stand in the store -/
inductive D where
  | non | bl (b : Bool) | int (i : Int) | str (x : Str) | tup (ds : List D) | ref (i : Nat)
  /-- a list of ints that is only read (the script) -/
  | scr (is : List Int)
deriving Inhabited

/-- a cell of the store -/
inductive C where
  | lst (ds : List D)
  | dct (kvs : List (D × D))
  /-- a dict while a loop goes over it: read, not written -/
  | lck (kvs : List (D × D))
deriving Inhabited
/-- a dict to be read -/
def C.kvs : C → Option (List (D × D))
  | .lst _ => none
  | .dct kvs => some kvs
  | .lck kvs => some kvs
abbrev Sto := List C
abbrev Env := List (Option D)

/-- built-ins by name -/
inductive B where
  | len | int | abs | tuple | list | sorted | sum | all | any | max | min | repr | str | dict | range | zip | enumerate | items | values
deriving DecidableEq, Repr
/-- methods of lists and dicts -/
inductive Mt where
  | append | extend | pop | get | index
deriving DecidableEq, Repr

inductive T where
  | nm (i : Nat) | tp (ts : List T)

mutual
inductive E where
  | var (i : Nat)
  | lit (d : D)
  | gl (x : Str)
  | tup (es : List E)
  | lst (es : List E)
  | star (e : E)
  | dct (kvs : List E)
  | bin (op : Operator) (a b : E)
  | neg (a : E)
  | not (a : E)
  | cmp (op : CmpOp) (a b : E)
  | cmp2 (op op' : CmpOp) (a b c : E)
  | and (a b : E)
  | or (a b : E)
  | ite (c a b : E)
  | idx (a i : E)
  | slc (a : E) (lo hi : Option E)
  | rev (a : E)
  | call (f : Str) (es : List E)
  | bif (f : B) (es : List E)
  | bifI (f : B) (it : It)
  | mth (m : Mt) (o : E) (es : List E)
  | isi (e : E) (ty : List String)
  | comp (own : List Nat) (t : T) (it : It) (elt : E) (c : Option E)
inductive It where
  | seq (e : E)
  | range1 (a : E)
  | range2 (a b : E)
  | items (a : E)
  | zip (a b : E)
  | enum (a : E)
end
instance : Inhabited E := ⟨.lit .non⟩
def E.isStar : E → Bool
  | .star _ => true
  | _ => false

inductive S where
  | asg (t : T) (e : E)
  | seti (o i v : E)
  | ex (e : E)
  | ret (e : Option E)
  | ite (c : E) (a b : List S)
  | whl (c : E) (b : List S)
  | for (t : T) (it : It) (b : List S)
  | brk | cnt | pass | stuck
deriving Inhabited

structure Fd where
  params : Nat
  slots : Nat
  body : List S

end Ev
end

section
set_option autoImplicit false
namespace Ev
open PySem

def L : Nat := 16777216

/-! equality of values as terms -/
mutual
def D.same : D → D → Bool
  | .non, .non => true
  | .bl a, .bl b => a == b
  | .int a, .int b => a == b
  | .str a, .str b => decide (a = b)
  | .tup a, .tup b => D.sames a b
  | .ref a, .ref b => a == b
  | .scr a, .scr b => decide (a = b)
  | _, _ => false
def D.sames : List D → List D → Bool
  | [], [] => true
  | a :: as, b :: bs => a.same b && D.sames as bs
  | _, _ => false
end
mutual
theorem D.same_iff : ∀ a b : D, a.same b = true ↔ a = b
  | .non, b => by cases b <;> simp [D.same]
  | .bl a, b => by cases b <;> simp [D.same]
  | .int a, b => by cases b <;> simp [D.same]
  | .str a, b => by cases b <;> simp [D.same]
  | .tup a, b => by
    cases b <;> simp only [D.same, reduceCtorEq, Bool.false_eq_true, D.tup.injEq]
    exact D.sames_iff a _
  | .ref a, b => by cases b <;> simp [D.same]
  | .scr a, b => by cases b <;> simp [D.same]
theorem D.sames_iff : ∀ a b : List D, D.sames a b = true ↔ a = b
  | [], b => by cases b <;> simp [D.sames]
  | a :: as, b => by
    cases b with
    | nil => simp [D.sames]
    | cons b bs => simp [D.sames, D.same_iff a b, D.sames_iff as bs]
end
instance : DecidableEq D := fun a b => if h : a.same b = true then isTrue ((D.same_iff a b).1 h) else isFalse fun e => h ((D.same_iff a b).2 e)
instance : DecidableEq C := fun a b => match a, b with
  | .lst x, .lst y => if h : x = y then isTrue (by rw [h]) else isFalse fun e => h (C.lst.inj e)
  | .dct x, .dct y => if h : x = y then isTrue (by rw [h]) else isFalse fun e => h (C.dct.inj e)
  | .lck x, .lck y => if h : x = y then isTrue (by rw [h]) else isFalse fun e => h (C.lck.inj e)
  | .lst _, .dct _ => isFalse nofun
  | .lst _, .lck _ => isFalse nofun
  | .dct _, .lst _ => isFalse nofun
  | .dct _, .lck _ => isFalse nofun
  | .lck _, .lst _ => isFalse nofun
  | .lck _, .dct _ => isFalse nofun

mutual
/-- no reference within -/
def D.pure : D → Bool
  | .ref _ => false
  | .tup ds => D.pures ds
  | _ => true
def D.pures : List D → Bool
  | [] => true
  | d :: ds => d.pure && D.pures ds
end
mutual
def D.shift (n : Nat) : D → D
  | .ref i => .ref (n + i)
  | .tup ds => .tup (D.shifts n ds)
  | .non => .non | .bl b => .bl b | .int i => .int i | .str x => .str x | .scr is => .scr is
def D.shifts (n : Nat) : List D → List D
  | [] => []
  | d :: ds => d.shift n :: D.shifts n ds
end
def C.shift (n : Nat) : C → C
  | .lst ds => .lst (ds.map (D.shift n))
  | .dct kvs => .dct (kvs.map fun kv => (kv.1.shift n, kv.2.shift n))
  | .lck kvs => .lck (kvs.map fun kv => (kv.1.shift n, kv.2.shift n))

/-! as data -/
mutual
def D.dataW (r : Nat → Option PyData) : D → Option PyData
  | .non => some .none
  | .bl b => some (.bool b)
  | .int i => some (.int i)
  | .str x => some (.str x)
  | .tup ds => (D.dataWs r ds).map .tuple
  | .ref i => r i
  | .scr _ => none
def D.dataWs (r : Nat → Option PyData) : List D → Option (List PyData)
  | [] => some []
  | d :: ds => (d.dataW r).bind fun x => (D.dataWs r ds).map fun xs => x :: xs
end
def refData (s : Sto) : Nat → Nat → Option PyData
  | 0, _ => none
  | n + 1, i => match s[i]? with
    | some (.lst ds) => (D.dataWs (refData s n) ds).map .list
    | some c => c.kvs.bind fun kvs => if kvs.isEmpty then some (.dict []) else none
    | none => none
def D.data (s : Sto) (d : D) : Option PyData := d.dataW (refData s 40)
def dataAll (s : Sto) (ds : List D) : Option (List PyData) := D.dataWs (refData s 40) ds

def deepMost : Nat := 100
/-- two lists of unlike lengths -/
def farL (s : Sto) (a b : D) : Bool := match a, b with
  | .ref i, .ref j => match s[i]?, s[j]? with
    | some (.lst x), some (.lst y) => !(x.length == y.length)
    | _, _ => false
  | _, _ => false
/-- a == b -/
def twoStr : D → D → Option (Str × Str)
  | .str x, .str y => some (x, y)
  | _, _ => none
def eqD (s : Sto) (a b : D) : Option Bool :=
  match twoStr a b with
  | some (x, y) => some (decide (x = y))
  | none =>
  if farL s a b then some false else
  (a.data s).bind fun x => (b.data s).bind fun y => if x.canLay0 && y.canLay0 && decide (min x.depth y.depth ≤ deepMost) then some (x.eqv y) else none
def notNone : PyData → Bool
  | .none => false
  | _ => true
/-- a < b -/
def ltD (s : Sto) (a b : D) : Option Bool :=
  (a.data s).bind fun x => (b.data s).bind fun y => if PySem.W.alike x y && notNone x && decide (min x.depth y.depth ≤ deepMost) then some (PySem.W.dataLt x y) else none
def reprD (s : Sto) (d : D) : Option Str :=
  (d.data s).bind fun x => if x.showable && !x.hasDict && decide (x.depth ≤ deepMost) && decide (x.shown.length ≤ L) then some x.shown else none
/-- sorted -/
def sortD (s : Sto) (ds : List D) : Option (List D) :=
  (dataAll s ds).bind fun xs => if xs.all (fun x => xs.all fun y => PySem.W.alike x y) && xs.all notNone && xs.all (fun x => decide (x.depth ≤ deepMost)) then
    some (((ds.zip xs).mergeSort fun p q => !PySem.W.dataLt q.2 p.2).map (·.1)) else none

/-! dicts: keys are ints and texts, or tuples of such -/
def atomK : D → Bool
  | .int _ => true
  | .str _ => true
  | _ => false
mutual
/-- a value as a key -/
def D.nk : D → Option NestedKey
  | .non => some .none
  | .int i => some (.num i)
  | .str x => some (.text x)
  | .tup ds => (D.nks ds).map .tup
  | .bl _ => none
  | .ref _ => none
  | .scr _ => none
def D.nks : List D → Option (List NestedKey)
  | [] => some []
  | d :: ds => (D.nk d).bind fun k => (D.nks ds).map fun ks => k :: ks
end
def tupK : D → Bool
  | .tup ds => match D.nks ds with
    | some ks => decide ((NestedKey.tup ks).depth ≤ 8)
    | none => false
  | _ => false
/-- the key fits the dict -/
def keyFits (kvs : List (D × D)) (k : D) : Bool := (atomK k && kvs.all fun kv => atomK kv.1) || (tupK k && kvs.all fun kv => tupK kv.1)
def dget (kvs : List (D × D)) (k : D) : Option D := (kvs.find? fun kv => decide (kv.1 = k)).map (·.2)
def dput (kvs : List (D × D)) (k v : D) : List (D × D) :=
  if (kvs.any fun kv => decide (kv.1 = k)) = true then kvs.map (fun kv => if kv.1 = k then (kv.1, v) else kv) else kvs ++ [(k, v)]

/-! operators -/
def mulOk (i j : Int) : Bool := decide (i.natAbs.log2 + j.natAbs.log2 < 1000000) || decide (i.natAbs < 2 ^ 64) || decide (j.natAbs < 2 ^ 64)
def divOk (j : Int) : Bool := decide (j ≠ 0) && decide (j.natAbs.log2 < 9000)
def newL (s : Sto) (ds : List D) : Option (D × Sto) := if ds.length ≤ L then some (.ref s.length, s ++ [.lst ds]) else none
def newT (s : Sto) (ds : List D) : Option (D × Sto) := if ds.length ≤ L then some (.tup ds, s) else none

def binD (op : Operator) (x y : D) (s : Sto) : Option (D × Sto) :=
  match op, x, y with
  | .Add, .int i, .int j => some (.int (i + j), s)
  | .Sub, .int i, .int j => some (.int (i - j), s)
  | .Mult, .int i, .int j => if mulOk i j then some (.int (i * j), s) else none
  | .FloorDiv, .int i, .int j => if divOk j then some (.int (i.fdiv j), s) else none
  | .Mod, .int i, .int j => if divOk j then some (.int (i.fmod j), s) else none
  | .Add, .tup a, .tup b => newT s (a ++ b)
  | .Add, .str a, .str b => if (a ++ b).length ≤ L then some (.str (a ++ b), s) else none
  | .Add, .ref i, .ref j => match s[i]?, s[j]? with
    | some (.lst a), some (.lst b) => newL s (a ++ b)
    | _, _ => none
  | _, _, _ => none

def cmpI (op : CmpOp) (i j : Int) : Option Bool :=
  match op with
  | .Lt => some (decide (i < j))
  | .LtE => some (decide (i ≤ j))
  | .Gt => some (decide (j < i))
  | .GtE => some (decide (j ≤ i))
  | .Eq => some (decide (i = j))
  | .NotEq => some (!decide (i = j))
  | _ => none
def inSeq (s : Sto) (x : D) (ds : List D) : Option Bool :=
  (dataAll s ds).bind fun ys => (x.data s).bind fun dx => if dx.canLay0 && ys.all (fun y => y.canLay0 && decide (min y.depth dx.depth ≤ deepMost)) then some (ys.any fun y => y.eqv dx) else none
def inD (s : Sto) (x y : D) : Option Bool :=
  match y with
  | .tup ds => inSeq s x ds
  | .ref i => match s[i]? with
    | some (.lst ds) => inSeq s x ds
    | some c => c.kvs.bind fun kvs => if keyFits kvs x then some (dget kvs x).isSome else none
    | none => none
  | _ => none
def cmpD (op : CmpOp) (x y : D) (s : Sto) : Option Bool :=
  match op with
  | .Eq => eqD s x y
  | .NotEq => (eqD s x y).map (!·)
  | .Is => match y with
    | .non => some (decide (x = .non))
    | _ => none
  | .IsNot => match y with
    | .non => some (!decide (x = .non))
    | _ => none
  | .In => inD s x y
  | .NotIn => (inD s x y).map (!·)
  | op => match x, y with
    | .int i, .int j => cmpI op i j
    | .tup _, .tup _ => match op with
      | .Lt => ltD s x y
      | _ => none
    | _, _ => none

def ixD (n : Nat) (i : Int) : Option Nat := L2.ixN n i
def atD (ds : List D) (i : Int) : Option D := L2.atI ds i
def idxD (x y : D) (s : Sto) : Option (D × Sto) :=
  match x, y with
  | .tup ds, .int i => (atD ds i).map (·, s)
  | .ref r, k => match s[r]? with
    | some (.lst ds) => match k with
      | .int i => (atD ds i).map (·, s)
      | _ => none
    | some c => c.kvs.bind fun kvs => if keyFits kvs k then (dget kvs k).map (·, s) else none
    | none => none
  | _, _ => none
def cutD (ds : List D) (lo hi : Option Int) : List D := (ds.drop (HT.sIx ds.length 0 lo)).take (HT.sIx ds.length ds.length hi - HT.sIx ds.length 0 lo)
def slcD (x : D) (lo hi : Option Int) (s : Sto) : Option (D × Sto) :=
  match x with
  | .tup ds => some (.tup (cutD ds lo hi), s)
  | .ref r => match s[r]? with
    | some (.lst ds) => newL s (cutD ds lo hi)
    | _ => none
  | _ => none
def revD (x : D) (s : Sto) : Option (D × Sto) :=
  match x with
  | .tup ds => some (.tup ds.reverse, s)
  | .ref r => match s[r]? with
    | some (.lst ds) => newL s ds.reverse
    | _ => none
  | _ => none
/-- the items of a list or a tuple -/
def itemsD (x : D) (s : Sto) : Option (List D) :=
  match x with
  | .tup ds => some ds
  | .ref r => match s[r]? with
    | some (.lst ds) => some ds
    | _ => none
  | _ => none
def intsD : List D → Option (List Int)
  | [] => some []
  | .int i :: ds => (intsD ds).map (i :: ·)
  | _ => none
def boolsD : List D → Option (List Bool)
  | [] => some []
  | .bl b :: ds => (boolsD ds).map (b :: ·)
  | _ => none
def bifD (f : B) (xs : List D) (s : Sto) : Option (D × Sto) :=
  match f, xs with
  | .len, [.tup ds] => some (.int ds.length, s)
  | .len, [.ref r] => match s[r]? with
    | some (.lst ds) => some (.int ds.length, s)
    | some c => c.kvs.map fun kvs => (.int kvs.length, s)
    | none => none
  | .int, [.int i] => some (.int i, s)
  | .int, [.bl b] => some (.int (if b then 1 else 0), s)
  | .abs, [.int i] => some (.int i.natAbs, s)
  | .tuple, [.tup ds] => some (.tup ds, s)
  | .tuple, [.ref r] => match s[r]? with
    | some (.lst ds) => some (.tup ds, s)
    | _ => none
  | .list, [x] => (itemsD x s).bind (newL s)
  | .sorted, [.ref r] => match s[r]? with
    | some (.lst ds) => (sortD s ds).bind (newL s)
    | some c => c.kvs.bind fun kvs => (sortD s (kvs.map (·.1))).bind (newL s)
    | none => none
  | .sorted, [.tup ds] => (sortD s ds).bind (newL s)
  | .sum, [.ref r] => match s[r]? with
    | some (.lst ds) => (intsD ds).map fun is => (.int is.sum, s)
    | _ => none
  | .all, [.ref r] => match s[r]? with
    | some (.lst ds) => (boolsD ds).map fun bs => (.bl (bs.all id), s)
    | _ => none
  | .any, [.ref r] => match s[r]? with
    | some (.lst ds) => (boolsD ds).map fun bs => (.bl (bs.any id), s)
    | _ => none
  | .max, [.int i, .int j] => some (.int (if i < j then j else i), s)
  | .min, [.int i, .int j] => some (.int (if j < i then j else i), s)
  | .repr, [x] => (reprD s x).map (.str ·, s)
  | _, _ => none
def mthD (m : Mt) (x : D) (xs : List D) (s : Sto) : Option (D × Sto) :=
  match x with
  | .ref r => match m, xs, s[r]? with
    | .append, [d], some (.lst ds) => if ds.length < L then some (.non, s.set r (.lst (ds ++ [d]))) else none
    | .extend, [.ref q], some (.lst ds) => match s[q]? with
      | some (.lst es) => if ds.length + es.length ≤ L then some (.non, s.set r (.lst (ds ++ es))) else none
      | _ => none
    | .pop, [], some (.lst ds) => ds.getLast?.map fun d => (d, s.set r (.lst ds.dropLast))
    | .pop, [.int i], some (.lst ds) => (ixD ds.length i).bind fun j => ds[j]?.map fun d => (d, s.set r (.lst (ds.eraseIdx j)))
    | .get, [k, d], some c => c.kvs.bind fun kvs => if keyFits kvs k then some ((dget kvs k).getD d, s) else none
    | _, _, _ => none
  | _ => none
/-- the receiver is of the method's type -/
def mthOk (m : Mt) (x : D) (s : Sto) : Bool :=
  match x with
  | .ref r => match s[r]? with
    | some (.lst _) => match m with
      | .append => true
      | .extend => true
      | .pop => true
      | _ => false
    | some _ => match m with
      | .get => true
      | _ => false
    | none => false
  | _ => false
def setD (x k v : D) (s : Sto) : Option Sto :=
  match x with
  | .ref r => match s[r]?, k with
    | some (.lst ds), .int i => (ixD ds.length i).map fun j => s.set r (.lst (ds.set j v))
    | some (.dct kvs), k => if keyFits kvs k && decide (kvs.length < L) then some (s.set r (.dct (dput kvs k v))) else none
    | _, _ => none
  | _ => none

/-! sources of loops: the items, which lists must stay as they are, the dict that is locked meanwhile -/
structure Src where
  items : List D
  keep : List (Nat × C)
  lock : Option Nat
def Src.ok (g : Src) (s : Sto) : Bool := g.keep.all fun p => decide (s[p.1]? = some p.2)
def lockS (g : Src) (s : Sto) : Sto := match g.lock with
  | none => s
  | some r => match s[r]? with
    | some (.dct kvs) => s.set r (.lck kvs)
    | _ => s
/-- s₀: ahead of the loop -/
def unlockS (g : Src) (s₀ s : Sto) : Sto := match g.lock with
  | none => s
  | some r => match s₀[r]? with
    | some c => s.set r c
    | none => s
def srcOf (x : D) (s : Sto) : Option Src :=
  match x with
  | .tup ds => some ⟨ds, [], none⟩
  | .scr is => some ⟨is.map .int, [], none⟩
  | .ref r => match s[r]? with
    | some (.lst ds) => some ⟨ds, [(r, .lst ds)], none⟩
    | some c => c.kvs.map fun kvs => ⟨kvs.map (·.1), [], some r⟩
    | none => none
  | _ => none
def srcItems (x : D) (s : Sto) : Option Src :=
  match x with
  | .ref r => (s[r]?).bind fun c => c.kvs.map fun kvs => ⟨kvs.map fun kv => .tup [kv.1, kv.2], [], some r⟩
  | _ => none
def srcRange (lo hi : Int) : Option Src :=
  if -(2 ^ 62) ≤ lo ∧ lo < 2 ^ 62 ∧ -(2 ^ 62) ≤ hi ∧ hi < 2 ^ 62 then some ⟨(List.range (hi - lo).toNat).map fun i : Nat => D.int (lo + i), [], none⟩ else none
/-- lists and tuples alone -/
def seqOnly (g : Src) : Option Src := if g.lock.isNone then some g else none
def srcZip (a b : Src) : Src := ⟨(a.items.zip b.items).map fun p => .tup [p.1, p.2], a.keep ++ b.keep, none⟩
def srcEnum (a : Src) : Src := ⟨a.items.mapIdx fun i d => .tup [.int i, d], a.keep, none⟩

def D.spl : D → List D
  | .tup ds => ds
  | _ => []
def pairUp : List (D × D) → List D → Option (List (D × D))
  | acc, [] => some acc
  | acc, k :: v :: r => if keyFits acc k && decide (acc.length < 15) then pairUp (dput acc k v) r else none
  | _, _ => none
def isiD (x : D) (ty : List String) (s : Sto) : Option Bool :=
  match x with
  | .non => some false
  | .bl _ => some (ty.contains "bool" || ty.contains "int")
  | .int _ => some (ty.contains "int")
  | .str _ => some (ty.contains "str")
  | .tup _ => some (ty.contains "tuple")
  | .scr _ => some (ty.contains "list")
  | .ref r => match s[r]? with
    | some (.lst _) => some (ty.contains "list")
    | some _ => some (ty.contains "dict")
    | none => none
def bifGD (f : B) (g : Src) (s : Sto) : Option (D × Sto) :=
  match f with
  | .list => newL s g.items
  | .tuple => newT s g.items
  | _ => none

/-! targets -/
mutual
def setT : T → D → Env → Option Env
  | .nm i, d, env => some (env.set i (some d))
  | .tp ts, .tup ds, env => setTs ts ds env
  | .tp _, _, _ => none
def setTs : List T → List D → Env → Option Env
  | [], [], env => some env
  | t :: ts, d :: ds, env => (setT t d env).bind fun env => setTs ts ds env
  | _, _, _ => none
end
def wipeD (env : Env) : List Nat → Env
  | [] => env
  | v :: vs => (wipeD env vs).set v none

def bnd {α β : Type} (x : Option (α × Sto)) (f : α → Sto → Option β) : Option β := match x with
  | some (a, s) => f a s
  | none => none
@[simp] theorem bnd_some {α β : Type} (a : α) (s : Sto) (f : α → Sto → Option β) : bnd (some (a, s)) f = f a s := rfl
@[simp] theorem bnd_none {α β : Type} (f : α → Sto → Option β) : bnd none f = none := rfl
theorem bnd_eq_some {α β : Type} {x : Option (α × Sto)} {f : α → Sto → Option β} {b : β} : bnd x f = some b ↔ ∃ a s, x = some (a, s) ∧ f a s = some b := by
  rcases x with _ | ⟨a, s⟩
  · simp
  · exact ⟨fun h => ⟨a, s, rfl, h⟩, fun ⟨a', s', e, h⟩ => by cases e; exact h⟩

/-- a comprehension's turns -/
def compL (elt : Env → Sto → Option (D × Sto)) (c : Env → Sto → Option (D × Sto)) (t : T) (env : Env) (g : Src) : List D → List D → Sto → Option (List D × Sto)
  | [], acc, s => if g.ok s then some (acc, s) else none
  | d :: ds, acc, s => if g.ok s then (setT t d env).bind fun env1 => bnd (c env1 s) fun b s => match b with
      | .bl true => bnd (elt env1 s) fun x s => if acc.length < L then compL elt c t env g ds (acc ++ [x]) s else none
      | .bl false => compL elt c t env g ds acc s
      | _ => none
    else none

section
variable (cl : Str → List D → Sto → Option (D × Sto)) (gl : Str → Option D)
mutual
def evE : E → Env → Sto → Option (D × Sto)
  | .var i, env, s => match env[i]? with
    | some (some d) => some (d, s)
    | _ => none
  | .lit d, _, s => some (d, s)
  | .gl x, _, s => (gl x).map (·, s)
  | .tup es, env, s => bnd (evEs es env s) fun ds s => newT s ds
  | .lst es, env, s => bnd (evEs es env s) fun ds s => newL s ds
  | .star e, env, s => bnd (evE e env s) fun x s => (itemsD x s).map fun ds => (.tup ds, s)
  | .dct es, env, s => bnd (evEs es env s) fun ds s => (pairUp [] ds).map fun kvs => (.ref s.length, s ++ [.dct kvs])
  | .bin op a b, env, s => bnd (evE a env s) fun x s => bnd (evE b env s) fun y s => binD op x y s
  | .neg a, env, s => bnd (evE a env s) fun x s => match x with
    | .int i => some (.int (-i), s)
    | _ => none
  | .not a, env, s => bnd (evE a env s) fun x s => match x with
    | .bl b => some (.bl (!b), s)
    | _ => none
  | .cmp op a b, env, s => bnd (evE a env s) fun x s => bnd (evE b env s) fun y s => (cmpD op x y s).map (.bl ·, s)
  | .cmp2 op op' a b c, env, s => bnd (evE a env s) fun x s => bnd (evE b env s) fun y s => (cmpD op x y s).bind fun k =>
      if k then bnd (evE c env s) fun z s => (cmpD op' y z s).map (.bl ·, s) else some (.bl false, s)
  | .and a b, env, s => bnd (evE a env s) fun x s => match x with
    | .bl true => evE b env s
    | .bl false => some (.bl false, s)
    | _ => none
  | .or a b, env, s => bnd (evE a env s) fun x s => match x with
    | .bl true => some (.bl true, s)
    | .bl false => evE b env s
    | _ => none
  | .ite c a b, env, s => bnd (evE c env s) fun x s => match x with
    | .bl true => evE a env s
    | .bl false => evE b env s
    | _ => none
  | .idx a i, env, s => bnd (evE a env s) fun x s => bnd (evE i env s) fun y s => idxD x y s
  | .slc a lo hi, env, s => bnd (evE a env s) fun x s => bnd (evO lo env s) fun l s => bnd (evO hi env s) fun h s => slcD x l h s
  | .rev a, env, s => bnd (evE a env s) fun x s => revD x s
  | .call f es, env, s => bnd (evEs es env s) fun ds s => cl f ds s
  | .bif f es, env, s => bnd (evEs es env s) fun ds s => bifD f ds s
  | .mth m o es, env, s => bnd (evE o env s) fun x s => if mthOk m x s then bnd (evEs es env s) fun ds s => mthD m x ds s else none
  | .isi e ty, env, s => bnd (evE e env s) fun x s => (isiD x ty s).map fun b => (.bl b, s)
  | .bifI f it, env, s => bnd (evI it env s) fun g s => bifGD f g s
  | .comp own t it elt c, env, s => bnd (evI it env s) fun g s =>
      bnd (compL (fun env s => evE elt env s) (fun env s => evC c env s) t (wipeD env own) g g.items [] (lockS g s)) fun acc s1 => some (.ref (unlockS g s s1).length, unlockS g s s1 ++ [.lst acc])
def evEs : List E → Env → Sto → Option (List D × Sto)
  | [], _, s => some ([], s)
  | e :: es, env, s => bnd (evE e env s) fun d s => bnd (evEs es env s) fun ds s => some (if e.isStar then d.spl ++ ds else d :: ds, s)
def evO : Option E → Env → Sto → Option (Option Int × Sto)
  | none, _, s => some (none, s)
  | some e, env, s => bnd (evE e env s) fun x s => match x with
    | .int i => some (some i, s)
    | _ => none
def evC : Option E → Env → Sto → Option (D × Sto)
  | none, _, s => some (.bl true, s)
  | some e, env, s => evE e env s
def evI : It → Env → Sto → Option (Src × Sto)
  | .range1 a, env, s => bnd (evE a env s) fun x s => match x with
    | .int hi => (srcRange 0 hi).map (·, s)
    | _ => none
  | .range2 a b, env, s => bnd (evE a env s) fun x s => bnd (evE b env s) fun y s => match x, y with
    | .int lo, .int hi => (srcRange lo hi).map (·, s)
    | _, _ => none
  | .items a, env, s => bnd (evE a env s) fun x s => (srcItems x s).map (·, s)
  | .zip a b, env, s => bnd (evE a env s) fun x s => bnd (evE b env s) fun y s => ((srcOf x s).bind seqOnly).bind fun g => ((srcOf y s).bind seqOnly).map fun h => (srcZip g h, s)
  | .enum a, env, s => bnd (evE a env s) fun x s => ((srcOf x s).bind seqOnly).map fun g => (srcEnum g, s)
  | .seq e, env, s => bnd (evE e env s) fun x s => (srcOf x s).map (·, s)
end

inductive Fl where
  | nx | rt (d : D) | bk | ct

/-- a for loop's turns -/
def forL (body : Env → Sto → Option ((Fl × Env) × Sto)) (t : T) (g : Src) : List D → Env → Sto → Option ((Fl × Env) × Sto)
  | [], env, s => if g.ok s then some ((.nx, env), s) else none
  | d :: ds, env, s => if g.ok s then (setT t d env).bind fun env => bnd (body env s) fun r s => match r with
      | (.nx, env) => forL body t g ds env s
      | (.ct, env) => forL body t g ds env s
      | (.bk, env) => some ((.nx, env), s)
      | (.rt v, env) => some ((.rt v, env), s)
    else none
def whlL (test : Env → Sto → Option (D × Sto)) (body : Env → Sto → Option ((Fl × Env) × Sto)) : Nat → Env → Sto → Option ((Fl × Env) × Sto)
  | 0, _, _ => none
  | n + 1, env, s => bnd (test env s) fun b s => match b with
    | .bl true => bnd (body env s) fun r s => match r with
      | (.nx, env) => whlL test body n env s
      | (.ct, env) => whlL test body n env s
      | (.bk, env) => some ((.nx, env), s)
      | (.rt v, env) => some ((.rt v, env), s)
    | .bl false => some ((.nx, env), s)
    | _ => none
def turnsMost : Nat := 1000000000

mutual
def evS : S → Env → Sto → Option ((Fl × Env) × Sto)
  | .asg t e, env, s => bnd (evE cl gl e env s) fun d s => (setT t d env).map fun env => ((.nx, env), s)
  | .seti o i v, env, s => bnd (evE cl gl v env s) fun d s => bnd (evE cl gl o env s) fun x s => bnd (evE cl gl i env s) fun k s => (setD x k d s).map fun s => ((.nx, env), s)
  | .ex e, env, s => bnd (evE cl gl e env s) fun _ s => some ((.nx, env), s)
  | .ret (some e), env, s => bnd (evE cl gl e env s) fun d s => some ((.rt d, env), s)
  | .ret none, env, s => some ((.rt .non, env), s)
  | .ite c a b, env, s => bnd (evE cl gl c env s) fun x s => match x with
    | .bl true => evSs a env s
    | .bl false => evSs b env s
    | _ => none
  | .whl c b, env, s => whlL (fun env s => evE cl gl c env s) (fun env s => evSs b env s) turnsMost env s
  | .for t it b, env, s => bnd (evI cl gl it env s) fun g s => bnd (forL (fun env s => evSs b env s) t g g.items env (lockS g s)) fun r s1 => some (r, unlockS g s s1)
  | .brk, env, s => some ((.bk, env), s)
  | .cnt, env, s => some ((.ct, env), s)
  | .pass, env, s => some ((.nx, env), s)
  | .stuck, _, _ => none
def evSs : List S → Env → Sto → Option ((Fl × Env) × Sto)
  | [], env, s => some ((.nx, env), s)
  | st :: sts, env, s => bnd (evS st env s) fun r s => match r with
    | (.nx, env) => evSs sts env s
    | (f, env) => some ((f, env), s)
end

/-- a def's body at its arguments -/
def bodyD (fd : Fd) (ds : List D) (s : Sto) : Option (D × Sto) :=
  match evSs cl gl fd.body (ds.map some ++ List.replicate (fd.slots - ds.length) none) s with
  | some ((.rt v, _), s) => some (v, s)
  | some ((.nx, _), s) => some (.non, s)
  | _ => none
end

/-- a call, with so many calls within one another -/
def callD (tb : Str → Option Fd) (gl : Str → Option D) : Nat → Str → List D → Sto → Option (D × Sto)
  | 0, _, _, _ => none
  | n + 1, f, ds, s => match tb f with
    | none => none
    | some fd => if ds.length = fd.params then
        if D.pures ds then match bodyD (callD tb gl n) gl fd ds [] with
          | some (v, sub) => if v.pure then some (v, s) else some (v.shift s.length, s ++ sub.map (C.shift s.length))
          | none => none
        else bodyD (callD tb gl n) gl fd ds s
      else none
end Ev
end

section
set_option autoImplicit false
namespace Ev
open PySem

/-! from PySem's syntax; top: not within a comprehension -/
structure Cc where
  N : List Str
  own : Str → Bool
  gls : Str → Bool
  top : Bool

def slotOf (k : Cc) (x : Str) : Option Nat := k.N.findIdx? fun y => decide (y = x)
def varOf (k : Cc) (sc : Scope) (x : Str) : Option Nat :=
  match sc.names.lookup x with
  | some .local => slotOf k x
  | some .cell => slotOf k x
  | some .free => slotOf k x
  | _ => none
def isGl (sc : Scope) (x : Str) : Bool := match sc.names.lookup x with
  | some .globalImplicit => !(x == ("__debug__" : Str))
  | _ => false
def okName (x : Str) : Bool := !(x == ("__debug__" : Str)) && !(x == ("__classdict__" : Str))
def bTab : List (Str × B) := [("len", .len), ("int", .int), ("abs", .abs), ("tuple", .tuple), ("list", .list), ("sorted", .sorted), ("sum", .sum), ("all", .all), ("any", .any), ("max", .max), ("min", .min), ("repr", .repr)]
def bOf (x : Str) : Option B := bTab.lookup x
def mTab : List (Str × Mt) := [("append", .append), ("extend", .extend), ("pop", .pop), ("get", .get)]
def mOf (x : Str) : Option Mt := mTab.lookup x

mutual
def cT (k : Cc) (sc : Scope) : Nat → Expr → Option T
  | 0, _ => none
  | n + 1, e => match e with
    | .Name x _ => match sc.names.lookup x with
      | some .local => (slotOf k x).map .nm
      | some .cell => if k.top then (slotOf k x).map .nm else none
      | _ => none
    | .Tuple es _ _ => (cTs k sc n es).map .tp
    | _ => none
def cTs (k : Cc) (sc : Scope) : Nat → List Expr → Option (List T)
  | 0, _ => none
  | _ + 1, [] => some []
  | n + 1, e :: es => (cT k sc n e).bind fun t => (cTs k sc n es).map fun ts => t :: ts
end
def cConst : Const → Option D
  | .none => some .non
  | .bool b => some (.bl b)
  | .int i => some (.int i)
  | .str x => some (.str x)
  | _ => none
def cOwn (k : Cc) (scope : Scope) : List (Str × Nat) :=
  scope.names.filterMap fun y => match y.2 with
    | .local => (slotOf k y.1).map fun i => (y.1, i)
    | .cell => (slotOf k y.1).map fun i => (y.1, i)
    | _ => none
mutual
def T.slots : T → List Nat
  | .nm i => [i]
  | .tp ts => T.slotss ts
def T.slotss : List T → List Nat
  | [] => []
  | t :: ts => t.slots ++ T.slotss ts
end
/-- x() or the like: super().m is another form -/
def isCall0 : Expr → Bool
  | .Call (.Name _ _) [] [] _ => true
  | _ => false
def isTup : Expr → Bool
  | .Tuple .. => true
  | _ => false
def isComp : Expr → Bool
  | .ListComp .. => true
  | .SetComp .. => true
  | .DictComp .. => true
  | _ => false

mutual
def cE (k : Cc) : Nat → Scope → Expr → Option E
  | 0, _, _ => none
  | n + 1, sc, e => match e with
    | .Name x _ => if okName x then (match varOf k sc x with
        | some i => some (.var i)
        | none => if isGl sc x && k.gls x then some (.gl x) else none) else none
    | .Constant c _ _ => (cConst c).map .lit
    | .Tuple es _ _ => (cEs k n sc es).map .tup
    | .List es _ => (cEs k n sc es).map .lst
    | .Dict ks vs _ => if ks.isEmpty && vs.isEmpty then some (.dct []) else if ks.all (·.isSome) && decide (ks.length = vs.length) && decide (ks.length ≤ 15) && !ks.isEmpty then (cPs k n sc ks vs).map .dct else none
    | .BinOp a op b _ => (cE k n sc a).bind fun x => (cE k n sc b).map fun y => .bin op x y
    | .UnaryOp op a _ => match op with
      | .USub => (cE k n sc a).map .neg
      | .Not => (cE k n sc a).map .not
      | _ => none
    | .Compare a ops bs _ => match ops, bs with
      | [op], [b] => if behindInMarks op b then none else (cE k n sc a).bind fun x => (cE k n sc b).map fun y => .cmp op x y
      | [op, op'], [b, c] => if lastMarks [op, op'] [b, c] then none else (cE k n sc a).bind fun x => (cE k n sc b).bind fun y => (cE k n sc c).map fun z => .cmp2 op op' x y z
      | _, _ => none
    | .BoolOp op es pos => match es with
      | [a] => cE k n sc a
      | a :: b :: r => (cE k n sc a).bind fun x => (cE k n sc (.BoolOp op (b :: r) pos)).map fun y => match op with
        | .And => .and x y
        | .Or => .or x y
      | [] => none
    | .IfExp c a b _ => (cE k n sc c).bind fun z => (cE k n sc a).bind fun x => (cE k n sc b).map fun y => .ite z x y
    | .Subscript a i _ => match i with
      | .Slice lo hi st _ => match st with
        | none => (cE k n sc a).bind fun x => (cO k n sc lo).bind fun l => (cO k n sc hi).map fun h => .slc x l h
        | some (.UnaryOp .USub (.Constant (.int 1) _ _) _) => match lo, hi with
          | none, none => (cE k n sc a).map .rev
          | _, _ => none
        | _ => none
      | i => (cE k n sc a).bind fun x => (cE k n sc i).map fun y => .idx x y
    | .Call f es kws cpos => if !kws.isEmpty then none else match f with
      | .Name f _ => if !isGl sc f then none
        else if k.own f then (cAs k n sc es).map (.call f)
        else match bOf f with
          | some b => if es.isEmpty then none else (cAs k n sc es).map (.bif b)
          | none => none
      | .Attribute o m apos => if isCall0 o || !(apos.endLine == cpos.line) || decide (28 ≤ es.length) then none else
          (mOf m).bind fun mm => (cE k n sc o).bind fun x => (cAs k n sc es).map fun ys => .mth mm x ys
      | _ => none
    | .ListComp elt gens scope _ => match gens with
      | [⟨tg, it, ifs, 0⟩] => (cLC k n sc elt tg it ifs scope).map fun r => .comp r.1 r.2.1 r.2.2.1 r.2.2.2.1 r.2.2.2.2
      | _ => none
    | _ => none
/-- a comprehension's parts -/
def cLC (k : Cc) : Nat → Scope → Expr → Expr → Expr → List Expr → Scope → Option (List Nat × T × It × E × Option E)
  | 0, _, _, _, _, _, _ => none
  | n + 1, sc, elt, tg, it, ifs, scope =>
      if L2.blkC k.N sc scope (cOwn k scope) then (cI k n sc tg it).bind fun i => (cT { k with top := false } (L2.relS scope sc) n tg).bind fun t =>
        if t.slots.all (fun j => (cOwn k scope).any fun p => decide (p.2 = j)) then (cE { k with top := false } n (L2.relS scope sc) elt).bind fun x => match ifs with
          | [] => some ((cOwn k scope).map (·.2), t, i, x, none)
          | [c] => (cE { k with top := false } n (L2.relS scope sc) c).map fun y => ((cOwn k scope).map (·.2), t, i, x, some y)
          | _ => none
        else none
      else none
/-- items of a display -/
def cEs (k : Cc) : Nat → Scope → List Expr → Option (List E)
  | 0, _, _ => none
  | _ + 1, _, [] => some []
  | n + 1, sc, e :: es => match e with
    | .Starred a _ => (cE k n sc a).bind fun x => (cEs k n sc es).map fun xs => .star x :: xs
    | e => (cE k n sc e).bind fun x => (cEs k n sc es).map fun xs => x :: xs
/-- plain arguments -/
def cAs (k : Cc) : Nat → Scope → List Expr → Option (List E)
  | 0, _, _ => none
  | _ + 1, _, [] => some []
  | n + 1, sc, e :: es => (cE k n sc e).bind fun x => (cAs k n sc es).map fun xs => x :: xs
def cPs (k : Cc) : Nat → Scope → List (Option Expr) → List Expr → Option (List E)
  | 0, _, _, _ => none
  | _ + 1, _, [], [] => some []
  | n + 1, sc, some a :: ks, b :: vs => (cE k n sc a).bind fun x => (cE k n sc b).bind fun y => (cPs k n sc ks vs).map fun xs => x :: y :: xs
  | _ + 1, _, _, _ => none
def cO (k : Cc) : Nat → Scope → Option Expr → Option (Option E)
  | 0, _, _ => none
  | _ + 1, _, none => some none
  | n + 1, sc, some e => (cE k n sc e).map some
def cI (k : Cc) : Nat → Scope → Expr → Expr → Option It
  | 0, _, _, _ => none
  | n + 1, sc, tg, e => match e with
    | .Call (.Name f q) es [] p => if isGl sc f && !k.own f && decide (f = "range") then match es with
          | [a] => (cE k n sc a).map .range1
          | [a, b] => (cE k n sc a).bind fun x => (cE k n sc b).map fun y => .range2 x y
          | _ => none
        else (cE k n sc (.Call (.Name f q) es [] p)).map .seq
    | .Call (.Attribute o m q) [] [] p => if decide (m = "items") then (if isTup tg && !isCall0 o && (q.endLine == p.line) then (cE k n sc o).map .items else none)
        else (cE k n sc (.Call (.Attribute o m q) [] [] p)).map .seq
    | e => (cE k n sc e).map .seq
end

/-- which stores stock swaps in (a, b) = (x, y): names, or none -/
def swNames (kd : Str → Option NameKind) (ts : List Expr) : List Str := ts.filterMap fun
  | .Name id pos => if kd id == some .local && pos.line == (ts.head?.map (·.pos.line)).getD 0 then some id else none
  | _ => none
def swK' (kd : Str → Option NameKind) (ts vs : List Expr) : Option (Option (List Str)) :=
  if !(ts.length == 2 || ts.length == 3) || vs.length != ts.length then some none
  else if vs.any fun | .Starred .. => true | _ => false then some none
  else if (swNames kd ts).length != ts.length || (swNames kd ts).eraseDups.length != (swNames kd ts).length then some none
  else if vs.all (foldedForSure 8) then some none
  else if vs.all (constantsAlone 8) then none
  else some (some (swNames kd ts))
def swK (sc : Scope) (ts vs : List Expr) : Option (Option (List Str)) := swK' (fun x => sc.names.lookup x) ts vs
def isLoc (sc : Scope) (x : Str) : Bool := match sc.names.lookup x with
  | some .local => true
  | _ => false
mutual
def cS (k : Cc) (sc : Scope) : Nat → Stmt → S
  | 0, _ => .stuck
  | n + 1, st => match st with
    | .Assign tgs v _ => match tgs with
      | [tg] => match tg with
        | .Subscript o i _ => (((cE k 60 sc o).bind fun x => (cE k 60 sc i).bind fun y => (cE k 60 sc v).map fun z => S.seti x y z)).getD .stuck
        | .Name x p' => match v with
          | .ListComp elt gens scope p => match gens with
            | [⟨tg', it, ifs, 0⟩] => if isLoc sc x && (p'.line == p.line) && !(scope.names.any fun (n, k) => n == x && (k == .local || k == .cell)) then
                (((slotOf k x).bind fun i => (cLC k 60 sc elt tg' it ifs scope).map fun r => S.asg (.nm i) (.comp r.1 r.2.1 r.2.2.1 r.2.2.2.1 r.2.2.2.2))).getD .stuck
              else .stuck
            | _ => .stuck
          | v => if isComp v then .stuck else (((cT k sc 60 (.Name x p')).bind fun t => (cE k 60 sc v).map fun z => S.asg t z)).getD .stuck
        | .Tuple ts kt pt => match v with
          | .Tuple vs k2 p2 => match swK sc ts vs with
            | some none => (((cT k sc 60 (.Tuple ts kt pt)).bind fun t => (cE k 60 sc (.Tuple vs k2 p2)).map fun z => S.asg t z)).getD .stuck
            | some (some _) => match ts, vs with
              | [.Name x _, .Name y _], [_, _] => (((slotOf k x).bind fun i => (slotOf k y).bind fun j => if decide (swK sc ts vs = some (some [x, y])) && isLoc sc x && isLoc sc y && decide (i ≠ j) then (cAs k 60 sc vs).map fun zs => S.asg (.tp [.nm i, .nm j]) (.tup zs) else none)).getD .stuck
              | [.Name x _, .Name y _, .Name z _], [_, _, _] => (((slotOf k x).bind fun i => (slotOf k y).bind fun j => (slotOf k z).bind fun l => if decide (swK sc ts vs = some (some [x, y, z])) && isLoc sc x && isLoc sc y && isLoc sc z && decide (i ≠ j) && decide (i ≠ l) && decide (j ≠ l) then
                  (cAs k 60 sc vs).map fun zs => S.asg (.tp [.nm i, .nm j, .nm l]) (.tup zs) else none)).getD .stuck
              | _, _ => .stuck
            | none => .stuck
          | v => (((cT k sc 60 (.Tuple ts kt pt)).bind fun t => (cE k 60 sc v).map fun z => S.asg t z)).getD .stuck
        | _ => .stuck
      | _ => .stuck
    | .Expr e _ => if isComp e then .stuck else ((cE k 60 sc e).map .ex).getD .stuck
    | .Return e _ => match e with
      | some e => ((cE k 60 sc e).map fun x => S.ret (some x)).getD .stuck
      | none => .ret none
    | .If c a b _ => ((cE k 60 sc c).map fun x => S.ite x (cSs k sc n a) (cSs k sc n b)).getD .stuck
    | .While c b el _ => if !el.isEmpty then .stuck else ((cE k 60 sc c).map fun x => S.whl x (cSs k sc n b)).getD .stuck
    | .For tg it b el _ => if !el.isEmpty then .stuck else (((cT k sc 60 tg).bind fun t => (cI k 60 sc tg it).map fun i => S.for t i (cSs k sc n b))).getD .stuck
    | .Break _ => .brk
    | .Continue _ => .cnt
    | .Pass _ => .pass
    | _ => .stuck
def cSs (k : Cc) (sc : Scope) : Nat → List Stmt → List S
  | 0, _ => [.stuck]
  | _ + 1, [] => []
  | n + 1, s :: ss => cS k sc n s :: cSs k sc n ss
end

/-- a def: its name, its parameters, its names by slot -/
structure Df where
  name : Str
  N : List Str
  params : Nat
deriving Inhabited
def cF (own gls : Str → Bool) (d : Df) : Stmt → Option Fd
  | .FunctionDef n a body [] none [] sc none _ _ => if n = d.name ∧ a.args.map (·.arg) = d.N.take d.params then some ⟨d.params, d.N.length, cSs ⟨d.N, own, gls, true⟩ sc 60 body⟩ else none
  | _ => none
end Ev
end

section
set_option autoImplicit false
set_option maxRecDepth 100000
/-! Ev3: how values and stores lie in the hand layer's abstract heap -/
namespace Ev
open PySem L2

/-- a list that stays as it is -/
def RoL (K : PySem.W.Frag) (H : Hp) (a : Addr) (xs : List V) : Prop :=
  (∃ o, H a = some (.frz o (.lst xs))) ∨
    ∃ (o : Obj) (its : Array Value) (n : Nat), K.lookup a = some o ∧ o.cls = .type "list" ∧ o.dict = none ∧ o.data = .seq its n ∧ its.size ≤ sizeLine ∧ Vals xs its.toList
theorem RoL.sq {K : PySem.W.Frag} {H : Hp} {a : Addr} {xs : List V} (h : RoL K H a xs) : SqL K H a xs := by
  rcases h with h | h
  · exact .inl (.inr h)
  · exact .inr h
/-- what is only read stays -/
structure Stay (K : PySem.W.Frag) (H H' : Hp) : Prop where
  t : ∀ a vs, SqT K H a vs → SqT K H' a vs
  l : ∀ a vs, RoL K H a vs → RoL K H' a vs
mutual
/-- the value d lies as v: K the written part, ι the cells' addresses -/
def RD (K : PySem.W.Frag) (ι : List Addr) (H : Hp) : D → V → Prop
  | .non, v => v = .non
  | .bl b, v => v = .bl b
  | .int i, v => v = .int i
  | .str x, v => v = .str x
  | .tup ds, v => ∃ a vs, v = .ref a ∧ SqT K H a vs ∧ RDs K ι H ds vs
  | .ref i, v => ∃ a, v = .ref a ∧ ι[i]? = some a
  | .scr is, v => ∃ a, v = .ref a ∧ RoL K H a (is.map V.int)
def RDs (K : PySem.W.Frag) (ι : List Addr) (H : Hp) : List D → List V → Prop
  | [], vs => vs = []
  | d :: ds, vs => ∃ v r, vs = v :: r ∧ RD K ι H d v ∧ RDs K ι H ds r
end

section
variable {K : PySem.W.Frag} {ι ι' : List Addr} {H H' : Hp}
theorem RDs_cons {d : D} {ds : List D} {v : V} {vs : List V} : RDs K ι H (d :: ds) (v :: vs) ↔ RD K ι H d v ∧ RDs K ι H ds vs := by
  constructor
  · intro h; rw [RDs] at h; obtain ⟨v', r, e, h1, h2⟩ := h; cases e; exact ⟨h1, h2⟩
  · intro h; rw [RDs]; exact ⟨v, vs, rfl, h⟩
theorem RDs_nil {vs : List V} : RDs K ι H [] vs ↔ vs = [] := by rw [RDs]
theorem RDs.length : ∀ {ds : List D} {vs : List V}, RDs K ι H ds vs → vs.length = ds.length
  | [], _, h => by rw [RDs] at h; subst h; rfl
  | d :: ds, _, h => by
    rw [RDs] at h
    obtain ⟨v, r, rfl, _, h2⟩ := h
    simp [RDs.length h2]
theorem RDs.get : ∀ {ds : List D} {vs : List V}, RDs K ι H ds vs → ∀ {i : Nat} {d : D}, ds[i]? = some d → ∃ v, vs[i]? = some v ∧ RD K ι H d v
  | [], _, _, i, d, e => by simp at e
  | d :: ds, _, h, i, d', e => by
    rw [RDs] at h
    obtain ⟨v, r, rfl, h1, h2⟩ := h
    cases i with
    | zero => simp at e; subst e; exact ⟨v, rfl, h1⟩
    | succ i => simp at e; obtain ⟨v', e', h'⟩ := RDs.get h2 e; exact ⟨v', by simpa using e', h'⟩
theorem RDs.of_get : ∀ {ds : List D} {vs : List V}, vs.length = ds.length → (∀ (i : Nat) (d : D) (v : V), ds[i]? = some d → vs[i]? = some v → RD K ι H d v) → RDs K ι H ds vs
  | [], vs, hl, _ => by rw [RDs]; exact List.length_eq_zero_iff.mp hl
  | d :: ds, vs, hl, h => by
    cases vs with
    | nil => simp at hl
    | cons v r =>
      rw [RDs_cons]
      exact ⟨h 0 d v rfl rfl, RDs.of_get (by simpa using hl) fun i d' v' e e' => h (i + 1) d' v' (by simpa using e) (by simpa using e')⟩
theorem RDs.rd {ds : List D} {vs : List V} (h : RDs K ι H ds vs) {i : Nat} {d : D} {v : V} (e : ds[i]? = some d) (e' : vs[i]? = some v) : RD K ι H d v := by
  obtain ⟨v', e2, r⟩ := h.get e
  rw [e'] at e2; cases e2; exact r
theorem RDs.none {ds : List D} {vs : List V} (h : RDs K ι H ds vs) {i : Nat} (e : ds[i]? = none) : vs[i]? = none := by
  rw [List.getElem?_eq_none_iff] at e ⊢
  have := h.length
  omega
theorem RDs.append {a b : List D} {x y : List V} (h : RDs K ι H a x) (h' : RDs K ι H b y) : RDs K ι H (a ++ b) (x ++ y) := by
  refine RDs.of_get (by simp [h.length, h'.length]) fun i d v e e' => ?_
  have hl := h.length
  by_cases hi : i < a.length
  · rw [List.getElem?_append_left hi] at e
    rw [List.getElem?_append_left (by omega)] at e'
    exact h.rd e e'
  · rw [List.getElem?_append_right (by omega)] at e
    rw [List.getElem?_append_right (by omega), hl] at e'
    exact h'.rd e e'
theorem RDs.one {d : D} {v : V} (h : RD K ι H d v) : RDs K ι H [d] [v] := by rw [RDs_cons, RDs_nil]; exact ⟨h, rfl⟩
theorem RDs.take {a : List D} {x : List V} (h : RDs K ι H a x) (n : Nat) : RDs K ι H (a.take n) (x.take n) := by
  refine RDs.of_get (by simp [h.length]) fun i d v e e' => ?_
  rw [List.getElem?_take] at e e'
  split at e
  · rename_i hn; rw [if_pos hn] at e'; exact h.rd e e'
  · simp at e
theorem RDs.drop {a : List D} {x : List V} (h : RDs K ι H a x) (n : Nat) : RDs K ι H (a.drop n) (x.drop n) := by
  refine RDs.of_get (by simp [h.length]) fun i d v e e' => ?_
  rw [List.getElem?_drop] at e e'
  exact h.rd e e'
theorem RDs.reverse {a : List D} {x : List V} (h : RDs K ι H a x) : RDs K ι H a.reverse x.reverse := by
  refine RDs.of_get (by simp [h.length]) fun i d v e e' => ?_
  have hl := h.length
  have hi : i < a.length := by
    have := (List.getElem?_eq_some_iff.mp e).1
    simpa using this
  rw [List.getElem?_reverse (by omega)] at e e'
  rw [hl] at e'
  exact h.rd e e'
theorem RDs.set {a : List D} {x : List V} (h : RDs K ι H a x) (n : Nat) {d : D} {v : V} (r : RD K ι H d v) : RDs K ι H (a.set n d) (x.set n v) := by
  refine RDs.of_get (by simp [h.length]) fun i d' v' e e' => ?_
  have hl := h.length
  rw [List.getElem?_set] at e e'
  split at e
  · rename_i hn
    subst hn
    rw [if_pos rfl] at e'
    split at e
    · rw [if_pos (by omega)] at e'
      cases e; cases e'; exact r
    · cases e
  · rename_i hn
    rw [if_neg hn] at e'
    exact h.rd e e'
theorem RDs.eraseIdx {a : List D} {x : List V} (h : RDs K ι H a x) (n : Nat) : RDs K ι H (a.eraseIdx n) (x.eraseIdx n) := by
  refine RDs.of_get ?_ fun i d' v' e e' => ?_
  · have hl := h.length
    simp only [List.length_eraseIdx, hl]
  · rw [List.getElem?_eraseIdx] at e e'
    split at e
    · rename_i hn; rw [if_pos hn] at e'; exact h.rd e e'
    · rename_i hn; rw [if_neg hn] at e'; exact h.rd e e'
theorem RDs.dropLast {a : List D} {x : List V} (h : RDs K ι H a x) : RDs K ι H a.dropLast x.dropLast := by
  rw [List.dropLast_eq_take, List.dropLast_eq_take, h.length]
  exact h.take _
theorem RDs.mem {a : List D} {x : List V} (h : RDs K ι H a x) {v : V} (hv : v ∈ x) : ∃ d ∈ a, RD K ι H d v := by
  obtain ⟨i, hi⟩ := List.mem_iff_getElem?.mp hv
  have hl := h.length
  have hlt : i < a.length := by
    have := (List.getElem?_eq_some_iff.mp hi).1
    omega
  exact ⟨a[i], List.getElem_mem hlt, h.rd (List.getElem?_eq_getElem hlt) hi⟩

mutual
theorem RD.mono (hT : Stay K H H') (hι : ∀ (i : Nat) (a : Addr), ι[i]? = some a → ι'[i]? = some a) : ∀ {d : D} {v : V}, RD K ι H d v → RD K ι' H' d v
  | .non, _, h => by rw [RD] at h ⊢; exact h
  | .bl _, _, h => by rw [RD] at h ⊢; exact h
  | .int _, _, h => by rw [RD] at h ⊢; exact h
  | .str _, _, h => by rw [RD] at h ⊢; exact h
  | .tup ds, _, h => by
    rw [RD] at h ⊢
    obtain ⟨a, vs, e, s, r⟩ := h
    exact ⟨a, vs, e, hT.t _ _ s, RDs.mono hT hι r⟩
  | .ref i, _, h => by
    rw [RD] at h ⊢
    obtain ⟨a, e, s⟩ := h
    exact ⟨a, e, hι _ _ s⟩
  | .scr is, _, h => by
    rw [RD] at h ⊢
    obtain ⟨a, e, s⟩ := h
    exact ⟨a, e, hT.l _ _ s⟩
theorem RDs.mono (hT : Stay K H H') (hι : ∀ (i : Nat) (a : Addr), ι[i]? = some a → ι'[i]? = some a) : ∀ {ds : List D} {vs : List V}, RDs K ι H ds vs → RDs K ι' H' ds vs
  | [], _, h => by rw [RDs] at h ⊢; exact h
  | d :: ds, _, h => by
    rw [RDs] at h ⊢
    obtain ⟨v, r, e, h1, h2⟩ := h
    exact ⟨v, r, e, RD.mono hT hι h1, RDs.mono hT hι h2⟩
end
mutual
/-- a value without references lies so whatever the cells are -/
theorem RD.pure (hT : Stay K H H') : ∀ {d : D} {v : V}, d.pure = true → RD K ι H d v → RD K ι' H' d v
  | .non, _, _, h => by rw [RD] at h ⊢; exact h
  | .bl _, _, _, h => by rw [RD] at h ⊢; exact h
  | .int _, _, _, h => by rw [RD] at h ⊢; exact h
  | .str _, _, _, h => by rw [RD] at h ⊢; exact h
  | .tup ds, _, p, h => by
    rw [RD] at h ⊢
    obtain ⟨a, vs, e, s, r⟩ := h
    exact ⟨a, vs, e, hT.t _ _ s, RDs.pure hT p r⟩
  | .ref i, _, p, _ => by cases p
  | .scr is, _, _, h => by
    rw [RD] at h ⊢
    obtain ⟨a, e, s⟩ := h
    exact ⟨a, e, hT.l _ _ s⟩
theorem RDs.pure (hT : Stay K H H') : ∀ {ds : List D} {vs : List V}, D.pures ds = true → RDs K ι H ds vs → RDs K ι' H' ds vs
  | [], _, _, h => by rw [RDs] at h ⊢; exact h
  | d :: ds, _, p, h => by
    rw [RDs] at h ⊢
    obtain ⟨v, r, e, h1, h2⟩ := h
    rw [D.pures, Bool.and_eq_true] at p
    exact ⟨v, r, e, RD.pure hT p.1 h1, RDs.pure hT p.2 h2⟩
end
mutual
theorem RD.shift (pre : List Addr) : ∀ {d : D} {v : V}, RD K ι H d v → RD K (pre ++ ι) H (d.shift pre.length) v
  | .non, _, h => by simp only [D.shift, RD] at h ⊢; exact h
  | .bl _, _, h => by simp only [D.shift, RD] at h ⊢; exact h
  | .int _, _, h => by simp only [D.shift, RD] at h ⊢; exact h
  | .str _, _, h => by simp only [D.shift, RD] at h ⊢; exact h
  | .scr _, _, h => by simp only [D.shift, RD] at h ⊢; exact h
  | .tup ds, _, h => by
    simp only [D.shift, RD] at h ⊢
    obtain ⟨a, vs, e, s, r⟩ := h
    exact ⟨a, vs, e, s, RDs.shift pre r⟩
  | .ref i, _, h => by
    simp only [D.shift, RD] at h ⊢
    obtain ⟨a, e, s⟩ := h
    exact ⟨a, e, by rw [List.getElem?_append_right (by omega)]; simpa using s⟩
theorem RDs.shift (pre : List Addr) : ∀ {ds : List D} {vs : List V}, RDs K ι H ds vs → RDs K (pre ++ ι) H (D.shifts pre.length ds) vs
  | [], _, h => by simp only [D.shifts, RDs] at h ⊢; exact h
  | d :: ds, _, h => by
    simp only [D.shifts, RDs] at h ⊢
    obtain ⟨v, r, e, h1, h2⟩ := h
    exact ⟨v, r, e, RD.shift pre h1, RDs.shift pre h2⟩
end
theorem D.shifts_map (n : Nat) : ∀ ds : List D, D.shifts n ds = ds.map (D.shift n)
  | [] => by rw [D.shifts]; rfl
  | d :: ds => by rw [D.shifts, D.shifts_map n ds]; rfl
end

/-! ### keys -/
mutual
theorem D.nk_inj : ∀ {a b : D} {k : NestedKey}, a.nk = some k → b.nk = some k → a = b
  | a, b, k, ha, hb => by
    cases a with
    | non => simp only [D.nk, Option.some.injEq] at ha; subst ha; cases b <;> simp_all [D.nk]
    | bl _ => simp [D.nk] at ha
    | int i => simp only [D.nk, Option.some.injEq] at ha; subst ha; cases b <;> simp_all [D.nk]
    | str x => simp only [D.nk, Option.some.injEq] at ha; subst ha; cases b <;> simp_all [D.nk]
    | ref _ => simp [D.nk] at ha
    | scr _ => simp [D.nk] at ha
    | tup ds =>
      simp only [D.nk, Option.map_eq_some_iff] at ha
      obtain ⟨ks, h1, rfl⟩ := ha
      cases b with
      | tup es =>
        simp only [D.nk, Option.map_eq_some_iff, NestedKey.tup.injEq, exists_eq_right] at hb
        rw [D.nks_inj h1 hb]
      | non => simp [D.nk] at hb
      | bl _ => simp [D.nk] at hb
      | int _ => simp [D.nk] at hb
      | str _ => simp [D.nk] at hb
      | ref _ => simp [D.nk] at hb
      | scr _ => simp [D.nk] at hb
theorem D.nks_inj : ∀ {a b : List D} {k : List NestedKey}, D.nks a = some k → D.nks b = some k → a = b
  | [], b, k, ha, hb => by
    simp only [D.nks, Option.some.injEq] at ha
    subst ha
    cases b with
    | nil => rfl
    | cons d ds => simp [D.nks, Option.bind_eq_some_iff] at hb
  | d :: ds, b, k, ha, hb => by
    simp only [D.nks, Option.bind_eq_some_iff, Option.map_eq_some_iff] at ha
    obtain ⟨x, h1, xs, h2, rfl⟩ := ha
    cases b with
    | nil => simp [D.nks] at hb
    | cons e es =>
      simp only [D.nks, Option.bind_eq_some_iff, Option.map_eq_some_iff, List.cons.injEq] at hb
      obtain ⟨y, h3, ys, h4, e1, e2⟩ := hb
      subst e1 e2
      rw [D.nk_inj h1 h3, D.nks_inj h2 h4]
end
end Ev
end

section
set_option autoImplicit false
set_option maxRecDepth 100000
/-! Ev4: stores in the abstract heap, what a run may change -/
namespace Ev
open PySem L2

def dK : Key → D
  | .inl i => .int i
  | .inr x => .str x

section
variable (P : Program) (w : World) (K : PySem.W.Frag)

/-- a dict whose keys are tuples, by its entries -/
def ndPhi (a : Addr) (xs : List (NestedKey × Addr × Value)) : Heap → Prop := fun h => (a == sysModules) = false ∧
  ∃ o es ep, h.get? a = some o ∧ o.ExactDict ∧ o.data = .dict es ep ∧ es.toList = xs.map (entryOfKey (nestedKind P w))
def ndHO (a : Addr) (xs : List (NestedKey × Addr × Value)) : HO := .ext (ndPhi P w a xs)

def atomKV (ι : List Addr) (H : Hp) (p : D × D) (q : Key × V) : Prop := p.1 = dK q.1 ∧ RD K ι H p.2 q.2
def nestKV (ι : List Addr) (H : Hp) (p : D × D) (x : NestedKey × Addr × Value) : Prop :=
  p.1.nk = some x.1 ∧ x.1.depth ≤ 8 ∧ RD K ι H p.1 (.ref x.2.1) ∧ ∃ v, RelV v x.2.2 ∧ RD K ι H p.2 v
/-- u at a is the dict kvs -/
def DctAt (ι : List Addr) (H : Hp) (kvs : List (D × D)) (a : Addr) (u : HO) : Prop :=
  (∃ kv', u = .dK kv' ∧ Paired (atomKV K ι H) kvs kv') ∨
  ∃ xs, u = ndHO P w a xs ∧ xs.length ≤ sizeLine ∧ (xs.map (·.1)).Nodup ∧ Paired (nestKV K ι H) kvs xs
def CellAt (ι : List Addr) (H : Hp) : C → Addr → Prop
  | .lst ds, a => ∃ vs, H a = some (.lst vs) ∧ RDs K ι H ds vs
  | .dct kvs, a => ∃ u, H a = some u ∧ DctAt P w K ι H kvs a u
  | .lck kvs, a => ∃ o u, H a = some (.frz o u) ∧ DctAt P w K ι H kvs a u

/-- the store lies at the addresses ι -/
structure Rep (ι : List Addr) (H : Hp) (s : Sto) : Prop where
  len : ι.length = s.length
  nd : ι.Nodup
  cell : ∀ (i : Nat) (c : C) (a : Addr), s[i]? = some c → ι[i]? = some a → CellAt P w K ι H c a

/-- what a run may do: new cells at new addresses; all else stays -/
structure Go (ι ι' : List Addr) (H H' : Hp) : Prop where
  pre : ∃ new, ι' = ι ++ new ∧ ∀ a ∈ new, H a = none
  keep : ∀ a o, H a = some o → a ∉ ι → H' a = some o
  frz : ∀ a o u, H a = some (.frz o u) → H' a = some (.frz o u)

structure RepE (ι : List Addr) (H : Hp) (env : Env) (σ : St) : Prop where
  len : σ.length = env.length
  slot : ∀ (i : Nat) (d : D), env[i]? = some (some d) → ∃ v, σ[i]? = some (some v) ∧ RD K ι H d v
end

section
variable {P : Program} {w : World} {K : PySem.W.Frag} {ι ι' ι1 : List Addr} {H H' H1 : Hp} {s s' s1 : Sto}

theorem DctAt.notTup {kvs : List (D × D)} {a : Addr} {u : HO} (h : DctAt P w K ι H kvs a u) : (∀ vs, u ≠ .tup vs) ∧ (∀ o v, u ≠ .frz o v) ∧ (∀ vs, u ≠ .lst vs) ∧ Mut (some u) := by
  rcases h with ⟨kv', rfl, _⟩ | ⟨xs, rfl, _⟩
  · exact ⟨fun _ e => (nomatch e), fun _ _ e => (nomatch e), fun _ e => (nomatch e), trivial⟩
  · exact ⟨fun _ e => (nomatch e), fun _ _ e => (nomatch e), fun _ e => (nomatch e), trivial⟩
theorem CellAt.there {c : C} {a : Addr} (h : CellAt P w K ι H c a) : ∃ o, H a = some o ∧ ∀ vs, o ≠ .tup vs := by
  cases c with
  | lst ds => obtain ⟨vs, e, _⟩ := h; exact ⟨_, e, fun _ z => (nomatch z)⟩
  | dct kvs => obtain ⟨u, e, q⟩ := h; exact ⟨_, e, q.notTup.1⟩
  | lck kvs => obtain ⟨o, u, e, q⟩ := h; exact ⟨_, e, fun _ z => (nomatch z)⟩
theorem Rep.cellOf (R : Rep P w K ι H s) {a : Addr} (h : a ∈ ι) : ∃ (i : Nat) (c : C), ι[i]? = some a ∧ s[i]? = some c ∧ CellAt P w K ι H c a := by
  obtain ⟨i, hi⟩ := List.mem_iff_getElem?.mp h
  have hlt : i < s.length := by
    have := (List.getElem?_eq_some_iff.mp hi).1
    have := R.len
    omega
  exact ⟨i, s[i], hi, List.getElem?_eq_getElem hlt, R.cell i _ a (List.getElem?_eq_getElem hlt) hi⟩
theorem Rep.notTup (R : Rep P w K ι H s) {a : Addr} {vs : List V} (h : H a = some (.tup vs)) : a ∉ ι := fun hm => by
  obtain ⟨i, c, _, _, q⟩ := R.cellOf hm
  obtain ⟨o, e, n⟩ := q.there
  rw [h] at e; cases e
  exact n _ rfl
theorem Rep.notNone (R : Rep P w K ι H s) {a : Addr} (h : H a = none) : a ∉ ι := fun hm => by
  obtain ⟨i, c, _, _, q⟩ := R.cellOf hm
  obtain ⟨o, e, n⟩ := q.there
  rw [h] at e; cases e
theorem Rep.addr (R : Rep P w K ι H s) {i : Nat} {c : C} (h : s[i]? = some c) : ∃ a, ι[i]? = some a ∧ CellAt P w K ι H c a := by
  have hlt : i < ι.length := by
    have := (List.getElem?_eq_some_iff.mp h).1
    have := R.len
    omega
  exact ⟨ι[i], List.getElem?_eq_getElem hlt, R.cell i c _ h (List.getElem?_eq_getElem hlt)⟩
theorem Rep.ofRef (R : Rep P w K ι H s) {i : Nat} {c : C} {v : V} (h : s[i]? = some c) (r : RD K ι H (.ref i) v) : ∃ a, v = .ref a ∧ ι[i]? = some a ∧ CellAt P w K ι H c a := by
  rw [RD] at r
  obtain ⟨a, e, q⟩ := r
  exact ⟨a, e, q, R.cell i c a h q⟩

theorem Go.refl : Go ι ι H H := ⟨⟨[], by simp, by simp⟩, fun _ _ h _ => h, fun _ _ _ h => h⟩
theorem Go.ix (g : Go ι ι' H H') {i : Nat} {a : Addr} (h : ι[i]? = some a) : ι'[i]? = some a := by
  obtain ⟨new, rfl, _⟩ := g.pre
  have hlt := (List.getElem?_eq_some_iff.mp h).1
  rw [List.getElem?_append_left hlt]; exact h
theorem Go.sqT (R : Rep P w K ι H s) (g : Go ι ι' H H') {a : Addr} {vs : List V} (h : SqT K H a vs) : SqT K H' a vs := by
  rcases h with h | h
  · rcases h with h | ⟨o, h⟩
    · exact .inl (.inl (g.keep _ _ h (R.notTup h)))
    · exact .inl (.inr ⟨o, g.frz _ _ _ h⟩)
  · exact .inr h
theorem Go.stay (R : Rep P w K ι H s) (g : Go ι ι' H H') : Stay K H H' := ⟨fun _ _ => g.sqT R, fun a vs h => by
  rcases h with ⟨o, h⟩ | h
  · exact .inl ⟨o, g.frz _ _ _ h⟩
  · exact .inr h⟩
theorem Go.rd (R : Rep P w K ι H s) (g : Go ι ι' H H') {d : D} {v : V} (h : RD K ι H d v) : RD K ι' H' d v :=
  RD.mono (g.stay R) (fun _ _ => g.ix) h
theorem Go.rds (R : Rep P w K ι H s) (g : Go ι ι' H H') {ds : List D} {vs : List V} (h : RDs K ι H ds vs) : RDs K ι' H' ds vs :=
  RDs.mono (g.stay R) (fun _ _ => g.ix) h
theorem Go.env (R : Rep P w K ι H s) (g : Go ι ι' H H') {env : Env} {σ : St} (h : RepE K ι H env σ) : RepE K ι' H' env σ :=
  ⟨h.len, fun i d e => let ⟨v, e', r⟩ := h.slot i d e; ⟨v, e', g.rd R r⟩⟩
theorem Go.trans (R1 : Rep P w K ι1 H1 s1) (g : Go ι ι1 H H1) (g' : Go ι1 ι' H1 H') : Go ι ι' H H' := by
  obtain ⟨n1, e1, f1⟩ := g.pre
  obtain ⟨n2, e2, f2⟩ := g'.pre
  refine ⟨⟨n1 ++ n2, by rw [e2, e1, List.append_assoc], fun a ha => ?_⟩, fun a o h ha => ?_, fun a o u h => g'.frz _ _ _ (g.frz _ _ _ h)⟩
  · rcases List.mem_append.mp ha with ha | ha
    · exact f1 a ha
    · have h1 := f2 a ha
      have n1' := R1.notNone h1
      cases e : H a with
      | none => rfl
      | some o =>
        have : a ∉ ι := fun z => n1' (by rw [e1]; exact List.mem_append_left _ z)
        have q := g.keep a o e this
        rw [h1] at q; cases q
  · refine g'.keep a o (g.keep a o h ha) fun z => ?_
    rw [e1] at z
    rcases List.mem_append.mp z with z | z
    · exact ha z
    · have := f1 a z
      rw [h] at this; cases this

theorem DctAt.mono {kvs : List (D × D)} {a : Addr} {u : HO} (hT : Stay K H H') (hι : ∀ (i : Nat) (a : Addr), ι[i]? = some a → ι'[i]? = some a) (h : DctAt P w K ι H kvs a u) : DctAt P w K ι' H' kvs a u := by
  rcases h with ⟨kv', e, q⟩ | ⟨xs, e, l, n, q⟩
  · exact .inl ⟨kv', e, Paired.mapP q fun p x ⟨h1, h2⟩ => ⟨h1, h2.mono hT hι⟩⟩
  · exact .inr ⟨xs, e, l, n, Paired.mapP q fun p x ⟨h1, h2, h3, v, h4, h5⟩ => ⟨h1, h2, h3.mono hT hι, v, h4, h5.mono hT hι⟩⟩
theorem CellAt.mono {c : C} {a : Addr} (hT : Stay K H H') (hι : ∀ (i : Nat) (a : Addr), ι[i]? = some a → ι'[i]? = some a) (ha : H' a = H a) (h : CellAt P w K ι H c a) : CellAt P w K ι' H' c a := by
  cases c with
  | lst ds => obtain ⟨vs, e, q⟩ := h; exact ⟨vs, by rw [ha]; exact e, q.mono hT hι⟩
  | dct kvs => obtain ⟨u, e, q⟩ := h; exact ⟨u, by rw [ha]; exact e, q.mono hT hι⟩
  | lck kvs => obtain ⟨o, u, e, q⟩ := h; exact ⟨o, u, by rw [ha]; exact e, q.mono hT hι⟩

theorem sqT_upd {p : Addr} {o : HO} (h : H p = none) {a : Addr} {vs : List V} (q : SqT K H a vs) : SqT K (upd H p o) a vs := by
  rcases q with q | q
  · rcases q with q | ⟨ob, q⟩
    · exact .inl (.inl (by rw [upd_ne (ne_of_none q h)]; exact q))
    · exact .inl (.inr ⟨ob, by rw [upd_ne (ne_of_none q h)]; exact q⟩)
  · exact .inr q
theorem sqT_set {p : Addr} {o ob : HO} (h : H p = some ob) (h1 : ∀ vs, ob ≠ .tup vs) (h2 : ∀ q vs, ob ≠ .frz q (.tup vs)) {a : Addr} {vs : List V} (q : SqT K H a vs) : SqT K (upd H p o) a vs := by
  rcases q with q | q
  · rcases q with q | ⟨ob', q⟩
    · exact .inl (.inl (by rw [upd_ne (fun e => by subst e; rw [h] at q; cases q; exact h1 _ rfl)]; exact q))
    · exact .inl (.inr ⟨ob', by rw [upd_ne (fun e => by subst e; rw [h] at q; cases q; exact h2 _ _ rfl)]; exact q⟩)
  · exact .inr q
theorem stay_upd {p : Addr} {o : HO} (h : H p = none) : Stay K H (upd H p o) := ⟨fun _ _ => sqT_upd h, fun a vs q => by
  rcases q with ⟨ob, q⟩ | q
  · exact .inl ⟨ob, by rw [upd_ne (ne_of_none q h)]; exact q⟩
  · exact .inr q⟩
theorem stay_set {p : Addr} {o ob : HO} (h : H p = some ob) (h1 : ∀ vs, ob ≠ .tup vs) (h2 : ∀ q vs, ob ≠ .frz q (.tup vs)) (h3 : ∀ q vs, ob ≠ .frz q (.lst vs)) : Stay K H (upd H p o) := ⟨fun _ _ => sqT_set h h1 h2, fun a vs q => by
  rcases q with ⟨ob', q⟩ | q
  · exact .inl ⟨ob', by rw [upd_ne (fun e => by subst e; rw [h] at q; cases q; exact h3 _ _ rfl)]; exact q⟩
  · exact .inr q⟩
/-- a new object that is no cell -/
theorem Go.new {p : Addr} {o : HO} (h : H p = none) : Go ι ι H (upd H p o) :=
  ⟨⟨[], by simp, by simp⟩, fun a ob e _ => by rw [upd_ne (ne_of_none e h)]; exact e, fun a ob u e => by rw [upd_ne (ne_of_none e h)]; exact e⟩
theorem Rep.new (R : Rep P w K ι H s) {p : Addr} {o : HO} (h : H p = none) : Rep P w K ι (upd H p o) s :=
  ⟨R.len, R.nd, fun i c a e e' => (R.cell i c a e e').mono (stay_upd h) (fun _ _ e => e) (by
    have : a ≠ p := fun z => R.notNone h (z ▸ List.mem_of_getElem? e')
    exact upd_ne this)⟩
/-- a new cell -/
theorem Go.push {p : Addr} {o : HO} (h : H p = none) : Go ι (ι ++ [p]) H (upd H p o) :=
  ⟨⟨[p], rfl, fun a ha => by rw [List.mem_singleton] at ha; subst ha; exact h⟩, fun a ob e _ => by rw [upd_ne (ne_of_none e h)]; exact e, fun a ob u e => by rw [upd_ne (ne_of_none e h)]; exact e⟩
theorem Rep.push (R : Rep P w K ι H s) {p : Addr} {o : HO} (h : H p = none) {c : C} (hc : CellAt P w K (ι ++ [p]) (upd H p o) c p) : Rep P w K (ι ++ [p]) (upd H p o) (s ++ [c]) := by
  have hp : p ∉ ι := R.notNone h
  refine ⟨by simp [R.len], List.nodup_append.mpr ⟨R.nd, by simp, fun a ha b hb => ?_⟩, fun i c' a e e' => ?_⟩
  · rw [List.mem_singleton] at hb; subst hb; intro z; exact hp (z ▸ ha)
  · have hl := R.len
    by_cases hi : i < s.length
    · rw [List.getElem?_append_left hi] at e
      rw [List.getElem?_append_left (by omega)] at e'
      refine (R.cell i c' a e e').mono (stay_upd h) (fun j b e => (Go.push (o := o) h).ix e) ?_
      have : a ≠ p := fun z => hp (z ▸ List.mem_of_getElem? e')
      exact upd_ne this
    · rw [List.getElem?_append_right (by omega)] at e e'
      have h1 : i - s.length = 0 := by
        have := (List.getElem?_eq_some_iff.mp e).1
        simp at this
        omega
      have h2 : i - ι.length = 0 := by omega
      rw [h1] at e; rw [h2] at e'
      simp at e e'
      subst e e'
      exact hc
/-- a cell written -/
theorem Go.set {p : Addr} {o ob : HO} (hp : p ∈ ι) (h : H p = some ob) (hf : ∀ q u, ob ≠ .frz q u) : Go ι ι H (upd H p o) :=
  ⟨⟨[], by simp, by simp⟩, fun a ob' e n => by rw [upd_ne (fun z => by subst z; exact n hp)]; exact e, fun a ob' u e => by rw [upd_ne (fun z => by subst z; rw [h] at e; cases e; exact hf _ _ rfl)]; exact e⟩
theorem Rep.set (R : Rep P w K ι H s) {i : Nat} {c0 c : C} {p : Addr} {o : HO} (_hs : s[i]? = some c0) (hp : ι[i]? = some p) (h1 : ∀ vs, H p ≠ some (.tup vs)) (h2 : ∀ q vs, H p ≠ some (.frz q (.tup vs))) (h3 : ∀ q vs, H p ≠ some (.frz q (.lst vs)))
    (hc : CellAt P w K ι (upd H p o) c p) : Rep P w K ι (upd H p o) (s.set i c) := by
  obtain ⟨ob, eo⟩ : ∃ ob, H p = some ob := by
    obtain ⟨_, _, _, _, q⟩ := R.cellOf (List.mem_of_getElem? hp)
    obtain ⟨o, e, _⟩ := q.there
    exact ⟨o, e⟩
  refine ⟨by simp [R.len], R.nd, fun j c' a e e' => ?_⟩
  by_cases hj : j = i
  · subst hj
    rw [hp] at e'; cases e'
    rw [List.getElem?_set_self (by have := (List.getElem?_eq_some_iff.mp _hs).1; omega)] at e
    cases e
    exact hc
  · rw [List.getElem?_set_ne (Ne.symm hj)] at e
    refine (R.cell j c' a e e').mono (stay_set eo (fun vs z => h1 vs (z ▸ eo)) (fun q vs z => h2 q vs (z ▸ eo)) (fun q vs z => h3 q vs (z ▸ eo))) (fun _ _ e => e) ?_
    refine upd_ne fun z => hj ?_
    subst z
    obtain ⟨l1, q1⟩ := List.getElem?_eq_some_iff.mp e'
    obtain ⟨l2, q2⟩ := List.getElem?_eq_some_iff.mp hp
    exact (List.getElem_inj R.nd).mp (q1.trans q2.symm)
end

/-! ### what is wanted behind a run -/
section
variable (P : Program) (w : World) (K : PySem.W.Frag)
def Ret (ι : List Addr) (H : Hp) (Q : VK) (d : D) (s : Sto) : Prop := ∀ v H' ι', Go ι ι' H H' → Rep P w K ι' H' s → RD K ι' H' d v → Q v H'
def Rets (ι : List Addr) (H : Hp) (Q : List V → Hp → Prop) (ds : List D) (s : Sto) : Prop := ∀ vs H' ι', Go ι ι' H H' → Rep P w K ι' H' s → RDs K ι' H' ds vs → Q vs H'
def RetB (ι : List Addr) (H : Hp) (Q : Bool → Hp → Prop) (b : Bool) (s : Sto) : Prop := ∀ H' ι', Go ι ι' H H' → Rep P w K ι' H' s → Q b H'
/-- an expression's reading by its run -/
def tD (run : Env → Sto → Option (D × Sto)) : TE := fun σ H Q => ∃ ι env s d s', RepE K ι H env σ ∧ Rep P w K ι H s ∧ run env s = some (d, s') ∧ Ret P w K ι H Q d s'
def tDs (run : Env → Sto → Option (List D × Sto)) : TA := fun σ H Q => ∃ ι env s ds s', RepE K ι H env σ ∧ Rep P w K ι H s ∧ run env s = some (ds, s') ∧ Rets P w K ι H Q ds s'
def tDT (run : Env → Sto → Option (D × Sto)) : TT := fun σ H Q => ∃ ι env s b s', RepE K ι H env σ ∧ Rep P w K ι H s ∧ run env s = some (.bl b, s') ∧ RetB P w K ι H Q b s'
end
section
variable {P : Program} {w : World} {K : PySem.W.Frag} {ι ι' ι1 : List Addr} {H H' H1 : Hp} {s s' s1 : Sto}
theorem Ret.go {Q : VK} {d : D} (R1 : Rep P w K ι1 H1 s1) (g : Go ι ι1 H H1) (h : Ret P w K ι H Q d s') : Ret P w K ι1 H1 Q d s' := fun v H' ι' g' R' r => h v H' ι' (g.trans R1 g') R' r
theorem Rets.go {Q : List V → Hp → Prop} {d : List D} (R1 : Rep P w K ι1 H1 s1) (g : Go ι ι1 H H1) (h : Rets P w K ι H Q d s') : Rets P w K ι1 H1 Q d s' := fun v H' ι' g' R' r => h v H' ι' (g.trans R1 g') R' r
theorem RetB.go {Q : Bool → Hp → Prop} {d : Bool} (R1 : Rep P w K ι1 H1 s1) (g : Go ι ι1 H H1) (h : RetB P w K ι H Q d s') : RetB P w K ι1 H1 Q d s' := fun H' ι' g' R' => h H' ι' (g.trans R1 g') R'
end
section
variable {X : Cx} {e : Expr}
theorem _root_.L2.PE.weak {t t' : TE} (h : PE X e t) (q : ∀ σ H Q, t' σ H Q → t σ H Q) : PE X e t' := ⟨fun pins s σ H Q I hw => h.run pins s σ H Q I (q σ H Q hw)⟩
theorem _root_.L2.PT.weak {t t' : TT} (h : PT X e t) (q : ∀ σ H Q, t' σ H Q → t σ H Q) : PT X e t' := ⟨fun pins s σ H Q I hw => h.run pins s σ H Q I (q σ H Q hw)⟩
theorem _root_.L2.PW.weak {t t' : TT} (h : PW X e t) (q : ∀ σ H Q, t' σ H Q → t σ H Q) : PW X e t' := ⟨fun wh pins s σ H Q I hw => h.run wh pins s σ H Q I (q σ H Q hw)⟩
theorem _root_.L2.PA.weak {es : List Expr} {t t' : TA} (h : PA X es t) (q : ∀ σ H Q, t' σ H Q → t σ H Q) : PA X es t' := ⟨fun pos pins s σ H Q I hw => h.run pos pins s σ H Q I (q σ H Q hw)⟩
theorem _root_.L2.PS.weak {st : Stmt} {t t' : TS} (h : PS X st t) (q : ∀ D σ H, t' D σ H → t D σ H) : PS X st t' := ⟨fun pins s σ H D I hw => h.run pins s σ H D I (q D σ H hw)⟩
theorem _root_.L2.PSs.weak {st : List Stmt} {t t' : TS} (h : PSs X st t) (q : ∀ D σ H, t' D σ H → t D σ H) : PSs X st t' := ⟨fun pins s σ H D I hw => h.run pins s σ H D I (q D σ H hw)⟩
end
end Ev
end

section
set_option autoImplicit false
set_option maxRecDepth 100000
/-! Ev5: values read as data; comparisons -/
namespace Ev
open PySem L2 PySem.SeqAt

section
variable {K : PySem.W.Frag} {X : Cx} {pins : List (Addr × Obj)} {σ : St} {H : Hp} {sh : Shared} {ι : List Addr} {s : Sto}

mutual
theorem readsW (I : Inv X pins σ H sh) {r : Nat → Option PyData} (hr : ∀ (i : Nat) (x : PyData) (a : Addr), ι[i]? = some a → r i = some x → ∃ as, Reads sh.heap (.ref a) x as) :
    ∀ {d : D} {v : V} {u : Value} {x : PyData}, RD X.K ι H d v → RelV v u → d.dataW r = some x → ∃ as, Reads sh.heap u x as
  | .non, v, u, x, h, q, e => by
    rw [RD] at h; subst h; cases q; simp [D.dataW] at e; subst e; exact ⟨_, .none⟩
  | .bl b, v, u, x, h, q, e => by
    rw [RD] at h; subst h; cases q; simp [D.dataW] at e; subst e; exact ⟨_, .bool b⟩
  | .int i, v, u, x, h, q, e => by
    rw [RD] at h; subst h; obtain ⟨t, rfl⟩ := q; simp [D.dataW] at e; subst e; exact ⟨_, .int i t⟩
  | .str i, v, u, x, h, q, e => by
    rw [RD] at h; subst h; obtain ⟨t, rfl⟩ := q; simp [D.dataW] at e; subst e; exact ⟨_, .str i t⟩
  | .tup ds, v, u, x, h, q, e => by
    rw [RD] at h
    obtain ⟨a, vs, rfl, hs, hd⟩ := h
    cases q
    simp only [D.dataW, Option.map_eq_some_iff] at e
    obtain ⟨xs, e1, rfl⟩ := e
    obtain ⟨its, rv, ⟨o, ho, hc, n, hda⟩, hz⟩ := I.tuple hs
    obtain ⟨as, ra⟩ := readsWs I hr hd rv e1
    exact ⟨as, .tuple ho hc hda (by simpa using ra)⟩
  | .ref i, v, u, x, h, q, e => by
    rw [RD] at h
    obtain ⟨a, rfl, hi⟩ := h
    cases q
    exact hr i x a hi (by simpa [D.dataW] using e)
  | .scr is, v, u, x, h, q, e => by simp [D.dataW] at e
theorem readsWs (I : Inv X pins σ H sh) {r : Nat → Option PyData} (hr : ∀ (i : Nat) (x : PyData) (a : Addr), ι[i]? = some a → r i = some x → ∃ as, Reads sh.heap (.ref a) x as) :
    ∀ {ds : List D} {vs : List V} {us : List Value} {xs : List PyData}, RDs X.K ι H ds vs → Vals vs us → D.dataWs r ds = some xs → ∃ as, ReadsAll sh.heap us xs as
  | [], vs, us, xs, h, q, e => by
    rw [RDs] at h; subst h; cases q; simp [D.dataWs] at e; subst e; exact ⟨_, .nil⟩
  | d :: ds, vs, us, xs, h, q, e => by
    rw [RDs] at h
    obtain ⟨v, t, rfl, h1, h2⟩ := h
    cases q with
    | cons q1 q2 =>
      simp only [D.dataWs, Option.bind_eq_some_iff, Option.map_eq_some_iff] at e
      obtain ⟨x, e1, ys, e2, rfl⟩ := e
      obtain ⟨as, r1⟩ := readsW I hr h1 q1 e1
      obtain ⟨bs, r2⟩ := readsWs I hr h2 q2 e2
      exact ⟨as ++ bs, .cons r1 r2⟩
end
theorem readsRef (I : Inv X pins σ H sh) (R : Rep X.prog X.w X.K ι H s) : ∀ (n i : Nat) (x : PyData) (a : Addr), ι[i]? = some a → refData s n i = some x → ∃ as, Reads sh.heap (.ref a) x as
  | 0, i, x, a, _, e => by simp [refData] at e
  | n + 1, i, x, a, hi, e => by
    rw [refData] at e
    cases hc : s[i]? with
    | none => rw [hc] at e; cases e
    | some c =>
      rw [hc] at e
      have q := R.cell i c a hc hi
      cases c with
      | lst ds =>
        simp only [Option.map_eq_some_iff] at e
        obtain ⟨xs, e1, rfl⟩ := e
        obtain ⟨vs, hv, rd⟩ := q
        obtain ⟨z, its, m, rv, ho⟩ := I.hok a _ hv
        obtain ⟨as, ra⟩ := readsWs I (fun i x a h1 h2 => readsRef I R n i x a h1 h2) rd rv e1
        exact ⟨_, .list ho rfl rfl (by simpa using ra)⟩
      | dct kvs =>
        simp only [C.kvs, Option.bind_some] at e
        split at e
        · cases e
          rename_i hk
          have hk' : kvs = [] := by simpa using hk
          subst hk'
          obtain ⟨u, hu, hq⟩ := q
          have : ∃ o es ep, sh.heap.get? a = some o ∧ o.cls = .type "dict" ∧ o.data = .dict es ep ∧ es.toList = [] := by
            rcases hq with ⟨kv', rfl, hp⟩ | ⟨xs, rfl, _, _, hp⟩
            · cases hp
              obtain ⟨_, _, vs, rel, o, es, ep, ho, hc, hda, _, hes, _⟩ := I.hok a _ hu
              cases rel
              refine ⟨o, es, ep, ho, hc.1, hda, ?_⟩
              generalize es.toList = l at hes
              cases hes
              rfl
            · cases hp
              obtain ⟨⟨_, o, es, ep, ho, hc, hda, hes⟩, _⟩ := I.hok a _ hu
              exact ⟨o, es, ep, ho, hc.1, hda, by simpa using hes⟩
          obtain ⟨o, es, ep, ho, hc, hda, hes⟩ := this
          exact ⟨_, .dict ho hc hda (by rw [hes]; exact .nil) (by rw [hes]; exact .nil)⟩
        · cases e
      | lck kvs =>
        simp only [C.kvs, Option.bind_some] at e
        split at e
        · cases e
          rename_i hk
          have hk' : kvs = [] := by simpa using hk
          subst hk'
          obtain ⟨o', u, hu, hq⟩ := q
          have : ∃ o es ep, sh.heap.get? a = some o ∧ o.cls = .type "dict" ∧ o.data = .dict es ep ∧ es.toList = [] := by
            have hok := (I.hok a _ hu).2
            rcases hq with ⟨kv', rfl, hp⟩ | ⟨xs, rfl, _, _, hp⟩
            · cases hp
              obtain ⟨_, _, vs, rel, o, es, ep, ho, hc, hda, _, hes, _⟩ := hok
              cases rel
              refine ⟨o, es, ep, ho, hc.1, hda, ?_⟩
              generalize es.toList = l at hes
              cases hes
              rfl
            · cases hp
              obtain ⟨⟨_, o, es, ep, ho, hc, hda, hes⟩, _⟩ := hok
              exact ⟨o, es, ep, ho, hc.1, hda, by simpa using hes⟩
          obtain ⟨o, es, ep, ho, hc, hda, hes⟩ := this
          exact ⟨_, .dict ho hc hda (by rw [hes]; exact .nil) (by rw [hes]; exact .nil)⟩
        · cases e
theorem reads_of (I : Inv X pins σ H sh) (R : Rep X.prog X.w X.K ι H s) {d : D} {v : V} {u : Value} {x : PyData} (h : RD X.K ι H d v) (q : RelV v u) (e : d.data s = some x) : ∃ as, Reads sh.heap u x as :=
  readsW I (readsRef I R 40) h q e
theorem reads_all (I : Inv X pins σ H sh) (R : Rep X.prog X.w X.K ι H s) {ds : List D} {vs : List V} {us : List Value} {xs : List PyData} (h : RDs X.K ι H ds vs) (q : Vals vs us) (e : dataAll s ds = some xs) : ∃ as, ReadsAll sh.heap us xs as :=
  readsWs I (readsRef I R 40) h q e
end

/-! ### comparisons -/
section
variable {X : Cx}
/-- a two-place operation on values that leaves the store: f the outcome -/
def rCmp (P : Program) (w : World) (K : PySem.W.Frag) (f : D → D → Sto → Option Bool) : R2 := fun vx vy H Q => ∃ ι s x y b, Rep P w K ι H s ∧ RD K ι H x vx ∧ RD K ι H y vy ∧ f x y s = some b ∧ Q (.bl b) H

theorem farL_len {s : Sto} {a b : D} (h : farL s a b = true) : ∃ i j x y, a = .ref i ∧ b = .ref j ∧ s[i]? = some (.lst x) ∧ s[j]? = some (.lst y) ∧ x.length ≠ y.length := by
  unfold farL at h
  split at h
  · split at h
    · rename_i i j _ _ x y h1 h2
      exact ⟨i, j, x, y, rfl, rfl, h1, h2, by simpa using h⟩
    · cases h
  · cases h
theorem op_eqD (hu : X.A.units + 200 < cLine) : OpR X (compareOp .Eq) (rCmp X.prog X.w X.K fun x y s => eqD s x y) := by
  intro pins sh σ H vx vy ux uy Q I rx ry h
  obtain ⟨ι, s, x, y, b, R, hx, hy, e, q⟩ := h
  replace e : eqD s x y = some b := e
  unfold eqD at e
  split at e
  · rename_i z1 z2 hz
    cases x <;> cases y <;> simp only [twoStr, reduceCtorEq, Option.some.injEq, Prod.mk.injEq] at hz
    obtain ⟨rfl, rfl⟩ := hz
    cases e
    rw [RD] at hx hy
    subst hx hy
    obtain ⟨t1, rfl⟩ := rx
    obtain ⟨t2, rfl⟩ := ry
    exact PyProof.Rows.eq_str ⟨.bl _, H, I, by rw [Bool.beq_eq_decide_eq]; rfl, q⟩
  by_cases hf : farL s x y = true
  · rw [if_pos hf] at e
    cases e
    obtain ⟨i, j, l1, l2, rfl, rfl, e1, e2, hne⟩ := farL_len hf
    obtain ⟨a1, rfl, _, w1, h1, r1⟩ := R.ofRef e1 hx
    obtain ⟨a2, rfl, _, w2, h2, r2⟩ := R.ofRef e2 hy
    cases rx; cases ry
    obtain ⟨z1, t1, n1, v1, o1⟩ := I.hok a1 _ h1
    obtain ⟨z2, t2, n2, v2, o2⟩ := I.hok a2 _ h2
    have l1' := r1.length; have l2' := r2.length; have l3 := v1.length; have l4 := v2.length
    exact RcAt.lists_lengths (items := t1.toArray) (items2 := t2.toArray) ⟨_, o1, rfl, _, rfl⟩ ⟨_, o2, rfl, _, rfl⟩ (by simp; omega) (by omega) X.prog X.w X.xe _ ⟨.bl false, H, I, rfl, q⟩
  · rw [if_neg hf] at e
    simp only [Option.bind_eq_some_iff] at e
    obtain ⟨dx, e1, dy, e2, e3⟩ := e
    split at e3
    · cases e3
      rename_i hc
      simp only [Bool.and_eq_true, decide_eq_true_eq] at hc
      obtain ⟨as, ra⟩ := reads_of I R hx rx e1
      obtain ⟨bs, rb⟩ := reads_of I R hy ry e2
      have hd : min dx.depth dy.depth ≤ 100 := hc.2
      exact compareEq_reads ra rb hc.1.1 hc.1.2 (by omega) ⟨.bl _, H, I, rfl, q⟩
    · cases e3
theorem op_neD (hu : X.A.units + 200 < cLine) : OpR X (compareOp .NotEq) (rCmp X.prog X.w X.K fun x y s => (eqD s x y).map (!·)) := by
  intro pins sh σ H vx vy ux uy Q I rx ry h
  obtain ⟨ι, s, x, y, b, R, hx, hy, e, q⟩ := h
  simp only [Option.map_eq_some_iff] at e
  obtain ⟨b', e, rfl⟩ := e
  replace e : eqD s x y = some b' := e
  unfold eqD at e
  split at e
  · rename_i z1 z2 hz
    cases x <;> cases y <;> simp only [twoStr, reduceCtorEq, Option.some.injEq, Prod.mk.injEq] at hz
    obtain ⟨rfl, rfl⟩ := hz
    cases e
    rw [RD] at hx hy
    subst hx hy
    obtain ⟨t1, rfl⟩ := rx
    obtain ⟨t2, rfl⟩ := ry
    exact PyProof.Rows.ne_str ⟨.bl _, H, I, by rw [bne, Bool.beq_eq_decide_eq]; rfl, q⟩
  by_cases hf : farL s x y = true
  · rw [if_pos hf] at e
    cases e
    obtain ⟨i, j, l1, l2, rfl, rfl, e1, e2, hne⟩ := farL_len hf
    obtain ⟨a1, rfl, _, w1, h1, r1⟩ := R.ofRef e1 hx
    obtain ⟨a2, rfl, _, w2, h2, r2⟩ := R.ofRef e2 hy
    cases rx; cases ry
    obtain ⟨z1, t1, n1, v1, o1⟩ := I.hok a1 _ h1
    obtain ⟨z2, t2, n2, v2, o2⟩ := I.hok a2 _ h2
    have l1' := r1.length; have l2' := r2.length; have l3 := v1.length; have l4 := v2.length
    exact RcNeAt.lists_lengths (items := t1.toArray) (items2 := t2.toArray) ⟨_, o1, rfl, _, rfl⟩ ⟨_, o2, rfl, _, rfl⟩ (by simp; omega) (by omega) X.prog X.w X.xe _ ⟨.bl true, H, I, rfl, q⟩
  · rw [if_neg hf] at e
    simp only [Option.bind_eq_some_iff] at e
    obtain ⟨dx, e1, dy, e2, e3⟩ := e
    split at e3
    · cases e3
      rename_i hc
      simp only [Bool.and_eq_true, decide_eq_true_eq] at hc
      obtain ⟨as, ra⟩ := reads_of I R hx rx e1
      obtain ⟨bs, rb⟩ := reads_of I R hy ry e2
      have hd : min dx.depth dy.depth ≤ 100 := hc.2
      exact compareNe_reads ra rb hc.1.1 hc.1.2 (by omega) ⟨.bl _, H, I, rfl, q⟩
    · cases e3
theorem op_ltD (hu : X.A.units + 200 < cLine) : OpR X (compareOp .Lt) (rCmp X.prog X.w X.K fun x y s => ltD s x y) := by
  intro pins sh σ H vx vy ux uy Q I rx ry h
  obtain ⟨ι, s, x, y, b, R, hx, hy, e, q⟩ := h
  replace e : ltD s x y = some b := e
  unfold ltD at e
  simp only [Option.bind_eq_some_iff] at e
  obtain ⟨dx, e1, dy, e2, e3⟩ := e
  split at e3
  · cases e3
    rename_i hc
    simp only [Bool.and_eq_true, decide_eq_true_eq] at hc
    obtain ⟨as, ra⟩ := reads_of I R hx rx e1
    obtain ⟨bs, rb⟩ := reads_of I R hy ry e2
    have hd : min dx.depth dy.depth ≤ 100 := hc.2
    exact PySem.W.rcLt_alike dx dy X.A sh ux uy as bs ra rb hc.1.1 (fun z => by subst z; simp [notNone] at hc) (by omega) X.prog X.w X.xe _ ⟨.bl _, H, I, rfl, q⟩
  · cases e3
end
end Ev
end

section
set_option autoImplicit false
set_option maxRecDepth 100000
set_option linter.unusedVariables false
/-! Ev6: operators, subscripts, slices by values -/
namespace Ev
open PySem L2 PySem.SeqAt

theorem L_eq : L = sizeLine := by rw [sizeLine_eq]; rfl

section
variable {P : Program} {w : World} {K : PySem.W.Frag} {ι : List Addr} {H : Hp} {s s' : Sto} {Q : VK} {d : D}
theorem Ret.here {v : V} (h : Ret P w K ι H Q d s) (R : Rep P w K ι H s) (r : RD K ι H d v) : Q v H := h v H ι Go.refl R r
theorem Ret.int {i : Int} (h : Ret P w K ι H Q (.int i) s) (R : Rep P w K ι H s) : Q (.int i) H := h.here R (by rw [RD])
theorem Ret.bl {i : Bool} (h : Ret P w K ι H Q (.bl i) s) (R : Rep P w K ι H s) : Q (.bl i) H := h.here R (by rw [RD])
theorem Ret.str {i : Str} (h : Ret P w K ι H Q (.str i) s) (R : Rep P w K ι H s) : Q (.str i) H := h.here R (by rw [RD])
theorem Ret.non (h : Ret P w K ι H Q .non s) (R : Rep P w K ι H s) : Q .non H := h.here R (by rw [RD])
theorem Ret.tup {ds : List D} {a : Addr} {vs : List V} (h : Ret P w K ι H Q (.tup ds) s) (R : Rep P w K ι H s) (q : SqT K H a vs) (r : RDs K ι H ds vs) : Q (.ref a) H := h.here R (by rw [RD]; exact ⟨a, vs, rfl, q, r⟩)
/-- a new tuple -/
theorem Ret.newT {ds : List D} {vs : List V} (h : Ret P w K ι H Q (.tup ds) s) (R : Rep P w K ι H s) (r : RDs K ι H ds vs) {p : Addr} (hp : H p = none) : Q (.ref p) (upd H p (.tup vs)) := by
  refine h _ _ ι (Go.new hp) (R.new hp) ?_
  rw [RD]
  exact ⟨p, vs, rfl, .inl (.inl upd_same), r.mono (stay_upd hp) (fun _ _ e => e)⟩
/-- a new list -/
theorem Ret.newL {ds : List D} {vs : List V} (h : Ret P w K ι H Q (.ref s.length) (s ++ [.lst ds])) (R : Rep P w K ι H s) (r : RDs K ι H ds vs) {p : Addr} (hp : H p = none) : Q (.ref p) (upd H p (.lst vs)) := by
  have g : Go ι (ι ++ [p]) H (upd H p (.lst vs)) := Go.push hp
  refine h _ _ (ι ++ [p]) g (R.push hp ⟨vs, upd_same, g.rds R r⟩) ?_
  rw [RD]
  exact ⟨p, rfl, by rw [List.getElem?_append_right (by rw [R.len]; omega), R.len]; simp⟩
theorem RDs_ints : ∀ {ds : List D} {vs : List V} {ns : List Int}, RDs K ι H ds vs → intsD ds = some ns → vs = ns.map V.int
  | [], vs, ns, h, e => by rw [RDs] at h; subst h; simp [intsD] at e; subst e; rfl
  | d :: ds, vs, ns, h, e => by
    rw [RDs] at h
    obtain ⟨v, r, rfl, h1, h2⟩ := h
    cases d with
    | int i =>
      rw [RD] at h1; subst h1
      simp only [intsD, Option.map_eq_some_iff] at e
      obtain ⟨ms, e1, rfl⟩ := e
      rw [RDs_ints h2 e1]; rfl
    | _ => simp [intsD] at e
theorem RDs_bools : ∀ {ds : List D} {vs : List V} {ns : List Bool}, RDs K ι H ds vs → boolsD ds = some ns → vs = ns.map V.bl
  | [], vs, ns, h, e => by rw [RDs] at h; subst h; simp [boolsD] at e; subst e; rfl
  | d :: ds, vs, ns, h, e => by
    rw [RDs] at h
    obtain ⟨v, r, rfl, h1, h2⟩ := h
    cases d with
    | bl i =>
      rw [RD] at h1; subst h1
      simp only [boolsD, Option.map_eq_some_iff] at e
      obtain ⟨ms, e1, rfl⟩ := e
      rw [RDs_bools h2 e1]; rfl
    | _ => simp [boolsD] at e
end

/-! ### two-place operators -/
def rBin (P : Program) (w : World) (K : PySem.W.Frag) (f : D → D → Sto → Option (D × Sto)) : R2 := fun vx vy H Q => ∃ ι s x y d s', Rep P w K ι H s ∧ RD K ι H x vx ∧ RD K ι H y vy ∧ f x y s = some (d, s') ∧ Ret P w K ι H Q d s'

section
variable {X : Cx}
theorem mulOk_ok {i j : Int} (h : mulOk i j = true) : IntMulOk i j := by
  unfold mulOk at h
  simp only [Bool.or_eq_true, decide_eq_true_eq] at h
  rcases h with (h | h) | h
  · exact CMulW.ok h
  · exact .of_left (intBits_le_64 (by omega) (by omega))
  · exact .of_right (intBits_le_64 (by omega) (by omega))
theorem op_binD (op : Operator) : OpR X (binaryOp op) (rBin X.prog X.w X.K fun x y s => binD op x y s) := by
  intro pins sh σ H vx vy ux uy Q I rx ry h
  obtain ⟨ι, s, x, y, d, s', R, hx, hy, e, q⟩ := h
  replace e : binD op x y s = some (d, s') := e
  unfold binD at e
  split at e
  · rename_i i j
    cases e
    rw [RD] at hx hy; subst hx hy
    exact op_add pins sh σ H _ _ ux uy Q I rx ry ⟨i, j, rfl, rfl, q.int R⟩
  · rename_i i j
    cases e
    rw [RD] at hx hy; subst hx hy
    exact op_sub pins sh σ H _ _ ux uy Q I rx ry ⟨i, j, rfl, rfl, q.int R⟩
  · rename_i i j
    split at e
    · rename_i hm
      cases e
      rw [RD] at hx hy; subst hx hy
      exact (opI (X := X) (C := IntMulOk) (g := fun i j => i * j) fun _ _ _ _ _ _ _ hc z => PyProof.Rows.mul_int z hc) pins sh σ H _ _ ux uy Q I rx ry ⟨i, j, rfl, rfl, mulOk_ok hm, q.int R⟩
    · cases e
  · rename_i i j
    split at e
    · rename_i hm
      cases e
      unfold divOk at hm
      simp only [Bool.and_eq_true, decide_eq_true_eq] at hm
      rw [RD] at hx hy; subst hx hy
      exact (opI (X := X) (C := fun _ j => j ≠ 0 ∧ j.natAbs.log2 < 9000) (g := fun i j => i.fdiv j) fun _ _ _ _ _ _ _ hc z => PyProof.Rows.floordiv_int hc.1 z (.inl (PyProof.noPylong_of_log2 hc.2))) pins sh σ H _ _ ux uy Q I rx ry ⟨i, j, rfl, rfl, hm, q.int R⟩
    · cases e
  · rename_i i j
    split at e
    · rename_i hm
      cases e
      unfold divOk at hm
      simp only [Bool.and_eq_true, decide_eq_true_eq] at hm
      rw [RD] at hx hy; subst hx hy
      exact op_modN pins sh σ H _ _ ux uy Q I rx ry ⟨i, j, rfl, rfl, hm.1, q.int R⟩
    · cases e
  · rename_i a b
    unfold newT at e
    split at e
    · rename_i hl
      cases e
      rw [RD] at hx hy
      obtain ⟨a1, xs, rfl, h1, r1⟩ := hx
      obtain ⟨a2, ys, rfl, h2, r2⟩ := hy
      have l1 := r1.length; have l2 := r2.length
      refine op_catA pins sh σ H _ _ ux uy Q I rx ry ⟨a1, a2, xs, ys, rfl, rfl, h1, h2, ?_, fun hz => ?_, fun _ hz => ?_, fun _ _ p hp => ?_⟩
      · rw [L_eq] at hl; simp at hl; omega
      · subst hz
        have : a = [] := List.length_eq_zero_iff.mp (by simpa using l1.symm)
        subst this
        exact q.tup R h2 r2
      · subst hz
        have : b = [] := List.length_eq_zero_iff.mp (by simpa using l2.symm)
        subst this
        rw [List.append_nil] at q
        exact q.tup R h1 r1
      · exact q.newT R (r1.append r2) hp
    · cases e
  · rename_i a b
    split at e
    · rename_i hl
      cases e
      rw [RD] at hx hy; subst hx hy
      refine op_add_str pins sh σ H _ _ ux uy Q I rx ry ⟨a, b, rfl, rfl, ?_, q.str R⟩
      rw [L_eq] at hl
      have : (a ++ b).length = a.length + b.length := by rw [PySem.strLen_append]
      omega
    · cases e
  · rename_i i j
    split at e
    · rename_i a b h1 h2
      unfold newL at e
      split at e
      · rename_i hl
        cases e
        obtain ⟨a1, rfl, _, vs1, e1, r1⟩ := R.ofRef h1 hx
        obtain ⟨a2, rfl, _, vs2, e2, r2⟩ := R.ofRef h2 hy
        have l1 := r1.length; have l2 := r2.length
        refine op_cat pins sh σ H _ _ ux uy Q I rx ry ⟨a1, a2, vs1, vs2, rfl, rfl, e1, e2, ?_, fun p hp => q.newL R (r1.append r2) hp⟩
        rw [L_eq] at hl; simp at hl; omega
      · cases e
    · cases e
  · cases e
end
end Ev
end

section
set_option autoImplicit false
set_option maxRecDepth 100000
set_option linter.unusedVariables false
/-! Ev7: dicts by values -/
namespace Ev
open PySem L2 PySem.SeqAt

theorem dK_inj {a b : Key} (h : dK a = dK b) : a = b := by
  cases a <;> cases b <;> simp_all [dK]
theorem atomK_dK {d : D} (h : atomK d = true) : ∃ k, d = dK k := by
  cases d with
  | int i => exact ⟨.inl i, rfl⟩
  | str x => exact ⟨.inr x, rfl⟩
  | _ => simp [atomK] at h
theorem atomK_of (k : Key) : atomK (dK k) = true := by cases k <;> rfl
theorem tupK_nk {d : D} (h : tupK d = true) : ∃ ds ks, d = .tup ds ∧ D.nks ds = some ks ∧ d.nk = some (.tup ks) ∧ (NestedKey.tup ks).depth ≤ 8 := by
  cases d with
  | tup ds =>
    unfold tupK at h
    simp only at h
    split at h
    · rename_i ks e
      exact ⟨ds, ks, rfl, e, by simp [D.nk, e], of_decide_eq_true h⟩
    · cases h
  | _ => simp [tupK] at h
theorem RD_dK {K : PySem.W.Frag} {ι : List Addr} {H : Hp} {k : Key} {v : V} (h : RD K ι H (dK k) v) : v = kV k := by
  cases k with
  | inl i => have h : RD K ι H (.int i) v := h; rw [RD] at h; exact h
  | inr x => have h : RD K ι H (.str x) v := h; rw [RD] at h; exact h

section
variable {P : Program} {w : World} {K : PySem.W.Frag} {ι : List Addr} {H : Hp}
theorem paired_get {α β : Type} {F : α → β → Prop} : ∀ {l : List α} {m : List β} {i : Nat} {a : α}, Paired F l m → l[i]? = some a → ∃ b, m[i]? = some b ∧ F a b
  | _, _, _, _, .nil, e => by simp at e
  | _, _, 0, _, .cons r _, e => by simp at e; subst e; exact ⟨_, rfl, r⟩
  | _, _, i + 1, a, .cons _ t, e => by
    obtain ⟨b, h1, h2⟩ := paired_get (i := i) (a := a) t (by simpa using e)
    exact ⟨b, by simpa using h1, h2⟩
theorem dget_cons_pos {p : D × D} {r : List (D × D)} {k : D} (e : p.1 = k) : dget (p :: r) k = some p.2 := by simp [dget, e]
theorem dget_cons_neg {p : D × D} {r : List (D × D)} {k : D} (e : ¬ p.1 = k) : dget (p :: r) k = dget r k := by simp [dget, e]
/-- a look-up -/
theorem atom_get {k : Key} : ∀ {kvs : List (D × D)} {kv' : List (Key × V)}, Paired (atomKV K ι H) kvs kv' →
    (∀ d, dget kvs (dK k) = some d → ∃ v, valV kv' k = some v ∧ RD K ι H d v) ∧ (dget kvs (dK k) = none → valV kv' k = none)
  | _, _, .nil => ⟨fun d e => by simp [dget] at e, fun _ => rfl⟩
  | _, _, .cons (a := p) (b := q) (l₁ := r) (l₂ := r') ⟨h1, h2⟩ t => by
    by_cases e : q.1 = k
    · rw [dget_cons_pos (by rw [h1, e]), valV_pos e]
      exact ⟨fun d z => by cases z; exact ⟨_, rfl, h2⟩, fun z => by cases z⟩
    · rw [dget_cons_neg (by rw [h1]; exact fun z => e (dK_inj z)), valV_neg e]
      exact atom_get t
theorem nest_get {k : D} {nk : NestedKey} (hk : k.nk = some nk) : ∀ {kvs : List (D × D)} {xs : List (NestedKey × Addr × Value)}, Paired (nestKV K ι H) kvs xs →
    (∀ d, dget kvs k = some d → ∃ p v, atKey xs nk = some p ∧ RelV v p.2 ∧ RD K ι H d v) ∧ (dget kvs k = none → atKey xs nk = none)
  | _, _, .nil => ⟨fun d e => by simp [dget] at e, fun _ => rfl⟩
  | _, _, .cons (a := p) (b := x) (l₁ := r) (l₂ := r') ⟨h1, h2, h3, v, h4, h5⟩ t => by
    by_cases e : x.1 = nk
    · have : p.1 = k := D.nk_inj h1 (by rw [e]; exact hk)
      rw [dget_cons_pos this]
      have : atKey (x :: r') nk = some x.2 := by simp [atKey, e]
      rw [this]
      exact ⟨fun d z => by cases z; exact ⟨_, v, rfl, h4, h5⟩, fun z => by cases z⟩
    · have : ¬ p.1 = k := fun z => e (by rw [z, hk] at h1; exact (Option.some.inj h1).symm)
      rw [dget_cons_neg this]
      have : atKey (x :: r') nk = atKey r' nk := by simp [atKey, e]
      rw [this]
      exact nest_get hk t
theorem Paired.append' {α β : Type} {F : α → β → Prop} : ∀ {a b : List α} {x y : List β}, Paired F a x → Paired F b y → Paired F (a ++ b) (x ++ y)
  | _, _, _, _, .nil, s => s
  | _, _, _, _, .cons r t, s => .cons r (Paired.append' t s)
theorem atom_any {k : Key} : ∀ {kvs : List (D × D)} {kv' : List (Key × V)}, Paired (atomKV K ι H) kvs kv' → (kvs.any fun kv => decide (kv.1 = dK k)) = (kv'.any fun kv => decide (kv.1 = k))
  | _, _, .nil => rfl
  | _, _, .cons (a := p) (b := q) ⟨h1, h2⟩ t => by
    rw [List.any_cons, List.any_cons, atom_any t, h1]
    congr 1
    by_cases e : q.1 = k
    · simp [e]
    · rw [decide_eq_false e, decide_eq_false fun z => e (dK_inj z)]
theorem atom_map {k : Key} {d : D} {v : V} (rv : RD K ι H d v) : ∀ {kvs : List (D × D)} {kv' : List (Key × V)}, Paired (atomKV K ι H) kvs kv' →
    Paired (atomKV K ι H) (kvs.map fun kv => if kv.1 = dK k then (kv.1, d) else kv) (kv'.map fun kv => if kv.1 = k then (kv.1, v) else kv)
  | _, _, .nil => .nil
  | _, _, .cons (a := p) (b := q) ⟨h1, h2⟩ t => by
    rw [List.map_cons, List.map_cons]
    refine .cons ?_ (atom_map rv t)
    by_cases e : q.1 = k
    · rw [if_pos e, if_pos (by rw [h1, e])]; exact ⟨h1, rv⟩
    · rw [if_neg e, if_neg (by rw [h1]; exact fun z => e (dK_inj z))]; exact ⟨h1, h2⟩
theorem atom_put {k : Key} {d : D} {v : V} (rv : RD K ι H d v) {kvs : List (D × D)} {kv' : List (Key × V)} (h : Paired (atomKV K ι H) kvs kv') : Paired (atomKV K ι H) (dput kvs (dK k) d) (putK kv' k v) := by
  unfold dput putK
  rw [atom_any h]
  split
  · exact atom_map rv h
  · exact Paired.append' h (.cons ⟨rfl, rv⟩ .nil)
theorem nest_any {k : D} {nk : NestedKey} (hk : k.nk = some nk) : ∀ {kvs : List (D × D)} {xs : List (NestedKey × Addr × Value)}, Paired (nestKV K ι H) kvs xs → (kvs.any fun kv => decide (kv.1 = k)) = (atKey xs nk).isSome
  | _, _, .nil => rfl
  | _, _, .cons (a := p) (b := x) (l₂ := r') ⟨h1, h2, h3, v, h4, h5⟩ t => by
    rw [List.any_cons, nest_any hk t]
    by_cases e : x.1 = nk
    · have : p.1 = k := D.nk_inj h1 (by rw [e]; exact hk)
      have e2 : atKey (x :: r') nk = some x.2 := by simp [atKey, e]
      rw [decide_eq_true this, e2]; rfl
    · have : ¬ p.1 = k := fun z => e (by rw [z, hk] at h1; exact (Option.some.inj h1).symm)
      have e2 : atKey (x :: r') nk = atKey r' nk := by simp [atKey, e]
      rw [decide_eq_false this, e2]; rfl
theorem nest_map {k : D} {nk : NestedKey} (hk : k.nk = some nk) {d : D} {v : V} {u : Value} (ru : RelV v u) (rv : RD K ι H d v) : ∀ {kvs : List (D × D)} {xs : List (NestedKey × Addr × Value)}, Paired (nestKV K ι H) kvs xs →
    Paired (nestKV K ι H) (kvs.map fun kv => if kv.1 = k then (kv.1, d) else kv) (xs.map (putAt nk u))
  | _, _, .nil => .nil
  | _, _, .cons (a := p) (b := x) ⟨h1, h2, h3, v', h4, h5⟩ t => by
    rw [List.map_cons, List.map_cons]
    refine .cons ?_ (nest_map hk ru rv t)
    unfold putAt
    by_cases e : x.1 = nk
    · rw [if_pos e, if_pos (D.nk_inj h1 (by rw [e]; exact hk))]; exact ⟨h1, h2, h3, v, ru, rv⟩
    · rw [if_neg e, if_neg (fun z => e (by rw [z, hk] at h1; exact (Option.some.inj h1).symm))]; exact ⟨h1, h2, h3, v', h4, h5⟩
theorem nest_put {k : D} {nk : NestedKey} (hk : k.nk = some nk) (hd : nk.depth ≤ 8) {b : Addr} (rk : RD K ι H k (.ref b)) {d : D} {v : V} {u : Value} (ru : RelV v u) (rv : RD K ι H d v) {kvs : List (D × D)} {xs : List (NestedKey × Addr × Value)} (h : Paired (nestKV K ι H) kvs xs) :
    Paired (nestKV K ι H) (dput kvs k d) (storedH xs nk b u) := by
  unfold dput storedH
  rw [nest_any hk h]
  split
  · exact nest_map hk ru rv h
  · exact Paired.append' h (.cons ⟨hk, hd, rk, v, ru, rv⟩ .nil)
end

section
variable {X : Cx} {pins : List (Addr × Obj)} {σ : St} {H : Hp} {sh : Shared} {ι : List Addr} {s : Sto}
mutual
theorem nestIs (I : Inv X pins σ H sh) : ∀ {d : D} {v : V} {u : Value} {k : NestedKey}, RD X.K ι H d v → RelV v u → d.nk = some k → NestedIs sh.heap k u
  | .non, v, u, k, h, q, e => by rw [RD] at h; subst h; cases q; simp [D.nk] at e; subst e; exact .none
  | .bl b, v, u, k, h, q, e => by simp [D.nk] at e
  | .int i, v, u, k, h, q, e => by rw [RD] at h; subst h; obtain ⟨t, rfl⟩ := q; simp [D.nk] at e; subst e; exact .int i t
  | .str x, v, u, k, h, q, e => by rw [RD] at h; subst h; obtain ⟨t, rfl⟩ := q; simp [D.nk] at e; subst e; exact .text x t
  | .tup ds, v, u, k, h, q, e => by
    rw [RD] at h
    obtain ⟨a, vs, rfl, hs, hd⟩ := h
    cases q
    simp only [D.nk, Option.map_eq_some_iff] at e
    obtain ⟨ks, e1, rfl⟩ := e
    obtain ⟨its, rv, ⟨o, ho, hc, n, hda⟩, hz⟩ := I.tuple hs
    exact .tup ho hc hda (by simpa using nestAll I hd rv e1)
  | .ref i, v, u, k, h, q, e => by simp [D.nk] at e
  | .scr _, v, u, k, h, q, e => by simp [D.nk] at e
theorem nestAll (I : Inv X pins σ H sh) : ∀ {ds : List D} {vs : List V} {us : List Value} {ks : List NestedKey}, RDs X.K ι H ds vs → Vals vs us → D.nks ds = some ks → NestedAll sh.heap ks us
  | [], vs, us, ks, h, q, e => by rw [RDs] at h; subst h; cases q; simp [D.nks] at e; subst e; exact .nil
  | d :: ds, vs, us, ks, h, q, e => by
    rw [RDs] at h
    obtain ⟨v, t, rfl, h1, h2⟩ := h
    cases q with
    | cons q1 q2 =>
      simp only [D.nks, Option.bind_eq_some_iff, Option.map_eq_some_iff] at e
      obtain ⟨x, e1, ys, e2, rfl⟩ := e
      exact .cons (nestIs I h1 q1 e1) (nestAll I h2 q2 e2)
end
/-- the dict at a is to be read -/
def DRd (H : Hp) (a : Addr) (u : HO) : Prop := H a = some u ∨ ∃ o, H a = some (.frz o u)
theorem CellAt.drd {P : Program} {w : World} {K : PySem.W.Frag} {c : C} {a : Addr} {kvs : List (D × D)} (h : CellAt P w K ι H c a) (e : c.kvs = some kvs) : ∃ u, DRd H a u ∧ DctAt P w K ι H kvs a u := by
  cases c with
  | lst ds => simp [C.kvs] at e
  | dct k => simp only [C.kvs, Option.some.injEq] at e; subst e; obtain ⟨u, h1, h2⟩ := h; exact ⟨u, .inl h1, h2⟩
  | lck k => simp only [C.kvs, Option.some.injEq] at e; subst e; obtain ⟨o, u, h1, h2⟩ := h; exact ⟨u, .inr ⟨o, h1⟩, h2⟩
theorem DRd.ok (I : Inv X pins σ H sh) {a : Addr} {u : HO} (h : DRd H a u) : ObjOk X.prog X.w H sh.heap a u := by
  rcases h with h | ⟨o, h⟩
  · exact I.hok a u h
  · exact (I.hok a _ h).2
/-- .. as a dict of ints and texts -/
theorem dictA (I : Inv X pins σ H sh) {a : Addr} {u : HO} {kvs : List (D × D)} (hr : DRd H a u) (h : DctAt X.prog X.w X.K ι H kvs a u) (hk : (kvs.all fun kv => atomK kv.1) = true) :
    ∃ kv' vs, Paired (atomKV X.K ι H) kvs kv' ∧ KV kv' vs ∧ sh.heap.DictOf (mixKind X.prog X.w) a vs ∧ (a == sysModules) = false ∧ kv'.length ≤ sizeLine := by
  have ok := hr.ok I
  rcases h with ⟨kv', rfl, hp⟩ | ⟨xs, rfl, hl, hn, hp⟩
  · obtain ⟨z, hs, vs, rel, dd⟩ := ok
    exact ⟨kv', vs, hp, rel, dd, hs, z⟩
  · obtain ⟨⟨hs, o, es, ep, ho, hc, hda, hes⟩, _⟩ := ok
    cases hp with
    | nil =>
      have e : es = #[] := by simpa using hes
      subst e
      refine ⟨[], [], .nil, .nil, ⟨o, #[], ep, ho, hc, hda, ?_, .nil, List.nodup_nil⟩, hs, Nat.zero_le _⟩
      intro i; simp
    | cons q t =>
      obtain ⟨h1, h2, h3, v, h4, h5⟩ := q
      rename_i p x r r'
      simp only [List.all_cons, Bool.and_eq_true] at hk
      obtain ⟨k, e⟩ := atomK_dK hk.1
      rw [e] at h3
      have := RD_dK h3
      cases k <;> cases this
/-- .. as a dict of tuples -/
theorem dictN (I : Inv X pins σ H sh) {a : Addr} {u : HO} {kvs : List (D × D)} (hr : DRd H a u) (h : DctAt X.prog X.w X.K ι H kvs a u) (hk : (kvs.all fun kv => tupK kv.1) = true) :
    ∃ xs, Paired (nestKV X.K ι H) kvs xs ∧ sh.heap.DictOfH (nestedKind X.prog X.w) a xs ∧ (a == sysModules) = false ∧ xs.length ≤ sizeLine := by
  have ok := hr.ok I
  rcases h with ⟨kv', rfl, hp⟩ | ⟨xs, rfl, hl, hn, hp⟩
  · obtain ⟨z, hs, vs, rel, dd⟩ := ok
    cases hp with
    | nil =>
      cases rel
      obtain ⟨o, es, ep, ho, hc, hda, _, hes, _⟩ := dd
      refine ⟨[], .nil, ⟨o, es, ep, ho, hc, hda, ?_, by simp, by simp⟩, hs, Nat.zero_le _⟩
      generalize es.toList = l at hes
      cases hes
      rfl
    | cons q t =>
      obtain ⟨h1, h2⟩ := q
      simp only [List.all_cons, Bool.and_eq_true] at hk
      rw [h1] at hk
      rename_i p x r r'
      have := hk.1
      cases hx : x.1 <;> simp [hx, dK, tupK] at this
  · obtain ⟨⟨hs, o, es, ep, ho, hc, hda, hes⟩, _⟩ := ok
    refine ⟨xs, hp, ⟨o, es, ep, ho, hc, hda, hes, fun x hx => ?_, hn⟩, hs, hl⟩
    obtain ⟨i, hi⟩ := List.mem_iff_getElem?.mp hx
    have : ∃ p, kvs[i]? = some p ∧ nestKV X.K ι H p x := by
      have hlen := Paired.length hp
      have hlt : i < kvs.length := by
        have := (List.getElem?_eq_some_iff.mp hi).1
        omega
      obtain ⟨b, e1, e2⟩ := paired_get hp (List.getElem?_eq_getElem hlt)
      rw [hi] at e1; cases e1
      exact ⟨_, List.getElem?_eq_getElem hlt, e2⟩
    obtain ⟨p, _, h1, h2, h3, _⟩ := this
    exact ⟨nestIs I h3 rfl h1, h2⟩
theorem keyFits_cases {kvs : List (D × D)} {k : D} (h : keyFits kvs k = true) : (∃ q, k = dK q ∧ (kvs.all fun kv => atomK kv.1) = true) ∨ (∃ ds ks, k = .tup ds ∧ k.nk = some (.tup ks) ∧ (NestedKey.tup ks).depth ≤ 8 ∧ (kvs.all fun kv => tupK kv.1) = true) := by
  unfold keyFits at h
  simp only [Bool.or_eq_true, Bool.and_eq_true] at h
  rcases h with ⟨h1, h2⟩ | ⟨h1, h2⟩
  · obtain ⟨q, e⟩ := atomK_dK h1
    exact .inl ⟨q, e, h2⟩
  · obtain ⟨ds, ks, e, _, e2, e3⟩ := tupK_nk h1
    exact .inr ⟨ds, ks, e, e2, e3, h2⟩
theorem room_nk {X : Cx} (hu : X.A.units + 200 < cLine) : (nestedKind X.prog X.w).room X.A.in1 := by
  show X.A.units + 1 + 8 < cLine
  omega

/-- d[k], there -/
theorem dGetItem {E : Value → Shared → Prop} {Q : Value → Shared → Prop} (hu : X.A.units + 200 < cLine) (I : Inv X pins σ H sh) {a : Addr} {u : HO} {kvs : List (D × D)} (hr : DRd H a u) (h : DctAt X.prog X.w X.K ι H kvs a u) {k d : D} (hf : keyFits kvs k = true) (hg : dget kvs k = some d)
    {vk : V} {uk : Value} (rk : RD X.K ι H k vk) (ru : RelV vk uk) (q : ∀ v u' s', Inv X pins σ H s' → RelV v u' → RD X.K ι H d v → Q u' s') : wpAny (model X.prog X.w) X.A (getItem (.ref a) uk) Q E sh := by
  rcases keyFits_cases hf with ⟨kk, rfl, hk⟩ | ⟨ds, ks, rfl, hnk, hdp, hk⟩
  · obtain ⟨kv', vs, hp, rel, dd, hs, _⟩ := dictA I hr h hk
    obtain ⟨v, hv, rv⟩ := (atom_get hp).1 d hg
    have := RD_dK rk; subst this
    obtain ⟨w', hw, rw'⟩ := RelO.some_of (v := v) (o := valueAt vs kk) (by rw [← hv]; exact rel.val kk)
    exact wpAny_getItem_of (kV_is ru) dd.mapOf hw (q v w' _ (I.tok _) rw' rv)
  · obtain ⟨xs, hp, dd, hs, _⟩ := dictN I hr h hk
    obtain ⟨p, v, hv, rw', rv⟩ := (nest_get hnk hp).1 d hg
    have rk' := rk
    rw [RD] at rk'
    obtain ⟨b, ws, rfl, _, _⟩ := rk'
    cases ru
    exact wpAny_getItem_heap (room_nk hu) ⟨nestIs I rk rfl hnk, hdp⟩ dd hv (q v p.2 _ (I.tok _) rw' rv)
theorem dIn {E : Value → Shared → Prop} {Q : Value → Shared → Prop} (hu : X.A.units + 200 < cLine) (I : Inv X pins σ H sh) {a : Addr} {u : HO} {kvs : List (D × D)} (hr : DRd H a u) (h : DctAt X.prog X.w X.K ι H kvs a u) {k : D} (hf : keyFits kvs k = true)
    {vk : V} {uk : Value} (rk : RD X.K ι H k vk) (ru : RelV vk uk) (q : ∀ s', Inv X pins σ H s' → Q (.bool (dget kvs k).isSome) s') : wpAny (model X.prog X.w) X.A (compareOp .In uk (.ref a)) Q E sh := by
  rcases keyFits_cases hf with ⟨kk, rfl, hk⟩ | ⟨ds, ks, rfl, hnk, hdp, hk⟩
  · obtain ⟨kv', vs, hp, rel, dd, hs, _⟩ := dictA I hr h hk
    have := RD_dK rk; subst this
    refine wpAny_in_of (kV_is ru) hs dd.mapOf ?_
    have e : (dget kvs (dK kk)).isSome = (valueAt vs kk).isSome := by
      rw [← (rel.val kk).isSome_eq]
      cases e : dget kvs (dK kk) with
      | none => rw [(atom_get hp).2 e]; rfl
      | some d => obtain ⟨v, hv, _⟩ := (atom_get hp).1 d e; rw [hv]; rfl
    rw [← e]
    exact q _ (I.tok _)
  · obtain ⟨xs, hp, dd, hs, _⟩ := dictN I hr h hk
    have rk' := rk
    rw [RD] at rk'
    obtain ⟨b, ws, rfl, _, _⟩ := rk'
    cases ru
    refine wpAny_in_heap (room_nk hu) ⟨nestIs I rk rfl hnk, hdp⟩ hs dd ?_
    have e : (dget kvs (.tup ds)).isSome = (atKey xs (.tup ks)).isSome := by
      cases e : dget kvs (.tup ds) with
      | none => rw [(nest_get hnk hp).2 e]; rfl
      | some d => obtain ⟨p, v, hv, _⟩ := (nest_get hnk hp).1 d e; rw [hv]; rfl
    rw [← e]
    exact q _ (I.tok _)
theorem dNotIn {E : Value → Shared → Prop} {Q : Value → Shared → Prop} (hu : X.A.units + 200 < cLine) (I : Inv X pins σ H sh) {a : Addr} {u : HO} {kvs : List (D × D)} (hr : DRd H a u) (h : DctAt X.prog X.w X.K ι H kvs a u) {k : D} (hf : keyFits kvs k = true)
    {vk : V} {uk : Value} (rk : RD X.K ι H k vk) (ru : RelV vk uk) (q : ∀ s', Inv X pins σ H s' → Q (.bool (!(dget kvs k).isSome)) s') : wpAny (model X.prog X.w) X.A (compareOp .NotIn uk (.ref a)) Q E sh := by
  rcases keyFits_cases hf with ⟨kk, rfl, hk⟩ | ⟨ds, ks, rfl, hnk, hdp, hk⟩
  · obtain ⟨kv', vs, hp, rel, dd, hs, _⟩ := dictA I hr h hk
    have := RD_dK rk; subst this
    refine wpAny_notIn_of (kV_is ru) hs dd.mapOf ?_
    have e : (dget kvs (dK kk)).isSome = (valueAt vs kk).isSome := by
      rw [← (rel.val kk).isSome_eq]
      cases e : dget kvs (dK kk) with
      | none => rw [(atom_get hp).2 e]; rfl
      | some d => obtain ⟨v, hv, _⟩ := (atom_get hp).1 d e; rw [hv]; rfl
    rw [← e]
    exact q _ (I.tok _)
  · obtain ⟨xs, hp, dd, hs, _⟩ := dictN I hr h hk
    have rk' := rk
    rw [RD] at rk'
    obtain ⟨b, ws, rfl, _, _⟩ := rk'
    cases ru
    refine PyProof.Rows.wpAny_notIn_heap (room_nk hu) ⟨nestIs I rk rfl hnk, hdp⟩ hs dd ?_
    have e : (dget kvs (.tup ds)).isSome = (atKey xs (.tup ks)).isSome := by
      cases e : dget kvs (.tup ds) with
      | none => rw [(nest_get hnk hp).2 e]; rfl
      | some d => obtain ⟨p, v, hv, _⟩ := (nest_get hnk hp).1 d e; rw [hv]; rfl
    rw [← e]
    exact q _ (I.tok _)
/-- d.get(k, x) -/
theorem dGet2 {E : Value → Shared → Prop} {Q : Value → Shared → Prop} (hu : X.A.units + 200 < cLine) (I : Inv X pins σ H sh) {a : Addr} {u : HO} {kvs : List (D × D)} (hr : DRd H a u) (h : DctAt X.prog X.w X.K ι H kvs a u) {k : D} (hf : keyFits kvs k = true)
    {vk : V} {uk : Value} (rk : RD X.K ι H k vk) (ru : RelV vk uk) {x : D} {vx : V} {ux : Value} (rx : RD X.K ι H x vx) (rux : RelV vx ux)
    (q : ∀ v u' s', Inv X pins σ H s' → RelV v u' → RD X.K ι H ((dget kvs k).getD x) v → Q u' s') : wpAny (model X.prog X.w) X.A (call (.builtin "dict.get") [.ref a, uk, ux]) Q E sh := by
  rcases keyFits_cases hf with ⟨kk, rfl, hk⟩ | ⟨ds, ks, rfl, hnk, hdp, hk⟩
  · obtain ⟨kv', vs, hp, rel, dd, hs, _⟩ := dictA I hr h hk
    have := RD_dK rk; subst this
    have go : ∀ v u' s', Inv X pins σ H s' → RelV v u' → v = (valV kv' kk).getD vx → Q u' s' := fun v u' s' I' r' e => by
      refine q v u' s' I' r' ?_
      cases e2 : dget kvs (dK kk) with
      | none => rw [(atom_get hp).2 e2] at e; subst e; exact rx
      | some d => obtain ⟨v', hv, rv⟩ := (atom_get hp).1 d e2; rw [hv] at e; subst e; exact rv
    refine call_meetsIn PySem.F.slot_dict_get dd.typeIs PySem.F.entry_dict_get (PySem.F.args_dict_get_3 _ _ _) (meets_dict_get_default (mixKind X.prog X.w) a (kV_is ru) hs ux) ⟨_, dd.mapOf, ?_⟩
    exact go _ _ _ (I.tok _) ((rel.val kk).getD rux) rfl
  · obtain ⟨xs, hp, dd, hs, _⟩ := dictN I hr h hk
    have rk' := rk
    rw [RD] at rk'
    obtain ⟨b, ws, rfl, _, _⟩ := rk'
    cases ru
    refine call_meetsIn PySem.F.slot_dict_get dd.typeIs PySem.F.entry_dict_get (PySem.F.args_dict_get_3 _ _ _) (meetsH_dict_get_default (nestedKind X.prog X.w) a b hs ux) ⟨room_nk hu, .tup ks, xs, ⟨nestIs I rk rfl hnk, hdp⟩, dd, ?_⟩
    cases e : dget kvs (.tup ds) with
    | none => rw [(nest_get hnk hp).2 e]; rw [e] at q; exact q vx ux _ (I.tok _) rux rx
    | some d =>
      obtain ⟨p, v, hv, rw', rv⟩ := (nest_get hnk hp).1 d e
      rw [hv]; rw [e] at q
      exact q v p.2 _ (I.tok _) rw' rv
end
end Ev
end

section
set_option autoImplicit false
set_option maxRecDepth 100000
set_option linter.unusedVariables false
/-! Ev8: stores into dicts and lists, subscripts, slices, in -/
namespace Ev
open PySem L2 PySem.SeqAt

section
variable {X : Cx} {pins : List (Addr × Obj)} {σ : St} {H : Hp} {sh : Shared} {ι : List Addr} {s : Sto}

theorem ndOk {P : Program} {w : World} {H' : Hp} {h' : Heap} {a : Addr} {xs : List (NestedKey × Addr × Value)} (h : ndPhi P w a xs h') : ObjOk P w H' h' a (ndHO P w a xs) := by
  refine ⟨h, ?_, fun h1 h2 p k => ?_⟩
  · obtain ⟨_, o, _, _, e, _⟩ := h
    exact ⟨o, e⟩
  · obtain ⟨z, o, es, ep, e, r⟩ := p
    exact ⟨z, o, es, ep, k o e, r⟩
/-- d[k] = x -/
theorem dSetItem {E : Value → Shared → Prop} {Q : Unit → Shared → Prop} (hu : X.A.units + 200 < cLine) (I : Inv X pins σ H sh) {a : Addr} {u : HO} {kvs : List (D × D)} (hH : H a = some u) (h : DctAt X.prog X.w X.K ι H kvs a u) {k : D} (hf : keyFits kvs k = true) (hl : kvs.length < sizeLine)
    {vk : V} {uk : Value} (rk : RD X.K ι H k vk) (ru : RelV vk uk) {x : D} {vx : V} {ux : Value} (rx : RD X.K ι H x vx) (rux : RelV vx ux)
    (q : ∀ s' u', Inv X pins σ (upd H a u') s' → DctAt X.prog X.w X.K ι (upd H a u') (dput kvs k x) a u' → Q () s') : wpAny (model X.prog X.w) X.A (setItem (.ref a) uk ux) Q E sh := by
  obtain ⟨n1, n2, n3, mu⟩ := h.notTup
  have hT : ∀ u', Stay X.K H (upd H a u') := fun u' => stay_set hH n1 (fun q' vs' e => n2 _ _ e) (fun q' vs' e => n2 _ _ e)
  have hput : (dput kvs k x).length ≤ kvs.length + 1 := by
    unfold dput
    split <;> simp
  rcases keyFits_cases hf with ⟨kk, rfl, hk⟩ | ⟨ds, ks, rfl, hnk, hdp, hk⟩
  · obtain ⟨kv', vs, hp, rel, dd, hs, hlen⟩ := dictA I (.inl hH) h hk
    have := RD_dK rk; subst this
    have e1 := Paired.length hp
    have e2 := rel.length
    refine wpAny_setItem_pairs (hsz := by omega) (kV_is ru) dd fun h' dd' hb => ?_
    have hp' : Paired (atomKV X.K ι (upd H a (.dK (putK kv' kk vx)))) (dput kvs (dK kk) x) (putK kv' kk vx) :=
      Paired.mapP (atom_put rx hp) fun p z ⟨h1, h2⟩ => ⟨h1, h2.mono (hT _) fun _ _ e => e⟩
    have hpl := length_putK kv' kk vx
    refine q _ (.dK (putK kv' kk vx)) (d_write I (by rw [hH]; exact mu) hb (let ⟨z, _, _, hz, _⟩ := dd'; ⟨z, hz⟩) ⟨by omega, hs, _, rel.put kk rux, dd'⟩) (.inl ⟨_, rfl, hp'⟩)
  · obtain ⟨xs, hp, dd, hs, hlen⟩ := dictN I (.inl hH) h hk
    have rk' := rk
    rw [RD] at rk'
    obtain ⟨b, ws, rfl, _, _⟩ := rk'
    cases ru
    have e1 := Paired.length hp
    refine wpAny_setItem_heap (hsz := hlen) (room_nk hu) ⟨nestIs I rk rfl hnk, hdp⟩ dd fun h' dd' hb => ?_
    have hp0 : Paired (nestKV X.K ι H) (dput kvs (.tup ds) x) (storedH xs (.tup ks) b ux) := nest_put hnk hdp rk rux rx hp
    have hp' : Paired (nestKV X.K ι (upd H a (ndHO X.prog X.w a (storedH xs (.tup ks) b ux)))) (dput kvs (.tup ds) x) (storedH xs (.tup ks) b ux) :=
      Paired.mapP hp0 fun p z ⟨h1, h2, h3, v, h4, h5⟩ => ⟨h1, h2, h3.mono (hT _) (fun _ _ e => e), v, h4, h5.mono (hT _) fun _ _ e => e⟩
    obtain ⟨o, es, ep, ho, hc, hda, hes, _, hn⟩ := dd'
    have e3 := Paired.length hp0
    refine q _ (ndHO X.prog X.w a (storedH xs (.tup ks) b ux)) (d_write I (by rw [hH]; exact mu) hb ⟨o, ho⟩ (ndOk ⟨hs, o, es, ep, ho, hc, hda, hes⟩)) (.inr ⟨_, rfl, by omega, hn, hp'⟩)

theorem atI_rd {K : PySem.W.Frag} {ds : List D} {vs : List V} (h : RDs K ι H ds vs) {i : Int} {d : D} (e : atD ds i = some d) : ∃ v, atI vs i = some v ∧ RD K ι H d v := by
  unfold atD atI at *
  rw [h.length]
  cases e2 : ixN ds.length i with
  | none => rw [e2] at e; cases e
  | some j =>
    rw [e2] at e
    exact h.get e
end

section
variable {X : Cx}
theorem ix_D (hu : X.A.units + 200 < cLine) : IxR X (rBin X.prog X.w X.K idxD) := by
  intro value slice pins sh σ H vx vy ux uy Q I rx ry h hs
  obtain ⟨ι, s, x, y, d, s', R, hx, hy, e, q⟩ := h
  unfold idxD at e
  split at e
  · rename_i ds i
    simp only [Option.map_eq_some_iff, Prod.mk.injEq] at e
    obtain ⟨d', e1, rfl, rfl⟩ := e
    have hy' : vy = .int i := by rw [RD] at hy; exact hy
    rw [RD] at hx; subst hy'
    obtain ⟨a, vs, rfl, hq, r⟩ := hx
    obtain ⟨v, hv, rv⟩ := atI_rd r e1
    exact ix_tup value slice pins sh σ H _ _ ux uy Q I rx ry ⟨a, vs, i, v, rfl, rfl, hq, hv, q.here R rv⟩ hs
  · rename_i r k
    split at e
    · rename_i ds hc
      obtain ⟨a, rfl, _, vs, hv, rd⟩ := R.ofRef hc hx
      split at e
      · rename_i i
        simp only [Option.map_eq_some_iff, Prod.mk.injEq] at e
        obtain ⟨d', e1, rfl, rfl⟩ := e
        rw [RD] at hy; subst hy
        obtain ⟨v, hv', rv⟩ := atI_rd rd e1
        exact ix_list value slice pins sh σ H _ _ ux uy Q I rx ry ⟨a, vs, i, v, rfl, rfl, .inl (.inl hv), hv', q.here R rv⟩ hs
      · cases e
    · rename_i c _ hc
      obtain ⟨a, rfl, _, hcell⟩ := R.ofRef hc hx
      simp only [Option.bind_eq_some_iff] at e
      obtain ⟨kvs, e1, e2⟩ := e
      obtain ⟨u, hr, hd⟩ := hcell.drd e1
      split at e2
      · rename_i hf
        simp only [Option.map_eq_some_iff, Prod.mk.injEq] at e2
        obtain ⟨d', e3, rfl, rfl⟩ := e2
        cases rx
        have hT : sh.TypeIs (.ref a) "dict" := by
          rcases keyFits_cases hf with ⟨kk, _, hk⟩ | ⟨ds, ks, _, _, _, hk⟩
          · obtain ⟨_, _, _, _, dd, _⟩ := dictA I hr hd hk
            exact dd.typeIs
          · obtain ⟨_, _, dd, _⟩ := dictN I hr hd hk
            exact dd.typeIs
        exact PyProof.Rows.tail_any hT PySem.F.slot_dict_getitem.lookup (dGetItem hu I hr hd hf e3 hy ry fun v u' s' I' r' rd => ⟨v, H, I', r', q.here R rd⟩) hs
      · cases e2
    · cases e
  · cases e

/-- x[lo:hi] -/
def rSlD (P : Program) (w : World) (K : PySem.W.Frag) : V → Option Int → Option Int → Hp → VK → Prop := fun vx lo hi H Q => ∃ ι s x d s', Rep P w K ι H s ∧ RD K ι H x vx ∧ slcD x lo hi s = some (d, s') ∧ Ret P w K ι H Q d s'
theorem RDs.cut {K : PySem.W.Frag} {ι : List Addr} {H : Hp} {ds : List D} {vs : List V} (h : RDs K ι H ds vs) (lo hi : Option Int) : RDs K ι H (cutD ds lo hi) (cutV vs lo hi) := by
  unfold cutD cutV
  rw [h.length]
  exact (h.drop _).take _
theorem sl_D : SlR X (rSlD X.prog X.w X.K) := by
  intro pins sh σ H vx ux vl vu lo hi sl Q I rx hs pl pu h
  obtain ⟨ι, s, x, d, s', R, hx, e, q⟩ := h
  unfold slcD at e
  split at e
  · rename_i ds
    cases e
    rw [RD] at hx
    obtain ⟨a, vs, rfl, hq, r⟩ := hx
    have hl := r.length
    refine sl_tupA pins sh σ H _ ux vl vu lo hi sl Q I rx hs pl pu ⟨a, vs, rfl, hq, fun hw => ?_, fun hw p hp => ?_⟩
    · have e : cutD ds lo hi = ds := by
        unfold cutD
        rw [hl] at hw
        rw [hw.1, hw.2]
        simp
      rw [e] at q
      exact q.tup R hq r
    · exact q.newT R (r.cut lo hi) hp
  · rename_i r
    split at e
    · rename_i ds hc
      unfold newL at e
      split at e
      · cases e
        obtain ⟨a, rfl, _, vs, hv, rd⟩ := R.ofRef hc hx
        exact sl_list pins sh σ H _ ux vl vu lo hi sl Q I rx hs pl pu ⟨a, vs, rfl, .inl (.inl hv), fun p hp => q.newL R (rd.cut lo hi) hp⟩
      · cases e
    · cases e
  · cases e
end
end Ev
end

section
set_option autoImplicit false
set_option maxRecDepth 100000
set_option linter.unusedVariables false
/-! Ev9: sorted -/
namespace Ev
open PySem L2 PySem.SeqAt PySem.W PyProof.Rows PySem.Calls

section
variable {prog : Program} {w : World} {A : Around} {E : Value → Shared → Prop} {sh : Shared}

/-- x < y of two tuples, asked of their type -/
theorem tup_lt_true {xs ys : List PyData} {a b : Value} {as bs : List Addr} {Q : Bool → Shared → Prop} (ra : Reads sh.heap a (.tuple xs) as) (rb : Reads sh.heap b (.tuple ys) bs) (h : alikeAll xs ys = true)
    (hu : A.units + min (PyData.tuple xs).depth (PyData.tuple ys).depth < cLine) (hq : Q (dataLt (.tuple xs) (.tuple ys)) sh) : wpAny (model prog w) A (oneLt' true a b) Q E sh := by
  cases ra with
  | @tuple l o vs n _ _ h1 h2 h3 h4 =>
    cases rb with
    | @tuple l' o' vs' n' _ _ k1 k2 k3 k4 =>
      have n1 : vs.size = xs.length := by simpa using ReadsAll.length _ _ _ h4
      have n2 : vs'.size = ys.length := by simpa using ReadsAll.length _ _ _ k4
      have hq' : Q (firstLt (pairEq xs ys) (fun j => dataLt (xs.getD j .none) (ys.getD j .none)) (decide (vs.size < vs'.size)) (List.range (min vs.size vs'.size))) sh := by
        rw [n1, n2, firstLt_toks xs ys h, ← dataLt_tuple]
        exact hq
      obtain ⟨cls, dd, data, sl⟩ := o
      obtain ⟨cls2, dd2, data2, sl2⟩ := o'
      simp only at h2 h3 k2 k3
      subst h2 h3 k2 k3
      have hroom := room_in hu
      rw [oneLt'_eq]
      simp only [if_true]
      refine wpAny_bind (wpAny_cRoomFor (room_here hu) (wpAny_bind (wpAny_callSpecialIfBound?_slot (T := "tuple") ⟨_, h1, rfl⟩ F.slot_tuple_lt ?_)))
      refine call_meets F.slot_tuple_lt ⟨_, h1, rfl⟩ F.entry_tuple_lt (F.args_tuple_lt_2 _ _) (tuple_ltAt l l' vs vs' n n' dd dd2 sl sl2 (pairEq xs ys) fun j => dataLt (xs.getD j .none) (ys.getD j .none)) ⟨h1, k1, fun j j1 j2 => ?_, fun j j1 j2 hj => ?_, wpAny_truthy_bool hq'⟩
      · have := eqAt_alikeAll xs ys A.in1 sh vs.toList vs'.toList _ _ h4 k4 h hroom j (by simpa using j1) (by simpa using j2)
        simpa using this
      · have := rcLt_alikeAll xs ys A.in1 sh vs.toList vs'.toList _ _ h4 k4 h hroom j (by simpa using j1) (by simpa using j2) hj
        simpa using this

theorem mapM_each {α β : Type} {M : Model} {f : α → Sem β} {g : α → β} : ∀ (l : List α) {Q : List β → Shared → Prop}, (∀ v ∈ l, ∀ (Q' : β → Shared → Prop), Q' (g v) sh → wpAny M A (f v) Q' E sh) → Q (l.map g) sh → wpAny M A (l.mapM f) Q E sh
  | [], _, _, h => by rw [List.mapM_nil]; exact wpAny_pure h
  | x :: l, Q, hf, h => by
    rw [List.mapM_cons]
    exact wpAny_bind (hf x (.head _) _ (wpAny_bind (mapM_each l (Q := fun bs s' => wpAny M A (pure (g x :: bs)) Q E s') (fun v hv => hf v (.tail _ hv)) (wpAny_pure h))))

/-- the first item of a tuple in the heap -/
def firstIn (h : Heap) (v : Value) : Option Value := match v with
  | .ref a => match h.get? a with
    | some o => match o.data with
      | .seq xs _ => xs[0]?
      | _ => none
    | none => none
  | _ => none

/-- tuples, some of them empty, can be sorted -/
theorem SortsAt.tups {vs : List Value} {ds : List PyData} (e : EachIs (fun v d => ∃ as, Reads sh.heap v d as) vs ds) (hal : AllAlike ds) (ht : ∀ d, d ∈ ds → ∃ xs, d = .tuple xs) (hemp : PyData.tuple [] ∈ ds) (hu : ∀ d, d ∈ ds → A.units + d.depth < cLine) : SortsAt prog w A sh (dataKind sh.heap ds) vs := by
  have room : ∀ {d d' : PyData}, d ∈ ds → A.units + min d.depth d'.depth < cLine := fun {d d'} hd => Nat.lt_of_le_of_lt (Nat.add_le_add_left (Nat.min_le_left _ _) _) (hu d hd)
  have keys : ∀ v, v ∈ vs → ∃ a, (dataKind sh.heap ds).keyOf v = some a := fun v hv => by
    obtain ⟨d, hd, as, r⟩ := e.left v hv
    exact ⟨_, dataKind_some hal hd r⟩
  have first : ∀ v ∈ vs, ∀ (E : Value → Shared → Prop) (Q' : Option Value → Shared → Prop), Q' (firstIn sh.heap v) sh → wpAny (model prog w) A (firstOfTuple' v) Q' E sh := fun v hv E Q' hq => by
    obtain ⟨d, hd, as, r⟩ := e.left v hv
    obtain ⟨xs, rfl⟩ := ht d hd
    cases r with
    | @tuple a o its n _ _ h1 h2 h3 h4 =>
      rw [kas_first_eq]
      refine wpAny_bind ((looks_reads (Reads.tuple h1 h2 h3 h4)).here ?_)
      show wpAny _ _ (if (Value.type "tuple" != Value.type "tuple") = true then _ else _) _ _ _
      rw [if_neg (by simp)]
      refine wpAny_bind (listItems_at h1 h3 (wpAny_pure ?_))
      have : firstIn sh.heap (.ref a) = its[0]? := by simp [firstIn, h1, h3]
      rw [← this]
      exact hq
  have typ : ∀ v ∈ vs, ∀ (E : Value → Shared → Prop) (Q' : Value → Shared → Prop), Q' (Value.type "tuple") sh → wpAny (model prog w) A (typeOf v) Q' E sh := fun v hv E Q' hq => by
    obtain ⟨d, hd, as, r⟩ := e.left v hv
    obtain ⟨xs, rfl⟩ := ht d hd
    exact (looks_reads r).here hq
  have lt : ∀ b, H.LtAt prog w A sh (dataKind sh.heap ds) (if b = true then oneType' else general') := fun b E x y p q Q hp hq' hQ => by
    obtain ⟨d, as, hd, ra, rfl⟩ := dataKind_inv hp
    obtain ⟨d', as', hd', rb, rfl⟩ := dataKind_inv hq'
    obtain ⟨xs, rfl⟩ := ht d hd
    obtain ⟨ys, rfl⟩ := ht d' hd'
    have h1 : alikeAll xs ys = true := by simpa [alike] using hal _ hd _ hd'
    cases b with
    | true =>
      rw [if_pos rfl, keyLt'_oneType]
      exact tup_lt_true ra rb h1 (room hd) hQ
    | false =>
      rw [if_neg (by simp)]
      show wpAny _ _ (oneLt' false x y) _ _ _
      exact oneLt_alike (fun z => by cases z) ra rb (hal _ hd _ hd') (fun z => by cases z) (room hd) hQ
  -- which kind is chosen
  by_cases hb : ∃ v, vs.head? = some v ∧ (firstIn sh.heap v).isSome = true
  · refine ⟨keys, general', lt false, fun h2 E Q hq => ?_⟩
    obtain ⟨v0, hv0, hs0⟩ := hb
    rw [kat_kind_eq, List.mapM_toArray, map_eq_pure_bind]
    refine wpAny_bind (wpAny_bind (mapM_each vs (fun v hv Q' z => first v hv E Q' z) (wpAny_pure ?_)))
    have hno : ¬ (((vs.map (firstIn sh.heap)).toArray.all fun x => x.isSome) = true) := by
      intro z
      simp only [List.all_toArray, List.all_map, List.all_eq_true] at z
      obtain ⟨v, hv, as, r⟩ : ∃ v, v ∈ vs ∧ ∃ as, Reads sh.heap v (.tuple []) as := by
        obtain ⟨i, hi⟩ := List.mem_iff_getElem?.mp hemp
        have hlen := e.length
        have hlt : i < vs.length := by
          have := (List.getElem?_eq_some_iff.mp hi).1
          omega
        have hz : (vs.zip ds)[i]? = some (vs[i], PyData.tuple []) := by
          rw [List.getElem?_zip_eq_some]
          exact ⟨List.getElem?_eq_getElem hlt, hi⟩
        exact ⟨vs[i], List.getElem_mem hlt, e.zip _ (List.mem_of_getElem? hz)⟩
      have q := z v hv
      cases r with
      | @tuple a o its n _ _ h1 h2 h3 h4 =>
        have : its.toList = [] := by cases h5 : its.toList with
          | nil => rfl
          | cons c d => rw [h5] at h4; cases h4
        have e0 : its = #[] := by simpa using this
        subst e0
        simp [firstIn, h1, h3] at q
    rw [if_neg hno]
    have h0 : ((vs.map (firstIn sh.heap)).toArray[0]?.bind id).isSome = true := by
      cases vs with
      | nil => simp at hv0
      | cons v r => simp only [List.head?_cons, Option.some.injEq] at hv0; subst hv0; simpa using hs0
    rw [if_pos h0]
    exact wpAny_pure hq
  · refine ⟨keys, oneType', lt true, fun h2 E Q hq => ?_⟩
    rw [kat_kind_eq, List.mapM_toArray, map_eq_pure_bind]
    refine wpAny_bind (wpAny_bind (mapM_each vs (fun v hv Q' z => first v hv E Q' z) (wpAny_pure ?_)))
    obtain ⟨v0, r0, rfl⟩ : ∃ v r, vs = v :: r := by
      cases vs with
      | nil => simp at h2
      | cons v r => exact ⟨v, r, rfl⟩
    have hf0 : ¬ (firstIn sh.heap v0).isSome = true := fun z => hb ⟨v0, rfl, z⟩
    have hno : ¬ ((((v0 :: r0).map (firstIn sh.heap)).toArray.all fun x => x.isSome) = true) := by
      intro z
      simp only [List.all_toArray, List.all_map, List.all_eq_true] at z
      exact hf0 (z v0 (List.mem_cons_self ..))
    rw [if_neg hno]
    have h0 : ¬ (((((v0 :: r0).map (firstIn sh.heap)).toArray)[0]?.bind id).isSome = true) := by simpa using hf0
    rw [if_neg h0, oneTypeOnly'_eq, List.mapM_toArray, map_eq_pure_bind]
    refine wpAny_bind (wpAny_bind (wpAny_bind (kas_mapM (r := Value.type "tuple") _ (fun v hv Q' hq => typ v hv E Q' hq) (wpAny_pure ?_))))
    have hall : ((List.map (fun _ => Value.type "tuple") (v0 :: r0)).toArray.all fun x => x == Value.type "tuple") = true := by
      simp only [List.all_toArray, List.all_map, List.all_eq_true]
      intro _ _
      rfl
    have h1 : (List.map (fun _ => Value.type "tuple") (v0 :: r0)).toArray[0]? = some (Value.type "tuple") := by simp
    rw [h1]
    simp only [hall, if_true]
    refine wpAny_pure (wpAny_pure ?_)
    simpa using hq
/-- alike values, none of them None, can be sorted -/
theorem SortsAt.any {vs : List Value} {ds : List PyData} (e : EachIs (fun v d => ∃ as, Reads sh.heap v d as) vs ds) (hal : AllAlike ds) (hn : ∀ d, d ∈ ds → notNone d = true) (hu : ∀ d, d ∈ ds → A.units + d.depth < cLine) : SortsAt prog w A sh (dataKind sh.heap ds) vs := by
  by_cases h0 : PyData.tuple [] ∈ ds
  · refine SortsAt.tups e hal (fun d hd => ?_) h0 hu
    have := hal _ h0 d hd
    cases d <;> simp [alike] at this
    exact ⟨_, rfl⟩
  · by_cases h1 : ∃ xs, PyData.tuple xs ∈ ds
    · obtain ⟨xs, hx⟩ := h1
      refine SortsAt.data e hal (.inl fun d hd => ?_) hu
      have := hal _ hx d hd
      cases d <;> simp [alike] at this
      rename_i ys
      cases ys with
      | nil => exact absurd hd h0
      | cons y r => exact ⟨y, r, rfl⟩
    · refine SortsAt.data e hal (.inr fun d hd => ⟨fun z => by subst z; simpa [notNone] using hn _ hd, fun xs z => h1 ⟨xs, z ▸ hd⟩⟩) hu
end
end Ev
end

section
set_option autoImplicit false
set_option maxRecDepth 100000
set_option linter.unusedVariables false
/-! Ev10: built-ins by values: sorted, len, list, tuple .. -/
namespace Ev
open PySem L2 PySem.SeqAt PySem.W PyProof.Rows PySem.Calls

/-- a built-in's reading by its run -/
def rCal (P : Program) (w : World) (K : PySem.W.Frag) (f : List D → Sto → Option (D × Sto)) : List V → Hp → VK → Prop := fun vs H Q => ∃ ι s ds d s', Rep P w K ι H s ∧ RDs K ι H ds vs ∧ f ds s = some (d, s') ∧ Ret P w K ι H Q d s'

section
variable {X : Cx} {pins : List (Addr × Obj)} {σ : L2.St} {H : Hp} {sh : Shared} {ι : List Addr} {s : Sto}
theorem RelV.key {P : Program} {w : World} {k : Key} {u : Value} (h : (mixKind P w).is k u = true) : RelV (kV k) u := by
  rcases keyIs_shape h with ⟨i, t, rfl, rfl⟩ | ⟨x, t, rfl, rfl⟩
  · exact ⟨t, rfl⟩
  · exact ⟨t, rfl⟩
theorem RD_kV {K : PySem.W.Frag} (k : Key) : RD K ι H (dK k) (kV k) := by
  cases k with
  | inl i => show RD K ι H (.int i) (.int i); rw [RD]
  | inr x => show RD K ι H (.str x) (.str x); rw [RD]
/-- entry e is p -/
def EntOk (K : PySem.W.Frag) (ι : List Addr) (H : Hp) (p : D × D) (e : DictEntry) : Prop := (∃ v, RelV v e.key ∧ RD K ι H p.1 v) ∧ ∃ v, RelV v e.val ∧ RD K ι H p.2 v
theorem paired_getR {α β : Type} {F : α → β → Prop} : ∀ {l : List α} {m : List β} {i : Nat} {b : β}, Paired F l m → m[i]? = some b → ∃ a, l[i]? = some a ∧ F a b
  | _, _, _, _, .nil, e => by simp at e
  | _, _, 0, _, .cons r _, e => by simp at e; subst e; exact ⟨_, rfl, r⟩
  | _, _, i + 1, a, .cons _ t, e => by
    obtain ⟨b, h1, h2⟩ := paired_getR (i := i) (b := a) t (by simpa using e)
    exact ⟨b, by simpa using h1, h2⟩
/-- any dict, by its entries -/
theorem dRaw (I : Inv X pins σ H sh) {a : Addr} {u : HO} {kvs : List (D × D)} (hr : DRd H a u) (h : DctAt X.prog X.w X.K ι H kvs a u) :
    ∃ es ep, sh.heap.DictRaw a es ep ∧ (a == sysModules) = false ∧ kvs.length ≤ sizeLine ∧ es.size = kvs.length ∧ ∀ (i : Nat) (e : DictEntry), es[i]? = some e → ∃ p, kvs[i]? = some p ∧ EntOk X.K ι H p e := by
  have ok := hr.ok I
  rcases h with ⟨kv', rfl, hp⟩ | ⟨xs, rfl, hl, hn, hp⟩
  · obtain ⟨z, hs, vs, rel, dd⟩ := ok
    obtain ⟨es, ep, hraw, hsz, hent⟩ := dd.raw
    have l1 := Paired.length hp
    have l2 := Paired.length rel
    refine ⟨es, ep, hraw, hs, by omega, by omega, fun i e he => ?_⟩
    obtain ⟨hi, rfl⟩ := Array.getElem?_eq_some_iff.mp he
    have hv : vs[i]? = some (vs[i]'(by omega)) := List.getElem?_eq_getElem _
    obtain ⟨q, hq, e1, rq⟩ := paired_getR rel hv
    obtain ⟨p, hpq, e2, rp⟩ := paired_getR hp hq
    obtain ⟨k1, k2⟩ := hent i hi _ _ hv
    refine ⟨p, hpq, ⟨kV q.1, ?_, ?_⟩, q.2, by rw [k2]; exact rq, rp⟩
    · rw [e1]; exact RelV.key k1
    · rw [e2]; exact RD_kV _
  · obtain ⟨⟨hs, o, es, ep, ho, hc, hda, hes⟩, _⟩ := ok
    have l1 := Paired.length hp
    have l2 : es.size = xs.length := by simpa using congrArg List.length hes
    refine ⟨es, ep, ⟨o, ho, hc, hda⟩, hs, by omega, by omega, fun i e he => ?_⟩
    have he' : es.toList[i]? = some e := by simpa using he
    rw [hes, List.getElem?_map, Option.map_eq_some_iff] at he'
    obtain ⟨x, hx, rfl⟩ := he'
    obtain ⟨p, hpx, h1, h2, h3, v, h4, h5⟩ := paired_getR hp hx
    exact ⟨p, hpx, ⟨.ref x.2.1, rfl, h3⟩, v, h4, h5⟩

theorem vals_ex : ∀ {us : List Value} {ds : List D}, us.length = ds.length → (∀ (i : Nat) (d : D) (u : Value), ds[i]? = some d → us[i]? = some u → ∃ v, RelV v u ∧ RD X.K ι H d v) → ∃ vs, Vals vs us ∧ RDs X.K ι H ds vs
  | [], [], _, _ => ⟨[], .nil, by rw [RDs]⟩
  | u :: us, d :: ds, hl, h => by
    obtain ⟨v, r1, r2⟩ := h 0 d u rfl rfl
    obtain ⟨vs, q1, q2⟩ := vals_ex (us := us) (ds := ds) (by simpa using hl) fun i d' u' e e' => h (i + 1) d' u' (by simpa using e) (by simpa using e')
    exact ⟨v :: vs, .cons r1 q1, by rw [RDs_cons]; exact ⟨r2, q2⟩⟩
  | [], _ :: _, hl, _ => by simp at hl
  | _ :: _, [], hl, _ => by simp at hl

theorem each_zip : ∀ {us : List Value} {vs : List V} {ds : List D} {xs : List PyData}, Vals vs us → RDs X.K ι H ds vs → xs.length = ds.length → EachIs (fun u (b : D × PyData) => ∃ v, RelV v u ∧ RD X.K ι H b.1 v) us (ds.zip xs)
  | _, _, [], xs, .nil, h, _ => by simp; exact .nil
  | _, _, d :: ds, x :: xs, .cons r t, h, hl => by
    rw [RDs_cons] at h
    exact .cons ⟨_, r, h.1⟩ (each_zip t h.2 (by simpa using hl))
  | _, _, [], _, .cons r t, h, _ => by rw [RDs] at h; cases h
  | _, _, d :: ds, [], _, _, hl => by simp at hl
  | _, _, d :: ds, x :: xs, .nil, h, _ => by rw [RDs] at h; obtain ⟨_, _, e, _⟩ := h; cases e
theorem each_back : ∀ {us : List Value} {bs : List (D × PyData)}, EachIs (fun u (b : D × PyData) => ∃ v, RelV v u ∧ RD X.K ι H b.1 v) us bs → ∃ vs, Vals vs us ∧ RDs X.K ι H (bs.map (·.1)) vs
  | _, _, .nil => ⟨[], .nil, by rw [List.map_nil, RDs]⟩
  | _, _, .cons ⟨v, r1, r2⟩ t => by
    obtain ⟨vs, q1, q2⟩ := each_back t
    exact ⟨v :: vs, .cons r1 q1, by rw [List.map_cons, RDs_cons]; exact ⟨r2, q2⟩⟩
theorem dataWs_length {r : Nat → Option PyData} : ∀ {ds : List D} {xs : List PyData}, D.dataWs r ds = some xs → xs.length = ds.length
  | [], xs, e => by simp [D.dataWs] at e; subst e; rfl
  | d :: ds, xs, e => by
    simp only [D.dataWs, Option.bind_eq_some_iff, Option.map_eq_some_iff] at e
    obtain ⟨x, _, ys, h, rfl⟩ := e
    simp [dataWs_length h]
theorem each_reads : ∀ {us : List Value} {xs : List PyData} {as : List Addr} {h : Heap}, ReadsAll h us xs as → EachIs (fun v d => ∃ as, Reads h v d as) us xs
  | _, _, _, _, .nil => .nil
  | _, _, _, _, .cons r t => .cons ⟨_, r⟩ (each_reads t)
theorem zip_snd : ∀ {ds : List D} {xs : List PyData}, xs.length = ds.length → (ds.zip xs).map (·.2) = xs
  | [], [], _ => rfl
  | [], _ :: _, h => by simp at h
  | _ :: _, [], h => by simp at h
  | d :: ds, x :: xs, h => by rw [List.zip_cons_cons, List.map_cons, zip_snd (by simpa using h)]

/-- sorted(x), by how x's items are collected -/
theorem sorted_core (hu : X.A.units + 200 < cLine) {E : Value → Shared → Prop} {ds ds' : List D} {us : List Value} {vs : List V} {h' : Heap} {tk : Nat} {Q : VK}
    (I1 : Inv X pins σ H { sh with heap := h', toks := tk }) (R : Rep X.prog X.w X.K ι H s) (rv : Vals vs us) (rd : RDs X.K ι H ds vs) (e : sortD s ds = some ds') (hz : ds.length ≤ sizeLine)
    (q : ∀ vs' p, RDs X.K ι H ds' vs' → H p = none → Q (.ref p) (upd H p (.lst vs'))) :
    wpAny (model X.prog X.w) X.A.in1 (newList us >>= fun l => do let _ ← holding [l] (call (.builtin "list.sort") [l]); pure (PySem.Fin.done (.ret l))) (fun f s' => ∃ u, f = .done (.ret u) ∧ EP X pins σ Q u s') E { sh with heap := h', toks := tk } := by
  unfold sortD at e
  simp only [Option.bind_eq_some_iff] at e
  obtain ⟨xs, e1, e2⟩ := e
  split at e2
  rotate_left
  · cases e2
  rename_i hc
  simp only [Option.some.injEq] at e2
  subst e2
  simp only [Bool.and_eq_true, List.all_eq_true, decide_eq_true_eq] at hc
  obtain ⟨⟨h1, h2⟩, h3⟩ := hc
  have hxl := dataWs_length e1
  have hul : us.length = ds.length := by rw [← rv.length, rd.length]
  obtain ⟨as, ra⟩ := reads_all I1 R rd rv e1
  have er := each_reads ra
  have hal : AllAlike xs := fun d hd d' hd' => h1 d hd d' hd'
  refine wpAny_bind (wpAny_newList ?_ (by rw [hul]; exact hz))
  have hoL : (h'.push (seqObj "list" us.toArray 0)).get? h'.objs.size = some (seqObj "list" us.toArray 0) := Heap.get?_push_size _ rfl
  show wpAny _ _ _ _ _ { sh with heap := h'.push (seqObj "list" us.toArray 0), toks := tk }
  have keep : ∀ b o, h'.get? b = some o → (sortingHeap (h'.push (seqObj "list" us.toArray 0)) h'.objs.size us).get? b = some o := fun b o eo => by
    have hb : b < h'.objs.size := Heap.lt_size eo
    have e0 : (h'.push (seqObj "list" us.toArray 0)).get? b = some o := Heap.get?_push_of_some _ eo
    exact PySem.W.sortingHeap_old (Nat.ne_of_lt hb) e0
  have er' : EachIs (fun v d => ∃ as, Reads (sortingHeap (h'.push (seqObj "list" us.toArray 0)) h'.objs.size us) v d as) us xs := er.mono fun _ _ ⟨as, r⟩ => ⟨as, PyProof.Rows.Reads.keeps keep r⟩
  have S : SortsAt X.prog X.w X.A.in1.in1 { sh with heap := sortingHeap (h'.push (seqObj "list" us.toArray 0)) h'.objs.size us, toks := tk } (dataKind (sortingHeap (h'.push (seqObj "list" us.toArray 0)) h'.objs.size us) xs) us :=
    SortsAt.any (sh := { sh with heap := sortingHeap (h'.push (seqObj "list" us.toArray 0)) h'.objs.size us, toks := tk }) er' hal h2 fun d hd => by
      have := h3 d hd
      have h100 : d.depth ≤ 100 := this
      show X.A.units + 1 + 1 + d.depth < cLine
      omega
  refine wpAny_bind (wpAny_holding (wpAny_call_entry PyProof.Rows.slot_list_sort ⟨_, hoL, rfl⟩ PyProof.Rows.entry_list_sort
    (PySem.W.list_sort_vals (s := { sh with heap := h'.push (seqObj "list" us.toArray 0), toks := tk }) hoL S (by rw [hul]; exact hz) ⟨_, rfl, ?_⟩)
    (PyProof.Rows.args_list_sort _)))
  have ed := PySem.W.sortVals_data (R := fun u (b : D × PyData) => ∃ v, RelV v u ∧ RD X.K ι H b.1 v) (enc := fun b : D × PyData => b.2) (bs := ds.zip xs) false (each_zip rv rd hxl) (each_of_map (R := fun v d => ∃ as, Reads (sortingHeap (h'.push (seqObj "list" us.toArray 0)) h'.objs.size us) v d as) (fun b : D × PyData => b.2) (by rw [zip_snd hxl]; exact er')) (by rw [zip_snd hxl]; exact hal)
  rw [zip_snd hxl] at ed
  obtain ⟨vs', rv', rd'⟩ := each_back ed
  obtain ⟨e', he'⟩ := PyProof.Rows.sortedHeap_at (vs := us) (out := (sortVals (dataKind (sortingHeap (h'.push (seqObj "list" us.toArray 0)) h'.objs.size us) xs) false us us).toArray) hoL
  have hl' : vs'.length ≤ sizeLine := by
    rw [rv'.length, PySem.W.sortVals_length false rfl, hul]
    exact hz
  refine wpAny_pure ⟨_, rfl, .ref h'.objs.size, upd H h'.objs.size (.lst vs'), I1.laid (t' := tk) (fun b u e => ?_) (Nat.le_refl _)
    (show ObjOk X.prog X.w _ _ _ (.lst vs') from ⟨hl', _, e', rv', he'⟩), rfl, q vs' _ ?_ (I1.hok.fresh (Nat.le_refl _))⟩
  · have hb : b < h'.objs.size := Heap.lt_size e
    rw [PyProof.Rows.sortedHeap_old (Nat.ne_of_lt hb) (by rw [size_push']; exact Nat.lt_succ_of_lt hb)]
    exact Heap.get?_push_of_some _ e
  · exact rd'

theorem sortD_len {ds ds' : List D} (e : sortD s ds = some ds') : ds'.length = ds.length := by
  unfold sortD at e
  simp only [Option.bind_eq_some_iff] at e
  obtain ⟨xs, e1, e2⟩ := e
  split at e2
  · simp only [Option.some.injEq] at e2
    subst e2
    rw [List.length_map, (List.mergeSort_perm _ _).length_eq, List.length_zip, dataWs_length e1, Nat.min_self]
  · cases e2
theorem newL_some {ds : List D} {d : D} {s s' : Sto} (e : newL s ds = some (d, s')) : ds.length ≤ sizeLine ∧ d = .ref s.length ∧ s' = s ++ [.lst ds] := by
  unfold newL at e
  split at e
  · rename_i h
    cases e
    exact ⟨by rw [← L_eq]; exact h, rfl, rfl⟩
  · cases e
theorem newT_some {ds : List D} {d : D} {s s' : Sto} (e : newT s ds = some (d, s')) : ds.length ≤ sizeLine ∧ d = .tup ds ∧ s' = s := by
  unfold newT at e
  split at e
  · rename_i h
    cases e
    exact ⟨by rw [← L_eq]; exact h, rfl, rfl⟩
  · cases e
theorem RDs.one_of {P : Prop} {d : D} {vs : List V} {us : List Value} (r : RDs X.K ι H [d] vs) (rv : Vals vs us) (k : ∀ v u, vs = [v] → us = [u] → RD X.K ι H d v → RelV v u → P) : P := by
  rw [RDs] at r
  obtain ⟨v, t, rfl, h1, h2⟩ := r
  rw [RDs] at h2
  subst h2
  cases rv with
  | cons r1 r2 => cases r2; exact k _ _ rfl rfl h1 r1
/-- the entries of a dict walked from its keys -/
theorem keys_vals {kvs : List (D × D)} {es : Array DictEntry} {acc : Array Value} (hsz : es.size = kvs.length) (hent : ∀ (i : Nat) (e : DictEntry), es[i]? = some e → ∃ p, kvs[i]? = some p ∧ EntOk X.K ι H p e)
    (hacc : ItemsOf (fun i v => ∃ hi : i < es.size, v = es[i].key) acc es.size) : ∃ vs, Vals vs acc.toList ∧ RDs X.K ι H (kvs.map (·.1)) vs := by
  refine vals_ex (by rw [Array.length_toList, hacc.1, hsz, List.length_map]) fun i d u e1 e2 => ?_
  obtain ⟨hi, rfl⟩ := hacc.2 i u (by rw [← Array.getElem?_toList]; exact e2)
  obtain ⟨p, hp, ⟨v, r1, r2⟩, _⟩ := hent i _ (Array.getElem?_eq_getElem hi)
  rw [List.getElem?_map, hp] at e1
  cases e1
  exact ⟨v, r1, r2⟩

theorem call_sortedD (hc : X.calm = true) (hu : X.A.units + 200 < cLine) : CallR X (.builtin "sorted") (rCal X.prog X.w X.K fun ds s => bifD .sorted ds s) := by
  intro pins sh σ H vs us Q I rv h
  obtain ⟨ι, s, ds, d, s', R, rd, e, q⟩ := h
  replace e : bifD .sorted ds s = some (d, s') := e
  have enter : ∀ (u : Value), (∀ E, wpAny (model X.prog X.w) X.A.in1 (collect u) (fun us' s1 => wpAny (model X.prog X.w) X.A.in1 (newList us' >>= fun l => do let _ ← holding [l] (call (.builtin "list.sort") [l]); pure (PySem.Fin.done (.ret l))) (fun f s' => ∃ u, f = .done (.ret u) ∧ EP X pins σ Q u s') E s1) E sh) →
      wpAny (model X.prog X.w) X.A (call (.builtin "sorted") [u]) (EP X pins σ Q) X.xe sh := fun u hb => by
    refine Calls.call_function_entry PyProof.Rows.kind_sorted PyProof.Rows.plain_sorted PyProof.Rows.entry_sorted (PyProof.Rows.args_sorted1 _) ?_
    unfold Builtin.«sorted»
    refine wpAny_bind (m := checkCount "sorted" 1 1 _) (wpAny_pure ?_)
    refine wpAny_bind ?_
    exact hb _
  have hcase : (∃ r, ds = [.ref r]) ∨ ∃ l, ds = [.tup l] := by
    rcases ds with _ | ⟨x, _ | ⟨y, t⟩⟩
    · simp [bifD] at e
    · cases x <;> first | exact .inl ⟨_, rfl⟩ | exact .inr ⟨_, rfl⟩ | simp [bifD] at e
    · cases x <;> simp [bifD] at e
  rcases hcase with ⟨r, rfl⟩ | ⟨l, rfl⟩
  · refine RDs.one_of rd rv fun v u hv hu' r1 r2 => ?_
    subst hv hu'
    simp only [bifD] at e
    cases hs : s[r]? with
    | none => rw [hs] at e; cases e
    | some c =>
      rw [hs] at e
      obtain ⟨a, rfl, ha, cell⟩ := R.ofRef hs r1
      cases r2
      cases c with
      | lst ds =>
        simp only [Option.bind_eq_some_iff] at e
        obtain ⟨ds', e1, e2⟩ := e
        obtain ⟨hz, rfl, rfl⟩ := newL_some e2
        obtain ⟨ws, h1, h2⟩ := cell
        obtain ⟨its, rv', pl, hz'⟩ := I.list (.inl (.inl h1))
        refine enter _ fun E => ?_
        have hl : its.length ≤ sizeLine := by rw [← rv'.length]; exact hz'
        refine PyProof.Rows.collect_list pl.isList ?_ hl
        have I1 : Inv X pins σ H { sh with heap := (sh.heap.push (seqObj "list" #[] 0)).update sh.heap.objs.size (Obj.mapSeq (· ++ its.toArray)) } := I.kept (t' := sh.toks) fun b o e => by
          rw [Heap.get?_update_ne _ _ _ _ (Nat.ne_of_lt (Heap.lt_size e))]
          exact Heap.get?_push_of_some _ e
        exact sorted_core hu (tk := sh.toks) I1 R rv' h2 e1 (by rw [← sortD_len e1]; exact hz) fun vs' p rd' hp => q.newL R rd' hp
      | dct kvs =>
        simp only [C.kvs, Option.bind_some, Option.bind_eq_some_iff] at e
        obtain ⟨ds', e1, e2⟩ := e
        obtain ⟨hz, rfl, rfl⟩ := newL_some e2
        obtain ⟨u', dr, da⟩ := cell.drd (kvs := kvs) rfl
        obtain ⟨es, ep, hraw, hsys, hkl, hsz, hent⟩ := dRaw I dr da
        refine enter _ fun E => ?_
        refine PySem.W.kdu_collect (KdlSrc.rawDict hsys) (I.ok.hd hc) hraw (by omega) fun h' tk acc hk hacc => ?_
        obtain ⟨ws, w1, w2⟩ := keys_vals (H := H) (ι := ι) hsz hent hacc
        have I1 : Inv X pins σ H { sh with heap := h', toks := tk } := I.kept hk
        exact sorted_core hu I1 R w1 w2 e1 (by rw [List.length_map]; exact hkl) fun vs' p rd' hp => q.newL R rd' hp
      | lck kvs =>
        simp only [C.kvs, Option.bind_some, Option.bind_eq_some_iff] at e
        obtain ⟨ds', e1, e2⟩ := e
        obtain ⟨hz, rfl, rfl⟩ := newL_some e2
        obtain ⟨u', dr, da⟩ := cell.drd (kvs := kvs) rfl
        obtain ⟨es, ep, hraw, hsys, hkl, hsz, hent⟩ := dRaw I dr da
        refine enter _ fun E => ?_
        refine PySem.W.kdu_collect (KdlSrc.rawDict hsys) (I.ok.hd hc) hraw (by omega) fun h' tk acc hk hacc => ?_
        obtain ⟨ws, w1, w2⟩ := keys_vals (H := H) (ι := ι) hsz hent hacc
        have I1 : Inv X pins σ H { sh with heap := h', toks := tk } := I.kept hk
        exact sorted_core hu I1 R w1 w2 e1 (by rw [List.length_map]; exact hkl) fun vs' p rd' hp => q.newL R rd' hp
  · refine RDs.one_of rd rv fun v u hv hu' r1 r2 => ?_
    subst hv hu'
    simp only [bifD, Option.bind_eq_some_iff] at e
    obtain ⟨ds', e1, e2⟩ := e
    obtain ⟨hz, rfl, rfl⟩ := newL_some e2
    rw [RD] at r1
    obtain ⟨a, ws, rfl, hq, rws⟩ := r1
    cases r2
    obtain ⟨its, rv', ⟨o, ho, hcl, n, hd⟩, hz'⟩ := I.tuple hq
    refine enter _ fun E => ?_
    refine wpAny_collect_seq a (.inr rfl) ho hcl hd (fun h' hk => ?_) (by simpa [← rv'.length] using hz')
    have I1 : Inv X pins σ H { sh with heap := h' } := I.kept (t' := sh.toks) hk
    have := sorted_core hu (sh := sh) (tk := sh.toks) (E := E) I1 R rv' rws e1 (by rw [← sortD_len e1]; exact hz) fun vs' p rd' hp => q.newL R rd' hp
    simpa using this
end
end Ev
end

section
set_option autoImplicit false
set_option maxRecDepth 100000
set_option linter.unusedVariables false
/-! Ev11: built-ins by values -/
namespace Ev
open PySem L2 PySem.SeqAt PyProof.Rows PySem.Calls

structure Gd (X : Cx) : Prop where
  calm : X.calm = true
  units : X.A.units + 200 < cLine
  guards : X.A.guards = some []
  nd : X.N.Nodup
  xe : X.xe = fun _ _ => False

theorem cell_seq {P : Program} {w : World} {K : PySem.W.Frag} {ι : List Addr} {H : Hp} {ds : List D} {a : Addr} (h : CellAt P w K ι H (.lst ds) a) : ∃ vs, SqL K H a vs ∧ RDs K ι H ds vs :=
  let ⟨vs, h1, h2⟩ := h; ⟨vs, .inl (.inl h1), h2⟩

section
variable {X : Cx}
theorem call_lenD (G : Gd X) : CallR X (.builtin "len") (rCal X.prog X.w X.K fun ds s => bifD .len ds s) := by
  intro pins sh σ H vs us Q I rv h
  obtain ⟨ι, s, ds, d, s', R, rd, e, q⟩ := h
  replace e : bifD .len ds s = some (d, s') := e
  have hcase : (∃ r, ds = [.ref r]) ∨ ∃ l, ds = [.tup l] := by
    rcases ds with _ | ⟨x, _ | ⟨y, t⟩⟩
    · simp [bifD] at e
    · cases x <;> first | exact .inl ⟨_, rfl⟩ | exact .inr ⟨_, rfl⟩ | simp [bifD] at e
    · cases x <;> simp [bifD] at e
  rcases hcase with ⟨r, rfl⟩ | ⟨l, rfl⟩
  · refine RDs.one_of rd rv fun v u hv hu' r1 r2 => ?_
    subst hv hu'
    simp only [bifD] at e
    cases hs : s[r]? with
    | none => rw [hs] at e; cases e
    | some c =>
      rw [hs] at e
      obtain ⟨a, rfl, ha, cell⟩ := R.ofRef hs r1
      have hdict : ∀ kvs, c.kvs = some kvs → Q (.int kvs.length) H → wpAny (model X.prog X.w) X.A (call (.builtin "len") [u]) (EP X pins σ Q) X.xe sh := fun kvs hk hq => by
        cases r2
        obtain ⟨u', dr, da⟩ := cell.drd (kvs := kvs) hk
        obtain ⟨es, ep, hraw, hsys, hkl, hsz, hent⟩ := dRaw I dr da
        have hl : (kvs.length : Int) < 2 ^ 63 := by rw [sizeLine_eq] at hkl; omega
        refine Calls.call_function_entry kind_len plain_len entry_len (args_len1 _) ?_
        unfold Builtin.«len»
        refine wpAny_bind (m := oneArg "len" _) (wpAny_pure ?_)
        refine wpAny_bind (m := callSpecial? (.ref a) (Str.ofString "__len__")) (wpAny_callSpecial?_slot (name := Str.ofString "__len__") hraw.typeIs PySem.F.slot_dict_len
          (call_len_raw hsys hraw ?_))
        show wpAny _ _ _ _ _ { sh with toks := sh.toks + 1 }
        refine wpAny_bind (wpAny_holding (wpAny_pure ?_))
        refine wpAny_bind (wpAny_letGo ?_)
        rw [hsz]
        show wpAny _ _ (if ((kvs.length : Nat) : Int) < 0 then _ else _) _ _ _
        rw [if_neg (by omega)]
        show wpAny _ _ (if ((kvs.length : Nat) : Int) ≥ 2 ^ 63 then _ else _) _ _ _
        rw [if_neg (by omega)]
        exact wpAny_bind (wpAny_mkInt (wpAny_pure ⟨_, rfl, .int kvs.length, H, I.tok _, ⟨_, rfl⟩, hq⟩))
      cases c with
      | lst ds =>
        cases e
        obtain ⟨ws, h1, h2⟩ := cell_seq cell
        have := h2.length
        exact call_len_seq pins sh σ H _ _ Q I rv ⟨a, ws, rfl, .inl h1, by rw [this]; exact q.int R⟩
      | dct kvs =>
        simp only [C.kvs, Option.map_some, Option.some.injEq, Prod.mk.injEq] at e
        obtain ⟨rfl, rfl⟩ := e
        exact hdict kvs rfl (q.int R)
      | lck kvs =>
        simp only [C.kvs, Option.map_some, Option.some.injEq, Prod.mk.injEq] at e
        obtain ⟨rfl, rfl⟩ := e
        exact hdict kvs rfl (q.int R)
  · refine RDs.one_of rd rv fun v u hv hu' r1 r2 => ?_
    subst hv
    simp only [bifD, Option.some.injEq, Prod.mk.injEq] at e
    obtain ⟨rfl, rfl⟩ := e
    rw [RD] at r1
    obtain ⟨a, ws, rfl, hq, rws⟩ := r1
    have := rws.length
    exact call_len_seq pins sh σ H _ us Q I rv ⟨a, ws, rfl, .inr hq, by rw [this]; exact q.int R⟩
theorem call_intD (G : Gd X) : CallR X (.type "int") (rCal X.prog X.w X.K fun ds s => bifD .int ds s) := by
  intro pins sh σ H vs us Q I rv h
  obtain ⟨ι, s, ds, d, s', R, rd, e, q⟩ := h
  replace e : bifD .int ds s = some (d, s') := e
  have hcase : (∃ r, ds = [.int r]) ∨ ∃ l, ds = [.bl l] := by
    rcases ds with _ | ⟨x, _ | ⟨y, t⟩⟩
    · simp [bifD] at e
    · cases x <;> first | exact .inl ⟨_, rfl⟩ | exact .inr ⟨_, rfl⟩ | simp [bifD] at e
    · cases x <;> simp [bifD] at e
  rcases hcase with ⟨r, rfl⟩ | ⟨l, rfl⟩
  · refine RDs.one_of rd rv fun v u hv hu' r1 r2 => ?_
    simp only [bifD, Option.some.injEq, Prod.mk.injEq] at e
    obtain ⟨rfl, rfl⟩ := e
    rw [RD] at r1
    subst r1
    exact call_int1 pins sh σ H _ us Q I rv (.inl ⟨r, hv, q.int R⟩)
  · refine RDs.one_of rd rv fun v u hv hu' r1 r2 => ?_
    simp only [bifD, Option.some.injEq, Prod.mk.injEq] at e
    obtain ⟨rfl, rfl⟩ := e
    rw [RD] at r1
    subst r1
    exact call_int1 pins sh σ H _ us Q I rv (.inr ⟨l, hv, q.int R⟩)
theorem call_absD (G : Gd X) : CallR X (.builtin "abs") (rCal X.prog X.w X.K fun ds s => bifD .abs ds s) := by
  intro pins sh σ H vs us Q I rv h
  obtain ⟨ι, s, ds, d, s', R, rd, e, q⟩ := h
  replace e : bifD .abs ds s = some (d, s') := e
  have hcase : ∃ r, ds = [.int r] := by
    rcases ds with _ | ⟨x, _ | ⟨y, t⟩⟩
    · simp [bifD] at e
    · cases x <;> first | exact ⟨_, rfl⟩ | simp [bifD] at e
    · cases x <;> simp [bifD] at e
  obtain ⟨r, rfl⟩ := hcase
  refine RDs.one_of rd rv fun v u hv hu' r1 r2 => ?_
  simp only [bifD, Option.some.injEq, Prod.mk.injEq] at e
  obtain ⟨rfl, rfl⟩ := e
  rw [RD] at r1
  subst r1
  refine call_abs pins sh σ H _ us Q I rv ⟨r, hv, ?_⟩
  have : (if r < 0 then -r else r) = (r.natAbs : Int) := by split <;> omega
  rw [this]
  exact q.int R
theorem two_of {P : Prop} {ι : List Addr} {H : Hp} {d d' : D} {vs : List V} {us : List Value} (r : RDs X.K ι H [d, d'] vs) (rv : Vals vs us) (k : ∀ v v' u u', vs = [v, v'] → us = [u, u'] → RD X.K ι H d v → RD X.K ι H d' v' → RelV v u → RelV v' u' → P) : P := by
  rw [RDs] at r
  obtain ⟨v, t, rfl, h1, h2⟩ := r
  rw [RDs] at h2
  obtain ⟨v', t', rfl, h3, h4⟩ := h2
  rw [RDs] at h4
  subst h4
  cases rv with
  | cons r1 r2 =>
    cases r2 with
    | cons r3 r4 => cases r4; exact k _ _ _ _ rfl rfl h1 h3 r1 r3
theorem call_maxD (G : Gd X) : CallR X (.builtin "max") (rCal X.prog X.w X.K fun ds s => bifD .max ds s) := by
  intro pins sh σ H vs us Q I rv h
  obtain ⟨ι, s, ds, d, s', R, rd, e, q⟩ := h
  replace e : bifD .max ds s = some (d, s') := e
  have hcase : ∃ i j, ds = [.int i, .int j] := by
    rcases ds with _ | ⟨x, _ | ⟨y, _ | ⟨z, t⟩⟩⟩
    · simp [bifD] at e
    · cases x <;> simp [bifD] at e
    · cases x <;> cases y <;> first | exact ⟨_, _, rfl⟩ | simp [bifD] at e
    · cases x <;> cases y <;> simp [bifD] at e
  obtain ⟨i, j, rfl⟩ := hcase
  refine two_of rd rv fun v v' u u' hv hu' r1 r2 r3 r4 => ?_
  simp only [bifD, Option.some.injEq, Prod.mk.injEq] at e
  obtain ⟨rfl, rfl⟩ := e
  rw [RD] at r1 r2
  subst r1 r2
  exact call_max2 G.calm pins sh σ H _ us Q I rv ⟨i, j, hv, q.int R⟩
theorem call_minD (G : Gd X) : CallR X (.builtin "min") (rCal X.prog X.w X.K fun ds s => bifD .min ds s) := by
  intro pins sh σ H vs us Q I rv h
  obtain ⟨ι, s, ds, d, s', R, rd, e, q⟩ := h
  replace e : bifD .min ds s = some (d, s') := e
  have hcase : ∃ i j, ds = [.int i, .int j] := by
    rcases ds with _ | ⟨x, _ | ⟨y, _ | ⟨z, t⟩⟩⟩
    · simp [bifD] at e
    · cases x <;> simp [bifD] at e
    · cases x <;> cases y <;> first | exact ⟨_, _, rfl⟩ | simp [bifD] at e
    · cases x <;> cases y <;> simp [bifD] at e
  obtain ⟨i, j, rfl⟩ := hcase
  refine two_of rd rv fun v v' u u' hv hu' r1 r2 r3 r4 => ?_
  simp only [bifD, Option.some.injEq, Prod.mk.injEq] at e
  obtain ⟨rfl, rfl⟩ := e
  rw [RD] at r1 r2
  subst r1 r2
  exact call_min2 G.calm pins sh σ H _ us Q I rv ⟨i, j, hv, q.int R⟩
/-- a list or a tuple -/
theorem seq_of {P : Program} {w : World} {ι : List Addr} {H : Hp} {s : Sto} (R : Rep P w X.K ι H s) {x : D} {ds : List D} {v : V} (e : itemsD x s = some ds) (r : RD X.K ι H x v) : ∃ a ws, v = .ref a ∧ (SqL X.K H a ws ∨ SqT X.K H a ws) ∧ RDs X.K ι H ds ws := by
  cases x with
  | tup l =>
    simp only [itemsD, Option.some.injEq] at e
    subst e
    rw [RD] at r
    obtain ⟨a, ws, rfl, hq, rws⟩ := r
    exact ⟨a, ws, rfl, .inr hq, rws⟩
  | ref i =>
    simp only [itemsD] at e
    cases hs : s[i]? with
    | none => rw [hs] at e; cases e
    | some c =>
      rw [hs] at e
      cases c with
      | lst l =>
        cases e
        obtain ⟨a, rfl, ha, cell⟩ := R.ofRef hs r
        obtain ⟨ws, h1, h2⟩ := cell_seq cell
        exact ⟨a, ws, rfl, .inl h1, h2⟩
      | _ => cases e
  | _ => simp [itemsD] at e
theorem call_listD (G : Gd X) : CallR X (.type "list") (rCal X.prog X.w X.K fun ds s => bifD .list ds s) := by
  intro pins sh σ H vs us Q I rv h
  obtain ⟨ι, s, ds, d, s', R, rd, e, q⟩ := h
  replace e : bifD .list ds s = some (d, s') := e
  have hcase : ∃ x, ds = [x] := by
    rcases ds with _ | ⟨x, _ | ⟨y, t⟩⟩
    · simp [bifD] at e
    · exact ⟨_, rfl⟩
    · cases x <;> simp [bifD] at e
  obtain ⟨x, rfl⟩ := hcase
  refine RDs.one_of rd rv fun v u hv hu' r1 r2 => ?_
  have e : (itemsD x s).bind (newL s) = some (d, s') := by cases x <;> exact e
  simp only [Option.bind_eq_some_iff] at e
  obtain ⟨l, e1, e2⟩ := e
  obtain ⟨hz, rfl, rfl⟩ := newL_some e2
  obtain ⟨a, ws, rfl, hq, rws⟩ := seq_of R e1 r1
  exact call_list_of pins sh σ H _ us Q I rv ⟨a, ws, hv, hq, fun l hl => q.newL R rws hl⟩
theorem call_tupleD (G : Gd X) : CallR X (.type "tuple") (rCal X.prog X.w X.K fun ds s => bifD .tuple ds s) := by
  intro pins sh σ H vs us Q I rv h
  obtain ⟨ι, s, ds, d, s', R, rd, e, q⟩ := h
  replace e : bifD .tuple ds s = some (d, s') := e
  have hcase : (∃ r, ds = [.ref r]) ∨ ∃ l, ds = [.tup l] := by
    rcases ds with _ | ⟨x, _ | ⟨y, t⟩⟩
    · simp [bifD] at e
    · cases x <;> first | exact .inl ⟨_, rfl⟩ | exact .inr ⟨_, rfl⟩ | simp [bifD] at e
    · cases x <;> simp [bifD] at e
  rcases hcase with ⟨r, rfl⟩ | ⟨l, rfl⟩
  · refine RDs.one_of rd rv fun v u hv hu' r1 r2 => ?_
    simp only [bifD] at e
    cases hs : s[r]? with
    | none => rw [hs] at e; cases e
    | some c =>
      rw [hs] at e
      cases c with
      | lst l =>
        cases e
        obtain ⟨a, rfl, ha, cell⟩ := R.ofRef hs r1
        obtain ⟨ws, h1, h2⟩ := cell_seq cell
        exact call_tuple_of pins sh σ H _ us Q I rv ⟨a, ws, hv, .inl ⟨h1, fun l hl => q.newT R h2 hl⟩⟩
      | _ => cases e
  · refine RDs.one_of rd rv fun v u hv hu' r1 r2 => ?_
    simp only [bifD, Option.some.injEq, Prod.mk.injEq] at e
    obtain ⟨rfl, rfl⟩ := e
    have r1' := r1
    rw [RD] at r1
    obtain ⟨a, ws, rfl, hq, rws⟩ := r1
    exact call_tuple_of pins sh σ H _ us Q I rv ⟨a, ws, hv, .inr ⟨hq, q.here R r1'⟩⟩
theorem call_sumD (G : Gd X) : CallR X (.builtin "sum") (rCal X.prog X.w X.K fun ds s => bifD .sum ds s) := by
  intro pins sh σ H vs us Q I rv h
  obtain ⟨ι, s, ds, d, s', R, rd, e, q⟩ := h
  replace e : bifD .sum ds s = some (d, s') := e
  have hcase : ∃ r, ds = [.ref r] := by
    rcases ds with _ | ⟨x, _ | ⟨y, t⟩⟩
    · simp [bifD] at e
    · cases x <;> first | exact ⟨_, rfl⟩ | simp [bifD] at e
    · cases x <;> simp [bifD] at e
  obtain ⟨r, rfl⟩ := hcase
  refine RDs.one_of rd rv fun v u hv hu' r1 r2 => ?_
  simp only [bifD] at e
  cases hs : s[r]? with
  | none => rw [hs] at e; cases e
  | some c =>
    rw [hs] at e
    cases c with
    | lst l =>
      simp only [Option.map_eq_some_iff, Prod.mk.injEq] at e
      obtain ⟨is, e1, rfl, rfl⟩ := e
      obtain ⟨a, rfl, ha, cell⟩ := R.ofRef hs r1
      obtain ⟨ws, h1, h2⟩ := cell_seq cell
      have := RDs_ints h2 e1
      subst this
      exact cr_sum G.calm pins sh σ H _ us Q I rv ⟨a, is, hv, h1, q.int R⟩
    | _ => cases e
theorem call_allD (G : Gd X) : CallR X (.builtin "all") (rCal X.prog X.w X.K fun ds s => bifD .all ds s) := by
  intro pins sh σ H vs us Q I rv h
  obtain ⟨ι, s, ds, d, s', R, rd, e, q⟩ := h
  replace e : bifD .all ds s = some (d, s') := e
  have hcase : ∃ r, ds = [.ref r] := by
    rcases ds with _ | ⟨x, _ | ⟨y, t⟩⟩
    · simp [bifD] at e
    · cases x <;> first | exact ⟨_, rfl⟩ | simp [bifD] at e
    · cases x <;> simp [bifD] at e
  obtain ⟨r, rfl⟩ := hcase
  refine RDs.one_of rd rv fun v u hv hu' r1 r2 => ?_
  simp only [bifD] at e
  cases hs : s[r]? with
  | none => rw [hs] at e; cases e
  | some c =>
    rw [hs] at e
    cases c with
    | lst l =>
      simp only [Option.map_eq_some_iff, Prod.mk.injEq] at e
      obtain ⟨is, e1, rfl, rfl⟩ := e
      obtain ⟨a, rfl, ha, cell⟩ := R.ofRef hs r1
      obtain ⟨ws, h1, h2⟩ := cell_seq cell
      have := RDs_bools h2 e1
      subst this
      exact cr_all G.calm pins sh σ H _ us Q I rv ⟨a, is, hv, h1, q.bl R⟩
    | _ => cases e
theorem call_anyD (G : Gd X) : CallR X (.builtin "any") (rCal X.prog X.w X.K fun ds s => bifD .any ds s) := by
  intro pins sh σ H vs us Q I rv h
  obtain ⟨ι, s, ds, d, s', R, rd, e, q⟩ := h
  replace e : bifD .any ds s = some (d, s') := e
  have hcase : ∃ r, ds = [.ref r] := by
    rcases ds with _ | ⟨x, _ | ⟨y, t⟩⟩
    · simp [bifD] at e
    · cases x <;> first | exact ⟨_, rfl⟩ | simp [bifD] at e
    · cases x <;> simp [bifD] at e
  obtain ⟨r, rfl⟩ := hcase
  refine RDs.one_of rd rv fun v u hv hu' r1 r2 => ?_
  simp only [bifD] at e
  cases hs : s[r]? with
  | none => rw [hs] at e; cases e
  | some c =>
    rw [hs] at e
    cases c with
    | lst l =>
      simp only [Option.map_eq_some_iff, Prod.mk.injEq] at e
      obtain ⟨is, e1, rfl, rfl⟩ := e
      obtain ⟨a, rfl, ha, cell⟩ := R.ofRef hs r1
      obtain ⟨ws, h1, h2⟩ := cell_seq cell
      have := RDs_bools h2 e1
      subst this
      exact cr_any G.calm pins sh σ H _ us Q I rv ⟨a, is, hv, h1, q.bl R⟩
    | _ => cases e
theorem call_reprD (G : Gd X) : CallR X (.builtin "repr") (rCal X.prog X.w X.K fun ds s => bifD .repr ds s) := by
  intro pins sh σ H vs us Q I rv h
  obtain ⟨ι, s, ds, d, s', R, rd, e, q⟩ := h
  replace e : bifD .repr ds s = some (d, s') := e
  have hcase : ∃ x, ds = [x] := by
    rcases ds with _ | ⟨x, _ | ⟨y, t⟩⟩
    · simp [bifD] at e
    · exact ⟨_, rfl⟩
    · cases x <;> simp [bifD] at e
  obtain ⟨x, rfl⟩ := hcase
  refine RDs.one_of rd rv fun v u hv hu' r1 r2 => ?_
  subst hv hu'
  have e : (reprD s x).map (fun z => (D.str z, s)) = some (d, s') := by cases x <;> exact e
  simp only [reprD, Option.map_eq_some_iff, Option.bind_eq_some_iff, Prod.mk.injEq] at e
  obtain ⟨z, ⟨dx, e1, e2⟩, rfl, rfl⟩ := e
  split at e2
  rotate_left
  · cases e2
  rename_i hc
  cases e2
  simp only [Bool.and_eq_true, decide_eq_true_eq, Bool.not_eq_true'] at hc
  obtain ⟨⟨⟨h1, h2⟩, h3⟩, h4⟩ := hc
  have h100 : dx.depth ≤ 100 := h3
  rw [L_eq] at h4
  obtain ⟨as, ra⟩ := reads_of I R r1 r2 e1
  have hu := G.units
  have fin : ∀ (h' : Heap) (t tk : Nat), (∀ b o, sh.heap.get? b = some o → h'.get? b = some o) → EP X pins σ Q (.str dx.shown t) { sh with heap := h', toks := tk } := fun h' t tk hk =>
    ⟨.str dx.shown, H, I.kept hk, ⟨t, rfl⟩, q.str R⟩
  cases ra with
  | none => exact PySem.P.repr_of_none (fin _ _ _ fun _ _ e => e)
  | bool b => exact PySem.P.repr_of_bool (fin _ _ _ fun _ _ e => e)
  | int i t => exact PySem.P.repr_of_int (by simpa [PyData.showable] using h1) (fin _ _ _ fun _ _ e => e)
  | str x t => exact PySem.P.repr_of_str (fin _ _ _ fun _ _ e => e) (by simpa only [PyData.shown] using h4)
  | list a1 a2 a3 a4 => exact repr_of_reads' (.list a1 a2 a3 a4) h1 (PyData.noDict_hsm h2) G.guards (by omega) (fun _ _ e => e) (fun h' u tk hk => fin h' u tk hk) h4
  | tuple a1 a2 a3 a4 => exact repr_of_reads' (.tuple a1 a2 a3 a4) h1 (PyData.noDict_hsm h2) G.guards (by omega) (fun _ _ e => e) (fun h' u tk hk => fin h' u tk hk) h4
  | dict a1 a2 a3 a4 a5 => simp [PyData.hasDict] at h2
end
end Ev
end

section
set_option autoImplicit false
set_option maxRecDepth 100000
set_option linter.unusedVariables false
/-! Ev12: in, not in, is None, reversed, methods, stores -/
namespace Ev
open PySem L2 PySem.SeqAt PyProof.Rows PySem.Calls

theorem canLayAll : ∀ {ys : List PyData}, (∀ y ∈ ys, y.canLay0 = true) → PyData.canLayAll0 ys = true
  | [], _ => rfl
  | y :: ys, h => by
    rw [PyData.canLayAll0, h y (List.mem_cons_self ..), canLayAll fun z hz => h z (List.mem_cons_of_mem _ hz)]
    rfl
theorem depthAll_le {B : Nat} : ∀ {ys : List PyData}, (∀ y ∈ ys, y.depth ≤ B) → PyData.depthAll ys ≤ B
  | [], _ => Nat.zero_le _
  | y :: ys, h => by
    rw [PyData.depthAll]
    have h1 := h y (List.mem_cons_self ..)
    have h2 : PyData.depthAll ys ≤ B := depthAll_le fun z hz => h z (List.mem_cons_of_mem _ hz)
    exact Nat.max_le.mpr ⟨h1, h2⟩
theorem inSeq_ok {s : Sto} {x : D} {ds : List D} {b : Bool} (e : inSeq s x ds = some b) : ∃ ys dx, dataAll s ds = some ys ∧ x.data s = some dx ∧ dx.canLay0 = true ∧ PyData.canLayAll0 ys = true ∧ min (PyData.depthAll ys) dx.depth ≤ 100 ∧ b = ys.any fun y => y.eqv dx := by
  unfold inSeq at e
  simp only [Option.bind_eq_some_iff] at e
  obtain ⟨ys, e1, dx, e2, e3⟩ := e
  split at e3
  · rename_i hc
    cases e3
    simp only [Bool.and_eq_true, List.all_eq_true, decide_eq_true_eq] at hc
    refine ⟨ys, dx, e1, e2, hc.1, canLayAll fun y hy => (hc.2 y hy).1, ?_, rfl⟩
    by_cases h : dx.depth ≤ 100
    · exact Nat.le_trans (Nat.min_le_right _ _) h
    · refine Nat.le_trans (Nat.min_le_left _ _) (depthAll_le fun y hy => ?_)
      have h2 := (hc.2 y hy).2
      have h3 : min y.depth dx.depth ≤ 100 := h2
      omega
  · cases e3

section
variable {X : Cx}
theorem op_inD (G : Gd X) : OpR X (compareOp .In) (rCmp X.prog X.w X.K fun x y s => inD s x y) := by
  intro pins sh σ H vx vy ux uy Q I rx ry h
  obtain ⟨ι, s, x, y, b, R, hx, hy, e, q⟩ := h
  replace e : inD s x y = some b := e
  have hu := G.units
  cases y with
  | tup ds =>
    obtain ⟨ys, dx, e1, e2, c1, c2, c3, rfl⟩ := inSeq_ok e
    rw [RD] at hy
    obtain ⟨a, vs, rfl, hq, rws⟩ := hy
    cases ry
    obtain ⟨its, rv, ⟨o, ho, hcl, n, hda⟩, hz⟩ := I.tuple hq
    obtain ⟨as, ra⟩ := reads_all I R rws rv e1
    obtain ⟨bs, rb⟩ := reads_of I R hx rx e2
    exact in_tuple_reads (.tuple ho hcl hda (by simpa using ra)) rb c2 c1 (by omega) ⟨.bl _, H, I, rfl, q⟩
  | ref r =>
    simp only [inD] at e
    cases hs : s[r]? with
    | none => rw [hs] at e; cases e
    | some c =>
      rw [hs] at e
      obtain ⟨a, rfl, ha, cell⟩ := R.ofRef hs hy
      cases ry
      cases c with
      | lst ds =>
        obtain ⟨ys, dx, e1, e2, c1, c2, c3, rfl⟩ := inSeq_ok e
        obtain ⟨vs, h1, h2⟩ := cell
        obtain ⟨z, its, n, rv, ho⟩ := I.hok a _ h1
        obtain ⟨as, ra⟩ := reads_all I R h2 rv e1
        obtain ⟨bs, rb⟩ := reads_of I R hx rx e2
        exact in_list_reads (.list ho rfl rfl (by simpa using ra)) rb c2 c1 (by omega) ⟨.bl _, H, I, rfl, q⟩
      | dct kvs =>
        simp only [C.kvs, Option.bind_some] at e
        split at e
        · rename_i hf
          cases e
          obtain ⟨u', dr, da⟩ := cell.drd (kvs := kvs) rfl
          exact dIn hu I dr da hf hx rx fun s' I' => ⟨.bl _, H, I', rfl, q⟩
        · cases e
      | lck kvs =>
        simp only [C.kvs, Option.bind_some] at e
        split at e
        · rename_i hf
          cases e
          obtain ⟨u', dr, da⟩ := cell.drd (kvs := kvs) rfl
          exact dIn hu I dr da hf hx rx fun s' I' => ⟨.bl _, H, I', rfl, q⟩
        · cases e
  | _ => simp [inD] at e
theorem op_notInD (G : Gd X) : OpR X (compareOp .NotIn) (rCmp X.prog X.w X.K fun x y s => (inD s x y).map (!·)) := by
  intro pins sh σ H vx vy ux uy Q I rx ry h
  obtain ⟨ι, s, x, y, b, R, hx, hy, e, q⟩ := h
  simp only [Option.map_eq_some_iff] at e
  obtain ⟨b, e, rfl⟩ := e
  replace e : inD s x y = some b := e
  have hu := G.units
  cases y with
  | tup ds =>
    obtain ⟨ys, dx, e1, e2, c1, c2, c3, rfl⟩ := inSeq_ok e
    rw [RD] at hy
    obtain ⟨a, vs, rfl, hq, rws⟩ := hy
    cases ry
    obtain ⟨its, rv, ⟨o, ho, hcl, n, hda⟩, hz⟩ := I.tuple hq
    obtain ⟨as, ra⟩ := reads_all I R rws rv e1
    obtain ⟨bs, rb⟩ := reads_of I R hx rx e2
    exact notIn_tuple_reads (.tuple ho hcl hda (by simpa using ra)) rb c2 c1 (by omega) ⟨.bl _, H, I, rfl, q⟩
  | ref r =>
    simp only [inD] at e
    cases hs : s[r]? with
    | none => rw [hs] at e; cases e
    | some c =>
      rw [hs] at e
      obtain ⟨a, rfl, ha, cell⟩ := R.ofRef hs hy
      cases ry
      cases c with
      | lst ds =>
        obtain ⟨ys, dx, e1, e2, c1, c2, c3, rfl⟩ := inSeq_ok e
        obtain ⟨vs, h1, h2⟩ := cell
        obtain ⟨z, its, n, rv, ho⟩ := I.hok a _ h1
        obtain ⟨as, ra⟩ := reads_all I R h2 rv e1
        obtain ⟨bs, rb⟩ := reads_of I R hx rx e2
        exact notIn_list_reads (.list ho rfl rfl (by simpa using ra)) rb c2 c1 (by omega) ⟨.bl _, H, I, rfl, q⟩
      | dct kvs =>
        simp only [C.kvs, Option.bind_some] at e
        split at e
        · rename_i hf
          cases e
          obtain ⟨u', dr, da⟩ := cell.drd (kvs := kvs) rfl
          exact dNotIn hu I dr da hf hx rx fun s' I' => ⟨.bl _, H, I', rfl, q⟩
        · cases e
      | lck kvs =>
        simp only [C.kvs, Option.bind_some] at e
        split at e
        · rename_i hf
          cases e
          obtain ⟨u', dr, da⟩ := cell.drd (kvs := kvs) rfl
          exact dNotIn hu I dr da hf hx rx fun s' I' => ⟨.bl _, H, I', rfl, q⟩
        · cases e
  | _ => simp [inD] at e

theorem RD_non {K : PySem.W.Frag} {ι : List Addr} {H : Hp} {d : D} {v : V} (h : RD K ι H d v) : decide (v = .non) = decide (d = .non) := by
  cases d with
  | non => rw [RD] at h; subst h; simp
  | bl b => rw [RD] at h; subst h; simp
  | int b => rw [RD] at h; subst h; simp
  | str b => rw [RD] at h; subst h; simp
  | tup b => rw [RD] at h; obtain ⟨_, _, rfl, _⟩ := h; simp
  | ref b => rw [RD] at h; obtain ⟨_, rfl, _⟩ := h; simp
  | scr b => rw [RD] at h; obtain ⟨_, rfl, _⟩ := h; simp
theorem op_isD : OpR X (compareOp .Is) (rCmp X.prog X.w X.K fun x y s => cmpD .Is x y s) := by
  intro pins sh σ H vx vy ux uy Q I rx ry h
  obtain ⟨ι, s, x, y, b, R, hx, hy, e, q⟩ := h
  cases y with
  | non =>
    rw [RD] at hy; subst hy
    cases ry
    simp only [cmpD, Option.some.injEq] at e
    subst e
    exact is_none_gen ⟨.bl _, H, I, by rw [rx.none_iff, RD_non hx]; rfl, q⟩
  | _ => simp [cmpD] at e
theorem op_isNotD : OpR X (compareOp .IsNot) (rCmp X.prog X.w X.K fun x y s => cmpD .IsNot x y s) := by
  intro pins sh σ H vx vy ux uy Q I rx ry h
  obtain ⟨ι, s, x, y, b, R, hx, hy, e, q⟩ := h
  cases y with
  | non =>
    rw [RD] at hy; subst hy
    cases ry
    simp only [cmpD, Option.some.injEq] at e
    subst e
    exact isnot_none_gen ⟨.bl _, H, I, by rw [rx.none_iff, RD_non hx]; rfl, q⟩
  | _ => simp [cmpD] at e
theorem cmp_int {P : Int → Int → Bool} {op : CmpOp} (hop : ∀ x y s, cmpD op x y s = match x, y with
    | .int i, .int j => cmpI op i j
    | .tup _, .tup _ => match op with
      | .Lt => ltD s x y
      | _ => none
    | _, _ => none) {s : Sto} {x y : D} {b : Bool} (e : cmpD op x y s = some b) : (∃ i j, x = .int i ∧ y = .int j ∧ cmpI op i j = some b) ∨ (∃ l m, x = .tup l ∧ y = .tup m ∧ op = .Lt ∧ ltD s x y = some b) := by
  rw [hop] at e
  split at e
  · exact .inl ⟨_, _, rfl, rfl, e⟩
  · split at e
    · exact .inr ⟨_, _, rfl, rfl, rfl, e⟩
    · cases e
  · cases e
theorem op_cmpD (G : Gd X) (op : CmpOp) : OpR X (compareOp op) (rCmp X.prog X.w X.K fun x y s => cmpD op x y s) := by
  have hu := G.units
  cases op with
  | Eq => exact op_eqD hu
  | NotEq => exact op_neD hu
  | Is => exact op_isD
  | IsNot => exact op_isNotD
  | In => exact op_inD G
  | NotIn => exact op_notInD G
  | Lt =>
    intro pins sh σ H vx vy ux uy Q I rx ry h
    obtain ⟨ι, s, x, y, b, R, hx, hy, e, q⟩ := h
    rcases cmp_int (P := fun _ _ => true) (fun x y s => by cases x <;> cases y <;> rfl) e with ⟨i, j, rfl, rfl, e1⟩ | ⟨l, m, rfl, rfl, _, e1⟩
    · rw [RD] at hx hy; subst hx hy
      obtain ⟨t, rfl⟩ := rx; obtain ⟨t', rfl⟩ := ry
      cases e1
      exact lt_int ⟨.bl _, H, I, rfl, q⟩
    · exact op_ltD hu pins sh σ H vx vy ux uy Q I rx ry ⟨ι, s, _, _, b, R, hx, hy, e1, q⟩
  | LtE =>
    intro pins sh σ H vx vy ux uy Q I rx ry h
    obtain ⟨ι, s, x, y, b, R, hx, hy, e, q⟩ := h
    rcases cmp_int (P := fun _ _ => true) (fun x y s => by cases x <;> cases y <;> rfl) e with ⟨i, j, rfl, rfl, e1⟩ | ⟨l, m, rfl, rfl, e0, e1⟩
    · rw [RD] at hx hy; subst hx hy
      obtain ⟨t, rfl⟩ := rx; obtain ⟨t', rfl⟩ := ry
      cases e1
      exact le_int ⟨.bl _, H, I, rfl, q⟩
    · cases e0
  | Gt =>
    intro pins sh σ H vx vy ux uy Q I rx ry h
    obtain ⟨ι, s, x, y, b, R, hx, hy, e, q⟩ := h
    rcases cmp_int (P := fun _ _ => true) (fun x y s => by cases x <;> cases y <;> rfl) e with ⟨i, j, rfl, rfl, e1⟩ | ⟨l, m, rfl, rfl, e0, e1⟩
    · rw [RD] at hx hy; subst hx hy
      obtain ⟨t, rfl⟩ := rx; obtain ⟨t', rfl⟩ := ry
      cases e1
      exact gt_int ⟨.bl _, H, I, rfl, q⟩
    · cases e0
  | GtE =>
    intro pins sh σ H vx vy ux uy Q I rx ry h
    obtain ⟨ι, s, x, y, b, R, hx, hy, e, q⟩ := h
    rcases cmp_int (P := fun _ _ => true) (fun x y s => by cases x <;> cases y <;> rfl) e with ⟨i, j, rfl, rfl, e1⟩ | ⟨l, m, rfl, rfl, e0, e1⟩
    · rw [RD] at hx hy; subst hx hy
      obtain ⟨t, rfl⟩ := rx; obtain ⟨t', rfl⟩ := ry
      cases e1
      exact ge_int ⟨.bl _, H, I, rfl, q⟩
    · cases e0
end
end Ev
end

section
set_option autoImplicit false
set_option maxRecDepth 100000
set_option linter.unusedVariables false
/-! Ev13: methods, stores, reversed -/
namespace Ev
open PySem L2 PySem.SeqAt PyProof.Rows PySem.Calls

section
variable {P : Program} {w : World} {K : PySem.W.Frag} {ι : List Addr} {H : Hp} {s s' : Sto} {Q : VK} {d : D}
/-- the list at r is written -/
theorem set_rep (R : Rep P w K ι H s) {r : Nat} {ds ds' : List D} {a : Addr} {vs vs' : List V} (hs : s[r]? = some (.lst ds)) (ha : ι[r]? = some a) (hH : H a = some (.lst vs)) (rd : RDs K ι H ds' vs') :
    Go ι ι H (upd H a (.lst vs')) ∧ Rep P w K ι (upd H a (.lst vs')) (s.set r (.lst ds')) ∧ Stay K H (upd H a (.lst vs')) := by
  have st : Stay K H (upd H a (.lst vs')) := stay_set hH (fun _ z => nomatch z) (fun _ _ z => nomatch z) (fun _ _ z => nomatch z)
  refine ⟨Go.set (List.mem_of_getElem? ha) hH (fun _ _ z => nomatch z), ?_, st⟩
  refine R.set hs ha (fun _ z => by rw [hH] at z; cases z) (fun _ _ z => by rw [hH] at z; cases z) (fun _ _ z => by rw [hH] at z; cases z) ⟨vs', upd_same, rd.mono st fun _ _ e => e⟩
theorem Ret.setL (h : Ret P w K ι H Q d s') (R : Rep P w K ι H s) {r : Nat} {ds ds' : List D} {a : Addr} {vs vs' : List V} (hs : s[r]? = some (.lst ds)) (ha : ι[r]? = some a) (hH : H a = some (.lst vs)) (rd : RDs K ι H ds' vs') (e : s' = s.set r (.lst ds'))
    {v : V} (rv : RD K ι H d v) : Q v (upd H a (.lst vs')) := by
  subst e
  obtain ⟨g, R', st⟩ := set_rep R hs ha hH rd
  exact h v _ ι g R' (rv.mono st fun _ _ e => e)
end

def mId : Mt → String
  | .append => "list.append" | .extend => "list.extend" | .pop => "list.pop" | .get => "dict.get" | .index => "list.index"
def mTy : Mt → String
  | .get => "dict"
  | _ => "list"
/-- a method's reading by its run -/
def rMth (P : Program) (w : World) (K : PySem.W.Frag) (m : Mt) : V → List V → Hp → VK → Prop := fun vx vs H Q => ∃ ι s x ds d s', Rep P w K ι H s ∧ RD K ι H x vx ∧ RDs K ι H ds vs ∧ mthD m x ds s = some (d, s') ∧ Ret P w K ι H Q d s'
section
variable {X : Cx}
theorem mt_D (G : Gd X) (m : Mt) : MtR X (mId m) (rMth X.prog X.w X.K m) := by
  intro pins sh σ H vx vs ux us Q I rx rv h
  obtain ⟨ι, s, x, ds, d, s', R, hx, hds, e, q⟩ := h
  cases x with
  | ref r =>
    simp only [mthD] at e
    split at e
    · -- append
      rename_i dd l hs
      split at e
      · rename_i hl
        rw [L_eq] at hl
        cases e
        obtain ⟨a, rfl, ha, ws, h1, h2⟩ := R.ofRef hs hx
        refine RDs.one_of hds rv fun v u hv hu' r1 r2 => ?_
        have := h2.length
        exact mt_append pins sh σ H _ vs ux us Q I rx rv ⟨a, ws, v, rfl, hv, h1, by omega, q.setL R hs ha h1 (h2.append (RDs.one r1)) rfl (by rw [RD])⟩
      · cases e
    · -- extend
      rename_i qq l hs
      split at e
      · rename_i es hs2
        split at e
        · rename_i hl
          rw [L_eq] at hl
          cases e
          obtain ⟨a, rfl, ha, ws, h1, h2⟩ := R.ofRef hs hx
          refine RDs.one_of hds rv fun v u hv hu' r1 r2 => ?_
          obtain ⟨b, rfl, hb, ws2, h3, h4⟩ := R.ofRef hs2 r1
          have := h2.length; have := h4.length
          exact mt_extend pins sh σ H _ vs ux us Q I rx rv ⟨a, b, ws, ws2, rfl, hv, h1, h3, by omega, q.setL R hs ha h1 (h2.append h4) rfl (by rw [RD])⟩
        · cases e
      · cases e
    · -- pop
      rename_i l hs
      simp only [Option.map_eq_some_iff, Prod.mk.injEq] at e
      obtain ⟨d', e1, rfl, rfl⟩ := e
      obtain ⟨a, rfl, ha, ws, h1, h2⟩ := R.ofRef hs hx
      rw [RDs] at hds
      subst hds
      have hl := h2.length
      rw [List.getLast?_eq_getElem?] at e1
      obtain ⟨v, hv, rdv⟩ := h2.get e1
      exact mt_pop pins sh σ H _ _ ux us Q I rx rv ⟨a, ws, v, rfl, rfl, h1, by rw [hl]; exact hv, q.setL R hs ha h1 h2.dropLast rfl rdv⟩
    · -- pop i
      rename_i i l hs
      simp only [Option.bind_eq_some_iff, Option.map_eq_some_iff, Prod.mk.injEq] at e
      obtain ⟨j, e1, d', e2, rfl, rfl⟩ := e
      obtain ⟨a, rfl, ha, ws, h1, h2⟩ := R.ofRef hs hx
      refine RDs.one_of hds rv fun v u hv hu' r1 r2 => ?_
      rw [RD] at r1
      subst r1
      have hl := h2.length
      obtain ⟨z, _⟩ := I.hok a _ h1
      rw [sizeLine_eq] at z
      obtain ⟨k1, k2, k3, k4⟩ := ixN_seq (show ixN l.length i = some j from e1)
      obtain ⟨v', hv', rdv⟩ := h2.get e2
      exact mt_popAt pins sh σ H _ vs ux us Q I rx rv ⟨a, ws, i, j, v', rfl, hv, h1, by omega, by omega, by rw [hl]; exact k1, hv', q.setL R hs ha h1 (h2.eraseIdx j) rfl rdv⟩
    · -- get
      rename_i k dd c hs
      simp only [Option.bind_eq_some_iff] at e
      obtain ⟨kvs, e1, e2⟩ := e
      split at e2
      · rename_i hf
        cases e2
        obtain ⟨a, rfl, ha, cell⟩ := R.ofRef hs hx
        cases rx
        refine two_of hds rv fun v v' u u' hv hu' r1 r2 r3 r4 => ?_
        subst hv hu'
        obtain ⟨u0, dr, da⟩ := cell.drd e1
        exact dGet2 G.units I dr da hf r1 r3 r2 r4 fun v1 u1 s1 I1 rr1 rd1 => ⟨v1, H, I1, rr1, q.here R rd1⟩
      · cases e2
    · cases e
  | _ => simp [mthD] at e

/-- the receiver's type -/
theorem mthOk_ty {pins : List (Addr × Obj)} {σ : L2.St} {H : Hp} {sh : Shared} (I : Inv X pins σ H sh) {ι : List Addr} {s : Sto} (R : Rep X.prog X.w X.K ι H s) {m : Mt} {x : D} (h : mthOk m x s = true) {v : V} {u : Value} (rd : RD X.K ι H x v) (rv : RelV v u) :
    sh.TypeIs u (mTy m) ∧ ∀ a, u = .ref a → ∃ ob, sh.heap.get? a = some ob ∧ ob.dict = none := by
  cases x with
  | ref r =>
    simp only [mthOk] at h
    split at h
    · rename_i l hs
      obtain ⟨a, rfl, ha, ws, h1, h2⟩ := R.ofRef hs rd
      cases rv
      obtain ⟨z, its, n, rr, ho⟩ := I.hok a _ h1
      cases m <;> first | exact ⟨⟨_, ho, rfl⟩, fun b e => by cases e; exact ⟨_, ho, rfl⟩⟩ | simp at h
    · rename_i c hc hs
      obtain ⟨a, rfl, ha, cell⟩ := R.ofRef hs rd
      cases rv
      have hd : ∃ kvs, c.kvs = some kvs := by
        cases c with
        | lst l => exact absurd rfl (hc l)
        | dct kvs => exact ⟨kvs, rfl⟩
        | lck kvs => exact ⟨kvs, rfl⟩
      obtain ⟨kvs, hk⟩ := hd
      obtain ⟨u', dr, da⟩ := cell.drd hk
      obtain ⟨es, ep, ⟨o, ho, hx, _⟩, _⟩ := dRaw I dr da
      cases m <;> first | exact ⟨⟨_, ho, hx.1⟩, fun b e => by cases e; exact ⟨_, ho, hx.2.1⟩⟩ | simp at h
    · cases h
  | _ => simp [mthOk] at h

/-! ### o[i] = v -/
def rSet (P : Program) (w : World) (K : PySem.W.Frag) : TSet := fun vo vi vv H Q => ∃ ι s x k d s', Rep P w K ι H s ∧ RD K ι H x vo ∧ RD K ι H k vi ∧ RD K ι H d vv ∧ setD x k d s = some s' ∧ ∀ H' ι', Go ι ι' H H' → Rep P w K ι' H' s' → Q H'
theorem set_D (G : Gd X) : PSet X (rSet X.prog X.w X.K) := by
  intro pins sh σ H vo vi vv ou iu vu Q I ro ri rv h
  obtain ⟨ι, s, x, k, d, s', R, hx, hk, hd, e, q⟩ := h
  cases x with
  | ref r =>
    simp only [setD] at e
    split at e
    · rename_i l i hs
      simp only [Option.map_eq_some_iff] at e
      obtain ⟨j, e1, rfl⟩ := e
      obtain ⟨a, rfl, ha, ws, h1, h2⟩ := R.ofRef hs hx
      rw [RD] at hk
      subst hk
      have hl := h2.length
      obtain ⟨g, R', st⟩ := set_rep R hs ha h1 (h2.set j hd)
      exact set_list pins sh σ H _ _ _ ou iu vu Q I ro ri rv ⟨a, ws, i, j, rfl, rfl, h1, by rw [hl]; exact e1, q _ ι g R'⟩
    · rename_i kvs hs
      split at e
      · rename_i hc
        simp only [Bool.and_eq_true, decide_eq_true_eq] at hc
        obtain ⟨hf, hl⟩ := hc
        rw [L_eq] at hl
        cases e
        obtain ⟨a, rfl, ha, u, h1, h2⟩ := R.ofRef hs hx
        cases ro
        obtain ⟨n1, n2, n3, n4⟩ := h2.notTup
        refine dSetItem G.units I h1 h2 hf hl hk ri hd rv fun sh' u' I' h' => ⟨_, I', q _ ι (Go.set (List.mem_of_getElem? ha) h1 n2) ?_⟩
        exact R.set hs ha (fun vs z => by rw [h1] at z; exact n1 vs (Option.some.inj z)) (fun _ _ z => by rw [h1] at z; exact n2 _ _ (Option.some.inj z)) (fun _ _ z => by rw [h1] at z; exact n2 _ _ (Option.some.inj z)) ⟨u', upd_same, h'⟩
      · cases e
    · cases e
  | _ => simp [setD] at e
end
end Ev
end

section
set_option autoImplicit false
set_option maxRecDepth 100000
set_option linter.unusedVariables false
/-! Ev14: x[::-1] -/
namespace Ev
open PySem L2 PySem.SeqAt PyProof.Rows PySem.Calls

theorem places_rev (n : Nat) : Builtin.Slice.slicePlaces ((n : Int) - 1) (-1) (-1) = n := by
  unfold Builtin.Slice.slicePlaces
  rw [if_neg (by decide)]
  by_cases h : ((n : Int) - 1) > -1
  · rw [if_pos h]
    have : (-(-1) : Int) = 1 := by decide
    rw [this, Int.ediv_one]
    omega
  · rw [if_neg h]
    have : n = 0 := by omega
    subst this
    rfl
theorem fm_some {α β : Type} {f : α → Option β} {g : α → β} : ∀ {l : List α}, (∀ m ∈ l, f m = some (g m)) → l.filterMap f = l.map g
  | [], _ => rfl
  | a :: l, h => by rw [List.filterMap_cons_some (h a (List.mem_cons_self ..)), List.map_cons, fm_some fun m hm => h m (List.mem_cons_of_mem _ hm)]
theorem pick_rev (xs : Array Value) : ((List.range xs.size).filterMap fun (m : Nat) => xs[(((xs.size : Int) - 1) + (m : Int) * (-1)).toNat]?).toArray = xs.toList.reverse.toArray := by
  congr 1
  refine List.ext_getElem? fun i => ?_
  have key : (List.range xs.size).filterMap (fun (m : Nat) => xs[(((xs.size : Int) - 1) + (m : Int) * (-1)).toNat]?) = (List.range xs.size).map fun m => xs.toList.getD (xs.size - 1 - m) .none := by
    refine fm_some fun m hm => ?_
    have hm' : m < xs.size := List.mem_range.mp hm
    have e : (((xs.size : Int) - 1) + (m : Int) * (-1)).toNat = xs.size - 1 - m := by omega
    have h2 : xs.size - 1 - m < xs.toList.length := by rw [Array.length_toList]; omega
    rw [e, ← Array.getElem?_toList, List.getElem?_eq_getElem h2, List.getD_eq_getElem?_getD, List.getElem?_eq_getElem h2]
    rfl
  rw [key, List.getElem?_map]
  by_cases h : i < xs.size
  · rw [List.getElem?_range h, List.getElem?_reverse (by rw [Array.length_toList]; exact h)]
    have h2 : xs.size - 1 - i < xs.toList.length := by rw [Array.length_toList]; omega
    rw [Array.length_toList, List.getElem?_eq_getElem h2, Option.map_some, List.getD_eq_getElem?_getD, List.getElem?_eq_getElem h2]
    rfl
  · rw [List.getElem?_eq_none (by simpa using h), List.getElem?_eq_none (by simpa using h)]
    rfl

section
variable {prog : Program} {w : World} {A : Around} {E : Value → Shared → Prop} {s : Shared}
theorem sliceApplied_rev {sl : Addr} {vl vu vs : Value} {n : Nat} {Q : Int × Int × Nat → Shared → Prop} (hs : s.heap.IsSliceOf sl vl vu vs) (pl : IsPart vl none) (pu : IsPart vu none) (ps : IsPart vs (some (-1)))
    (h : Q ((n : Int) - 1, -1, n) s) : wpAny (model prog w) A (Builtin.Slice.sliceApplied (.ref sl) (pure (n : Int))) Q E s := by
  obtain ⟨os, hos, hcs, hds⟩ := id hs
  unfold Builtin.Slice.sliceApplied Builtin.Slice.sliceFields
  refine wpAny_bind (wpAny_bind (wpAny_field hos hds (x := vl) rfl (wpAny_bind (wpAny_field hos hds (x := vu) rfl (wpAny_bind (wpAny_field hos hds (x := vs) rfl (wpAny_pure ?_)))))))
  refine wpAny_bind (HT.slicePart_ ps ?_)
  show wpAny _ _ (if ((-1 : Int) == 0) = true then _ else _) _ _ s
  rw [if_neg (by decide)]
  refine wpAny_bind (HT.slicePart_ pl (wpAny_bind (HT.slicePart_ pu (wpAny_bind (wpAny_pure ?_)))))
  show wpAny _ _ (match Builtin.Slice.sliceAdjust none none (-1) (n : Int) with | (lo, hi) => pure (lo, (-1 : Int), Builtin.Slice.slicePlaces lo hi (-1))) _ _ s
  have e : Builtin.Slice.sliceAdjust none none (-1) (n : Int) = ((n : Int) - 1, -1) := rfl
  rw [e]
  show wpAny _ _ (pure ((n : Int) - 1, (-1 : Int), Builtin.Slice.slicePlaces ((n : Int) - 1) (-1) (-1))) _ _ s
  rw [places_rev]
  exact wpAny_pure h
theorem getItem_tuple_rev {t sl : Addr} {items : Array Value} {vl vu vs : Value} {Q : Value → Shared → Prop} (ht : IsTup s.heap t items) (hs : s.heap.IsSliceOf sl vl vu vs) (pl : IsPart vl none) (pu : IsPart vu none) (ps : IsPart vs (some (-1)))
    (h : Q (.ref s.heap.objs.size) { s with heap := s.heap.push { cls := .type "tuple", data := .seq items.toList.reverse.toArray } })
    (hsz : items.size ≤ sizeLine) : wpAny (model prog w) A (getItem (.ref t) (.ref sl)) Q E s := by
  have htake : sizeOk (.seq items.toList.reverse.toArray) := by
    show items.toList.reverse.toArray.size ≤ sizeLine
    simpa using hsz
  obtain ⟨os, hos, hcs, hds⟩ := id hs
  have hTs : s.TypeIs (.ref sl) "slice" := ⟨os, hos, hcs⟩
  unfold getItem
  try with_reducible refine wpAny_holding ?_
  first | refine wpAny_bind (wpAny_pure ?_) | skip
  refine wpAny_bind (wpAny_sequenceKey ht.typeIs (by decide) ?_)
  refine wpAny_bind (wpAny_callSpecial?_slot (name := Str.ofString "__getitem__") ht.typeIs PyProof.Rows.slot_tuple_getitem
    (wpAny_call_entry PyProof.Rows.slot_tuple_getitem ht.typeIs entry_tuple_getitem ?_ (args_tuple_getitem _ _)))
  show wpAny _ _ (Builtin.Tuple.tupleItemsOf (.ref t) >>= _) _ _ s
  refine wpAny_bind (tupleItemsOf_ ht ?_)
  refine wpAny_bind (wpAny_typeOf hTs ?_)
  rw [if_pos (by decide)]
  refine wpAny_bind (sliceApplied_rev hs pl pu ps ?_)
  have hno : ¬ ((((items.size : Int) - 1) == 0 && (-1 : Int) == 1 && items.size == items.size) = true) := by
    intro q
    rw [Bool.and_eq_true, Bool.and_eq_true] at q
    exact absurd q.1.2 (by decide)
  show wpAny _ _ (if (((items.size : Int) - 1) == 0 && (-1 : Int) == 1 && items.size == items.size) = true then _ else _) _ _ s
  rw [if_neg hno, pick_rev]
  first
    | exact wpAny_bind (m := Builtin.Tuple.tupleExact _) (wpAny_newObj_type (wpAny_pure ⟨_, rfl, wpAny_pure h⟩) htake)
    | exact wpAny_bind (m := Builtin.Tuple.tupleExact _) (wpAny_newObj_type (wpAny_bind (wpAny_pure (wpAny_pure ⟨_, rfl, wpAny_pure h⟩))) htake)
    | exact wpAny_bind (wpAny_bind (m := Builtin.Tuple.tupleExact _) (wpAny_newObj_type (wpAny_pure (wpAny_pure ⟨_, rfl, wpAny_pure h⟩)) htake))
    | exact wpAny_bind (wpAny_bind (m := Builtin.Tuple.tupleExact _) (wpAny_newObj_type (wpAny_pure ⟨_, rfl, wpAny_pure h⟩) htake))
end

def rRev (P : Program) (w : World) (K : PySem.W.Frag) : V → Hp → VK → Prop := fun vx H Q => ∃ ι s x d s', Rep P w K ι H s ∧ RD K ι H x vx ∧ revD x s = some (d, s') ∧ Ret P w K ι H Q d s'
section
variable {X : Cx}
theorem pe_revD {e : Expr} {te : TE} {k : Nat} {p1 p2 p3 pos : Pos} (he : PE X e te) : PE X (.Subscript e (.Slice none none (some (.UnaryOp .USub (.Constant (.int 1) k p1) p2)) p3) pos) (tUn (rRev X.prog X.w X.K) te) := by
  refine ⟨fun pins s σ H Q I h => ?_⟩
  refine Subscript_ (thn (he.run pins s σ H _ I h) fun v s1 ⟨x, H1, I1, r1, q1⟩ => ?_)
  have hst : PO X (some (.UnaryOp .USub (.Constant (.int 1) k p1) p2)) (tPart (tUn (rU fun i => .int (-i)) (tC (.int 1)))) := po_some (pe_un un_neg pe_int)
  refine wpAny_Slice (thn (po_none.run pins s1 σ H1 (fun o H2 => o = none ∧ H2 = H1) I1 ⟨rfl, rfl⟩) fun vl s2 ⟨l, H2, I2, pl, el, e2⟩ => ?_)
  subst el e2
  refine thn (po_none.run pins s2 σ H2 (fun o H3 => o = none ∧ H3 = H2) I2 ⟨rfl, rfl⟩) fun vu s3 ⟨u, H3, I3, pu, eu, e3⟩ => ?_
  subst eu e3
  refine thn (hst.run pins s3 σ H3 (fun o H4 => o = some (-1) ∧ H4 = H3) I3 ⟨1, rfl, -1, rfl, rfl, rfl⟩) fun vs s4 ⟨o, H4, I4, ps, eo, e4⟩ => ?_
  subst eo e4
  have I5 : Inv X pins σ H4 { s4 with heap := s4.heap.push { cls := .type "slice", data := .fields #[vl, vu, vs] } } := I4.kept (t' := s4.toks) fun b ob q => Heap.get?_push_of_some _ q
  obtain ⟨ι, s0, xd, d, s0', R, hx, er, q⟩ := q1
  show wpAny (model X.prog X.w) X.A (subscriptTail e (.Slice none none (some (.UnaryOp .USub (.Constant (.int 1) k p1) p2)) p3) v (.ref s4.heap.objs.size)) (EP X pins σ Q) X.xe { s4 with heap := s4.heap.push { cls := .type "slice", data := .fields #[vl, vu, vs] } }
  cases xd with
  | tup l =>
    simp only [revD, Option.some.injEq, Prod.mk.injEq] at er
    obtain ⟨rfl, rfl⟩ := er
    rw [RD] at hx
    obtain ⟨a, ws, rfl, hq, rd⟩ := hx
    cases r1
    obtain ⟨its, r, ht, hz⟩ := I5.tuple hq
    have hlen := r.length
    refine tail_any (ops := [.ref a, .ref s4.heap.objs.size]) ht.typeIs (PyProof.Rows.slot_tuple_getitem.lookup) ?_ (by with_unfolding_all rfl)
    refine getItem_tuple_rev ht (Heap.IsSliceOf.new _ vl vu vs) pl pu ps ?_ (by rw [List.size_toArray]; omega)
    refine ⟨.ref _, _, I5.laid (t' := s4.toks) (o := .tup ws.reverse) (fun b ob q => Heap.get?_push_of_some _ q) (Nat.le_refl _) ?_, rfl, q.newT R rd.reverse (I5.hok.fresh (Nat.le_refl _))⟩
    exact ⟨by rw [List.length_reverse]; exact hz, _, r.reverse, ⟨_, Heap.get?_push_size _ rfl, rfl, _, rfl⟩⟩
  | ref i =>
    simp only [revD] at er
    split at er
    · rename_i l hs
      obtain ⟨hz0, rfl, rfl⟩ := newL_some er
      obtain ⟨a, rfl, ha, ws, h1, rd⟩ := R.ofRef hs hx
      cases r1
      obtain ⟨its, r, ht, hz⟩ := I5.list (.inl (.inl h1))
      have hlen := r.length
      refine tail_any (ops := [.ref a, .ref s4.heap.objs.size]) ht.isList.typeIs (PySem.slot_list_getitem.lookup) ?_ (by with_unfolding_all rfl)
      refine wpAny_getItem_list_slice ht.isList (Heap.IsSliceOf.new _ vl vu vs) pl pu ps (by decide) ?_ (by rw [List.size_toArray]; omega)
      rw [PySem.W.krv_pick]
      refine ⟨.ref _, _, I5.laid (t' := s4.toks) (o := .lst ws.reverse) (fun b ob q => Heap.get?_push_of_some _ q) (Nat.le_refl _) ?_, rfl, q.newL R rd.reverse (I5.hok.fresh (Nat.le_refl _))⟩
      exact ⟨by rw [List.length_reverse]; exact hz, _, 0, r.reverse, Heap.get?_push_size _ rfl⟩
    · cases er
  | _ => simp [revD] at er
end
end Ev
end

section
set_option autoImplicit false
set_option maxRecDepth 100000
set_option linter.unusedVariables false
/-! Ev15: what loops walk -/
namespace Ev
open PySem L2 PySem.SeqAt PyProof.Rows PySem.Calls

/-- J yields g's items while what g needs stays -/
structure ItOk (P : Program) (w : World) (K : PySem.W.Frag) (ι1 : List Addr) (H1 : Hp) (g : Src) (J : L2.It) : Prop where
  step : ∀ (ι2 : List Addr) (H : Hp) (s2 : Sto), Go ι1 ι2 H1 H → Rep P w K ι2 H s2 → g.ok s2 = true → ∀ i : Nat,
    (∀ d, g.items[i]? = some d → J.go i H ∧ ∀ x H', J.yld i H x H' → Go ι2 ι2 H H' ∧ Rep P w K ι2 H' s2 ∧ RD K ι2 H' d x) ∧ (g.items.length ≤ i → J.stop i H)
/-- what is known of a dict that this loop locked -/
def Lk (X : Cx) (H : Hp) (ι1 : List Addr) (H1 : Hp) (g : Src) (s : Sto) : Prop := ∀ r, g.lock = some r → ∃ c a, s[r]? = some c ∧ ι1[r]? = some a ∧
  ((∃ kvs, c = .lck kvs) ∨ ∃ kvs od u, c = .dct kvs ∧ H1 a = some (.frz od u) ∧ DctAt X.prog X.w X.K ι1 H1 kvs a u ∧ (∀ o' u', X.H_0 a ≠ some (.frz o' u')) ∧ ∀ o' u', H a ≠ some (.frz o' u'))
theorem Lk.go {X : Cx} {H H' : Hp} {ι0 ι ι1 : List Addr} {H1 : Hp} {g : Src} {s : Sto} (h : Lk X H' ι1 H1 g s) (q : Go ι0 ι H H') : Lk X H ι1 H1 g s := fun r e => by
  obtain ⟨c, a, h1, h2, h3⟩ := h r e
  refine ⟨c, a, h1, h2, h3.imp id fun ⟨kvs, od, u, e1, e2, e3, e4, e5⟩ => ⟨kvs, od, u, e1, e2, e3, e4, fun o' u' z => e5 o' u' (q.frz _ _ _ z)⟩⟩
def RetI (X : Cx) (ι : List Addr) (H : Hp) (s' : Sto) (g : Src) (R : L2.It → Hp → Prop) : Prop :=
  ∀ J H1 ι1, Go ι ι1 H H1 → Rep X.prog X.w X.K ι1 H1 (lockS g s') → Lk X H ι1 H1 g s' → ItOk X.prog X.w X.K ι1 H1 g J → R J H1
def iD (X : Cx) (run : Env → Sto → Option (Src × Sto)) : TI := fun σ H R => ∃ ι env s g s', RepE X.K ι H env σ ∧ Rep X.prog X.w X.K ι H s ∧ run env s = some (g, s') ∧ RetI X ι H s' g R
theorem RetI.go {X : Cx} {ι ι1 : List Addr} {H H1 : Hp} {s1 s' : Sto} {g : Src} {R : L2.It → Hp → Prop} (R1 : Rep X.prog X.w X.K ι1 H1 s1) (h : Go ι ι1 H H1) (q : RetI X ι H s' g R) : RetI X ι1 H1 s' g R :=
  fun J H2 ι2 g2 a b => q J H2 ι2 (h.trans R1 g2) a (b.go h)

/-! ### lists, tuples -/
section
variable {P : Program} {w : World} {K : PySem.W.Frag} {ι1 : List Addr} {H1 : Hp} {s1 : Sto}
theorem itOk_list (R : Rep P w K ι1 H1 s1) {r : Nat} {ds : List D} {a : Addr} (hs : s1[r]? = some (.lst ds)) (ha : ι1[r]? = some a) : ItOk P w K ι1 H1 ⟨ds, [(r, .lst ds)], none⟩ (Itl K a) := by
  refine ⟨fun ι2 H s2 g R2 ok i => ?_⟩
  have hs2 : s2[r]? = some (.lst ds) := by simpa [Src.ok] using ok
  obtain ⟨vs, h1, h2⟩ := R2.cell r _ a hs2 (g.ix ha)
  have hl := h2.length
  refine ⟨fun d hd => ?_, fun hi => ⟨vs, .inl (.inl h1), by simp only at hi; omega⟩⟩
  obtain ⟨v, hv, rv⟩ := h2.get hd
  refine ⟨⟨vs, v, .inl (.inl h1), hv⟩, fun x H' y => ?_⟩
  obtain ⟨rfl, y⟩ := y
  have := y vs (.inl (.inl h1))
  rw [hv] at this; cases this
  exact ⟨Go.refl, R2, rv⟩
theorem itOk_ro (R : Rep P w K ι1 H1 s1) {is : List Int} {a : Addr} (h : RoL K H1 a (is.map V.int)) : ItOk P w K ι1 H1 ⟨is.map .int, [], none⟩ (Itl K a) := by
  refine ⟨fun ι2 H s2 g R2 ok i => ?_⟩
  have h2 := (g.stay R).l _ _ h
  refine ⟨fun d hd => ?_, fun hi => ⟨_, h2.sq, by simpa using hi⟩⟩
  rw [List.getElem?_map, Option.map_eq_some_iff] at hd
  obtain ⟨n, hn, rfl⟩ := hd
  refine ⟨⟨_, .int n, h2.sq, by rw [List.getElem?_map, hn]; rfl⟩, fun x H' y => ?_⟩
  obtain ⟨rfl, y⟩ := y
  have := y _ h2.sq
  rw [List.getElem?_map, hn] at this
  cases this
  exact ⟨Go.refl, R2, by rw [RD]⟩
theorem itOk_tup (R : Rep P w K ι1 H1 s1) {ds : List D} {a : Addr} {vs : List V} (hq : SqT K H1 a vs) (rd : RDs K ι1 H1 ds vs) : ItOk P w K ι1 H1 ⟨ds, [], none⟩ (Itt K a) := by
  refine ⟨fun ι2 H s2 g R2 ok i => ?_⟩
  have h1 := (g.stay R).t _ _ hq
  have h2 := g.rds R rd
  have hl := h2.length
  refine ⟨fun d hd => ?_, fun hi => ⟨vs, h1, by simp only at hi; omega⟩⟩
  obtain ⟨v, hv, rv⟩ := h2.get hd
  refine ⟨⟨vs, v, h1, hv⟩, fun x H' y => ?_⟩
  obtain ⟨rfl, y⟩ := y
  have := y vs h1
  rw [hv] at this; cases this
  exact ⟨Go.refl, R2, rv⟩
theorem itOk_range {lo hi : Int} {g : Src} (e : srcRange lo hi = some g) : ItOk P w K ι1 H1 g (Itr lo (hi - lo).toNat) := by
  unfold srcRange at e
  split at e
  · cases e
    refine ⟨fun ι2 H s2 g R2 ok i => ⟨fun d hd => ?_, fun hh => by
      show (hi - lo).toNat ≤ i
      simp at hh
      omega⟩⟩
    rw [List.getElem?_map, Option.map_eq_some_iff] at hd
    obtain ⟨n, hn, rfl⟩ := hd
    have hlt := (List.getElem?_eq_some_iff.mp hn).1
    rw [List.length_range] at hlt
    rw [List.getElem?_range hlt] at hn
    cases hn
    refine ⟨hlt, fun x H' y => ?_⟩
    obtain ⟨rfl, rfl⟩ := y
    exact ⟨Go.refl, R2, by rw [RD]⟩
  · cases e
end

/-! ### dicts -/
/-- the keys of the locked dict at d -/
def ItDk (d : Addr) (o : Obj) (u : HO) (es : Array DictEntry) : L2.It :=
  ⟨fun i H => H d = some (.frz o u) ∧ ∃ en x, es[i]? = some en ∧ RelV x en.key, fun i H x H' => H' = H ∧ ∃ en, es[i]? = some en ∧ RelV x en.key, fun i H => H d = some (.frz o u) ∧ es.size ≤ i⟩
/-- its pairs -/
def ItDi (d : Addr) (o : Obj) (u : HO) (es : Array DictEntry) : L2.It :=
  ⟨fun i H => H d = some (.frz o u) ∧ ∃ en x y, es[i]? = some en ∧ RelV x en.key ∧ RelV y en.val, fun i H x H' => ∃ T en k v, es[i]? = some en ∧ RelV k en.key ∧ RelV v en.val ∧ x = .ref T ∧ H T = none ∧ H' = upd H T (.tup [k, v]),
    fun i H => H d = some (.frz o u) ∧ es.size ≤ i⟩
section
variable {P : Program} {w : World} {K : PySem.W.Frag} {tg : Expr} {d : Addr} {o : Obj} {u : HO} {es : Array DictEntry} {ep : Nat}
theorem turn_dk (it : Addr) (hx : o.ExactDict) (hod : o.data = .dict es ep) : Turn P w K tg (ItDk d o u es) [it] it (fun i h => h.IsKeyIter it d i es.size ep) where
  mem := by simp
  obj := fun i h st b hb => by
    have e : b = it := by simpa using hb
    subst e
    obtain ⟨oi, e, c, dd⟩ := st
    exact ⟨oi, e, fun v z => by rw [dd] at z; cases z⟩
  keep := fun i h h' st k => st.at fun oi e => k it (by simp) oi e
  item := by
    intro X hP hw hK hc i pins s σ H E I hf st hg
    subst hP hw hK
    obtain ⟨hd, en, x, hen, rx⟩ := hg
    obtain ⟨f0, f1, f2, f3, f4, f5⟩ := hf it (by simp)
    have hgd : s.heap.get? d = some o := (I.hok d _ hd).1
    refine next_key_item st hgd hod rfl hen fun h' st' sb => ?_
    have I1 : Inv X pins σ H { s with heap := h' } := I.turned (t' := s.toks) (fun b ob hb e => (sb.2 b hb).trans e) f0 f1 f3 f4 f5
    obtain ⟨oi, e, c, dd⟩ := id st'
    exact ⟨en.key, rfl, go_of (s := { s with heap := h' }) e c dd (by decide) ⟨x, H, I1, rx, ⟨rfl, en, hen, rx⟩, st', fun b hb => (hf b hb).1⟩⟩
  done := by
    intro X hP hw hK hc i pins s σ H E I hf st hg
    subst hP hw hK
    obtain ⟨hd, hi⟩ := hg
    obtain ⟨f0, f1, f2, f3, f4, f5⟩ := hf it (by simp)
    have hgd : s.heap.get? d = some o := (I.hok d _ hd).1
    exact next_key_end (I.ok.hd hc) st hgd hod rfl hi fun h' eb => ⟨rfl, I.turned (t' := s.toks) (fun b ob hb e => eb b ob hb e) f0 f1 f3 f4 f5⟩
  self := fun A i s Q E st h => by
    refine wpAny_pyIter_slot st.typeIs PySem.F.slot_dict_keyiterator_iter (wpAny_call_entry PySem.F.slot_dict_keyiterator_iter st.typeIs PySem.F.entry_dict_keyiterator_iter ?_ (PySem.F.args_dict_keyiterator_iter_1 _))
    show wpAny _ _ (ret (.ref it)) _ _ s
    exact wpAny_pure ⟨_, rfl, "dict_keyiterator", _, st.typeIs, PySem.F.slot_dict_keyiterator_next.lookup, h⟩
theorem turn_di {elts : List Expr} {kk : Nat} {tpos : Pos} (it : Addr) (hx : o.ExactDict) (hod : o.data = .dict es ep) :
    Turn P w K (.Tuple elts kk tpos) (ItDi d o u es) [it] it (fun i h => ∃ ok ov, IsItemIter h it d i es.size ep ok ov) where
  mem := by simp
  obj := fun i h st b hb => by
    have e : b = it := by simpa using hb
    subst e
    obtain ⟨ok, ov, e⟩ := st
    exact ⟨_, e, fun v z => nomatch z⟩
  keep := fun i h h' st k => let ⟨ok, ov, e⟩ := st; ⟨ok, ov, k it (by simp) _ e⟩
  item := by
    intro X hP hw hK hc i pins s σ H E I hf st hg
    subst hP hw hK
    obtain ⟨hd, en, x, y, hen, rx, ry⟩ := hg
    have hgd : s.heap.get? d = some o := (I.hok d _ hd).1
    obtain ⟨hi, rfl⟩ := Array.getElem?_eq_some_iff.mp hen
    obtain ⟨ok, ov, he⟩ := st
    have hlt : it < s.heap.objs.size := Heap.lt_size he
    refine wpAny_pyNext_items_item_raw he ⟨o, hgd, hx, hod⟩ hi fun h' ho hT hz hk => ?_
    refine ⟨_, rfl, wpAny_letOwnedTupleGo_items (s := { s with heap := h' }) ho fun h'' he' sb => ?_⟩
    have hT2 : h''.get? s.heap.objs.size = some { cls := .type "tuple", data := .seq #[es[i].key, es[i].val] } := (sb.2 _ (Nat.ne_of_gt hlt)).trans hT
    have new : ObjOk X.prog X.w (upd H s.heap.objs.size (.tup [x, y])) h'' s.heap.objs.size (.tup [x, y]) :=
      ⟨by show 2 ≤ sizeLine; decide, [es[i].key, es[i].val], .cons rx (.cons ry .nil), ⟨_, hT2, rfl, _, rfl⟩⟩
    have I1 : Inv X pins σ (upd H s.heap.objs.size (.tup [x, y])) { s with heap := h'' } :=
      I.turnedNew (t' := s.toks) (ch := [it]) (fun b ob hb e => (sb.2 b (by simpa using hb)).trans (hk b ob (by simpa using hb) e)) hf (Nat.le_refl _) new
    refine ⟨.ref s.heap.objs.size, _, I1, rfl, ⟨_, _, x, y, hen, rx, ry, rfl, I.hok.fresh (Nat.le_refl _), rfl⟩, ⟨_, _, he'⟩, fun b hb => ?_⟩
    have e : b = it := by simpa using hb
    rw [e, upd_ne (Nat.ne_of_lt hlt)]
    exact (hf it (by simp)).1
  done := by
    intro X hP hw hK hc i pins s σ H E I hf st hg
    subst hP hw hK
    obtain ⟨hd, hi⟩ := hg
    obtain ⟨f0, f1, f2, f3, f4, f5⟩ := hf it (by simp)
    have hgd : s.heap.get? d = some o := (I.hok d _ hd).1
    obtain ⟨ok, ov, he⟩ := st
    exact wpAny_pyNext_items_end_raw (I.ok.hd hc) he ⟨o, hgd, hx, hod⟩ hi fun h' eb => ⟨rfl, I.turned (t' := s.toks) (fun b ob hb e => eb b ob hb e) f0 f1 f3 f4 f5⟩
  self := fun A i s Q E st h => let ⟨_, _, e⟩ := st; PySem.W.kcp_self e h
end

section
variable {X : Cx} {pins : List (Addr × Obj)} {σ : L2.St} {sh : Shared} {ι : List Addr} {H : Hp} {s : Sto}
/-- a dict is locked (where it is not yet) -/
theorem lock_of (I : Inv X pins σ H sh) (R : Rep X.prog X.w X.K ι H s) {r : Nat} {c : C} {kvs : List (D × D)} {a : Addr} (hs : s[r]? = some c) (hk : c.kvs = some kvs) (ha : ι[r]? = some a) (items : List D) :
    ∃ H1 od u es ep, Inv X pins σ H1 sh ∧ Go ι ι H H1 ∧ Rep X.prog X.w X.K ι H1 (lockS ⟨items, [], some r⟩ s) ∧ Lk X H ι H1 ⟨items, [], some r⟩ s ∧ H1 a = some (.frz od u) ∧ od.ExactDict ∧ od.data = .dict es ep ∧ (a == sysModules) = false ∧ es.size = kvs.length ∧
      ∀ (i : Nat) (e : DictEntry), es[i]? = some e → ∃ p, kvs[i]? = some p ∧ EntOk X.K ι H1 p e := by
  have cell := R.cell r c a hs ha
  obtain ⟨u, dr, da⟩ := cell.drd hk
  obtain ⟨es, ep, ⟨o, ho, hx, hdat⟩, hsys, hkl, hsz, hent⟩ := dRaw I dr da
  obtain ⟨n1, n2, n3, mu⟩ := da.notTup
  cases c with
  | lst l => simp [C.kvs] at hk
  | dct k =>
    simp only [C.kvs, Option.some.injEq] at hk
    subst hk
    obtain ⟨u', hu, da'⟩ := cell
    have huu : u' = u := by
      rcases dr with z | ⟨o', z⟩
      · rw [hu] at z; exact Option.some.inj z
      · rw [hu] at z
        have := da'.notTup.2.1 o' u
        exact absurd (Option.some.inj z) this
    subst huu
    obtain ⟨od, I1⟩ := I.lock hu mu
    have st : Stay X.K H (upd H a (.frz od u')) := stay_set hu n1 (fun _ _ => n2 _ _) (fun _ _ => n2 _ _)
    have hod : od = o := by
      have := (I1.hok a _ upd_same).1
      rw [ho] at this
      exact (Option.some.inj this).symm
    subst hod
    have g : Go ι ι H (upd H a (.frz od u')) := Go.set (List.mem_of_getElem? ha) hu n2
    have hda : DctAt X.prog X.w X.K ι (upd H a (.frz od u')) k a u' := da.mono st fun _ _ e => e
    refine ⟨_, od, u', es, ep, I1, g, ?_, fun r' e => ?_, upd_same, hx, hdat, hsys, hsz, fun i e he => ?_⟩
    · have : lockS ⟨items, [], some r⟩ s = s.set r (.lck k) := by simp [lockS, hs]
      rw [this]
      exact R.set hs ha (fun vs z => by rw [hu] at z; exact n1 _ (Option.some.inj z)) (fun _ _ z => by rw [hu] at z; exact n2 _ _ (Option.some.inj z)) (fun _ _ z => by rw [hu] at z; exact n2 _ _ (Option.some.inj z)) ⟨od, u', upd_same, hda⟩
    · cases e
      exact ⟨_, a, hs, ha, .inr ⟨k, od, u', rfl, upd_same, hda, I.nofrz hu mu, fun o' u'' z => by rw [hu] at z; exact n2 _ _ (Option.some.inj z)⟩⟩
    · obtain ⟨p, hp, ⟨v, r1, r2⟩, v', r3, r4⟩ := hent i e he
      exact ⟨p, hp, ⟨v, r1, r2.mono st fun _ _ e => e⟩, v', r3, r4.mono st fun _ _ e => e⟩
  | lck k =>
    simp only [C.kvs, Option.some.injEq] at hk
    subst hk
    obtain ⟨od, u', hu, da'⟩ := cell
    have huu : u' = u := by
      rcases dr with z | ⟨o', z⟩
      · rw [hu] at z
        exact absurd (Option.some.inj z).symm (n2 od u')
      · rw [hu] at z
        cases z
        rfl
    subst huu
    have hod : od = o := by
      have := (I.hok a _ hu).1
      rw [ho] at this
      exact (Option.some.inj this).symm
    subst hod
    refine ⟨H, od, u', es, ep, I, Go.refl, ?_, fun r' e => ?_, hu, hx, hdat, hsys, hsz, hent⟩
    · have : lockS ⟨items, [], some r⟩ s = s := by simp [lockS, hs]
      rw [this]
      exact R
    · cases e
      exact ⟨_, a, hs, ha, .inl ⟨k, rfl⟩⟩
theorem itOk_dk {s1 : Sto} (R : Rep X.prog X.w X.K ι H s1) {r : Nat} {a : Addr} {od : Obj} {u : HO} {es : Array DictEntry} {kvs : List (D × D)} (hH : H a = some (.frz od u)) (hsz : es.size = kvs.length)
    (hent : ∀ (i : Nat) (e : DictEntry), es[i]? = some e → ∃ p, kvs[i]? = some p ∧ EntOk X.K ι H p e) : ItOk X.prog X.w X.K ι H ⟨kvs.map (·.1), [], some r⟩ (ItDk a od u es) := by
  refine ⟨fun ι2 H2 s2 g R2 ok i => ⟨fun d hd => ?_, fun hi => ⟨g.frz _ _ _ hH, by simp only [List.length_map] at hi; omega⟩⟩⟩
  rw [List.getElem?_map, Option.map_eq_some_iff] at hd
  obtain ⟨p, hp, rfl⟩ := hd
  have hlt := (List.getElem?_eq_some_iff.mp hp).1
  have he : es[i]? = some (es[i]'(by omega)) := Array.getElem?_eq_getElem _
  obtain ⟨p', hp', ⟨v, r1, r2⟩, _⟩ := hent i _ he
  rw [hp] at hp'; cases hp'
  refine ⟨⟨g.frz _ _ _ hH, _, v, he, r1⟩, fun x H' y => ?_⟩
  obtain ⟨rfl, en, hen, rx⟩ := y
  rw [he] at hen; cases hen
  have := rx.inj r1
  subst this
  exact ⟨Go.refl, R2, g.rd R r2⟩
theorem itOk_di {s1 : Sto} (R : Rep X.prog X.w X.K ι H s1) {r : Nat} {a : Addr} {od : Obj} {u : HO} {es : Array DictEntry} {kvs : List (D × D)} (hH : H a = some (.frz od u)) (hsz : es.size = kvs.length)
    (hent : ∀ (i : Nat) (e : DictEntry), es[i]? = some e → ∃ p, kvs[i]? = some p ∧ EntOk X.K ι H p e) : ItOk X.prog X.w X.K ι H ⟨kvs.map fun kv => .tup [kv.1, kv.2], [], some r⟩ (ItDi a od u es) := by
  refine ⟨fun ι2 H2 s2 g R2 ok i => ⟨fun d hd => ?_, fun hi => ⟨g.frz _ _ _ hH, by simp only [List.length_map] at hi; omega⟩⟩⟩
  rw [List.getElem?_map, Option.map_eq_some_iff] at hd
  obtain ⟨p, hp, rfl⟩ := hd
  have hlt := (List.getElem?_eq_some_iff.mp hp).1
  have he : es[i]? = some (es[i]'(by omega)) := Array.getElem?_eq_getElem _
  obtain ⟨p', hp', ⟨v, r1, r2⟩, v', r3, r4⟩ := hent i _ he
  rw [hp] at hp'; cases hp'
  refine ⟨⟨g.frz _ _ _ hH, _, v, v', he, r1, r3⟩, fun x H' y => ?_⟩
  obtain ⟨T, en, k, z, hen, rk, rz, rfl, hT, rfl⟩ := y
  rw [he] at hen; cases hen
  have e1 := rk.inj r1
  have e2 := rz.inj r3
  subst e1 e2
  refine ⟨Go.new hT, R2.new hT, ?_⟩
  rw [RD]
  refine ⟨T, [k, z], rfl, .inl (.inl upd_same), ?_⟩
  rw [RDs_cons, RDs_cons, RDs_nil]
  exact ⟨(g.rd R r2).mono (stay_upd hT) fun _ _ e => e, (g.rd R r4).mono (stay_upd hT) fun _ _ e => e, rfl⟩
end

/-! ### for .. in e -/
section
variable {X : Cx} {tg e : Expr} {re : Env → Sto → Option (D × Sto)}
/-- the value of an expression, with its store -/
def Got (X : Cx) (ι : List Addr) (H : Hp) (x : D) (s1 : Sto) (vx : V) (H1 : Hp) : Prop := ∃ ι1, Go ι ι1 H H1 ∧ Rep X.prog X.w X.K ι1 H1 s1 ∧ RD X.K ι1 H1 x vx
theorem got_of {ι : List Addr} {H : Hp} {env : Env} {σ : L2.St} {s s1 : Sto} {x : D} (hE : RepE X.K ι H env σ) (R : Rep X.prog X.w X.K ι H s) (e1 : re env s = some (x, s1)) : tD X.prog X.w X.K re σ H (Got X ι H x s1) :=
  ⟨ι, env, s, x, s1, hE, R, e1, fun v H' ι' g R' rd => ⟨ι', g, R', rd⟩⟩
theorem rep_lock_none {g : Src} (h : g.lock = none) (s : Sto) : lockS g s = s := by unfold lockS; rw [h]
theorem pi_srcD (G : Gd X) (he : PE X e (tD X.prog X.w X.K re)) : PI X tg e (iD X fun env s => bnd (re env s) fun x s => (srcOf x s).map (·, s)) := by
  refine ⟨fun pins s σ H R I h => ?_⟩
  obtain ⟨ι, env, st, g, st', hE, RR, er, q⟩ := h
  obtain ⟨x, s1, e1, e2⟩ := bnd_eq_some.mp er
  simp only [Option.map_eq_some_iff, Prod.mk.injEq] at e2
  obtain ⟨g', e2, rfl, rfl⟩ := e2
  refine thn (he.run pins s σ H _ I (got_of hE RR e1)) fun v sh1 ⟨vx, H1, I1, r1, ι1, go, R1, rd⟩ => ?_
  cases x with
  | tup ds =>
    simp only [srcOf, Option.some.injEq] at e2
    subst e2
    rw [RD] at rd
    obtain ⟨a, vs, rfl, hq, rds⟩ := rd
    cases r1
    obtain ⟨its, rv, ht, hz⟩ := I1.tuple hq
    refine wpAny_pyIter_tuple (show sh1.heap.IsTuple a its.toArray from ht) ?_
    refine ⟨sh1.heap.objs.size, [sh1.heap.objs.size], _, _, H1, rfl, I1.kept (t' := sh1.toks) fun b o e => Heap.get?_push_of_some _ e, turn_tuple a _, ⟨_, Heap.get?_push_size _ rfl, rfl, rfl⟩, fun b hb => ?_, q _ _ ι1 go R1 (fun _ z => by cases z) (itOk_tup R1 hq rds)⟩
    have e : b = sh1.heap.objs.size := by simpa using hb
    subst e
    exact I1.fpOk (Nat.le_refl _) (I1.hok.fresh (Nat.le_refl _))
  | scr is =>
    simp only [srcOf, Option.some.injEq] at e2
    subst e2
    rw [RD] at rd
    obtain ⟨a, rfl, hq⟩ := rd
    cases r1
    obtain ⟨its, rv, p, hz⟩ := I1.list hq.sq
    refine wpAny_pyIter_list p.isList ?_
    refine ⟨sh1.heap.objs.size, [sh1.heap.objs.size], _, _, H1, rfl, I1.kept (t' := sh1.toks) fun b o e => Heap.get?_push_of_some _ e, turn_list a _, ⟨_, Heap.get?_push_size _ rfl, rfl, rfl⟩, fun b hb => ?_, q _ _ ι1 go R1 (fun _ z => by cases z) (itOk_ro R1 hq)⟩
    have e : b = sh1.heap.objs.size := by simpa using hb
    subst e
    exact I1.fpOk (Nat.le_refl _) (I1.hok.fresh (Nat.le_refl _))
  | ref r =>
    simp only [srcOf] at e2
    cases hs : s1[r]? with
    | none => rw [hs] at e2; cases e2
    | some c =>
      rw [hs] at e2
      obtain ⟨a, rfl, ha, cell⟩ := R1.ofRef hs rd
      cases r1
      have hdict : ∀ kvs, c.kvs = some kvs → g' = ⟨kvs.map (·.1), [], some r⟩ → wpAny (model X.prog X.w) X.A (pyIter (.ref a)) (PIE X pins σ tg R) X.xe sh1 := fun kvs hk hg => by
        subst hg
        obtain ⟨H2, od, u, es, ep, I2, g2, R2, lk, hH, hx, hdat, hsys, hsz, hent⟩ := lock_of I1 R1 hs hk ha (kvs.map (·.1))
        have hgd : sh1.heap.get? a = some od := (I2.hok a _ hH).1
        refine iter_keys hsys hgd hx hdat (pi_one (tk := sh1.toks) I2 _ (turn_dk (u := u) _ hx hdat) ⟨_, Heap.get?_push_size _ rfl, rfl, rfl⟩ ?_)
        exact q _ _ ι1 (go.trans R1 g2) R2 (lk.go go) (itOk_dk R2 hH hsz hent)
      cases c with
      | lst ds =>
        cases e2
        obtain ⟨vs, h1, h2⟩ := cell
        obtain ⟨its, rv, p, hz⟩ := I1.list (.inl (.inl h1))
        refine wpAny_pyIter_list p.isList ?_
        refine ⟨sh1.heap.objs.size, [sh1.heap.objs.size], _, _, H1, rfl, I1.kept (t' := sh1.toks) fun b o e => Heap.get?_push_of_some _ e, turn_list a _, ⟨_, Heap.get?_push_size _ rfl, rfl, rfl⟩, fun b hb => ?_, q _ _ ι1 go R1 (fun _ z => by cases z) (itOk_list R1 hs ha)⟩
        have e : b = sh1.heap.objs.size := by simpa using hb
        subst e
        exact I1.fpOk (Nat.le_refl _) (I1.hok.fresh (Nat.le_refl _))
      | dct kvs =>
        simp only [C.kvs, Option.map_some, Option.some.injEq] at e2
        exact hdict kvs rfl e2.symm
      | lck kvs =>
        simp only [C.kvs, Option.map_some, Option.some.injEq] at e2
        exact hdict kvs rfl e2.symm
  | _ => simp [srcOf] at e2
theorem pi_itemsD (G : Gd X) {elts : List Expr} {kk : Nat} {tpos apos cpos : Pos} (he : PE X e (tD X.prog X.w X.K re)) (hbase : attributeBase e "items" X.env (eval e X.env) = eval e X.env) (hline : (apos.endLine == cpos.line) = true) :
    PI X (.Tuple elts kk tpos) (.Call (.Attribute e "items" apos) [] [] cpos) (iD X fun env s => bnd (re env s) fun x s => (srcItems x s).map (·, s)) := by
  refine ⟨fun pins s σ H R I h => ?_⟩
  obtain ⟨ι, env, st, g, st', hE, RR, er, q⟩ := h
  obtain ⟨x, s1, e1, e2⟩ := bnd_eq_some.mp er
  simp only [Option.map_eq_some_iff, Prod.mk.injEq] at e2
  obtain ⟨g', e2, rfl, rfl⟩ := e2
  refine wpAny_Call_method (T := "dict") (id := "dict.items") hbase rfl hline PySem.F.plainAttrs_dict PySem.F.slot_dict_items PySem.F.type_dict_items (thn (he.run pins s σ H _ I (got_of hE RR e1)) fun v sh1 ⟨vx, H1, I1, r1, ι1, go, R1, rd⟩ => ?_)
  cases x with
  | ref r =>
    simp only [srcItems, Option.bind_eq_some_iff, Option.map_eq_some_iff] at e2
    obtain ⟨c, hs, kvs, hk, rfl⟩ := e2
    obtain ⟨a, rfl, ha, cell⟩ := R1.ofRef hs rd
    cases r1
    obtain ⟨H2, od, u, es, ep, I2, g2, R2, lk, hH, hx, hdat, hsys, hsz, hent⟩ := lock_of I1 R1 hs hk ha (kvs.map fun kv => .tup [kv.1, kv.2])
    have hgd : sh1.heap.get? a = some od := (I2.hok a _ hH).1
    have hraw : sh1.heap.DictRaw a es ep := ⟨od, hgd, hx, hdat⟩
    refine ⟨hraw.typeIs, fun b e => by cases e; exact ⟨od, hgd, hx.2.1⟩, ?_⟩
    have I3 : Inv X pins σ H2 { sh1 with heap := sh1.heap.push { cls := .type "dict_items", data := .fields #[.ref a] } } := I2.kept (t' := sh1.toks) fun b o q => Heap.get?_push_of_some _ q
    have fin : wpAny (model X.prog X.w) X.A (pyIter (.ref sh1.heap.objs.size)) (PIE X pins σ (.Tuple elts kk tpos) R) X.xe { sh1 with heap := sh1.heap.push { cls := .type "dict_items", data := .fields #[.ref a] } } := by
      refine wpAny_pyIter_items_raw (d := a) (es := es) (ep := ep) ⟨_, Heap.get?_push_size _ rfl, rfl, rfl⟩ (hraw.at fun o e => Heap.get?_push_of_some _ e) (pi_one (tk := sh1.toks) I3 _ (turn_di (u := u) (d := a) _ hx hdat) ⟨.none, .none, ?_⟩ ?_)
      · exact Heap.get?_push_size _ rfl
      · exact q _ _ ι1 (go.trans R1 g2) R2 (lk.go go) (itOk_di R2 hH hsz hent)
    show wpAny _ _ (callWith cpos (.builtin "dict.items") [.ref a] [] []) _ X.xe sh1
    exact method_meetsIn PySem.F.slot_dict_items PySem.F.entry_dict_items rfl (PySem.evalArgs_none ⟨rfl, hraw.typeIs, PySem.F.args_dict_items_1 _, _, meets_dict_items_raw a hsys, ⟨es, ep, hraw⟩, fin⟩)
  | _ => simp [srcItems] at e2
end
end Ev
end

section
set_option autoImplicit false
set_option maxRecDepth 100000
set_option linter.unusedVariables false
/-! Ev16: expressions by their runs -/
namespace Ev
open PySem L2 PySem.SeqAt PyProof.Rows PySem.Calls

abbrev tE (X : Cx) (run : Env → Sto → Option (D × Sto)) : TE := tD X.prog X.w X.K run
abbrev tEs (X : Cx) (run : Env → Sto → Option (List D × Sto)) : TA := tDs X.prog X.w X.K run
abbrev tET (X : Cx) (run : Env → Sto → Option (D × Sto)) : TT := tDT X.prog X.w X.K run

theorem star_plain {e : Expr} (h : ∀ a p, e ≠ .Starred a p) (es : List Expr) (env : PySem.Env) : starEach (e :: es) env = (false, eval e env) :: starEach es env := by
  cases e <;> first | rfl | exact absurd rfl (h _ _)
theorem star_none (pos : Pos) : ∀ {es : List Expr} (env : PySem.Env), (∀ e ∈ es, ∀ a p, e ≠ Expr.Starred a p) → (backTo pos (starEach es env)).any (·.1) = false
  | [], _, _ => rfl
  | e :: es, env, h => by
    rw [star_plain (h e (List.mem_cons_self ..))]
    show (false || (backTo pos (starEach es env)).any (·.1)) = false
    rw [star_none pos env fun x hx => h x (List.mem_cons_of_mem _ hx)]
    rfl

section
variable {X : Cx} {a b c : Expr} {ra rb rc : Env → Sto → Option (D × Sto)} {pos : Pos}

/-! ### names, constants -/
theorem pe_varD {i : Nat} {x : Str} (hN : X.N[i]? = some x) (hv : Vis X.env.scope x) (hd : (x == ("__debug__" : Str)) = false) (hcd : (x == ("__classdict__" : Str)) = false) :
    PE X (.Name x pos) (tE X fun env s => match env[i]? with
      | some (some d) => some (d, s)
      | _ => none) := by
  refine (pe_var hN hv hd hcd).weak fun σ H Q h => ?_
  obtain ⟨ι, env, s, d, s', hE, R, e, q⟩ := h
  replace e : (match env[i]? with
      | some (some d) => some (d, s)
      | _ => none) = some (d, s') := e
  split at e
  · rename_i d' he
    cases e
    obtain ⟨v, hv, rd⟩ := hE.slot i _ he
    exact ⟨v, hv, q.here R rd⟩
  · cases e
theorem lit_weak {v : V} {d : D} (hd : ∀ ι H, RD X.K ι H d v) : ∀ (σ : L2.St) (H : Hp) (Q : VK), tE X (fun _ s => some (d, s)) σ H Q → tC v σ H Q := by
  intro σ H Q ⟨ι, env, s, d', s', hE, R, e, q⟩
  cases e
  exact q.here R (hd ι H)

/-! ### operators -/
theorem bin_weak {r : R2} {f : D → D → Sto → Option (D × Sto)} (hr : ∀ vx vy H Q, (∃ ι s x y d s', Rep X.prog X.w X.K ι H s ∧ RD X.K ι H x vx ∧ RD X.K ι H y vy ∧ f x y s = some (d, s') ∧ Ret X.prog X.w X.K ι H Q d s') → r vx vy H Q) :
    ∀ (σ : L2.St) (H : Hp) (Q : VK), tE X (fun env s => bnd (ra env s) fun x s => bnd (rb env s) fun y s => f x y s) σ H Q → tOp r (tE X ra) (tE X rb) σ H Q := by
  intro σ H Q ⟨ι, env, s, d, s', hE, R, e, q⟩
  obtain ⟨x, s1, e1, e⟩ := bnd_eq_some.mp e
  obtain ⟨y, s2, e2, e⟩ := bnd_eq_some.mp e
  refine ⟨ι, env, s, x, s1, hE, R, e1, fun vx H1 ι1 g1 R1 rx => ⟨ι1, env, s1, y, s2, g1.env R hE, R1, e2, fun vy H2 ι2 g2 R2 ry => hr _ _ _ _ ⟨ι2, s2, x, y, d, s', R2, g2.rd R1 rx, ry, e, (q.go R1 g1).go R2 g2⟩⟩⟩
theorem pe_binD {op : Operator} (ha : PE X a (tE X ra)) (hb : PE X b (tE X rb)) : PE X (.BinOp a op b pos) (tE X fun env s => bnd (ra env s) fun x s => bnd (rb env s) fun y s => binD op x y s) :=
  (pe_op (op_binD op) ha hb).weak (bin_weak fun _ _ _ _ h => h)
theorem rCmp_of {f : D → D → Sto → Option Bool} {vx vy : V} {H : Hp} {Q : VK} (h : ∃ ι s x y d s', Rep X.prog X.w X.K ι H s ∧ RD X.K ι H x vx ∧ RD X.K ι H y vy ∧ ((f x y s).map fun b => (D.bl b, s)) = some (d, s') ∧ Ret X.prog X.w X.K ι H Q d s') : rCmp X.prog X.w X.K f vx vy H Q := by
  obtain ⟨ι, s, x, y, d, s', R, hx, hy, e, q⟩ := h
  simp only [Option.map_eq_some_iff, Prod.mk.injEq] at e
  obtain ⟨k, e, rfl, rfl⟩ := e
  exact ⟨ι, s, x, y, k, R, hx, hy, e, q.bl R⟩
theorem pe_cmpD (G : Gd X) {op : CmpOp} (ha : PE X a (tE X ra)) (hb : PE X b (tE X rb)) (hm : behindInMarks op b = false) : PE X (.Compare a [op] [b] pos) (tE X fun env s => bnd (ra env s) fun x s => bnd (rb env s) fun y s => (cmpD op x y s).map fun k => (.bl k, s)) :=
  (pe_cmpR (op_cmpD G op) ha hb hm).weak (bin_weak (f := fun x y s => (cmpD op x y s).map fun k => (D.bl k, s)) fun _ _ _ _ h => rCmp_of h)
/-- a test's reading out of a value's -/
theorem test_weak {t : TE} {run : Env → Sto → Option (D × Sto)} (h : ∀ (σ : L2.St) (H : Hp) (Q : VK), tE X run σ H Q → t σ H Q) : ∀ (σ : L2.St) (H : Hp) (Q : Bool → Hp → Prop), tET X run σ H Q → tTest t σ H Q := by
  intro σ H Q ⟨ι, env, s, k, s', hE, R, e, q⟩
  refine h σ H _ ⟨ι, env, s, .bl k, s', hE, R, e, fun v H' ι' g R' rd => ?_⟩
  rw [RD] at rd
  exact ⟨k, rd, q H' ι' g R'⟩
theorem pt_cmpD (G : Gd X) {op : CmpOp} (ha : PE X a (tE X ra)) (hb : PE X b (tE X rb)) (hm : behindInMarks op b = false) : PT X (.Compare a [op] [b] pos) (tET X fun env s => bnd (ra env s) fun x s => bnd (rb env s) fun y s => (cmpD op x y s).map fun k => (.bl k, s)) :=
  (pt_cmpR (op_cmpD G op) ha hb hm).weak (test_weak (bin_weak (f := fun x y s => (cmpD op x y s).map fun k => (D.bl k, s)) fun _ _ _ _ h => rCmp_of h))
theorem chain_weak {op op' : CmpOp} : ∀ (σ : L2.St) (H : Hp) (Q : VK), tE X (fun env s => bnd (ra env s) fun x s => bnd (rb env s) fun y s => (cmpD op x y s).bind fun k => if k then bnd (rc env s) fun z s => (cmpD op' y z s).map fun k => (.bl k, s) else some (.bl false, s)) σ H Q →
    tChain (rCmp X.prog X.w X.K fun x y s => cmpD op x y s) (rCmp X.prog X.w X.K fun x y s => cmpD op' x y s) (tE X ra) (tE X rb) (tE X rc) σ H Q := by
  intro σ H Q ⟨ι, env, s, d, s', hE, R, e, q⟩
  obtain ⟨x, s1, e1, e⟩ := bnd_eq_some.mp e
  obtain ⟨y, s2, e2, e⟩ := bnd_eq_some.mp e
  simp only [Option.bind_eq_some_iff] at e
  obtain ⟨k, e3, e⟩ := e
  refine ⟨ι, env, s, x, s1, hE, R, e1, fun vx H1 ι1 g1 R1 rx => ⟨ι1, env, s1, y, s2, g1.env R hE, R1, e2, fun vy H2 ι2 g2 R2 ry => ?_⟩⟩
  refine ⟨ι2, s2, x, y, k, R2, g2.rd R1 rx, ry, e3, k, rfl, ?_⟩
  cases k with
  | false =>
    rw [if_neg Bool.false_ne_true] at e ⊢
    cases e
    exact ((q.go R1 g1).go R2 g2).bl R2
  | true =>
    rw [if_pos rfl] at e ⊢
    obtain ⟨z, s3, e4, e⟩ := bnd_eq_some.mp e
    simp only [Option.map_eq_some_iff, Prod.mk.injEq] at e
    obtain ⟨k', e5, rfl, rfl⟩ := e
    refine ⟨ι2, env, s2, z, s3, g2.env R1 (g1.env R hE), R2, e4, fun vz H3 ι3 g3 R3 rz => ?_⟩
    exact ⟨ι3, s3, y, z, k', R3, g3.rd R2 ry, rz, e5, (((q.go R1 g1).go R2 g2).go R3 g3).bl R3⟩
theorem pe_chainD (G : Gd X) {op op' : CmpOp} (ha : PE X a (tE X ra)) (hb : PE X b (tE X rb)) (hc : PE X c (tE X rc)) (hm : lastMarks [op, op'] [b, c] = false) :
    PE X (.Compare a [op, op'] [b, c] pos) (tE X fun env s => bnd (ra env s) fun x s => bnd (rb env s) fun y s => (cmpD op x y s).bind fun k => if k then bnd (rc env s) fun z s => (cmpD op' y z s).map fun k => (.bl k, s) else some (.bl false, s)) :=
  (pe_chain (op_cmpD G op) (op_cmpD G op') ha hb hc hm).weak chain_weak
theorem pt_chainD (G : Gd X) {op op' : CmpOp} (ha : PE X a (tE X ra)) (hb : PE X b (tE X rb)) (hc : PE X c (tE X rc)) (hm : lastMarks [op, op'] [b, c] = false) :
    PT X (.Compare a [op, op'] [b, c] pos) (tET X fun env s => bnd (ra env s) fun x s => bnd (rb env s) fun y s => (cmpD op x y s).bind fun k => if k then bnd (rc env s) fun z s => (cmpD op' y z s).map fun k => (.bl k, s) else some (.bl false, s)) :=
  (pt_chain (op_cmpD G op) (op_cmpD G op') ha hb hc hm).weak (test_weak chain_weak)
theorem pe_negD (ha : PE X a (tE X ra)) : PE X (.UnaryOp .USub a pos) (tE X fun env s => bnd (ra env s) fun x s => match x with
    | .int i => some (.int (-i), s)
    | _ => none) := by
  refine (pe_un un_neg ha).weak fun σ H Q h => ?_
  obtain ⟨ι, env, s, d, s', hE, R, e, q⟩ := h
  obtain ⟨x, s1, e1, e⟩ := bnd_eq_some.mp e
  refine ⟨ι, env, s, x, s1, hE, R, e1, fun vx H1 ι1 g1 R1 rx => ?_⟩
  split at e
  · cases e
    rw [RD] at rx
    exact ⟨_, rx, (q.go R1 g1).int R1⟩
  · cases e
theorem pe_notD (ha : PE X a (tE X ra)) : PE X (.UnaryOp .Not a pos) (tE X fun env s => bnd (ra env s) fun x s => match x with
    | .bl b => some (.bl (!b), s)
    | _ => none) := by
  refine (pe_not ha).weak fun σ H Q h => ?_
  obtain ⟨ι, env, s, d, s', hE, R, e, q⟩ := h
  obtain ⟨x, s1, e1, e⟩ := bnd_eq_some.mp e
  refine ⟨ι, env, s, x, s1, hE, R, e1, fun vx H1 ι1 g1 R1 rx => ?_⟩
  split at e
  · cases e
    rw [RD] at rx
    exact ⟨_, rx, (q.go R1 g1).bl R1⟩
  · cases e
theorem pt_notD (ha : PT X a (tET X ra)) : PT X (.UnaryOp .Not a pos) (tET X fun env s => bnd (ra env s) fun x s => match x with
    | .bl b => some (.bl (!b), s)
    | _ => none) := by
  refine (pt_not ha).weak fun σ H Q h => ?_
  obtain ⟨ι, env, s, k, s', hE, R, e, q⟩ := h
  obtain ⟨x, s1, e1, e⟩ := bnd_eq_some.mp e
  split at e
  · rename_i b
    cases e
    exact ⟨ι, env, s, b, _, hE, R, e1, fun H1 ι1 g1 R1 => q H1 ι1 g1 R1⟩
  · cases e
/-! ### and, or, if else -/
abbrev andR (ra rb : Env → Sto → Option (D × Sto)) : Env → Sto → Option (D × Sto) := fun env s => bnd (ra env s) fun x s => match x with
    | .bl true => rb env s
    | .bl false => some (.bl false, s)
    | _ => none
abbrev orR (ra rb : Env → Sto → Option (D × Sto)) : Env → Sto → Option (D × Sto) := fun env s => bnd (ra env s) fun x s => match x with
    | .bl true => some (.bl true, s)
    | .bl false => rb env s
    | _ => none
abbrev iteR (rc ra rb : Env → Sto → Option (D × Sto)) : Env → Sto → Option (D × Sto) := fun env s => bnd (rc env s) fun x s => match x with
    | .bl true => ra env s
    | .bl false => rb env s
    | _ => none
theorem bl_cases {x : D} {s s' : Sto} {d : D} {f g : Option (D × Sto)} (e : (match x with
    | .bl true => f
    | .bl false => g
    | _ => none) = some (d, s')) : (x = .bl true ∧ f = some (d, s')) ∨ (x = .bl false ∧ g = some (d, s')) := by
  split at e
  · exact .inl ⟨rfl, e⟩
  · exact .inr ⟨rfl, e⟩
  · cases e
theorem and_weak : ∀ (σ : L2.St) (H : Hp) (Q : VK), tE X (andR ra rb) σ H Q → tAndV (tE X ra) (tE X rb) σ H Q := by
  intro σ H Q ⟨ι, env, s, d, s', hE, R, e, q⟩
  obtain ⟨x, s1, e1, e⟩ := bnd_eq_some.mp e
  refine ⟨ι, env, s, x, s1, hE, R, e1, fun vx H1 ι1 g1 R1 rx => ?_⟩
  rcases bl_cases (s := s) e with ⟨rfl, e⟩ | ⟨rfl, e⟩
  · rw [RD] at rx
    exact ⟨true, rx, by show (if true = true then _ else _); rw [if_pos rfl]; exact ⟨ι1, env, s1, d, s', g1.env R hE, R1, e, q.go R1 g1⟩⟩
  · rw [RD] at rx
    cases e
    exact ⟨false, rx, by show (if false = true then _ else _); rw [if_neg Bool.false_ne_true]; exact (q.go R1 g1).bl R1⟩
theorem or_weak : ∀ (σ : L2.St) (H : Hp) (Q : VK), tE X (orR ra rb) σ H Q → tOrV (tE X ra) (tE X rb) σ H Q := by
  intro σ H Q ⟨ι, env, s, d, s', hE, R, e, q⟩
  obtain ⟨x, s1, e1, e⟩ := bnd_eq_some.mp e
  refine ⟨ι, env, s, x, s1, hE, R, e1, fun vx H1 ι1 g1 R1 rx => ?_⟩
  rcases bl_cases (s := s) e with ⟨rfl, e⟩ | ⟨rfl, e⟩
  · rw [RD] at rx
    cases e
    exact ⟨true, rx, by show (if true = true then _ else _); rw [if_pos rfl]; exact (q.go R1 g1).bl R1⟩
  · rw [RD] at rx
    exact ⟨false, rx, by show (if false = true then _ else _); rw [if_neg Bool.false_ne_true]; exact ⟨ι1, env, s1, d, s', g1.env R hE, R1, e, q.go R1 g1⟩⟩
theorem and_weakT : ∀ (σ : L2.St) (H : Hp) (Q : Bool → Hp → Prop), tET X (andR ra rb) σ H Q → tAnd (tET X ra) (tET X rb) σ H Q := by
  intro σ H Q ⟨ι, env, s, k, s', hE, R, e, q⟩
  obtain ⟨x, s1, e1, e⟩ := bnd_eq_some.mp e
  rcases bl_cases (s := s) e with ⟨rfl, e⟩ | ⟨rfl, e⟩
  · exact ⟨ι, env, s, true, s1, hE, R, e1, fun H1 ι1 g1 R1 => by show (if true = true then _ else _); rw [if_pos rfl]; exact ⟨ι1, env, s1, k, s', g1.env R hE, R1, e, q.go R1 g1⟩⟩
  · cases e
    exact ⟨ι, env, s, false, _, hE, R, e1, fun H1 ι1 g1 R1 => by show (if false = true then _ else _); rw [if_neg Bool.false_ne_true]; exact q H1 ι1 g1 R1⟩
theorem or_weakT : ∀ (σ : L2.St) (H : Hp) (Q : Bool → Hp → Prop), tET X (orR ra rb) σ H Q → tOr (tET X ra) (tET X rb) σ H Q := by
  intro σ H Q ⟨ι, env, s, k, s', hE, R, e, q⟩
  obtain ⟨x, s1, e1, e⟩ := bnd_eq_some.mp e
  rcases bl_cases (s := s) e with ⟨rfl, e⟩ | ⟨rfl, e⟩
  · cases e
    exact ⟨ι, env, s, true, _, hE, R, e1, fun H1 ι1 g1 R1 => by show (if true = true then _ else _); rw [if_pos rfl]; exact q H1 ι1 g1 R1⟩
  · exact ⟨ι, env, s, false, s1, hE, R, e1, fun H1 ι1 g1 R1 => by show (if false = true then _ else _); rw [if_neg Bool.false_ne_true]; exact ⟨ι1, env, s1, k, s', g1.env R hE, R1, e, q.go R1 g1⟩⟩
theorem pe_iteD (hc : PT X c (tET X rc)) (ha : PE X a (tE X ra)) (hb : PE X b (tE X rb)) : PE X (.IfExp c a b pos) (tE X (iteR rc ra rb)) := by
  refine (pe_ifExp hc ha hb).weak fun σ H Q h => ?_
  obtain ⟨ι, env, s, d, s', hE, R, e, q⟩ := h
  obtain ⟨x, s1, e1, e⟩ := bnd_eq_some.mp e
  rcases bl_cases (s := s) e with ⟨rfl, e⟩ | ⟨rfl, e⟩
  · exact ⟨ι, env, s, true, s1, hE, R, e1, fun H1 ι1 g1 R1 => by show (if true = true then _ else _); rw [if_pos rfl]; exact ⟨ι1, env, s1, d, s', g1.env R hE, R1, e, q.go R1 g1⟩⟩
  · exact ⟨ι, env, s, false, s1, hE, R, e1, fun H1 ι1 g1 R1 => by show (if false = true then _ else _); rw [if_neg Bool.false_ne_true]; exact ⟨ι1, env, s1, d, s', g1.env R hE, R1, e, q.go R1 g1⟩⟩
theorem pt_iteD (hc : PT X c (tET X rc)) (ha : PT X a (tET X ra)) (hb : PT X b (tET X rb)) : PT X (.IfExp c a b pos) (tET X (iteR rc ra rb)) := by
  refine ⟨fun pins sh σ H Q I h => ?_⟩
  obtain ⟨ι, env, s, k, s', hE, R, e, q⟩ := h
  obtain ⟨x, s1, e1, e⟩ := bnd_eq_some.mp e
  rcases bl_cases (s := s) e with ⟨rfl, e⟩ | ⟨rfl, e⟩
  · refine PyProof.Rows.isTrue_IfExp (thn (hc.run pins sh σ H (fun b H1 => b = true ∧ tET X ra σ H1 Q) I ⟨ι, env, s, true, s1, hE, R, e1, fun H1 ι1 g1 R1 => ⟨rfl, ι1, env, s1, k, s', g1.env R hE, R1, e, q.go R1 g1⟩⟩) fun d s2 ⟨H1, I1, h1, h2⟩ => ?_)
    subst h1
    exact ha.run pins s2 σ H1 Q I1 h2
  · refine PyProof.Rows.isTrue_IfExp (thn (hc.run pins sh σ H (fun b H1 => b = false ∧ tET X rb σ H1 Q) I ⟨ι, env, s, false, s1, hE, R, e1, fun H1 ι1 g1 R1 => ⟨rfl, ι1, env, s1, k, s', g1.env R hE, R1, e, q.go R1 g1⟩⟩) fun d s2 ⟨H1, I1, h1, h2⟩ => ?_)
    subst h1
    exact hb.run pins s2 σ H1 Q I1 h2
/-- an expression whose test is its value's truth -/
theorem pt_valD (h : PE X a (tE X ra)) (he : ∀ whole, isTrue a X.env whole = (do let v ← whole; standAt a.pos; holding [v] (truthy v))) : PT X a (tET X ra) := by
  refine (pt_val h he).weak fun σ H Q h => ?_
  obtain ⟨ι, env, s, k, s', hE, R, e, q⟩ := h
  refine ⟨ι, env, s, .bl k, s', hE, R, e, fun v H' ι' g R' rd => ?_⟩
  rw [RD] at rd
  exact ⟨k, rd, q H' ι' g R'⟩

/-! ### subscripts -/
theorem plainIx {b : Expr} (h : ∀ lo hi st p, b ≠ .Slice lo hi st p) : PlainIx b := by
  intro o i
  cases b <;> first | rfl | exact absurd rfl (h _ _ _ _)
theorem pe_idxD (G : Gd X) (ha : PE X a (tE X ra)) (hb : PE X b (tE X rb)) (hs : ∀ lo hi st p, b ≠ .Slice lo hi st p) : PE X (.Subscript a b pos) (tE X fun env s => bnd (ra env s) fun x s => bnd (rb env s) fun y s => idxD x y s) :=
  (pe_ix (ix_D G.units) ha hb (plainIx hs)).weak (bin_weak fun _ _ _ _ h => h)
/-- a slice's part -/
def tPO (X : Cx) (run : Env → Sto → Option (Option Int × Sto)) : TO := fun σ H Q => ∃ ι env s o s', RepE X.K ι H env σ ∧ Rep X.prog X.w X.K ι H s ∧ run env s = some (o, s') ∧ ∀ H' ι', Go ι ι' H H' → Rep X.prog X.w X.K ι' H' s' → Q o H'
theorem PO.weak {e : Option Expr} {t t' : TO} (h : PO X e t) (q : ∀ σ H Q, t' σ H Q → t σ H Q) : PO X e t' := ⟨fun pins s σ H Q I hw => h.run pins s σ H Q I (q σ H Q hw)⟩
theorem po_noneD : PO X none (tPO X fun _ s => some (none, s)) := by
  refine PO.weak po_none fun σ H Q h => ?_
  obtain ⟨ι, env, s, o, s', hE, R, e, q⟩ := h
  cases e
  exact q H ι Go.refl R
theorem po_someD (ha : PE X a (tE X ra)) : PO X (some a) (tPO X fun env s => bnd (ra env s) fun x s => match x with
    | .int i => some (some i, s)
    | _ => none) := by
  refine PO.weak (po_some ha) fun σ H Q h => ?_
  obtain ⟨ι, env, s, o, s', hE, R, e, q⟩ := h
  obtain ⟨x, s1, e1, e⟩ := bnd_eq_some.mp e
  refine ⟨ι, env, s, x, s1, hE, R, e1, fun vx H1 ι1 g1 R1 rx => ?_⟩
  split at e
  · cases e
    rw [RD] at rx
    exact ⟨_, rx, q H1 ι1 g1 R1⟩
  · cases e
theorem pe_slcD {lo hi : Option Expr} {rl rh : Env → Sto → Option (Option Int × Sto)} {p2 : Pos} (ha : PE X a (tE X ra)) (hl : PO X lo (tPO X rl)) (hh : PO X hi (tPO X rh)) :
    PE X (.Subscript a (.Slice lo hi none p2) pos) (tE X fun env s => bnd (ra env s) fun x s => bnd (rl env s) fun l s => bnd (rh env s) fun h s => slcD x l h s) := by
  refine (pe_slice sl_D ha hl hh).weak fun σ H Q h => ?_
  obtain ⟨ι, env, s, d, s', hE, R, e, q⟩ := h
  obtain ⟨x, s1, e1, e⟩ := bnd_eq_some.mp e
  obtain ⟨l, s2, e2, e⟩ := bnd_eq_some.mp e
  obtain ⟨h, s3, e3, e⟩ := bnd_eq_some.mp e
  refine ⟨ι, env, s, x, s1, hE, R, e1, fun vx H1 ι1 g1 R1 rx => ?_⟩
  refine ⟨ι1, env, s1, l, s2, g1.env R hE, R1, e2, fun H2 ι2 g2 R2 => ?_⟩
  refine ⟨ι2, env, s2, h, s3, g2.env R1 (g1.env R hE), R2, e3, fun H3 ι3 g3 R3 => ?_⟩
  exact ⟨ι3, s3, x, d, s', R3, g3.rd R2 (g2.rd R1 rx), e, ((q.go R1 g1).go R2 g2).go R3 g3⟩
theorem pe_revE {k : Nat} {p1 p2 p3 : Pos} (ha : PE X a (tE X ra)) : PE X (.Subscript a (.Slice none none (some (.UnaryOp .USub (.Constant (.int 1) k p1) p2)) p3) pos) (tE X fun env s => bnd (ra env s) fun x s => revD x s) := by
  refine (pe_revD ha).weak fun σ H Q h => ?_
  obtain ⟨ι, env, s, d, s', hE, R, e, q⟩ := h
  obtain ⟨x, s1, e1, e⟩ := bnd_eq_some.mp e
  exact ⟨ι, env, s, x, s1, hE, R, e1, fun vx H1 ι1 g1 R1 rx => ⟨ι1, s1, x, d, s', R1, rx, e, q.go R1 g1⟩⟩

/-! ### lists of arguments -/
variable {es : List Expr} {rs : Env → Sto → Option (List D × Sto)}
theorem pa_nilD : PA X [] (tEs X fun _ s => some ([], s)) := by
  refine pa_nil.weak fun σ H Q h => ?_
  obtain ⟨ι, env, s, d, s', hE, R, e, q⟩ := h
  cases e
  exact q [] H ι Go.refl R (by rw [RDs])
theorem pa_consD (ha : PE X a (tE X ra)) (hr : PA X es (tEs X rs)) (hp : ∀ z p, a ≠ .Starred z p) : PA X (a :: es) (tEs X fun env s => bnd (ra env s) fun d s => bnd (rs env s) fun ds s => some (d :: ds, s)) := by
  refine (pa_cons ha hr (star_plain hp es X.env)).weak fun σ H Q h => ?_
  obtain ⟨ι, env, s, ds, s', hE, R, e, q⟩ := h
  obtain ⟨x, s1, e1, e⟩ := bnd_eq_some.mp e
  obtain ⟨xs, s2, e2, e⟩ := bnd_eq_some.mp e
  cases e
  refine ⟨ι, env, s, x, s1, hE, R, e1, fun vx H1 ι1 g1 R1 rx => ⟨ι1, env, s1, xs, _, g1.env R hE, R1, e2, fun vs H2 ι2 g2 R2 rs => ?_⟩⟩
  exact q _ H2 ι2 (g1.trans R1 g2) R2 (by rw [RDs_cons]; exact ⟨g2.rd R1 rx, rs⟩)
theorem pa_starD {p : Pos} (ha : PE X a (tE X ra)) (hr : PA X es (tEs X rs)) : PA X (.Starred a p :: es) (tEs X fun env s => bnd (bnd (ra env s) fun x s => (itemsD x s).map fun ds => (D.tup ds, s)) fun d s => bnd (rs env s) fun ds s => some (d.spl ++ ds, s)) := by
  refine (StX.pa_star (p := p) ha hr).weak fun σ H Q h => ?_
  obtain ⟨ι, env, s, ds, s', hE, R, e, q⟩ := h
  obtain ⟨y, s1, e1, e⟩ := bnd_eq_some.mp e
  obtain ⟨x, s0, e0, k1⟩ := bnd_eq_some.mp e1
  simp only [Option.map_eq_some_iff, Prod.mk.injEq] at k1
  obtain ⟨l, k1, rfl, rfl⟩ := k1
  obtain ⟨xs, s2, e2, e⟩ := bnd_eq_some.mp e
  simp only [Option.some.injEq, Prod.mk.injEq] at e
  obtain ⟨rfl, rfl⟩ := e
  refine ⟨ι, env, s, x, s0, hE, R, e0, fun vx H1 ι1 g1 R1 rx => ?_⟩
  obtain ⟨a', ws, rfl, hq, rd⟩ := seq_of R1 k1 rx
  refine ⟨a', ws, rfl, hq.symm, ι1, env, s0, xs, _, g1.env R hE, R1, e2, fun vs H2 ι2 g2 R2 rs => ?_⟩
  exact q _ H2 ι2 (g1.trans R1 g2) R2 ((g2.rds R1 rd).append rs)
theorem pe_tupD {x1 : Nat} (h : PA X es (tEs X rs)) : PE X (.Tuple es x1 pos) (tE X fun env s => bnd (rs env s) fun ds s => newT s ds) := by
  refine (pe_tup h).weak fun σ H Q h => ?_
  obtain ⟨ι, env, s, d, s', hE, R, e, q⟩ := h
  obtain ⟨ds, s1, e1, e⟩ := bnd_eq_some.mp e
  obtain ⟨hz, rfl, rfl⟩ := newT_some e
  refine ⟨ι, env, s, ds, _, hE, R, e1, fun vs H1 ι1 g1 R1 rd => ⟨by rw [rd.length]; exact hz, fun p hp => (q.go R1 g1).newT R1 rd hp⟩⟩
theorem pe_lstD (h : PA X es (tEs X rs)) : PE X (.List es pos) (tE X fun env s => bnd (rs env s) fun ds s => newL s ds) := by
  refine (pe_lst h).weak fun σ H Q h => ?_
  obtain ⟨ι, env, s, d, s', hE, R, e, q⟩ := h
  obtain ⟨ds, s1, e1, e⟩ := bnd_eq_some.mp e
  obtain ⟨hz, rfl, rfl⟩ := newL_some e
  refine ⟨ι, env, s, ds, _, hE, R, e1, fun vs H1 ι1 g1 R1 rd => ⟨by rw [rd.length]; exact hz, fun p hp => (q.go R1 g1).newL R1 rd hp⟩⟩
/-! ### calls of built-ins, methods -/
theorem cb_weak {f : List D → Sto → Option (D × Sto)} : ∀ (σ : L2.St) (H : Hp) (Q : VK), tE X (fun env s => bnd (rs env s) fun ds s => f ds s) σ H Q → tCB (rCal X.prog X.w X.K f) (tEs X rs) σ H Q := by
  intro σ H Q ⟨ι, env, s, d, s', hE, R, e, q⟩
  obtain ⟨ds, s1, e1, e⟩ := bnd_eq_some.mp e
  exact ⟨ι, env, s, ds, s1, hE, R, e1, fun vs H1 ι1 g1 R1 rd => ⟨ι1, s1, ds, d, s', R1, rd, e, q.go R1 g1⟩⟩
theorem pe_mth0D (G : Gd X) {m : Mt} {name : Str} {o : Expr} {apos cpos : Pos} {ro : Env → Sto → Option (D × Sto)} (slot : Slot (mTy m) name (mId m)) (hty : typeOf (.builtin (mId m)) = pure (.type "method_descriptor")) (ho : PE X o (tE X ro))
    (hbase : attributeBase o name X.env (eval o X.env) = eval o X.env) (hline : (apos.endLine == cpos.line) = true) :
    PE X (.Call (.Attribute o name apos) [] [] cpos) (tE X fun env s => bnd (ro env s) fun x s => if mthOk m x s then mthD m x [] s else none) := by
  have pa : PlainAttrs (mTy m) := by cases m <;> first | exact PySem.F.plainAttrs_list | exact PySem.F.plainAttrs_dict
  refine ⟨fun pins sh σ H Q I h => ?_⟩
  obtain ⟨ι, env, s, d, s', hE, R, e, q⟩ := h
  obtain ⟨x, s1, e1, e⟩ := bnd_eq_some.mp e
  split at e
  rotate_left
  · cases e
  rename_i hok
  refine wpAny_Call_method0_late hbase hline (thn (ho.run pins sh σ H _ I (got_of hE R e1)) fun v sh1 ⟨vx, H1, I1, r1, ι1, g1, R1, rx⟩ => ?_)
  obtain ⟨h1, h2⟩ := mthOk_ty I1 R1 hok rx r1
  exact ⟨mTy m, mId m, pa, slot, hty, h1, h2, Calls.callWith_builtin rfl (PySem.evalArgs_none (mt_D G m pins sh1 σ H1 vx [] v [] Q I1 r1 .nil ⟨ι1, s1, x, [], d, s', R1, rx, by rw [RDs], e, q.go R1 g1⟩))⟩
theorem pe_mthD (G : Gd X) {m : Mt} {name : Str} {o a0 : Expr} {es0 : List Expr} {apos cpos : Pos} {ro : Env → Sto → Option (D × Sto)} (slot : Slot (mTy m) name (mId m)) (hty : typeOf (.builtin (mId m)) = pure (.type "method_descriptor")) (ho : PE X o (tE X ro)) (ha : PA X (a0 :: es0) (tEs X rs))
    (hbase : attributeBase o name X.env (eval o X.env) = eval o X.env) (hline : (apos.endLine == cpos.line) = true) (hst : ∀ e ∈ a0 :: es0, ∀ z p, e ≠ Expr.Starred z p) (hlen : (a0 :: es0).length < 28) :
    PE X (.Call (.Attribute o name apos) (a0 :: es0) [] cpos) (tE X fun env s => bnd (ro env s) fun x s => if mthOk m x s then bnd (rs env s) fun ds s => mthD m x ds s else none) := by
  have pa : PlainAttrs (mTy m) := by cases m <;> first | exact PySem.F.plainAttrs_list | exact PySem.F.plainAttrs_dict
  refine ⟨fun pins sh σ H Q I h => ?_⟩
  obtain ⟨ι, env, s, d, s', hE, R, e, q⟩ := h
  obtain ⟨x, s1, e1, e⟩ := bnd_eq_some.mp e
  split at e
  rotate_left
  · cases e
  rename_i hok
  obtain ⟨ds, s2, e2, e⟩ := bnd_eq_some.mp e
  have hall : ∀ {l : List Expr}, (∀ e ∈ l, ∀ z p, e ≠ Expr.Starred z p) → (backTo cpos (starEach l X.env)).all (fun x => !x.1) = true := fun {l} hl => by
    have := star_none cpos (es := l) X.env hl
    rw [List.all_eq_true]
    intro y hy
    rw [List.any_eq_false] at this
    simpa using this y hy
  refine wpAny_Call_method_late hbase (by rw [hall hst]; simp [keywordEach, backToKw]; simp at hlen; omega) hline rfl (thn (ho.run pins sh σ H _ I (got_of hE R e1)) fun v sh1 ⟨vx, H1, I1, r1, ι1, g1, R1, rx⟩ => ?_)
  obtain ⟨h1, h2⟩ := mthOk_ty I1 R1 hok rx r1
  refine ⟨mTy m, mId m, pa, slot, hty, h1, h2, ?_⟩
  have hA := ha.run cpos pins sh1 σ H1 (fun vs H2 => ∃ ι2, Go ι1 ι2 H1 H2 ∧ Rep X.prog X.w X.K ι2 H2 s2 ∧ RDs X.K ι2 H2 ds vs) I1 ⟨ι1, env, s1, ds, s2, g1.env R hE, R1, e2, fun vs H' ι' g' R' rd' => ⟨ι', g', R', rd'⟩⟩
  have fin : ∀ us sh2, AP X pins σ (fun vs H2 => ∃ ι2, Go ι1 ι2 H1 H2 ∧ Rep X.prog X.w X.K ι2 H2 s2 ∧ RDs X.K ι2 H2 ds vs) us sh2 → wpAny (model X.prog X.w) X.A (call (.builtin (mId m)) (v :: us)) (EP X pins σ Q) X.xe sh2 := fun us sh2 ⟨vs, H2, I2, r2, ι2, g2, R2, rd⟩ =>
    mt_D G m pins sh2 σ H2 vx vs v us Q I2 r1 r2 ⟨ι2, s2, x, ds, d, s', R2, g2.rd R1 rx, rd, e, (q.go R1 g1).go R2 g2⟩
  have hs := star_plain (hst a0 (List.mem_cons_self ..)) es0 X.env
  rw [hs] at hA ⊢
  refine Calls.callWith_builtin (by show (false || (backTo cpos (starEach es0 X.env)).any (·.1)) = false; rw [star_none cpos X.env fun y hy => hst y (List.mem_cons_of_mem _ hy)]; rfl) (Calls.evalArgs_plain ?_)
  exact thn hA fin
end
end Ev
end

section
set_option autoImplicit false
set_option maxRecDepth 100000
set_option linter.unusedVariables false
/-! Ev17: targets, comprehensions, statements by their runs -/
namespace Ev
open PySem L2 PySem.SeqAt PyProof.Rows PySem.Calls

/-! ### targets -/
def gD (X : Cx) (t : T) : TG := fun vx σ H Q => ∃ ι env s d env', RepE X.K ι H env σ ∧ Rep X.prog X.w X.K ι H s ∧ RD X.K ι H d vx ∧ setT t d env = some env' ∧
  ∀ σ', RepE X.K ι H env' σ' → (∀ i, i ∉ t.slots → σ'[i]? = σ[i]?) → σ'.length = σ.length → Q σ' H
def gDs (X : Cx) (ts : List T) : TGs := fun vs σ H Q => ∃ ι env s ds env', RepE X.K ι H env σ ∧ Rep X.prog X.w X.K ι H s ∧ RDs X.K ι H ds vs ∧ setTs ts ds env = some env' ∧
  ∀ σ', RepE X.K ι H env' σ' → (∀ i, i ∉ T.slotss ts → σ'[i]? = σ[i]?) → σ'.length = σ.length → Q σ' H
theorem _root_.L2.PG.weak {X : Cx} {e : Expr} {t t' : TG} (h : PG X e t) (q : ∀ v σ H Q, t' v σ H Q → t v σ H Q) : PG X e t' := ⟨fun pins s σ H v u Q I r hw => h.run pins s σ H v u Q I r (q v σ H Q hw)⟩
theorem _root_.L2.PGs.weak {X : Cx} {e : List Expr} {t t' : TGs} (h : PGs X e t) (q : ∀ v σ H Q, t' v σ H Q → t v σ H Q) : PGs X e t' := ⟨fun pins s σ H v u Q I r hw => h.run pins s σ H v u Q I r (q v σ H Q hw)⟩
theorem RepE.set {K : PySem.W.Frag} {ι : List Addr} {H : Hp} {env : Env} {σ : L2.St} (h : RepE K ι H env σ) (i : Nat) {d : D} {v : V} (r : RD K ι H d v) : RepE K ι H (env.set i (some d)) (σ.set i (some v)) := by
  refine ⟨by simp [h.len], fun j d' e => ?_⟩
  by_cases hj : i = j
  · subst hj
    by_cases hl : i < env.length
    · rw [List.getElem?_set_self hl] at e
      cases e
      exact ⟨v, by rw [List.getElem?_set_self (by rw [h.len]; exact hl)], r⟩
    · rw [List.getElem?_eq_none (by simpa using hl)] at e
      cases e
  · rw [List.getElem?_set_ne hj] at e ⊢
    exact h.slot j d' e
theorem RepE.unset {K : PySem.W.Frag} {ι : List Addr} {H : Hp} {env : Env} {σ : L2.St} (h : RepE K ι H env σ) (i : Nat) : RepE K ι H (env.set i none) (σ.set i none) := by
  refine ⟨by simp [h.len], fun j d' e => ?_⟩
  by_cases hj : i = j
  · subst hj
    by_cases hl : i < env.length
    · rw [List.getElem?_set_self hl] at e
      cases e
    · rw [List.getElem?_eq_none (by simpa using hl)] at e
      cases e
  · rw [List.getElem?_set_ne hj] at e ⊢
    exact h.slot j d' e
theorem RepE.wipe {K : PySem.W.Frag} {ι : List Addr} {H : Hp} {env : Env} {σ : L2.St} (h : RepE K ι H env σ) : ∀ vs : List Nat, RepE K ι H (wipeD env vs) (L2.wipe σ vs)
  | [] => h
  | v :: vs => (RepE.wipe h vs).unset v

section
variable {X : Cx}
theorem pg_nameD (G : Gd X) {i : Nat} {x : Str} {pos : Pos} (hi : X.N[i]? = some x) (hx : Loc X.env.scope x) (hf : X.fn x = true ∨ X.env.scope.names.lookup x = some .local) : PG X (.Name x pos) (gD X (.nm i)) := by
  refine (pg_name G.nd hi hx hf).weak fun v σ H Q h => ?_
  obtain ⟨ι, env, s, d, env', hE, R, rd, e, q⟩ := h
  simp only [setT, Option.some.injEq] at e
  subst e
  refine q _ (hE.set i rd) (fun j hj => ?_) (by simp)
  rw [T.slots, List.mem_singleton] at hj
  exact List.getElem?_set_ne (Ne.symm hj)
theorem pgs_nilD : PGs X [] (gDs X []) := by
  refine pgs_nil.weak fun v σ H Q h => ?_
  obtain ⟨ι, env, s, ds, env', hE, R, rd, e, q⟩ := h
  cases ds with
  | nil =>
    simp only [setTs, Option.some.injEq] at e
    subst e
    rw [RDs] at rd
    exact ⟨rd, q σ hE (fun _ _ => rfl) rfl⟩
  | cons d ds => simp [setTs] at e
theorem asgEach_plain {e : Expr} (h : ∀ a p, e ≠ .Starred a p) (es : List Expr) (env : PySem.Env) : assignEach (e :: es) env = (false, assign e env) :: assignEach es env := by
  cases e <;> first | rfl | exact absurd rfl (h _ _)
theorem pgs_consD {e : Expr} {es : List Expr} {t : T} {ts : List T} (h1 : PG X e (gD X t)) (h2 : PGs X es (gDs X ts)) (hp : ∀ a p, e ≠ .Starred a p) : PGs X (e :: es) (gDs X (t :: ts)) := by
  refine (pgs_cons h1 h2 (by rw [asgEach_plain hp]; rfl)).weak fun v σ H Q h => ?_
  obtain ⟨ι, env, s, ds, env', hE, R, rd, e, q⟩ := h
  cases ds with
  | nil => simp [setTs] at e
  | cons d ds =>
    simp only [setTs, Option.bind_eq_some_iff] at e
    obtain ⟨env1, e1, e2⟩ := e
    rw [RDs] at rd
    obtain ⟨v, r, rfl, h1, h2⟩ := rd
    refine ⟨v, r, rfl, ι, env, s, d, env1, hE, R, h1, e1, fun σ1 hE1 f1 l1 => ⟨ι, env1, s, ds, env', hE1, R, h2, e2, fun σ2 hE2 f2 l2 => q σ2 hE2 (fun i hi => ?_) (l2.trans l1)⟩⟩
    rw [T.slotss, List.mem_append, not_or] at hi
    exact (f2 i hi.2).trans (f1 i hi.1)
theorem asgEach_len : ∀ {es : List Expr} (env : PySem.Env), (∀ e ∈ es, ∀ a p, e ≠ Expr.Starred a p) → (assignEach es env).length = es.length ∧ (assignEach es env).findIdx? (·.1) = none
  | [], _, _ => ⟨rfl, rfl⟩
  | e :: es, env, h => by
    obtain ⟨h1, h2⟩ := asgEach_len env fun x hx => h x (List.mem_cons_of_mem e hx)
    rw [asgEach_plain (h e (List.mem_cons_self ..))]
    refine ⟨by rw [List.length_cons, h1, List.length_cons], ?_⟩
    rw [List.findIdx?_cons]
    simp [h2]
theorem setTs_len : ∀ {ts : List T} {ds : List D} {env env' : Env}, setTs ts ds env = some env' → ds.length = ts.length
  | [], [], _, _, _ => rfl
  | [], _ :: _, _, _, e => by simp [setTs] at e
  | _ :: _, [], _, _, e => by simp [setTs] at e
  | t :: ts, d :: ds, _, _, e => by
    simp only [setTs, Option.bind_eq_some_iff] at e
    obtain ⟨_, _, e2⟩ := e
    simp [setTs_len e2]
theorem pg_tupD (G : Gd X) {es : List Expr} {k : Nat} {ts : List T} {pos : Pos} (h : PGs X es (gDs X ts)) (hp : ∀ e ∈ es, ∀ a p, e ≠ Expr.Starred a p) (hl : ts.length = es.length) : PG X (.Tuple es k pos) (gD X (.tp ts)) := by
  obtain ⟨h1, h2⟩ := asgEach_len X.env hp
  refine (pg_tup (n := es.length) G.calm h h1 h2).weak fun v σ H Q h => ?_
  obtain ⟨ι, env, s, d, env', hE, R, rd, e, q⟩ := h
  cases d with
  | tup ds =>
    simp only [setT] at e
    rw [RD] at rd
    obtain ⟨a, vs, rfl, hq, rds⟩ := rd
    refine ⟨a, vs, rfl, hq, by rw [rds.length, setTs_len e, hl], ι, env, s, ds, env', hE, R, rds, e, fun σ' h1 h2 h3 => q σ' h1 (fun i hi => h2 i ?_) h3⟩
    rw [T.slots] at hi
    exact hi
  | _ => simp [setT] at e
end

/-! ### a dict is let go again -/
section
variable {X : Cx}
/-- wanted at the heap, or at the heap with one dict let go -/
def Opn (X : Cx) (Q : Hp → Prop) (H : Hp) : Prop := Q H ∨ ∃ a od u, H a = some (.frz od u) ∧ (∀ o' u', X.H_0 a ≠ some (.frz o' u')) ∧ Q (upd H a u)
def opnE (X : Cx) (D : Ends) : Ends := ⟨fun σ H => Opn X (D.nx σ) H, fun v H => Opn X (D.rt v) H, fun σ H => Opn X (D.bk σ) H, fun σ H => Opn X (D.ct σ) H⟩
theorem opn_inv {pins : List (Addr × Obj)} {σ : L2.St} {H : Hp} {s : Shared} {Q : Hp → Prop} (I : Inv X pins σ H s) (h : Opn X Q H) : ∃ H', Inv X pins σ H' s ∧ Q H' := by
  rcases h with h | ⟨a, od, u, h1, h2, h3⟩
  · exact ⟨H, I, h⟩
  · exact ⟨_, I.unlock h1 h2, h3⟩
theorem opn_sp {pins : List (Addr × Obj)} {D : Ends} {f : Flow} {s : Shared} (h : SP X pins (opnE X D) f s) : SP X pins D f s := by
  cases f with
  | next => obtain ⟨σ', H', I, q⟩ := h; obtain ⟨H2, I2, q2⟩ := opn_inv I q; exact ⟨σ', H2, I2, q2⟩
  | brk => obtain ⟨σ', H', I, q⟩ := h; obtain ⟨H2, I2, q2⟩ := opn_inv I q; exact ⟨σ', H2, I2, q2⟩
  | cont => obtain ⟨σ', H', I, q⟩ := h; obtain ⟨H2, I2, q2⟩ := opn_inv I q; exact ⟨σ', H2, I2, q2⟩
  | ret u => obtain ⟨v, σ', H', I, r, q⟩ := h; obtain ⟨H2, I2, q2⟩ := opn_inv I q; exact ⟨v, σ', H2, I2, r, q2⟩
/-- behind the loop the store is let go: what is wanted of the open store holds -/
theorem opn_of {ι0 ι1 ι2 : List Addr} {H0 H1 H : Hp} {g : Src} {s1 s2 : Sto} (R1 : Rep X.prog X.w X.K ι1 H1 (lockS g s1)) (lk : Lk X H0 ι1 H1 g s1) (g0 : Go ι0 ι2 H0 H) (g2 : Go ι1 ι2 H1 H) (R2 : Rep X.prog X.w X.K ι2 H s2) {Q : Hp → Prop}
    (q : ∀ H', Go ι0 ι2 H0 H' → Stay X.K H H' → Rep X.prog X.w X.K ι2 H' (unlockS g s1 s2) → (∀ a, a ∉ ι2 → H' a = H a) → Q H') : Opn X Q H := by
  cases hl : g.lock with
  | none => exact .inl (q H g0 ⟨fun _ _ e => e, fun _ _ e => e⟩ (by unfold unlockS; rw [hl]; exact R2) fun _ _ => rfl)
  | some r =>
    obtain ⟨c, a, hs, ha, hc⟩ := lk r hl
    have ha2 := g2.ix ha
    have hu : unlockS g s1 s2 = s2.set r c := by unfold unlockS; rw [hl]; simp only; rw [hs]
    have hr2 : r < s2.length := by
      have := (List.getElem?_eq_some_iff.mp ha2).1
      rw [R2.len] at this
      exact this
    rcases hc with ⟨kvs, rfl⟩ | ⟨kvs, od, u, rfl, hH, hd, hn, hn0⟩
    · -- it was locked ahead of this loop
      refine .inl (q H g0 ⟨fun _ _ e => e, fun _ _ e => e⟩ ?_ fun _ _ => rfl)
      rw [hu]
      have hlk : lockS g s1 = s1 := by unfold lockS; rw [hl]; simp only; rw [hs]
      rw [hlk] at R1
      obtain ⟨o, u, h1, h2⟩ := R1.cell r _ a hs ha
      refine ⟨by rw [List.length_set]; exact R2.len, R2.nd, fun j c' b e e' => ?_⟩
      by_cases hj : j = r
      · subst hj
        rw [List.getElem?_set_self hr2] at e
        cases e
        rw [ha2] at e'; cases e'
        exact ⟨o, u, g2.frz _ _ _ h1, h2.mono (g2.stay R1) fun _ _ => g2.ix⟩
      · rw [List.getElem?_set_ne (Ne.symm hj)] at e
        exact R2.cell j c' b e e'
    · obtain ⟨n1, n2, n3, mu⟩ := hd.notTup
      have hH2 := g2.frz _ _ _ hH
      have st : Stay X.K H (upd H a u) := stay_set hH2 (fun _ z => nomatch z) (fun _ _ z => by cases z; exact n1 _ rfl) (fun _ _ z => by cases z; exact n3 _ rfl)
      refine .inr ⟨a, od, u, hH2, hn, q _ ?_ st ?_ fun b hb => upd_ne fun z => hb (z ▸ List.mem_of_getElem? ha2)⟩
      · refine ⟨g0.pre, fun b o e nb => ?_, fun b o u' e => ?_⟩
        · have e2 := g0.keep b o e nb
          rw [upd_ne fun z => ?_]
          · exact e2
          · subst z
            rw [hH2] at e2; cases e2
            exact hn0 _ _ e
        · rw [upd_ne fun z => hn0 o u' (by rw [← z]; exact e)]
          exact g0.frz _ _ _ e
      · rw [hu]
        refine R2.set (List.getElem?_eq_getElem hr2) ha2 (fun _ z => by rw [hH2] at z; cases z) (fun _ _ z => by rw [hH2] at z; cases z; exact n1 _ rfl) (fun _ _ z => by rw [hH2] at z; cases z; exact n3 _ rfl) ⟨u, upd_same, ?_⟩
        exact (hd.mono (g2.stay R1) fun _ _ => g2.ix).mono st fun _ _ e => e
end

/-! ### comprehensions -/
section
variable {X : Cx}
theorem wipe_get {σ : L2.St} {i : Nat} : ∀ {vs : List Nat}, (L2.wipe σ vs)[i]? = if i ∈ vs then (if i < σ.length then some none else none) else σ[i]?
  | [] => by simp [L2.wipe]
  | v :: vs => by
    unfold L2.wipe
    by_cases hi : v = i
    · subst hi
      by_cases hl : v < σ.length
      · rw [List.getElem?_set_self (by rw [L2.wipe_length]; exact hl)]; simp [hl]
      · rw [List.getElem?_eq_none (by rw [List.length_set, L2.wipe_length]; omega)]; simp [hl]
    · rw [List.getElem?_set_ne hi, wipe_get]
      have : i ∈ v :: vs ↔ i ∈ vs := by simp [Ne.symm hi]
      simp only [this]
theorem wipe_same {σ σ' : L2.St} {vs : List Nat} (hl : σ'.length = σ.length) (h : ∀ i, i ∉ vs → σ'[i]? = σ[i]?) : L2.wipe σ' vs = L2.wipe σ vs := by
  refine List.ext_getElem? fun i => ?_
  rw [wipe_get, wipe_get, hl]
  split
  · rfl
  · rename_i hi; exact h i hi
theorem wipe_wipe (σ : L2.St) (vs : List Nat) : L2.wipe (L2.wipe σ vs) vs = L2.wipe σ vs := by
  refine wipe_same (L2.wipe_length σ vs) fun i hi => ?_
  rw [wipe_get, if_neg hi]
/-- a side object that is no cell is written -/
theorem Rep.side {P : Program} {w : World} {K : PySem.W.Frag} {ι : List Addr} {H : Hp} {s : Sto} (R : Rep P w K ι H s) {p : Addr} {o : HO} (hp : p ∉ ι) (st : Stay K H (upd H p o)) : Rep P w K ι (upd H p o) s :=
  ⟨R.len, R.nd, fun i c a e e' => (R.cell i c a e e').mono st (fun _ _ e => e) (upd_ne fun z => hp (z ▸ List.mem_of_getElem? e'))⟩

/-- a comprehension's test, where there is one -/
def tC? (X : Cx) (rc : Env → Sto → Option (D × Sto)) : TT := tET X rc
theorem lc_weak {ri : Env → Sto → Option (Src × Sto)} {rt re : Env → Sto → Option (D × Sto)} {t : T} {vs : List Nat} (ht : ∀ i ∈ t.slots, i ∈ vs) {σ : L2.St} {H : Hp} {Q : VK}
    (h : tE X (fun env s => bnd (ri env s) fun g s => bnd (compL re rt t (wipeD env vs) g g.items [] (lockS g s)) fun acc s1 => some (.ref (unlockS g s s1).length, unlockS g s s1 ++ [.lst acc])) σ H Q) :
    tLc (iD X ri) (gD X t) (tET X rt) (tE X re) vs σ H fun v H' => Opn X (Q v) H' := by
  obtain ⟨ι, env, s, d, s', hE, R, e, q⟩ := h
  obtain ⟨g, s1, e1, e⟩ := bnd_eq_some.mp e
  obtain ⟨accF, sF, e2, e⟩ := bnd_eq_some.mp e
  simp only [Option.some.injEq, Prod.mk.injEq] at e
  obtain ⟨rfl, rfl⟩ := e
  refine ⟨ι, env, s, g, s1, hE, R, e1, fun J H1 ι1 g1 R1 lk io D hD => ?_⟩
  have hDι : D ∉ ι1 := R1.notNone hD
  have hn : g.items.length = g.items.length := rfl
  have hH0D : H D = none := by
    cases z : H D with
    | none => rfl
    | some o =>
      by_cases hd : D ∈ ι
      · exact absurd (by obtain ⟨new, e, _⟩ := g1.pre; rw [e]; exact List.mem_append_left _ hd) hDι
      · have := g1.keep D o z hd
        rw [hD] at this; cases this
  -- the invariant of the turns
  refine ⟨fun i m H2 => m = g.items.length - i ∧ ∃ ι2 s2 acc av, Go ι1 ι2 H1 H2 ∧ Rep X.prog X.w X.K ι2 H2 s2 ∧ D ∉ ι2 ∧ H2 D = some (.lst av) ∧ RDs X.K ι2 H2 acc av ∧ compL re rt t (wipeD env vs) g (g.items.drop i) acc s2 = some (accF, sF),
    ⟨g.items.length, by simp, ι1, lockS g s1, [], [], Go.new hD, R1.new hD, hDι, upd_same, by rw [RDs], by simpa using e2⟩, ?_⟩
  rintro i m H2 ⟨rfl, ι2, s2, acc, av, g2, R2, hD2, hA, rA, ec⟩
  by_cases hi : i < g.items.length
  · -- a turn
    have hd : g.items[i]? = some g.items[i] := List.getElem?_eq_getElem hi
    rw [List.drop_eq_getElem_cons hi, compL] at ec
    split at ec
    rotate_left
    · cases ec
    rename_i hok
    simp only [Option.bind_eq_some_iff] at ec
    obtain ⟨env1, e3, ec⟩ := ec
    obtain ⟨bb, s3, e4, ec⟩ := bnd_eq_some.mp ec
    obtain ⟨st1, st2⟩ := io.step ι2 H2 s2 g2 R2 hok i
    obtain ⟨go1, yl⟩ := st1 _ hd
    refine .inr ⟨go1, fun H3 => ∃ ι3 s3 acc3 av3, Go ι1 ι3 H1 H3 ∧ Rep X.prog X.w X.K ι3 H3 s3 ∧ D ∉ ι3 ∧ H3 D = some (.lst av3) ∧ RDs X.K ι3 H3 acc3 av3 ∧ compL re rt t (wipeD env vs) g (g.items.drop (i + 1)) acc3 s3 = some (accF, sF),
      fun H3 h3 => ⟨g.items.length - (i + 1), by omega, rfl, h3⟩, fun x H3 y => ?_⟩
    obtain ⟨g3, R3, rx⟩ := yl x H3 y
    have hA3 : H3 D = some (.lst av) := g3.keep D _ hA hD2
    have hE3 : RepE X.K ι2 H3 (wipeD env vs) (L2.wipe σ vs) := g3.env R2 (g2.env R1 (g1.env R hE |>.wipe vs) )
    have rA3 := g3.rds R2 rA
    refine ⟨ι2, wipeD env vs, s2, _, env1, hE3, R3, rx, e3, fun σ' hE4 hf hl => ⟨?_, ?_⟩⟩
    · rw [← wipe_wipe σ vs]
      exact wipe_same hl fun j hj => hf j fun z => hj (ht j z)
    · -- the test
      have hb : bb = .bl true ∨ bb = .bl false := by
        split at ec
        · exact .inl rfl
        · exact .inr rfl
        · cases ec
      rcases hb with rfl | rfl
      · refine ⟨ι2, env1, s2, true, s3, hE4, R3, e4, fun H5 ι5 g5 R5 => ?_⟩
        show (if true = true then _ else _)
        rw [if_pos rfl]
        simp only at ec
        obtain ⟨y, s6, e6, ec⟩ := bnd_eq_some.mp ec
        split at ec
        rotate_left
        · cases ec
        rename_i hlen
        refine ⟨ι5, env1, s3, y, s6, g5.env R3 hE4, R5, e6, fun vy H6 ι6 g6 R6 ry => ?_⟩
        have hD5 : D ∉ ι5 := fun z => by
          obtain ⟨new, e, hnew⟩ := g5.pre
          rw [e] at z
          rcases List.mem_append.mp z with z | z
          · exact hD2 z
          · have := hnew D z
            rw [hA3] at this; cases this
        have hA5 : H5 D = some (.lst av) := g5.keep D _ hA3 hD2
        have hD6 : D ∉ ι6 := fun z => by
          obtain ⟨new, e, hnew⟩ := g6.pre
          rw [e] at z
          rcases List.mem_append.mp z with z | z
          · exact hD5 z
          · have := hnew D z
            rw [hA5] at this; cases this
        have hA6 : H6 D = some (.lst av) := g6.keep D _ hA5 hD5
        have rA6 := g6.rds R5 (g5.rds R3 rA3)
        have hal := rA6.length
        refine ⟨av, hA6, by rw [hal, ← L_eq]; exact hlen, ?_⟩
        have st : Stay X.K H6 (upd H6 D (.lst (av ++ [vy]))) := stay_set hA6 (fun _ z => nomatch z) (fun _ _ z => nomatch z) (fun _ _ z => nomatch z)
        have g16 : Go ι1 ι6 H1 H6 := ((g2.trans R2 g3).trans R3 g5).trans R5 g6
        refine ⟨ι6, s6, acc ++ [y], av ++ [vy], ⟨g16.pre, fun a o e na => ?_, fun a o u e => ?_⟩, R6.side hD6 st, hD6, upd_same, (rA6.append (RDs.one ry)).mono st fun _ _ e => e, ec⟩
        · rw [upd_ne (ne_of_none e hD)]
          exact g16.keep a o e na
        · rw [upd_ne (ne_of_none e hD)]
          exact g16.frz a o u e
      · refine ⟨ι2, env1, s2, false, s3, hE4, R3, e4, fun H5 ι5 g5 R5 => ?_⟩
        show (if false = true then _ else _)
        rw [if_neg Bool.false_ne_true]
        simp only at ec
        have hD5 : D ∉ ι5 := fun z => by
          obtain ⟨new, e, hnew⟩ := g5.pre
          rw [e] at z
          rcases List.mem_append.mp z with z | z
          · exact hD2 z
          · have := hnew D z
            rw [hA3] at this; cases this
        exact ⟨ι5, s3, acc, av, (g2.trans R2 g3).trans R3 g5, R5, hD5, g5.keep D _ hA3 hD2, g5.rds R3 rA3, ec⟩
  · -- the end
    rw [List.drop_eq_nil_of_le (by omega), compL] at ec
    split at ec
    rotate_left
    · cases ec
    rename_i hok
    simp only [Option.some.injEq, Prod.mk.injEq] at ec
    obtain ⟨rfl, rfl⟩ := ec
    obtain ⟨st1, st2⟩ := io.step ι2 H2 s2 g2 R2 hok i
    refine .inl ⟨st2 (by omega), ?_⟩
    have g02 : Go ι ι2 H H2 := g1.trans R1 g2
    refine opn_of R1 lk g02 g2 R2 fun H' g' st R' same => ?_
    have hA' : H' D = some (.lst av) := by rw [same D hD2]; exact hA
    refine q _ H' (ι2 ++ [D]) ⟨?_, g'.keep, g'.frz⟩ ?_ ?_
    · obtain ⟨new, e, hnew⟩ := g'.pre
      refine ⟨new ++ [D], by rw [e, List.append_assoc], fun a ha => ?_⟩
      rcases List.mem_append.mp ha with ha | ha
      · exact hnew a ha
      · rw [List.mem_singleton] at ha; subst ha; exact hH0D
    · have hix : ∀ (i : Nat) (a : Addr), ι2[i]? = some a → (ι2 ++ [D])[i]? = some a := fun i a e => by
        rw [List.getElem?_append_left (List.getElem?_eq_some_iff.mp e).1]; exact e
      refine ⟨by simp [R'.len], List.nodup_append.mpr ⟨R'.nd, by simp, fun a ha b hb => ?_⟩, fun j c a e e' => ?_⟩
      · rw [List.mem_singleton] at hb; subst hb; intro z; exact hD2 (z ▸ ha)
      · by_cases hj : j < (unlockS g s1 s2).length
        · rw [List.getElem?_append_left hj] at e
          rw [List.getElem?_append_left (by rw [R'.len]; exact hj)] at e'
          exact (R'.cell j c a e e').mono ⟨fun _ _ e => e, fun _ _ e => e⟩ hix rfl
        · rw [List.getElem?_append_right (by omega)] at e
          rw [List.getElem?_append_right (by rw [R'.len]; omega)] at e'
          have h1 : j - (unlockS g s1 s2).length = 0 := by
            have := (List.getElem?_eq_some_iff.mp e).1
            simp at this
            omega
          have h2 : j - ι2.length = 0 := by rw [R'.len]; exact h1
          rw [h1] at e; rw [h2] at e'
          simp at e e'
          subst e e'
          exact ⟨av, hA', (rA.mono st fun _ _ e => e).mono ⟨fun _ _ e => e, fun _ _ e => e⟩ hix⟩
    · rw [RD]
      exact ⟨D, rfl, by rw [List.getElem?_append_right (by rw [R'.len]; omega), R'.len]; simp⟩
end
end Ev
end

section
set_option autoImplicit false
set_option maxRecDepth 100000
set_option linter.unusedVariables false
/-! Ev18: statements by their runs -/
namespace Ev
open PySem L2 PySem.SeqAt PyProof.Rows PySem.Calls

def RetS (X : Cx) (ι : List Addr) (H : Hp) (D : Ends) : Fl × Env → Sto → Prop
  | (.nx, env), s => ∀ σ' H' ι', Go ι ι' H H' → Rep X.prog X.w X.K ι' H' s → RepE X.K ι' H' env σ' → D.nx σ' H'
  | (.rt d, _), s => ∀ v H' ι', Go ι ι' H H' → Rep X.prog X.w X.K ι' H' s → RD X.K ι' H' d v → D.rt v H'
  | (.bk, env), s => ∀ σ' H' ι', Go ι ι' H H' → Rep X.prog X.w X.K ι' H' s → RepE X.K ι' H' env σ' → D.bk σ' H'
  | (.ct, env), s => ∀ σ' H' ι', Go ι ι' H H' → Rep X.prog X.w X.K ι' H' s → RepE X.K ι' H' env σ' → D.ct σ' H'
def tSD (X : Cx) (run : Env → Sto → Option ((Fl × Env) × Sto)) : TS := fun D σ H => ∃ ι env s r s', RepE X.K ι H env σ ∧ Rep X.prog X.w X.K ι H s ∧ run env s = some (r, s') ∧ RetS X ι H D r s'
section
variable {X : Cx}
theorem RetS.go {ι ι1 : List Addr} {H H1 : Hp} {s1 s' : Sto} {D : Ends} {r : Fl × Env} (R1 : Rep X.prog X.w X.K ι1 H1 s1) (g : Go ι ι1 H H1) (q : RetS X ι H D r s') : RetS X ι1 H1 D r s' := by
  obtain ⟨f, env⟩ := r
  cases f with
  | nx => exact fun σ' H' ι' g' => q σ' H' ι' (g.trans R1 g')
  | rt d => exact fun σ' H' ι' g' => q σ' H' ι' (g.trans R1 g')
  | bk => exact fun σ' H' ι' g' => q σ' H' ι' (g.trans R1 g')
  | ct => exact fun σ' H' ι' g' => q σ' H' ι' (g.trans R1 g')

variable {a b c e tg iter elt : Expr} {ra rb rc re : Env → Sto → Option (D × Sto)} {ri : Env → Sto → Option (Src × Sto)} {t : T} {pos : Pos}
/-! ### comprehensions -/
theorem folded_not (h : ∀ es k p, iter ≠ .Set es k p) : ∀ x, foldedSetIterable iter X.env x = pure x := by
  intro x
  cases iter <;> first | rfl | exact absurd rfl (h _ _ _)
abbrev lcR (ri : Env → Sto → Option (Src × Sto)) (rt re : Env → Sto → Option (D × Sto)) (t : T) (vs : List Nat) : Env → Sto → Option (D × Sto) := fun env s => bnd (ri env s) fun g s => bnd (compL re rt t (wipeD env vs) g g.items [] (lockS g s)) fun acc s1 => some (.ref (unlockS g s s1).length, unlockS g s s1 ++ [.lst acc])
theorem pe_lcD (G : Gd X) {ifs : List Expr} {scope : Scope} {own : List (Str × Nat)} {rt : Env → Sto → Option (D × Sto)} (ht : ∀ i ∈ t.slots, i ∈ own.map (·.2)) (hi : PI X tg iter (iD X ri)) (ok : BlkOk X.N X.env.scope scope own)
    (hg : ∀ (s : Shared) (H : Hp) (C : Addr) (cl : List (Str × Addr)) (fp : List Addr), PG (X.blk s H scope (compEnvC scope cl C X.env) fp) tg (gD X t)) (htt : ∀ (s : Shared) (H : Hp) (C : Addr) (cl : List (Str × Addr)) (fp : List Addr), PTs (X.blk s H scope (compEnvC scope cl C X.env) fp) ifs (tET X rt))
    (hee : ∀ (s : Shared) (H : Hp) (C : Addr) (cl : List (Str × Addr)) (fp : List Addr), PE (X.blk s H scope (compEnvC scope cl C X.env) fp) elt (tE X re)) (hs : ∀ es k p, iter ≠ .Set es k p) :
    PE X (.ListComp elt [⟨tg, iter, ifs, 0⟩] scope pos) (tE X (lcR ri rt re t (own.map (·.2)))) :=
  ⟨fun pins s σ H Q I h => thn ((pe_lc G.calm G.nd hi ok hg htt hee (folded_not hs)).run pins s σ H (fun v H' => Opn X (Q v) H') I (lc_weak ht h)) fun v s' ⟨x, H', I', r, q⟩ =>
    let ⟨H2, I2, q2⟩ := opn_inv I' q; ⟨x, H2, I2, r, q2⟩⟩
abbrev asgR (re : Env → Sto → Option (D × Sto)) (t : T) : Env → Sto → Option ((Fl × Env) × Sto) := fun env s => bnd (re env s) fun d s => (setT t d env).map fun env => ((.nx, env), s)
theorem ps_setLcD (G : Gd X) {i : Nat} {y : Str} {py spos : Pos} {ifs : List Expr} {scope : Scope} {own : List (Str × Nat)} {rt : Env → Sto → Option (D × Sto)} (hy : X.N[i]? = some y) (hyl : X.env.scope.names.lookup y = some .local)
    (hsw : swapsWith (.ListComp elt [⟨tg, iter, ifs, 0⟩] scope pos) (some (.Name y py)) spos.line X.env = pure true) (ht : ∀ i ∈ t.slots, i ∈ own.map (·.2)) (hi : PI X tg iter (iD X ri)) (ok : BlkOk X.N X.env.scope scope own)
    (hg : ∀ (s : Shared) (H : Hp) (C : Addr) (cl : List (Str × Addr)) (fp : List Addr), PG (X.blk s H scope (compEnvC scope cl C X.env) fp) tg (gD X t)) (htt : ∀ (s : Shared) (H : Hp) (C : Addr) (cl : List (Str × Addr)) (fp : List Addr), PTs (X.blk s H scope (compEnvC scope cl C X.env) fp) ifs (tET X rt))
    (hee : ∀ (s : Shared) (H : Hp) (C : Addr) (cl : List (Str × Addr)) (fp : List Addr), PE (X.blk s H scope (compEnvC scope cl C X.env) fp) elt (tE X re)) (hs : ∀ es k p, iter ≠ .Set es k p) :
    PS X (.Assign [.Name y py] (.ListComp elt [⟨tg, iter, ifs, 0⟩] scope pos) spos) (tSD X (asgR (lcR ri rt re t (own.map (·.2))) (.nm i))) := by
  refine ⟨fun pins s σ H D I h => ?_⟩
  obtain ⟨ι, env, st, r, s', hE, R, e, q⟩ := h
  obtain ⟨d, s1, e1, e2⟩ := bnd_eq_some.mp e
  simp only [setT, Option.map_some, Option.some.injEq, Prod.mk.injEq] at e2
  obtain ⟨rfl, rfl⟩ := e2
  refine thn ((ps_setLc G.calm G.nd hy hyl hsw hi ok hg htt hee (folded_not hs)).run pins s σ H (opnE X D) I ?_) fun f s' h => opn_sp h
  refine lc_weak (Q := fun v H' => D.nx (σ.set i (some v)) H') ht ⟨ι, env, st, d, _, hE, R, e1, fun v H' ι' g R' rd => ?_⟩
  exact q _ H' ι' g R' ((g.env R hE).set i rd)

/-! ### assignments -/
theorem ps_asgD (he : PE X e (tE X re)) (hg : PG X tg (gD X t)) (hs : swapsWithSole [tg] e pos.line X.env = pure false) (hw : swappedStores [tg] e X.env = pure none) (h1 : ∀ z p, tg ≠ .Starred z p) : PS X (.Assign [tg] e pos) (tSD X (asgR re t)) := by
  refine (ps_asg he hg hs hw (by rw [asgEach_plain h1]; rfl)).weak fun D σ H h => ?_
  obtain ⟨ι, env, s, r, s', hE, R, e, q⟩ := h
  obtain ⟨d, s1, e1, e2⟩ := bnd_eq_some.mp e
  simp only [Option.map_eq_some_iff, Prod.mk.injEq] at e2
  obtain ⟨env', e2, rfl, rfl⟩ := e2
  refine ⟨ι, env, s, d, _, hE, R, e1, fun v H1 ι1 g1 R1 rd => ⟨ι1, env, _, d, env', g1.env R hE, R1, rd, e2, fun σ' hE' _ _ => q σ' H1 ι1 g1 R1 hE'⟩⟩
theorem ps_setD (G : Gd X) {i : Nat} {x : Str} {pos' : Pos} (hi : X.N[i]? = some x) (hx : Loc X.env.scope x) (he : PE X e (tE X re)) (hs : swapsWith e (some (.Name x pos')) pos.line X.env = pure false) (hf : X.fn x = true ∨ X.env.scope.names.lookup x = some .local) :
    PS X (.Assign [.Name x pos'] e pos) (tSD X (asgR re (.nm i))) := by
  refine (ps_set G.nd hi hx he hs hf).weak fun D σ H h => ?_
  obtain ⟨ι, env, s, r, s', hE, R, e, q⟩ := h
  obtain ⟨d, s1, e1, e2⟩ := bnd_eq_some.mp e
  simp only [setT, Option.map_some, Option.some.injEq, Prod.mk.injEq] at e2
  obtain ⟨rfl, rfl⟩ := e2
  exact ⟨ι, env, s, d, _, hE, R, e1, fun v H1 ι1 g1 R1 rd => q _ H1 ι1 g1 R1 ((g1.env R hE).set i rd)⟩
theorem ps_parD (G : Gd X) {i j : Nat} {x y : Str} {rs : Env → Sto → Option (List D × Sto)} {px py pt : Pos} {kt k2 pt2} (hi : X.N[i]? = some x) (hj : X.N[j]? = some y) (hij : i ≠ j)
    (hx : X.env.scope.names.lookup x = some .local) (hy : X.env.scope.names.lookup y = some .local) (ha : PA X [a, b] (tEs X rs))
    (hw : swappedStores [.Tuple [.Name x px, .Name y py] kt pt] (.Tuple [a, b] k2 pt2) X.env = pure (some [x, y])) (hs : swapsWithSole [.Tuple [.Name x px, .Name y py] kt pt] (.Tuple [a, b] k2 pt2) pos.line X.env = pure false) :
    PS X (.Assign [.Tuple [.Name x px, .Name y py] kt pt] (.Tuple [a, b] k2 pt2) pos) (tSD X (asgR (fun env s => bnd (rs env s) fun ds s => newT s ds) (.tp [.nm i, .nm j]))) := by
  refine (ps_par G.calm G.nd hi hj hij hx hy ha hw hs).weak fun D σ H h => ?_
  obtain ⟨ι, env, s, r, s', hE, R, e, q⟩ := h
  obtain ⟨d, s1, e1, e2⟩ := bnd_eq_some.mp e
  obtain ⟨ds, s2, e0, e1⟩ := bnd_eq_some.mp e1
  obtain ⟨_, rfl, rfl⟩ := newT_some e1
  simp only [Option.map_eq_some_iff, Prod.mk.injEq] at e2
  obtain ⟨env', e2, rfl, rfl⟩ := e2
  refine ⟨ι, env, s, ds, _, hE, R, e0, fun vs H1 ι1 g1 R1 rd => ?_⟩
  rcases ds with _ | ⟨d1, _ | ⟨d2, _ | ⟨d3, ds⟩⟩⟩
  · simp [setT, setTs] at e2
  · simp [setT, setTs] at e2
  · simp only [setT, setTs, Option.bind_some, Option.some.injEq] at e2
    subst e2
    rw [RDs] at rd
    obtain ⟨v, l, rfl, h1, h2⟩ := rd
    rw [RDs] at h2
    obtain ⟨v2, l, rfl, h2, h3⟩ := h2
    rw [RDs] at h3
    subst h3
    exact ⟨v, v2, rfl, q _ H1 ι1 g1 R1 (((g1.env R hE).set i h1).set j h2)⟩
  · simp [setT, setTs] at e2
theorem ps_par3D (G : Gd X) {i j l : Nat} {x y z : Str} {d' : Expr} {rs : Env → Sto → Option (List D × Sto)} {px py pz pt : Pos} {kt k2 pt2} (hi : X.N[i]? = some x) (hj : X.N[j]? = some y) (hl : X.N[l]? = some z) (hij : i ≠ j) (hil : i ≠ l) (hjl : j ≠ l)
    (hx : X.env.scope.names.lookup x = some .local) (hy : X.env.scope.names.lookup y = some .local) (hz : X.env.scope.names.lookup z = some .local) (ha : PA X [a, b, d'] (tEs X rs))
    (hw : swappedStores [.Tuple [.Name x px, .Name y py, .Name z pz] kt pt] (.Tuple [a, b, d'] k2 pt2) X.env = pure (some [x, y, z])) (hs : swapsWithSole [.Tuple [.Name x px, .Name y py, .Name z pz] kt pt] (.Tuple [a, b, d'] k2 pt2) pos.line X.env = pure false) :
    PS X (.Assign [.Tuple [.Name x px, .Name y py, .Name z pz] kt pt] (.Tuple [a, b, d'] k2 pt2) pos) (tSD X (asgR (fun env s => bnd (rs env s) fun ds s => newT s ds) (.tp [.nm i, .nm j, .nm l]))) := by
  refine (ps_par3 G.calm G.nd hi hj hl hij hil hjl hx hy hz ha hw hs).weak fun D σ H h => ?_
  obtain ⟨ι, env, s, r, s', hE, R, e, q⟩ := h
  obtain ⟨d, s1, e1, e2⟩ := bnd_eq_some.mp e
  obtain ⟨ds, s2, e0, e1⟩ := bnd_eq_some.mp e1
  obtain ⟨_, rfl, rfl⟩ := newT_some e1
  simp only [Option.map_eq_some_iff, Prod.mk.injEq] at e2
  obtain ⟨env', e2, rfl, rfl⟩ := e2
  refine ⟨ι, env, s, ds, _, hE, R, e0, fun vs H1 ι1 g1 R1 rd => ?_⟩
  rcases ds with _ | ⟨d1, _ | ⟨d2, _ | ⟨d3, _ | ⟨d4, ds⟩⟩⟩⟩
  · simp [setT, setTs] at e2
  · simp [setT, setTs] at e2
  · simp [setT, setTs] at e2
  · simp only [setT, setTs, Option.bind_some, Option.some.injEq] at e2
    subst e2
    rw [RDs] at rd
    obtain ⟨v, l1, rfl, h1, h2⟩ := rd
    rw [RDs] at h2
    obtain ⟨v2, l2, rfl, h2, h3⟩ := h2
    rw [RDs] at h3
    obtain ⟨v3, l3, rfl, h3, h4⟩ := h3
    rw [RDs] at h4
    subst h4
    exact ⟨v, v2, v3, rfl, q _ H1 ι1 g1 R1 ((((g1.env R hE).set i h1).set j h2).set l h3)⟩
  · simp [setT, setTs] at e2
theorem ps_setiD (G : Gd X) {o i v : Expr} {p : Pos} {ro ri' rv : Env → Sto → Option (D × Sto)} (ho : PE X o (tE X ro)) (hi : PE X i (tE X ri')) (hv : PE X v (tE X rv)) (hns : ∀ lo hi st p, i ≠ .Slice lo hi st p)
    (hs : swapsWithSole [.Subscript o i p] v pos.line X.env = pure false) : PS X (.Assign [.Subscript o i p] v pos) (tSD X fun env s => bnd (rv env s) fun d s => bnd (ro env s) fun x s => bnd (ri' env s) fun k s => (setD x k d s).map fun s => ((.nx, env), s)) := by
  have hgs : PG X (.Subscript o i p) (gSub (tE X ro) (tE X ri') (rSet X.prog X.w X.K)) := pg_sub ho hi (set_D G) (by
    intro v
    cases i <;> first | rfl | exact absurd rfl (hns _ _ _ _))
  refine (ps_asg hv hgs hs (by rfl) (by rfl)).weak fun D σ H h => ?_
  obtain ⟨ι, env, s, r, s', hE, R, e, q⟩ := h
  obtain ⟨d, s1, e1, e⟩ := bnd_eq_some.mp e
  obtain ⟨x, s2, e2, e⟩ := bnd_eq_some.mp e
  obtain ⟨k, s3, e3, e⟩ := bnd_eq_some.mp e
  simp only [Option.map_eq_some_iff, Prod.mk.injEq] at e
  obtain ⟨s4, e4, rfl, rfl⟩ := e
  refine ⟨ι, env, s, d, s1, hE, R, e1, fun vd H1 ι1 g1 R1 rd => ?_⟩
  refine ⟨ι1, env, s1, x, s2, g1.env R hE, R1, e2, fun vx H2 ι2 g2 R2 rx => ?_⟩
  refine ⟨ι2, env, s2, k, s3, g2.env R1 (g1.env R hE), R2, e3, fun vk H3 ι3 g3 R3 rk => ?_⟩
  refine ⟨ι3, s3, x, k, d, s4, R3, g3.rd R2 rx, rk, g3.rd R2 (g2.rd R1 rd), e4, fun H4 ι4 g4 R4 => ?_⟩
  exact q σ H4 ι4 (((g1.trans R1 g2).trans R2 g3).trans R3 g4) R4 (g4.env R3 (g3.env R2 (g2.env R1 (g1.env R hE))))
theorem ps_exD (he : PE X e (tE X re)) (hs : swapsWith e none pos.line X.env = pure false) : PS X (.Expr e pos) (tSD X fun env s => bnd (re env s) fun _ s => some ((.nx, env), s)) := by
  refine (ps_expr he hs).weak fun D σ H h => ?_
  obtain ⟨ι, env, s, r, s', hE, R, e, q⟩ := h
  obtain ⟨d, s1, e1, e⟩ := bnd_eq_some.mp e
  cases e
  exact ⟨ι, env, s, d, _, hE, R, e1, fun v H1 ι1 g1 R1 rd => q σ H1 ι1 g1 R1 (g1.env R hE)⟩
theorem ps_retD (he : PE X e (tE X re)) : PS X (.Return (some e) pos) (tSD X fun env s => bnd (re env s) fun d s => some ((.rt d, env), s)) := by
  refine (ps_ret he).weak fun D σ H h => ?_
  obtain ⟨ι, env, s, r, s', hE, R, e, q⟩ := h
  obtain ⟨d, s1, e1, e⟩ := bnd_eq_some.mp e
  cases e
  exact ⟨ι, env, s, d, _, hE, R, e1, fun v H1 ι1 g1 R1 rd => q v H1 ι1 g1 R1 rd⟩
theorem ps_retND : PS X (.Return none pos) (tSD X fun env s => some ((.rt .non, env), s)) := by
  refine ps_retN.weak fun D σ H h => ?_
  obtain ⟨ι, env, s, r, s', hE, R, e, q⟩ := h
  cases e
  exact q .non H ι Go.refl R (by rw [RD])
theorem pss_nilD : PSs X [] (tSD X fun env s => some ((.nx, env), s)) := by
  refine pss_nil.weak fun D σ H h => ?_
  obtain ⟨ι, env, s, r, s', hE, R, e, q⟩ := h
  cases e
  exact q σ H ι Go.refl R hE
theorem ps_passD : PS X (.Pass pos) (tSD X fun env s => some ((.nx, env), s)) := by
  refine ps_pass.weak fun D σ H h => ?_
  obtain ⟨ι, env, s, r, s', hE, R, e, q⟩ := h
  cases e
  exact q σ H ι Go.refl R hE
theorem ps_brkD : PS X (.Break pos) (tSD X fun env s => some ((.bk, env), s)) := by
  refine ps_break.weak fun D σ H h => ?_
  obtain ⟨ι, env, s, r, s', hE, R, e, q⟩ := h
  cases e
  exact q σ H ι Go.refl R hE
theorem ps_cntD : PS X (.Continue pos) (tSD X fun env s => some ((.ct, env), s)) := by
  refine ps_continue.weak fun D σ H h => ?_
  obtain ⟨ι, env, s, r, s', hE, R, e, q⟩ := h
  cases e
  exact q σ H ι Go.refl R hE
theorem ps_neverD {st : Stmt} : PS X st (tSD X fun _ _ => none) := ⟨fun _ _ _ _ _ _ h => by obtain ⟨_, _, _, _, _, _, _, e, _⟩ := h; cases e⟩
variable {st : Stmt} {sts sts' : List Stmt} {r1 r2 : Env → Sto → Option ((Fl × Env) × Sto)}
theorem pss_consD (h1 : PS X st (tSD X r1)) (h2 : PSs X sts (tSD X r2)) : PSs X (st :: sts) (tSD X fun env s => bnd (r1 env s) fun r s => match r with
    | (.nx, env) => r2 env s
    | (f, env) => some ((f, env), s)) := by
  refine (pss_cons h1 h2).weak fun D σ H h => ?_
  obtain ⟨ι, env, s, r, s', hE, R, e, q⟩ := h
  obtain ⟨⟨f, env1⟩, s1, e1, e⟩ := bnd_eq_some.mp e
  refine ⟨ι, env, s, (f, env1), s1, hE, R, e1, ?_⟩
  cases f with
  | nx => exact fun σ1 H1 ι1 g1 R1 hE1 => ⟨ι1, env1, s1, r, s', hE1, R1, e, q.go R1 g1⟩
  | rt d => cases e; exact q
  | bk => cases e; exact q
  | ct => cases e; exact q
theorem ps_iteD {c : Expr} (hc : PT X c (tET X rc)) (ha : PSs X sts (tSD X r1)) (hb : PSs X sts' (tSD X r2)) : PS X (.If c sts sts' pos) (tSD X fun env s => bnd (rc env s) fun x s => match x with
    | .bl true => r1 env s
    | .bl false => r2 env s
    | _ => none) := by
  refine (ps_if hc ha hb).weak fun D σ H h => ?_
  obtain ⟨ι, env, s, r, s', hE, R, e, q⟩ := h
  obtain ⟨x, s1, e1, e⟩ := bnd_eq_some.mp e
  have hx : (x = .bl true ∧ r1 env s1 = some (r, s')) ∨ (x = .bl false ∧ r2 env s1 = some (r, s')) := by
    split at e
    · exact .inl ⟨rfl, e⟩
    · exact .inr ⟨rfl, e⟩
    · cases e
  rcases hx with ⟨rfl, e⟩ | ⟨rfl, e⟩
  · exact ⟨ι, env, s, true, s1, hE, R, e1, fun H1 ι1 g1 R1 => by show (if true = true then _ else _); rw [if_pos rfl]; exact ⟨ι1, env, s1, r, s', g1.env R hE, R1, e, q.go R1 g1⟩⟩
  · exact ⟨ι, env, s, false, s1, hE, R, e1, fun H1 ι1 g1 R1 => by show (if false = true then _ else _); rw [if_neg Bool.false_ne_true]; exact ⟨ι1, env, s1, r, s', g1.env R hE, R1, e, q.go R1 g1⟩⟩
theorem ps_whlD (G : Gd X) {c : Expr} {fuel : Nat} (hc : PT X c (tET X rc)) (hb : PSs X sts (tSD X r1)) : PS X (.While c sts [] pos) (tSD X fun env s => whlL rc r1 fuel env s) := by
  refine (ps_while (by rw [G.xe]; exact PassesOwn.never) hc hb).weak fun D σ H h => ?_
  obtain ⟨ι, env, s, r, s', hE, R, e, q⟩ := h
  refine ⟨fun m σ2 H2 => ∃ ι2 env2 s2, Go ι ι2 H H2 ∧ RepE X.K ι2 H2 env2 σ2 ∧ Rep X.prog X.w X.K ι2 H2 s2 ∧ whlL rc r1 m env2 s2 = some (r, s'), ⟨fuel, ι, env, s, Go.refl, hE, R, e⟩, ?_⟩
  rintro m σ2 H2 ⟨ι2, env2, s2, g2, hE2, R2, e2⟩
  cases m with
  | zero => simp [whlL] at e2
  | succ m =>
    rw [whlL] at e2
    obtain ⟨x, s3, e3, e2⟩ := bnd_eq_some.mp e2
    have hx : (x = .bl true) ∨ (x = .bl false) := by
      split at e2
      · exact .inl rfl
      · exact .inr rfl
      · cases e2
    rcases hx with rfl | rfl
    · refine ⟨ι2, env2, s2, true, s3, hE2, R2, e3, fun H3 ι3 g3 R3 => ?_⟩
      show (if true = true then _ else _)
      rw [if_pos rfl]
      simp only at e2
      obtain ⟨⟨f, env4⟩, s4, e4, e2⟩ := bnd_eq_some.mp e2
      refine ⟨fun σ5 H5 => ∃ ι5 env5 s5, Go ι ι5 H H5 ∧ RepE X.K ι5 H5 env5 σ5 ∧ Rep X.prog X.w X.K ι5 H5 s5 ∧ whlL rc r1 m env5 s5 = some (r, s'), fun σ' H' h' => ⟨m, Nat.lt_succ_self m, h'⟩, ?_⟩
      have g23 := g2.trans R2 g3
      refine ⟨ι3, env2, s3, (f, env4), s4, g3.env R2 hE2, R3, e4, ?_⟩
      cases f with
      | nx => exact fun σ5 H5 ι5 g5 R5 hE5 => ⟨ι5, env4, s4, g23.trans R3 g5, hE5, R5, e2⟩
      | ct => exact fun σ5 H5 ι5 g5 R5 hE5 => ⟨ι5, env4, s4, g23.trans R3 g5, hE5, R5, e2⟩
      | bk => cases e2; exact fun σ5 H5 ι5 g5 R5 hE5 => q σ5 H5 ι5 (g23.trans R3 g5) R5 hE5
      | rt d => cases e2; exact fun v H5 ι5 g5 R5 rd => q v H5 ι5 (g23.trans R3 g5) R5 rd
    · refine ⟨ι2, env2, s2, false, s3, hE2, R2, e3, fun H3 ι3 g3 R3 => ?_⟩
      show (if false = true then _ else _)
      rw [if_neg Bool.false_ne_true]
      simp only at e2
      cases e2
      exact q σ2 H3 ι3 (g2.trans R2 g3) R3 (g3.env R2 hE2)
abbrev forR (ri : Env → Sto → Option (Src × Sto)) (t : T) (body : Env → Sto → Option ((Fl × Env) × Sto)) : Env → Sto → Option ((Fl × Env) × Sto) := fun env s => bnd (ri env s) fun g s => bnd (forL body t g g.items env (lockS g s)) fun r s1 => some (r, unlockS g s s1)
theorem for_weak {σ : L2.St} {H : Hp} {D : Ends} (h : tSD X (forR ri t r1) D σ H) : tFor (iD X ri) (gD X t) (tSD X r1) (opnE X D) σ H := by
  obtain ⟨ι, env, s, r, s', hE, R, e, q⟩ := h
  obtain ⟨g, s1, e1, e⟩ := bnd_eq_some.mp e
  obtain ⟨rF, sF, e2, e⟩ := bnd_eq_some.mp e
  simp only [Option.some.injEq, Prod.mk.injEq] at e
  obtain ⟨rfl, rfl⟩ := e
  refine ⟨ι, env, s, g, s1, hE, R, e1, fun J H1 ι1 g1 R1 lk io => ?_⟩
  -- an end of the loop
  have fin : ∀ {ι5 : List Addr} {H5 : Hp}, Go ι1 ι5 H1 H5 → Rep X.prog X.w X.K ι5 H5 sF → RetS X ι5 H5 (opnE X D) rF sF := fun {ι5 H5} g5 R5 => by
    obtain ⟨f, envF⟩ := rF
    cases f with
    | nx => exact fun σ6 H6 ι6 g6 R6 hE6 => opn_of R1 lk (g1.trans R1 (g5.trans R5 g6)) (g5.trans R5 g6) R6 fun H' g' st R' _ => q σ6 H' ι6 g' R' ⟨hE6.len, fun i d e => let ⟨v, e', rd⟩ := hE6.slot i d e; ⟨v, e', rd.mono st fun _ _ e => e⟩⟩
    | bk => exact fun σ6 H6 ι6 g6 R6 hE6 => opn_of R1 lk (g1.trans R1 (g5.trans R5 g6)) (g5.trans R5 g6) R6 fun H' g' st R' _ => q σ6 H' ι6 g' R' ⟨hE6.len, fun i d e => let ⟨v, e', rd⟩ := hE6.slot i d e; ⟨v, e', rd.mono st fun _ _ e => e⟩⟩
    | ct => exact fun σ6 H6 ι6 g6 R6 hE6 => opn_of R1 lk (g1.trans R1 (g5.trans R5 g6)) (g5.trans R5 g6) R6 fun H' g' st R' _ => q σ6 H' ι6 g' R' ⟨hE6.len, fun i d e => let ⟨v, e', rd⟩ := hE6.slot i d e; ⟨v, e', rd.mono st fun _ _ e => e⟩⟩
    | rt d => exact fun v H6 ι6 g6 R6 rd => opn_of R1 lk (g1.trans R1 (g5.trans R5 g6)) (g5.trans R5 g6) R6 fun H' g' st R' _ => q v H' ι6 g' R' (rd.mono st fun _ _ e => e)
  refine ⟨fun i m σ2 H2 => m = g.items.length - i ∧ ∃ ι2 env2 s2, Go ι1 ι2 H1 H2 ∧ RepE X.K ι2 H2 env2 σ2 ∧ Rep X.prog X.w X.K ι2 H2 s2 ∧ forL r1 t g (g.items.drop i) env2 s2 = some (rF, sF),
    ⟨g.items.length, by simp, ι1, env, lockS g s1, Go.refl, g1.env R hE, R1, by simpa using e2⟩, ?_⟩
  rintro i m σ2 H2 ⟨rfl, ι2, env2, s2, g2, hE2, R2, ec⟩
  by_cases hi : i < g.items.length
  · have hd : g.items[i]? = some g.items[i] := List.getElem?_eq_getElem hi
    rw [List.drop_eq_getElem_cons hi, forL] at ec
    split at ec
    rotate_left
    · cases ec
    rename_i hok
    simp only [Option.bind_eq_some_iff] at ec
    obtain ⟨env3, e3, ec⟩ := ec
    obtain ⟨⟨f, env4⟩, s4, e4, ec⟩ := bnd_eq_some.mp ec
    obtain ⟨st1, st2⟩ := io.step ι2 H2 s2 g2 R2 hok i
    obtain ⟨go1, yl⟩ := st1 _ hd
    refine .inr ⟨go1, fun σ3 H3 => ∃ ι3 env3 s3, Go ι1 ι3 H1 H3 ∧ RepE X.K ι3 H3 env3 σ3 ∧ Rep X.prog X.w X.K ι3 H3 s3 ∧ forL r1 t g (g.items.drop (i + 1)) env3 s3 = some (rF, sF),
      fun σ3 H3 h3 => ⟨g.items.length - (i + 1), by omega, rfl, h3⟩, fun x H3 y => ?_⟩
    obtain ⟨g3, R3, rx⟩ := yl x H3 y
    refine ⟨ι2, env2, s2, _, env3, g3.env R2 hE2, R3, rx, e3, fun σ3 hE3 _ _ => ?_⟩
    have g23 := g2.trans R2 g3
    refine ⟨ι2, env3, s2, (f, env4), s4, hE3, R3, e4, ?_⟩
    cases f with
    | nx => exact fun σ5 H5 ι5 g5 R5 hE5 => ⟨ι5, env4, s4, g23.trans R3 g5, hE5, R5, ec⟩
    | ct => exact fun σ5 H5 ι5 g5 R5 hE5 => ⟨ι5, env4, s4, g23.trans R3 g5, hE5, R5, ec⟩
    | bk =>
      simp only [Option.some.injEq, Prod.mk.injEq] at ec
      obtain ⟨rfl, rfl⟩ := ec
      exact fun σ5 H5 ι5 g5 R5 hE5 => fin (g23.trans R3 g5) R5 σ5 H5 ι5 Go.refl R5 hE5
    | rt d =>
      simp only [Option.some.injEq, Prod.mk.injEq] at ec
      obtain ⟨rfl, rfl⟩ := ec
      exact fun v H5 ι5 g5 R5 rd => fin (g23.trans R3 g5) R5 v H5 ι5 Go.refl R5 rd
  · rw [List.drop_eq_nil_of_le (by omega), forL] at ec
    split at ec
    rotate_left
    · cases ec
    rename_i hok
    simp only [Option.some.injEq, Prod.mk.injEq] at ec
    obtain ⟨rfl, rfl⟩ := ec
    obtain ⟨st1, st2⟩ := io.step ι2 H2 s2 g2 R2 hok i
    exact .inl ⟨st2 (by omega), fin g2 R2 σ2 H2 ι2 Go.refl R2 hE2⟩
theorem ps_forD (G : Gd X) (hi : PI X tg iter (iD X ri)) (hg : PG X tg (gD X t)) (hb : PSs X sts (tSD X r1)) (hs : ∀ es k p, iter ≠ .Set es k p) : PS X (.For tg iter sts [] pos) (tSD X (forR ri t r1)) :=
  ⟨fun pins s σ H D I h => thn ((ps_for (by rw [G.xe]; exact PassesOwn.never) G.calm hi hg hb (folded_not hs)).run pins s σ H (opnE X D) I (for_weak h)) fun f s' h => opn_sp h⟩
end
end Ev
end

section
set_option autoImplicit false
set_option maxRecDepth 100000
set_option linter.unusedVariables false
/-! Ev19: dict displays -/
namespace Ev
open PySem L2 PySem.SeqAt PyProof.Rows PySem.Calls

section
variable {X : Cx} {pins : List (Addr × Obj)} {σ : L2.St} {H : Hp} {sh : Shared} {ι : List Addr} {s : Sto}
theorem dDictSet {E : Value → Shared → Prop} {Q : Unit → Shared → Prop} (hu : X.A.units + 200 < cLine) (I : Inv X pins σ H sh) {a : Addr} {u : HO} {kvs : List (D × D)} (hH : H a = some u) (h : DctAt X.prog X.w X.K ι H kvs a u) {k : D} (hf : keyFits kvs k = true) (hl : kvs.length < sizeLine)
    {vk : V} {uk : Value} (rk : RD X.K ι H k vk) (ru : RelV vk uk) {x : D} {vx : V} {ux : Value} (rx : RD X.K ι H x vx) (rux : RelV vx ux)
    (q : ∀ s' u', Inv X pins σ (upd H a u') s' → DctAt X.prog X.w X.K ι (upd H a u') (dput kvs k x) a u' → Q () s') : wpAny (model X.prog X.w) X.A (dictSet a uk ux) Q E sh := by
  obtain ⟨n1, n2, n3, mu⟩ := h.notTup
  have hT : ∀ u', Stay X.K H (upd H a u') := fun u' => stay_set hH n1 (fun q' vs' e => n2 _ _ e) (fun q' vs' e => n2 _ _ e)
  rcases keyFits_cases hf with ⟨kk, rfl, hk⟩ | ⟨ds, ks, rfl, hnk, hdp, hk⟩
  · obtain ⟨kv', vs, hp, rel, dd, hs, hlen⟩ := dictA I (.inl hH) h hk
    have := RD_dK rk; subst this
    have e1 := Paired.length hp
    have e2 := rel.length
    refine wpAny_dictSet_pairs (hsz := by omega) (kV_is ru) dd fun h' dd' hb => ?_
    have hp' : Paired (atomKV X.K ι (upd H a (.dK (putK kv' kk vx)))) (dput kvs (dK kk) x) (putK kv' kk vx) :=
      Paired.mapP (atom_put rx hp) fun p z ⟨h1, h2⟩ => ⟨h1, h2.mono (hT _) fun _ _ e => e⟩
    have hpl := length_putK kv' kk vx
    refine q _ (.dK (putK kv' kk vx)) (d_write I (by rw [hH]; exact mu) hb (let ⟨z, _, _, hz, _⟩ := dd'; ⟨z, hz⟩) ⟨by omega, hs, _, rel.put kk rux, dd'⟩) (.inl ⟨_, rfl, hp'⟩)
  · obtain ⟨xs, hp, dd, hs, hlen⟩ := dictN I (.inl hH) h hk
    have rk' := rk
    rw [RD] at rk'
    obtain ⟨b, ws, rfl, _, _⟩ := rk'
    cases ru
    have e1 := Paired.length hp
    have hroom : (nestedKind X.prog X.w).room X.A := by
      show X.A.units + 8 < cLine
      omega
    refine wpAny_dictSet_heap (hsz := hlen) hroom ⟨nestIs I rk rfl hnk, hdp⟩ dd fun h' dd' hb => ?_
    have hp0 : Paired (nestKV X.K ι H) (dput kvs (.tup ds) x) (storedH xs (.tup ks) b ux) := nest_put hnk hdp rk rux rx hp
    have hp' : Paired (nestKV X.K ι (upd H a (ndHO X.prog X.w a (storedH xs (.tup ks) b ux)))) (dput kvs (.tup ds) x) (storedH xs (.tup ks) b ux) :=
      Paired.mapP hp0 fun p z ⟨h1, h2, h3, v, h4, h5⟩ => ⟨h1, h2, h3.mono (hT _) (fun _ _ e => e), v, h4, h5.mono (hT _) fun _ _ e => e⟩
    obtain ⟨o, es, ep, ho, hc, hda, hes, _, hn⟩ := dd'
    have e3 := Paired.length hp0
    refine q _ (ndHO X.prog X.w a (storedH xs (.tup ks) b ux)) (d_write I (by rw [hH]; exact mu) hb ⟨o, ho⟩ (ndOk ⟨hs, o, es, ep, ho, hc, hda, hes⟩)) (.inr ⟨_, rfl, by
      have : (dput kvs (.tup ds) x).length ≤ kvs.length + 1 := by unfold dput; split <;> simp
      omega, hn, hp'⟩)
def flatV2 : List (V × V) → List V
  | [] => []
  | p :: r => p.1 :: p.2 :: flatV2 r
theorem stay_side {K : PySem.W.Frag} {H H' : Hp} {p : Addr} {u : HO} (hp : H p = some u) (n1 : ∀ vs, u ≠ .tup vs) (n2 : ∀ o v, u ≠ .frz o v) (same : ∀ a, a ≠ p → H' a = H a) : Stay K H H' := ⟨fun a vs q => by
  rcases q with (q | ⟨o, q⟩) | q
  · exact .inl (.inl (by rw [same a fun e => by subst e; rw [hp] at q; cases q; exact n1 _ rfl]; exact q))
  · exact .inl (.inr ⟨o, by rw [same a fun e => by subst e; rw [hp] at q; cases q; exact n2 _ _ rfl]; exact q⟩)
  · exact .inr q, fun a vs q => by
  rcases q with ⟨o, q⟩ | q
  · exact .inl ⟨o, by rw [same a fun e => by subst e; rw [hp] at q; cases q; exact n2 _ _ rfl]; exact q⟩
  · exact .inr q⟩
theorem storeLoop (hu : X.A.units + 200 < cLine) {E : Value → Shared → Prop} {p : Addr} {kvs : List (D × D)} : ∀ (ws : List (Value × Value)) (ps : List (V × V)) (ds : List D) (acc : List (D × D)) (H : Hp) (sh : Shared) (u : HO) (Q : PUnit → Shared → Prop), VV ps ws → RDs X.K ι H ds (flatV2 ps) → pairUp acc ds = some kvs →
    Inv X pins σ H sh → H p = some u → DctAt X.prog X.w X.K ι H acc p u → (∀ sh' H' u', Inv X pins σ H' sh' → H' p = some u' → DctAt X.prog X.w X.K ι H' kvs p u' → (∀ a, a ≠ p → H' a = H a) → Q PUnit.unit sh') →
    wpAny (model X.prog X.w) X.A (forIn ws PUnit.unit fun (x : Value × Value) (_ : PUnit) => (do dictSet p x.1 x.2; pure (ForInStep.yield PUnit.unit) : Sem (ForInStep PUnit))) Q E sh
  | _, _, ds, acc, H, sh, u, Q, .nil, rd, e, I, hp, hd, q => by
    have rd : RDs X.K ι H ds [] := rd
    have hds : ds = [] := List.length_eq_zero_iff.mp rd.length.symm
    subst hds
    simp only [pairUp, Option.some.injEq] at e
    subst e
    rw [List.forIn_nil]
    exact wpAny_pure (q sh H u I hp hd fun _ _ => rfl)
  | _, _, ds, acc, H, sh, u, Q, .cons (a := p1) (b := w1) (l₁ := ps) (l₂ := ws) ⟨r1, r2⟩ t, rd, e, I, hp, hd, q => by
    have rd : RDs X.K ι H ds (p1.1 :: p1.2 :: flatV2 ps) := rd
    rcases ds with _ | ⟨k, _ | ⟨v, ds⟩⟩
    · exact absurd rd.length (by simp)
    · exact absurd rd.length (by simp)
    · rw [RDs_cons, RDs_cons] at rd
      obtain ⟨rk, rv, rd⟩ := rd
      simp only [pairUp] at e
      split at e
      rotate_left
      · cases e
      rename_i hc
      simp only [Bool.and_eq_true, decide_eq_true_eq] at hc
      obtain ⟨n1, n2, n3, mu⟩ := hd.notTup
      rw [List.forIn_cons]
      refine wpAny_bind (wpAny_bind (dDictSet hu I hp hd hc.1 (by rw [sizeLine_eq]; omega) rk r1 rv r2 fun s' u' I' hd' => wpAny_pure ?_))
      have st : Stay X.K H (upd H p u') := stay_set hp n1 (fun _ _ => n2 _ _) (fun _ _ => n2 _ _)
      refine storeLoop hu ws ps ds _ _ s' u' Q t (rd.mono st fun _ _ e => e) e I' upd_same hd' fun sh' H' u'' I'' hp'' hd'' same => q sh' H' u'' I'' hp'' hd'' fun a ha => (same a ha).trans (upd_ne ha)
end

/-- the pairs of a display, flat -/
structure PPf (X : Cx) (pos : Pos) (keys : List (Option Expr)) (values : List Expr) (t : TA) : Prop where
  run : ∀ (pins : List (Addr × Obj)) (s : Shared) (σ : L2.St) (H : Hp) (Q : List V → Hp → Prop), Inv X pins σ H s → t σ H Q →
    wpAny (model X.prog X.w) X.A (evalPairs (pairTrees keys values X.env pos)) (fun ws s' => ∃ ps H', Inv X pins σ H' s' ∧ VV ps ws ∧ Q (flatV2 ps) H') X.xe s
section
variable {X : Cx} {pos : Pos} {k v : Expr} {ks : List (Option Expr)} {vs : List Expr} {rk rv : Env → Sto → Option (D × Sto)} {rs : Env → Sto → Option (List D × Sto)}
theorem ppf_nil : PPf X pos [] [] (tEs X fun _ s => some ([], s)) := ⟨fun pins sh σ H Q I h => by
  obtain ⟨ι, env, s, d, s', hE, R, e, q⟩ := h
  cases e
  exact pairTrees_nil_walk ⟨[], H, I, .nil, q [] H ι Go.refl R (by rw [RDs])⟩⟩
theorem ppf_cons (hk : PE X k (tE X rk)) (hv : PE X v (tE X rv)) (hr : PPf X pos ks vs (tEs X rs)) :
    PPf X pos (some k :: ks) (v :: vs) (tEs X fun env s => bnd (rk env s) fun x s => bnd (rv env s) fun y s => bnd (rs env s) fun l s => some (x :: y :: l, s)) := ⟨fun pins sh σ H Q I h => by
  obtain ⟨ι, env, s, ds, s', hE, R, e, q⟩ := h
  obtain ⟨x, s1, e1, e⟩ := bnd_eq_some.mp e
  obtain ⟨y, s2, e2, e⟩ := bnd_eq_some.mp e
  obtain ⟨l, s3, e3, e⟩ := bnd_eq_some.mp e
  simp only [Option.some.injEq, Prod.mk.injEq] at e
  obtain ⟨rfl, rfl⟩ := e
  refine pairTrees_cons_walk (thn (hk.run pins sh σ H _ I (got_of hE R e1)) fun u sh1 ⟨vx, H1, I1, rx, ι1, g1, R1, rdx⟩ => ?_)
  refine thn (hv.run pins sh1 σ H1 _ I1 (got_of (g1.env R hE) R1 e2)) fun u2 sh2 ⟨vy, H2, I2, ry, ι2, g2, R2, rdy⟩ => ?_
  refine thn (hr.run pins sh2 σ H2 (fun l H' => Q (vx :: vy :: l) H') I2 ⟨ι2, env, s2, l, s3, g2.env R1 (g1.env R hE), R2, e3, fun vs' H' ι' g' R' rd' => ?_⟩) fun ws sh3 ⟨ps, H3, I3, rel, q3⟩ => ⟨(vx, vy) :: ps, H3, I3, .cons ⟨rx, ry⟩ rel, q3⟩
  exact q _ H' ι' ((g1.trans R1 g2).trans R2 g') R' (by rw [RDs_cons, RDs_cons]; exact ⟨g'.rd R2 (g2.rd R1 rdx), g'.rd R2 rdy, rd'⟩)⟩
theorem dctAt_nil {P : Program} {w : World} {K : PySem.W.Frag} {ι : List Addr} {H : Hp} {p : Addr} : DctAt P w K ι H [] p (.dK []) := .inl ⟨[], rfl, .nil⟩
theorem pe_dct0D : PE X (.Dict [] [] pos) (tE X fun env s => some (.ref s.length, s ++ [.dct []])) := ⟨fun pins sh σ H Q I h => by
  obtain ⟨ι, env, s, d, s', hE, R, e, q⟩ := h
  simp only [Option.some.injEq, Prod.mk.injEq] at e
  obtain ⟨rfl, rfl⟩ := e
  have hn := I.hok.fresh (Nat.le_refl sh.heap.objs.size)
  refine wpAny_Dict_empty ⟨.ref sh.heap.objs.size, _, I.laid (a := sh.heap.objs.size) (o := .dK []) (t' := sh.toks) (fun _ _ q => Heap.get?_push_of_some _ q) (Nat.le_refl _) (dk_empty sh.heap I.big), rfl, ?_⟩
  refine q _ _ (ι ++ [sh.heap.objs.size]) (Go.push hn) (R.push hn ⟨.dK [], upd_same, dctAt_nil⟩) ?_
  rw [RD]
  exact ⟨_, rfl, by rw [List.getElem?_append_right (by rw [R.len]; omega), R.len]; simp⟩⟩
theorem pe_dctD (G : Gd X) (hp : PPf X pos ks vs (tEs X rs)) (hall : ks.all (·.isSome) = true) (hl : ks.length = vs.length) (h0 : ks ≠ []) (h15 : ks.length ≤ 15) :
    PE X (.Dict ks vs pos) (tE X fun env s => bnd (rs env s) fun ds s => (pairUp [] ds).map fun kvs => (.ref s.length, s ++ [.dct kvs])) := ⟨fun pins sh σ H Q I h => by
  obtain ⟨ι, env, s, d, s', hE, R, e, q⟩ := h
  obtain ⟨ds, s1, e1, e⟩ := bnd_eq_some.mp e
  simp only [Option.map_eq_some_iff, Prod.mk.injEq] at e
  obtain ⟨kvs, e2, rfl, rfl⟩ := e
  have hn := I.hok.fresh (Nat.le_refl sh.heap.objs.size)
  have I1 := I.laid (a := sh.heap.objs.size) (o := .dK []) (h' := sh.heap.push { cls := .type "dict", data := .dict #[] }) (t' := sh.toks) (fun _ _ q => Heap.get?_push_of_some _ q) (Nat.le_refl _) (dk_empty sh.heap I.big)
  generalize hpa : sh.heap.objs.size = p at *
  have hnp := pairTrees_length ks vs X.env pos hall hl
  have h0' : pairTrees ks vs X.env pos ≠ [] := fun z => by
    rw [z] at hnp
    exact h0 (List.length_eq_zero_iff.mp hnp.symm)
  rw [arm_eval_Dict, zip_pairTrees ks vs X.env pos hall hl, dictDisplay_pairs _ h0' (by omega)]
  refine wpAny_bind (wpAny_standAt (wpAny_bind ?_))
  unfold subDict
  refine wpAny_bind (wpAny_alloc ?_)
  rw [hpa]
  refine wpAny_bind (wpAny_holding ?_)
  rw [if_pos (by omega)]
  have gn : Go ι ι H (upd H p (.dK [])) := Go.new hn
  have pι : p ∉ ι := R.notNone hn
  refine wpAny_bind (thn (hp.run pins _ σ _ (fun vs H' => ∃ ι', Go ι ι' (upd H p (.dK [])) H' ∧ Rep X.prog X.w X.K ι' H' s1 ∧ RDs X.K ι' H' ds vs) I1 ⟨ι, env, s, ds, s1, gn.env R hE, R.new hn, e1, fun vs' H' ι' g' R' rd' => ⟨ι', g', R', rd'⟩⟩) fun ws sh2 ⟨ps, H2, I2, rel, ι2, g2, R2, rd⟩ => ?_)
  refine wpAny_holding (wpAny_bind ?_)
  have hA : H2 p = some (.dK []) := g2.keep p _ upd_same pι
  have pι2 : p ∉ ι2 := fun z => by
    obtain ⟨new, e, hnew⟩ := g2.pre
    rw [e] at z
    rcases List.mem_append.mp z with z | z
    · exact pι z
    · have := hnew p z
      rw [upd_same] at this; cases this
  refine storeLoop (ι := ι2) G.units ws ps ds [] H2 sh2 (.dK []) _ rel rd e2 I2 hA dctAt_nil fun sh3 H3 u3 I3 hp3 hd3 same => ?_
  refine wpAny_pure (wpAny_pure (wpAny_pure ⟨.ref p, H3, I3, rfl, ?_⟩))
  have st : Stay X.K H2 H3 := stay_side hA (fun _ z => nomatch z) (fun _ _ z => nomatch z) same
  have hix : ∀ (i : Nat) (a : Addr), ι2[i]? = some a → (ι2 ++ [p])[i]? = some a := fun i a e => by
    rw [List.getElem?_append_left (List.getElem?_eq_some_iff.mp e).1]; exact e
  refine q _ H3 (ι2 ++ [p]) ⟨?_, fun a o e na => ?_, fun a o u e => ?_⟩ ⟨by simp [R2.len], List.nodup_append.mpr ⟨R2.nd, by simp, fun a ha b hb => ?_⟩, fun j c a e e' => ?_⟩ ?_
  · obtain ⟨new, e, hnew⟩ := g2.pre
    refine ⟨new ++ [p], by rw [e, List.append_assoc], fun a ha => ?_⟩
    rcases List.mem_append.mp ha with ha | ha
    · have := hnew a ha
      have hne : a ≠ p := fun z => by subst z; rw [upd_same] at this; cases this
      rw [upd_ne hne] at this
      exact this
    · rw [List.mem_singleton] at ha; subst ha; exact hn
  · have hne := ne_of_none e hn
    rw [same a hne]
    exact g2.keep a o (by rw [upd_ne hne]; exact e) na
  · have hne := ne_of_none e hn
    rw [same a hne]
    exact g2.frz a o u (by rw [upd_ne hne]; exact e)
  · rw [List.mem_singleton] at hb; subst hb; intro z; exact pι2 (z ▸ ha)
  · by_cases hj : j < s1.length
    · rw [List.getElem?_append_left hj] at e
      rw [List.getElem?_append_left (by rw [R2.len]; exact hj)] at e'
      exact (R2.cell j c a e e').mono st hix (same a fun z => pι2 (z ▸ List.mem_of_getElem? e'))
    · rw [List.getElem?_append_right (by omega)] at e
      rw [List.getElem?_append_right (by rw [R2.len]; omega)] at e'
      have h1 : j - s1.length = 0 := by
        have := (List.getElem?_eq_some_iff.mp e).1
        simp at this
        omega
      have h2 : j - ι2.length = 0 := by rw [R2.len]; exact h1
      rw [h1] at e; rw [h2] at e'
      simp at e e'
      subst e e'
      exact ⟨u3, hp3, hd3.mono ⟨fun _ _ e => e, fun _ _ e => e⟩ hix⟩
  · rw [RD]
    exact ⟨p, rfl, by rw [List.getElem?_append_right (by rw [R2.len]; omega), R2.len]; simp⟩⟩
end
end Ev
end

section
set_option autoImplicit false
set_option maxRecDepth 100000
set_option linter.unusedVariables false
/-! Ev20: calls of defs; the compiler's facts about a context -/
namespace Ev
open PySem L2 PySem.SeqAt PyProof.Rows PySem.Calls

/-- a def's promise: sp, called with values, under no guard -/
def FnG (P : Program) (w : World) (K : PySem.W.Frag) (mg : Str → Option Value) (base : Heap) (n : Nat) (f : Addr) (sp : List V → Hp → VK → Prop) : Prop :=
  ∀ (A : Around) (outer : List PySem.Env) (s : Shared) (H : Hp) (us : List Value) (vs : List V) (Q : VK), Room n A → A.guards = some [] → Env0 P w K mg base A outer s H → Vals vs us → sp vs H Q →
    codeAny (model P w) A (.call (.ref f) ⟨us, []⟩) (CR (fun _ _ _ _ _ _ => False) outer P w H s Q (fun _ _ _ => False)) s

section
variable {X : Cx}
theorem callR_fn {n : Nat} {f : Addr} {sp : List V → Hp → VK → Prop} (G : Gd X) (hr : Room n X.A) (F : FnG X.prog X.w X.K X.mg X.base n f sp) : CallR X (.ref f) sp := by
  intro pins s σ H xs us Q I r h
  refine wpAny_call (codeAny_mono (F X.A X.stack s H us xs Q hr G.guards I.env0 r h) fun r s' hq => ?_)
  cases r with
  | error e => exact hq.elim
  | ok fl =>
    cases fl with
    | ret u => exact I.after hq
    | next => exact False.elim hq
    | brk => exact False.elim hq
    | cont => exact False.elim hq
theorem pe_callG {f : Addr} {r : List V → Hp → VK → Prop} {x : Str} {p pos : Pos} {e : Expr} {es : List Expr} {t : TA} (hc : CallR X (.ref f) r) (hg : Gl X x) (hm : X.mg x = some (.ref f)) (hk : PySem.W.keepIn X.K (.ref f) = true)
    (ha : PA X (e :: es) t) (hdb : (x == ("__debug__" : Str)) = false) (he : starEach (e :: es) X.env = (false, eval e X.env) :: starEach es X.env) (hpl : (backTo pos (starEach es X.env)).any (·.1) = false) :
    PE X (.Call (.Name x p) (e :: es) [] pos) (tCB r t) := by
  refine ⟨fun pins s σ H Q I h => ?_⟩
  refine wpAny_Call_Name_kw (ld_glob I hg hm ?_ hdb)
  exact PySem.W.callWith_K (h₀ := X.base) I.ok.mod.kin hk (thn (ha.run pos pins s σ H _ I h) fun us s1 ⟨vs, H1, I1, r, q⟩ => ⟨I1.kIn, hc pins s1 σ H1 vs us Q I1 r q⟩) he hpl
theorem pe_callG0 {f : Addr} {r : List V → Hp → VK → Prop} {x : Str} {p pos : Pos} (hc : CallR X (.ref f) r) (hg : Gl X x) (hm : X.mg x = some (.ref f)) (hk : PySem.W.keepIn X.K (.ref f) = true)
    (hdb : (x == ("__debug__" : Str)) = false) : PE X (.Call (.Name x p) [] [] pos) (tCB r tNil) := by
  refine ⟨fun pins s σ H Q I h => ?_⟩
  refine wpAny_Call_Name_kw (ld_glob I hg hm ?_ hdb)
  exact PySem.W.callWith_K0 I.kIn hk (hc pins s σ H [] [] Q I .nil h)
end

/-- the built-ins that the compiler knows -/
def bltns : List Str := ["len", "int", "abs", "tuple", "list", "sorted", "sum", "all", "any", "max", "min", "repr", "range"]
/-- the context is as the compiler takes it -/
structure Sim (cl : Str → List D → Sto → Option (D × Sto)) (gl : Str → Option D) (k : Cc) (sc : Scope) (X : Cx) : Prop where
  sc : X.env.scope = sc
  N : X.N = k.N
  gd : Gd X
  fn : k.top = true → ∀ x, X.fn x = true
  nob : ∀ x ∈ bltns, X.mg x = none
  calls : ∃ n, Room n X.A ∧ ∀ f, k.own f = true → ∃ fa, X.mg f = some (.ref fa) ∧ PySem.W.keepIn X.K (.ref fa) = true ∧ FnG X.prog X.w X.K X.mg X.base n fa (rCal X.prog X.w X.K (cl f))
  gls : ∀ x, k.gls x = true → ∀ d, gl x = some d → ∃ u v, X.mg x = some u ∧ RelV v u ∧ ∀ ι H, RD X.K ι H d v
section
variable {cl : Str → List D → Sto → Option (D × Sto)} {gl : Str → Option D} {k : Cc} {sc : Scope} {X : Cx}
theorem Sim.blk (S : Sim cl gl k sc X) (s : Shared) (H : Hp) (scope : Scope) (C : Addr) (l : List (Str × Addr)) (fp : List Addr) : Sim cl gl { k with top := false } (L2.relS scope sc) (X.blk s H scope (compEnvC scope l C X.env) fp) := by
  refine ⟨?_, S.N, ⟨S.gd.calm, S.gd.units, S.gd.guards, S.gd.nd, rfl⟩, fun z => (nomatch z), S.nob, S.calls, S.gls⟩
  have := S.sc
  subst this
  rfl
theorem slotOf_ok {x : Str} {i : Nat} (S : Sim cl gl k sc X) (h : slotOf k x = some i) : X.N[i]? = some x := by
  unfold slotOf at h
  rw [List.findIdx?_eq_some_iff_getElem] at h
  obtain ⟨hi, h1, _⟩ := h
  rw [S.N, List.getElem?_eq_getElem hi]
  simpa using h1
theorem varOf_ok {x : Str} {i : Nat} (S : Sim cl gl k sc X) (h : varOf k sc x = some i) : X.N[i]? = some x ∧ Vis X.env.scope x := by
  unfold varOf at h
  rw [S.sc]
  unfold Vis
  split at h
  · rename_i e; exact ⟨slotOf_ok S h, .inl e⟩
  · rename_i e; exact ⟨slotOf_ok S h, .inr (.inl e)⟩
  · rename_i e; exact ⟨slotOf_ok S h, .inr (.inr e)⟩
  · cases h
theorem isGl_ok {x : Str} (S : Sim cl gl k sc X) (h : isGl sc x = true) : Gl X x ∧ (x == ("__debug__" : Str)) = false := by
  unfold isGl at h
  split at h
  · rename_i e
    refine ⟨?_, by simpa using h⟩
    show X.env.scope.names.lookup x = _
    rw [S.sc]
    exact e
  · cases h
theorem okName_ok {x : Str} (h : okName x = true) : (x == ("__debug__" : Str)) = false ∧ (x == ("__classdict__" : Str)) = false := by
  unfold okName at h
  simpa using h
/-! ### a call of a built-in -/
def bVal : B → Value
  | .len => .builtin "len" | .int => .type "int" | .abs => .builtin "abs" | .tuple => .type "tuple" | .list => .type "list" | .sorted => .builtin "sorted" | .sum => .builtin "sum" | .all => .builtin "all"
  | .any => .builtin "any" | .max => .builtin "max" | .min => .builtin "min" | .repr => .builtin "repr" | _ => .none
theorem bTab_ok : ∀ p ∈ bTab, p.1 ∈ bltns ∧ bootBuiltins p.1 = some (bVal p.2) ∧ p.1 ≠ "__name__" ∧ (p.1 == ("__debug__" : Str)) = false := by
  intro p hp
  simp only [bTab, List.mem_cons, List.not_mem_nil, or_false] at hp
  rcases hp with rfl | rfl | rfl | rfl | rfl | rfl | rfl | rfl | rfl | rfl | rfl | rfl <;> exact ⟨by decide +kernel, by kernel_rfl, by decide +kernel, by decide +kernel⟩
theorem bOf_ok {x : Str} {b : B} (h : bOf x = some b) : x ∈ bltns ∧ bootBuiltins x = some (bVal b) ∧ x ≠ "__name__" ∧ (x == ("__debug__" : Str)) = false :=
  bTab_ok (x, b) (PySem.mem_of_lookup h)
theorem mTab_ok : ∀ p ∈ mTab, Slot (mTy p.2) p.1 (mId p.2) ∧ typeOf (.builtin (mId p.2)) = pure (.type "method_descriptor") := by
  intro p hp
  simp only [mTab, List.mem_cons, List.not_mem_nil, or_false] at hp
  rcases hp with rfl | rfl | rfl | rfl
  · exact ⟨PySem.F.slot_list_append, PySem.F.type_list_append⟩
  · exact ⟨PySem.F.slot_list_extend, PySem.F.type_list_extend⟩
  · exact ⟨PySem.F.slot_list_pop, PySem.F.type_list_pop⟩
  · exact ⟨PySem.F.slot_dict_get, PySem.F.type_dict_get⟩
theorem mOf_ok {x : Str} {m : Mt} (h : mOf x = some m) : Slot (mTy m) x (mId m) ∧ typeOf (.builtin (mId m)) = pure (.type "method_descriptor") := mTab_ok (x, m) (PySem.mem_of_lookup h)
theorem pe_bifD (S : Sim cl gl k sc X) {x : Str} {b : B} (hb : bOf x = some b) (hg : Gl X x) {p pos : Pos} {e : Expr} {es : List Expr} {rs : Env → Sto → Option (List D × Sto)} (ha : PA X (e :: es) (tEs X rs)) (hst : ∀ y ∈ e :: es, ∀ z p, y ≠ Expr.Starred z p) :
    PE X (.Call (.Name x p) (e :: es) [] pos) (tE X fun env s => bnd (rs env s) fun ds s => bifD b ds s) := by
  obtain ⟨h1, h2, h3, h4⟩ := bOf_ok hb
  have hm := S.nob x h1
  have G := S.gd
  have s1 := star_plain (hst e (List.mem_cons_self ..)) es X.env
  have s2 := star_none pos (es := es) X.env fun y hy => hst y (List.mem_cons_of_mem _ hy)
  cases b with
  | len => exact (pe_callB (call_lenD G) hg hm h2 ha h3 h4 s1 s2).weak cb_weak
  | int => exact (pe_callTy (call_intD G) hg hm h2 ha h3 h4 s1 s2).weak cb_weak
  | abs => exact (pe_callB (call_absD G) hg hm h2 ha h3 h4 s1 s2).weak cb_weak
  | tuple => exact (pe_callTy (call_tupleD G) hg hm h2 ha h3 h4 s1 s2).weak cb_weak
  | list => exact (pe_callTy (call_listD G) hg hm h2 ha h3 h4 s1 s2).weak cb_weak
  | sorted => exact (pe_callB (call_sortedD G.calm G.units) hg hm h2 ha h3 h4 s1 s2).weak cb_weak
  | sum => exact (pe_callB (call_sumD G) hg hm h2 ha h3 h4 s1 s2).weak cb_weak
  | all => exact (pe_callB (call_allD G) hg hm h2 ha h3 h4 s1 s2).weak cb_weak
  | any => exact (pe_callB (call_anyD G) hg hm h2 ha h3 h4 s1 s2).weak cb_weak
  | max => exact (pe_callB (call_maxD G) hg hm h2 ha h3 h4 s1 s2).weak cb_weak
  | min => exact (pe_callB (call_minD G) hg hm h2 ha h3 h4 s1 s2).weak cb_weak
  | repr => exact (pe_callB (call_reprD G) hg hm h2 ha h3 h4 s1 s2).weak cb_weak
  | _ =>
    have := PySem.mem_of_lookup (show bTab.lookup x = some _ from hb)
    simp [bTab] at this
theorem pe_callD (S : Sim cl gl k sc X) {x : Str} (ho : k.own x = true) (hg : Gl X x) (hdb : (x == ("__debug__" : Str)) = false) {p pos : Pos} {es : List Expr} {rs : Env → Sto → Option (List D × Sto)} (ha : PA X es (tEs X rs)) (h0 : es = [] → rs = fun _ s => some ([], s)) (hst : ∀ y ∈ es, ∀ z p, y ≠ Expr.Starred z p) :
    PE X (.Call (.Name x p) es [] pos) (tE X fun env s => bnd (rs env s) fun ds s => cl x ds s) := by
  obtain ⟨n, hr, hf⟩ := S.calls
  obtain ⟨fa, hm, hk, F⟩ := hf x ho
  have hc := callR_fn S.gd hr F
  cases es with
  | nil =>
    refine (pe_callG0 hc hg hm hk hdb).weak fun σ H Q h => ?_
    rw [h0 rfl] at h
    obtain ⟨ι, env, s, d, s', hE, R, e, q⟩ := h
    exact ⟨ι, s, [], d, s', R, by rw [RDs], e, q⟩
  | cons e es =>
    exact (pe_callG hc hg hm hk ha hdb (star_plain (hst e (List.mem_cons_self ..)) es X.env) (star_none pos (es := es) X.env fun y hy => hst y (List.mem_cons_of_mem _ hy))).weak cb_weak
theorem base_plain {o : Expr} {name : Str} (h : isCall0 o = false) : attributeBase o name X.env (eval o X.env) = eval o X.env := by
  unfold attributeBase
  cases o with
  | Call f es kws p =>
    cases f with
    | Name x q =>
      cases es with
      | nil =>
        cases kws with
        | nil => simp [isCall0] at h
        | cons a l => rfl
      | cons a l => rfl
    | _ => rfl
  | _ => rfl
/-! ### loops -/
theorem pi_rangeD1 (S : Sim cl gl k sc X) {tg a : Expr} {ra : Env → Sto → Option (D × Sto)} {p pos : Pos} (hg : Gl X "range") (ha : PE X a (tE X ra)) (hp : ∀ z p, a ≠ Expr.Starred z p) : PI X tg (.Call (.Name "range" p) [a] [] pos) (iD X fun env s => bnd (ra env s) fun x s => match x with
    | .int hi => (srcRange 0 hi).map fun g => (g, s)
    | _ => none) := by
  have hm := S.nob "range" (by decide)
  refine ⟨fun pins sh σ H R I h => ?_⟩
  obtain ⟨ι, env, s, g, s', hE, RR, e, q⟩ := h
  obtain ⟨x, s1, e1, e2⟩ := bnd_eq_some.mp e
  split at e2
  rotate_left
  · cases e2
  rename_i hi
  simp only [Option.map_eq_some_iff, Prod.mk.injEq] at e2
  obtain ⟨g', e2, rfl, rfl⟩ := e2
  have hb := e2
  unfold srcRange at hb
  split at hb
  rotate_left
  · cases hb
  rename_i hc
  refine (pi_range1 hg hm (pa_consD ha pa_nilD hp) (star_plain hp [] X.env)).run pins sh σ H R I ⟨ι, env, s, [.int hi], s1, hE, RR, by simp [e1], fun vs H1 ι1 g1 R1 rd => ?_⟩
  rw [RDs] at rd
  obtain ⟨v, r, rfl, h1, h2⟩ := rd
  rw [RDs] at h2
  rw [RD] at h1
  subst h1 h2
  refine ⟨hi, rfl, hc.2.2.1, hc.2.2.2, ?_⟩
  have hl : g'.lock = none := by cases hb; rfl
  have io := itOk_range (P := X.prog) (w := X.w) (K := X.K) (ι1 := ι1) (H1 := H1) e2
  rw [Int.sub_zero] at io
  exact q _ H1 ι1 g1 (by rw [rep_lock_none hl]; exact R1) (fun _ z => by rw [hl] at z; cases z) io
theorem pi_rangeD2 (S : Sim cl gl k sc X) {tg a b : Expr} {ra rb : Env → Sto → Option (D × Sto)} {p pos : Pos} (hg : Gl X "range") (ha : PE X a (tE X ra)) (hb' : PE X b (tE X rb)) (hp : ∀ z p, a ≠ Expr.Starred z p) (hp' : ∀ z p, b ≠ Expr.Starred z p) :
    PI X tg (.Call (.Name "range" p) [a, b] [] pos) (iD X fun env s => bnd (ra env s) fun x s => bnd (rb env s) fun y s => match x, y with
    | .int lo, .int hi => (srcRange lo hi).map fun g => (g, s)
    | _, _ => none) := by
  have hm := S.nob "range" (by decide)
  refine ⟨fun pins sh σ H R I h => ?_⟩
  obtain ⟨ι, env, s, g, s', hE, RR, e, q⟩ := h
  obtain ⟨x, s1, e1, e2⟩ := bnd_eq_some.mp e
  obtain ⟨y, s2, e3, k2⟩ := bnd_eq_some.mp e2
  split at k2
  rotate_left
  · cases k2
  rename_i lo hi
  simp only [Option.map_eq_some_iff, Prod.mk.injEq] at k2
  obtain ⟨g', k2, rfl, rfl⟩ := k2
  have hb := k2
  unfold srcRange at hb
  split at hb
  rotate_left
  · cases hb
  rename_i hc
  refine (pi_range2 hg hm (pa_consD ha (pa_consD hb' pa_nilD hp') hp) (by rw [star_plain hp, star_plain hp']; rfl) (star_plain hp' [] X.env)).run pins sh σ H R I ⟨ι, env, s, [.int lo, .int hi], s2, hE, RR, by simp [e1, e3], fun vs H1 ι1 g1 R1 rd => ?_⟩
  rw [RDs] at rd
  obtain ⟨v, r, rfl, h1, h2⟩ := rd
  rw [RDs] at h2
  obtain ⟨v2, r2, rfl, h2, h3⟩ := h2
  rw [RDs] at h3
  rw [RD] at h1 h2
  subst h1 h2 h3
  refine ⟨lo, hi, rfl, hc, ?_⟩
  have hl : g'.lock = none := by cases hb; rfl
  exact q _ H1 ι1 g1 (by rw [rep_lock_none hl]; exact R1) (fun _ z => by rw [hl] at z; cases z) (itOk_range k2)
end
end Ev
end

section
set_option autoImplicit false
set_option maxRecDepth 100000
set_option linter.unusedVariables false
/-! Ev21: what the compiler makes of expressions runs as they do -/
namespace Ev
open PySem L2 PySem.SeqAt PyProof.Rows PySem.Calls

structure EOk (X : Cx) (e : Expr) (x : E) (run : Env → Sto → Option (D × Sto)) : Prop where
  pe : PE X e (tE X run)
  pt : PT X e (tET X run)
  pw : ∀ op es pos, e = .BoolOp op es pos → PW X e (tET X run)
  st : ∀ a p, e ≠ .Starred a p
  sl : ∀ lo hi s p, e ≠ .Slice lo hi s p
  se : ∀ es k p, e ≠ .Set es k p
  xs : x.isStar = false
structure LOk (cl : Str → List D → Sto → Option (D × Sto)) (gl : Str → Option D) (X : Cx) (elt tg it : Expr) (ifs : List Expr) (scope : Scope) (r : List Nat × T × Ev.It × E × Option E) : Prop where
  own : ∃ own : List (Str × Nat), r.1 = own.map (·.2) ∧ BlkOk X.N X.env.scope scope own
  sub : ∀ i ∈ r.2.1.slots, i ∈ r.1
  iter : PI X tg it (iD X (evI cl gl r.2.2.1))
  se : ∀ es k p, it ≠ Expr.Set es k p
  tgt : ∀ (s : Shared) (H : Hp) (C : Addr) (l : List (Str × Addr)) (fp : List Addr), PG (X.blk s H scope (compEnvC scope l C X.env) fp) tg (gD X r.2.1)
  elt : ∀ (s : Shared) (H : Hp) (C : Addr) (l : List (Str × Addr)) (fp : List Addr), PE (X.blk s H scope (compEnvC scope l C X.env) fp) elt (tE X (evE cl gl r.2.2.2.1))
  ifs : ∀ (s : Shared) (H : Hp) (C : Addr) (l : List (Str × Addr)) (fp : List Addr), PTs (X.blk s H scope (compEnvC scope l C X.env) fp) ifs (tET X (evC cl gl r.2.2.2.2))
structure Ok (cl : Str → List D → Sto → Option (D × Sto)) (gl : Str → Option D) (n : Nat) : Prop where
  e : ∀ {k : Cc} {sc : Scope} {X : Cx} {e : Expr} {x : E}, Sim cl gl k sc X → cE k n sc e = some x → EOk X e x (evE cl gl x)
  lc : ∀ {k : Cc} {sc : Scope} {X : Cx} {elt tg it : Expr} {ifs : List Expr} {scope : Scope} {r : List Nat × T × Ev.It × E × Option E}, Sim cl gl k sc X → cLC k n sc elt tg it ifs scope = some r → LOk cl gl X elt tg it ifs scope r
  es : ∀ {k : Cc} {sc : Scope} {X : Cx} {es : List Expr} {xs : List E}, Sim cl gl k sc X → cEs k n sc es = some xs → PA X es (tEs X (evEs cl gl xs))
  as : ∀ {k : Cc} {sc : Scope} {X : Cx} {es : List Expr} {xs : List E}, Sim cl gl k sc X → cAs k n sc es = some xs → PA X es (tEs X (evEs cl gl xs)) ∧ (∀ e ∈ es, ∀ a p, e ≠ Expr.Starred a p) ∧ (es = [] → xs = [])
  ps : ∀ {k : Cc} {sc : Scope} {X : Cx} {ks : List (Option Expr)} {vs : List Expr} {xs : List E} (pos : Pos), Sim cl gl k sc X → cPs k n sc ks vs = some xs → PPf X pos ks vs (tEs X (evEs cl gl xs))
  o : ∀ {k : Cc} {sc : Scope} {X : Cx} {e : Option Expr} {x : Option E}, Sim cl gl k sc X → cO k n sc e = some x → PO X e (tPO X (evO cl gl x))
  i : ∀ {k : Cc} {sc : Scope} {X : Cx} {tg e : Expr} {x : Ev.It}, Sim cl gl k sc X → cI k n sc tg e = some x → PI X tg e (iD X (evI cl gl x)) ∧ ∀ es k p, e ≠ .Set es k p

section
variable {cl : Str → List D → Sto → Option (D × Sto)} {gl : Str → Option D}
theorem evEs_cons {x : E} {xs : List E} (h : x.isStar = false) : evEs cl gl (x :: xs) = fun env s => bnd (evE cl gl x env s) fun d s => bnd (evEs cl gl xs env s) fun ds s => some (d :: ds, s) := by
  funext env s
  rw [evEs]
  simp [h]
theorem evEs_nil : evEs cl gl [] = fun env s => some ([], s) := by funext env s; rw [evEs] <;> rfl
theorem evEs_star {x : E} {xs : List E} : evEs cl gl (.star x :: xs) = fun env s => bnd (bnd (evE cl gl x env s) fun x s => (itemsD x s).map fun ds => (D.tup ds, s)) fun d s => bnd (evEs cl gl xs env s) fun ds s => some (d.spl ++ ds, s) := by
  funext env s
  rw [evEs]
  simp only [evE, E.isStar, if_true]
theorem ok_es {n : Nat} (ih : Ok cl gl n) {k : Cc} {sc : Scope} {X : Cx} : ∀ {es : List Expr} {xs : List E}, Sim cl gl k sc X → cEs k (n + 1) sc es = some xs → PA X es (tEs X (evEs cl gl xs))
  | [], xs, S, h => by
    simp only [cEs, Option.some.injEq] at h
    subst h
    rw [evEs_nil]
    exact pa_nilD
  | e :: es, xs, S, h => by
    by_cases hs : ∃ a p, e = .Starred a p
    · obtain ⟨a, p, rfl⟩ := hs
      simp only [cEs, Option.bind_eq_some_iff, Option.map_eq_some_iff] at h
      obtain ⟨x, h1, ys, h2, rfl⟩ := h
      rw [evEs_star]
      exact pa_starD (ih.e S h1).pe (ih.es S h2)
    · have h' : ((cE k n sc e).bind fun x => (cEs k n sc es).map fun xs => x :: xs) = some xs := by
        rw [← h, cEs]
        intro a p z
        exact hs ⟨a, p, z⟩
      simp only [Option.bind_eq_some_iff, Option.map_eq_some_iff] at h'
      obtain ⟨x, h1, ys, h2, rfl⟩ := h'
      have E1 := ih.e S h1
      rw [evEs_cons E1.xs]
      exact pa_consD E1.pe (ih.es S h2) E1.st
theorem ok_as {n : Nat} (ih : Ok cl gl n) {k : Cc} {sc : Scope} {X : Cx} : ∀ {es : List Expr} {xs : List E}, Sim cl gl k sc X → cAs k (n + 1) sc es = some xs → PA X es (tEs X (evEs cl gl xs)) ∧ (∀ e ∈ es, ∀ a p, e ≠ Expr.Starred a p) ∧ (es = [] → xs = [])
  | [], xs, S, h => by
    simp only [cAs, Option.some.injEq] at h
    subst h
    rw [evEs_nil]
    exact ⟨pa_nilD, (fun e he => by cases he), fun _ => rfl⟩
  | e :: es, xs, S, h => by
    simp only [cAs, Option.bind_eq_some_iff, Option.map_eq_some_iff] at h
    obtain ⟨x, h1, ys, h2, rfl⟩ := h
    have E1 := ih.e S h1
    obtain ⟨a1, a2, _⟩ := ih.as S h2
    rw [evEs_cons E1.xs]
    refine ⟨pa_consD E1.pe a1 E1.st, fun y hy => ?_, fun z => by cases z⟩
    rcases List.mem_cons.mp hy with rfl | hy
    · exact E1.st
    · exact a2 y hy
theorem ok_ps {n : Nat} (ih : Ok cl gl n) {k : Cc} {sc : Scope} {X : Cx} (pos : Pos) : ∀ {ks : List (Option Expr)} {vs : List Expr} {xs : List E}, Sim cl gl k sc X → cPs k (n + 1) sc ks vs = some xs → PPf X pos ks vs (tEs X (evEs cl gl xs))
  | [], [], xs, S, h => by
    simp only [cPs, Option.some.injEq] at h
    subst h
    rw [evEs_nil]
    exact ppf_nil
  | some a :: ks, b :: vs, xs, S, h => by
    simp only [cPs, Option.bind_eq_some_iff, Option.map_eq_some_iff] at h
    obtain ⟨x, h1, y, h2, ys, h3, rfl⟩ := h
    have E1 := ih.e S h1
    have E2 := ih.e S h2
    have : evEs cl gl (x :: y :: ys) = fun env s => bnd (evE cl gl x env s) fun x s => bnd (evE cl gl y env s) fun y s => bnd (evEs cl gl ys env s) fun l s => some (x :: y :: l, s) := by
      rw [evEs_cons E1.xs, evEs_cons E2.xs]
      funext env s
      cases evE cl gl x env s with
      | none => rfl
      | some p =>
        obtain ⟨d, s⟩ := p
        simp only [bnd_some]
        cases evE cl gl y env s with
        | none => rfl
        | some p =>
          obtain ⟨d, s⟩ := p
          simp only [bnd_some]
          cases evEs cl gl ys env s with
          | none => rfl
          | some p => rfl
    rw [this]
    exact ppf_cons E1.pe E2.pe (ih.ps pos S h3)
  | [], _ :: _, xs, S, h => by simp [cPs] at h
  | none :: _, _, xs, S, h => by simp [cPs] at h
  | some _ :: _, [], xs, S, h => by simp [cPs] at h
theorem ok_o {n : Nat} (ih : Ok cl gl n) {k : Cc} {sc : Scope} {X : Cx} {e : Option Expr} {x : Option E} (S : Sim cl gl k sc X) (h : cO k (n + 1) sc e = some x) : PO X e (tPO X (evO cl gl x)) := by
  cases e with
  | none =>
    simp only [cO, Option.some.injEq] at h
    subst h
    have : evO cl gl none = fun env s => some (none, s) := by funext env s; rw [evO] <;> rfl
    rw [this]
    exact po_noneD
  | some e =>
    simp only [cO, Option.map_eq_some_iff] at h
    obtain ⟨y, h1, rfl⟩ := h
    have : evO cl gl (some y) = fun env s => bnd (evE cl gl y env s) fun x s => match x with
      | .int i => some (some i, s)
      | _ => none := by funext env s; rw [evO] <;> rfl
    rw [this]
    exact po_someD (ih.e S h1).pe
theorem ok_seq {n : Nat} (ih : Ok cl gl n) {k : Cc} {sc : Scope} {X : Cx} {tg e : Expr} {x : Ev.It} (S : Sim cl gl k sc X) (h : (cE k n sc e).map Ev.It.seq = some x) : PI X tg e (iD X (evI cl gl x)) ∧ ∀ es k p, e ≠ .Set es k p := by
  simp only [Option.map_eq_some_iff] at h
  obtain ⟨y, h1, rfl⟩ := h
  have E1 := ih.e S h1
  have : evI cl gl (.seq y) = fun env s => bnd (evE cl gl y env s) fun x s => (srcOf x s).map fun g => (g, s) := by funext env s; rw [evI] <;> rfl
  rw [this]
  exact ⟨pi_srcD S.gd E1.pe, E1.se⟩
theorem ok_i {n : Nat} (ih : Ok cl gl n) {k : Cc} {sc : Scope} {X : Cx} {tg e : Expr} {x : Ev.It} (S : Sim cl gl k sc X) (h : cI k (n + 1) sc tg e = some x) : PI X tg e (iD X (evI cl gl x)) ∧ ∀ es k p, e ≠ .Set es k p := by
  unfold cI at h
  split at h
  · rename_i f q es p
    split at h
    · rename_i hc
      simp only [Bool.and_eq_true, decide_eq_true_eq] at hc
      obtain ⟨⟨hg, ho⟩, rfl⟩ := hc
      have hg := (isGl_ok S hg).1
      split at h
      · simp only [Option.map_eq_some_iff] at h
        obtain ⟨y, h1, rfl⟩ := h
        have E1 := ih.e S h1
        have : evI cl gl (.range1 y) = fun env s => bnd (evE cl gl y env s) fun x s => match x with
          | .int hi => (srcRange 0 hi).map fun g => (g, s)
          | _ => none := by funext env s; rw [evI] <;> rfl
        rw [this]
        exact ⟨pi_rangeD1 S hg E1.pe E1.st, fun _ _ _ z => nomatch z⟩
      · simp only [Option.bind_eq_some_iff, Option.map_eq_some_iff] at h
        obtain ⟨y, h1, z, h2, rfl⟩ := h
        have E1 := ih.e S h1
        have E2 := ih.e S h2
        have : evI cl gl (.range2 y z) = fun env s => bnd (evE cl gl y env s) fun x s => bnd (evE cl gl z env s) fun y s => match x, y with
          | .int lo, .int hi => (srcRange lo hi).map fun g => (g, s)
          | _, _ => none := by funext env s; rw [evI] <;> rfl
        rw [this]
        exact ⟨pi_rangeD2 S hg E1.pe E2.pe E1.st E2.st, fun _ _ _ z => nomatch z⟩
      · cases h
    · exact ok_seq ih S h
  · rename_i o m q p
    split at h
    · rename_i hm
      have hm := of_decide_eq_true hm
      subst hm
      split at h
      · rename_i hc
        simp only [Bool.and_eq_true, Bool.not_eq_true'] at hc
        obtain ⟨⟨h1, h2⟩, h3⟩ := hc
        simp only [Option.map_eq_some_iff] at h
        obtain ⟨y, h4, rfl⟩ := h
        have E1 := ih.e S h4
        have : evI cl gl (.items y) = fun env s => bnd (evE cl gl y env s) fun x s => (srcItems x s).map fun g => (g, s) := by funext env s; rw [evI] <;> rfl
        rw [this]
        refine ⟨?_, fun _ _ _ z => nomatch z⟩
        cases tg with
        | Tuple elts kk tpos => exact pi_itemsD S.gd E1.pe (base_plain h2) h3
        | _ => simp [isTup] at h1
      · cases h
    · exact ok_seq ih S h
  · exact ok_seq ih S h

/-! ### targets -/
theorem ok_t {k : Cc} {sc : Scope} {X : Cx} (S : Sim cl gl k sc X) : ∀ n, (∀ {e : Expr} {t : T}, cT k sc n e = some t → PG X e (gD X t) ∧ ∀ a p, e ≠ .Starred a p) ∧
    (∀ {es : List Expr} {ts : List T}, cTs k sc n es = some ts → PGs X es (gDs X ts) ∧ (∀ e ∈ es, ∀ a p, e ≠ Expr.Starred a p) ∧ ts.length = es.length)
  | 0 => ⟨fun h => by simp [cT] at h, fun h => by simp [cTs] at h⟩
  | n + 1 => by
    obtain ⟨i1, i2⟩ := ok_t S n
    constructor
    · intro e t h
      unfold cT at h
      split at h
      · rename_i x p
        have go : (slotOf k x).map T.nm = some t → Loc X.env.scope x → (X.fn x = true ∨ X.env.scope.names.lookup x = some .local) → PG X (.Name x p) (gD X t) ∧ ∀ a p', Expr.Name x p ≠ .Starred a p' := fun h1 h2 h3 => by
          simp only [Option.map_eq_some_iff] at h1
          obtain ⟨i, h1, rfl⟩ := h1
          exact ⟨pg_nameD S.gd (slotOf_ok S h1) h2 h3, fun _ _ z => nomatch z⟩
        split at h
        · rename_i e1
          exact go h (.inl (by rw [S.sc]; exact e1)) (.inr (by rw [S.sc]; exact e1))
        · rename_i e1
          split at h
          · rename_i ht
            exact go h (.inr (by rw [S.sc]; exact e1)) (.inl (S.fn ht x))
          · cases h
        · cases h
      · simp only [Option.map_eq_some_iff] at h
        obtain ⟨ts, h1, rfl⟩ := h
        obtain ⟨a1, a2, a3⟩ := i2 h1
        exact ⟨pg_tupD S.gd a1 a2 a3, fun _ _ z => nomatch z⟩
      · cases h
    · intro es ts h
      cases es with
      | nil =>
        simp only [cTs, Option.some.injEq] at h
        subst h
        exact ⟨pgs_nilD, (fun e he => by cases he), rfl⟩
      | cons e es =>
        simp only [cTs, Option.bind_eq_some_iff, Option.map_eq_some_iff] at h
        obtain ⟨t, h1, ts', h2, rfl⟩ := h
        obtain ⟨a1, a2⟩ := i1 h1
        obtain ⟨b1, b2, b3⟩ := i2 h2
        refine ⟨pgs_consD a1 b1 a2, fun y hy => ?_, by simp [b3]⟩
        rcases List.mem_cons.mp hy with rfl | hy
        · exact a2
        · exact b2 y hy
theorem ok_lc {n : Nat} (ih : Ok cl gl n) {k : Cc} {sc : Scope} {X : Cx} {elt tg it : Expr} {ifs : List Expr} {scope : Scope} {r : List Nat × T × Ev.It × E × Option E} (S : Sim cl gl k sc X) (h : cLC k (n + 1) sc elt tg it ifs scope = some r) : LOk cl gl X elt tg it ifs scope r := by
  unfold cLC at h
  split at h
  rotate_left
  · cases h
  rename_i hb
  simp only [Option.bind_eq_some_iff] at h
  obtain ⟨i, h1, t, h2, h⟩ := h
  split at h
  rotate_left
  · cases h
  rename_i ht
  simp only [Option.bind_eq_some_iff] at h
  obtain ⟨x, h3, h⟩ := h
  have hr : ∃ c, r = ((cOwn k scope).map (·.2), t, i, x, c) ∧ ((ifs = [] ∧ c = none) ∨ ∃ ce y, ifs = [ce] ∧ c = some y ∧ cE { k with top := false } n (L2.relS scope sc) ce = some y) := by
    split at h
    · cases h; exact ⟨none, rfl, .inl ⟨rfl, rfl⟩⟩
    · simp only [Option.map_eq_some_iff] at h
      obtain ⟨y, h4, rfl⟩ := h
      exact ⟨some y, rfl, .inr ⟨_, y, rfl, rfl, h4⟩⟩
    · cases h
  obtain ⟨c, rfl, hc⟩ := hr
  have hI := ih.i S h1
  have SB := fun (s : Shared) (H : Hp) (C : Addr) (l : List (Str × Addr)) (fp : List Addr) => S.blk s H scope C l fp
  refine ⟨⟨cOwn k scope, rfl, blkOk_by (by rw [S.N, S.sc]; exact hb)⟩, fun j hj => ?_, hI.1, hI.2, fun s H C l fp => ((ok_t (SB s H C l fp) n).1 h2).1, fun s H C l fp => (ih.e (SB s H C l fp) h3).pe, fun s H C l fp => ?_⟩
  · rw [List.all_eq_true] at ht
    have := ht j hj
    rw [List.any_eq_true] at this
    obtain ⟨p, hp, e⟩ := this
    exact List.mem_map.mpr ⟨p, hp, of_decide_eq_true e⟩
  · rcases hc with ⟨rfl, rfl⟩ | ⟨ce, y, rfl, rfl, h4⟩
    · have : evC cl gl none = fun env s => some (.bl true, s) := by funext env s; rw [evC] <;> rfl
      show PTs _ [] (tET X (evC cl gl none))
      rw [this]
      refine ⟨fun pins sh σ H' Q I hw => pts_nil.run pins sh σ H' Q I ?_⟩
      obtain ⟨ι, env, s', kk, s'', hE, R, e, q⟩ := hw
      cases e
      exact q H' ι Go.refl R
    · have : evC cl gl (some y) = evE cl gl y := by funext env s; rw [evC] <;> rfl
      show PTs _ [ce] (tET X (evC cl gl (some y)))
      rw [this]
      exact pts_one (ih.e (SB s H C l fp) h4).pt
end
end Ev
end

section
set_option autoImplicit false
set_option maxRecDepth 100000
set_option linter.unusedVariables false
/-! Ev22: expressions -/
namespace Ev
open PySem L2 PySem.SeqAt PyProof.Rows PySem.Calls

section
variable {cl : Str → List D → Sto → Option (D × Sto)} {gl : Str → Option D}
/-- a value whose test is its truth, with the plain sides by the form -/
theorem EOk.val {X : Cx} {e : Expr} {x : E} {run : Env → Sto → Option (D × Sto)} (h : PE X e (tE X run)) (hx : x.isStar = false) (he : ∀ whole, isTrue e X.env whole = (do let v ← whole; standAt e.pos; holding [v] (truthy v))) (hb : ∀ op es pos, e ≠ .BoolOp op es pos)
    (st : ∀ a p, e ≠ .Starred a p) (sl : ∀ lo hi s p, e ≠ .Slice lo hi s p) (se : ∀ es k p, e ≠ .Set es k p) : EOk X e x run :=
  ⟨h, pt_valD h he, fun op es pos z => absurd z (hb op es pos), st, sl, se, hx⟩
theorem ok_e {n : Nat} (ih : Ok cl gl n) {k : Cc} {sc : Scope} {X : Cx} {e : Expr} {x : E} (S : Sim cl gl k sc X) (h : cE k (n + 1) sc e = some x) : EOk X e x (evE cl gl x) := by
  unfold cE at h
  split at h
  · -- a name
    rename_i y pos
    split at h
    rotate_left
    · cases h
    rename_i hn
    obtain ⟨hd, hcd⟩ := okName_ok hn
    split at h
    · rename_i i hi
      cases h
      obtain ⟨h1, h2⟩ := varOf_ok S hi
      have : evE cl gl (.var i) = fun env s => match env[i]? with
        | some (some d) => some (d, s)
        | _ => none := by funext env s; rw [evE] <;> rfl
      rw [this]
      exact .val (pe_varD h1 h2 hd hcd) rfl (fun _ => rfl) (fun _ _ _ z => nomatch z) (fun _ _ z => nomatch z) (fun _ _ _ _ z => nomatch z) (fun _ _ _ z => nomatch z)
    · split at h
      · rename_i hg
        simp only [Bool.and_eq_true] at hg
        cases h
        have : evE cl gl (.gl y) = fun env s => (gl y).map fun d => (d, s) := by funext env s; rw [evE] <;> rfl
        rw [this]
        refine .val ⟨fun pins sh σ H Q I h => ?_⟩ rfl (fun _ => rfl) (fun _ _ _ z => nomatch z) (fun _ _ z => nomatch z) (fun _ _ _ _ z => nomatch z) (fun _ _ _ z => nomatch z)
        obtain ⟨ι, env, s, d, s', hE, R, e, q⟩ := h
        simp only [Option.map_eq_some_iff, Prod.mk.injEq] at e
        obtain ⟨d', e1, rfl, rfl⟩ := e
        obtain ⟨u, v, hm, rv, rd⟩ := S.gls y hg.2 _ e1
        exact (pe_glob (isGl_ok S hg.1).1 hm rv hd).run pins sh σ H Q I (q.here R (rd ι H))
      · cases h
  · -- a constant
    rename_i c j pos
    simp only [Option.map_eq_some_iff] at h
    obtain ⟨d, h1, rfl⟩ := h
    have : evE cl gl (.lit d) = fun env s => some (d, s) := by funext env s; rw [evE] <;> rfl
    rw [this]
    have hp : PE X (.Constant c j pos) (tE X fun env s => some (d, s)) := by
      cases c <;> simp only [cConst, Option.some.injEq, reduceCtorEq] at h1 <;> subst h1
      · exact pe_non.weak (lit_weak fun ι H => by rw [RD])
      · exact pe_bl.weak (lit_weak fun ι H => by rw [RD])
      · exact pe_int.weak (lit_weak fun ι H => by rw [RD])
      · exact pe_str.weak (lit_weak fun ι H => by rw [RD])
    exact .val hp rfl (fun _ => rfl) (fun _ _ _ z => nomatch z) (fun _ _ z => nomatch z) (fun _ _ _ _ z => nomatch z) (fun _ _ _ z => nomatch z)
  · -- a tuple
    simp only [Option.map_eq_some_iff] at h
    obtain ⟨xs, h1, rfl⟩ := h
    have : evE cl gl (.tup xs) = fun env s => bnd (evEs cl gl xs env s) fun ds s => newT s ds := by funext env s; rw [evE] <;> rfl
    rw [this]
    exact .val (pe_tupD (ih.es S h1)) rfl (fun _ => rfl) (fun _ _ _ z => nomatch z) (fun _ _ z => nomatch z) (fun _ _ _ _ z => nomatch z) (fun _ _ _ z => nomatch z)
  · simp only [Option.map_eq_some_iff] at h
    obtain ⟨xs, h1, rfl⟩ := h
    have : evE cl gl (.lst xs) = fun env s => bnd (evEs cl gl xs env s) fun ds s => newL s ds := by funext env s; rw [evE] <;> rfl
    rw [this]
    exact .val (pe_lstD (ih.es S h1)) rfl (fun _ => rfl) (fun _ _ _ z => nomatch z) (fun _ _ z => nomatch z) (fun _ _ _ _ z => nomatch z) (fun _ _ _ z => nomatch z)
  · -- a dict
    rename_i ks vs pos
    have dd : ∀ xs, evE cl gl (.dct xs) = fun env s => bnd (evEs cl gl xs env s) fun ds s => (pairUp [] ds).map fun kvs => (.ref s.length, s ++ [.dct kvs]) := fun xs => by funext env s; rw [evE] <;> rfl
    split at h
    · rename_i hc
      simp only [Bool.and_eq_true, List.isEmpty_iff] at hc
      obtain ⟨rfl, rfl⟩ := hc
      cases h
      have : evE cl gl (.dct []) = fun env s => some (.ref s.length, s ++ [.dct []]) := by
        rw [dd, evEs_nil]
        rfl
      rw [this]
      exact .val pe_dct0D rfl (fun _ => rfl) (fun _ _ _ z => nomatch z) (fun _ _ z => nomatch z) (fun _ _ _ _ z => nomatch z) (fun _ _ _ z => nomatch z)
    · split at h
      · rename_i hc
        simp only [Bool.and_eq_true, decide_eq_true_eq, Bool.not_eq_true', List.isEmpty_eq_false_iff] at hc
        obtain ⟨⟨⟨h1, h2⟩, h3⟩, h4⟩ := hc
        simp only [Option.map_eq_some_iff] at h
        obtain ⟨xs, h5, rfl⟩ := h
        rw [dd]
        exact .val (pe_dctD S.gd (ih.ps pos S h5) h1 h2 h4 h3) rfl (fun _ => rfl) (fun _ _ _ z => nomatch z) (fun _ _ z => nomatch z) (fun _ _ _ _ z => nomatch z) (fun _ _ _ z => nomatch z)
      · cases h
  · -- an operator
    simp only [Option.bind_eq_some_iff, Option.map_eq_some_iff] at h
    obtain ⟨a, h1, b, h2, rfl⟩ := h
    have : ∀ op, evE cl gl (.bin op a b) = fun env s => bnd (evE cl gl a env s) fun x s => bnd (evE cl gl b env s) fun y s => binD op x y s := fun op => by funext env s; rw [evE] <;> rfl
    rw [this]
    exact .val (pe_binD (ih.e S h1).pe (ih.e S h2).pe) rfl (fun _ => rfl) (fun _ _ _ z => nomatch z) (fun _ _ z => nomatch z) (fun _ _ _ _ z => nomatch z) (fun _ _ _ z => nomatch z)
  · -- -a, not a
    split at h
    · simp only [Option.map_eq_some_iff] at h
      obtain ⟨a, h1, rfl⟩ := h
      have : evE cl gl (.neg a) = fun env s => bnd (evE cl gl a env s) fun x s => match x with
        | .int i => some (.int (-i), s)
        | _ => none := by funext env s; rw [evE] <;> rfl
      rw [this]
      exact .val (pe_negD (ih.e S h1).pe) rfl (fun _ => rfl) (fun _ _ _ z => nomatch z) (fun _ _ z => nomatch z) (fun _ _ _ _ z => nomatch z) (fun _ _ _ z => nomatch z)
    · simp only [Option.map_eq_some_iff] at h
      obtain ⟨a, h1, rfl⟩ := h
      have : evE cl gl (.not a) = fun env s => bnd (evE cl gl a env s) fun x s => match x with
        | .bl b => some (.bl (!b), s)
        | _ => none := by funext env s; rw [evE] <;> rfl
      rw [this]
      exact ⟨pe_notD (ih.e S h1).pe, pt_notD (ih.e S h1).pt, fun _ _ _ z => (nomatch z), fun _ _ z => (nomatch z), fun _ _ _ _ z => (nomatch z), fun _ _ _ z => (nomatch z), rfl⟩
    · cases h
  · -- a comparison
    split at h
    · split at h
      · cases h
      · rename_i hm
        simp only [Option.bind_eq_some_iff, Option.map_eq_some_iff] at h
        obtain ⟨a, h1, b, h2, rfl⟩ := h
        have : ∀ op, evE cl gl (.cmp op a b) = fun env s => bnd (evE cl gl a env s) fun x s => bnd (evE cl gl b env s) fun y s => (cmpD op x y s).map fun k => (.bl k, s) := fun op => by funext env s; rw [evE] <;> rfl
        rw [this]
        have hm := Bool.eq_false_iff.mpr hm
        exact ⟨pe_cmpD S.gd (ih.e S h1).pe (ih.e S h2).pe hm, pt_cmpD S.gd (ih.e S h1).pe (ih.e S h2).pe hm, fun _ _ _ z => (nomatch z), fun _ _ z => (nomatch z), fun _ _ _ _ z => (nomatch z), fun _ _ _ z => (nomatch z), rfl⟩
    · split at h
      · cases h
      · rename_i hm
        simp only [Option.bind_eq_some_iff, Option.map_eq_some_iff] at h
        obtain ⟨a, h1, b, h2, c, h3, rfl⟩ := h
        have : ∀ op op', evE cl gl (.cmp2 op op' a b c) = fun env s => bnd (evE cl gl a env s) fun x s => bnd (evE cl gl b env s) fun y s => (cmpD op x y s).bind fun k => if k then bnd (evE cl gl c env s) fun z s => (cmpD op' y z s).map fun k => (.bl k, s) else some (.bl false, s) := fun op op' => by funext env s; rw [evE] <;> rfl
        rw [this]
        have hm := Bool.eq_false_iff.mpr hm
        exact ⟨pe_chainD S.gd (ih.e S h1).pe (ih.e S h2).pe (ih.e S h3).pe hm, pt_chainD S.gd (ih.e S h1).pe (ih.e S h2).pe (ih.e S h3).pe hm, fun _ _ _ z => (nomatch z), fun _ _ z => (nomatch z), fun _ _ _ _ z => (nomatch z), fun _ _ _ z => (nomatch z), rfl⟩
    · cases h
  · -- and, or
    rename_i op es pos
    split at h
    · rename_i a
      have E1 := ih.e S h
      have hw : PW X (.BoolOp op [a] pos) (tET X (evE cl gl x)) := by
        cases op
        · exact pw_and1 E1.pt
        · exact pw_or1 E1.pt
      exact ⟨pe_one E1.pe, hw.pt, fun _ _ _ z => by cases z; exact hw, fun _ _ z => (nomatch z), fun _ _ _ _ z => (nomatch z), fun _ _ _ z => (nomatch z), E1.xs⟩
    · rename_i a b r
      simp only [Option.bind_eq_some_iff, Option.map_eq_some_iff] at h
      obtain ⟨y, h1, z, h2, rfl⟩ := h
      have E1 := ih.e S h1
      have E2 := ih.e S h2
      cases op
      · have : evE cl gl (.and y z) = andR (evE cl gl y) (evE cl gl z) := by funext env s; rw [evE] <;> rfl
        show EOk X _ (.and y z) (evE cl gl (.and y z))
        rw [this]
        have hw : PW X (.BoolOp .And (a :: b :: r) pos) (tET X (andR (evE cl gl y) (evE cl gl z))) := (pw_and E1.pt (E2.pw _ _ _ rfl)).weak and_weakT
        exact ⟨(pe_and E1.pe E2.pe).weak and_weak, hw.pt, fun _ _ _ z => by cases z; exact hw, fun _ _ z => (nomatch z), fun _ _ _ _ z => (nomatch z), fun _ _ _ z => (nomatch z), rfl⟩
      · have : evE cl gl (.or y z) = orR (evE cl gl y) (evE cl gl z) := by funext env s; rw [evE] <;> rfl
        show EOk X _ (.or y z) (evE cl gl (.or y z))
        rw [this]
        have hw : PW X (.BoolOp .Or (a :: b :: r) pos) (tET X (orR (evE cl gl y) (evE cl gl z))) := (pw_or E1.pt (E2.pw _ _ _ rfl)).weak or_weakT
        exact ⟨(pe_or E1.pe E2.pe).weak or_weak, hw.pt, fun _ _ _ z => by cases z; exact hw, fun _ _ z => (nomatch z), fun _ _ _ _ z => (nomatch z), fun _ _ _ z => (nomatch z), rfl⟩
    · cases h
  · -- a if c else b
    simp only [Option.bind_eq_some_iff, Option.map_eq_some_iff] at h
    obtain ⟨z, h1, y, h2, w, h3, rfl⟩ := h
    have : evE cl gl (.ite z y w) = iteR (evE cl gl z) (evE cl gl y) (evE cl gl w) := by funext env s; rw [evE] <;> rfl
    rw [this]
    exact ⟨pe_iteD (ih.e S h1).pt (ih.e S h2).pe (ih.e S h3).pe, pt_iteD (ih.e S h1).pt (ih.e S h2).pt (ih.e S h3).pt, fun _ _ _ z => (nomatch z), fun _ _ z => (nomatch z), fun _ _ _ _ z => (nomatch z), fun _ _ _ z => (nomatch z), rfl⟩
  · -- subscripts
    split at h
    · split at h
      · simp only [Option.bind_eq_some_iff, Option.map_eq_some_iff] at h
        obtain ⟨y, h1, l, h2, u, h3, rfl⟩ := h
        have : evE cl gl (.slc y l u) = fun env s => bnd (evE cl gl y env s) fun x s => bnd (evO cl gl l env s) fun l s => bnd (evO cl gl u env s) fun h s => slcD x l h s := by funext env s; rw [evE] <;> rfl
        rw [this]
        exact .val (pe_slcD (ih.e S h1).pe (ih.o S h2) (ih.o S h3)) rfl (fun _ => rfl) (fun _ _ _ z => nomatch z) (fun _ _ z => nomatch z) (fun _ _ _ _ z => nomatch z) (fun _ _ _ z => nomatch z)
      · split at h
        · simp only [Option.map_eq_some_iff] at h
          obtain ⟨y, h1, rfl⟩ := h
          have : evE cl gl (.rev y) = fun env s => bnd (evE cl gl y env s) fun x s => revD x s := by funext env s; rw [evE] <;> rfl
          rw [this]
          exact .val (pe_revE (ih.e S h1).pe) rfl (fun _ => rfl) (fun _ _ _ z => nomatch z) (fun _ _ z => nomatch z) (fun _ _ _ _ z => nomatch z) (fun _ _ _ z => nomatch z)
        · cases h
      · cases h
    · simp only [Option.bind_eq_some_iff, Option.map_eq_some_iff] at h
      obtain ⟨y, h1, i, h2, rfl⟩ := h
      have : evE cl gl (.idx y i) = fun env s => bnd (evE cl gl y env s) fun x s => bnd (evE cl gl i env s) fun y s => idxD x y s := by funext env s; rw [evE] <;> rfl
      rw [this]
      exact .val (pe_idxD S.gd (ih.e S h1).pe (ih.e S h2).pe (ih.e S h2).sl) rfl (fun _ => rfl) (fun _ _ _ z => nomatch z) (fun _ _ z => nomatch z) (fun _ _ _ _ z => nomatch z) (fun _ _ _ z => nomatch z)
  · -- calls
    rename_i f es kws cpos
    split at h
    · cases h
    rename_i hk
    have hk : kws = [] := by simpa using hk
    subst hk
    split at h
    · rename_i g q
      split at h
      · cases h
      rename_i hg
      obtain ⟨hg, hdb⟩ := isGl_ok S (by simpa using hg)
      split at h
      · rename_i ho
        simp only [Option.map_eq_some_iff] at h
        obtain ⟨xs, h1, rfl⟩ := h
        obtain ⟨a1, a2, a3⟩ := ih.as S h1
        have : evE cl gl (.call g xs) = fun env s => bnd (evEs cl gl xs env s) fun ds s => cl g ds s := by funext env s; rw [evE] <;> rfl
        rw [this]
        exact .val (pe_callD S ho hg hdb a1 (fun z => by rw [a3 z, evEs_nil]) a2) rfl (fun _ => rfl) (fun _ _ _ z => nomatch z) (fun _ _ z => nomatch z) (fun _ _ _ _ z => nomatch z) (fun _ _ _ z => nomatch z)
      · split at h
        · rename_i b hb
          split at h
          · cases h
          rename_i he
          simp only [Option.map_eq_some_iff] at h
          obtain ⟨xs, h1, rfl⟩ := h
          obtain ⟨a1, a2, a3⟩ := ih.as S h1
          have : evE cl gl (.bif b xs) = fun env s => bnd (evEs cl gl xs env s) fun ds s => bifD b ds s := by funext env s; rw [evE] <;> rfl
          rw [this]
          cases es with
          | nil => simp at he
          | cons e0 es0 => exact .val (pe_bifD S hb hg a1 a2) rfl (fun _ => rfl) (fun _ _ _ z => nomatch z) (fun _ _ z => nomatch z) (fun _ _ _ _ z => nomatch z) (fun _ _ _ z => nomatch z)
        · cases h
    · rename_i o m apos
      split at h
      · cases h
      rename_i hc
      simp only [Bool.or_eq_true, Bool.not_eq_true', decide_eq_true_eq, not_or] at hc
      obtain ⟨⟨hc1, hc2⟩, hc3⟩ := hc
      simp only [Option.bind_eq_some_iff, Option.map_eq_some_iff] at h
      obtain ⟨mm, h1, y, h2, xs, h3, rfl⟩ := h
      obtain ⟨slot, hty⟩ := mOf_ok h1
      obtain ⟨a1, a2, a3⟩ := ih.as S h3
      have E1 := ih.e S h2
      have hbase := base_plain (X := X) (name := m) (Bool.eq_false_iff.mpr hc1)
      have hline : (apos.endLine == cpos.line) = true := by simpa using hc2
      have : evE cl gl (.mth mm y xs) = fun env s => bnd (evE cl gl y env s) fun x s => if mthOk mm x s then bnd (evEs cl gl xs env s) fun ds s => mthD mm x ds s else none := by funext env s; rw [evE] <;> rfl
      rw [this]
      cases es with
      | nil =>
        rw [a3 rfl, evEs_nil]
        exact .val (pe_mth0D S.gd slot hty E1.pe hbase hline) rfl (fun _ => rfl) (fun _ _ _ z => nomatch z) (fun _ _ z => nomatch z) (fun _ _ _ _ z => nomatch z) (fun _ _ _ z => nomatch z)
      | cons a0 es0 =>
        exact .val (pe_mthD S.gd slot hty E1.pe a1 hbase hline a2 (by omega)) rfl (fun _ => rfl) (fun _ _ _ z => nomatch z) (fun _ _ z => nomatch z) (fun _ _ _ _ z => nomatch z) (fun _ _ _ z => nomatch z)
    · cases h
  · -- comprehensions
    split at h
    · simp only [Option.map_eq_some_iff] at h
      obtain ⟨r, h1, rfl⟩ := h
      have L1 := ih.lc S h1
      obtain ⟨own, ho, hb⟩ := L1.own
      have : evE cl gl (.comp r.1 r.2.1 r.2.2.1 r.2.2.2.1 r.2.2.2.2) = lcR (evI cl gl r.2.2.1) (evC cl gl r.2.2.2.2) (evE cl gl r.2.2.2.1) r.2.1 (own.map (·.2)) := by
        funext env s
        rw [evE, ho] <;> rfl
      rw [this]
      exact .val (pe_lcD S.gd (fun i hi => by rw [← ho]; exact L1.sub i hi) L1.iter hb L1.tgt L1.ifs L1.elt L1.se) rfl (fun _ => rfl) (fun _ _ _ z => nomatch z) (fun _ _ z => nomatch z) (fun _ _ _ _ z => nomatch z) (fun _ _ _ z => nomatch z)
    · cases h
  · cases h

theorem ok_all : ∀ n, Ok cl gl n
  | 0 => ⟨(fun S h => by unfold cE at h; cases h), (fun S h => by unfold cLC at h; cases h), (fun S h => by unfold cEs at h; cases h), (fun S h => by unfold cAs at h; cases h), (fun pos S h => by unfold cPs at h; cases h), (fun S h => by unfold cO at h; cases h), (fun S h => by unfold cI at h; cases h)⟩
  | n + 1 => have ih := ok_all n; ⟨ok_e ih, ok_lc ih, ok_es ih, ok_as ih, fun pos => ok_ps ih pos, ok_o ih, ok_i ih⟩
end
end Ev
end

section
set_option autoImplicit false
set_option maxRecDepth 100000
set_option linter.unusedVariables false
/-! Ev23: statements -/
namespace Ev
open PySem L2 PySem.SeqAt PyProof.Rows PySem.Calls

section
variable {cl : Str → List D → Sto → Option (D × Sto)} {gl : Str → Option D}
theorem swaps_not {e : Expr} {t : Option Expr} {l : Nat} {env : PySem.Env} (h : isComp e = false) : swapsWith e t l env = pure false := by
  cases e <;> first | rfl | simp [isComp] at h
theorem swaps_tup {e : Expr} {ts : List Expr} {k : Nat} {p : Pos} {l : Nat} {env : PySem.Env} : swapsWithSole [.Tuple ts k p] e l env = pure false := by
  show swapsWith e (some (.Tuple ts k p)) l env = _
  cases e <;> rfl
theorem swaps_sub {e o i : Expr} {p : Pos} {l : Nat} {env : PySem.Env} : swapsWithSole [.Subscript o i p] e l env = pure false := by
  show swapsWith e (some (.Subscript o i p)) l env = _
  cases e <;> rfl
theorem stores_none {tg e : Expr} {env : PySem.Env} (h : isTup e = false) (ht : ∀ l p, tg ≠ .List l p) : swappedStores [tg] e env = pure none := by
  cases e <;> first | (simp [isTup] at h; done) | (cases tg <;> first | rfl | exact absurd rfl (ht _ _))
theorem swK_ok {sc : Scope} {ts vs : List Expr} {kt k2 : Nat} {pt p2 : Pos} {env : PySem.Env} {r : Option (List Str)} (hs : env.scope = sc) (hk : sc.kind = .function) (h : swK sc ts vs = some r) : swappedStores [.Tuple ts kt pt] (.Tuple vs k2 p2) env = pure r := by
  subst hs
  have hb : env.blockKind = .function := by
    unfold Env.blockKind
    rw [hk]
    rfl
  replace h : swK' env.kindOf ts vs = some r := h
  unfold swK' at h
  unfold swappedStores
  simp only [hb]
  split at h
  · rename_i c
    cases h
    have c' : (!(ts.length == 2 || ts.length == 3) || vs.length != ts.length || ScopeKind.function != ScopeKind.function) = true := by
      rw [Bool.or_eq_true]
      exact .inl c
    simp only [c', if_true]
  rename_i c
  have c' : (!(ts.length == 2 || ts.length == 3) || vs.length != ts.length || ScopeKind.function != ScopeKind.function) = false := by
    rw [Bool.eq_false_iff.mpr c]
    rfl
  simp only [c', Bool.false_eq_true, if_false]
  split at h
  · rename_i c2
    cases h
    exact if_pos c2
  rename_i c2
  refine (if_neg c2).trans ?_
  split at h
  · rename_i c3
    cases h
    exact if_pos c3
  rename_i c3
  refine (if_neg c3).trans ?_
  split at h
  · rename_i c4
    cases h
    exact if_pos c4
  rename_i c4
  refine (if_neg c4).trans ?_
  split at h
  · cases h
  rename_i c5
  cases h
  exact if_neg c5

theorem evS_asg {t : T} {e : E} : evS cl gl (.asg t e) = asgR (evE cl gl e) t := by funext env s; rw [evS] <;> rfl
theorem isLoc_ok {k : Cc} {sc : Scope} {X : Cx} (S : Sim cl gl k sc X) {x : Str} (h : isLoc sc x = true) : X.env.scope.names.lookup x = some .local := by
  rw [S.sc]
  unfold isLoc at h
  split at h
  · assumption
  · cases h
/-- a statement that is not compiled says nothing -/
theorem stuckD {X : Cx} {st : Stmt} : PS X st (tSD X (evS cl gl .stuck)) := by
  have : evS cl gl .stuck = fun _ _ => none := by funext env s; rw [evS]
  rw [this]
  exact ps_neverD
theorem ok_s {k : Cc} {sc : Scope} {X : Cx} (S : Sim cl gl k sc X) (hk : sc.kind = .function) : ∀ n, (∀ st : Stmt, PS X st (tSD X (evS cl gl (cS k sc n st)))) ∧ ∀ sts : List Stmt, PSs X sts (tSD X (evSs cl gl (cSs k sc n sts)))
  | 0 => ⟨fun st => by rw [cS]; exact stuckD, fun sts => by
      rw [cSs]
      refine ⟨fun pins s σ H D I h => ?_⟩
      obtain ⟨ι, env, s', r, s'', hE, R, e, q⟩ := h
      rw [evSs, evS] at e
      cases e⟩
  | n + 1 => by
    obtain ⟨i1, i2⟩ := ok_s S hk n
    have O := ok_all (cl := cl) (gl := gl) 60
    have getD : ∀ {o : Option Ev.S} {st : Stmt}, (∀ s, o = some s → PS X st (tSD X (evS cl gl s))) → PS X st (tSD X (evS cl gl (o.getD .stuck))) := fun {o st} h => by
      cases o with
      | none => exact stuckD
      | some s => exact h s rfl
    constructor
    · intro st
      unfold cS
      split
      · -- assignments
        rename_i tgs v pos
        split
        rotate_left
        · exact stuckD
        rename_i tg
        split
        · -- o[i] = v
          rename_i o i p
          refine getD fun s h => ?_
          simp only [Option.bind_eq_some_iff, Option.map_eq_some_iff] at h
          obtain ⟨x, h1, y, h2, z, h3, rfl⟩ := h
          have : evS cl gl (.seti x y z) = fun env s => bnd (evE cl gl z env s) fun d s => bnd (evE cl gl x env s) fun x s => bnd (evE cl gl y env s) fun k s => (setD x k d s).map fun s => ((.nx, env), s) := by funext env s; rw [evS] <;> rfl
          rw [this]
          exact ps_setiD S.gd (O.e S h1).pe (O.e S h2).pe (O.e S h3).pe (O.e S h2).sl swaps_sub
        · -- a name
          rename_i x p'
          split
          · split
            · rename_i elt gens scope p tg' it ifs
              split
              rotate_left
              · exact stuckD
              rename_i hc
              simp only [Bool.and_eq_true, Bool.not_eq_true'] at hc
              obtain ⟨⟨hc1, hc2⟩, hc3⟩ := hc
              refine getD fun s h => ?_
              simp only [Option.bind_eq_some_iff, Option.map_eq_some_iff] at h
              obtain ⟨i, h1, r, h2, rfl⟩ := h
              have L1 := O.lc S h2
              obtain ⟨own, ho, hb⟩ := L1.own
              have : evE cl gl (.comp r.1 r.2.1 r.2.2.1 r.2.2.2.1 r.2.2.2.2) = lcR (evI cl gl r.2.2.1) (evC cl gl r.2.2.2.2) (evE cl gl r.2.2.2.1) r.2.1 (own.map (·.2)) := by
                funext env s
                rw [evE, ho] <;> rfl
              rw [evS_asg, this]
              have hl := isLoc_ok S hc1
              exact ps_setLcD S.gd (slotOf_ok S h1) hl (sw_true (by rw [S.sc]; exact hk) hl hc2 hc3) (fun i hi => by rw [← ho]; exact L1.sub i hi) L1.iter hb L1.tgt L1.ifs L1.elt L1.se
            · exact stuckD
          · split
            · exact stuckD
            rename_i hnc
            refine getD fun s h => ?_
            simp only [Option.bind_eq_some_iff, Option.map_eq_some_iff] at h
            obtain ⟨t, h1, z, h2, rfl⟩ := h
            rw [evS_asg]
            exact ps_asgD (O.e S h2).pe ((ok_t S 60).1 h1).1 (show swapsWith v (some (.Name x p')) pos.line X.env = _ from swaps_not (by simpa using hnc)) (by
              cases v <;> rfl) (fun _ _ z => nomatch z)
        · -- a tuple
          rename_i ts kt pt
          split
          · rename_i vs k2 p2
            split
            · rename_i hsw
              refine getD fun s h => ?_
              simp only [Option.bind_eq_some_iff, Option.map_eq_some_iff] at h
              obtain ⟨t, h1, z, h2, rfl⟩ := h
              rw [evS_asg]
              exact ps_asgD (O.e S h2).pe ((ok_t S 60).1 h1).1 swaps_tup (swK_ok S.sc hk hsw) (fun _ _ z => nomatch z)
            · split
              · refine getD fun s h => ?_
                simp only [Option.bind_eq_some_iff] at h
                obtain ⟨i, h1, j, h2, h⟩ := h
                split at h
                rotate_left
                · cases h
                rename_i hc
                simp only [Bool.and_eq_true, decide_eq_true_eq] at hc
                obtain ⟨⟨⟨hc1, hc2⟩, hc3⟩, hc4⟩ := hc
                simp only [Option.map_eq_some_iff] at h
                obtain ⟨zs, h3, rfl⟩ := h
                have : evE cl gl (.tup zs) = fun env s => bnd (evEs cl gl zs env s) fun ds s => newT s ds := by funext env s; rw [evE] <;> rfl
                rw [evS_asg, this]
                exact ps_parD S.gd (slotOf_ok S h1) (slotOf_ok S h2) hc4 (isLoc_ok S hc2) (isLoc_ok S hc3) (O.as S h3).1 (swK_ok S.sc hk hc1) swaps_tup
              · refine getD fun s h => ?_
                simp only [Option.bind_eq_some_iff] at h
                obtain ⟨i, h1, j, h2, l, h0, h⟩ := h
                split at h
                rotate_left
                · cases h
                rename_i hc
                simp only [Bool.and_eq_true, decide_eq_true_eq] at hc
                obtain ⟨⟨⟨⟨⟨⟨hc1, hc2⟩, hc3⟩, hc4⟩, hc5⟩, hc6⟩, hc7⟩ := hc
                simp only [Option.map_eq_some_iff] at h
                obtain ⟨zs, h3, rfl⟩ := h
                have : evE cl gl (.tup zs) = fun env s => bnd (evEs cl gl zs env s) fun ds s => newT s ds := by funext env s; rw [evE] <;> rfl
                rw [evS_asg, this]
                exact ps_par3D S.gd (slotOf_ok S h1) (slotOf_ok S h2) (slotOf_ok S h0) hc5 hc6 hc7 (isLoc_ok S hc2) (isLoc_ok S hc3) (isLoc_ok S hc4) (O.as S h3).1 (swK_ok S.sc hk hc1) swaps_tup
              · exact stuckD
            · exact stuckD
          · rename_i hnt
            refine getD fun s h => ?_
            simp only [Option.bind_eq_some_iff, Option.map_eq_some_iff] at h
            obtain ⟨t, h1, z, h2, rfl⟩ := h
            rw [evS_asg]
            refine ps_asgD (O.e S h2).pe ((ok_t S 60).1 h1).1 swaps_tup (stores_none ?_ (fun _ _ z => nomatch z)) (fun _ _ z => nomatch z)
            cases v <;> first | rfl | exact absurd rfl (hnt _ _ _)
        · exact stuckD
      · -- an expression
        split
        · exact stuckD
        rename_i e pos hnc
        refine getD fun s h => ?_
        simp only [Option.map_eq_some_iff] at h
        obtain ⟨x, h1, rfl⟩ := h
        have : evS cl gl (.ex x) = fun env s => bnd (evE cl gl x env s) fun _ s => some ((.nx, env), s) := by funext env s; rw [evS] <;> rfl
        rw [this]
        exact ps_exD (O.e S h1).pe (swaps_not (by simpa using hnc))
      · -- return
        split
        · refine getD fun s h => ?_
          simp only [Option.map_eq_some_iff] at h
          obtain ⟨x, h1, rfl⟩ := h
          have : evS cl gl (.ret (some x)) = fun env s => bnd (evE cl gl x env s) fun d s => some ((.rt d, env), s) := by funext env s; rw [evS] <;> rfl
          rw [this]
          exact ps_retD (O.e S h1).pe
        · have : evS cl gl (.ret none) = fun env s => some ((.rt .non, env), s) := by funext env s; rw [evS] <;> rfl
          rw [this]
          exact ps_retND
      · -- if
        refine getD fun s h => ?_
        simp only [Option.map_eq_some_iff] at h
        obtain ⟨x, h1, rfl⟩ := h
        rename_i c a b pos
        have : evS cl gl (.ite x (cSs k sc n a) (cSs k sc n b)) = fun env s => bnd (evE cl gl x env s) fun x s => match x with
          | .bl true => evSs cl gl (cSs k sc n a) env s
          | .bl false => evSs cl gl (cSs k sc n b) env s
          | _ => none := by funext env s; rw [evS] <;> rfl
        rw [this]
        exact ps_iteD (O.e S h1).pt (i2 a) (i2 b)
      · -- while
        rename_i c b el pos
        split
        · exact stuckD
        rename_i hel
        have hel : el = [] := by simpa using hel
        subst hel
        refine getD fun s h => ?_
        simp only [Option.map_eq_some_iff] at h
        obtain ⟨x, h1, rfl⟩ := h
        have : evS cl gl (.whl x (cSs k sc n b)) = fun env s => whlL (evE cl gl x) (evSs cl gl (cSs k sc n b)) turnsMost env s := by funext env s; rw [evS] <;> rfl
        rw [this]
        exact ps_whlD S.gd (O.e S h1).pt (i2 b)
      · -- for
        rename_i tg it b el pos
        split
        · exact stuckD
        rename_i hel
        have hel : el = [] := by simpa using hel
        subst hel
        refine getD fun s h => ?_
        simp only [Option.bind_eq_some_iff, Option.map_eq_some_iff] at h
        obtain ⟨t, h1, i, h2, rfl⟩ := h
        have : evS cl gl (.for t i (cSs k sc n b)) = forR (evI cl gl i) t (evSs cl gl (cSs k sc n b)) := by funext env s; rw [evS] <;> rfl
        rw [this]
        exact ps_forD S.gd (O.i S h2).1 ((ok_t S 60).1 h1).1 (i2 b) (O.i S h2).2
      · have : evS cl gl .brk = fun env s => some ((.bk, env), s) := by funext env s; rw [evS] <;> rfl
        rw [this]
        exact ps_brkD
      · have : evS cl gl .cnt = fun env s => some ((.ct, env), s) := by funext env s; rw [evS] <;> rfl
        rw [this]
        exact ps_cntD
      · have : evS cl gl .pass = fun env s => some ((.nx, env), s) := by funext env s; rw [evS] <;> rfl
        rw [this]
        exact ps_passD
      · exact stuckD
    · intro sts
      cases sts with
      | nil =>
        have : evSs cl gl [] = fun env s => some ((.nx, env), s) := by funext env s; rw [evSs] <;> rfl
        rw [cSs, this]
        exact pss_nilD
      | cons st sts =>
        have : evSs cl gl (cS k sc n st :: cSs k sc n sts) = fun env s => bnd (evS cl gl (cS k sc n st) env s) fun r s => match r with
          | (.nx, env) => evSs cl gl (cSs k sc n sts) env s
          | (f, env) => some ((f, env), s) := by funext env s; rw [evSs] <;> rfl
        rw [cSs, this]
        exact pss_consD (i1 st) (i2 sts)
end
end Ev
end

section
set_option autoImplicit false
set_option maxRecDepth 100000
set_option linter.unusedVariables false
/-! Ev24: defs -/
namespace Ev
open PySem L2 PySem.SeqAt PyProof.Rows PySem.Calls

section
variable {P : Program} {w : World} {K : PySem.W.Frag} {ι ι' : List Addr} {H H' : Hp}
theorem rep_nil (H : Hp) : Rep P w K [] H [] := ⟨rfl, List.nodup_nil, fun i c a e => by simp at e⟩
mutual
theorem shift_nk : ∀ {d : D} {k : NestedKey} (n : Nat), d.nk = some k → d.shift n = d
  | .non, _, _, _ => by rw [D.shift]
  | .bl _, _, _, _ => by rw [D.shift]
  | .int _, _, _, _ => by rw [D.shift]
  | .str _, _, _, _ => by rw [D.shift]
  | .tup ds, k, n, h => by
    simp only [D.nk, Option.map_eq_some_iff] at h
    obtain ⟨ks, h1, _⟩ := h
    rw [D.shift, shifts_nk n h1]
  | .ref _, _, _, h => by simp [D.nk] at h
  | .scr _, _, _, h => by simp [D.nk] at h
theorem shifts_nk : ∀ {ds : List D} {ks : List NestedKey} (n : Nat), D.nks ds = some ks → D.shifts n ds = ds
  | [], _, _, _ => by rw [D.shifts]
  | d :: ds, ks, n, h => by
    simp only [D.nks, Option.bind_eq_some_iff, Option.map_eq_some_iff] at h
    obtain ⟨x, h1, xs, h2, _⟩ := h
    rw [D.shifts, shift_nk n h1, shifts_nk n h2]
end
theorem paired_mapL {α β γ : Type} {F : α → β → Prop} {G : γ → β → Prop} {f : α → γ} (h : ∀ a b, F a b → G (f a) b) : ∀ {l : List α} {m : List β}, Paired F l m → Paired G (l.map f) m
  | _, _, .nil => .nil
  | _, _, .cons r t => .cons (h _ _ r) (paired_mapL h t)
theorem DctAt.shift (pre : List Addr) {kvs : List (D × D)} {a : Addr} {u : HO} (h : DctAt P w K ι H kvs a u) : DctAt P w K (pre ++ ι) H (kvs.map fun kv => (kv.1.shift pre.length, kv.2.shift pre.length)) a u := by
  rcases h with ⟨kv', e, hp⟩ | ⟨xs, e, hl, hn, hp⟩
  · refine .inl ⟨kv', e, paired_mapL (fun p q ⟨h1, h2⟩ => ⟨?_, h2.shift pre⟩) hp⟩
    show p.1.shift _ = _
    rw [h1]
    cases q.1 <;> rfl
  · refine .inr ⟨xs, e, hl, hn, paired_mapL (fun p q ⟨h1, h2, h3, v, h4, h5⟩ => ⟨?_, h2, ?_, v, h4, h5.shift pre⟩) hp⟩
    · show (p.1.shift _).nk = _
      rw [shift_nk _ h1]
      exact h1
    · exact h3.shift pre
theorem CellAt.shift (pre : List Addr) {c : C} {a : Addr} (h : CellAt P w K ι H c a) : CellAt P w K (pre ++ ι) H (c.shift pre.length) a := by
  cases c with
  | lst ds =>
    obtain ⟨vs, h1, h2⟩ := h
    have := h2.shift pre
    rw [D.shifts_map] at this
    exact ⟨vs, h1, this⟩
  | dct kvs => obtain ⟨u, h1, h2⟩ := h; exact ⟨u, h1, h2.shift pre⟩
  | lck kvs => obtain ⟨o, u, h1, h2⟩ := h; exact ⟨o, u, h1, h2.shift pre⟩
end

/-- the outcome of a def's body -/
theorem bodyD_some {cl : Str → List D → Sto → Option (D × Sto)} {gl : Str → Option D} {fd : Fd} {ds : List D} {s s' : Sto} {d : D} (h : bodyD cl gl fd ds s = some (d, s')) :
    (∃ env, evSs cl gl fd.body (ds.map some ++ List.replicate (fd.slots - ds.length) none) s = some ((.rt d, env), s')) ∨ (d = .non ∧ ∃ env, evSs cl gl fd.body (ds.map some ++ List.replicate (fd.slots - ds.length) none) s = some ((.nx, env), s')) := by
  unfold bodyD at h
  split at h
  · rename_i e; cases h; exact .inl ⟨_, e⟩
  · rename_i e; cases h; exact .inr ⟨rfl, _, e⟩
  · cases h

structure Tab (P : Program) (w : World) (K : PySem.W.Frag) (mg : Str → Option Value) (tb : Str → Option Fd) (gl : Str → Option D) (own gls : Str → Bool) : Prop where
  nob : ∀ x ∈ bltns, mg x = none
  cgl : ∀ x, gls x = true → ∀ d, gl x = some d → ∃ u v, mg x = some u ∧ RelV v u ∧ ∀ ι H, RD K ι H d v
  defs : ∀ f, own f = true → ∃ (fa : Addr) (fd : FuncData) (st : Stmt) (N ps : List Str), mg f = some (.ref fa) ∧ L2.Fun K f f st fa fd ∧ Binds K fd ps [] ∧ FnScope N ps (defScope st) ∧
    tb f = some ⟨ps.length, N.length, cSs ⟨N, own, gls, true⟩ (defScope st) 60 (defBody st)⟩
section
variable {P : Program} {w : World} {K : PySem.W.Frag} {mg : Str → Option Value} {base : Heap} {tb : Str → Option Fd} {gl : Str → Option D} {own gls : Str → Bool}
theorem repE_start {ι : List Addr} {H : Hp} {N : List Str} {ds : List D} {vs : List V} (rd : RDs K ι H ds vs) : RepE K ι H (ds.map some ++ List.replicate (N.length - ds.length) none) (L2.start N vs) := by
  have hl := rd.length
  unfold L2.start
  rw [hl]
  refine ⟨by simp [hl], fun i d e => ?_⟩
  by_cases hi : i < ds.length
  · rw [List.getElem?_append_left (by simpa using hi), List.getElem?_map, Option.map_eq_some_iff] at e
    obtain ⟨d', e1, e2⟩ := e
    cases e2
    obtain ⟨v, hv, r⟩ := rd.get e1
    exact ⟨v, by rw [List.getElem?_append_left (by simpa [hl] using hi), List.getElem?_map, hv]; rfl, r⟩
  · rw [List.getElem?_append_right (by simpa using hi), List.getElem?_replicate] at e
    split at e <;> cases e
/-- a def of the table keeps its promise -/
theorem fnG_all (T : Tab P w K mg tb gl own gls) : ∀ (n : Nat) (f : Str), own f = true → ∃ fa, mg f = some (.ref fa) ∧ PySem.W.keepIn K (.ref fa) = true ∧ FnG P w K mg base n fa (rCal P w K (callD tb gl n f))
  | 0, f, hf => by
    obtain ⟨fa, fd, st, N, ps, h1, h2, _⟩ := T.defs f hf
    refine ⟨fa, h1, h2.kp, fun A outer s H us vs Q hr hg e0 r h => ?_⟩
    obtain ⟨ι, s', ds, d, s'', R, rd, e, q⟩ := h
    simp [callD] at e
  | n + 1, f, hf => by
    have ih := fnG_all T n
    obtain ⟨fa, fd, st, N, ps, h1, h2, hb, SC, htb⟩ := T.defs f hf
    refine ⟨fa, h1, h2.kp, fun A outer s H us vs Q hr hg e0 r h => ?_⟩
    obtain ⟨oc, od, kV, doc, pm, an, cdv, ct, osl, rfl, lk, hcd⟩ := h2.ex
    -- a run of the body
    have lem : ∀ (ι0 : List Addr) (st0 : Sto) (ds : List D) (v : D) (s0 : Sto), Rep P w K ι0 H st0 → RDs K ι0 H ds vs → ds.length = ps.length → bodyD (callD tb gl n) gl ⟨ps.length, N.length, cSs ⟨N, own, gls, true⟩ (defScope st) 60 (defBody st)⟩ ds st0 = some (v, s0) → Ret P w K ι0 H Q v s0 →
        codeAny (model P w) A (.call (.ref fa) ⟨us, []⟩) (CR (fun _ _ _ _ _ _ => False) outer P w H s Q (fun _ _ _ => False)) s := by
      intro ι0 st0 ds v s0 R0 rd hdl e q
      have hlv : vs.length = ps.length := by rw [rd.length, hdl]
      have hlu : us.length = ps.length := by rw [← r.length, hlv]
      have spv : ∀ vs' H0 Q0 (E0 : XK), (vs' = vs ∧ H0 = H ∧ Q0 = Q) → vs'.length = ps.length := fun vs' _ _ _ h => by rw [h.1]; exact hlv
      have KX : K.In s.heap := e0.mod.kin.keeps fun b o e => (e0.bs b o e).1
      have lim : s.heap.NoLimit := e0.mod.nolimit.keeps fun b o e => (e0.bs b o e).1
      have hkind : ∀ y ∈ ps.zip us, (defScope st).names.lookup y.1 = some .local ∨ ((defScope st).names.lookup y.1 = some .cell ∧ ((cellsFrom (s.heap.objs.size + 1) (defScope st).names []).lookup y.1).isSome = true) := fun ⟨m, u⟩ hy => by
        rcases SC.par m (List.of_mem_zip hy).1 with q | q
        · exact .inl q
        · exact .inr ⟨q, PySem.W.cellsFrom_some _ _ _ (.inl q)⟩
      have hbd := hb s us KX (by simpa using hlu)
      rw [List.append_nil] at hbd
      refine codeAny_call_function hr.depth (KX _ _ lk) rfl SC.co SC.gen rfl (PySem.W.codeRec_of KX hcd) (hbd _ _ _ _ ?_)
      refine wpAny_newFunctionEnv_cells SC.kind hkind fun env he s1 x => ?_
      subst he
      refine ⟨lim.keeps x.toInCall.keep, codeAny_func ?_⟩
      have I := inv_start (CX := fun _ _ _ _ _ _ => False) (E := fun _ _ _ => False) SC hr.hd e0 hlv r x
      have S : Sim (callD tb gl n) gl ⟨N, own, gls, true⟩ (defScope st) ((cxOf (fun _ _ _ _ _ _ => False) P w K mg base N f (defScope st) fa cdv A outer s H (fun _ _ _ => False)).nox) := by
        have hd := hr.deeper (envOfC f (defScope st) s.heap.objs.size fa cdv)
        refine ⟨rfl, rfl, ⟨rfl, ?_, hg, SC.nd, rfl⟩, fun _ _ => rfl, T.nob, ⟨n, hd, ih⟩, T.cgl⟩
        have := hd.un
        show (A.deeper _).units + 200 < cLine
        omega
      have B := ((ok_s S SC.kind 60).2 (defBody st)).nox
      refine wpAny_mono (B.run [] s1 (L2.start N vs) H { nx := fun _ H' => Q .non H', rt := Q } I ?_) (fun fl s' hs => ?_) fun e s' hs => hs
      · rcases bodyD_some e with ⟨env, e⟩ | ⟨rfl, env, e⟩
        · exact ⟨ι0, _, st0, _, s0, repE_start (N := N) rd, R0, e, q⟩
        · exact ⟨ι0, _, st0, _, s0, repE_start (N := N) rd, R0, e, fun σ' H' ι' g R' hE' => q .non H' ι' g R' (by rw [RD])⟩
      · have fin : ∀ {σ' : L2.St} {H' : Hp} {v : V} {u : Value}, Inv (cxOf (fun _ _ _ _ _ _ => False) P w K mg base N f (defScope st) fa cdv A outer s H (fun _ _ _ => False)) [] σ' H' s' → RelV v u → Q v H' → CE outer P w H s Q u s' :=
          fun {σ' H' v u} J rv q => ⟨v, H', J.os, J.bare, J.base, J.hok, rv, q⟩
        cases fl with
        | ret u =>
          obtain ⟨v, σ', H', J, rv, q⟩ := hs
          exact fin J rv q
        | next =>
          obtain ⟨σ', H', J, q⟩ := hs
          exact fin (v := V.non) (u := Value.none) J rfl q
        | brk =>
          obtain ⟨_, _, _, q⟩ := hs
          exact False.elim q
        | cont =>
          obtain ⟨_, _, _, q⟩ := hs
          exact False.elim q
    obtain ⟨ι, st0, ds, d, s', R, rd, e, q⟩ := h
    rw [callD, htb] at e
    simp only at e
    split at e
    rotate_left
    · cases e
    rename_i hdl
    split at e
    · rename_i hpu
      split at e
      rotate_left
      · cases e
      rename_i v sub eb
      refine lem [] [] ds v sub (rep_nil H) (rd.pure ⟨fun _ _ e => e, fun _ _ e => e⟩ hpu) hdl eb fun vx H' ι' g' R' rdv => ?_
      have st : Stay K H H' := g'.stay (rep_nil (P := P) (w := w) H)
      have keep : ∀ a o, H a = some o → H' a = some o := fun a o e => g'.keep a o e (by simp)
      have hix : ∀ (i : Nat) (a : Addr), ι[i]? = some a → (ι ++ ι')[i]? = some a := fun i a e => by
        rw [List.getElem?_append_left (List.getElem?_eq_some_iff.mp e).1]; exact e
      have cell : ∀ {κ : List Addr}, (∀ (i : Nat) (a : Addr), ι[i]? = some a → κ[i]? = some a) → ∀ (i : Nat) (c : C) (a : Addr), st0[i]? = some c → ι[i]? = some a → CellAt P w K κ H' c a := fun hκ i c a e1 e2 => by
        have ce := R.cell i c a e1 e2
        obtain ⟨o, ho, _⟩ := ce.there
        exact ce.mono st hκ (by rw [ho]; exact keep a o ho)
      split at e
      · rename_i hvp
        cases e
        exact q vx H' ι ⟨⟨[], by simp, by simp⟩, fun a o e _ => keep a o e, fun a o u e => keep a _ e⟩ ⟨R.len, R.nd, cell fun _ _ e => e⟩ (rdv.pure ⟨fun _ _ e => e, fun _ _ e => e⟩ hvp)
      · simp only [Option.some.injEq, Prod.mk.injEq] at e
        obtain ⟨rfl, rfl⟩ := e
        obtain ⟨new, enew, hnew⟩ := g'.pre
        have enew : ι' = new := by simpa using enew
        subst enew
        refine q vx H' (ι ++ ι') ⟨⟨ι', rfl, hnew⟩, fun a o e _ => keep a o e, fun a o u e => keep a _ e⟩ ⟨by simp [R.len, R'.len], List.nodup_append.mpr ⟨R.nd, R'.nd, fun a ha b hb z => ?_⟩, fun i c a e e' => ?_⟩ ?_
        · subst z
          exact R.notNone (hnew a hb) ha
        · by_cases hi : i < st0.length
          · rw [List.getElem?_append_left hi] at e
            rw [List.getElem?_append_left (by rw [R.len]; exact hi)] at e'
            exact cell hix i c a e e'
          · rw [List.getElem?_append_right (by omega), List.getElem?_map, Option.map_eq_some_iff] at e
            rw [List.getElem?_append_right (by rw [R.len]; omega), R.len] at e'
            obtain ⟨c0, e1, rfl⟩ := e
            have := (R'.cell _ c0 a e1 e').shift ι
            rw [R.len] at this
            exact this
        · have := rdv.shift ι
          rw [R.len] at this
          exact this
    · exact lem ι st0 ds d s' R rd hdl e q
end
end Ev
end

section
set_option autoImplicit false
set_option maxRecDepth 100000
set_option linter.unusedVariables false
/-! Ev25: a law by its run -/
namespace Ev
open PySem L2 PySem.SeqAt PyProof.Rows PySem.Calls

section
variable {P : Program} {w : World} {K : PySem.W.Frag} {mg mb : Str → Option Value} {tb : Str → Option Fd} {gl : Str → Option D} {own gls : Str → Bool} {n : Nat}
/-- what the entry needs, for an abstract heap that holds at most the script -/
theorem enter_at {s₁ : Shared} {a fa : Addr} {vs : List Value} {ns : List Int} {H : Hp} (KX : K.In s₁.heap) (hns : s₁.heap.Ns mainGlobals mg) (hb : s₁.heap.Ns builtinsNs mb) (hbb : ∀ x : Str, x ≠ "__name__" → mb x = bootBuiltins x) (hlim : s₁.heap.NoLimit) (hg : s₁.gens = #[])
    (ha : s₁.heap.get? a = some { cls := .type "list", data := .seq vs.toArray }) (hr : Room n callerA) (F : ∀ base : Heap, FnG P w K mg base n fa (rCal P w K (callD tb gl n "law"))) (hlaw : callD tb gl n "law" [.scr ns] [] = some (.bl true, []))
    (hok : HOk P w H s₁.heap) (hro : RoL K H a (ns.map V.int)) (only : ∀ b u, H b = some u → b = a ∧ ∃ o xs, u = .frz o (.lst xs)) (hk : H a ≠ none → K.lookup a = none) :
    codeAny (model P w) callerA (.call (.ref fa) ⟨[.ref a], []⟩) (fun r s' => r = .ok (.ret (.bool true)) ∧ OldK s₁.heap s'.heap ∧ s'.os = s₁.os ∧ AllBare s'.gens) s₁ := by
  have free : ∀ {b : Addr} {o : Obj}, s₁.heap.get? b = some o → (∀ vs' n', o.data ≠ .seq vs' n') → H b = none := fun {b o} e nd => by
    cases q : H b with
    | none => rfl
    | some u =>
      obtain ⟨rfl, _⟩ := only b u q
      rw [ha] at e; cases e
      exact absurd rfl (nd _ _)
  have ns' : ∀ {b : Addr} {m : Str → Option Value}, s₁.heap.Ns b m → (hidT s₁.heap H).Ns b m := fun {b m} ⟨o, es, ep, e, d, r⟩ =>
    ⟨o, es, ep, hidT_get e (free e fun vs' n' z => by rw [d] at z; cases z), d, r⟩
  have kin : K.In (hidT s₁.heap H) := fun b o e => hidT_get (KX b o e) (by
    cases q : H b with
    | none => rfl
    | some u =>
      obtain ⟨rfl, _⟩ := only b u q
      rw [hk (by rw [q]; simp)] at e; cases e)
  have M : Mod K mg (hidT s₁.heap H) := ⟨kin, ns' hns, ⟨mb, ns' hb, hbb⟩, let ⟨mc, h1, h2⟩ := hlim; ⟨mc, ns' h1, h2⟩⟩
  have none_in : ∀ b : Addr, b ∉ frs ([] : List PySem.Env) := fun b z => by simp [frs] at z
  have e0 : Env0 P w K mg (hidT s₁.heap H) callerA [] s₁ H := ⟨rfl, M, fun b o e => of_hidT e, Nat.le_of_eq (hidT_size _ _), trivial, fun b z => absurd z (none_in b), hok, .of_eq hg⟩
  have sp : rCal P w K (callD tb gl n "law") [.ref a] H (fun v _ => v = .bl true) := ⟨[], [], [.scr ns], .bl true, [], rep_nil H, by
    rw [RDs]
    exact ⟨.ref a, [], rfl, by rw [RD]; exact ⟨a, rfl, hro⟩, by rw [RDs]⟩, hlaw, fun v H' ι' g R' rd => by rw [RD] at rd; exact rd⟩
  refine codeAny_mono (F _ callerA [] s₁ H [.ref a] [.ref a] _ hr rfl e0 (.cons rfl .nil) sp) fun r s' h => ?_
  cases r with
  | error e => exact False.elim h
  | ok fl =>
    cases fl with
    | next => exact False.elim h
    | brk => exact False.elim h
    | cont => exact False.elim h
    | ret u =>
      obtain ⟨v, H', os, bare, un, hok', rv, q⟩ := h
      have q : v = .bl true := q
      subst q
      obtain rfl : u = Value.bool true := rv
      refine ⟨rfl, OldK.of_keep fun b o e => ?_, os, bare⟩
      cases q : H b with
      | none => exact un.keep b o e q (none_in b) (by simp)
      | some u =>
        obtain ⟨_, ob, xs, rfl⟩ := only b u q
        have := un.frzs b ob _ q
        obtain ⟨e1, _⟩ := hok b _ q
        obtain ⟨e2, _⟩ := hok' b _ this
        rw [e] at e1; cases e1
        exact e2
end
/-- THE HEAD -/
theorem walkEv {l : PySem.W.OpenLaw} {q : Program} {loose : List Str} {XP : (Str → Option Value) → Heap → Prop} {YP : World → Heap → Prop} {d : DefRec} {K : Params → PySem.W.Frag} {tb : Str → Option Fd} {gl : Str → Option D} {own gls : Str → Bool} {n : Nat}
    (hn : l.most = some 63) (hdf : d.params.defaults = []) (hd : d.name = "law") (hY : ∀ (w : World) (h : Heap), YP w h → (K w.params).In h)
    (T : ∀ (w : World) (mg : Str → Option Value) (h : Heap), (K w.params).In h → h.Ns mainGlobals mg → Tab l.prog w (K w.params) mg tb gl own gls) (hown : own "law" = true) (hr : Room n callerA)
    (hlaw : ∀ ns : List Int, ns.length ≤ 63 → callD tb gl n "law" [.scr ns] [] = some (.bl true, [])) :
    PySem.W.WalkO q loose XP YP l.row.toRowW d [] (fun f vs => PySem.call f vs) := by
  refine Att.attach_call hn hdf fun w s₀ s₁ mg mb fa o pm cd doc a vs ns G Y ho hd' hcd hmg hobj hints hlen hg => ?_
  have KX := hY w _ Y
  have T1 := T w mg _ KX G.T.g
  have F : ∀ base : Heap, FnG l.prog w (K w.params) mg base n fa (rCal l.prog w (K w.params) (callD tb gl n "law")) := fun base => by
    obtain ⟨fa', hm, _, F⟩ := fnG_all (base := base) T1 n "law" hown
    rw [hd, hm] at hmg
    cases hmg
    exact F
  have rv := vals_ints hints
  have hl : (ns.map V.int).length ≤ sizeLine := by
    rw [List.length_map, sizeLine_eq]
    omega
  have hlv : vs.length = ns.length := hints.length
  cases hk : (K w.params).lookup a with
  | some oa =>
    have e := KX a oa hk
    rw [hobj] at e
    cases e
    exact enter_at (H := fun _ => none) KX G.T.g G.T.b G.T.builtins G.T.nolimit hg hobj hr F (hlaw ns hlen) (fun b u z => nomatch (show (none : Option HO) = some u from z))
      (.inr ⟨_, vs.toArray, _, hk, rfl, rfl, rfl, by rw [List.size_toArray, hlv]; simpa using hl, by simpa using rv⟩) (fun b u z => nomatch (show (none : Option HO) = some u from z)) fun z => absurd rfl z
  | none =>
    have at_a : ∀ (b : Addr) (u : HO), (if b = a then some (HO.frz { cls := .type "list", data := .seq vs.toArray } (.lst (ns.map V.int))) else none) = some u → b = a ∧ u = .frz { cls := .type "list", data := .seq vs.toArray } (.lst (ns.map V.int)) := fun b u z => by
      by_cases h : b = a
      · rw [if_pos h] at z
        exact ⟨h, (Option.some.inj z).symm⟩
      · rw [if_neg h] at z
        cases z
    refine enter_at (H := fun b => if b = a then some (.frz { cls := .type "list", data := .seq vs.toArray } (.lst (ns.map V.int))) else none) KX G.T.g G.T.b G.T.builtins G.T.nolimit hg hobj hr F (hlaw ns hlen) (fun b u z => ?_)
      (.inl ⟨_, if_pos rfl⟩) (fun b u z => ?_) fun _ => hk
    · obtain ⟨rfl, rfl⟩ := at_a b u z
      exact ⟨hobj, hl, vs, _, rv, hobj⟩
    · obtain ⟨rfl, rfl⟩ := at_a b u z
      exact ⟨rfl, _, _, rfl⟩
end Ev
end

section
set_option autoImplicit false
set_option maxRecDepth 100000
set_option linter.unusedVariables false
/-! Ev26: to reckon with runs -/
namespace Ev
open PySem L2

section
variable {cl : Str → List D → Sto → Option (D × Sto)} {gl : Str → Option D} {env : Env} {s : Sto}
/-- a slot's value -/
def look (env : Env) (i : Nat) : Option D := (env[i]?).join
@[simp] theorem look_zero {d : D} {r : Env} : look (some d :: r) 0 = some d := rfl
@[simp] theorem look_succ {o : Option D} {r : Env} {i : Nat} : look (o :: r) (i + 1) = look r i := rfl
@[simp] theorem r_var {i : Nat} : evE cl gl (.var i) env s = (look env i).map fun d => (d, s) := by
  rw [evE]
  unfold look
  cases h : env[i]? with
  | none => rfl
  | some o => cases o <;> rfl
@[simp] theorem r_lit {d : D} : evE cl gl (.lit d) env s = some (d, s) := by rw [evE]
@[simp] theorem r_tup {es : List E} : evE cl gl (.tup es) env s = bnd (evEs cl gl es env s) fun ds s => newT s ds := by rw [evE]
@[simp] theorem r_lst {es : List E} : evE cl gl (.lst es) env s = bnd (evEs cl gl es env s) fun ds s => newL s ds := by rw [evE]
@[simp] theorem r_dct {es : List E} : evE cl gl (.dct es) env s = bnd (evEs cl gl es env s) fun ds s => (pairUp [] ds).map fun kvs => (.ref s.length, s ++ [.dct kvs]) := by rw [evE]
@[simp] theorem r_bin {op : Operator} {a b : E} : evE cl gl (.bin op a b) env s = bnd (evE cl gl a env s) fun x s => bnd (evE cl gl b env s) fun y s => binD op x y s := by rw [evE]
@[simp] theorem r_neg {a : E} : evE cl gl (.neg a) env s = bnd (evE cl gl a env s) fun x s => match x with
    | .int i => some (.int (-i), s)
    | _ => none := by rw [evE] <;> rfl
@[simp] theorem r_not {a : E} : evE cl gl (.not a) env s = bnd (evE cl gl a env s) fun x s => match x with
    | .bl b => some (.bl (!b), s)
    | _ => none := by rw [evE] <;> rfl
@[simp] theorem r_cmp {op : CmpOp} {a b : E} : evE cl gl (.cmp op a b) env s = bnd (evE cl gl a env s) fun x s => bnd (evE cl gl b env s) fun y s => (cmpD op x y s).map fun k => (.bl k, s) := by rw [evE]
@[simp] theorem r_cmp2 {op op' : CmpOp} {a b c : E} : evE cl gl (.cmp2 op op' a b c) env s = bnd (evE cl gl a env s) fun x s => bnd (evE cl gl b env s) fun y s => (cmpD op x y s).bind fun k => if k then bnd (evE cl gl c env s) fun z s => (cmpD op' y z s).map fun k => (.bl k, s) else some (.bl false, s) := by rw [evE]
@[simp] theorem r_and {a b : E} : evE cl gl (.and a b) env s = bnd (evE cl gl a env s) fun x s => match x with
    | .bl true => evE cl gl b env s
    | .bl false => some (.bl false, s)
    | _ => none := by rw [evE] <;> rfl
@[simp] theorem r_or {a b : E} : evE cl gl (.or a b) env s = bnd (evE cl gl a env s) fun x s => match x with
    | .bl true => some (.bl true, s)
    | .bl false => evE cl gl b env s
    | _ => none := by rw [evE] <;> rfl
@[simp] theorem r_ite {c a b : E} : evE cl gl (.ite c a b) env s = bnd (evE cl gl c env s) fun x s => match x with
    | .bl true => evE cl gl a env s
    | .bl false => evE cl gl b env s
    | _ => none := by rw [evE] <;> rfl
@[simp] theorem r_idx {a b : E} : evE cl gl (.idx a b) env s = bnd (evE cl gl a env s) fun x s => bnd (evE cl gl b env s) fun y s => idxD x y s := by rw [evE]
@[simp] theorem r_slc {a : E} {l h : Option E} : evE cl gl (.slc a l h) env s = bnd (evE cl gl a env s) fun x s => bnd (evO cl gl l env s) fun l s => bnd (evO cl gl h env s) fun h s => slcD x l h s := by rw [evE]
@[simp] theorem r_rev {a : E} : evE cl gl (.rev a) env s = bnd (evE cl gl a env s) fun x s => revD x s := by rw [evE]
@[simp] theorem r_call {f : Str} {es : List E} : evE cl gl (.call f es) env s = bnd (evEs cl gl es env s) fun ds s => cl f ds s := by rw [evE]
@[simp] theorem r_bif {f : B} {es : List E} : evE cl gl (.bif f es) env s = bnd (evEs cl gl es env s) fun ds s => bifD f ds s := by rw [evE]
@[simp] theorem r_mth {m : Mt} {o : E} {es : List E} : evE cl gl (.mth m o es) env s = bnd (evE cl gl o env s) fun x s => if mthOk m x s then bnd (evEs cl gl es env s) fun ds s => mthD m x ds s else none := by rw [evE]
@[simp] theorem r_star {a : E} : evE cl gl (.star a) env s = bnd (evE cl gl a env s) fun x s => (itemsD x s).map fun ds => (.tup ds, s) := by rw [evE]
@[simp] theorem r_comp {own : List Nat} {t : T} {it : Ev.It} {elt : E} {c : Option E} : evE cl gl (.comp own t it elt c) env s = bnd (evI cl gl it env s) fun g s =>
      bnd (compL (evE cl gl elt) (evC cl gl c) t (wipeD env own) g g.items [] (lockS g s)) fun acc s1 => some (.ref (unlockS g s s1).length, unlockS g s s1 ++ [.lst acc]) := by rw [evE]
@[simp] theorem r_nil : evEs cl gl [] env s = some ([], s) := by rw [evEs]
@[simp] theorem r_cons {e : E} {es : List E} : evEs cl gl (e :: es) env s = bnd (evE cl gl e env s) fun d s => bnd (evEs cl gl es env s) fun ds s => some (if e.isStar then d.spl ++ ds else d :: ds, s) := by rw [evEs]
@[simp] theorem r_onone : evO cl gl none env s = some (none, s) := by rw [evO]
@[simp] theorem r_osome {e : E} : evO cl gl (some e) env s = bnd (evE cl gl e env s) fun x s => match x with
    | .int i => some (some i, s)
    | _ => none := by rw [evO] <;> rfl
@[simp] theorem r_cnone : evC cl gl none env s = some (.bl true, s) := by rw [evC]
@[simp] theorem r_csome {e : E} : evC cl gl (some e) env s = evE cl gl e env s := by rw [evC]
@[simp] theorem r_range1 {a : E} : evI cl gl (.range1 a) env s = bnd (evE cl gl a env s) fun x s => match x with
    | .int hi => (srcRange 0 hi).map fun g => (g, s)
    | _ => none := by rw [evI] <;> rfl
@[simp] theorem r_range2 {a b : E} : evI cl gl (.range2 a b) env s = bnd (evE cl gl a env s) fun x s => bnd (evE cl gl b env s) fun y s => match x, y with
    | .int lo, .int hi => (srcRange lo hi).map fun g => (g, s)
    | _, _ => none := by rw [evI] <;> rfl
@[simp] theorem r_items {a : E} : evI cl gl (.items a) env s = bnd (evE cl gl a env s) fun x s => (srcItems x s).map fun g => (g, s) := by rw [evI]
@[simp] theorem r_seq {a : E} : evI cl gl (.seq a) env s = bnd (evE cl gl a env s) fun x s => (srcOf x s).map fun g => (g, s) := by rw [evI]

@[simp] theorem q_asg {t : T} {e : E} : evS cl gl (.asg t e) env s = bnd (evE cl gl e env s) fun d s => (setT t d env).map fun env => ((.nx, env), s) := by rw [evS]
@[simp] theorem q_seti {o i v : E} : evS cl gl (.seti o i v) env s = bnd (evE cl gl v env s) fun d s => bnd (evE cl gl o env s) fun x s => bnd (evE cl gl i env s) fun k s => (setD x k d s).map fun s => ((.nx, env), s) := by rw [evS]
@[simp] theorem q_ex {e : E} : evS cl gl (.ex e) env s = bnd (evE cl gl e env s) fun _ s => some ((.nx, env), s) := by rw [evS]
@[simp] theorem q_ret {e : E} : evS cl gl (.ret (some e)) env s = bnd (evE cl gl e env s) fun d s => some ((.rt d, env), s) := by rw [evS]
@[simp] theorem q_retN : evS cl gl (.ret none) env s = some ((.rt .non, env), s) := by rw [evS]
@[simp] theorem q_ite {c : E} {a b : List S} : evS cl gl (.ite c a b) env s = bnd (evE cl gl c env s) fun x s => match x with
    | .bl true => evSs cl gl a env s
    | .bl false => evSs cl gl b env s
    | _ => none := by rw [evS] <;> rfl
theorem q_whl {c : E} {b : List S} : evS cl gl (.whl c b) env s = whlL (evE cl gl c) (evSs cl gl b) turnsMost env s := by rw [evS]
theorem q_for {t : T} {it : Ev.It} {b : List S} : evS cl gl (.for t it b) env s = bnd (evI cl gl it env s) fun g s => bnd (forL (evSs cl gl b) t g g.items env (lockS g s)) fun r s1 => some (r, unlockS g s s1) := by rw [evS]
@[simp] theorem q_brk : evS cl gl .brk env s = some ((.bk, env), s) := by rw [evS]
@[simp] theorem q_cnt : evS cl gl .cnt env s = some ((.ct, env), s) := by rw [evS]
@[simp] theorem q_pass : evS cl gl .pass env s = some ((.nx, env), s) := by rw [evS]
@[simp] theorem q_nil : evSs cl gl [] env s = some ((.nx, env), s) := by rw [evSs]
@[simp] theorem q_cons {st : S} {sts : List S} : evSs cl gl (st :: sts) env s = bnd (evS cl gl st env s) fun r s => match r with
    | (.nx, env) => evSs cl gl sts env s
    | (f, env) => some ((f, env), s) := by rw [evSs] <;> rfl
/-- a step whose outcome is known -/
theorem q_step {st : S} {sts : List S} {env' : Env} {s' : Sto} (h : evS cl gl st env s = some ((.nx, env'), s')) : evSs cl gl (st :: sts) env s = evSs cl gl sts env' s' := by rw [q_cons, h]; rfl
@[simp] theorem t_nm {i : Nat} {d : D} : setT (.nm i) d env = some (env.set i (some d)) := by rw [setT]
@[simp] theorem t_tp {ts : List T} {ds : List D} : setT (.tp ts) (.tup ds) env = setTs ts ds env := by rw [setT]
@[simp] theorem t_nil : setTs [] [] env = some env := by rw [setTs]
@[simp] theorem t_cons {t : T} {ts : List T} {d : D} {ds : List D} : setTs (t :: ts) (d :: ds) env = (setT t d env).bind fun env => setTs ts ds env := by rw [setTs]
@[simp] theorem bnd_map_some {α β : Type} {a : α} {s : Sto} {o : Option D} {f : D → Sto → Option β} {d : D} (h : o = some d) : bnd (o.map fun d => (d, s)) f = f d s := by rw [h]; rfl
end

/-! ### calls -/
section
variable {tb : Str → Option Fd} {gl : Str → Option D} {n : Nat} {f : Str} {fd : Fd} {ds : List D} {s s' : Sto} {d : D}
/-- a call with values alone that yields one -/
theorem callP (h : tb f = some fd) (hl : ds.length = fd.params) (hp : D.pures ds = true) {v : D} {sub : Sto} (hb : bodyD (callD tb gl n) gl fd ds [] = some (v, sub)) (hv : v.pure = true) : callD tb gl (n + 1) f ds s = some (v, s) := by
  rw [callD, h]
  simp only [hl, if_true, hp, hb, hv]
/-- .. that yields new things -/
theorem callQ (h : tb f = some fd) (hl : ds.length = fd.params) (hp : D.pures ds = true) {v : D} {sub : Sto} (hb : bodyD (callD tb gl n) gl fd ds [] = some (v, sub)) (hv : v.pure = false) : callD tb gl (n + 1) f ds s = some (v.shift s.length, s ++ sub.map (C.shift s.length)) := by
  rw [callD, h]
  simp only [hl, if_true, hp, hb, hv]
  rfl
/-- a call with things -/
theorem callR' (h : tb f = some fd) (hl : ds.length = fd.params) (hp : D.pures ds = false) : callD tb gl (n + 1) f ds s = bodyD (callD tb gl n) gl fd ds s := by
  rw [callD, h]
  simp only [hl, if_true, hp]
  rfl
theorem body_rt {cl : Str → List D → Sto → Option (D × Sto)} {v : D} {env : Env} (h : evSs cl gl fd.body (ds.map some ++ List.replicate (fd.slots - ds.length) none) s = some ((.rt v, env), s')) : bodyD cl gl fd ds s = some (v, s') := by
  unfold bodyD
  rw [h]
end

/-! ### ints, tuples of ints -/
def tupI (xs : List Int) : D := .tup (xs.map .int)
theorem pures_ints : ∀ xs : List Int, D.pures (xs.map .int) = true
  | [] => rfl
  | x :: xs => by rw [List.map_cons, D.pures, pures_ints xs]; rfl
@[simp] theorem pure_tupI (xs : List Int) : (tupI xs).pure = true := by rw [tupI, D.pure, pures_ints]
theorem dataWs_ints (r : Nat → Option PyData) : ∀ xs : List Int, D.dataWs r (xs.map .int) = some (xs.map .int)
  | [] => rfl
  | x :: xs => by rw [List.map_cons, D.dataWs, dataWs_ints r xs]; rfl
@[simp] theorem data_tupI (s : Sto) (xs : List Int) : (tupI xs).data s = some (.tuple (xs.map .int)) := by
  rw [tupI, D.data, D.dataW, dataWs_ints]; rfl
theorem canLay_ints : ∀ xs : List Int, PyData.canLayAll0 (xs.map .int) = true
  | [] => rfl
  | x :: xs => by rw [List.map_cons, PyData.canLayAll0, canLay_ints xs]; rfl
theorem depth_ints : ∀ xs : List Int, PyData.depthAll (xs.map .int) = 0
  | [] => rfl
  | x :: xs => by rw [List.map_cons, PyData.depthAll, depth_ints xs]; rfl
end Ev
end

section
set_option autoImplicit false
set_option maxRecDepth 100000
set_option linter.unusedVariables false
/-! Ev27: tuples of ints: equal, keys, sorted, shown -/
namespace Ev
open PySem L2

theorem eqv_ints : ∀ a b : List Int, PyData.eqvAll (a.map .int) (b.map .int) = decide (a = b)
  | [], [] => rfl
  | [], _ :: _ => rfl
  | _ :: _, [] => rfl
  | x :: xs, y :: ys => by
    rw [List.map_cons, List.map_cons, PyData.eqvAll, PyData.eqv, eqv_ints xs ys]
    by_cases h : x = y <;> by_cases h' : xs = ys <;> simp [h, h']
theorem farL_tup (s : Sto) (a b : List D) : farL s (.tup a) (.tup b) = false := rfl
@[simp] theorem eqD_tupI (s : Sto) (a b : List Int) : eqD s (tupI a) (tupI b) = some (decide (a = b)) := by
  unfold eqD
  have : farL s (tupI a) (tupI b) = false := rfl
  rw [this]
  simp only [Bool.false_eq_true, if_false, data_tupI, Option.bind_some]
  have h1 : (PyData.tuple (a.map .int)).canLay0 = true := by rw [PyData.canLay0, canLay_ints]
  have h2 : (PyData.tuple (b.map .int)).canLay0 = true := by rw [PyData.canLay0, canLay_ints]
  have h3 : (PyData.tuple (a.map .int)).depth = 1 := by rw [PyData.depth, depth_ints]
  have h4 : (PyData.tuple (b.map .int)).depth = 1 := by rw [PyData.depth, depth_ints]
  rw [h1, h2, h3, h4]
  simp [deepMost, PyData.eqv, eqv_ints]
  rfl
@[simp] theorem eqD_int (s : Sto) (a b : Int) : eqD s (.int a) (.int b) = some (decide (a = b)) := by
  unfold eqD
  have : farL s (.int a) (.int b) = false := rfl
  rw [this]
  simp [D.data, D.dataW, PyData.canLay0, PyData.depth, PyData.eqv, deepMost]
  rfl
@[simp] theorem eqD_str (s : Sto) (a b : Str) : eqD s (.str a) (.str b) = some (decide (a = b)) := by
  rfl

/-! ### keys -/
theorem nks_ints : ∀ xs : List Int, D.nks (xs.map .int) = some (xs.map .num)
  | [] => rfl
  | x :: xs => by rw [List.map_cons, D.nks, nks_ints xs]; rfl
theorem nk_tupI (xs : List Int) : (tupI xs).nk = some (.tup (xs.map .num)) := by rw [tupI, D.nk, nks_ints]; rfl
theorem depthAll_nums : ∀ xs : List Int, NestedKey.depthAll (xs.map .num) = 0
  | [] => rfl
  | x :: xs => by rw [List.map_cons, NestedKey.depthAll, depthAll_nums xs]; rfl
theorem tupK_tupI (xs : List Int) : tupK (tupI xs) = true := by
  rw [tupI, tupK]
  simp only [nks_ints]
  rw [decide_eq_true_eq, NestedKey.depth, depthAll_nums]
  omega
/-- a dict whose keys are tuples of ints -/
def dI {α : Type} (f : α → D) (m : List (List Int × α)) : List (D × D) := m.map fun p => (tupI p.1, f p.2)
theorem tupI_inj {a b : List Int} (h : tupI a = tupI b) : a = b := by
  unfold tupI at h
  have h := D.tup.inj h
  exact List.map_inj_right (fun x y e => D.int.inj e) |>.mp h
theorem keyFits_dI {α : Type} (f : α → D) (m : List (List Int × α)) (xs : List Int) : keyFits (dI f m) (tupI xs) = true := by
  unfold keyFits
  rw [tupK_tupI]
  have : (dI f m).all (fun kv => tupK kv.1) = true := by
    rw [List.all_eq_true]
    intro p hp
    obtain ⟨q, _, rfl⟩ := List.mem_map.mp hp
    exact tupK_tupI q.1
  rw [this]
  simp
/-- look up, put -/
def lkI {α : Type} (m : List (List Int × α)) (x : List Int) : Option α := (m.find? fun p => decide (p.1 = x)).map (·.2)
def puI {α : Type} (m : List (List Int × α)) (x : List Int) (c : α) : List (List Int × α) :=
  if (m.any fun p => decide (p.1 = x)) = true then m.map (fun p => if p.1 = x then (p.1, c) else p) else m ++ [(x, c)]
theorem dget_dI {α : Type} (f : α → D) (m : List (List Int × α)) (x : List Int) : dget (dI f m) (tupI x) = (lkI m x).map f := by
  unfold dget lkI dI
  induction m with
  | nil => rfl
  | cons p m ih =>
    rw [List.map_cons]
    by_cases h : p.1 = x
    · simp [h]
    · have h' : ¬ tupI p.1 = tupI x := fun z => h (tupI_inj z)
      simp only [List.find?_cons, decide_eq_false h, decide_eq_false h']
      exact ih
theorem dput_dI {α : Type} (f : α → D) (m : List (List Int × α)) (x : List Int) (c : α) : dput (dI f m) (tupI x) (f c) = dI f (puI m x c) := by
  have hany : ((dI f m).any fun kv => decide (kv.1 = tupI x)) = (m.any fun p => decide (p.1 = x)) := by
    unfold dI
    rw [List.any_map]
    congr 1
    funext p
    simp only [Function.comp]
    by_cases h : p.1 = x
    · simp [h]
    · rw [decide_eq_false h, decide_eq_false fun z => h (tupI_inj z)]
  unfold dput puI
  rw [hany]
  split
  · unfold dI
    rw [List.map_map, List.map_map]
    refine List.map_congr_left fun p _ => ?_
    simp only [Function.comp]
    by_cases h : p.1 = x
    · rw [if_pos h, if_pos (by rw [h])]
    · rw [if_neg h, if_neg fun z => h (tupI_inj z)]
  · unfold dI
    rw [List.map_append]
    rfl

/-! ### sorted -/
def leI (a b : List Int) : Bool := decide (a ≤ b)
def sortI (l : List (List Int)) : List (List Int) := l.mergeSort leI
theorem sortI_perm (l : List (List Int)) : (sortI l).Perm l := List.mergeSort_perm _ _
theorem leI_trans (a b c : List Int) (h : leI a b = true) (h' : leI b c = true) : leI a c = true := by
  unfold leI at *
  rw [decide_eq_true_eq] at *
  exact List.le_trans h h'
theorem leI_total (a b : List Int) : (leI a b || leI b a) = true := by
  unfold leI
  rw [Bool.or_eq_true, decide_eq_true_eq, decide_eq_true_eq]
  exact List.le_total a b
theorem sortI_sorted (l : List (List Int)) : (sortI l).Pairwise (fun a b => leI a b = true) := List.pairwise_mergeSort leI_trans leI_total l
theorem leI_anti {a b : List Int} (h : leI a b = true) (h' : leI b a = true) : a = b := by
  unfold leI at *
  rw [decide_eq_true_eq] at *
  exact List.le_antisymm h h'
/-- there is but one sorted list -/
theorem sorted_uniq {l m : List (List Int)} (hl : l.Pairwise (fun a b => leI a b = true)) (hm : m.Pairwise (fun a b => leI a b = true)) (h : l.Perm m) : l = m :=
  List.Perm.eq_of_pairwise (fun _ _ _ _ h h' => leI_anti h h') hl hm h
theorem alike_ints : ∀ a b : List Int, PySem.W.alikeAll (a.map .int) (b.map .int) = true
  | [], b => by rw [List.map_nil, PySem.W.alikeAll]
  | _ :: _, [] => by rw [List.map_nil, List.map_cons, PySem.W.alikeAll]
  | x :: xs, y :: ys => by rw [List.map_cons, List.map_cons, PySem.W.alikeAll, alike_ints xs ys, PySem.W.alike]; rfl
theorem dataWs_tups (r : Nat → Option PyData) : ∀ l : List (List Int), D.dataWs r (l.map tupI) = some (l.map fun a => .tuple (a.map .int))
  | [] => rfl
  | a :: l => by
    rw [List.map_cons, D.dataWs, dataWs_tups r l, tupI, D.dataW, dataWs_ints]
    rfl
theorem sortD_tups (s : Sto) (l : List (List Int)) : sortD s (l.map tupI) = some ((sortI l).map tupI) := by
  unfold sortD dataAll
  rw [dataWs_tups]
  simp only [Option.bind_some]
  rw [if_pos]
  · congr 1
    have hz : (l.map tupI).zip (l.map fun a => PyData.tuple (a.map .int)) = l.map fun a => (tupI a, PyData.tuple (a.map .int)) := by
      induction l with
      | nil => rfl
      | cons a l ih => rw [List.map_cons, List.map_cons, List.zip_cons_cons, ih, List.map_cons]
    rw [hz, sortI]
    rw [← List.map_mergeSort (r := leI) (s := fun p q : D × PyData => !PySem.W.dataLt q.2 p.2) (f := fun a => (tupI a, PyData.tuple (a.map .int)))]
    · rw [List.map_map]
      simp
    · intro a _ b _
      show leI a b = !PySem.W.dataLt (.tuple (b.map .int)) (.tuple (a.map .int))
      rw [PySem.W.dataLt_tuple]
      have := PySem.W.dataLt_ints b a
      unfold PySem.W.rowLt at this
      rw [this]
      unfold leI
      by_cases h : b < a
      · have h' : ¬ a ≤ b := fun z => List.not_lt.mpr z h
        simp [h, h']
      · have h' : a ≤ b := List.not_lt.mp h
        simp [h, h']
  · simp only [Bool.and_eq_true, List.all_eq_true, List.mem_map, decide_eq_true_eq]
    refine ⟨⟨?_, ?_⟩, ?_⟩
    · rintro _ ⟨a, _, rfl⟩ _ ⟨b, _, rfl⟩
      rw [PySem.W.alike, alike_ints]
    · rintro _ ⟨a, _, rfl⟩
      rfl
    · rintro _ ⟨a, _, rfl⟩
      rw [PyData.depth, depth_ints]
      decide

/-! ### shown -/
theorem shown_int {i : Int} (h : i.natAbs < 10 ^ 20) : (PyData.shown (.int i)).length ≤ 21 := by
  rw [PyData.shown]
  have := int_text_length_le10 (a := i) (k := 20) (by decide) h
  rw [ofString_length]
  exact this
theorem shownAll_length : ∀ xs : List PyData, (PyData.shownAll xs).length = xs.length
  | [] => rfl
  | x :: xs => by rw [PyData.shownAll, List.length_cons, List.length_cons, shownAll_length xs]
theorem sum_le {B : Nat} : ∀ {l : List Nat}, (∀ n ∈ l, n ≤ B) → l.sum ≤ B * l.length
  | [], _ => by simp
  | n :: l, h => by
    rw [List.sum_cons, List.length_cons, Nat.mul_succ]
    have h1 := h n (List.mem_cons_self ..)
    have h2 : l.sum ≤ B * l.length := sum_le fun m hm => h m (List.mem_cons_of_mem _ hm)
    omega
theorem mem_shownAll {t : Str} : ∀ {xs : List PyData}, t ∈ PyData.shownAll xs → ∃ x ∈ xs, t = x.shown
  | [], h => by rw [PyData.shownAll] at h; cases h
  | x :: xs, h => by
    rw [PyData.shownAll] at h
    rcases List.mem_cons.mp h with rfl | h
    · exact ⟨x, List.mem_cons_self .., rfl⟩
    · obtain ⟨y, hy, e⟩ := mem_shownAll h
      exact ⟨y, List.mem_cons_of_mem _ hy, e⟩
/-- a tuple's text is no longer than its items' -/
theorem shown_tuple {xs : List PyData} {B n : Nat} (hB : ∀ x ∈ xs, x.shown.length ≤ B) (hn : xs.length ≤ n) : (PyData.shown (.tuple xs)).length ≤ (B + 2) * n + 3 := by
  rw [PyData.shown]
  have h1 := tupleText_len_le (PyData.shownAll xs)
  have h2 : ((PyData.shownAll xs).map (·.length)).sum ≤ B * ((PyData.shownAll xs).map (·.length)).length := sum_le fun m hm => by
    obtain ⟨t, ht, rfl⟩ := List.mem_map.mp hm
    obtain ⟨x, hx, rfl⟩ := mem_shownAll ht
    exact hB x hx
  rw [List.length_map, shownAll_length] at h2
  rw [shownAll_length] at h1
  have h3 : B * xs.length ≤ B * n := Nat.mul_le_mul_left B hn
  have h4 : (B + 2) * n = B * n + 2 * n := Nat.add_mul ..
  omega
theorem showAll_ints : ∀ {xs : List Int}, (∀ i ∈ xs, i.natAbs < 10 ^ 20) → PyData.showableAll (xs.map .int) = true
  | [], _ => rfl
  | x :: xs, h => by
    rw [List.map_cons, PyData.showableAll, showAll_ints fun i hi => h i (List.mem_cons_of_mem _ hi), PyData.showable]
    have := h x (List.mem_cons_self ..)
    have h2 : x.natAbs.log2 < 1920 := by
      by_cases h0 : x.natAbs = 0
      · rw [h0]; decide
      · rw [Nat.log2_lt h0]
        exact Nat.lt_of_lt_of_le this (Nat.le_trans (show 10 ^ 20 ≤ 2 ^ 100 by decide) (Nat.pow_le_pow_right (by decide) (by decide)))
    simp [h2]
theorem noDict_ints : ∀ xs : List Int, PyData.hasDictAll (xs.map .int) = false
  | [] => rfl
  | x :: xs => by rw [List.map_cons, PyData.hasDictAll, noDict_ints xs]; rfl
/-- an int's text -/
theorem repr_int {i : Int} (h : i.natAbs < 10 ^ 20) : ∃ r, ∀ s, reprD s (.int i) = some r := by
  refine ⟨PyData.shown (.int i), fun s => ?_⟩
  unfold reprD
  have hs : PyData.showable (.int i) = true := by
    have := showAll_ints (xs := [i]) (fun j hj => by rw [List.mem_singleton] at hj; subst hj; exact h)
    rw [List.map_cons, List.map_nil, PyData.showableAll, PyData.showableAll, Bool.and_true] at this
    exact this
  have hl := shown_int h
  have hl2 : (PyData.shown (.int i)).length ≤ L := Nat.le_trans hl (by decide)
  show (if _ then _ else _) = _
  rw [if_pos]
  simp only [hs, Bool.true_and, Bool.and_eq_true, decide_eq_true_eq, Bool.not_eq_true']
  exact ⟨⟨rfl, Nat.zero_le _⟩, hl2⟩
/-- a row: little things with counts -/
def rowD (l : List (List Int × Nat)) : D := .tup (l.map fun p => .tup [tupI p.1, .int p.2])
theorem data_row (s : Sto) (l : List (List Int × Nat)) : (rowD l).data s = some (.tuple (l.map fun p => .tuple [.tuple (p.1.map .int), .int p.2])) := by
  have : ∀ r : Nat → Option PyData, D.dataWs r (l.map fun p => .tup [tupI p.1, .int p.2]) = some (l.map fun p => .tuple [.tuple (p.1.map .int), .int p.2]) := fun r => by
    induction l with
    | nil => rfl
    | cons p l ih =>
      rw [List.map_cons, D.dataWs, ih, D.dataW, D.dataWs, D.dataWs, D.dataWs, tupI, D.dataW.eq_5, dataWs_ints]
      rfl
  unfold rowD D.data
  rw [D.dataW, this]
  rfl
theorem repr_row {l : List (List Int × Nat)} (hl : l.length ≤ 5000) (hp : ∀ p ∈ l, p.1.length ≤ 30 ∧ (∀ i ∈ p.1, i.natAbs < 10 ^ 20) ∧ p.2 < 10 ^ 20) : ∃ r, ∀ s, reprD s (rowD l) = some r := by
  refine ⟨PyData.shown (.tuple (l.map fun p => .tuple [.tuple (p.1.map .int), .int p.2])), fun s => ?_⟩
  unfold reprD
  rw [data_row]
  simp only [Option.bind_some]
  have h1 : ∀ p ∈ l, (PyData.shown (.tuple [.tuple (p.1.map .int), .int p.2])).length ≤ (693 + 2) * 2 + 3 := fun p hp' => by
    obtain ⟨a, b, c⟩ := hp p hp'
    refine shown_tuple (fun x hx => ?_) (by simp)
    simp only [List.mem_cons, List.not_mem_nil, or_false] at hx
    rcases hx with rfl | rfl
    · refine Nat.le_trans (shown_tuple (B := 21) (n := 30) (fun x hx => ?_) (by rw [List.length_map]; exact a)) (by decide)
      obtain ⟨i, hi, rfl⟩ := List.mem_map.mp hx
      exact shown_int (b i hi)
    · refine Nat.le_trans (shown_int (by simpa using c)) (by decide)
  have h2 := shown_tuple (xs := l.map fun p => PyData.tuple [.tuple (p.1.map .int), .int p.2]) (B := (693 + 2) * 2 + 3) (n := 5000) (fun x hx => by
    obtain ⟨p, hp', rfl⟩ := List.mem_map.mp hx
    exact h1 p hp') (by rw [List.length_map]; exact hl)
  have h3 : ∀ (m : List (List Int × Nat)), (∀ p ∈ m, p ∈ l) → PyData.showableAll (m.map fun p => .tuple [.tuple (p.1.map .int), .int p.2]) = true ∧ PyData.hasDictAll (m.map fun p => .tuple [.tuple (p.1.map .int), .int p.2]) = false ∧
      PyData.depthAll (m.map fun p => .tuple [.tuple (p.1.map .int), .int p.2]) ≤ 2 := fun m => by
    induction m with
    | nil => intro _; exact ⟨rfl, rfl, by simp [PyData.depthAll]⟩
    | cons p m ih =>
      intro hm
      obtain ⟨i1, i2, i3⟩ := ih fun q hq => hm q (List.mem_cons_of_mem _ hq)
      obtain ⟨a, b, c⟩ := hp p (hm p (List.mem_cons_self ..))
      have hs := showAll_ints b
      have hc := showAll_ints (xs := [(p.2 : Int)]) (fun j hj => by rw [List.mem_singleton] at hj; subst hj; simpa using c)
      rw [List.map_cons, List.map_nil] at hc
      refine ⟨?_, ?_, ?_⟩
      · rw [List.map_cons, PyData.showableAll, i1, PyData.showable, PyData.showableAll, PyData.showable, hs, hc]
        rfl
      · rw [List.map_cons, PyData.hasDictAll, i2, PyData.hasDict, PyData.hasDictAll, PyData.hasDict, noDict_ints, PyData.hasDictAll, PyData.hasDictAll, PyData.hasDict]
        rfl
      · rw [List.map_cons, PyData.depthAll, PyData.depth, PyData.depthAll, PyData.depth, depth_ints, PyData.depthAll, PyData.depthAll, PyData.depth]
        omega
  obtain ⟨s1, s2, s3⟩ := h3 l fun _ h => h
  rw [if_pos]
  simp only [Bool.and_eq_true, decide_eq_true_eq, Bool.not_eq_true']
  refine ⟨⟨⟨by rw [PyData.showable]; exact s1, by rw [PyData.hasDict]; exact s2⟩, ?_⟩, Nat.le_trans h2 (by decide)⟩
  rw [PyData.depth]
  show _ ≤ 100
  omega
end Ev
end

section
set_option autoImplicit false
set_option maxRecDepth 100000
set_option linter.unusedVariables false
open PySem L2 PySem.SeqAt PyProof.Rows PySem.Calls
namespace Ev
/-! the program by its code -/
namespace K
def top (i : Nat) : Stmt := PySem.Challenge.pw_ruledtrees_k11_counts_of_great_trees.main.body.getD i (.Pass ⟨0, 0, 0, 0⟩)
def c_put : List S := [.ite (.or (.cmp .Eq (.var 0) (.tup [])) (.cmp .Eq (.var 1) (.tup []))) [.ret (some (.tup [(.star (.var 0)), (.star (.var 1))]))] [],
  .ret (some (.tup [(.neg (.lit (.int (1)))), (.star (.var 0)), (.star (.var 1))]))]
def c_end_at : List S := [.asg (.nm 2) (.lit (.int (1))),
  .whl (.cmp .Gt (.var 2) (.lit (.int (0)))) [.asg (.nm 2) (.bin .Add (.var 2) (.ite (.cmp .Eq (.idx (.var 0) (.var 1)) (.neg (.lit (.int (1))))) (.lit (.int (1))) (.neg (.lit (.int (1)))))),
  .asg (.nm 1) (.bin .Add (.var 1) (.lit (.int (1))))],
  .ret (some (.var 1))]
def c_sides_of : List S := [.asg (.nm 1) (.call (Str.ofString "end_at") [(.var 0), (.lit (.int (1)))]),
  .ret (some (.tup [(.slc (.var 0) (some (.lit (.int (1)))) (some (.var 1))), (.slc (.var 0) (some (.var 1)) none)]))]
def c_leaves_of : List S := [.ret (some (.bif .len [(.comp [1] (.nm 1) (.seq (.var 0)) (.var 1) (some (.cmp .NotEq (.var 1) (.neg (.lit (.int (1)))))))]))]
def c_count_of : List S := [.ite (.or (.cmp .Eq (.var 0) (.tup [])) (.cmp .Eq (.var 1) (.tup []))) [.ret (some (.bif .int [(.cmp .Eq (.var 0) (.tup []))]))] [],
  .ite (.cmp .NotEq (.idx (.var 1) (.lit (.int (0)))) (.neg (.lit (.int (1))))) [.ret (some (.bif .int [(.cmp .Eq (.var 0) (.var 1))]))] [],
  .asg (.tp [(.nm 3), (.nm 4)]) (.call (Str.ofString "sides_of") [(.var 1)]),
  .asg (.nm 2) (.bin .Add (.call (Str.ofString "count_of") [(.var 0), (.var 3)]) (.call (Str.ofString "count_of") [(.var 0), (.var 4)])),
  .ite (.cmp .Eq (.idx (.var 0) (.lit (.int (0)))) (.neg (.lit (.int (1))))) [.asg (.tp [(.nm 5), (.nm 6)]) (.call (Str.ofString "sides_of") [(.var 0)]),
  .asg (.nm 2) (.bin .Add (.var 2) (.bin .Mult (.call (Str.ofString "count_of") [(.var 5), (.var 3)]) (.call (Str.ofString "count_of") [(.var 6), (.var 4)])))] [],
  .ret (some (.var 2))]
def c_rows_put : List S := [.asg (.nm 3) (.dct []),
  .for (.tp [(.nm 4), (.nm 5)]) (.items (.var 1)) [.for (.tp [(.nm 6), (.nm 7)]) (.items (.var 2)) [.ite (.cmp .LtE (.bin .Add (.call (Str.ofString "leaves_of") [(.var 4)]) (.call (Str.ofString "leaves_of") [(.var 6)])) (.var 0)) [.asg (.nm 8) (.call (Str.ofString "put") [(.var 4), (.var 6)]),
  .seti (.var 3) (.var 8) (.bin .Add (.mth .get (.var 3) [(.var 8), (.lit (.int (0)))]) (.bin .Mult (.var 5) (.var 7)))] []]],
  .ret (some (.var 3))]
def c_row_of : List S := [.asg (.nm 2) (.lst []),
  .for (.nm 3) (.seq (.rev (.var 1))) [.ite (.cmp .Eq (.var 3) (.neg (.lit (.int (1))))) [.asg (.nm 5) (.mth .pop (.var 2) []),
  .ex (.mth .append (.var 2) [(.call (Str.ofString "rows_put") [(.var 0), (.var 5), (.mth .pop (.var 2) [])])])] [.ex (.mth .append (.var 2) [(.ite (.cmp .Gt (.var 0) (.lit (.int (0)))) (.dct [(.tup []), (.lit (.int (1))), (.tup [(.var 3)]), (.lit (.int (1)))]) (.dct [(.tup []), (.lit (.int (1)))]))])]],
  .asg (.nm 4) (.ite (.cmp .NotEq (.var 2) (.lst [])) (.idx (.var 2) (.lit (.int (0)))) (.dct [(.tup []), (.lit (.int (1)))])),
  .ret (some (.bif .tuple [(.comp [6] (.nm 6) (.seq (.bif .sorted [(.var 4)])) (.tup [(.var 6), (.idx (.var 4) (.var 6))]) none)]))]
def l_open_cells : List S := [.asg (.nm 1) (.lit (.int (11))),
  .for (.nm 2) (.seq (.var 0)) [.asg (.nm 1) (.bin .Mod (.bif .int [(.bin .Add (.bin .Add (.bin .Mult (.var 1) (.lit (.int (69069)))) (.bin .Mult (.var 2) (.lit (.int (31))))) (.lit (.int (5))))]) (.lit (.int (2147483629))))],
  .asg (.nm 3) (.comp [2] (.nm 2) (.seq (.var 0)) (.bif .abs [(.var 2)]) none),
  .ret (some (.dct [(.lit (.str (Str.ofString "cells"))), (.rev (.var 3)), (.lit (.str (Str.ofString "left"))), (.lit (.int (1))), (.lit (.str (Str.ofString "mixed"))), (.var 1), (.lit (.str (Str.ofString "turn"))), (.lit (.int (0)))]))]
def l_pick : List S := [.ite (.cmp .Lt (.var 1) (.lit (.int (2)))) [.ret (some (.lit (.int (0))))] [],
  .asg (.nm 2) (.idx (.var 0) (.lit (.str (Str.ofString "cells")))),
  .whl (.and (.cmp .Lt (.idx (.var 0) (.lit (.str (Str.ofString "left")))) (.lit (.int (2)))) (.cmp .Gt (.bif .len [(.var 2)]) (.lit (.int (0))))) [.seti (.var 0) (.lit (.str (Str.ofString "left"))) (.mth .pop (.var 2) [])],
  .asg (.nm 3) (.idx (.var 0) (.lit (.str (Str.ofString "left")))),
  .ite (.cmp .Gt (.var 3) (.lit (.int (1)))) [.seti (.var 0) (.lit (.str (Str.ofString "left"))) (.bin .FloorDiv (.var 3) (.var 1)),
  .ret (some (.bin .Mod (.bif .int [(.var 3)]) (.var 1)))] [],
  .seti (.var 0) (.lit (.str (Str.ofString "turn"))) (.bin .Add (.idx (.var 0) (.lit (.str (Str.ofString "turn")))) (.lit (.int (1)))),
  .asg (.nm 4) (.idx (.var 0) (.lit (.str (Str.ofString "turn")))),
  .asg (.nm 5) (.bin .Mod (.bif .int [(.bin .Add (.idx (.var 0) (.lit (.str (Str.ofString "mixed")))) (.bin .Mult (.var 4) (.lit (.int (104729)))))]) (.lit (.int (998244353)))),
  .asg (.nm 5) (.bin .Mod (.bif .int [(.bin .Add (.bin .Mult (.var 5) (.var 5)) (.bin .Mult (.var 4) (.lit (.int (17)))))]) (.lit (.int (2147483647)))),
  .ret (some (.bin .Mod (.bif .int [(.bin .FloorDiv (.var 5) (.lit (.int (16))))]) (.var 1)))]
def l_of : List S := [.ret (some (.idx (.var 1) (.call (Str.ofString "_law_pick") [(.var 0), (.bif .len [(.var 1)])])))]
def l_tree : List S := [.asg (.nm 3) (.comp [5] (.nm 5) (.range1 (.var 2)) (.tup [(.call (Str.ofString "_law_pick") [(.var 0), (.var 1)])]) none),
  .whl (.cmp .Gt (.bif .len [(.var 3)]) (.lit (.int (1)))) [.asg (.nm 4) (.call (Str.ofString "_law_pick") [(.var 0), (.bin .Sub (.bif .len [(.var 3)]) (.lit (.int (1))))]),
  .asg (.nm 3) (.bin .Add (.bin .Add (.slc (.var 3) none (some (.var 4))) (.lst [(.bin .Add (.bin .Add (.tup [(.neg (.lit (.int (1))))]) (.idx (.var 3) (.var 4))) (.idx (.var 3) (.bin .Add (.var 4) (.lit (.int (1))))))])) (.slc (.var 3) (some (.bin .Add (.var 4) (.lit (.int (2))))) none))],
  .ret (some (.idx (.var 3) (.lit (.int (0)))))]
def l_put : List S := [.ret (some (.ite (.or (.cmp .Eq (.var 0) (.tup [])) (.cmp .Eq (.var 1) (.tup []))) (.bin .Add (.var 0) (.var 1)) (.bin .Add (.bin .Add (.tup [(.neg (.lit (.int (1))))]) (.var 0)) (.var 1))))]
def l_end : List S := [.ite (.cmp .NotEq (.idx (.var 0) (.var 1)) (.neg (.lit (.int (1))))) [.ret (some (.bin .Add (.var 1) (.lit (.int (1)))))] [],
  .ret (some (.call (Str.ofString "_law_end") [(.var 0), (.call (Str.ofString "_law_end") [(.var 0), (.bin .Add (.var 1) (.lit (.int (1))))])]))]
def l_sides : List S := [.asg (.nm 1) (.call (Str.ofString "_law_end") [(.var 0), (.lit (.int (1)))]),
  .ret (some (.tup [(.slc (.var 0) (some (.lit (.int (1)))) (some (.var 1))), (.slc (.var 0) (some (.var 1)) none)]))]
def l_leaves : List S := [.ret (some (.bif .len [(.comp [1] (.nm 1) (.seq (.var 0)) (.var 1) (some (.cmp .NotEq (.var 1) (.neg (.lit (.int (1)))))))]))]
def l_counts : List S := [.ite (.cmp .NotEq (.idx (.var 1) (.lit (.int (0)))) (.neg (.lit (.int (1))))) [.ret (some (.dct [(.tup []), (.lit (.int (1))), (.var 1), (.lit (.int (1)))]))] [],
  .asg (.tp [(.nm 4), (.nm 5)]) (.call (Str.ofString "_law_sides") [(.var 1)]),
  .asg (.nm 2) (.dct []),
  .asg (.tp [(.nm 6), (.nm 7)]) (.tup [(.call (Str.ofString "_law_counts") [(.var 0), (.var 4)]), (.call (Str.ofString "_law_counts") [(.var 0), (.var 5)])]),
  .for (.nm 3) (.seq (.var 6)) [.for (.nm 8) (.seq (.var 7)) [.ite (.cmp .LtE (.bin .Add (.call (Str.ofString "_law_leaves") [(.var 3)]) (.call (Str.ofString "_law_leaves") [(.var 8)])) (.var 0)) [.asg (.nm 9) (.call (Str.ofString "_law_put") [(.var 3), (.var 8)]),
  .seti (.var 2) (.var 9) (.bin .Add (.mth .get (.var 2) [(.var 9), (.lit (.int (0)))]) (.bin .Mult (.idx (.var 6) (.var 3)) (.idx (.var 7) (.var 8))))] []]],
  .ret (some (.var 2))]
def l_comb : List S := [.asg (.nm 4) (.tup [(.call (Str.ofString "_law_pick") [(.var 0), (.var 1)])]),
  .for (.nm 5) (.range1 (.bin .Sub (.var 2) (.lit (.int (1))))) [.asg (.nm 6) (.tup [(.call (Str.ofString "_law_pick") [(.var 0), (.var 1)])]),
  .asg (.nm 4) (.bin .Add (.tup [(.neg (.lit (.int (1))))]) (.ite (.cmp .Eq (.var 3) (.lit (.int (0)))) (.bin .Add (.var 4) (.var 6)) (.bin .Add (.var 6) (.var 4))))],
  .ret (some (.var 4))]
def c_law : List S := [.asg (.nm 1) (.call (Str.ofString "_law_open_cells") [(.var 0)]),
  .for (.nm 2) (.range1 (.lit (.int (2)))) [.asg (.tp [(.nm 10), (.nm 11)]) (.tup [(.bin .Add (.lit (.int (1))) (.call (Str.ofString "_law_pick") [(.var 1), (.lit (.int (2)))])), (.bin .Add (.lit (.int (7))) (.call (Str.ofString "_law_pick") [(.var 1), (.lit (.int (6)))]))]),
  .asg (.nm 4) (.call (Str.ofString "_law_pick") [(.var 1), (.lit (.int (4)))]),
  .asg (.nm 5) (.ite (.cmp .Lt (.var 4) (.lit (.int (2)))) (.call (Str.ofString "_law_comb") [(.var 1), (.var 10), (.var 11), (.var 4)]) (.call (Str.ofString "_law_tree") [(.var 1), (.var 10), (.var 11)])),
  .asg (.nm 6) (.call (Str.ofString "_law_counts") [(.lit (.int (5))), (.var 5)]),
  .for (.nm 7) (.seq (.tup [(.lit (.int (1))), (.lit (.int (2))), (.lit (.int (3)))])) [.asg (.nm 12) (.comp [9] (.nm 9) (.seq (.bif .sorted [(.var 6)])) (.tup [(.var 9), (.idx (.var 6) (.var 9))]) (some (.cmp .LtE (.call (Str.ofString "_law_leaves") [(.var 9)]) (.var 7)))),
  .ite (.cmp .NotEq (.bif .repr [(.call (Str.ofString "row_of") [(.var 7), (.var 5)])]) (.bif .repr [(.bif .tuple [(.var 12)])])) [.ret (some (.lit (.bl false)))] []],
  .for (.nm 8) (.range1 (.lit (.int (6)))) [.asg (.nm 9) (.call (Str.ofString "_law_tree") [(.var 1), (.var 10), (.bin .Add (.lit (.int (2))) (.call (Str.ofString "_law_pick") [(.var 1), (.lit (.int (4)))]))]),
  .ite (.cmp .NotEq (.bif .repr [(.call (Str.ofString "count_of") [(.var 9), (.var 5)])]) (.bif .repr [(.mth .get (.var 6) [(.var 9), (.lit (.int (0)))])])) [.ret (some (.lit (.bl false)))] []],
  .ite (.or (.cmp .NotEq (.call (Str.ofString "count_of") [(.var 5), (.var 5)]) (.lit (.int (1)))) (.cmp .Gt (.call (Str.ofString "count_of") [(.call (Str.ofString "_law_tree") [(.var 1), (.var 10), (.var 11)]), (.var 5)]) (.lit (.int (1))))) [.ret (some (.lit (.bl false)))] [],
  .asg (.nm 9) (.call (Str.ofString "_law_of") [(.var 1), (.bif .sorted [(.var 6)])]),
  .ite (.cmp .NotEq (.bif .repr [(.call (Str.ofString "count_of") [(.var 9), (.var 5)])]) (.bif .repr [(.idx (.var 6) (.var 9))])) [.ret (some (.lit (.bl false)))] []],
  .asg (.nm 3) (.tup [(.neg (.lit (.int (1)))), (.neg (.lit (.int (1)))), (.neg (.lit (.int (1)))), (.lit (.int (0))), (.lit (.int (0))), (.neg (.lit (.int (1)))), (.lit (.int (0))), (.lit (.int (0))), (.neg (.lit (.int (1)))), (.neg (.lit (.int (1)))), (.lit (.int (0))), (.lit (.int (0))), (.neg (.lit (.int (1)))), (.lit (.int (0))), (.lit (.int (0)))]),
  .ret (some (.and (.cmp .Eq (.call (Str.ofString "count_of") [(.tup [(.neg (.lit (.int (1)))), (.lit (.int (0))), (.lit (.int (0)))]), (.var 3)]) (.lit (.int (28)))) (.cmp .Eq (.call (Str.ofString "count_of") [(.tup [(.neg (.lit (.int (1)))), (.neg (.lit (.int (1)))), (.lit (.int (0))), (.lit (.int (0))), (.neg (.lit (.int (1)))), (.lit (.int (0))), (.lit (.int (0)))]), (.var 3)]) (.lit (.int (38))))))]
def tbl : List (Str × Fd) := [
  ("put", ⟨2, 2, c_put⟩),
  ("end_at", ⟨2, 3, c_end_at⟩),
  ("sides_of", ⟨1, 2, c_sides_of⟩),
  ("leaves_of", ⟨1, 2, c_leaves_of⟩),
  ("count_of", ⟨2, 7, c_count_of⟩),
  ("rows_put", ⟨3, 9, c_rows_put⟩),
  ("row_of", ⟨2, 7, c_row_of⟩),
  ("_law_open_cells", ⟨1, 4, l_open_cells⟩),
  ("_law_pick", ⟨2, 6, l_pick⟩),
  ("_law_of", ⟨2, 2, l_of⟩),
  ("_law_tree", ⟨3, 6, l_tree⟩),
  ("_law_put", ⟨2, 2, l_put⟩),
  ("_law_end", ⟨2, 2, l_end⟩),
  ("_law_sides", ⟨1, 2, l_sides⟩),
  ("_law_leaves", ⟨1, 2, l_leaves⟩),
  ("_law_counts", ⟨2, 10, l_counts⟩),
  ("_law_comb", ⟨4, 7, l_comb⟩),
  ("law", ⟨1, 13, c_law⟩)
]
def tb (x : Str) : Option Fd := tbl.lookup x
def own (x : Str) : Bool := tbl.any fun d => decide (d.1 = x)
def gls : Str → Bool := fun _ => false
def gl : Str → Option D := fun _ => none
end K
/-! the table is what the program's text says -/
namespace K
theorem cs_c_put : cSs ⟨["one", "other"], own, gls, true⟩ (defScope (top 1)) 60 (defBody (top 1)) = c_put := by kernel_rfl
theorem tb_c_put : tb "put" = some ⟨2, 2, c_put⟩ := by kernel_rfl
theorem sc_c_put : FnScope ["one", "other"] ["one", "other"] (defScope (top 1)) := ⟨rfl, rfl, rfl, by decide +kernel, rfl, by decide +kernel, by decide +kernel⟩
theorem cs_c_end_at : cSs ⟨["tree", "place", "lacking"], own, gls, true⟩ (defScope (top 2)) 60 (defBody (top 2)) = c_end_at := by kernel_rfl
theorem tb_c_end_at : tb "end_at" = some ⟨2, 3, c_end_at⟩ := by kernel_rfl
theorem sc_c_end_at : FnScope ["tree", "place", "lacking"] ["tree", "place"] (defScope (top 2)) := ⟨rfl, rfl, rfl, by decide +kernel, rfl, by decide +kernel, by decide +kernel⟩
theorem cs_c_sides_of : cSs ⟨["tree", "middle"], own, gls, true⟩ (defScope (top 3)) 60 (defBody (top 3)) = c_sides_of := by kernel_rfl
theorem tb_c_sides_of : tb "sides_of" = some ⟨1, 2, c_sides_of⟩ := by kernel_rfl
theorem sc_c_sides_of : FnScope ["tree", "middle"] ["tree"] (defScope (top 3)) := ⟨rfl, rfl, rfl, by decide +kernel, rfl, by decide +kernel, by decide +kernel⟩
theorem cs_c_leaves_of : cSs ⟨["tree", "part"], own, gls, true⟩ (defScope (top 4)) 60 (defBody (top 4)) = c_leaves_of := by kernel_rfl
theorem tb_c_leaves_of : tb "leaves_of" = some ⟨1, 2, c_leaves_of⟩ := by kernel_rfl
theorem sc_c_leaves_of : FnScope ["tree", "part"] ["tree"] (defScope (top 4)) := ⟨rfl, rfl, rfl, by decide +kernel, rfl, by decide +kernel, by decide +kernel⟩
theorem cs_c_count_of : cSs ⟨["p", "tree", "found", "one", "other", "left", "right"], own, gls, true⟩ (defScope (top 5)) 60 (defBody (top 5)) = c_count_of := by kernel_rfl
theorem tb_c_count_of : tb "count_of" = some ⟨2, 7, c_count_of⟩ := by kernel_rfl
theorem sc_c_count_of : FnScope ["p", "tree", "found", "one", "other", "left", "right"] ["p", "tree"] (defScope (top 5)) := ⟨rfl, rfl, rfl, by decide +kernel, rfl, by decide +kernel, by decide +kernel⟩
theorem cs_c_rows_put : cSs ⟨["degree", "one", "other", "found", "p", "c", "q", "d", "late"], own, gls, true⟩ (defScope (top 6)) 60 (defBody (top 6)) = c_rows_put := by kernel_rfl
theorem tb_c_rows_put : tb "rows_put" = some ⟨3, 9, c_rows_put⟩ := by kernel_rfl
theorem sc_c_rows_put : FnScope ["degree", "one", "other", "found", "p", "c", "q", "d", "late"] ["degree", "one", "other"] (defScope (top 6)) := ⟨rfl, rfl, rfl, by decide +kernel, rfl, by decide +kernel, by decide +kernel⟩
theorem cs_c_row_of : cSs ⟨["degree", "tree", "found", "part", "row", "one", "p"], own, gls, true⟩ (defScope (top 7)) 60 (defBody (top 7)) = c_row_of := by kernel_rfl
theorem tb_c_row_of : tb "row_of" = some ⟨2, 7, c_row_of⟩ := by kernel_rfl
theorem sc_c_row_of : FnScope ["degree", "tree", "found", "part", "row", "one", "p"] ["degree", "tree"] (defScope (top 7)) := ⟨rfl, rfl, rfl, by decide +kernel, rfl, by decide +kernel, by decide +kernel⟩
theorem cs_l_open_cells : cSs ⟨["script", "stirred", "cell", "cells"], own, gls, true⟩ (defScope (top 9)) 60 (defBody (top 9)) = l_open_cells := by kernel_rfl
theorem tb_l_open_cells : tb "_law_open_cells" = some ⟨1, 4, l_open_cells⟩ := by kernel_rfl
theorem sc_l_open_cells : FnScope ["script", "stirred", "cell", "cells"] ["script"] (defScope (top 9)) := ⟨rfl, rfl, rfl, by decide +kernel, rfl, by decide +kernel, by decide +kernel⟩
theorem cs_l_pick : cSs ⟨["source", "most", "cells", "others", "lap", "stirred"], own, gls, true⟩ (defScope (top 10)) 60 (defBody (top 10)) = l_pick := by kernel_rfl
theorem tb_l_pick : tb "_law_pick" = some ⟨2, 6, l_pick⟩ := by kernel_rfl
theorem sc_l_pick : FnScope ["source", "most", "cells", "others", "lap", "stirred"] ["source", "most"] (defScope (top 10)) := ⟨rfl, rfl, rfl, by decide +kernel, rfl, by decide +kernel, by decide +kernel⟩
theorem cs_l_of : cSs ⟨["source", "some"], own, gls, true⟩ (defScope (top 11)) 60 (defBody (top 11)) = l_of := by kernel_rfl
theorem tb_l_of : tb "_law_of" = some ⟨2, 2, l_of⟩ := by kernel_rfl
theorem sc_l_of : FnScope ["source", "some"] ["source", "some"] (defScope (top 11)) := ⟨rfl, rfl, rfl, by decide +kernel, rfl, by decide +kernel, by decide +kernel⟩
theorem cs_l_tree : cSs ⟨["source", "k", "leaves", "line", "i", "turn"], own, gls, true⟩ (defScope (top 12)) 60 (defBody (top 12)) = l_tree := by kernel_rfl
theorem tb_l_tree : tb "_law_tree" = some ⟨3, 6, l_tree⟩ := by kernel_rfl
theorem sc_l_tree : FnScope ["source", "k", "leaves", "line", "i", "turn"] ["source", "k", "leaves"] (defScope (top 12)) := ⟨rfl, rfl, rfl, by decide +kernel, rfl, by decide +kernel, by decide +kernel⟩
theorem cs_l_put : cSs ⟨["one", "other"], own, gls, true⟩ (defScope (top 13)) 60 (defBody (top 13)) = l_put := by kernel_rfl
theorem tb_l_put : tb "_law_put" = some ⟨2, 2, l_put⟩ := by kernel_rfl
theorem sc_l_put : FnScope ["one", "other"] ["one", "other"] (defScope (top 13)) := ⟨rfl, rfl, rfl, by decide +kernel, rfl, by decide +kernel, by decide +kernel⟩
theorem cs_l_end : cSs ⟨["tree", "place"], own, gls, true⟩ (defScope (top 14)) 60 (defBody (top 14)) = l_end := by kernel_rfl
theorem tb_l_end : tb "_law_end" = some ⟨2, 2, l_end⟩ := by kernel_rfl
theorem sc_l_end : FnScope ["tree", "place"] ["tree", "place"] (defScope (top 14)) := ⟨rfl, rfl, rfl, by decide +kernel, rfl, by decide +kernel, by decide +kernel⟩
theorem cs_l_sides : cSs ⟨["tree", "middle"], own, gls, true⟩ (defScope (top 15)) 60 (defBody (top 15)) = l_sides := by kernel_rfl
theorem tb_l_sides : tb "_law_sides" = some ⟨1, 2, l_sides⟩ := by kernel_rfl
theorem sc_l_sides : FnScope ["tree", "middle"] ["tree"] (defScope (top 15)) := ⟨rfl, rfl, rfl, by decide +kernel, rfl, by decide +kernel, by decide +kernel⟩
theorem cs_l_leaves : cSs ⟨["tree", "part"], own, gls, true⟩ (defScope (top 16)) 60 (defBody (top 16)) = l_leaves := by kernel_rfl
theorem tb_l_leaves : tb "_law_leaves" = some ⟨1, 2, l_leaves⟩ := by kernel_rfl
theorem sc_l_leaves : FnScope ["tree", "part"] ["tree"] (defScope (top 16)) := ⟨rfl, rfl, rfl, by decide +kernel, rfl, by decide +kernel, by decide +kernel⟩
theorem cs_l_counts : cSs ⟨["degree", "tree", "found", "p", "one", "other", "left", "right", "q", "late"], own, gls, true⟩ (defScope (top 17)) 60 (defBody (top 17)) = l_counts := by kernel_rfl
theorem tb_l_counts : tb "_law_counts" = some ⟨2, 10, l_counts⟩ := by kernel_rfl
theorem sc_l_counts : FnScope ["degree", "tree", "found", "p", "one", "other", "left", "right", "q", "late"] ["degree", "tree"] (defScope (top 17)) := ⟨rfl, rfl, rfl, by decide +kernel, rfl, by decide +kernel, by decide +kernel⟩
theorem cs_l_comb : cSs ⟨["source", "k", "many", "way", "tree", "turn", "leaf"], own, gls, true⟩ (defScope (top 18)) 60 (defBody (top 18)) = l_comb := by kernel_rfl
theorem tb_l_comb : tb "_law_comb" = some ⟨4, 7, l_comb⟩ := by kernel_rfl
theorem sc_l_comb : FnScope ["source", "k", "many", "way", "tree", "turn", "leaf"] ["source", "k", "many", "way"] (defScope (top 18)) := ⟨rfl, rfl, rfl, by decide +kernel, rfl, by decide +kernel, by decide +kernel⟩
theorem cs_c_law : cSs ⟨["script", "source", "lap", "full", "way", "tree", "known", "degree", "turn", "p", "k", "many", "due"], own, gls, true⟩ (defScope (top 19)) 60 (defBody (top 19)) = c_law := by kernel_rfl
theorem tb_c_law : tb "law" = some ⟨1, 13, c_law⟩ := by kernel_rfl
theorem sc_c_law : FnScope ["script", "source", "lap", "full", "way", "tree", "known", "degree", "turn", "p", "k", "many", "due"] ["script"] (defScope (top 19)) := ⟨rfl, rfl, rfl, by decide +kernel, rfl, by decide +kernel, by decide +kernel⟩
theorem tab_mk {l : PySem.W.OpenLaw} {w : World} {K : PySem.W.Frag} {h : Heap} {mg : Str → Option Value} (X : K.In h) (G : h.Ns mainGlobals mg)
    {f0 f1 f2 f3 f4 f5 f6 f7 f8 f9 f10 f11 f12 f13 f14 f15 f16 f17 : Addr} {od0 an0 od1 an1 od2 an2 od3 an3 od4 an4 od5 an5 od6 an6 od7 an7 od8 an8 od9 an9 od10 an10 od11 an11 od12 an12 od13 an13 od14 an14 od15 an15 od16 an16 od17 an17 : Option Addr} {sl0 sl1 sl2 sl3 sl4 sl5 sl6 sl7 sl8 sl9 sl10 sl11 sl12 sl13 sl14 sl15 sl16 sl17 : Array (Option Value)} {oc0 kV0 dc0 pm0 cd0 ct0 oc1 kV1 dc1 pm1 cd1 ct1 oc2 kV2 dc2 pm2 cd2 ct2 oc3 kV3 dc3 pm3 cd3 ct3 oc4 kV4 dc4 pm4 cd4 ct4 oc5 kV5 dc5 pm5 cd5 ct5 oc6 kV6 dc6 pm6 cd6 ct6 oc7 kV7 dc7 pm7 cd7 ct7 oc8 kV8 dc8 pm8 cd8 ct8 oc9 kV9 dc9 pm9 cd9 ct9 oc10 kV10 dc10 pm10 cd10 ct10 oc11 kV11 dc11 pm11 cd11 ct11 oc12 kV12 dc12 pm12 cd12 ct12 oc13 kV13 dc13 pm13 cd13 ct13 oc14 kV14 dc14 pm14 cd14 ct14 oc15 kV15 dc15 pm15 cd15 ct15 oc16 kV16 dc16 pm16 cd16 ct16 oc17 kV17 dc17 pm17 cd17 ct17 : Value}
    (a0 : PySem.W.nsIn K mainGlobals "put" = some (some (.ref f0))) (l0 : K.lookup f0 = some ⟨oc0, od0, .func (PySem.W.fnOf "put" "put" (defArgs (top 1)) (defBody (top 1)) (defScope (top 1)) .none kV0 dc0 pm0 an0 cd0 ct0), sl0⟩) (c0 : PySem.W.codeIn K cd0 "put" = true) (k0 : PySem.W.keepIn K (.ref f0) = true)
    (a1 : PySem.W.nsIn K mainGlobals "end_at" = some (some (.ref f1))) (l1 : K.lookup f1 = some ⟨oc1, od1, .func (PySem.W.fnOf "end_at" "end_at" (defArgs (top 2)) (defBody (top 2)) (defScope (top 2)) .none kV1 dc1 pm1 an1 cd1 ct1), sl1⟩) (c1 : PySem.W.codeIn K cd1 "end_at" = true) (k1 : PySem.W.keepIn K (.ref f1) = true)
    (a2 : PySem.W.nsIn K mainGlobals "sides_of" = some (some (.ref f2))) (l2 : K.lookup f2 = some ⟨oc2, od2, .func (PySem.W.fnOf "sides_of" "sides_of" (defArgs (top 3)) (defBody (top 3)) (defScope (top 3)) .none kV2 dc2 pm2 an2 cd2 ct2), sl2⟩) (c2 : PySem.W.codeIn K cd2 "sides_of" = true) (k2 : PySem.W.keepIn K (.ref f2) = true)
    (a3 : PySem.W.nsIn K mainGlobals "leaves_of" = some (some (.ref f3))) (l3 : K.lookup f3 = some ⟨oc3, od3, .func (PySem.W.fnOf "leaves_of" "leaves_of" (defArgs (top 4)) (defBody (top 4)) (defScope (top 4)) .none kV3 dc3 pm3 an3 cd3 ct3), sl3⟩) (c3 : PySem.W.codeIn K cd3 "leaves_of" = true) (k3 : PySem.W.keepIn K (.ref f3) = true)
    (a4 : PySem.W.nsIn K mainGlobals "count_of" = some (some (.ref f4))) (l4 : K.lookup f4 = some ⟨oc4, od4, .func (PySem.W.fnOf "count_of" "count_of" (defArgs (top 5)) (defBody (top 5)) (defScope (top 5)) .none kV4 dc4 pm4 an4 cd4 ct4), sl4⟩) (c4 : PySem.W.codeIn K cd4 "count_of" = true) (k4 : PySem.W.keepIn K (.ref f4) = true)
    (a5 : PySem.W.nsIn K mainGlobals "rows_put" = some (some (.ref f5))) (l5 : K.lookup f5 = some ⟨oc5, od5, .func (PySem.W.fnOf "rows_put" "rows_put" (defArgs (top 6)) (defBody (top 6)) (defScope (top 6)) .none kV5 dc5 pm5 an5 cd5 ct5), sl5⟩) (c5 : PySem.W.codeIn K cd5 "rows_put" = true) (k5 : PySem.W.keepIn K (.ref f5) = true)
    (a6 : PySem.W.nsIn K mainGlobals "row_of" = some (some (.ref f6))) (l6 : K.lookup f6 = some ⟨oc6, od6, .func (PySem.W.fnOf "row_of" "row_of" (defArgs (top 7)) (defBody (top 7)) (defScope (top 7)) .none kV6 dc6 pm6 an6 cd6 ct6), sl6⟩) (c6 : PySem.W.codeIn K cd6 "row_of" = true) (k6 : PySem.W.keepIn K (.ref f6) = true)
    (a7 : PySem.W.nsIn K mainGlobals "_law_open_cells" = some (some (.ref f7))) (l7 : K.lookup f7 = some ⟨oc7, od7, .func (PySem.W.fnOf "_law_open_cells" "_law_open_cells" (defArgs (top 9)) (defBody (top 9)) (defScope (top 9)) .none kV7 dc7 pm7 an7 cd7 ct7), sl7⟩) (c7 : PySem.W.codeIn K cd7 "_law_open_cells" = true) (k7 : PySem.W.keepIn K (.ref f7) = true)
    (a8 : PySem.W.nsIn K mainGlobals "_law_pick" = some (some (.ref f8))) (l8 : K.lookup f8 = some ⟨oc8, od8, .func (PySem.W.fnOf "_law_pick" "_law_pick" (defArgs (top 10)) (defBody (top 10)) (defScope (top 10)) .none kV8 dc8 pm8 an8 cd8 ct8), sl8⟩) (c8 : PySem.W.codeIn K cd8 "_law_pick" = true) (k8 : PySem.W.keepIn K (.ref f8) = true)
    (a9 : PySem.W.nsIn K mainGlobals "_law_of" = some (some (.ref f9))) (l9 : K.lookup f9 = some ⟨oc9, od9, .func (PySem.W.fnOf "_law_of" "_law_of" (defArgs (top 11)) (defBody (top 11)) (defScope (top 11)) .none kV9 dc9 pm9 an9 cd9 ct9), sl9⟩) (c9 : PySem.W.codeIn K cd9 "_law_of" = true) (k9 : PySem.W.keepIn K (.ref f9) = true)
    (a10 : PySem.W.nsIn K mainGlobals "_law_tree" = some (some (.ref f10))) (l10 : K.lookup f10 = some ⟨oc10, od10, .func (PySem.W.fnOf "_law_tree" "_law_tree" (defArgs (top 12)) (defBody (top 12)) (defScope (top 12)) .none kV10 dc10 pm10 an10 cd10 ct10), sl10⟩) (c10 : PySem.W.codeIn K cd10 "_law_tree" = true) (k10 : PySem.W.keepIn K (.ref f10) = true)
    (a11 : PySem.W.nsIn K mainGlobals "_law_put" = some (some (.ref f11))) (l11 : K.lookup f11 = some ⟨oc11, od11, .func (PySem.W.fnOf "_law_put" "_law_put" (defArgs (top 13)) (defBody (top 13)) (defScope (top 13)) .none kV11 dc11 pm11 an11 cd11 ct11), sl11⟩) (c11 : PySem.W.codeIn K cd11 "_law_put" = true) (k11 : PySem.W.keepIn K (.ref f11) = true)
    (a12 : PySem.W.nsIn K mainGlobals "_law_end" = some (some (.ref f12))) (l12 : K.lookup f12 = some ⟨oc12, od12, .func (PySem.W.fnOf "_law_end" "_law_end" (defArgs (top 14)) (defBody (top 14)) (defScope (top 14)) .none kV12 dc12 pm12 an12 cd12 ct12), sl12⟩) (c12 : PySem.W.codeIn K cd12 "_law_end" = true) (k12 : PySem.W.keepIn K (.ref f12) = true)
    (a13 : PySem.W.nsIn K mainGlobals "_law_sides" = some (some (.ref f13))) (l13 : K.lookup f13 = some ⟨oc13, od13, .func (PySem.W.fnOf "_law_sides" "_law_sides" (defArgs (top 15)) (defBody (top 15)) (defScope (top 15)) .none kV13 dc13 pm13 an13 cd13 ct13), sl13⟩) (c13 : PySem.W.codeIn K cd13 "_law_sides" = true) (k13 : PySem.W.keepIn K (.ref f13) = true)
    (a14 : PySem.W.nsIn K mainGlobals "_law_leaves" = some (some (.ref f14))) (l14 : K.lookup f14 = some ⟨oc14, od14, .func (PySem.W.fnOf "_law_leaves" "_law_leaves" (defArgs (top 16)) (defBody (top 16)) (defScope (top 16)) .none kV14 dc14 pm14 an14 cd14 ct14), sl14⟩) (c14 : PySem.W.codeIn K cd14 "_law_leaves" = true) (k14 : PySem.W.keepIn K (.ref f14) = true)
    (a15 : PySem.W.nsIn K mainGlobals "_law_counts" = some (some (.ref f15))) (l15 : K.lookup f15 = some ⟨oc15, od15, .func (PySem.W.fnOf "_law_counts" "_law_counts" (defArgs (top 17)) (defBody (top 17)) (defScope (top 17)) .none kV15 dc15 pm15 an15 cd15 ct15), sl15⟩) (c15 : PySem.W.codeIn K cd15 "_law_counts" = true) (k15 : PySem.W.keepIn K (.ref f15) = true)
    (a16 : PySem.W.nsIn K mainGlobals "_law_comb" = some (some (.ref f16))) (l16 : K.lookup f16 = some ⟨oc16, od16, .func (PySem.W.fnOf "_law_comb" "_law_comb" (defArgs (top 18)) (defBody (top 18)) (defScope (top 18)) .none kV16 dc16 pm16 an16 cd16 ct16), sl16⟩) (c16 : PySem.W.codeIn K cd16 "_law_comb" = true) (k16 : PySem.W.keepIn K (.ref f16) = true)
    (a17 : PySem.W.nsIn K mainGlobals "law" = some (some (.ref f17))) (l17 : K.lookup f17 = some ⟨oc17, od17, .func (PySem.W.fnOf "law" "law" (defArgs (top 19)) (defBody (top 19)) (defScope (top 19)) .none kV17 dc17 pm17 an17 cd17 ct17), sl17⟩) (c17 : PySem.W.codeIn K cd17 "law" = true) (k17 : PySem.W.keepIn K (.ref f17) = true)
    (z0 : PySem.W.nsIn K mainGlobals "len" = some none)
    (z1 : PySem.W.nsIn K mainGlobals "int" = some none)
    (z2 : PySem.W.nsIn K mainGlobals "abs" = some none)
    (z3 : PySem.W.nsIn K mainGlobals "tuple" = some none)
    (z4 : PySem.W.nsIn K mainGlobals "list" = some none)
    (z5 : PySem.W.nsIn K mainGlobals "sorted" = some none)
    (z6 : PySem.W.nsIn K mainGlobals "sum" = some none)
    (z7 : PySem.W.nsIn K mainGlobals "all" = some none)
    (z8 : PySem.W.nsIn K mainGlobals "any" = some none)
    (z9 : PySem.W.nsIn K mainGlobals "max" = some none)
    (z10 : PySem.W.nsIn K mainGlobals "min" = some none)
    (z11 : PySem.W.nsIn K mainGlobals "repr" = some none)
    (z12 : PySem.W.nsIn K mainGlobals "range" = some none)
    : Tab l.prog w K mg tb gl own gls := by
  refine ⟨fun x hx => ?_, fun x hx => (nomatch hx), fun f hf => ?_⟩
  · simp only [bltns, List.mem_cons, List.not_mem_nil, or_false] at hx
    rcases hx with rfl | rfl | rfl | rfl | rfl | rfl | rfl | rfl | rfl | rfl | rfl | rfl | rfl
    · exact PySem.W.mg_none_of X G z0
    · exact PySem.W.mg_none_of X G z1
    · exact PySem.W.mg_none_of X G z2
    · exact PySem.W.mg_none_of X G z3
    · exact PySem.W.mg_none_of X G z4
    · exact PySem.W.mg_none_of X G z5
    · exact PySem.W.mg_none_of X G z6
    · exact PySem.W.mg_none_of X G z7
    · exact PySem.W.mg_none_of X G z8
    · exact PySem.W.mg_none_of X G z9
    · exact PySem.W.mg_none_of X G z10
    · exact PySem.W.mg_none_of X G z11
    · exact PySem.W.mg_none_of X G z12
  · simp only [own, tbl, List.any_cons, List.any_nil, Bool.or_false, Bool.or_eq_true, decide_eq_true_eq] at hf
    rcases hf with rfl | rfl | rfl | rfl | rfl | rfl | rfl | rfl | rfl | rfl | rfl | rfl | rfl | rfl | rfl | rfl | rfl | rfl
    · have F := fun_mk (st := top 1) l0 c0 k0
      exact ⟨f0, _, top 1, ["one", "other"], ["one", "other"], PySem.W.mg_of X G a0, F, F.binds fun _ _ _ _ _ _ us hl => match us, hl with | [_, _], _ => rfl, sc_c_put, by rw [cs_c_put]; exact tb_c_put⟩
    · have F := fun_mk (st := top 2) l1 c1 k1
      exact ⟨f1, _, top 2, ["tree", "place", "lacking"], ["tree", "place"], PySem.W.mg_of X G a1, F, F.binds fun _ _ _ _ _ _ us hl => match us, hl with | [_, _], _ => rfl, sc_c_end_at, by rw [cs_c_end_at]; exact tb_c_end_at⟩
    · have F := fun_mk (st := top 3) l2 c2 k2
      exact ⟨f2, _, top 3, ["tree", "middle"], ["tree"], PySem.W.mg_of X G a2, F, F.binds fun _ _ _ _ _ _ us hl => match us, hl with | [_], _ => rfl, sc_c_sides_of, by rw [cs_c_sides_of]; exact tb_c_sides_of⟩
    · have F := fun_mk (st := top 4) l3 c3 k3
      exact ⟨f3, _, top 4, ["tree", "part"], ["tree"], PySem.W.mg_of X G a3, F, F.binds fun _ _ _ _ _ _ us hl => match us, hl with | [_], _ => rfl, sc_c_leaves_of, by rw [cs_c_leaves_of]; exact tb_c_leaves_of⟩
    · have F := fun_mk (st := top 5) l4 c4 k4
      exact ⟨f4, _, top 5, ["p", "tree", "found", "one", "other", "left", "right"], ["p", "tree"], PySem.W.mg_of X G a4, F, F.binds fun _ _ _ _ _ _ us hl => match us, hl with | [_, _], _ => rfl, sc_c_count_of, by rw [cs_c_count_of]; exact tb_c_count_of⟩
    · have F := fun_mk (st := top 6) l5 c5 k5
      exact ⟨f5, _, top 6, ["degree", "one", "other", "found", "p", "c", "q", "d", "late"], ["degree", "one", "other"], PySem.W.mg_of X G a5, F, F.binds fun _ _ _ _ _ _ us hl => match us, hl with | [_, _, _], _ => rfl, sc_c_rows_put, by rw [cs_c_rows_put]; exact tb_c_rows_put⟩
    · have F := fun_mk (st := top 7) l6 c6 k6
      exact ⟨f6, _, top 7, ["degree", "tree", "found", "part", "row", "one", "p"], ["degree", "tree"], PySem.W.mg_of X G a6, F, F.binds fun _ _ _ _ _ _ us hl => match us, hl with | [_, _], _ => rfl, sc_c_row_of, by rw [cs_c_row_of]; exact tb_c_row_of⟩
    · have F := fun_mk (st := top 9) l7 c7 k7
      exact ⟨f7, _, top 9, ["script", "stirred", "cell", "cells"], ["script"], PySem.W.mg_of X G a7, F, F.binds fun _ _ _ _ _ _ us hl => match us, hl with | [_], _ => rfl, sc_l_open_cells, by rw [cs_l_open_cells]; exact tb_l_open_cells⟩
    · have F := fun_mk (st := top 10) l8 c8 k8
      exact ⟨f8, _, top 10, ["source", "most", "cells", "others", "lap", "stirred"], ["source", "most"], PySem.W.mg_of X G a8, F, F.binds fun _ _ _ _ _ _ us hl => match us, hl with | [_, _], _ => rfl, sc_l_pick, by rw [cs_l_pick]; exact tb_l_pick⟩
    · have F := fun_mk (st := top 11) l9 c9 k9
      exact ⟨f9, _, top 11, ["source", "some"], ["source", "some"], PySem.W.mg_of X G a9, F, F.binds fun _ _ _ _ _ _ us hl => match us, hl with | [_, _], _ => rfl, sc_l_of, by rw [cs_l_of]; exact tb_l_of⟩
    · have F := fun_mk (st := top 12) l10 c10 k10
      exact ⟨f10, _, top 12, ["source", "k", "leaves", "line", "i", "turn"], ["source", "k", "leaves"], PySem.W.mg_of X G a10, F, F.binds fun _ _ _ _ _ _ us hl => match us, hl with | [_, _, _], _ => rfl, sc_l_tree, by rw [cs_l_tree]; exact tb_l_tree⟩
    · have F := fun_mk (st := top 13) l11 c11 k11
      exact ⟨f11, _, top 13, ["one", "other"], ["one", "other"], PySem.W.mg_of X G a11, F, F.binds fun _ _ _ _ _ _ us hl => match us, hl with | [_, _], _ => rfl, sc_l_put, by rw [cs_l_put]; exact tb_l_put⟩
    · have F := fun_mk (st := top 14) l12 c12 k12
      exact ⟨f12, _, top 14, ["tree", "place"], ["tree", "place"], PySem.W.mg_of X G a12, F, F.binds fun _ _ _ _ _ _ us hl => match us, hl with | [_, _], _ => rfl, sc_l_end, by rw [cs_l_end]; exact tb_l_end⟩
    · have F := fun_mk (st := top 15) l13 c13 k13
      exact ⟨f13, _, top 15, ["tree", "middle"], ["tree"], PySem.W.mg_of X G a13, F, F.binds fun _ _ _ _ _ _ us hl => match us, hl with | [_], _ => rfl, sc_l_sides, by rw [cs_l_sides]; exact tb_l_sides⟩
    · have F := fun_mk (st := top 16) l14 c14 k14
      exact ⟨f14, _, top 16, ["tree", "part"], ["tree"], PySem.W.mg_of X G a14, F, F.binds fun _ _ _ _ _ _ us hl => match us, hl with | [_], _ => rfl, sc_l_leaves, by rw [cs_l_leaves]; exact tb_l_leaves⟩
    · have F := fun_mk (st := top 17) l15 c15 k15
      exact ⟨f15, _, top 17, ["degree", "tree", "found", "p", "one", "other", "left", "right", "q", "late"], ["degree", "tree"], PySem.W.mg_of X G a15, F, F.binds fun _ _ _ _ _ _ us hl => match us, hl with | [_, _], _ => rfl, sc_l_counts, by rw [cs_l_counts]; exact tb_l_counts⟩
    · have F := fun_mk (st := top 18) l16 c16 k16
      exact ⟨f16, _, top 18, ["source", "k", "many", "way", "tree", "turn", "leaf"], ["source", "k", "many", "way"], PySem.W.mg_of X G a16, F, F.binds fun _ _ _ _ _ _ us hl => match us, hl with | [_, _, _, _], _ => rfl, sc_l_comb, by rw [cs_l_comb]; exact tb_l_comb⟩
    · have F := fun_mk (st := top 19) l17 c17 k17
      exact ⟨f17, _, top 19, ["script", "source", "lap", "full", "way", "tree", "known", "degree", "turn", "p", "k", "many", "due"], ["script"], PySem.W.mg_of X G a17, F, F.binds fun _ _ _ _ _ _ us hl => match us, hl with | [_], _ => rfl, sc_c_law, by rw [cs_c_law]; exact tb_c_law⟩
end K
end Ev
end

section
set_option autoImplicit false
set_option maxRecDepth 100000
set_option linter.unusedVariables false
open PySem L2
namespace Ev
namespace K
inductive Tr where
  | leaf (a : Nat)
  | node (l r : Tr)
deriving DecidableEq
def Tr.code : Tr → List Int
  | .leaf a => [(a : Int)]
  | .node l r => -1 :: (l.code ++ r.code)
def Tr.size : Tr → Nat
  | .leaf _ => 1
  | .node l r => l.size + r.size
theorem atD_ints (xs : List Int) (i : Nat) (h : i < xs.length) : atD (xs.map .int) (i : Int) = some (.int xs[i]) := by
  unfold atD
  exact L2.atI_nat (by rw [List.getElem?_map, List.getElem?_eq_getElem h]; rfl)
theorem idx_tupI (xs : List Int) (i : Nat) (h : i < xs.length) (s : Sto) : idxD (tupI xs) (.int (i : Int)) s = some (.int xs[i], s) := by
  show (atD (xs.map .int) (i : Int)).map (fun d => (d, s)) = _
  rw [atD_ints xs i h]
  rfl
section
variable {cl : Str → List D → Sto → Option (D × Sto)} {gl : Str → Option D} {s : Sto}
def endTest : E := (.cmp .Gt (.var 2) (.lit (.int (0))))
def endBody : List S := [.asg (.nm 2) (.bin .Add (.var 2) (.ite (.cmp .Eq (.idx (.var 0) (.var 1)) (.neg (.lit (.int (1))))) (.lit (.int (1))) (.neg (.lit (.int (1)))))),
  .asg (.nm 1) (.bin .Add (.var 1) (.lit (.int (1))))]
theorem endTest_at {x y : Option D} {n : Int} : evE cl gl endTest [x, y, some (.int n)] s = some (.bl (decide (0 < n)), s) := by
  simp [endTest, cmpD, cmpI]
theorem endBody_at {xs : List Int} {p : Nat} (h : p < xs.length) {n : Int} : evSs cl gl endBody [some (tupI xs), some (.int p), some (.int n)] s =
    some ((.nx, [some (tupI xs), some (.int ((p + 1 : Nat) : Int)), some (.int (n + if xs[p] = -1 then 1 else -1))]), s) := by
  simp [endBody, idx_tupI xs p h, cmpD, binD]
  split <;> simp_all

/-- the walk over a forest -/
theorem end_loop {xs post : List Int}  : ∀ (f : Nat) (ts : List Tr) (pre : List Int), xs = pre ++ ts.flatMap Tr.code ++ post → (ts.flatMap Tr.code).length < f →
    whlL (evE cl gl endTest) (evSs cl gl endBody) f [some (tupI xs), some (.int (pre.length : Nat)), some (.int (ts.length : Nat))] s =
      some ((.nx, [some (tupI xs), some (.int ((pre.length + (ts.flatMap Tr.code).length : Nat) : Int)), some (.int 0)]), s)
  | 0, ts, pre, _, hf => by omega
  | f + 1, [], pre, e, hf => by
    rw [whlL, endTest_at]
    simp
  | f + 1, .leaf a :: ts, pre, e, hf => by
    have hp : pre.length < xs.length := by rw [e]; simp [Tr.code]
    have hx : xs[pre.length] = a := by
      subst e
      simp [Tr.code]
    have ha : ¬ (a : Int) = -1 := by omega
    have ih := end_loop (xs := xs) (post := post) f ts (pre ++ [(a : Int)]) (by rw [e]; simp [Tr.code]) (by simp only [List.flatMap_cons, Tr.code, List.length_append, List.length_cons, List.length_nil] at hf; omega)
    rw [whlL, endTest_at]
    have h0 : decide ((0 : Int) < ((.leaf a :: ts : List Tr).length : Nat)) = true := by simp only [decide_eq_true_eq, List.length_cons]; omega
    rw [h0, bnd_some]
    simp only
    rw [endBody_at hp, bnd_some, hx, if_neg ha]
    simp only
    have e1 : (((Tr.leaf a :: ts).length : Nat) : Int) + -1 = ((ts.length : Nat) : Int) := by simp; omega
    rw [e1]
    have e2 : (pre ++ [(a : Int)]).length = pre.length + 1 := by simp
    rw [e2] at ih
    rw [ih]
    simp [Tr.code]
    omega
  | f + 1, .node l r :: ts, pre, e, hf => by
    have hp : pre.length < xs.length := by rw [e]; simp [Tr.code]
    have hx : xs[pre.length] = -1 := by
      subst e
      simp [Tr.code]
    have ih := end_loop (xs := xs) (post := post) f (l :: r :: ts) (pre ++ [-1]) (by rw [e]; simp [Tr.code]) (by simp only [List.flatMap_cons, Tr.code, List.length_append, List.length_cons, List.length_nil] at hf ⊢; omega)
    rw [whlL, endTest_at]
    have h0 : decide ((0 : Int) < ((.node l r :: ts : List Tr).length : Nat)) = true := by simp only [decide_eq_true_eq, List.length_cons]; omega
    rw [h0, bnd_some]
    simp only
    rw [endBody_at hp, bnd_some, hx, if_pos rfl]
    simp only
    have e1 : (((Tr.node l r :: ts).length : Nat) : Int) + 1 = ((((l :: r :: ts) : List Tr).length : Nat) : Int) := by simp
    rw [e1]
    have e2 : (pre ++ [-1]).length = pre.length + 1 := by simp
    rw [e2] at ih
    rw [ih]
    simp [Tr.code]
    omega
end
/-! calls of the program's defs -/
section
variable {n : Nat} {s : Sto}
theorem end_at_run {xs pre post : List Int} {t : Tr} (e : xs = pre ++ t.code ++ post) (hx : xs.length < 1000000) : callD tb gl (n + 1) "end_at" [tupI xs, .int (pre.length : Nat)] s = some (.int ((pre.length + t.code.length : Nat) : Int), s) := by
  refine callP tb_c_end_at rfl (by simp [D.pures, D.pure]) (body_rt (s' := []) (env := [some (tupI xs), some (.int ((pre.length + t.code.length : Nat) : Int)), some (.int 0)]) ?_) rfl
  have h := end_loop (cl := callD tb gl n) (gl := gl) (s := []) (xs := xs) (post := post) turnsMost [t] pre (by simpa using e) (by
    have : t.code.length ≤ xs.length := by rw [e]; simp; omega
    simp [turnsMost]
    omega)
  simp only [List.flatMap_cons, List.flatMap_nil, List.append_nil, List.length_cons, List.length_nil] at h
  show evSs (callD tb gl n) gl [.asg (.nm 2) (.lit (.int (1))), .whl endTest endBody, .ret (some (.var 1))] [some (tupI xs), some (.int (pre.length : Nat)), none] [] = _
  rw [q_step (env' := [some (tupI xs), some (.int (pre.length : Nat)), some (.int 1)]) (s' := []) (by simp), q_step (by rw [q_whl]; exact h)]
  simp
end
end K
end Ev
end

section
set_option autoImplicit false
set_option maxRecDepth 100000
set_option linter.unusedVariables false
set_option linter.unusedSimpArgs false
open PySem L2
namespace Ev
namespace K
theorem cut_mid {pre mid post : List D} : cutD (pre ++ mid ++ post) (some (pre.length : Nat)) (some ((pre.length + mid.length : Nat) : Int)) = mid := by
  unfold cutD
  rw [HT.sIx_nat, HT.sIx_nat]
  have h1 : min pre.length (pre ++ mid ++ post).length = pre.length := by simp
  have h2 : min (pre.length + mid.length) (pre ++ mid ++ post).length = pre.length + mid.length := by simp; try omega
  rw [h1, h2, List.append_assoc, List.drop_left, Nat.add_sub_cancel_left, List.take_left]
theorem cut_tail {pre post : List D} : cutD (pre ++ post) (some (pre.length : Nat)) none = post := by
  unfold cutD
  rw [HT.sIx_nat, HT.sIx_none]
  have h1 : min pre.length (pre ++ post).length = pre.length := by simp
  rw [h1, List.drop_left, List.take_of_length_le]
  simp
theorem cut_head {pre post : List D} : cutD (pre ++ post) none (some (pre.length : Nat)) = pre := by
  unfold cutD
  rw [HT.sIx_nat, HT.sIx_none]
  have h1 : min pre.length (pre ++ post).length = pre.length := by simp
  rw [h1, List.drop_zero, Nat.sub_zero, List.take_left]
theorem slc_mid {pre mid post xs : List Int} {s : Sto} {i j : Int} (e : xs = pre ++ mid ++ post) (hi : i = pre.length) (hj : j = pre.length + mid.length) : slcD (tupI xs) (some i) (some j) s = some (tupI mid, s) := by
  subst e hi hj
  show some (D.tup (cutD _ _ _), s) = _
  have := cut_mid (pre := pre.map D.int) (mid := mid.map D.int) (post := post.map D.int)
  rw [List.length_map, List.length_map] at this
  rw [List.map_append, List.map_append]
  have e2 : ((pre.length : Int) + (mid.length : Int)) = ((pre.length + mid.length : Nat) : Int) := by omega
  rw [e2, this]
  rfl
theorem slc_tail {pre post xs : List Int} {s : Sto} {i : Int} (e : xs = pre ++ post) (hi : i = pre.length) : slcD (tupI xs) (some i) none s = some (tupI post, s) := by
  subst e hi
  show some (D.tup (cutD _ _ _), s) = _
  have := cut_tail (pre := pre.map D.int) (post := post.map D.int)
  rw [List.length_map] at this
  rw [List.map_append, this]
  rfl
theorem pures_two (a b : List Int) : D.pures [tupI a, tupI b] = true := by
  simp [D.pures]
theorem pures_one (a : List Int) : D.pures [tupI a] = true := by
  simp [D.pures]
section
variable {n : Nat} {s : Sto}
theorem newT_le {ds : List D} {s : Sto} (h : ds.length ≤ L) : newT s ds = some (.tup ds, s) := if_pos h
theorem newL_le {ds : List D} {s : Sto} (h : ds.length ≤ L) : newL s ds = some (.ref s.length, s ++ [.lst ds]) := if_pos h
/-- the two sides -/
theorem sides_run {l r : Tr} (hn : (Tr.node l r).code.length < 1000000) : callD tb gl (n + 2) "sides_of" [tupI (Tr.node l r).code] s = some (.tup [tupI l.code, tupI r.code], s) := by
  refine callP tb_c_sides_of rfl (pures_one _) (body_rt (s' := []) (env := [some (tupI (Tr.node l r).code), some (.int ((1 + l.code.length : Nat) : Int))]) ?_) (by simp [D.pure, D.pures])
  have h1 := end_at_run (n := n) (s := []) (t := l) (xs := (Tr.node l r).code) (pre := [-1]) (post := r.code) (by simp [Tr.code]) hn
  have h1 : callD tb gl (n + 1) "end_at" [tupI (Tr.node l r).code, .int 1] [] = some (.int ((1 + l.code.length : Nat) : Int), []) := h1
  have e1 : slcD (tupI (Tr.node l r).code) (some 1) (some ((1 + l.code.length : Nat) : Int)) [] = some (tupI l.code, []) := slc_mid (pre := [-1]) (mid := l.code) (post := r.code) (by simp [Tr.code]) rfl (by simp)
  have e2 : slcD (tupI (Tr.node l r).code) (some ((1 + l.code.length : Nat) : Int)) none [] = some (tupI r.code, []) := slc_tail (pre := -1 :: l.code) (post := r.code) (by simp [Tr.code]) (by simp; omega)
  have e3 : newT [] [tupI l.code, tupI r.code] = some (.tup [tupI l.code, tupI r.code], []) := newT_le (by simp [L])
  generalize ((1 + l.code.length : Nat) : Int) = m at h1 e1 e2 ⊢
  simp [c_sides_of, h1, e1, e2, e3, E.isStar]
theorem size_pos : ∀ t : Tr, 0 < t.size
  | .leaf _ => Nat.one_pos
  | .node l r => by have := size_pos l; simp only [Tr.size]; omega
/-- the law's own end of a tree -/
theorem lend_run : ∀ (t : Tr) {n : Nat} {s : Sto} {xs pre post : List Int}, xs = pre ++ t.code ++ post → t.size ≤ n → callD tb gl n "_law_end" [tupI xs, .int (pre.length : Nat)] s = some (.int ((pre.length + t.code.length : Nat) : Int), s)
  | .leaf a, 0, _, _, _, _, _, hn => by simp [Tr.size] at hn
  | .leaf a, n + 1, s, xs, pre, post, e, hn => by
    refine callP tb_l_end rfl (by simp [D.pures, D.pure]) (body_rt (s' := []) (env := [some (tupI xs), some (.int (pre.length : Nat))]) ?_) rfl
    have hp : pre.length < xs.length := by rw [e]; simp [Tr.code]
    have hx : xs[pre.length] = a := by
      subst e
      simp [Tr.code]
    have ha : ¬ (a : Int) = -1 := by omega
    have := idx_tupI xs pre.length hp []
    rw [hx] at this
    simp [l_end, this, cmpD, ha, binD, Tr.code]
  | .node l r, 0, _, _, _, _, _, hn => by have := size_pos (.node l r); omega
  | .node l r, n + 1, s, xs, pre, post, e, hn => by
    have hs := size_pos l
    have hs' := size_pos r
    simp only [Tr.size] at hn
    have h1 := lend_run l (n := n) (s := []) (xs := xs) (pre := pre ++ [-1]) (post := r.code ++ post) (by rw [e]; simp [Tr.code]) (by omega)
    have h2 := lend_run r (n := n) (s := []) (xs := xs) (pre := pre ++ -1 :: l.code) (post := post) (by rw [e]; simp [Tr.code]) (by omega)
    refine callP tb_l_end rfl (by simp [D.pures, D.pure]) (body_rt (s' := []) (env := [some (tupI xs), some (.int (pre.length : Nat))]) ?_) rfl
    have hp : pre.length < xs.length := by rw [e]; simp [Tr.code]
    have hx : xs[pre.length] = -1 := by
      subst e
      simp [Tr.code]
    have := idx_tupI xs pre.length hp []
    rw [hx] at this
    have e1 : (((pre ++ [-1]).length : Nat) : Int) = (pre.length : Int) + 1 := by simp
    have e2 : (((pre ++ [-1]).length + l.code.length : Nat) : Int) = (((pre ++ -1 :: l.code).length : Nat) : Int) := by simp; omega
    have e3 : (((pre ++ -1 :: l.code).length + r.code.length : Nat) : Int) = (pre.length : Int) + ((Tr.node l r).code.length : Nat) := by simp [Tr.code]; omega
    rw [e2, e1] at h1
    rw [e3] at h2
    generalize (((pre ++ -1 :: l.code).length : Nat) : Int) = z at h1 h2
    simp only [Int.natCast_add]
    generalize ((Tr.node l r).code.length : Nat) = m at *
    simp [l_end, this, cmpD, binD, h1, h2, E.isStar]
theorem lsides_run {l r : Tr} (hn : l.size ≤ n) : callD tb gl (n + 1) "_law_sides" [tupI (Tr.node l r).code] s = some (.tup [tupI l.code, tupI r.code], s) := by
  refine callP tb_l_sides rfl (pures_one _) (body_rt (s' := []) (env := [some (tupI (Tr.node l r).code), some (.int ((1 + l.code.length : Nat) : Int))]) ?_) (by simp [D.pure, D.pures])
  have h1 := lend_run l (n := n) (s := []) (xs := (Tr.node l r).code) (pre := [-1]) (post := r.code) (by simp [Tr.code]) hn
  have h1 : callD tb gl n "_law_end" [tupI (Tr.node l r).code, .int 1] [] = some (.int ((1 + l.code.length : Nat) : Int), []) := h1
  have e1 : slcD (tupI (Tr.node l r).code) (some 1) (some ((1 + l.code.length : Nat) : Int)) [] = some (tupI l.code, []) := slc_mid (pre := [-1]) (mid := l.code) (post := r.code) (by simp [Tr.code]) rfl (by simp)
  have e2 : slcD (tupI (Tr.node l r).code) (some ((1 + l.code.length : Nat) : Int)) none [] = some (tupI r.code, []) := slc_tail (pre := -1 :: l.code) (post := r.code) (by simp [Tr.code]) (by simp; omega)
  have e3 : newT [] [tupI l.code, tupI r.code] = some (.tup [tupI l.code, tupI r.code], []) := newT_le (by simp [L])
  generalize ((1 + l.code.length : Nat) : Int) = m at h1 e1 e2 ⊢
  simp [l_sides, h1, e1, e2, e3, E.isStar]
/-! how many leaves -/
def many (xs : List Int) : Nat := (xs.filter fun x => !decide (x = -1)).length
theorem many_loop (cl : Str → List D → Sto → Option (D × Sto)) (gl : Str → Option D) (o : Option D) {g : Src} (hg : g.keep = []) : ∀ (xs acc : List Int) {y : Option D}, xs.length + acc.length ≤ 1000000 →
    compL (evE cl gl (.var 1)) (evC cl gl (some (.cmp .NotEq (.var 1) (.neg (.lit (.int 1)))))) (.nm 1) [o, y] g (xs.map .int) (acc.map .int) s = some ((acc ++ xs.filter fun x => !decide (x = -1)).map .int, s)
  | [], acc, y, _ => by simp [compL, Src.ok, hg]
  | x :: xs, acc, y, h => by
    simp only [List.length_cons] at h
    rw [List.map_cons, compL]
    simp only [Src.ok, hg, List.all_nil, if_true, t_nm, Option.bind_some, List.set_cons_succ, List.set_cons_zero, r_csome, r_cmp, r_var, look_succ, look_zero, Option.map_some, bnd_some, r_neg, r_lit, cmpD, eqD_int]
    by_cases hx : x = -1
    · subst hx
      have := many_loop cl gl o hg xs acc (y := y) (by omega)
      simp [this]
    · have := many_loop cl gl o hg xs (acc ++ [x]) (y := y) (by simp; omega)
      rw [List.map_append, List.map_cons, List.map_nil] at this
      have hl : acc.length < L := by simp [L]; omega
      simp [hx, this, hl]
theorem leaves_body {cl : Str → List D → Sto → Option (D × Sto)} {gl : Str → Option D} {xs : List Int} (h : xs.length ≤ 1000000) : evSs cl gl c_leaves_of [some (tupI xs), none] [] = some ((.rt (.int (many xs : Nat)), [some (tupI xs), none]), [.lst ((xs.filter fun x => !decide (x = -1)).map .int)]) := by
  have := many_loop (s := []) cl gl (some (tupI xs)) (y := none) (g := ⟨xs.map .int, [], none⟩) rfl xs [] (by simpa using h)
  simp only [List.map_nil, List.nil_append] at this
  have e : srcOf (tupI xs) [] = some ⟨xs.map .int, [], none⟩ := rfl
  have ew : wipeD [some (tupI xs), none] [1] = [some (tupI xs), none] := rfl
  have el : lockS ⟨xs.map .int, [], none⟩ ([] : Sto) = [] := rfl
  have eu : unlockS ⟨xs.map .int, [], none⟩ ([] : Sto) [] = [] := rfl
  simp [c_leaves_of, e, ew, el, eu, this, E.isStar, bifD, many]
theorem leaves_run {xs : List Int} (h : xs.length ≤ 1000000) : callD tb gl (n + 1) "leaves_of" [tupI xs] s = some (.int (many xs : Nat), s) :=
  callP tb_c_leaves_of rfl (pures_one _) (body_rt (leaves_body h)) rfl
theorem lleaves_run {xs : List Int} (h : xs.length ≤ 1000000) : callD tb gl (n + 1) "_law_leaves" [tupI xs] s = some (.int (many xs : Nat), s) :=
  callP tb_l_leaves rfl (pures_one _) (body_rt (show evSs _ _ c_leaves_of [some (tupI xs), none] [] = _ from leaves_body h)) rfl
/-! one tree above two -/
def pc : Option Tr → List Int
  | none => []
  | some t => t.code
def pt : Option Tr → Option Tr → Option Tr
  | none, q => q
  | some p, none => some p
  | some p, some q => some (.node p q)
theorem code_ne (t : Tr) : t.code ≠ [] := by cases t <;> simp [Tr.code]
theorem pc_nil (p : Option Tr) : pc p = [] ↔ p = none := by
  cases p with
  | none => simp [pc]
  | some t => simp [pc, code_ne]
theorem eq_nil (s : Sto) (xs : List Int) : eqD s (tupI xs) (.tup []) = some (decide (xs = [])) := eqD_tupI s xs []
theorem put_run {p q : Option Tr} (h : (pc p).length + (pc q).length ≤ 1000000) : callD tb gl (n + 1) "put" [tupI (pc p), tupI (pc q)] s = some (tupI (pc (pt p q)), s) := by
  refine callP tb_c_put rfl (pures_two _ _) (body_rt (s' := []) (env := [some (tupI (pc p)), some (tupI (pc q))]) ?_) (by simp)
  have e0 : newT [] [] = some (D.tup [], []) := rfl
  have i1 : ∀ xs : List Int, itemsD (tupI xs) [] = some (xs.map .int) := fun _ => rfl
  have i2 : ∀ xs : List D, (D.tup xs).spl = xs := fun _ => rfl
  have e1 : newT [] ((pc p).map D.int ++ (pc q).map D.int) = some (tupI (pc p ++ pc q), []) := by rw [newT_le (by simp [L]; omega), tupI, List.map_append]
  have e2 : newT [] (D.int (-1) :: ((pc p).map D.int ++ (pc q).map D.int)) = some (tupI (-1 :: (pc p ++ pc q)), []) := by rw [newT_le (by simp [L]; omega), tupI, List.map_cons, List.map_append]
  cases p with
  | none =>
    simp only [pc] at *
    simp [c_put, cmpD, e0, eq_nil, E.isStar, i1, i2, pt] at *
    rw [e1]
    cases q <;> simp [pc]
  | some p =>
    cases q with
    | none =>
      simp only [pc] at *
      simp [c_put, cmpD, e0, eq_nil, E.isStar, i1, i2, pt, code_ne] at *
      simp [e1, pc]
    | some q =>
      simp only [pc] at *
      simp [c_put, cmpD, e0, eq_nil, E.isStar, i1, i2, pt, code_ne] at *
      simp [e2, pc, Tr.code]
theorem lput_run {p q : Option Tr} (h : (pc p).length + (pc q).length ≤ 1000000) : callD tb gl (n + 1) "_law_put" [tupI (pc p), tupI (pc q)] s = some (tupI (pc (pt p q)), s) := by
  refine callP tb_l_put rfl (pures_two _ _) (body_rt (s' := []) (env := [some (tupI (pc p)), some (tupI (pc q))]) ?_) (by simp)
  have e0 : newT [] [] = some (D.tup [], []) := rfl
  have e1 : binD .Add (tupI (pc p)) (tupI (pc q)) [] = some (tupI (pc p ++ pc q), []) := by
    show newT _ _ = _
    rw [newT_le (by simp [L]; omega), tupI, List.map_append]
  have e2 : newT [] [D.int (-1)] = some (tupI [-1], []) := rfl
  have e3 : binD .Add (tupI [-1]) (tupI (pc p)) [] = some (tupI (-1 :: pc p), []) := by
    show newT _ _ = _
    rw [newT_le (by simp [L]; omega)]
    rfl
  have e4 : binD .Add (tupI (-1 :: pc p)) (tupI (pc q)) [] = some (tupI (-1 :: (pc p ++ pc q)), []) := by
    show newT _ _ = _
    rw [newT_le (by simp [L]; omega)]
    simp [tupI]
  cases p with
  | none =>
    simp only [pc] at *
    simp [l_put, cmpD, e0, eq_nil, E.isStar, pt, e1]
  | some p =>
    cases q with
    | none =>
      simp only [pc] at *
      simp [l_put, cmpD, e0, eq_nil, E.isStar, pt, code_ne, e1, pc]
    | some q =>
      simp only [pc] at *
      simp [l_put, cmpD, e0, eq_nil, E.isStar, pt, code_ne, e2, e3, e4, pc, Tr.code]
end
end K
end Ev
end

section
set_option autoImplicit false
set_option maxRecDepth 100000
set_option linter.unusedVariables false
set_option linter.unusedSimpArgs false
open PySem L2
namespace Ev
namespace K
/-! how often one tree stands within another -/
def cn : Tr → Tr → Nat
  | p, .leaf a => if p = .leaf a then 1 else 0
  | p, .node l r => cn p l + cn p r + match p with
    | .leaf _ => 0
    | .node pl pr => cn pl l * cn pr r
def cnt : Option Tr → Tr → Nat
  | none, _ => 1
  | some p, t => cn p t
theorem cn_leaf (p : Tr) (a : Nat) : cn p (.leaf a) = if p = .leaf a then 1 else 0 := by cases p <;> rfl
theorem cn_node (p l r : Tr) : cn p (.node l r) = cn p l + cn p r + match p with
    | .leaf _ => 0
    | .node pl pr => cn pl l * cn pr r := by cases p <;> rfl
theorem cn_lt : ∀ p t : Tr, cn p t < 2 ^ t.size
  | p, .leaf a => by
    simp only [cn, Tr.size]
    split <;> decide
  | p, .node l r => by
    have h1 := cn_lt p l
    have h2 := cn_lt p r
    simp only [cn, Tr.size, Nat.pow_add]
    have h0 : (match p with
      | .leaf _ => 0
      | .node pl pr => cn pl l * cn pr r) ≤ (2 ^ l.size - 1) * (2 ^ r.size - 1) := by
      cases p with
      | leaf _ => exact Nat.zero_le _
      | node pl pr =>
        have h3 := cn_lt pl l
        have h4 := cn_lt pr r
        exact Nat.mul_le_mul (by omega) (by omega)
    generalize (match p with
      | .leaf _ => 0
      | .node pl pr => cn pl l * cn pr r) = z at h0 ⊢
    obtain ⟨a, ha⟩ : ∃ a, 2 ^ l.size = a + 1 := ⟨2 ^ l.size - 1, by omega⟩
    obtain ⟨b, hb⟩ : ∃ b, 2 ^ r.size = b + 1 := ⟨2 ^ r.size - 1, by omega⟩
    rw [ha] at h1 h0
    rw [hb] at h2 h0
    rw [ha, hb, Nat.add_mul, Nat.mul_add]
    simp only [Nat.add_sub_cancel] at h0
    generalize a * b = ab at *
    omega
theorem code_len : ∀ t : Tr, t.code.length + 1 = 2 * t.size
  | .leaf _ => rfl
  | .node l r => by
    have := code_len l
    have := code_len r
    simp only [Tr.code, Tr.size, List.length_cons, List.length_append]
    omega
theorem code_inj : ∀ {p t : Tr} {u v : List Int}, p.code ++ u = t.code ++ v → p = t ∧ u = v
  | .leaf a, .leaf b, u, v, h => by
    simp [Tr.code] at h
    obtain ⟨h, rfl⟩ := h
    exact ⟨congrArg Tr.leaf (by omega), rfl⟩
  | .leaf a, .node l r, u, v, h => by
    simp [Tr.code] at h
  | .node l r, .leaf a, u, v, h => by
    simp [Tr.code] at h
  | .node l r, .node l' r', u, v, h => by
    simp only [Tr.code, List.cons_append, List.append_assoc, List.cons.injEq, true_and] at h
    obtain ⟨rfl, h2⟩ := code_inj h
    obtain ⟨rfl, h3⟩ := code_inj h2
    exact ⟨rfl, h3⟩
theorem code_inj' {p t : Tr} (e : p.code = t.code) : p = t :=
  (code_inj (u := []) (v := []) (by simpa using e)).1
theorem mul_ok {a b : Nat} (h : a < 2 ^ 64) : mulOk (a : Int) (b : Int) = true := by
  unfold mulOk
  have : (decide ((a : Int).natAbs < 2 ^ 64)) = true := by simpa using h
  rw [this]
  simp
section
variable {s : Sto}
theorem node_head (l r : Tr) (s : Sto) : idxD (tupI (Tr.node l r).code) (.int 0) s = some (.int (-1), s) :=
  idx_tupI (Tr.node l r).code 0 (by simp [Tr.code]) s
theorem count_run : ∀ (t : Tr) {n : Nat} {p : Tr} {s : Sto}, t.size ≤ 20 → p.size ≤ 20 → t.size + 2 ≤ n → callD tb gl n "count_of" [tupI p.code, tupI t.code] s = some (.int (cn p t : Nat), s)
  | t, 0, p, s, ht, hp, hn => by omega
  | .leaf a, n + 1, p, s, ht, hp, hn => by
    refine callP tb_c_count_of rfl (pures_two _ _) (body_rt (s' := []) (env := [some (tupI p.code), some (tupI (Tr.leaf a).code), none, none, none, none, none]) ?_) rfl
    have e0 : newT [] [] = some (D.tup [], []) := rfl
    have e1 : idxD (tupI (Tr.leaf a).code) (.int 0) [] = some (.int a, []) := rfl
    have ha : ¬ (a : Int) = -1 := by omega
    have e2 : (p.code = (Tr.leaf a).code) ↔ p = .leaf a := ⟨code_inj', fun h => by rw [h]⟩
    simp [c_count_of, cmpD, e0, eq_nil, code_ne, e1, ha, E.isStar, bifD, e2, cn]
    split <;> rfl
  | .node l r, n + 1, p, s, ht, hp, hn => by
    have hl := size_pos l
    have hr := size_pos r
    have hc := code_len (.node l r)
    have hc' := code_len p
    simp only [Tr.size] at ht hn
    obtain ⟨n, rfl⟩ : ∃ m, n = m + 2 := ⟨n - 2, by omega⟩
    have e0 : newT [] [] = some (D.tup [], []) := rfl
    have e1 : idxD (tupI (Tr.node l r).code) (.int 0) [] = some (.int (-1), []) := node_head _ _ _
    have e2 := sides_run (n := n) (s := []) (l := l) (r := r) (by simp only [Tr.size] at hc; omega)
    have c1 := count_run l (n := n + 2) (p := p) (s := []) (by omega) hp (by omega)
    have c2 := count_run r (n := n + 2) (p := p) (s := []) (by omega) hp (by omega)
    cases p with
    | leaf b =>
      refine callP tb_c_count_of rfl (pures_two _ _) (body_rt (s' := []) (env := [some (tupI (Tr.leaf b).code), some (tupI (Tr.node l r).code), some (.int (cn (.leaf b) (.node l r) : Nat)), some (tupI l.code), some (tupI r.code), none, none]) ?_) rfl
      have e3 : idxD (tupI (Tr.leaf b).code) (.int 0) [] = some (.int b, []) := rfl
      have hb : ¬ (b : Int) = -1 := by omega
      simp [c_count_of, cmpD, e0, eq_nil, code_ne, e1, E.isStar, bifD, e2, e3, hb, c1, c2, binD, cn]
    | node pl pr =>
      simp only [Tr.size] at hp
      have hpl := size_pos pl
      have hpr := size_pos pr
      refine callP tb_c_count_of rfl (pures_two _ _) (body_rt (s' := []) (env := [some (tupI (Tr.node pl pr).code), some (tupI (Tr.node l r).code), some (.int (cn (.node pl pr) (.node l r) : Nat)), some (tupI l.code), some (tupI r.code), some (tupI pl.code), some (tupI pr.code)]) ?_) rfl
      have e3 : idxD (tupI (Tr.node pl pr).code) (.int 0) [] = some (.int (-1), []) := node_head _ _ _
      have e4 := sides_run (n := n) (s := []) (l := pl) (r := pr) (by simp only [Tr.size] at hc'; omega)
      have c3 := count_run l (n := n + 2) (p := pl) (s := []) (by omega) (by omega) (by omega)
      have c4 := count_run r (n := n + 2) (p := pr) (s := []) (by omega) (by omega) (by omega)
      have hm : mulOk (cn pl l : Nat) (cn pr r : Nat) = true := mul_ok (Nat.lt_of_lt_of_le (cn_lt pl l) (Nat.pow_le_pow_right (by decide) (by omega)))
      simp [c_count_of, cmpD, e0, eq_nil, code_ne, e1, E.isStar, bifD, e2, e3, e4, c1, c2, c3, c4, hm, binD, cn]
theorem count_run' {t : Tr} {n : Nat} {p : Option Tr} (hp : ∀ q, p = some q → q.size ≤ 20) (ht : t.size ≤ 20) (hn : t.size + 2 ≤ n) : callD tb gl n "count_of" [tupI (pc p), tupI t.code] s = some (.int (cnt p t : Nat), s) := by
  cases p with
  | some q => exact count_run t ht (hp q rfl) hn
  | none =>
    obtain ⟨n, rfl⟩ : ∃ m, n = m + 1 := ⟨n - 1, by omega⟩
    refine callP tb_c_count_of rfl (pures_two _ _) (body_rt (s' := []) (env := [some (tupI []), some (tupI t.code), none, none, none, none, none]) ?_) rfl
    have e0 : newT [] [] = some (D.tup [], []) := rfl
    simp [c_count_of, pc, cmpD, e0, eq_nil, E.isStar, bifD, cnt]
end
/-! trees as great as the tree -/
theorem cn_big : ∀ {t p : Tr}, t.size < p.size → cn p t = 0
  | .leaf a, p, h => by
    rw [cn_leaf, if_neg]
    rintro rfl
    exact absurd h (Nat.lt_irrefl _)
  | .node l r, p, h => by
    have hl := size_pos l
    have hr := size_pos r
    simp only [Tr.size] at h
    rw [cn_node, cn_big (t := l) (by omega), cn_big (t := r) (by omega)]
    cases p with
    | leaf _ => rfl
    | node pl pr =>
      simp only [Tr.size] at h
      by_cases h1 : l.size < pl.size
      · simp [cn_big h1]
      · simp [cn_big (t := r) (p := pr) (by omega)]
theorem cn_same : ∀ {t p : Tr}, p.size = t.size → cn p t = if p = t then 1 else 0
  | .leaf a, p, h => by rw [cn_leaf]
  | .node l r, p, h => by
    have hl := size_pos l
    have hr := size_pos r
    simp only [Tr.size] at h
    rw [cn_node, cn_big (t := l) (p := p) (by omega), cn_big (t := r) (p := p) (by omega)]
    cases p with
    | leaf _ => simp
    | node pl pr =>
      simp only [Tr.size] at h
      by_cases h1 : l.size < pl.size
      · have : ¬ pl = l := by rintro rfl; omega
        simp [cn_big h1, this]
      · by_cases h2 : r.size < pr.size
        · have : ¬ pr = r := by rintro rfl; omega
          simp [cn_big h2, this]
        · simp only
          rw [cn_same (t := l) (p := pl) (by omega), cn_same (t := r) (p := pr) (by omega)]
          by_cases h3 : pl = l <;> by_cases h4 : pr = r <;> simp [h3, h4]
end K
end Ev
end

section
set_option autoImplicit false
set_option maxRecDepth 100000
set_option linter.unusedVariables false
set_option linter.unusedSimpArgs false
open PySem L2
namespace Ev
namespace K
/-! rows as lists -/
abbrev Rw := List (Option Tr × Nat)
def nl : Option Tr → Nat
  | none => 0
  | some t => t.size
theorem many_append (a b : List Int) : many (a ++ b) = many a + many b := by simp [many]
theorem many_code : ∀ t : Tr, many t.code = t.size
  | .leaf a => by
    have : ¬ (a : Int) = -1 := by omega
    simp [Tr.code, many, Tr.size, this]
  | .node l r => by
    have h1 := many_code l
    have h2 := many_code r
    have : many (Tr.node l r).code = many (l.code ++ r.code) := by simp [many, Tr.code]
    rw [this, many_append, h1, h2, Tr.size]
theorem many_pc (p : Option Tr) : many (pc p) = nl p := by
  cases p with
  | none => rfl
  | some t => exact many_code t
theorem pc_inj {p q : Option Tr} (h : pc p = pc q) : p = q := by
  cases p with
  | none => exact ((pc_nil q).1 h.symm).symm
  | some t => cases q with
    | none => exact absurd h (code_ne t)
    | some u => exact congrArg some (code_inj' h)
theorem pc_len (p : Option Tr) : (pc p).length ≤ 2 * nl p := by
  cases p with
  | none => exact Nat.zero_le _
  | some t => have := code_len t; simp only [pc, nl]; omega
theorem nl_pt (p q : Option Tr) : nl (pt p q) = nl p + nl q := by
  cases p <;> cases q <;> simp [pt, nl, Tr.size]
def dT (m : Rw) : List (D × D) := m.map fun p => (tupI (pc p.1), .int p.2)
def lkT (m : Rw) (x : Option Tr) : Option Nat := (m.find? fun p => decide (p.1 = x)).map (·.2)
def puT (m : Rw) (x : Option Tr) (c : Nat) : Rw :=
  if (m.any fun p => decide (p.1 = x)) = true then m.map (fun p => if p.1 = x then (p.1, c) else p) else m ++ [(x, c)]
theorem key_inj {p q : Option Tr} : tupI (pc p) = tupI (pc q) ↔ p = q := ⟨fun h => pc_inj (tupI_inj h), fun h => by rw [h]⟩
theorem keyFits_dT (m : Rw) (xs : List Int) : keyFits (dT m) (tupI xs) = true := by
  unfold keyFits
  rw [tupK_tupI]
  have : (dT m).all (fun kv => tupK kv.1) = true := by
    rw [List.all_eq_true]
    intro p hp
    obtain ⟨q, _, rfl⟩ := List.mem_map.mp hp
    exact tupK_tupI _
  rw [this]
  simp
theorem dget_dT (m : Rw) (x : Option Tr) : dget (dT m) (tupI (pc x)) = (lkT m x).map fun c : Nat => D.int (c : Int) := by
  unfold dget lkT dT
  induction m with
  | nil => rfl
  | cons p m ih =>
    rw [List.map_cons]
    by_cases h : p.1 = x
    · simp [h]
    · have h' : ¬ tupI (pc p.1) = tupI (pc x) := fun z => h (key_inj.1 z)
      simp only [List.find?_cons, decide_eq_false h, decide_eq_false h']
      exact ih
theorem dput_dT (m : Rw) (x : Option Tr) (c : Nat) : dput (dT m) (tupI (pc x)) (.int c) = dT (puT m x c) := by
  have hany : ((dT m).any fun kv => decide (kv.1 = tupI (pc x))) = (m.any fun p => decide (p.1 = x)) := by
    unfold dT
    rw [List.any_map]
    congr 1
    funext p
    simp only [Function.comp]
    by_cases h : p.1 = x
    · simp [h]
    · rw [decide_eq_false h, decide_eq_false fun z => h (key_inj.1 z)]
  unfold dput puT
  rw [hany]
  split
  · unfold dT
    rw [List.map_map, List.map_map]
    refine List.map_congr_left fun p _ => ?_
    simp only [Function.comp]
    by_cases h : p.1 = x
    · rw [if_pos h, if_pos (by rw [h])]
    · rw [if_neg h, if_neg fun z => h (key_inj.1 z)]
  · unfold dT
    rw [List.map_append]
    rfl
theorem lk_nil (x : Option Tr) : lkT [] x = none := rfl
theorem lk_cons (p : Option Tr × Nat) (m : Rw) (x : Option Tr) : lkT (p :: m) x = if p.1 = x then some p.2 else lkT m x := by
  unfold lkT
  by_cases h : p.1 = x <;> simp [h]
theorem lk_append (m : Rw) (p : Option Tr × Nat) (x : Option Tr) : lkT (m ++ [p]) x = (lkT m x).or (if p.1 = x then some p.2 else none) := by
  induction m with
  | nil => rw [List.nil_append, lk_cons]; rfl
  | cons q m ih => rw [List.cons_append, lk_cons, lk_cons, ih]; split <;> rfl
theorem lk_none {m : Rw} {x : Option Tr} : lkT m x = none ↔ ∀ p ∈ m, p.1 ≠ x := by
  unfold lkT
  simp
theorem lk_any {m : Rw} {x : Option Tr} : (m.any fun p => decide (p.1 = x)) = true ↔ lkT m x ≠ none := by
  rw [Ne, lk_none]
  simp
theorem lk_repl (m : Rw) (x : Option Tr) (c : Nat) (y : Option Tr) : lkT (m.map fun p => if p.1 = x then (p.1, c) else p) y = if y = x then (lkT m x).map fun _ => c else lkT m y := by
  induction m with
  | nil => split <;> rfl
  | cons p m ih =>
    rw [List.map_cons, lk_cons, ih, lk_cons, lk_cons]
    by_cases h : p.1 = x
    · simp only [h, if_true]
      by_cases h2 : x = y
      · simp [h2]
      · have : ¬ y = x := fun z => h2 z.symm
        simp [h2, this]
    · simp only [h, if_false]
      by_cases h2 : y = x
      · subst h2
        simp [h]
      · simp [h2]
theorem lk_pu (m : Rw) (x : Option Tr) (c : Nat) (y : Option Tr) : lkT (puT m x c) y = if y = x then some c else lkT m y := by
  unfold puT
  split
  next h =>
    rw [lk_repl]
    split
    · have := lk_any.1 h
      cases hl : lkT m x with
      | none => exact absurd hl this
      | some _ => rfl
    · rfl
  next h =>
    have h : lkT m x = none := by
      by_cases h0 : lkT m x = none
      · exact h0
      · exact absurd (lk_any.2 h0) h
    rw [lk_append]
    by_cases h2 : y = x
    · subst h2
      simp [h]
    · have : ¬ x = y := fun z => h2 z.symm
      simp [h2, this]
theorem keys_pu {m : Rw} (x : Option Tr) (c : Nat) (h : (m.map (·.1)).Nodup) : ((puT m x c).map (·.1)).Nodup := by
  unfold puT
  split
  · have : (m.map fun p => if p.1 = x then (p.1, c) else p).map (·.1) = m.map (·.1) := by
      rw [List.map_map]
      refine List.map_congr_left fun p _ => ?_
      simp only [Function.comp]
      split <;> rfl
    rw [this]
    exact h
  next hx =>
    rw [List.map_append, List.nodup_append]
    refine ⟨h, by simp, fun a ha b hb => ?_⟩
    simp only [List.map_cons, List.map_nil, List.mem_singleton] at hb
    subst hb
    rintro rfl
    obtain ⟨p, hp, rfl⟩ := List.mem_map.mp ha
    exact hx (List.any_eq_true.2 ⟨p, hp, by simp⟩)
theorem len_pu (m : Rw) (x : Option Tr) (c : Nat) : (puT m x c).length ≤ m.length + 1 := by
  unfold puT
  split <;> simp
def bump (m : Rw) (e : Option Tr × Nat) : Rw := puT m e.1 ((lkT m e.1).getD 0 + e.2)
def bumps (m : Rw) (es : Rw) : Rw := es.foldl bump m
theorem keys_bumps : ∀ {es m : Rw}, (m.map (·.1)).Nodup → ((bumps m es).map (·.1)).Nodup
  | [], m, h => h
  | e :: es, m, h => keys_bumps (es := es) (keys_pu _ _ h)
theorem len_bumps : ∀ (es m : Rw), (bumps m es).length ≤ m.length + es.length
  | [], m => Nat.le_refl _
  | e :: es, m => by
    have h1 := len_bumps es (bump m e)
    have h2 := len_pu m e.1 ((lkT m e.1).getD 0 + e.2)
    have : bumps m (e :: es) = bumps (bump m e) es := rfl
    rw [this, List.length_cons]
    have h3 : (bump m e).length ≤ m.length + 1 := h2
    omega
def tot (es : Rw) (x : Option Tr) : Nat := (es.map fun e => if e.1 = x then e.2 else 0).sum
theorem lk_bumps (x : Option Tr) : ∀ {es m : Rw}, (∀ e ∈ es, 0 < e.2) → lkT (bumps m es) x = if tot es x = 0 then lkT m x else some ((lkT m x).getD 0 + tot es x)
  | [], m, _ => by simp [tot, bumps]
  | e :: es, m, h => by
    have ih := lk_bumps x (es := es) (m := bump m e) fun e' h' => h e' (List.mem_cons_of_mem _ h')
    have he := h e (List.mem_cons_self ..)
    have e1 : bumps m (e :: es) = bumps (bump m e) es := rfl
    have e2 : tot (e :: es) x = (if e.1 = x then e.2 else 0) + tot es x := by simp [tot]
    rw [e1, ih, e2, bump, lk_pu]
    by_cases hx : x = e.1
    · subst hx
      have e4 : ¬ e.2 + tot es e.1 = 0 := by omega
      simp only [if_true, eq_self, Option.getD_some]
      rw [if_neg e4]
      split
      next h0 => rw [h0]; rfl
      next h0 => congr 1; omega
    · have : ¬ e.1 = x := fun z => hx z.symm
      simp only [hx, this, if_false, Nat.zero_add]
/-! the sums -/
def wt (m : Rw) (x : Option Tr) : Nat := (lkT m x).getD 0
theorem wt_cons (p : Option Tr × Nat) (m : Rw) (x : Option Tr) : wt (p :: m) x = if p.1 = x then p.2 else wt m x := by
  unfold wt
  rw [lk_cons]
  split <;> rfl
theorem wt_off {m : Rw} {x : Option Tr} (h : x ∉ m.map (·.1)) : wt m x = 0 := by
  unfold wt
  rw [lk_none.2]
  · rfl
  · rintro p hp rfl
    exact h (List.mem_map.2 ⟨p, hp, rfl⟩)
theorem sum3 (g : Option Tr → Nat) {a b c : Option Tr} (hab : a ≠ b) (hbc : b ≠ c) (hac : a ≠ c) (hg : ∀ p, p ≠ a → p ≠ b → p ≠ c → g p = 0) : ∀ {m : Rw}, (m.map (·.1)).Nodup →
    (m.map fun p => p.2 * g p.1).sum = wt m a * g a + wt m b * g b + wt m c * g c
  | [], _ => by simp [wt, lkT]
  | p :: m, h => by
    rw [List.map_cons, List.nodup_cons] at h
    have ih := sum3 g hab hbc hac hg h.2
    rw [List.map_cons, List.sum_cons, ih, wt_cons, wt_cons, wt_cons]
    have h0 := wt_off h.1
    by_cases h1 : p.1 = a
    · have h2 : ¬ p.1 = b := fun z => hab (h1.symm.trans z)
      have h3 : ¬ p.1 = c := fun z => hac (h1.symm.trans z)
      rw [if_pos h1, if_neg h2, if_neg h3, ← h1, h0]
      omega
    · by_cases h2 : p.1 = b
      · have h3 : ¬ p.1 = c := fun z => hbc (h2.symm.trans z)
        rw [if_neg h1, if_pos h2, if_neg h3, ← h2, h0]
        omega
      · by_cases h3 : p.1 = c
        · rw [if_neg h1, if_neg h2, if_pos h3, ← h3, h0]
          omega
        · rw [if_neg h1, if_neg h2, if_neg h3, hg _ h1 h2 h3]
          omega
/-- p's partner for x -/
def rest : Option Tr → Option Tr → Option (Option Tr)
  | none, x => some x
  | some _, none => none
  | some u, some (.leaf a) => if u = .leaf a then some none else none
  | some u, some (.node l r) => if u = .node l r then some none else if u = l then some (some r) else none
theorem ne_left : ∀ (l r : Tr), l ≠ .node l r := fun l r h => by
  have := congrArg Tr.size h
  have h2 := size_pos r
  simp only [Tr.size] at this
  omega
theorem rest_iff (p q x : Option Tr) : pt p q = x ↔ rest p x = some q := by
  rcases p with _ | u
  · rcases q with _ | v <;> simp [pt, rest, eq_comm]
  · rcases x with _ | (_ | ⟨l, r⟩)
    · rcases q with _ | v <;> simp [pt, rest]
    · rcases q with _ | v
      · simp [pt, rest]
      · simp [pt, rest]
    · rcases q with _ | v
      · simp only [pt, rest, Option.some.injEq]
        split
        · simpa
        next h => 
          simp only [h, false_iff]
          split <;> simp
      · simp only [pt, rest, Option.some.injEq, Tr.node.injEq]
        split
        next h =>
          subst h
          simp only [Option.some.injEq, reduceCtorEq, iff_false]
          rintro ⟨h1, _⟩
          exact ne_left _ _ h1.symm
        next h =>
          split
          next h2 => simp [h2, eq_comm]
          next h2 => simp [h2]
def inr (deg : Nat) (p : Option Tr × Nat) (other : Rw) : Rw := (other.filter fun q => decide (nl p.1 + nl q.1 ≤ deg)).map fun q => (pt p.1 q.1, p.2 * q.2)
def prs (deg : Nat) (one other : Rw) : Rw := one.flatMap fun p => inr deg p other
theorem tot_inr {deg : Nat} {p : Option Tr × Nat} {x : Option Tr} : ∀ {other : Rw}, (other.map (·.1)).Nodup →
    tot (inr deg p other) x = p.2 * (match rest p.1 x with
      | none => 0
      | some q => if nl x ≤ deg then wt other q else 0)
  | [], _ => by
    have : tot (inr deg p []) x = 0 := rfl
    rw [this]
    split
    · rfl
    · split <;> rfl
  | q :: other, h => by
    rw [List.map_cons, List.nodup_cons] at h
    have ih := tot_inr (deg := deg) (p := p) (x := x) h.2
    have e : tot (inr deg p (q :: other)) x = (if nl p.1 + nl q.1 ≤ deg then (if pt p.1 q.1 = x then p.2 * q.2 else 0) else 0) + tot (inr deg p other) x := by
      unfold inr
      rw [List.filter_cons]
      by_cases hg : nl p.1 + nl q.1 ≤ deg <;> simp [hg, tot]
    rw [e, ih]
    have hr := rest_iff p.1 q.1 x
    cases hrest : rest p.1 x with
    | none =>
      rw [hrest] at hr
      have : ¬ pt p.1 q.1 = x := fun z => by cases hr.1 z
      simp [this]
    | some q0 =>
      rw [hrest] at hr
      simp only
      rw [wt_cons]
      by_cases hq : q.1 = q0
      · subst hq
        have hx := hr.2 rfl
        have h0 := wt_off h.1
        rw [← hx, nl_pt, h0]
        simp
        split <;> simp
      · have : ¬ pt p.1 q.1 = x := fun z => hq (Option.some.inj (hr.1 z)).symm
        simp [this, hq]
theorem tot_append (a b : Rw) (x : Option Tr) : tot (a ++ b) x = tot a x + tot b x := by simp [tot]
theorem tot_prs {deg : Nat} {x : Option Tr} {other : Rw} (ho : (other.map (·.1)).Nodup) : ∀ one : Rw, tot (prs deg one other) x = (one.map fun p => p.2 * (match rest p.1 x with
      | none => 0
      | some q => if nl x ≤ deg then wt other q else 0)).sum
  | [] => rfl
  | p :: one => by
    have : prs deg (p :: one) other = inr deg p other ++ prs deg one other := rfl
    rw [this, tot_append, tot_inr ho, tot_prs ho one, List.map_cons, List.sum_cons]
theorem prs_pos {deg : Nat} {one other : Rw} (h : ∀ p ∈ one, 0 < p.2) (h' : ∀ p ∈ other, 0 < p.2) : ∀ e ∈ prs deg one other, 0 < e.2 := fun e he => by
  obtain ⟨p, hp, he⟩ := List.mem_flatMap.mp he
  obtain ⟨q, hq, rfl⟩ := List.mem_map.mp he
  exact Nat.mul_pos (h p hp) (h' q (List.mem_filter.mp hq).1)
theorem len_prs (deg : Nat) (other : Rw) : ∀ one : Rw, (prs deg one other).length ≤ one.length * other.length
  | [] => Nat.zero_le _
  | p :: one => by
    have : prs deg (p :: one) other = inr deg p other ++ prs deg one other := rfl
    rw [this, List.length_append, List.length_cons, Nat.succ_mul]
    have h1 := len_prs deg other one
    have h2 : (inr deg p other).length ≤ other.length := by
      unfold inr
      rw [List.length_map]
      exact List.length_filter_le ..
    omega
/-! the rows of trees -/
structure IsRow (deg : Nat) (t : Tr) (m : Rw) : Prop where
  nodup : (m.map (·.1)).Nodup
  lk : ∀ p, lkT m p = if nl p ≤ deg ∧ 0 < cnt p t then some (cnt p t) else none
  len : m.length ≤ 2 ^ t.size
theorem mem_lk {m : Rw} (h : (m.map (·.1)).Nodup) {p : Option Tr × Nat} (hp : p ∈ m) : lkT m p.1 = some p.2 := by
  induction m with
  | nil => cases hp
  | cons q m ih =>
    rw [List.map_cons, List.nodup_cons] at h
    rw [lk_cons]
    rcases List.mem_cons.mp hp with rfl | hp
    · rw [if_pos rfl]
    · rw [if_neg, ih h.2 hp]
      intro e
      exact h.1 (List.mem_map.2 ⟨p, hp, e.symm⟩)
theorem IsRow.mem {deg : Nat} {t : Tr} {m : Rw} (R : IsRow deg t m) {p : Option Tr × Nat} (hp : p ∈ m) : nl p.1 ≤ deg ∧ 0 < p.2 ∧ p.2 = cnt p.1 t := by
  have h := mem_lk R.nodup hp
  rw [R.lk] at h
  split at h
  next h0 =>
    have := Option.some.inj h
    exact ⟨h0.1, this ▸ h0.2, this.symm⟩
  · cases h
theorem IsRow.wt {deg : Nat} {t : Tr} {m : Rw} (R : IsRow deg t m) (p : Option Tr) : wt m p = if nl p ≤ deg then cnt p t else 0 := by
  unfold K.wt
  rw [R.lk]
  by_cases h1 : nl p ≤ deg
  · by_cases h2 : 0 < cnt p t
    · simp [h1, h2]
    · simp [h1, h2]; omega
  · simp [h1]
theorem cnt_lt (p : Option Tr) (t : Tr) : cnt p t < 2 ^ t.size + 1 := by
  cases p with
  | none => have := Nat.two_pow_pos t.size; simp only [cnt]; omega
  | some q => have := cn_lt q t; simp only [cnt]; omega
theorem row_leaf {deg a : Nat} (hd : 0 < deg) : IsRow deg (.leaf a) [(none, 1), (some (.leaf a), 1)] where
  nodup := by simp
  len := by simp [Tr.size]
  lk p := by
    rw [lk_cons, lk_cons, lk_nil]
    rcases p with _ | q
    · simp [nl, cnt]
    · by_cases h : Tr.leaf a = q
      · subst h
        simp [cnt, cn_leaf, nl, Tr.size]
        omega
      · have : ¬ q = .leaf a := fun z => h z.symm
        simp [h, cnt, cn_leaf, this]
theorem row_node {deg : Nat} {l r : Tr} {one other : Rw} (R : IsRow deg l one) (R' : IsRow deg r other) : IsRow deg (.node l r) (bumps [] (prs deg one other)) where
  nodup := keys_bumps (by simp)
  len := by
    have h1 := len_bumps (prs deg one other) []
    have h2 := len_prs deg other one
    have h3 := Nat.mul_le_mul R.len R'.len
    rw [← Nat.pow_add] at h3
    simp only [List.length_nil, Nat.zero_add] at h1
    simp only [Tr.size]
    omega
  lk p := by
    rw [lk_bumps p (prs_pos (fun q hq => (R.mem hq).2.1) fun q hq => (R'.mem hq).2.1), tot_prs R'.nodup, lk_nil]
    have key : (one.map fun q => q.2 * (match rest q.1 p with
      | none => 0
      | some q => if nl p ≤ deg then wt other q else 0)).sum = if nl p ≤ deg then cnt p (.node l r) else 0 := by
      rcases p with _ | (a | ⟨u, v⟩)
      · rw [sum3 (a := none) (b := some (.leaf 0)) (c := some (.leaf 1)) (g := fun q => match rest q none with
          | none => 0
          | some q => if nl none ≤ deg then wt other q else 0) (by simp) (by simp) (by simp) (fun q h _ _ => by rcases q with _ | q <;> simp_all [rest]) R.nodup]
        simp only [rest, R.wt, R'.wt]
        simp [nl, cnt]
      · rw [sum3 (a := none) (b := some (.leaf a)) (c := some (.leaf (a + 1))) (g := fun q => match rest q (some (.leaf a)) with
          | none => 0
          | some q => if nl (some (.leaf a)) ≤ deg then wt other q else 0) (by simp) (by simp) (by simp) (fun q h h' _ => by rcases q with _ | q <;> simp_all [rest]) R.nodup]
        simp only [rest, R.wt, R'.wt]
        by_cases hn : nl (some (.leaf a)) ≤ deg
        · have hn' : (Tr.leaf a).size ≤ deg := hn
          simp [hn', cnt, cn_node, nl]
          try omega
        · simp [hn]
      · have hne : ∀ q, q ≠ none → q ≠ some (.node u v) → q ≠ some u → (match rest q (some (.node u v)) with
          | none => 0
          | some q => if nl (some (.node u v)) ≤ deg then K.wt other q else 0) = 0 := fun q h h' h'' => by
          rcases q with _ | q
          · exact absurd rfl h
          · have a1 : ¬ q = .node u v := fun z => h' (by rw [z])
            have a2 : ¬ q = u := fun z => h'' (by rw [z])
            simp [rest, a1, a2]
        rw [sum3 (a := none) (b := some (.node u v)) (c := some u) (g := fun q => match rest q (some (.node u v)) with
          | none => 0
          | some q => if nl (some (.node u v)) ≤ deg then wt other q else 0) (by simp) (by simpa using (ne_left u v).symm) (by simp) hne R.nodup]
        simp only [rest, R.wt, R'.wt, if_true, if_neg (ne_left u v)]
        by_cases hn : nl (some (.node u v)) ≤ deg
        · have h1 : u.size ≤ deg := by simp only [nl, Tr.size] at hn; omega
          have h2 : v.size ≤ deg := by simp only [nl, Tr.size] at hn; omega
          have hn' : (Tr.node u v).size ≤ deg := hn
          simp only [hn, hn', if_true, cnt, cn_node, nl, h1, h2]
          simp
          try omega
        · simp [hn]
    rw [key]
    by_cases h1 : nl p ≤ deg
    · by_cases h2 : 0 < cnt p (.node l r)
      · have : ¬ cnt p (.node l r) = 0 := by omega
        simp [h1, h2, this]
      · have : cnt p (.node l r) = 0 := by omega
        simp [this]
    · simp [h1]
end K
end Ev
end

section
set_option autoImplicit false
set_option maxRecDepth 100000
set_option linter.unusedVariables false
set_option linter.unusedSimpArgs false
open PySem L2
namespace Ev
namespace K
section
variable {s S : Sto} {f r : Nat} {m acc : Rw} {x : Option Tr} {c : Nat}
theorem ok_get (h : S[f]? = some (.dct (dT m))) : mthOk .get (.ref f) S = true := by simp [mthOk, h]
theorem get_dT (h : S[f]? = some (.dct (dT m))) : mthD .get (.ref f) [tupI (pc x), .int 0] S = some (.int (((lkT m x).getD 0 : Nat) : Int), S) := by
  have e : ((lkT m x).map fun c : Nat => D.int (c : Int)).getD (.int 0) = .int (((lkT m x).getD 0 : Nat) : Int) := by cases lkT m x <;> rfl
  simp [mthD, h, C.kvs, keyFits_dT, dget_dT, e]
theorem dT_len (m : Rw) : (dT m).length = m.length := by simp [dT]
theorem set_dT (h : S[f]? = some (.dct (dT m))) (hl : m.length < L) : setD (.ref f) (tupI (pc x)) (.int (c : Int)) S = some (S.set f (.dct (dT (puT m x c)))) := by
  have : (dT m).length < L := by rw [dT_len]; exact hl
  simp [setD, h, keyFits_dT, dput_dT, this]
theorem idx_dT {k : C} (h : S[f]? = some k) (hk : k.kvs = some (dT m)) (hx : lkT m x = some c) : idxD (.ref f) (tupI (pc x)) S = some (.int (c : Int), S) := by
  cases k with
  | lst ds => cases hk
  | dct kvs => simp only [C.kvs, Option.some.injEq] at hk; subst hk; unfold idxD; simp [h, C.kvs, keyFits_dT, dget_dT, hx]
  | lck kvs => simp only [C.kvs, Option.some.injEq] at hk; subst hk; unfold idxD; simp [h, C.kvs, keyFits_dT, dget_dT, hx]
theorem set_self {S : Sto} {f : Nat} {X : C} (h : S[f]? = some X) : S.set f X = S := by
  apply List.ext_getElem?
  intro i
  rw [List.getElem?_set]
  split
  next e =>
    subst e
    have := (List.getElem?_eq_some_iff.1 h).1
    rw [if_pos this, h]
  · rfl
theorem lock_back {S : Sto} {r f : Nat} {X Y Z : C} (hr : S[r]? = some Y) (hne : f ≠ r) : ((S.set r Z).set f X).set r Y = S.set f X := by
  rw [List.set_comm X Y hne, List.set_set, set_self hr]
section
variable {cl : Str → List D → Sto → Option (D × Sto)} {gl : Str → Option D} {env env' : Env} {t : T} {b : List Ev.S} {kvs : List (D × D)} {X : C} {i : Nat}
theorem for_items (hv : look env i = some (.ref r)) (hr : S[r]? = some (.dct kvs)) (hne : f ≠ r)
    (h : forL (evSs cl gl b) t ⟨kvs.map fun kv => .tup [kv.1, kv.2], [], some r⟩ (kvs.map fun kv => .tup [kv.1, kv.2]) env (S.set r (.lck kvs)) = some ((.nx, env'), (S.set r (.lck kvs)).set f X)) :
    evS cl gl (.for t (.items (.var i)) b) env S = some ((.nx, env'), S.set f X) := by
  have e1 : srcItems (.ref r) S = some ⟨kvs.map fun kv => .tup [kv.1, kv.2], [], some r⟩ := by simp [srcItems, hr, C.kvs]
  have e2 : ∀ g : Src, g.lock = some r → lockS g S = S.set r (.lck kvs) := fun g hg => by simp [lockS, hg, hr]
  have e3 : ∀ g : Src, g.lock = some r → ∀ s1, unlockS g S s1 = s1.set r (.dct kvs) := fun g hg s1 => by simp [unlockS, hg, hr]
  rw [q_for, r_items, r_var, hv]
  simp only [Option.map_some, bnd_some, e1]
  rw [e2 _ rfl, h]
  simp only [bnd_some]
  rw [e3 _ rfl, lock_back hr hne]
theorem for_keys (hv : look env i = some (.ref r)) (hr : S[r]? = some (.dct kvs)) (hne : f ≠ r)
    (h : forL (evSs cl gl b) t ⟨kvs.map (·.1), [], some r⟩ (kvs.map (·.1)) env (S.set r (.lck kvs)) = some ((.nx, env'), (S.set r (.lck kvs)).set f X)) :
    evS cl gl (.for t (.seq (.var i)) b) env S = some ((.nx, env'), S.set f X) := by
  have e1 : srcOf (.ref r) S = some ⟨kvs.map (·.1), [], some r⟩ := by simp [srcOf, hr, C.kvs]
  have e2 : ∀ g : Src, g.lock = some r → lockS g S = S.set r (.lck kvs) := fun g hg => by simp [lockS, hg, hr]
  have e3 : ∀ g : Src, g.lock = some r → ∀ s1, unlockS g S s1 = s1.set r (.dct kvs) := fun g hg s1 => by simp [unlockS, hg, hr]
  rw [q_for, r_seq, r_var, hv]
  simp only [Option.map_some, bnd_some, e1]
  rw [e2 _ rfl, h]
  simp only [bnd_some]
  rw [e3 _ rfl, lock_back hr hne]
end
end
def pairD (q : Option Tr × Nat) : D := .tup [tupI (pc q.1), .int (q.2 : Int)]
theorem items_dT (m : Rw) : ((dT m).map fun kv => D.tup [kv.1, kv.2]) = m.map pairD := by
  rw [dT, List.map_map]
  rfl
theorem keys_dT (m : Rw) : (dT m).map (·.1) = m.map fun q => tupI (pc q.1) := by
  rw [dT, List.map_map]
  rfl
def rpBody : List Ev.S := [.ite (.cmp .LtE (.bin .Add (.call (Str.ofString "leaves_of") [(.var 4)]) (.call (Str.ofString "leaves_of") [(.var 6)])) (.var 0)) [.asg (.nm 8) (.call (Str.ofString "put") [(.var 4), (.var 6)]),
  .seti (.var 3) (.var 8) (.bin .Add (.mth .get (.var 3) [(.var 8), (.lit (.int (0)))]) (.bin .Mult (.var 5) (.var 7)))] []]
def rpOuter : List Ev.S := [.for (.tp [(.nm 6), (.nm 7)]) (.items (.var 2)) rpBody]
section
variable {n deg f r1 r2 : Nat} {a1 a2 : Option D}
theorem rp_body {p q : Option Tr} {c d : Nat} {o8 : Option D} {S : Sto} {acc : Rw} (hc : c < 2 ^ 64) (hp : (pc p).length ≤ 500) (hq : (pc q).length ≤ 500) (hf : S[f]? = some (.dct (dT acc))) (hl : acc.length < L) :
    ∃ o8', evSs (callD tb gl (n + 1)) gl rpBody [some (.int (deg : Int)), a1, a2, some (.ref f), some (tupI (pc p)), some (.int (c : Int)), some (tupI (pc q)), some (.int (d : Int)), o8] S =
      some ((.nx, [some (.int (deg : Int)), a1, a2, some (.ref f), some (tupI (pc p)), some (.int (c : Int)), some (tupI (pc q)), some (.int (d : Int)), o8']), S.set f (.dct (dT (bumps acc (inr deg (p, c) [(q, d)]))))) := by
  have l1 := leaves_run (n := n) (s := S) (xs := pc p) (by omega)
  have l2 := leaves_run (n := n) (s := S) (xs := pc q) (by omega)
  have l3 := put_run (n := n) (s := S) (p := p) (q := q) (by omega)
  rw [many_pc] at l1 l2
  by_cases hg : nl p + nl q ≤ deg
  · have hg' : (nl p : Int) + (nl q : Int) ≤ (deg : Int) := by omega
    have hm := mul_ok (a := c) (b := d) hc
    have e1 := get_dT (x := pt p q) hf
    have e2 := set_dT (x := pt p q) (c := (lkT acc (pt p q)).getD 0 + c * d) hf hl
    have e3 : bumps acc (inr deg (p, c) [(q, d)]) = puT acc (pt p q) ((lkT acc (pt p q)).getD 0 + c * d) := by simp [inr, hg, bumps, bump]
    rw [e3]
    refine ⟨some (tupI (pc (pt p q))), ?_⟩
    simp only [Int.natCast_add, Int.natCast_mul] at e2
    simp [rpBody, E.isStar, l1, l2, l3, binD, cmpD, cmpI, hg', hm, e1, e2, ok_get hf]
  · have hg' : ¬ (nl p : Int) + (nl q : Int) ≤ (deg : Int) := by omega
    have e3 : bumps acc (inr deg (p, c) [(q, d)]) = acc := by simp [inr, hg, bumps]
    rw [e3, set_self hf]
    refine ⟨o8, ?_⟩
    simp [rpBody, E.isStar, l1, l2, binD, cmpD, cmpI, hg']
theorem get_set {S : Sto} {f : Nat} {X Y : C} (h : S[f]? = some Y) : (S.set f X)[f]? = some X := by
  have := (List.getElem?_eq_some_iff.1 h).1
  rw [List.getElem?_set_self this]
theorem inr_cons (p : Option Tr × Nat) (q : Option Tr × Nat) (qs acc : Rw) : bumps acc (inr deg p (q :: qs)) = bumps (bumps acc (inr deg p [q])) (inr deg p qs) := by
  have : inr deg p (q :: qs) = inr deg p [q] ++ inr deg p qs := by
    unfold inr
    rw [← List.map_append, ← List.filter_append]
    rfl
  rw [this, bumps, List.foldl_append]
  rfl
theorem len_one (p : Option Tr × Nat) (q : Option Tr × Nat) (acc : Rw) : (bumps acc (inr deg p [q])).length ≤ acc.length + 1 := by
  have h1 := len_bumps (inr deg p [q]) acc
  have h2 : (inr deg p [q]).length ≤ 1 := by
    unfold inr
    rw [List.length_map]
    exact List.length_filter_le ..
  omega
theorem rp_inner {p : Option Tr} {c : Nat} {g : Src} (hg : g.keep = []) (hc : c < 2 ^ 64) (hp : (pc p).length ≤ 500) : ∀ (qs acc : Rw) (o6 o7 o8 : Option D) (S : Sto), (∀ q ∈ qs, (pc q.1).length ≤ 500) → S[f]? = some (.dct (dT acc)) → acc.length + qs.length < L →
    ∃ o6' o7' o8', forL (evSs (callD tb gl (n + 1)) gl rpBody) (.tp [.nm 6, .nm 7]) g (qs.map pairD) [some (.int (deg : Int)), a1, a2, some (.ref f), some (tupI (pc p)), some (.int (c : Int)), o6, o7, o8] S =
      some ((.nx, [some (.int (deg : Int)), a1, a2, some (.ref f), some (tupI (pc p)), some (.int (c : Int)), o6', o7', o8']), S.set f (.dct (dT (bumps acc (inr deg (p, c) qs)))))
  | [], acc, o6, o7, o8, S, _, hf, _ => by
    have : bumps acc (inr deg (p, c) []) = acc := rfl
    rw [this, set_self hf]
    exact ⟨o6, o7, o8, by simp [forL, Src.ok, hg]⟩
  | q :: qs, acc, o6, o7, o8, S, hq, hf, hl => by
    rw [List.length_cons] at hl
    obtain ⟨o8', hb⟩ := rp_body (n := n) (deg := deg) (a1 := a1) (a2 := a2) (q := q.1) (d := q.2) (o8 := o8) hc hp (hq q (List.mem_cons_self ..)) hf (by omega)
    have h1 := len_one (deg := deg) (p, c) q acc
    obtain ⟨o6', o7', o8'', ih⟩ := rp_inner hg hc hp qs (bumps acc (inr deg (p, c) [q])) (some (tupI (pc q.1))) (some (.int (q.2 : Int))) o8' _ (fun q' h' => hq q' (List.mem_cons_of_mem _ h')) (get_set hf) (by omega)
    refine ⟨o6', o7', o8'', ?_⟩
    rw [List.set_set] at ih
    rw [inr_cons, List.map_cons, forL]
    simp only [Src.ok, hg, List.all_nil, if_true, pairD, t_tp, t_cons, t_nm, t_nil, Option.bind_some, List.set_cons_succ, List.set_cons_zero]
    rw [hb]
    exact ih
theorem rp_outer {g : Src} (hg : g.keep = []) {m2 : Rw} (hm2 : ∀ q ∈ m2, (pc q.1).length ≤ 500) (hne : f ≠ r2) : ∀ (ps acc : Rw) (o4 o5 o6 o7 o8 : Option D) (S : Sto), (∀ q ∈ ps, (pc q.1).length ≤ 500 ∧ q.2 < 2 ^ 64) → S[f]? = some (.dct (dT acc)) →
    S[r2]? = some (.dct (dT m2)) → acc.length + ps.length * m2.length < L →
    ∃ o4' o5' o6' o7' o8', forL (evSs (callD tb gl (n + 1)) gl rpOuter) (.tp [.nm 4, .nm 5]) g (ps.map pairD) [some (.int (deg : Int)), a1, some (.ref r2), some (.ref f), o4, o5, o6, o7, o8] S =
      some ((.nx, [some (.int (deg : Int)), a1, some (.ref r2), some (.ref f), o4', o5', o6', o7', o8']), S.set f (.dct (dT (bumps acc (prs deg ps m2)))))
  | [], acc, o4, o5, o6, o7, o8, S, _, hf, _, _ => by
    have : bumps acc (prs deg [] m2) = acc := rfl
    rw [this, set_self hf]
    exact ⟨o4, o5, o6, o7, o8, by simp [forL, Src.ok, hg]⟩
  | p :: ps, acc, o4, o5, o6, o7, o8, S, hq, hf, h2, hl => by
    rw [List.length_cons, Nat.succ_mul] at hl
    have hp := hq p (List.mem_cons_self ..)
    have hf' : (S.set r2 (.lck (dT m2)))[f]? = some (.dct (dT acc)) := by rw [List.getElem?_set_ne (fun z => hne z.symm)]; exact hf
    obtain ⟨o6', o7', o8', hi⟩ := rp_inner (n := n) (deg := deg) (a1 := a1) (a2 := some (.ref r2)) (g := ⟨m2.map pairD, [], some r2⟩) rfl hp.2 hp.1 m2 acc o6 o7 o8 _ hm2 hf' (by omega)
    have hstep := for_items (cl := callD tb gl (n + 1)) (gl := gl) (t := .tp [.nm 6, .nm 7]) (b := rpBody) (i := 2) (r := r2) (f := f) (S := S) (kvs := dT m2)
      (env := [some (.int (deg : Int)), a1, some (.ref r2), some (.ref f), some (tupI (pc p.1)), some (.int (p.2 : Int)), o6, o7, o8]) rfl h2 hne (by rw [items_dT]; exact hi)
    have h1 := len_bumps (inr deg p m2) acc
    have h3 : (inr deg p m2).length ≤ m2.length := by
      unfold inr
      rw [List.length_map]
      exact List.length_filter_le ..
    obtain ⟨o4'', o5'', o6'', o7'', o8'', ih⟩ := rp_outer hg hm2 hne ps (bumps acc (inr deg p m2)) (some (tupI (pc p.1))) (some (.int (p.2 : Int))) o6' o7' o8' _ (fun q' h' => hq q' (List.mem_cons_of_mem _ h')) (get_set hf) (by rw [List.getElem?_set_ne hne]; exact h2) (by omega)
    refine ⟨o4'', o5'', o6'', o7'', o8'', ?_⟩
    rw [List.set_set] at ih
    have e : bumps acc (prs deg (p :: ps) m2) = bumps (bumps acc (inr deg p m2)) (prs deg ps m2) := by
      show (inr deg p m2 ++ prs deg ps m2).foldl bump acc = _
      rw [List.foldl_append]
      rfl
    rw [e, List.map_cons, forL]
    simp only [Src.ok, hg, List.all_nil, if_true, pairD, t_tp, t_cons, t_nm, t_nil, Option.bind_some, List.set_cons_succ, List.set_cons_zero]
    rw [show ∀ e, evSs (callD tb gl (n + 1)) gl rpOuter e S = evSs (callD tb gl (n + 1)) gl [.for (.tp [(.nm 6), (.nm 7)]) (.items (.var 2)) rpBody] e S from fun _ => rfl, q_step hstep, q_nil, bnd_some]
    exact ih
theorem rows_put_run {s : Sto} {m1 m2 : Rw} (h1 : s[r1]? = some (.dct (dT m1))) (h2 : s[r2]? = some (.dct (dT m2))) (hne : r1 ≠ r2) (k1 : ∀ q ∈ m1, (pc q.1).length ≤ 500 ∧ q.2 < 2 ^ 64) (k2 : ∀ q ∈ m2, (pc q.1).length ≤ 500) (hl : m1.length * m2.length < L) :
    callD tb gl (n + 2) "rows_put" [.int (deg : Int), .ref r1, .ref r2] s = some (.ref s.length, s ++ [.dct (dT (bumps [] (prs deg m1 m2)))]) := by
  have b1 := (List.getElem?_eq_some_iff.1 h1).1
  have b2 := (List.getElem?_eq_some_iff.1 h2).1
  rw [callR' tb_c_rows_put rfl rfl]
  have hf : ((s ++ [C.dct (dT [])]).set r1 (.lck (dT m1)))[s.length]? = some (.dct (dT [])) := by
    rw [List.getElem?_set_ne (by omega)]
    simp
  have hr2 : ((s ++ [C.dct (dT [])]).set r1 (.lck (dT m1)))[r2]? = some (.dct (dT m2)) := by
    rw [List.getElem?_set_ne hne, List.getElem?_append_left b2, h2]
  obtain ⟨o4, o5, o6, o7, o8, ho⟩ := rp_outer (n := n) (deg := deg) (f := s.length) (r2 := r2) (a1 := some (.ref r1)) (g := ⟨m1.map pairD, [], some r1⟩) rfl k2 (by omega) m1 [] none none none none none _ k1 hf hr2 (by simpa using hl)
  have hstep := for_items (cl := callD tb gl (n + 1)) (gl := gl) (t := .tp [.nm 4, .nm 5]) (b := rpOuter) (i := 1) (r := r1) (f := s.length) (S := s ++ [C.dct (dT [])]) (kvs := dT m1)
      (env := [some (.int (deg : Int)), some (.ref r1), some (.ref r2), some (.ref s.length), none, none, none, none, none]) rfl (by rw [List.getElem?_append_left b1, h1]) (by omega) (by rw [items_dT]; exact ho)
  refine body_rt (env := [some (.int (deg : Int)), some (.ref r1), some (.ref r2), some (.ref s.length), o4, o5, o6, o7, o8]) ?_
  show evSs _ _ [.asg (.nm 3) (.dct []), .for (.tp [(.nm 4), (.nm 5)]) (.items (.var 1)) rpOuter, .ret (some (.var 3))] [some (.int (deg : Int)), some (.ref r1), some (.ref r2), none, none, none, none, none, none] s = _
  rw [q_step (env' := [some (.int (deg : Int)), some (.ref r1), some (.ref r2), some (.ref s.length), none, none, none, none, none]) (s' := s ++ [C.dct (dT [])]) (by simp [pairUp, dT]), q_step hstep]
  have e : (s ++ [C.dct (dT [])]).set s.length (.dct (dT (bumps [] (prs deg m1 m2)))) = s ++ [.dct (dT (bumps [] (prs deg m1 m2)))] := by simp
  rw [e]
  simp
end
end K
end Ev
end

section
set_option autoImplicit false
set_option maxRecDepth 100000
set_option linter.unusedVariables false
set_option linter.unusedSimpArgs false
open PySem L2
namespace Ev
namespace K
def lcBody : List Ev.S := [.ite (.cmp .LtE (.bin .Add (.call (Str.ofString "_law_leaves") [(.var 3)]) (.call (Str.ofString "_law_leaves") [(.var 8)])) (.var 0)) [.asg (.nm 9) (.call (Str.ofString "_law_put") [(.var 3), (.var 8)]),
  .seti (.var 2) (.var 9) (.bin .Add (.mth .get (.var 2) [(.var 9), (.lit (.int (0)))]) (.bin .Mult (.idx (.var 6) (.var 3)) (.idx (.var 7) (.var 8))))] []]
def lcOuter : List Ev.S := [.for (.nm 8) (.seq (.var 7)) lcBody]
section
variable {n deg f r1 r2 : Nat} {a1 a4 a5 : Option D}
theorem lc_body {p q : Option Tr} {c d : Nat} {o9 : Option D} {S : Sto} {acc m1 m2 : Rw} (hc : c < 2 ^ 64) (hp : (pc p).length ≤ 500) (hq : (pc q).length ≤ 500) (hf : S[f]? = some (.dct (dT acc))) (hl : acc.length < L)
    (h1 : S[r1]? = some (.lck (dT m1))) (h2 : S[r2]? = some (.lck (dT m2))) (x1 : lkT m1 p = some c) (x2 : lkT m2 q = some d) :
    ∃ o9', evSs (callD tb gl (n + 1)) gl lcBody [some (.int (deg : Int)), a1, some (.ref f), some (tupI (pc p)), a4, a5, some (.ref r1), some (.ref r2), some (tupI (pc q)), o9] S =
      some ((.nx, [some (.int (deg : Int)), a1, some (.ref f), some (tupI (pc p)), a4, a5, some (.ref r1), some (.ref r2), some (tupI (pc q)), o9']), S.set f (.dct (dT (bumps acc (inr deg (p, c) [(q, d)]))))) := by
  have l1 := lleaves_run (n := n) (s := S) (xs := pc p) (by omega)
  have l2 := lleaves_run (n := n) (s := S) (xs := pc q) (by omega)
  have l3 := lput_run (n := n) (s := S) (p := p) (q := q) (by omega)
  rw [many_pc] at l1 l2
  by_cases hg : nl p + nl q ≤ deg
  · have hg' : (nl p : Int) + (nl q : Int) ≤ (deg : Int) := by omega
    have hm := mul_ok (a := c) (b := d) hc
    have e1 := get_dT (x := pt p q) hf
    have e2 := set_dT (x := pt p q) (c := (lkT acc (pt p q)).getD 0 + c * d) hf hl
    have e3 : bumps acc (inr deg (p, c) [(q, d)]) = puT acc (pt p q) ((lkT acc (pt p q)).getD 0 + c * d) := by simp [inr, hg, bumps, bump]
    have e4 := idx_dT h1 rfl x1
    have e5 := idx_dT h2 rfl x2
    rw [e3]
    refine ⟨some (tupI (pc (pt p q))), ?_⟩
    simp only [Int.natCast_add, Int.natCast_mul] at e2
    simp [lcBody, E.isStar, l1, l2, l3, binD, cmpD, cmpI, hg', hm, e1, e2, e4, e5, ok_get hf]
  · have hg' : ¬ (nl p : Int) + (nl q : Int) ≤ (deg : Int) := by omega
    have e3 : bumps acc (inr deg (p, c) [(q, d)]) = acc := by simp [inr, hg, bumps]
    rw [e3, set_self hf]
    refine ⟨o9, ?_⟩
    simp [lcBody, E.isStar, l1, l2, binD, cmpD, cmpI, hg']
theorem lc_inner {p : Option Tr} {c : Nat} {g : Src} (hg : g.keep = []) (hc : c < 2 ^ 64) (hp : (pc p).length ≤ 500) {m1 m2 : Rw} (n1 : f ≠ r1) (n2 : f ≠ r2) (x1 : lkT m1 p = some c) : ∀ (qs acc : Rw) (o8 o9 : Option D) (S : Sto), (∀ q ∈ qs, (pc q.1).length ≤ 500 ∧ lkT m2 q.1 = some q.2) → S[f]? = some (.dct (dT acc)) →
    S[r1]? = some (.lck (dT m1)) → S[r2]? = some (.lck (dT m2)) → acc.length + qs.length < L →
    ∃ o8' o9', forL (evSs (callD tb gl (n + 1)) gl lcBody) (.nm 8) g (qs.map fun q => tupI (pc q.1)) [some (.int (deg : Int)), a1, some (.ref f), some (tupI (pc p)), a4, a5, some (.ref r1), some (.ref r2), o8, o9] S =
      some ((.nx, [some (.int (deg : Int)), a1, some (.ref f), some (tupI (pc p)), a4, a5, some (.ref r1), some (.ref r2), o8', o9']), S.set f (.dct (dT (bumps acc (inr deg (p, c) qs)))))
  | [], acc, o8, o9, S, _, hf, _, _, _ => by
    have : bumps acc (inr deg (p, c) []) = acc := rfl
    rw [this, set_self hf]
    exact ⟨o8, o9, by simp [forL, Src.ok, hg]⟩
  | q :: qs, acc, o8, o9, S, hq, hf, h1, h2, hl => by
    rw [List.length_cons] at hl
    have hq0 := hq q (List.mem_cons_self ..)
    obtain ⟨o9', hb⟩ := lc_body (n := n) (deg := deg) (a1 := a1) (a4 := a4) (a5 := a5) (q := q.1) (d := q.2) (o9 := o9) hc hp hq0.1 hf (by omega) h1 h2 x1 hq0.2
    have hlen := len_one (deg := deg) (p, c) q acc
    obtain ⟨o8'', o9'', ih⟩ := lc_inner hg hc hp n1 n2 x1 qs (bumps acc (inr deg (p, c) [q])) (some (tupI (pc q.1))) o9' _ (fun q' h' => hq q' (List.mem_cons_of_mem _ h')) (get_set hf)
      (by rw [List.getElem?_set_ne n1]; exact h1) (by rw [List.getElem?_set_ne n2]; exact h2) (by omega)
    refine ⟨o8'', o9'', ?_⟩
    rw [List.set_set] at ih
    rw [inr_cons, List.map_cons, forL]
    simp only [Src.ok, hg, List.all_nil, if_true, t_tp, t_cons, t_nm, t_nil, Option.bind_some, List.set_cons_succ, List.set_cons_zero]
    rw [hb]
    exact ih
theorem lc_outer {g : Src} (hg : g.keep = []) {m1 m2 : Rw} (hm2 : ∀ q ∈ m2, (pc q.1).length ≤ 500 ∧ lkT m2 q.1 = some q.2) (n1 : f ≠ r1) (n2 : f ≠ r2) (n3 : r1 ≠ r2) : ∀ (ps acc : Rw) (o3 o8 o9 : Option D) (S : Sto), (∀ q ∈ ps, (pc q.1).length ≤ 500 ∧ q.2 < 2 ^ 64 ∧ lkT m1 q.1 = some q.2) → S[f]? = some (.dct (dT acc)) →
    S[r1]? = some (.lck (dT m1)) → S[r2]? = some (.dct (dT m2)) → acc.length + ps.length * m2.length < L →
    ∃ o3' o8' o9', forL (evSs (callD tb gl (n + 1)) gl lcOuter) (.nm 3) g (ps.map fun q => tupI (pc q.1)) [some (.int (deg : Int)), a1, some (.ref f), o3, a4, a5, some (.ref r1), some (.ref r2), o8, o9] S =
      some ((.nx, [some (.int (deg : Int)), a1, some (.ref f), o3', a4, a5, some (.ref r1), some (.ref r2), o8', o9']), S.set f (.dct (dT (bumps acc (prs deg ps m2)))))
  | [], acc, o3, o8, o9, S, _, hf, _, _, _ => by
    have : bumps acc (prs deg [] m2) = acc := rfl
    rw [this, set_self hf]
    exact ⟨o3, o8, o9, by simp [forL, Src.ok, hg]⟩
  | p :: ps, acc, o3, o8, o9, S, hq, hf, h1, h2, hl => by
    rw [List.length_cons, Nat.succ_mul] at hl
    have hp := hq p (List.mem_cons_self ..)
    have hf' : (S.set r2 (.lck (dT m2)))[f]? = some (.dct (dT acc)) := by rw [List.getElem?_set_ne (fun z => n2 z.symm)]; exact hf
    obtain ⟨o8', o9', hi⟩ := lc_inner (n := n) (deg := deg) (a1 := a1) (a4 := a4) (a5 := a5) (g := ⟨m2.map fun q => tupI (pc q.1), [], some r2⟩) rfl hp.2.1 hp.1 n1 n2 hp.2.2 m2 acc o8 o9 _ hm2 hf' (by rw [List.getElem?_set_ne (fun z => n3 z.symm)]; exact h1) (get_set h2) (by omega)
    have hstep := for_keys (cl := callD tb gl (n + 1)) (gl := gl) (t := .nm 8) (b := lcBody) (i := 7) (r := r2) (f := f) (S := S) (kvs := dT m2)
      (env := [some (.int (deg : Int)), a1, some (.ref f), some (tupI (pc p.1)), a4, a5, some (.ref r1), some (.ref r2), o8, o9]) rfl h2 n2 (by rw [keys_dT]; exact hi)
    have hl1 := len_bumps (inr deg p m2) acc
    have hl3 : (inr deg p m2).length ≤ m2.length := by
      unfold inr
      rw [List.length_map]
      exact List.length_filter_le ..
    obtain ⟨o3'', o8'', o9'', ih⟩ := lc_outer hg hm2 n1 n2 n3 ps (bumps acc (inr deg p m2)) (some (tupI (pc p.1))) o8' o9' _ (fun q' h' => hq q' (List.mem_cons_of_mem _ h')) (get_set hf) (by rw [List.getElem?_set_ne n1]; exact h1) (by rw [List.getElem?_set_ne n2]; exact h2) (by omega)
    refine ⟨o3'', o8'', o9'', ?_⟩
    rw [List.set_set] at ih
    have e : bumps acc (prs deg (p :: ps) m2) = bumps (bumps acc (inr deg p m2)) (prs deg ps m2) := by
      show (inr deg p m2 ++ prs deg ps m2).foldl bump acc = _
      rw [List.foldl_append]
      rfl
    rw [e, List.map_cons, forL]
    simp only [Src.ok, hg, List.all_nil, if_true, t_tp, t_cons, t_nm, t_nil, Option.bind_some, List.set_cons_succ, List.set_cons_zero]
    rw [show ∀ e, evSs (callD tb gl (n + 1)) gl lcOuter e S = evSs (callD tb gl (n + 1)) gl [.for (.nm 8) (.seq (.var 7)) lcBody] e S from fun _ => rfl, q_step hstep, q_nil, bnd_some]
    exact ih
theorem pair_leaf (a : Nat) : pairUp [] [.tup [], .int 1, tupI (Tr.leaf a).code, .int 1] = some (dT [(none, 1), (some (.leaf a), 1)]) := by
  have k1 : keyFits [] (.tup []) = true := keyFits_dT [] []
  have k2 : keyFits (dT [(none, 1)]) (tupI (Tr.leaf a).code) = true := keyFits_dT _ _
  have k3 : dput [] (.tup []) (.int 1) = dT [(none, 1)] := dput_dT [] none 1
  have k4 : dput (dT [(none, 1)]) (tupI (Tr.leaf a).code) (.int 1) = dT (puT [(none, 1)] (some (.leaf a)) 1) := dput_dT _ (some (.leaf a)) 1
  have k5 : puT [(none, 1)] (some (.leaf a)) 1 = [(none, 1), (some (.leaf a), 1)] := by simp [puT]
  have k6 : (dT [(none, 1)]).length = 1 := rfl
  simp [pairUp, k1, k3, k2, k4, k5, k6]
theorem IsRow.small {t : Tr} {m : Rw} (R : IsRow deg t m) (hd : deg ≤ 100) (ht : t.size ≤ 20) : ∀ q ∈ m, (pc q.1).length ≤ 500 ∧ q.2 < 2 ^ 64 ∧ lkT m q.1 = some q.2 := fun q hq => by
  obtain ⟨h1, h2, h3⟩ := R.mem hq
  have := pc_len q.1
  refine ⟨by omega, ?_, mem_lk R.nodup hq⟩
  rw [h3]
  have h4 := cnt_lt q.1 t
  have h5 : 2 ^ t.size ≤ 2 ^ 20 := Nat.pow_le_pow_right (by decide) ht
  omega
theorem shift_dT (k : Nat) (m : Rw) : C.shift k (.dct (dT m)) = .dct (dT m) := by
  have h : ∀ xs : List Int, D.shifts k (xs.map .int) = xs.map .int := fun xs => by
    induction xs with
    | nil => rfl
    | cons x xs ih => rw [List.map_cons, D.shifts, ih, D.shift]
  rw [C.shift, dT, List.map_map]
  congr 1
  refine List.map_congr_left fun p _ => ?_
  simp only [Function.comp, tupI, D.shift, h]
theorem lcounts_run (hd : 0 < deg) (hd' : deg ≤ 100) : ∀ (t : Tr) {n : Nat} (s : Sto), t.size ≤ 20 → t.size + 2 ≤ n → ∃ ρ m u, callD tb gl n "_law_counts" [.int (deg : Int), tupI t.code] s = some (.ref ρ, s ++ u) ∧ (s ++ u)[ρ]? = some (.dct (dT m)) ∧ IsRow deg t m ∧ s.length ≤ ρ
  | t, 0, s, ht, hn => by omega
  | .leaf a, n + 1, s, ht, hn => by
    have hb : bodyD (callD tb gl n) gl ⟨2, 10, l_counts⟩ [.int (deg : Int), tupI (Tr.leaf a).code] [] = some (.ref 0, [.dct (dT [(none, 1), (some (.leaf a), 1)])]) := by
      refine body_rt (env := [some (.int (deg : Int)), some (tupI (Tr.leaf a).code), none, none, none, none, none, none, none, none]) ?_
      have e0 : newT [] [] = some (D.tup [], []) := rfl
      have e1 : idxD (tupI (Tr.leaf a).code) (.int 0) [] = some (.int a, []) := rfl
      have ha : ¬ (a : Int) = -1 := by omega
      simp [l_counts, e1, cmpD, ha, e0, E.isStar, pair_leaf]
    have := callQ (n := n) (tb := tb) (gl := gl) (s := s) tb_l_counts rfl (by simp [D.pures, D.pure]) hb rfl
    refine ⟨s.length, [(none, 1), (some (.leaf a), 1)], [.dct (dT [(none, 1), (some (.leaf a), 1)])], ?_, by simp, row_leaf hd, Nat.le_refl _⟩
    rw [this, List.map_cons, List.map_nil, shift_dT]
    simp [D.shift]
  | .node l r, n + 1, s, ht, hn => by
    have hl := size_pos l
    have hr := size_pos r
    simp only [Tr.size] at ht hn
    obtain ⟨n, rfl⟩ : ∃ m, n = m + 1 := ⟨n - 1, by omega⟩
    obtain ⟨r1, m1, u1, c1, g1, R1, b1⟩ := lcounts_run hd hd' l (n := n + 1) [.dct (dT [])] (by omega) (by omega)
    obtain ⟨r2, m2, u2, c2, g2, R2, b2⟩ := lcounts_run hd hd' r (n := n + 1) ([.dct (dT [])] ++ u1) (by omega) (by omega)
    have hs := lsides_run (n := n) (s := []) (l := l) (r := r) (by omega)
    have k1 := R1.small hd' (by omega)
    have k2 := R2.small hd' (by omega)
    have L1 := (List.getElem?_eq_some_iff.1 g1).1
    have hne : r1 ≠ r2 := by omega
    have hl0 : m1.length * m2.length < L := by
      have h3 := Nat.mul_le_mul R1.len R2.len
      rw [← Nat.pow_add] at h3
      have h5 : 2 ^ (l.size + r.size) ≤ 2 ^ 20 := Nat.pow_le_pow_right (by decide) ht
      simp only [L]
      omega
    simp only [List.length_cons, List.length_nil, List.length_append] at b1 b2 L1
    have q1 : ([C.dct (dT [])] ++ u1 ++ u2)[r1]? = some (.dct (dT m1)) := by
      rw [List.getElem?_append_left (by simp; omega)]
      exact g1
    obtain ⟨o3, o8, o9, ho⟩ := lc_outer (n := n) (deg := deg) (f := 0) (r1 := r1) (r2 := r2) (a1 := some (tupI (Tr.node l r).code)) (a4 := some (tupI l.code)) (a5 := some (tupI r.code)) (g := ⟨m1.map fun q => tupI (pc q.1), [], some r1⟩) rfl (m1 := m1) (fun q hq => ⟨(k2 q hq).1, (k2 q hq).2.2⟩) (by omega) (by omega) hne m1 [] none none none
      (([C.dct (dT [])] ++ u1 ++ u2).set r1 (.lck (dT m1))) k1 (by rw [List.getElem?_set_ne (by omega)]; rfl) (get_set q1) (by rw [List.getElem?_set_ne hne]; exact g2) (by simpa using hl0)
    have hstep := for_keys (cl := callD tb gl (n + 1)) (gl := gl) (t := .nm 3) (b := lcOuter) (i := 6) (r := r1) (f := 0) (S := [C.dct (dT [])] ++ u1 ++ u2) (kvs := dT m1)
      (env := [some (.int (deg : Int)), some (tupI (Tr.node l r).code), some (.ref 0), none, some (tupI l.code), some (tupI r.code), some (.ref r1), some (.ref r2), none, none]) rfl q1 (by omega) (by rw [keys_dT]; exact ho)
    have hb : bodyD (callD tb gl (n + 1)) gl ⟨2, 10, l_counts⟩ [.int (deg : Int), tupI (Tr.node l r).code] [] = some (.ref 0, ([C.dct (dT [])] ++ u1 ++ u2).set 0 (.dct (dT (bumps [] (prs deg m1 m2))))) := by
      refine body_rt (env := [some (.int (deg : Int)), some (tupI (Tr.node l r).code), some (.ref 0), o3, some (tupI l.code), some (tupI r.code), some (.ref r1), some (.ref r2), o8, o9]) ?_
      show evSs _ _ [.ite (.cmp .NotEq (.idx (.var 1) (.lit (.int (0)))) (.neg (.lit (.int (1))))) [.ret (some (.dct [(.tup []), (.lit (.int (1))), (.var 1), (.lit (.int (1)))]))] [],
        .asg (.tp [(.nm 4), (.nm 5)]) (.call (Str.ofString "_law_sides") [(.var 1)]),
        .asg (.nm 2) (.dct []),
        .asg (.tp [(.nm 6), (.nm 7)]) (.tup [(.call (Str.ofString "_law_counts") [(.var 0), (.var 4)]), (.call (Str.ofString "_law_counts") [(.var 0), (.var 5)])]),
        .for (.nm 3) (.seq (.var 6)) lcOuter, .ret (some (.var 2))] [some (.int (deg : Int)), some (tupI (Tr.node l r).code), none, none, none, none, none, none, none, none] [] = _
      have e1 := node_head l r []
      have c1 : callD tb gl (n + 1) "_law_counts" [.int (deg : Int), tupI l.code] [.dct []] = some (.ref r1, .dct [] :: u1) := c1
      have c2 : callD tb gl (n + 1) "_law_counts" [.int (deg : Int), tupI r.code] (.dct [] :: u1) = some (.ref r2, .dct [] :: (u1 ++ u2)) := c2
      have e3 : newT (.dct [] :: (u1 ++ u2)) [.ref r1, .ref r2] = some (.tup [.ref r1, .ref r2], .dct [] :: (u1 ++ u2)) := newT_le (by simp [L])
      rw [q_step (env' := [some (.int (deg : Int)), some (tupI (Tr.node l r).code), none, none, none, none, none, none, none, none]) (s' := []) (by simp [e1, cmpD]),
        q_step (env' := [some (.int (deg : Int)), some (tupI (Tr.node l r).code), none, none, some (tupI l.code), some (tupI r.code), none, none, none, none]) (s' := []) (by simp [hs, E.isStar]),
        q_step (env' := [some (.int (deg : Int)), some (tupI (Tr.node l r).code), some (.ref 0), none, some (tupI l.code), some (tupI r.code), none, none, none, none]) (s' := [.dct []]) (by simp [pairUp]),
        q_step (env' := [some (.int (deg : Int)), some (tupI (Tr.node l r).code), some (.ref 0), none, some (tupI l.code), some (tupI r.code), some (.ref r1), some (.ref r2), none, none]) (s' := [C.dct (dT [])] ++ u1 ++ u2) (by simp [c1, c2, e3, E.isStar, dT]),
        q_step hstep]
      simp
    have hq := callQ (n := n + 1) (tb := tb) (gl := gl) (s := s) tb_l_counts rfl (by simp [D.pures, D.pure]) hb rfl
    refine ⟨s.length, _, (([C.dct (dT [])] ++ u1 ++ u2).set 0 (.dct (dT (bumps [] (prs deg m1 m2))))).map (C.shift s.length), ?_, ?_, row_node R1 R2, Nat.le_refl _⟩
    · rw [hq]
      rfl
    · rw [List.getElem?_append_right (Nat.le_refl _), Nat.sub_self, List.getElem?_map]
      simp [shift_dT]
end
end K
end Ev
end

section
set_option autoImplicit false
set_option maxRecDepth 100000
set_option linter.unusedVariables false
set_option linter.unusedSimpArgs false
open PySem L2
namespace Ev
/-- a comprehension whose turns leave the store alone -/
theorem compL_gen {α : Type} {elt c : Env → Sto → Option (D × Sto)} {t : T} {env : Env} {g : Src} {S : Sto} (hok : g.ok S = true) (it val : α → D) (keep : α → Bool) : ∀ (xs : List α) (acc : List D),
    (∀ x ∈ xs, ∃ env1, setT t (it x) env = some env1 ∧ c env1 S = some (.bl (keep x), S) ∧ (keep x = true → elt env1 S = some (val x, S))) → xs.length + acc.length ≤ 1000000 →
    compL elt c t env g (xs.map it) acc S = some (acc ++ (xs.filter keep).map val, S)
  | [], acc, _, _ => by simp [compL, hok]
  | x :: xs, acc, h, hl => by
    obtain ⟨env1, h1, h2, h3⟩ := h x (List.mem_cons_self ..)
    rw [List.length_cons] at hl
    rw [List.map_cons, compL, if_pos hok, h1, Option.bind_some, h2, bnd_some]
    cases hk : keep x with
    | false =>
      have := compL_gen hok it val keep xs acc (fun y hy => h y (List.mem_cons_of_mem _ hy)) (by omega)
      simp only
      rw [this]
      simp [hk]
    | true =>
      have := compL_gen hok it val keep xs (acc ++ [val x]) (fun y hy => h y (List.mem_cons_of_mem _ hy)) (by simp; omega)
      simp only
      rw [h3 hk, bnd_some, if_pos (by simp [L]; omega), this]
      simp [hk]
namespace K
open Classical in
/-- a code's count -/
noncomputable def vf (t : Tr) (x : List Int) : Nat := if h : ∃ p, pc p = x then cnt h.choose t else 0
theorem vf_pc (t : Tr) (p : Option Tr) : vf t (pc p) = cnt p t := by
  have h : ∃ q, pc q = pc p := ⟨p, rfl⟩
  rw [vf, dif_pos h, pc_inj h.choose_spec]
def keysT (m : Rw) : List (List Int) := m.map fun q => pc q.1
theorem keys_dT' (m : Rw) : (dT m).map (·.1) = (keysT m).map tupI := by
  rw [keys_dT, keysT, List.map_map]
  rfl
theorem mem_keysT {deg : Nat} {t : Tr} {m : Rw} (R : IsRow deg t m) {x : List Int} : x ∈ keysT m ↔ ∃ p, x = pc p ∧ nl p ≤ deg ∧ 0 < cnt p t := by
  constructor
  · intro h
    obtain ⟨q, hq, rfl⟩ := List.mem_map.mp h
    have := R.mem hq
    exact ⟨q.1, rfl, this.1, this.2.2 ▸ this.2.1⟩
  · rintro ⟨p, rfl, h1, h2⟩
    have h3 := R.lk p
    rw [if_pos ⟨h1, h2⟩] at h3
    unfold lkT at h3
    cases hf : m.find? (fun q => decide (q.1 = p)) with
    | none => rw [hf] at h3; cases h3
    | some q =>
      have e := List.find?_some hf
      have hm := List.mem_of_find?_eq_some hf
      exact List.mem_map.2 ⟨q, hm, by rw [decide_eq_true_eq] at e; rw [e]⟩
theorem nodup_keysT {m : Rw} (h : (m.map (·.1)).Nodup) : (keysT m).Nodup := by
  have : keysT m = (m.map (·.1)).map pc := by rw [List.map_map]; rfl
  rw [this]
  exact List.pairwise_map.2 (h.imp fun hab e => hab (pc_inj e))
theorem lk_key {deg : Nat} {t : Tr} {m : Rw} (R : IsRow deg t m) {x : List Int} (h : x ∈ keysT m) : ∃ p, x = pc p ∧ lkT m p = some (vf t x) := by
  obtain ⟨p, rfl, h1, h2⟩ := (mem_keysT R).1 h
  exact ⟨p, rfl, by rw [R.lk, if_pos ⟨h1, h2⟩, vf_pc]⟩
noncomputable def rowOf (t : Tr) (xs : List (List Int)) : D := rowD (xs.map fun x => (x, vf t x))
def roBody : List Ev.S := [.ite (.cmp .Eq (.var 3) (.neg (.lit (.int (1))))) [.asg (.nm 5) (.mth .pop (.var 2) []),
  .ex (.mth .append (.var 2) [(.call (Str.ofString "rows_put") [(.var 0), (.var 5), (.mth .pop (.var 2) [])])])] [.ex (.mth .append (.var 2) [(.ite (.cmp .Gt (.var 0) (.lit (.int (0)))) (.dct [(.tup []), (.lit (.int (1))), (.tup [(.var 3)]), (.lit (.int (1)))]) (.dct [(.tup []), (.lit (.int (1)))]))])]]
section
variable {n deg : Nat} {a1 o4 o6 : Option D} {g : Src}
theorem ro_loop (hg : g.keep = []) (hd : 0 < deg) (hd' : deg ≤ 100) : ∀ (t : Tr) (rest st : List D) (S : Sto) (o3 o5 : Option D), t.size ≤ 20 → S[0]? = some (C.lst st) → st.length + t.size < 1000 →
    ∃ o3' o5' S' ρ m, forL (evSs (callD tb gl (n + 2)) gl roBody) (.nm 3) g (t.code.reverse.map .int ++ rest) [some (.int (deg : Int)), a1, some (.ref 0), o3, o4, o5, o6] S =
        forL (evSs (callD tb gl (n + 2)) gl roBody) (.nm 3) g rest [some (.int (deg : Int)), a1, some (.ref 0), o3', o4, o5', o6] S' ∧
      S'[0]? = some (C.lst (st ++ [.ref ρ])) ∧ S.length ≤ ρ ∧ ρ < S'.length ∧ S'[ρ]? = some (C.dct (dT m)) ∧ IsRow deg t m ∧ ∀ j, 0 < j → j < S.length → S'[j]? = S[j]?
  | .leaf a, rest, st, S, o3, o5, ht, h0, hl => by
    have hS := (List.getElem?_eq_some_iff.1 h0).1
    refine ⟨some (.int (a : Int)), o5, (S ++ [C.dct (dT [(none, 1), (some (.leaf a), 1)])]).set 0 (C.lst (st ++ [.ref S.length])), S.length, [(none, 1), (some (.leaf a), 1)], ?_, ?_, Nat.le_refl _, ?_, ?_, row_leaf hd, ?_⟩
    · show forL _ _ g (D.int (a : Int) :: rest) _ S = _
      rw [forL]
      have ha : ¬ (a : Int) = -1 := by omega
      have hd2 : decide ((0 : Int) < (deg : Int)) = true := by simp; omega
      have hm : mthOk .append (.ref 0) S = true := by simp [mthOk, h0]
      have e0 : ∀ S : Sto, newT S [] = some (D.tup [], S) := fun _ => rfl
      have e1 : ∀ S : Sto, newT S [D.int (a : Int)] = some (tupI (Tr.leaf a).code, S) := fun _ => rfl
      have hap : mthD .append (.ref 0) [.ref S.length] (S ++ [C.dct (dT [(none, 1), (some (.leaf a), 1)])]) = some (.non, (S ++ [C.dct (dT [(none, 1), (some (.leaf a), 1)])]).set 0 (C.lst (st ++ [.ref S.length]))) := by
        have : (S ++ [C.dct (dT [(none, 1), (some (.leaf a), 1)])])[0]? = some (C.lst st) := by rw [List.getElem?_append_left hS]; exact h0
        have hl2 : st.length < L := by simp [L]; omega
        simp only [mthD]
        rw [this]
        simp [hl2]
      have hb : evSs (callD tb gl (n + 2)) gl roBody [some (.int (deg : Int)), a1, some (.ref 0), some (.int (a : Int)), o4, o5, o6] S = some ((.nx, [some (.int (deg : Int)), a1, some (.ref 0), some (.int (a : Int)), o4, o5, o6]), (S ++ [C.dct (dT [(none, 1), (some (.leaf a), 1)])]).set 0 (C.lst (st ++ [.ref S.length]))) := by
        simp only [roBody, q_cons, q_ite, r_cmp, r_var, look_succ, look_zero, Option.map_some, bnd_some, r_neg, r_lit, cmpD, eqD_int, ha, decide_false, q_ex, r_mth, hm, if_true, r_cons, r_ite, cmpI, hd2, r_dct, r_tup, r_nil, e0, e1, E.isStar, Bool.false_eq_true, if_false, pair_leaf, hap, q_nil]
      simp only [Src.ok, hg, List.all_nil, if_true, t_nm, Option.bind_some, List.set_cons_succ, List.set_cons_zero]
      rw [hb]
      rfl
    · exact get_set (by rw [List.getElem?_append_left hS]; exact h0)
    · simp
    · rw [List.getElem?_set_ne (by omega)]
      simp
    · intro j h1 h2
      rw [List.getElem?_set_ne (by omega), List.getElem?_append_left h2]
  | .node l r, rest, st, S, o3, o5, ht, h0, hl => by
    have hll := size_pos l
    have hrr := size_pos r
    simp only [Tr.size] at ht hl
    have hS := (List.getElem?_eq_some_iff.1 h0).1
    obtain ⟨p3, p5, S1, ρ1, m1, f1, g1, b1, c1, d1, R1, k1⟩ := ro_loop hg hd hd' r (l.code.reverse.map .int ++ (D.int (-1) :: rest)) st S o3 o5 (by omega) h0 (by omega)
    obtain ⟨q3, q5, S2, ρ2, m2, f2, g2, b2, c2, d2, R2, k2⟩ := ro_loop hg hd hd' l (D.int (-1) :: rest) (st ++ [.ref ρ1]) S1 p3 p5 (by omega) g1 (by simp; omega)
    have e : (Tr.node l r).code.reverse.map D.int ++ rest = r.code.reverse.map D.int ++ (l.code.reverse.map D.int ++ (D.int (-1) :: rest)) := by simp [Tr.code]
    have hρ1 : S2[ρ1]? = some (C.dct (dT m1)) := by rw [k2 _ (by omega) c1]; exact d1
    have hne : ρ2 ≠ ρ1 := by omega
    have s1 := R1.small hd' (by omega)
    have s2 := R2.small hd' (by omega)
    have hl0 : m2.length * m1.length < L := by
      have h3 := Nat.mul_le_mul R2.len R1.len
      rw [← Nat.pow_add] at h3
      have h5 : 2 ^ (l.size + r.size) ≤ 2 ^ 20 := Nat.pow_le_pow_right (by decide) ht
      simp only [L]
      omega
    have hS2 := (List.getElem?_eq_some_iff.1 g2).1
    -- the turn at -1
    have t1 : mthD .pop (.ref 0) [] S2 = some (.ref ρ2, S2.set 0 (C.lst (st ++ [.ref ρ1]))) := by simp [mthD, g2]
    have t1' : mthOk .pop (.ref 0) S2 = true := by simp [mthOk, g2]
    have g3 : (S2.set 0 (C.lst (st ++ [.ref ρ1])))[0]? = some (C.lst (st ++ [.ref ρ1])) := get_set g2
    have t2' : mthOk .append (.ref 0) (S2.set 0 (C.lst (st ++ [.ref ρ1]))) = true := by simp [mthOk, g3]
    have t3' : mthOk .pop (.ref 0) (S2.set 0 (C.lst (st ++ [.ref ρ1]))) = true := by simp [mthOk, g3]
    have t3 : mthD .pop (.ref 0) [] (S2.set 0 (C.lst (st ++ [.ref ρ1]))) = some (.ref ρ1, S2.set 0 (C.lst st)) := by simp [mthD, g3, List.set_set]
    have t4 := rows_put_run (n := n) (deg := deg) (r1 := ρ2) (r2 := ρ1) (s := S2.set 0 (C.lst st)) (m1 := m2) (m2 := m1) (by rw [List.getElem?_set_ne (by omega)]; exact d2) (by rw [List.getElem?_set_ne (by omega)]; exact hρ1) hne
      (fun q hq => ⟨(s2 q hq).1, (s2 q hq).2.1⟩) (fun q hq => (s1 q hq).1) hl0
    rw [List.length_set] at t4
    have g4 : (S2.set 0 (C.lst st) ++ [C.dct (dT (bumps [] (prs deg m2 m1)))])[0]? = some (C.lst st) := by
      rw [List.getElem?_append_left (by rw [List.length_set]; exact hS2)]
      exact get_set g2
    have t5 : mthD .append (.ref 0) [.ref S2.length] (S2.set 0 (C.lst st) ++ [C.dct (dT (bumps [] (prs deg m2 m1)))]) = some (.non, (S2.set 0 (C.lst st) ++ [C.dct (dT (bumps [] (prs deg m2 m1)))]).set 0 (C.lst (st ++ [.ref S2.length]))) := by
      have hl2 : st.length < L := by simp [L]; omega
      simp only [mthD]
      rw [g4]
      simp [hl2]
    refine ⟨some (.int (-1)), some (.ref ρ2), _, S2.length, bumps [] (prs deg m2 m1), ?_, get_set g4, by omega, ?_, ?_, row_node R2 R1, ?_⟩
    · rw [e, f1, f2, forL]
      have hb : evSs (callD tb gl (n + 2)) gl roBody [some (.int (deg : Int)), a1, some (.ref 0), some (.int (-1)), o4, q5, o6] S2 = some ((.nx, [some (.int (deg : Int)), a1, some (.ref 0), some (.int (-1)), o4, some (.ref ρ2), o6]), (S2.set 0 (C.lst st) ++ [C.dct (dT (bumps [] (prs deg m2 m1)))]).set 0 (C.lst (st ++ [.ref S2.length]))) := by
        simp only [roBody, q_cons, q_ite, r_cmp, r_var, look_succ, look_zero, Option.map_some, bnd_some, r_neg, r_lit, cmpD, eqD_int, decide_true, q_asg, r_mth, t1', if_true, r_nil, t1, t_nm, List.set_cons_succ, List.set_cons_zero, q_ex, t2', r_cons, r_call, t3', t3, E.isStar, Bool.false_eq_true, if_false, t4, t5, q_nil]
      simp only [Src.ok, hg, List.all_nil, if_true, t_nm, Option.bind_some, List.set_cons_succ, List.set_cons_zero]
      rw [hb]
      rfl
    · simp
    · rw [List.getElem?_set_ne (by omega), List.getElem?_append_right (by simp)]
      simp
    · intro j h1 h2
      rw [List.getElem?_set_ne (by omega), List.getElem?_append_left (by rw [List.length_set]; omega), List.getElem?_set_ne (by omega), k2 j h1 (by omega), k1 j h1 h2]
theorem row_of_run {t : Tr} {s : Sto} (hd : 0 < deg) (hd' : deg ≤ 100) (ht : t.size ≤ 16) : ∃ m, IsRow deg t m ∧ callD tb gl (n + 3) "row_of" [.int (deg : Int), tupI t.code] s = some (rowOf t (sortI (keysT m)), s) := by
  obtain ⟨o3, o5, S, ρ, m, hf, g0, _, hρ, hm, R, _⟩ := ro_loop (n := n) (deg := deg) (a1 := some (tupI t.code)) (o4 := none) (o6 := none) (g := ⟨(t.code.map D.int).reverse, [], none⟩) rfl hd hd' t [] [] [C.lst []] none none (by omega) rfl (by simp; omega)
  refine ⟨m, R, ?_⟩
  have hpure : (rowOf t (sortI (keysT m))).pure = true := by
    unfold rowOf rowD
    rw [D.pure]
    generalize sortI (keysT m) = xs
    induction xs with
    | nil => rfl
    | cons x xs ih =>
      rw [List.map_cons, List.map_cons, D.pures, ih]
      simp [D.pure, D.pures]
  have hlen : (keysT m).length ≤ 65536 := by
    have h5 : 2 ^ t.size ≤ 2 ^ 16 := Nat.pow_le_pow_right (by decide) ht
    have := R.len
    simp only [keysT, List.length_map]
    omega
  have hlen2 : (sortI (keysT m)).length ≤ 65536 := by rw [(sortI_perm _).length_eq]; exact hlen
  rw [List.append_nil, forL] at hf
  simp only [Src.ok, List.all_nil, if_true] at hf
  have hS := (List.getElem?_eq_some_iff.1 g0).1
  -- the store at the end
  refine callP tb_c_row_of rfl (by simp [D.pures, D.pure]) (body_rt (s' := S ++ [C.lst []] ++ [C.lst ((sortI (keysT m)).map tupI)] ++ [C.lst ((sortI (keysT m)).map fun x => .tup [tupI x, .int (vf t x : Nat)])]) (env := [some (.int (deg : Int)), some (tupI t.code), some (.ref 0), o3, some (.ref ρ), o5, none]) ?_) hpure
  show evSs _ _ [.asg (.nm 2) (.lst []), .for (.nm 3) (.seq (.rev (.var 1))) roBody,
    .asg (.nm 4) (.ite (.cmp .NotEq (.var 2) (.lst [])) (.idx (.var 2) (.lit (.int (0)))) (.dct [(.tup []), (.lit (.int (1)))])),
    .ret (some (.bif .tuple [(.comp [6] (.nm 6) (.seq (.bif .sorted [(.var 4)])) (.tup [(.var 6), (.idx (.var 4) (.var 6))]) none)]))] [some (.int (deg : Int)), some (tupI t.code), none, none, none, none, none] [] = _
  have e0 : ∀ S : Sto, newL S [] = some (D.ref S.length, S ++ [C.lst []]) := fun _ => rfl
  have e1 : revD (tupI t.code) [C.lst []] = some (.tup (t.code.map D.int).reverse, [C.lst []]) := rfl
  have hfor : evS (callD tb gl (n + 2)) gl (.for (.nm 3) (.seq (.rev (.var 1))) roBody) [some (.int (deg : Int)), some (tupI t.code), some (.ref 0), none, none, none, none] [C.lst []] = some ((.nx, [some (.int (deg : Int)), some (tupI t.code), some (.ref 0), o3, none, o5, none]), S) := by
    rw [q_for, r_seq, r_rev, r_var]
    simp only [look_succ, look_zero, Option.map_some, bnd_some, e1, srcOf, lockS, unlockS]
    rw [List.map_reverse] at hf
    rw [hf, bnd_some]
  have e2 : eqD (S ++ [C.lst []]) (.ref 0) (.ref S.length) = some false := by
    have h1 : (S ++ [C.lst []])[0]? = some (C.lst [.ref ρ]) := by rw [List.getElem?_append_left hS]; exact g0
    have h2 : (S ++ [C.lst []])[S.length]? = some (C.lst []) := by simp
    have h3 : farL (S ++ [C.lst []]) (.ref 0) (.ref S.length) = true := by simp only [farL, h1, h2]; rfl
    unfold eqD
    rw [h3]
    rfl
  have e3 : idxD (.ref 0) (.int 0) (S ++ [C.lst []]) = some (.ref ρ, S ++ [C.lst []]) := by
    have h1 : (S ++ [C.lst []])[0]? = some (C.lst [.ref ρ]) := by rw [List.getElem?_append_left hS]; exact g0
    simp only [idxD, h1]
    rfl
  have hm2 : (S ++ [C.lst []])[ρ]? = some (C.dct (dT m)) := by rw [List.getElem?_append_left hρ]; exact hm
  have e4 : bifD .sorted [.ref ρ] (S ++ [C.lst []]) = some (.ref (S.length + 1), S ++ [C.lst []] ++ [C.lst ((sortI (keysT m)).map tupI)]) := by
    simp only [bifD, hm2, C.kvs, Option.bind_some, keys_dT', sortD_tups]
    rw [newL_le (by rw [List.length_map]; simp only [L]; omega)]
    simp
  have hm3 : (S ++ [C.lst []] ++ [C.lst ((sortI (keysT m)).map tupI)])[ρ]? = some (C.dct (dT m)) := by rw [List.getElem?_append_left (by simp; omega)]; exact hm2
  have hm4 : (S ++ [C.lst []] ++ [C.lst ((sortI (keysT m)).map tupI)])[S.length + 1]? = some (C.lst ((sortI (keysT m)).map tupI)) := by
    rw [List.getElem?_append_right (by simp)]
    simp
  have e5 : srcOf (.ref (S.length + 1)) (S ++ [C.lst []] ++ [C.lst ((sortI (keysT m)).map tupI)]) = some ⟨(sortI (keysT m)).map tupI, [(S.length + 1, C.lst ((sortI (keysT m)).map tupI))], none⟩ := by
    simp only [srcOf, hm4]
  have hcomp := compL_gen (elt := evE (callD tb gl (n + 2)) gl (.tup [(.var 6), (.idx (.var 4) (.var 6))])) (c := evC (callD tb gl (n + 2)) gl none) (t := .nm 6) (env := [some (.int (deg : Int)), some (tupI t.code), some (.ref 0), o3, some (.ref ρ), o5, none])
    (g := ⟨(sortI (keysT m)).map tupI, [(S.length + 1, C.lst ((sortI (keysT m)).map tupI))], none⟩) (S := S ++ [C.lst []] ++ [C.lst ((sortI (keysT m)).map tupI)])
    (by simp [Src.ok]) tupI (fun x => .tup [tupI x, .int (vf t x : Nat)]) (fun _ => true) (sortI (keysT m)) [] (fun x hx => by
      have hx : x ∈ keysT m := (sortI_perm _).mem_iff.1 hx
      obtain ⟨p, hp, hlk⟩ := lk_key R hx
      have hi := idx_dT hm3 rfl hlk
      rw [← hp] at hi
      have e6 : ∀ d S, newT S [tupI x, d] = some (.tup [tupI x, d], S) := fun d S => newT_le (by simp [L])
      refine ⟨_, t_nm, r_cnone, fun _ => ?_⟩
      simp only [r_tup, r_cons, r_var, List.set_cons_succ, List.set_cons_zero, look_succ, look_zero, Option.map_some, bnd_some, r_idx, hi, r_nil, E.isStar, Bool.false_eq_true, if_false, e6]) (by simp; omega)
  rw [q_step (env' := [some (.int (deg : Int)), some (tupI t.code), some (.ref 0), none, none, none, none]) (s' := [C.lst []]) (by simp [e0]),
    q_step hfor,
    q_step (env' := [some (.int (deg : Int)), some (tupI t.code), some (.ref 0), o3, some (.ref ρ), o5, none]) (s' := S ++ [C.lst []]) (by simp [e0, cmpD, e2, e3])]
  have hfil : (sortI (keysT m)).filter (fun _ => true) = sortI (keysT m) := List.filter_eq_self.2 fun _ _ => rfl
  rw [hfil, List.nil_append] at hcomp
  have hw : wipeD [some (.int (deg : Int)), some (tupI t.code), some (.ref 0), o3, some (.ref ρ), o5, none] [6] = [some (.int (deg : Int)), some (tupI t.code), some (.ref 0), o3, some (.ref ρ), o5, none] := rfl
  have e7 : ∀ (Z : Sto) ds, bifD .tuple [.ref Z.length] (Z ++ [C.lst ds]) = some (.tup ds, Z ++ [C.lst ds]) := fun Z ds => by simp [bifD]
  simp only [q_cons, q_ret, r_bif, r_cons, r_comp, r_seq, r_var, look_succ, look_zero, Option.map_some, bnd_some, r_nil, E.isStar, Bool.false_eq_true, if_false, e4, e5, hw, lockS, unlockS, hcomp, e7]
  rw [rowOf, rowD, List.map_map]
  rfl
end
end K
end Ev
end

section
set_option autoImplicit false
set_option maxRecDepth 100000
set_option linter.unusedVariables false
set_option linter.unusedSimpArgs false
open PySem L2
namespace Ev
namespace K
/-! the source of picks -/
def srcK (i : Nat) (lf mx tn : Int) : List (D × D) := [(.str (Str.ofString "cells"), .ref i), (.str (Str.ofString "left"), .int lf), (.str (Str.ofString "mixed"), .int mx), (.str (Str.ofString "turn"), .int tn)]
structure Src (r i : Nat) (s : Sto) (cs : List Int) (lf mx tn : Int) : Prop where
  d : s[r]? = some (C.dct (srcK i lf mx tn))
  c : s[i]? = some (C.lst (cs.map .int))
  ne : i ≠ r
  le : cs.length ≤ 100
def SrcE (r i : Nat) (s : Sto) : Prop := ∃ cs lf mx tn, Src r i s cs lf mx tn
def Fr (r i : Nat) (s s' : Sto) : Prop := s.length ≤ s'.length ∧ ∀ j, j < s.length → j ≠ r → j ≠ i → s'[j]? = s[j]?
theorem Fr.rfl' {r i : Nat} {s : Sto} : Fr r i s s := ⟨Nat.le_refl _, fun _ _ _ _ => rfl⟩
theorem Fr.trans {r i : Nat} {s s' s'' : Sto} (h : Fr r i s s') (h' : Fr r i s' s'') : Fr r i s s'' :=
  ⟨Nat.le_trans h.1 h'.1, fun j h1 h2 h3 => (h'.2 j (Nat.lt_of_lt_of_le h1 h.1) h2 h3).trans (h.2 j h1 h2 h3)⟩
theorem fr_set_r {r i : Nat} {s : Sto} {X : C} : Fr r i s (s.set r X) := ⟨by simp, fun j _ h _ => by rw [List.getElem?_set_ne (fun z => h z.symm)]⟩
theorem fr_set_i {r i : Nat} {s : Sto} {X : C} : Fr r i s (s.set i X) := ⟨by simp, fun j _ _ h => by rw [List.getElem?_set_ne (fun z => h z.symm)]⟩
theorem fr_app {r i : Nat} {s u : Sto} : Fr r i s (s ++ u) := ⟨by simp, fun j h _ _ => by rw [List.getElem?_append_left h]⟩
theorem Src.app {r i : Nat} {s u : Sto} {cs : List Int} {lf mx tn : Int} (h : Src r i s cs lf mx tn) : Src r i (s ++ u) cs lf mx tn :=
  ⟨by rw [List.getElem?_append_left (List.getElem?_eq_some_iff.1 h.d).1]; exact h.d, by rw [List.getElem?_append_left (List.getElem?_eq_some_iff.1 h.c).1]; exact h.c, h.ne, h.le⟩
theorem SrcE.app {r i : Nat} {s u : Sto} : SrcE r i s → SrcE r i (s ++ u) := fun ⟨a, b, c, d, h⟩ => ⟨a, b, c, d, h.app⟩
theorem kne1 : (D.str (Str.ofString "cells") = D.str (Str.ofString "left")) = False := by simp only [eq_iff_iff, iff_false]; decide +kernel
theorem kne2 : (D.str (Str.ofString "cells") = D.str (Str.ofString "mixed")) = False := by simp only [eq_iff_iff, iff_false]; decide +kernel
theorem kne3 : (D.str (Str.ofString "cells") = D.str (Str.ofString "turn")) = False := by simp only [eq_iff_iff, iff_false]; decide +kernel
theorem kne4 : (D.str (Str.ofString "left") = D.str (Str.ofString "mixed")) = False := by simp only [eq_iff_iff, iff_false]; decide +kernel
theorem kne5 : (D.str (Str.ofString "left") = D.str (Str.ofString "turn")) = False := by simp only [eq_iff_iff, iff_false]; decide +kernel
theorem kne6 : (D.str (Str.ofString "mixed") = D.str (Str.ofString "turn")) = False := by simp only [eq_iff_iff, iff_false]; decide +kernel
theorem kne1' : (D.str (Str.ofString "left") = D.str (Str.ofString "cells")) = False := by simp only [eq_iff_iff, iff_false]; decide +kernel
theorem kne2' : (D.str (Str.ofString "mixed") = D.str (Str.ofString "cells")) = False := by simp only [eq_iff_iff, iff_false]; decide +kernel
theorem kne3' : (D.str (Str.ofString "turn") = D.str (Str.ofString "cells")) = False := by simp only [eq_iff_iff, iff_false]; decide +kernel
theorem kne4' : (D.str (Str.ofString "mixed") = D.str (Str.ofString "left")) = False := by simp only [eq_iff_iff, iff_false]; decide +kernel
theorem kne5' : (D.str (Str.ofString "turn") = D.str (Str.ofString "left")) = False := by simp only [eq_iff_iff, iff_false]; decide +kernel
theorem kne6' : (D.str (Str.ofString "turn") = D.str (Str.ofString "mixed")) = False := by simp only [eq_iff_iff, iff_false]; decide +kernel
section
variable {n r i : Nat} {s : Sto} {cs : List Int} {lf mx tn : Int}
theorem Src.fits (x : Str) : keyFits (srcK i lf mx tn) (.str x) = true := by simp [keyFits, srcK, atomK]
theorem Src.at (h : Src r i s cs lf mx tn) (x : Str) : idxD (.ref r) (.str x) s = (dget (srcK i lf mx tn) (.str x)).map fun d => (d, s) := by
  simp [idxD, h.d, C.kvs, Src.fits]
theorem g_cells : dget (srcK i lf mx tn) (.str (Str.ofString "cells")) = some (.ref i) := by simp [dget, srcK]
theorem g_left : dget (srcK i lf mx tn) (.str (Str.ofString "left")) = some (.int lf) := by simp only [dget, srcK, List.find?, kne1, decide_false, decide_true, Option.map_some]
theorem g_mixed : dget (srcK i lf mx tn) (.str (Str.ofString "mixed")) = some (.int mx) := by simp only [dget, srcK, List.find?, kne2, kne4, decide_false, decide_true, Option.map_some]
theorem g_turn : dget (srcK i lf mx tn) (.str (Str.ofString "turn")) = some (.int tn) := by simp only [dget, srcK, List.find?, kne3, kne5, kne6, decide_false, decide_true, Option.map_some]
theorem p_left (v : Int) : dput (srcK i lf mx tn) (.str (Str.ofString "left")) (.int v) = srcK i v mx tn := by
  simp only [dput, srcK, List.any_cons, List.any_nil, kne1, kne4', kne5', decide_false, decide_true, Bool.false_or, Bool.true_or, if_true, List.map_cons, List.map_nil, if_false]
theorem p_turn (v : Int) : dput (srcK i lf mx tn) (.str (Str.ofString "turn")) (.int v) = srcK i lf mx v := by
  simp only [dput, srcK, List.any_cons, List.any_nil, kne3, kne5, kne6, decide_false, decide_true, Bool.false_or, Bool.true_or, if_true, List.map_cons, List.map_nil, if_false]
theorem srcK_len : (srcK i lf mx tn).length < L := by simp [srcK, L]
theorem Src.set_left (h : Src r i s cs lf mx tn) (v : Int) : setD (.ref r) (.str (Str.ofString "left")) (.int v) s = some (s.set r (C.dct (srcK i v mx tn))) := by
  simp only [setD, h.d, Src.fits, srcK_len, decide_true, Bool.and_true, if_true, p_left]
theorem Src.set_turn (h : Src r i s cs lf mx tn) (v : Int) : setD (.ref r) (.str (Str.ofString "turn")) (.int v) s = some (s.set r (C.dct (srcK i lf mx v))) := by
  simp only [setD, h.d, Src.fits, srcK_len, decide_true, Bool.and_true, if_true, p_turn]
theorem Src.setR (h : Src r i s cs lf mx tn) (lf' mx' tn' : Int) : Src r i (s.set r (C.dct (srcK i lf' mx' tn'))) cs lf' mx' tn' :=
  ⟨get_set h.d, by rw [List.getElem?_set_ne h.ne.symm]; exact h.c, h.ne, h.le⟩
def pkTest : E := .and (.cmp .Lt (.idx (.var 0) (.lit (.str (Str.ofString "left")))) (.lit (.int (2)))) (.cmp .Gt (.bif .len [(.var 2)]) (.lit (.int (0))))
def pkBody : List Ev.S := [.seti (.var 0) (.lit (.str (Str.ofString "left"))) (.mth .pop (.var 2) [])]
theorem pk_loop {cl : Str → List D → Sto → Option (D × Sto)} {gl : Str → Option D} {most : Option D} {o3 o4 o5 : Option D} {i : Nat} : ∀ (f : Nat) (cs : List Int) (s : Sto) (lf : Int), Src r i s cs lf mx tn → cs.length < f →
    ∃ s' cs' lf', whlL (evE cl gl pkTest) (evSs cl gl pkBody) f [some (.ref r), most, some (.ref i), o3, o4, o5] s = some ((.nx, [some (.ref r), most, some (.ref i), o3, o4, o5]), s') ∧ Src r i s' cs' lf' mx tn ∧ Fr r i s s' ∧ s'.length = s.length
  | 0, cs, s, lf, h, hf => by omega
  | f + 1, cs, s, lf, h, hf => by
    have e1 := h.at (Str.ofString "left")
    rw [g_left] at e1
    have e2 : bifD .len [.ref i] s = some (.int (cs.length : Nat), s) := by simp [bifD, h.c]
    have ht : evE cl gl pkTest [some (.ref r), most, some (.ref i), o3, o4, o5] s = some (.bl (decide (lf < 2) && decide (0 < cs.length)), s) := by
      by_cases h1 : lf < 2 <;> simp [pkTest, e1, e2, cmpD, cmpI, h1, E.isStar]
    rw [whlL, ht, bnd_some]
    by_cases hc : lf < 2 ∧ 0 < cs.length
    · simp only [hc.1, hc.2, decide_true, Bool.and_self]
      obtain ⟨cs0, c0, rfl⟩ : ∃ l x, cs = l ++ [x] := ⟨cs.dropLast, cs.getLast (by intro z; rw [z] at hc; simp at hc), (List.dropLast_concat_getLast _).symm⟩
      have p1 : mthOk .pop (.ref i) s = true := by simp [mthOk, h.c]
      have p2 : mthD .pop (.ref i) [] s = some (.int c0, s.set i (C.lst (cs0.map .int))) := by simp [mthD, h.c]
      have h2 : Src r i (s.set i (C.lst (cs0.map .int))) cs0 lf mx tn := ⟨by rw [List.getElem?_set_ne h.ne]; exact h.d, get_set h.c, h.ne, by have := h.le; simp at this; omega⟩
      have p3 := h2.set_left c0
      have h3 := h2.setR c0 mx tn
      obtain ⟨s', cs', lf', w, h4, h5, h6⟩ := pk_loop (cl := cl) (gl := gl) (most := most) (o3 := o3) (o4 := o4) (o5 := o5) f cs0 _ c0 h3 (by simp at hf; omega)
      refine ⟨s', cs', lf', ?_, h4, (Fr.trans fr_set_i fr_set_r).trans h5, by rw [h6]; simp⟩
      have hb : evSs cl gl pkBody [some (.ref r), most, some (.ref i), o3, o4, o5] s = some ((.nx, [some (.ref r), most, some (.ref i), o3, o4, o5]), (s.set i (C.lst (cs0.map .int))).set r (C.dct (srcK i c0 mx tn))) := by
        simp only [pkBody, q_cons, q_seti, r_mth, r_var, look_succ, look_zero, Option.map_some, bnd_some, p1, if_true, r_nil, p2, r_lit, p3, q_nil]
      rw [hb]
      exact w
    · refine ⟨s, cs, lf, ?_, h, Fr.rfl', rfl⟩
      have : (decide (lf < 2) && decide (0 < cs.length)) = false := by
        simp only [Bool.and_eq_false_iff, decide_eq_false_iff_not]
        by_cases h1 : lf < 2
        · exact Or.inr fun z => hc ⟨h1, z⟩
        · exact Or.inl h1
      rw [this]
theorem mul_okr {a b : Int} (h : b.natAbs < 2 ^ 64) : mulOk a b = true := by
  unfold mulOk
  rw [decide_eq_true h, Bool.or_true]
theorem div_ok {j : Int} (h : 0 < j) (h' : j < 2 ^ 40) : divOk j = true := by
  have h1 : j ≠ 0 := by omega
  have h2 : j.natAbs < 2 ^ 40 := by omega
  have h3 : j.natAbs.log2 < 40 := (Nat.log2_lt (by omega)).2 h2
  unfold divOk
  simp [h1]
  omega
theorem pick_run {most : Int} (h1 : 1 ≤ most) (h2 : most < 2 ^ 40) (hs : SrcE r i s) : ∃ v s', callD tb gl (n + 1) "_law_pick" [.ref r, .int most] s = some (.int v, s') ∧ 0 ≤ v ∧ v < most ∧ SrcE r i s' ∧ Fr r i s s' ∧ s'.length = s.length := by
  obtain ⟨cs, lf, mx, tn, hs⟩ := hs
  by_cases h3 : most < 2
  · refine ⟨0, s, ?_, by omega, by omega, ⟨cs, lf, mx, tn, hs⟩, Fr.rfl', rfl⟩
    rw [callR' tb_l_pick rfl rfl]
    refine body_rt (env := [some (.ref r), some (.int most), none, none, none, none]) ?_
    simp [l_pick, cmpD, cmpI, h3]
  · obtain ⟨s1, cs1, lf1, w, hs1, f1, len1⟩ := pk_loop (cl := callD tb gl n) (gl := gl) (most := some (.int most)) (o3 := none) (o4 := none) (o5 := none) turnsMost cs s lf hs (by have := hs.le; simp only [turnsMost]; omega)
    have e1 := hs.at (Str.ofString "cells")
    rw [g_cells] at e1
    have e2 := hs1.at (Str.ofString "left")
    rw [g_left] at e2
    have hd := div_ok (j := most) (by omega) h2
    have start : ∀ rest, evSs (callD tb gl n) gl (.ite (.cmp .Lt (.var 1) (.lit (.int (2)))) [.ret (some (.lit (.int (0))))] [] :: .asg (.nm 2) (.idx (.var 0) (.lit (.str (Str.ofString "cells")))) :: .whl pkTest pkBody :: .asg (.nm 3) (.idx (.var 0) (.lit (.str (Str.ofString "left")))) :: rest) [some (.ref r), some (.int most), none, none, none, none] s =
        evSs (callD tb gl n) gl rest [some (.ref r), some (.int most), some (.ref i), some (.int lf1), none, none] s1 := fun rest => by
      rw [q_step (env' := [some (.ref r), some (.int most), none, none, none, none]) (s' := s) (by simp [cmpD, cmpI, h3]),
        q_step (env' := [some (.ref r), some (.int most), some (.ref i), none, none, none]) (s' := s) (by simp [e1]),
        q_step (by rw [q_whl]; exact w), q_step (env' := [some (.ref r), some (.int most), some (.ref i), some (.int lf1), none, none]) (s' := s1) (by simp [e2])]
    by_cases h4 : 1 < lf1
    · have e3 := hs1.set_left (lf1.fdiv most)
      refine ⟨lf1.fmod most, _, ?_, Int.fmod_nonneg_of_pos _ (by omega), Int.fmod_lt_of_pos _ (by omega), ⟨cs1, _, _, _, hs1.setR (lf1.fdiv most) mx tn⟩, f1.trans fr_set_r, by simp [len1]⟩
      rw [callR' tb_l_pick rfl rfl]
      refine body_rt (env := [some (.ref r), some (.int most), some (.ref i), some (.int lf1), none, none]) ?_
      refine (start _).trans ?_
      simp [cmpD, cmpI, h4, binD, hd, e3, bifD, E.isStar]
    · have e3 := hs1.at (Str.ofString "turn")
      rw [g_turn] at e3
      have e4 := hs1.set_turn (tn + 1)
      have hs2 := hs1.setR lf1 mx (tn + 1)
      have e5 := hs2.at (Str.ofString "turn")
      rw [g_turn] at e5
      have e6 := hs2.at (Str.ofString "mixed")
      rw [g_mixed] at e6
      have m1 : mulOk (tn + 1) 104729 = true := mul_okr (by decide)
      have m2 : mulOk (tn + 1) 17 = true := mul_okr (by decide)
      have d1 : divOk 998244353 = true := div_ok (by decide) (by decide)
      have d2 : divOk 2147483647 = true := div_ok (by decide) (by decide)
      have d3 : divOk 16 = true := div_ok (by decide) (by decide)
      have b1 := Int.fmod_nonneg_of_pos (mx + (tn + 1) * 104729) (show (0 : Int) < 998244353 by decide)
      have b2 := Int.fmod_lt_of_pos (mx + (tn + 1) * 104729) (show (0 : Int) < 998244353 by decide)
      have m3 : mulOk ((mx + (tn + 1) * 104729).fmod 998244353) ((mx + (tn + 1) * 104729).fmod 998244353) = true := mul_okr (by omega)
      refine ⟨((((mx + (tn + 1) * 104729).fmod 998244353 * (mx + (tn + 1) * 104729).fmod 998244353 + (tn + 1) * 17).fmod 2147483647).fdiv 16).fmod most, _, ?_, Int.fmod_nonneg_of_pos _ (by omega), Int.fmod_lt_of_pos _ (by omega), ⟨cs1, _, _, _, hs2⟩, f1.trans fr_set_r, by simp [len1]⟩
      rw [callR' tb_l_pick rfl rfl]
      refine body_rt (env := [some (.ref r), some (.int most), some (.ref i), some (.int lf1), some (.int (tn + 1)), some (.int (((mx + (tn + 1) * 104729).fmod 998244353 * (mx + (tn + 1) * 104729).fmod 998244353 + (tn + 1) * 17).fmod 2147483647))]) ?_
      refine (start _).trans ?_
      simp [cmpD, cmpI, h4, binD, hd, e3, e4, e5, e6, bifD, E.isStar, m1, m2, m3, d1, d2, d3]
end
end K
end Ev
end

section
set_option autoImplicit false
set_option maxRecDepth 100000
set_option linter.unusedVariables false
set_option linter.unusedSimpArgs false
open PySem L2
namespace Ev
namespace K
def Tr.Lab : Tr → Prop
  | .leaf a => a < 1000
  | .node l r => l.Lab ∧ r.Lab
theorem lab_cn : ∀ {t p : Tr}, t.Lab → 0 < cn p t → p.Lab
  | .leaf a, p, h, hc => by
    rw [cn_leaf] at hc
    split at hc
    next e => rw [e]; exact h
    · omega
  | .node l r, p, h, hc => by
    rw [cn_node] at hc
    by_cases h1 : 0 < cn p l
    · exact lab_cn h.1 h1
    · by_cases h2 : 0 < cn p r
      · exact lab_cn h.2 h2
      · have h1 : cn p l = 0 := by omega
        have h2 : cn p r = 0 := by omega
        rw [h1, h2] at hc
        cases p with
        | leaf a => simp at hc
        | node pl pr =>
          simp only [Nat.zero_add] at hc
          have h3 : 0 < cn pl l := Nat.pos_of_ne_zero fun z => by rw [z] at hc; simp at hc
          have h4 : 0 < cn pr r := Nat.pos_of_ne_zero fun z => by rw [z] at hc; simp at hc
          exact ⟨lab_cn h.1 h3, lab_cn h.2 h4⟩
theorem lab_code : ∀ {t : Tr}, t.Lab → ∀ x ∈ t.code, x.natAbs < 10 ^ 20
  | .leaf a, h, x, hx => by
    simp only [Tr.code, List.mem_singleton] at hx
    simp only [Tr.Lab] at h
    omega
  | .node l r, h, x, hx => by
    simp only [Tr.code, List.mem_cons, List.mem_append] at hx
    rcases hx with rfl | hx | hx
    · decide
    · exact lab_code h.1 x hx
    · exact lab_code h.2 x hx
section
variable {n r i : Nat} {s : Sto}
def ocBody : List Ev.S := [.asg (.nm 1) (.bin .Mod (.bif .int [(.bin .Add (.bin .Add (.bin .Mult (.var 1) (.lit (.int (69069)))) (.bin .Mult (.var 2) (.lit (.int (31))))) (.lit (.int (5))))]) (.lit (.int (2147483629))))]
theorem oc_loop {cl : Str → List D → Sto → Option (D × Sto)} {gl : Str → Option D} {g : Ev.Src} {o : Option D} (hg : g.keep = []) : ∀ (ns : List Int) (m : Int) (o2 : Option D), ∃ m' o2', forL (evSs cl gl ocBody) (.nm 2) g (ns.map .int) [o, some (.int m), o2, none] s = some ((.nx, [o, some (.int m'), o2', none]), s)
  | [], m, o2 => ⟨m, o2, by simp [forL, Src.ok, hg, Ev.Src.ok]⟩
  | x :: ns, m, o2 => by
    obtain ⟨m', o2', ih⟩ := oc_loop (cl := cl) (gl := gl) (o := o) hg ns ((m * 69069 + x * 31 + 5).fmod 2147483629) (some (.int x))
    refine ⟨m', o2', ?_⟩
    have m1 : mulOk m 69069 = true := mul_okr (by decide)
    have m2 : mulOk x 31 = true := mul_okr (by decide)
    have d1 : divOk 2147483629 = true := div_ok (by decide) (by decide)
    have hb : evSs cl gl ocBody [o, some (.int m), some (.int x), none] s = some ((.nx, [o, some (.int ((m * 69069 + x * 31 + 5).fmod 2147483629)), some (.int x), none]), s) := by
      simp [ocBody, binD, bifD, m1, m2, d1, E.isStar]
    rw [List.map_cons, forL]
    simp only [Ev.Src.ok, hg, List.all_nil, if_true, t_nm, Option.bind_some, List.set_cons_succ, List.set_cons_zero]
    rw [hb]
    exact ih
theorem pair_src (m : Int) : pairUp [] [.str (Str.ofString "cells"), .ref 1, .str (Str.ofString "left"), .int 1, .str (Str.ofString "mixed"), .int m, .str (Str.ofString "turn"), .int 0] = some (srcK 1 1 m 0) := by
  simp only [pairUp, keyFits, atomK, List.all_nil, List.all_cons, Bool.and_true, Bool.true_or, List.length_nil, dput, List.any_nil, List.any_cons, Bool.false_eq_true, if_false, List.nil_append, kne1, kne2, kne3, kne4, kne5, kne6, decide_false, Bool.false_or, Bool.or_false, List.length_cons, List.cons_append, Bool.or_self]
  rfl
theorem open_run {ns : List Int} (h : ns.length ≤ 63) : ∃ sub, callD tb gl (n + 1) "_law_open_cells" [.scr ns] [] = some (.ref 2, sub) ∧ SrcE 2 1 sub ∧ sub.length = 3 := by
  obtain ⟨m, o2, hl⟩ := oc_loop (s := []) (cl := callD tb gl n) (gl := gl) (o := some (.scr ns)) (g := ⟨ns.map .int, [], none⟩) rfl ns 11 none
  have hfor : evS (callD tb gl n) gl (.for (.nm 2) (.seq (.var 0)) ocBody) [some (.scr ns), some (.int 11), none, none] [] = some ((.nx, [some (.scr ns), some (.int m), o2, none]), []) := by
    rw [q_for, r_seq, r_var]
    simp only [look_succ, look_zero, Option.map_some, bnd_some, srcOf, lockS, unlockS]
    rw [hl, bnd_some]
  have hcomp := compL_gen (elt := evE (callD tb gl n) gl (.bif .abs [(.var 2)])) (c := evC (callD tb gl n) gl none) (t := .nm 2) (env := [some (.scr ns), some (.int m), none, none])
    (g := ⟨ns.map .int, [], none⟩) (S := []) rfl (fun x : Int => D.int x) (fun x => D.int (x.natAbs : Nat)) (fun _ => true) ns [] (fun x hx => ⟨_, t_nm, r_cnone, fun _ => by simp [bifD, E.isStar]⟩) (by simp; omega)
  have hfil : ns.filter (fun _ => true) = ns := List.filter_eq_self.2 fun _ _ => rfl
  rw [hfil, List.nil_append] at hcomp
  have hb : bodyD (callD tb gl n) gl ⟨1, 4, l_open_cells⟩ [.scr ns] [] = some (.ref 2, [C.lst (ns.map fun x => D.int (x.natAbs : Nat)), C.lst (ns.map fun x => D.int (x.natAbs : Nat)).reverse, C.dct (srcK 1 1 m 0)]) := by
    refine body_rt (env := [some (.scr ns), some (.int m), o2, some (.ref 0)]) ?_
    show evSs _ _ [.asg (.nm 1) (.lit (.int (11))), .for (.nm 2) (.seq (.var 0)) ocBody, .asg (.nm 3) (.comp [2] (.nm 2) (.seq (.var 0)) (.bif .abs [(.var 2)]) none),
      .ret (some (.dct [(.lit (.str (Str.ofString "cells"))), (.rev (.var 3)), (.lit (.str (Str.ofString "left"))), (.lit (.int (1))), (.lit (.str (Str.ofString "mixed"))), (.var 1), (.lit (.str (Str.ofString "turn"))), (.lit (.int (0)))]))] [some (.scr ns), none, none, none] [] = _
    rw [q_step (env' := [some (.scr ns), some (.int 11), none, none]) (s' := []) (by simp), q_step hfor,
      q_step (env' := [some (.scr ns), some (.int m), o2, some (.ref 0)]) (s' := [C.lst (ns.map fun x => D.int (x.natAbs : Nat))]) (by
        have hw : wipeD [some (.scr ns), some (.int m), o2, none] [2] = [some (.scr ns), some (.int m), none, none] := rfl
        simp only [q_asg, r_comp, r_seq, r_var, look_succ, look_zero, Option.map_some, bnd_some, srcOf, lockS, unlockS, hw, hcomp, t_nm]
        rfl)]
    have e1 : revD (.ref 0) [C.lst (ns.map fun x => D.int (x.natAbs : Nat))] = some (.ref 1, [C.lst (ns.map fun x => D.int (x.natAbs : Nat)), C.lst (ns.map fun x => D.int (x.natAbs : Nat)).reverse]) := by
      show newL _ _ = _
      rw [newL_le (by simp [L]; omega)]
      rfl
    simp only [q_cons, q_ret, r_dct, r_cons, r_lit, bnd_some, r_rev, r_var, look_succ, look_zero, Option.map_some, e1, r_nil, E.isStar, Bool.false_eq_true, if_false, pair_src]
    rfl
  have hq := callQ (n := n) (tb := tb) (gl := gl) (s := []) tb_l_open_cells rfl rfl hb rfl
  refine ⟨_, hq, ⟨(ns.map fun x => (x.natAbs : Int)).reverse, 1, m, 0, ?_, ?_, by decide, by simp; omega⟩, rfl⟩
  · rfl
  · show some (C.shift 0 (C.lst (ns.map fun x => D.int (x.natAbs : Nat)).reverse)) = _
    rw [C.shift, List.map_reverse, List.map_reverse, List.map_map, List.map_map]
    rfl
theorem of_run {q : Nat} {ds : List D} (hs : SrcE r i s) (hq : s[q]? = some (C.lst ds)) (h0 : 0 < ds.length) (hl : ds.length ≤ 1000000) (h1 : q ≠ r) (h2 : q ≠ i) :
    ∃ (j : Nat) (d : D) (s' : Sto), ds[j]? = some d ∧ callD tb gl (n + 2) "_law_of" [.ref r, .ref q] s = some (d, s') ∧ SrcE r i s' ∧ Fr r i s s' := by
  obtain ⟨v, s', hp, v0, v1, hs', hf, _⟩ := pick_run (n := n) (most := (ds.length : Nat)) (by omega) (by omega) hs
  have hj : v.toNat < ds.length := by omega
  refine ⟨v.toNat, ds[v.toNat], s', by rw [List.getElem?_eq_getElem hj], ?_, hs', hf⟩
  rw [callR' tb_l_of rfl rfl]
  refine body_rt (env := [some (.ref r), some (.ref q)]) ?_
  have e1 : bifD .len [.ref q] s = some (.int (ds.length : Nat), s) := by simp [bifD, hq]
  have hq' : s'[q]? = some (C.lst ds) := by rw [hf.2 q (List.getElem?_eq_some_iff.1 hq).1 h1 h2]; exact hq
  have e2 : idxD (.ref q) (.int v) s' = some (ds[v.toNat], s') := by
    have : atD ds v = some ds[v.toNat] := by
      have hv : ((v.toNat : Nat) : Int) = v := by omega
      have := L2.atI_nat (List.getElem?_eq_getElem hj)
      rw [hv] at this
      exact this
    simp [idxD, hq', this]
  simp [l_of, E.isStar, e1, hp, e2]
/-! combs -/
def cbBody : List Ev.S := [.asg (.nm 6) (.tup [(.call (Str.ofString "_law_pick") [(.var 0), (.var 1)])]),
  .asg (.nm 4) (.bin .Add (.tup [(.neg (.lit (.int (1))))]) (.ite (.cmp .Eq (.var 3) (.lit (.int (0)))) (.bin .Add (.var 4) (.var 6)) (.bin .Add (.var 6) (.var 4))))]
theorem leaf_pick {k : Int} (h1 : 1 ≤ k) (h2 : k ≤ 1000) (hs : SrcE r i s) : ∃ a s', callD tb gl (n + 1) "_law_pick" [.ref r, .int k] s = some (.int (a : Nat), s') ∧ a < 1000 ∧ SrcE r i s' ∧ Fr r i s s' ∧ s'.length = s.length := by
  obtain ⟨v, s', hp, v0, v1, hs', hf, hl⟩ := pick_run (n := n) (most := k) h1 (by omega) hs
  exact ⟨v.toNat, s', by rw [hp]; congr 3; omega, by omega, hs', hf, hl⟩
theorem add_ints {a b : List Int} {s : Sto} (h : a.length + b.length ≤ 1000000) : binD .Add (tupI a) (tupI b) s = some (tupI (a ++ b), s) := by
  show newT _ _ = _
  rw [newT_le (by simp [L]; omega), tupI, List.map_append]
theorem one_int {x : Int} {s : Sto} : newT s [D.int x] = some (tupI [x], s) := rfl
theorem cb_loop {k way : Int} {o2 : Option D} {g : Ev.Src} (hg : g.keep = []) (h1 : 1 ≤ k) (h2 : k ≤ 1000) : ∀ (its : List D) (t : Tr) (s : Sto) (o5 o6 : Option D), t.Lab → t.size + its.length ≤ 1000 → SrcE r i s →
    ∃ (t' : Tr) (s' : Sto) (o5' o6' : Option D), forL (evSs (callD tb gl (n + 1)) gl cbBody) (.nm 5) g its [some (.ref r), some (.int k), o2, some (.int way), some (tupI t.code), o5, o6] s = some ((.nx, [some (.ref r), some (.int k), o2, some (.int way), some (tupI t'.code), o5', o6']), s') ∧ t'.Lab ∧ t'.size = t.size + its.length ∧ SrcE r i s' ∧ Fr r i s s'
  | [], t, s, o5, o6, hL, hz, hs => ⟨t, s, o5, o6, by simp [forL, Ev.Src.ok, hg], hL, rfl, hs, Fr.rfl'⟩
  | d :: its, t, s, o5, o6, hL, hz, hs => by
    obtain ⟨a, s1, hp, ha, hs1, hf1, _⟩ := leaf_pick (n := n) h1 h2 hs
    rw [List.length_cons] at hz
    have hc := code_len t
    have m1 := one_int (x := (a : Int)) (s := s1)
    have m2 := one_int (x := -1) (s := s1)
    by_cases hw : way = 0
    · obtain ⟨t', s', o5', o6', w, q1, q2, q3, q4⟩ := cb_loop hg h1 h2 its (.node t (.leaf a)) s1 (some d) (some (tupI [(a : Int)])) ⟨hL, ha⟩ (by simp [Tr.size]; omega) hs1
      refine ⟨t', s', o5', o6', ?_, q1, by rw [q2]; simp [Tr.size]; omega, q3, hf1.trans q4⟩
      have hb : evSs (callD tb gl (n + 1)) gl cbBody [some (.ref r), some (.int k), o2, some (.int way), some (tupI t.code), some d, o6] s = some ((.nx, [some (.ref r), some (.int k), o2, some (.int way), some (tupI (Tr.node t (.leaf a)).code), some d, some (tupI [(a : Int)])]), s1) := by
        have a1 := add_ints (a := t.code) (b := [(a : Int)]) (s := s1) (by simp; omega)
        have a2 := add_ints (a := [-1]) (b := t.code ++ [(a : Int)]) (s := s1) (by simp; omega)
        simp [cbBody, E.isStar, hp, m1, m2, cmpD, hw, a1, a2, Tr.code]
      rw [forL]
      simp only [Ev.Src.ok, hg, List.all_nil, if_true, t_nm, Option.bind_some, List.set_cons_succ, List.set_cons_zero]
      rw [hb]
      exact w
    · obtain ⟨t', s', o5', o6', w, q1, q2, q3, q4⟩ := cb_loop hg h1 h2 its (.node (.leaf a) t) s1 (some d) (some (tupI [(a : Int)])) ⟨ha, hL⟩ (by simp [Tr.size]; omega) hs1
      refine ⟨t', s', o5', o6', ?_, q1, by rw [q2]; simp [Tr.size]; omega, q3, hf1.trans q4⟩
      have hb : evSs (callD tb gl (n + 1)) gl cbBody [some (.ref r), some (.int k), o2, some (.int way), some (tupI t.code), some d, o6] s = some ((.nx, [some (.ref r), some (.int k), o2, some (.int way), some (tupI (Tr.node (.leaf a) t).code), some d, some (tupI [(a : Int)])]), s1) := by
        have a1 := add_ints (a := [(a : Int)]) (b := t.code) (s := s1) (by simp; omega)
        have a2 := add_ints (a := [-1]) (b := [(a : Int)] ++ t.code) (s := s1) (by simp; omega)
        simp only [List.cons_append, List.nil_append] at a1 a2
        simp [cbBody, E.isStar, hp, m1, m2, cmpD, hw, a1, a2, Tr.code]
      rw [forL]
      simp only [Ev.Src.ok, hg, List.all_nil, if_true, t_nm, Option.bind_some, List.set_cons_succ, List.set_cons_zero]
      rw [hb]
      exact w
theorem srcRange_ok {lo hi : Int} (h1 : -1000000 ≤ lo) (h2 : lo ≤ 1000000) (h3 : -1000000 ≤ hi) (h4 : hi ≤ 1000000) : srcRange lo hi = some ⟨(List.range (hi - lo).toNat).map fun i : Nat => D.int (lo + i), [], none⟩ := if_pos (by omega)
theorem comb_run {k mny way : Int} (h1 : 1 ≤ k) (h2 : k ≤ 1000) (h3 : 1 ≤ mny) (h4 : mny ≤ 100) (hs : SrcE r i s) : ∃ (t : Tr) (s' : Sto), callD tb gl (n + 2) "_law_comb" [.ref r, .int k, .int mny, .int way] s = some (tupI t.code, s') ∧ t.Lab ∧ (t.size : Int) = mny ∧ SrcE r i s' ∧ Fr r i s s' := by
  obtain ⟨a, s1, hp, ha, hs1, hf1, _⟩ := leaf_pick (n := n) h1 h2 hs
  have hr := srcRange_ok (lo := 0) (hi := mny - 1) (by omega) (by omega) (by omega) (by omega)
  obtain ⟨t', s', o5', o6', w, q1, q2, q3, q4⟩ := cb_loop (n := n) (k := k) (way := way) (o2 := some (.int mny)) (g := ⟨(List.range (mny - 1 - 0).toNat).map fun i : Nat => D.int (0 + i), [], none⟩) rfl h1 h2 ((List.range (mny - 1 - 0).toNat).map fun i : Nat => D.int (0 + i)) (.leaf a) s1 none none ha (by simp [Tr.size]; omega) hs1
  refine ⟨t', s', ?_, q1, by rw [q2]; simp [Tr.size]; omega, q3, hf1.trans q4⟩
  rw [callR' tb_l_comb rfl rfl]
  refine body_rt (env := [some (.ref r), some (.int k), some (.int mny), some (.int way), some (tupI t'.code), o5', o6']) ?_
  show evSs _ _ [.asg (.nm 4) (.tup [(.call (Str.ofString "_law_pick") [(.var 0), (.var 1)])]), .for (.nm 5) (.range1 (.bin .Sub (.var 2) (.lit (.int (1))))) cbBody, .ret (some (.var 4))] [some (.ref r), some (.int k), some (.int mny), some (.int way), none, none, none] s = _
  have m1 := one_int (x := (a : Int)) (s := s1)
  have w : forL (evSs (callD tb gl (n + 1)) gl cbBody) (.nm 5) _ _ [some (.ref r), some (.int k), some (.int mny), some (.int way), some (tupI [(a : Int)]), none, none] s1 = _ := w
  rw [q_step (env' := [some (.ref r), some (.int k), some (.int mny), some (.int way), some (tupI [(a : Int)]), none, none]) (s' := s1) (by simp [hp, m1, E.isStar]),
    q_step (env' := [some (.ref r), some (.int k), some (.int mny), some (.int way), some (tupI t'.code), o5', o6']) (s' := s') (by
      rw [q_for]
      simp only [r_range1, r_bin, r_var, look_succ, look_zero, Option.map_some, bnd_some, r_lit, binD, hr, lockS, unlockS]
      rw [w, bnd_some])]
  simp
end
end K
end Ev
end

section
set_option autoImplicit false
set_option maxRecDepth 100000
set_option linter.unusedVariables false
set_option linter.unusedSimpArgs false
open PySem L2
namespace Ev
namespace K
def tc (t : Tr) : D := tupI t.code
def tsz (ts : List Tr) : Nat := (ts.map Tr.size).sum
theorem tsz_cons (t : Tr) (ts : List Tr) : tsz (t :: ts) = t.size + tsz ts := by simp [tsz]
theorem tsz_append (a b : List Tr) : tsz (a ++ b) = tsz a + tsz b := by simp [tsz]
def lnE : E := .bin .Add (.bin .Add (.slc (.var 3) none (some (.var 4))) (.lst [(.bin .Add (.bin .Add (.tup [(.neg (.lit (.int (1))))]) (.idx (.var 3) (.var 4))) (.idx (.var 3) (.bin .Add (.var 4) (.lit (.int (1))))))])) (.slc (.var 3) (some (.bin .Add (.var 4) (.lit (.int (2))))) none)
def lnTest : E := .cmp .Gt (.bif .len [(.var 3)]) (.lit (.int (1)))
def lnBody : List Ev.S := [.asg (.nm 4) (.call (Str.ofString "_law_pick") [(.var 0), (.bin .Sub (.bif .len [(.var 3)]) (.lit (.int (1))))]), .asg (.nm 3) lnE]
section
variable {n r i ρ : Nat} {s : Sto}
theorem at_app {s : Sto} {X : C} : (s ++ [X])[s.length]? = some X := by simp
theorem old_app {s : Sto} {X Y : C} {j : Nat} (h : s[j]? = some Y) : (s ++ [X])[j]? = some Y := by
  rw [List.getElem?_append_left (List.getElem?_eq_some_iff.1 h).1]; exact h
theorem idx_lst {s : Sto} {ds : List D} {j : Nat} {d : D} (h : s[ρ]? = some (C.lst ds)) (hd : ds[j]? = some d) : idxD (.ref ρ) (.int (j : Nat)) s = some (d, s) := by
  have : atD ds (j : Nat) = some d := L2.atI_nat hd
  simp [idxD, h, this]
theorem ln_expr {cl : Str → List D → Sto → Option (D × Sto)} {gl : Str → Option D} {pre post : List Tr} {a b : Tr} {S1 : Sto} {o0 o1 o2 o5 : Option D} (h : S1[ρ]? = some (C.lst ((pre ++ a :: b :: post).map tc))) (hz : tsz (pre ++ a :: b :: post) ≤ 1000) (hlen : (pre ++ a :: b :: post).length ≤ 1000) :
    ∃ S2 ρ2, evE cl gl lnE [o0, o1, o2, some (.ref ρ), some (.int (pre.length : Nat)), o5] S1 = some (.ref ρ2, S2) ∧ S2[ρ2]? = some (C.lst ((pre ++ .node a b :: post).map tc)) ∧ S1.length ≤ ρ2 ∧ ∃ u, S2 = S1 ++ u := by
  rw [tsz_append, tsz_cons, tsz_cons] at hz
  have ca := code_len a
  have cb := code_len b
  simp only [List.length_append, List.length_cons] at hlen
  have hl : ∀ {ds : List D} {s : Sto}, ds.length ≤ 2000 → newL s ds = some (.ref s.length, s ++ [C.lst ds]) := fun h => newL_le (by simp only [L]; omega)
  have hm : (pre ++ a :: b :: post).map tc = pre.map tc ++ tc a :: tc b :: post.map tc := by simp
  rw [hm] at h
  have c1 : cutD (pre.map tc ++ tc a :: tc b :: post.map tc) none (some (pre.length : Nat)) = pre.map tc := by
    have := cut_head (pre := pre.map tc) (post := tc a :: tc b :: post.map tc)
    rw [List.length_map] at this
    exact this
  have c2 : cutD (pre.map tc ++ tc a :: tc b :: post.map tc) (some ((pre.length : Int) + 2)) none = post.map tc := by
    have := cut_tail (pre := pre.map tc ++ [tc a, tc b]) (post := post.map tc)
    rw [List.append_assoc] at this
    simp only [List.length_append, List.length_map, List.length_cons, List.length_nil, List.cons_append, List.nil_append] at this
    exact this
  have e1 : slcD (.ref ρ) none (some (pre.length : Nat)) S1 = some (.ref S1.length, S1 ++ [C.lst (pre.map tc)]) := by
    simp only [slcD, h]
    rw [c1, hl (by simp; omega)]
  have h1 := old_app (X := C.lst (pre.map tc)) h
  have e2 := idx_lst (d := tc a) (j := pre.length) h1 (by simp)
  have e3 := idx_lst (d := tc b) (j := pre.length + 1) h1 (by simp)
  have m2 : ∀ s, newT s [D.int (-1)] = some (tupI [-1], s) := fun _ => rfl
  have a1 : ∀ s, binD .Add (tupI [-1]) (tc a) s = some (tupI (-1 :: a.code), s) := fun s => add_ints (a := [-1]) (by simp; omega)
  have a2 : ∀ s, binD .Add (tupI (-1 :: a.code)) (tc b) s = some (tc (.node a b), s) := fun s => add_ints (a := -1 :: a.code) (b := b.code) (by simp; omega)
  have i1 : binD .Add (.int (pre.length : Nat)) (.int 1) (S1 ++ [C.lst (pre.map tc)]) = some (.int ((pre.length + 1 : Nat) : Int), S1 ++ [C.lst (pre.map tc)]) := rfl
  have e4 := hl (ds := [tc (.node a b)]) (s := S1 ++ [C.lst (pre.map tc)]) (by simp)
  generalize hX1 : S1 ++ [C.lst (pre.map tc)] = X1 at *
  have k1 : X1[S1.length]? = some (C.lst (pre.map tc)) := by rw [← hX1]; exact at_app
  have k2 : (X1 ++ [C.lst [tc (.node a b)]])[S1.length]? = some (C.lst (pre.map tc)) := old_app k1
  have k3 : (X1 ++ [C.lst [tc (.node a b)]])[X1.length]? = some (C.lst [tc (.node a b)]) := at_app
  have h2 := old_app (X := C.lst [tc (.node a b)]) h1
  generalize hX2 : X1 ++ [C.lst [tc (.node a b)]] = X2 at *
  have e5 : binD .Add (.ref S1.length) (.ref X1.length) X2 = some (.ref X2.length, X2 ++ [C.lst (pre.map tc ++ [tc (.node a b)])]) := by
    simp only [binD, k2, k3]
    rw [hl (by simp; omega)]
  have h3 := old_app (X := C.lst (pre.map tc ++ [tc (.node a b)])) h2
  have k4 : (X2 ++ [C.lst (pre.map tc ++ [tc (.node a b)])])[X2.length]? = _ := at_app
  generalize hX3 : X2 ++ [C.lst (pre.map tc ++ [tc (.node a b)])] = X3 at *
  have e6 : slcD (.ref ρ) (some ((pre.length : Int) + 2)) none X3 = some (.ref X3.length, X3 ++ [C.lst (post.map tc)]) := by
    simp only [slcD, h3]
    rw [c2, hl (by simp; omega)]
  have k5 := old_app (X := C.lst (post.map tc)) k4
  have k6 : (X3 ++ [C.lst (post.map tc)])[X3.length]? = _ := at_app
  generalize hX4 : X3 ++ [C.lst (post.map tc)] = X4 at *
  have e7 : binD .Add (.ref X2.length) (.ref X3.length) X4 = some (.ref X4.length, X4 ++ [C.lst (pre.map tc ++ [tc (.node a b)] ++ post.map tc)]) := by
    simp only [binD, k5, k6]
    rw [hl (by simp; omega)]
  have i2 : binD .Add (.int (pre.length : Nat)) (.int 2) X3 = some (.int ((pre.length : Int) + 2), X3) := rfl
  refine ⟨X4 ++ [C.lst (pre.map tc ++ [tc (.node a b)] ++ post.map tc)], X4.length, ?_, at_app.trans (by simp), ?_, ?_⟩
  · simp only [lnE, r_bin, r_slc, r_var, look_succ, look_zero, Option.map_some, bnd_some, r_onone, r_osome, e1, r_lst, r_cons, r_tup, r_neg, r_lit, r_nil, E.isStar, Bool.false_eq_true, if_false, m2, r_idx, e2, e3, i1, a1, a2, e4, e5, i2, e6, e7]
  · rw [← hX4, ← hX3, ← hX2, ← hX1]
    simp
  · refine ⟨[C.lst (pre.map tc)] ++ [C.lst [tc (.node a b)]] ++ [C.lst (pre.map tc ++ [tc (.node a b)])] ++ [C.lst (post.map tc)] ++ [C.lst (pre.map tc ++ [tc (.node a b)] ++ post.map tc)], ?_⟩
    · rw [← hX4, ← hX3, ← hX2, ← hX1]
      simp
theorem split_at (ts : List Tr) (v : Nat) (h : v + 1 < ts.length) : ∃ pre a b post, ts = pre ++ a :: b :: post ∧ pre.length = v := by
  refine ⟨ts.take v, ts[v], ts[v + 1], ts.drop (v + 2), ?_, by simp; omega⟩
  rw [← List.drop_eq_getElem_cons (by omega), ← List.drop_eq_getElem_cons (by omega), List.take_append_drop]
theorem ln_loop {o1 o2 o5 : Option D} : ∀ (f : Nat) (ts : List Tr) (s : Sto) (ρ : Nat) (o4 : Option D), ts ≠ [] → ts.length ≤ f → (∀ t ∈ ts, t.Lab) → tsz ts ≤ 1000 → ts.length ≤ 1000 → SrcE r i s → s[ρ]? = some (C.lst (ts.map tc)) → ρ ≠ r → ρ ≠ i →
    ∃ (t : Tr) (s' : Sto) (ρ' : Nat) (o4' : Option D), whlL (evE (callD tb gl (n + 1)) gl lnTest) (evSs (callD tb gl (n + 1)) gl lnBody) f [some (.ref r), o1, o2, some (.ref ρ), o4, o5] s = some ((.nx, [some (.ref r), o1, o2, some (.ref ρ'), o4', o5]), s') ∧
      s'[ρ']? = some (C.lst [tc t]) ∧ t.Lab ∧ t.size = tsz ts ∧ SrcE r i s' ∧ Fr r i s s'
  | 0, ts, s, ρ, o4, h0, hf, _, _, _, _, _, _, _ => absurd (List.length_eq_zero_iff.1 (by omega)) h0
  | f + 1, ts, s, ρ, o4, h0, hf, hL, hz, hlen, hs, hρ, n1, n2 => by
    have e1 : ∀ {s : Sto}, s[ρ]? = some (C.lst (ts.map tc)) → bifD .len [.ref ρ] s = some (.int (ts.length : Nat), s) := fun h => by simp [bifD, h]
    have ht : evE (callD tb gl (n + 1)) gl lnTest [some (.ref r), o1, o2, some (.ref ρ), o4, o5] s = some (.bl (decide ((1 : Int) < (ts.length : Nat))), s) := by
      simp only [lnTest, r_cmp, r_bif, r_cons, r_var, look_succ, look_zero, Option.map_some, bnd_some, r_nil, E.isStar, Bool.false_eq_true, if_false, e1 hρ, r_lit, cmpD, cmpI]
    rw [whlL, ht, bnd_some]
    match ts, h0 with
    | [t], _ =>
      refine ⟨t, s, ρ, o4, by simp, by simpa using hρ, hL t (by simp), by simp [tsz], hs, Fr.rfl'⟩
    | t1 :: t2 :: tr, _ =>
      obtain ⟨v, s1, hp, v0, v1, hs1, hf1, _⟩ := pick_run (n := n) (most := (((t1 :: t2 :: tr).length : Nat) : Int) - 1) (by simp only [List.length_cons]; omega) (by omega) hs
      obtain ⟨pre, a, b, post, hsp, hv⟩ := split_at (t1 :: t2 :: tr) v.toNat (by omega)
      have hρ1 : s1[ρ]? = some (C.lst ((t1 :: t2 :: tr).map tc)) := by rw [hf1.2 ρ (List.getElem?_eq_some_iff.1 hρ).1 n1 n2]; exact hρ
      have hdec : decide ((1 : Int) < ((t1 :: t2 :: tr).length : Nat)) = true := by simp only [decide_eq_true_eq, List.length_cons]; omega
      rw [hdec]
      have hvv : v = ((pre.length : Nat) : Int) := by omega
      have hL' : ∀ t ∈ pre ++ a :: b :: post, t.Lab := by rw [← hsp]; exact hL
      have hz' : tsz (pre ++ a :: b :: post) ≤ 1000 := by rw [← hsp]; exact hz
      have hlen' : (pre ++ a :: b :: post).length ≤ 1000 := by rw [← hsp]; exact hlen
      rw [hsp] at hρ1
      obtain ⟨S2, ρ2, he, g2, b2, u, hu⟩ := ln_expr (cl := callD tb gl (n + 1)) (gl := gl) (o0 := some (.ref r)) (o1 := o1) (o2 := o2) (o5 := o5) hρ1 hz' hlen'
      have hs2 : SrcE r i S2 := by rw [hu]; exact hs1.app
      have hf2 : Fr r i s1 S2 := by rw [hu]; exact fr_app
      obtain ⟨x1, x2, x3, x4, hx⟩ := hs1
      have hr := (List.getElem?_eq_some_iff.1 hx.d).1
      have hi := (List.getElem?_eq_some_iff.1 hx.c).1
      have hl2 : (pre ++ Tr.node a b :: post).length + 1 = (t1 :: t2 :: tr).length := by rw [hsp]; simp; omega
      have hzz : tsz (pre ++ Tr.node a b :: post) = tsz (t1 :: t2 :: tr) := by rw [hsp, tsz_append, tsz_append, tsz_cons, tsz_cons, tsz_cons, Tr.size]; omega
      obtain ⟨t, s', ρ', o4', w, q1, q2, q3, q4, q5⟩ := ln_loop f (pre ++ .node a b :: post) S2 ρ2 (some (.int v)) (by simp) (by omega) (fun t ht => by
        simp only [List.mem_append, List.mem_cons] at ht
        rcases ht with ht | rfl | ht
        · exact hL' t (by simp [ht])
        · exact ⟨hL' a (by simp), hL' b (by simp)⟩
        · exact hL' t (by simp [ht])) (by omega) (by omega) hs2 g2 (by omega) (by omega)
      refine ⟨t, s', ρ', o4', ?_, q1, q2, by rw [q3, hzz], q4, (hf1.trans hf2).trans q5⟩
      have hb : evSs (callD tb gl (n + 1)) gl lnBody [some (.ref r), o1, o2, some (.ref ρ), o4, o5] s = some ((.nx, [some (.ref r), o1, o2, some (.ref ρ2), some (.int v), o5]), S2) := by
        rw [← hvv] at he
        simp only [lnBody, q_cons, q_asg, r_call, r_cons, r_var, look_succ, look_zero, Option.map_some, bnd_some, r_bin, r_bif, r_nil, E.isStar, Bool.false_eq_true, if_false, e1 hρ, r_lit, binD, hp, t_nm, List.set_cons_succ, List.set_cons_zero, he, q_nil]
      simp only
      rw [hb]
      exact w
theorem tr_comp {k : Int} {env : Env} {g : Ev.Src} (he0 : look env 0 = some (.ref r)) (he1 : look env 1 = some (.int k)) (hset : ∀ d, look (env.set 5 (some d)) 0 = some (.ref r) ∧ look (env.set 5 (some d)) 1 = some (.int k)) (hg : g.keep = []) (h1 : 1 ≤ k) (h2 : k ≤ 1000) : ∀ (its : List D) (ts : List Tr) (s : Sto), SrcE r i s → its.length + ts.length ≤ 1000 →
    ∃ (us : List Tr) (s' : Sto), compL (evE (callD tb gl (n + 1)) gl (.tup [(.call (Str.ofString "_law_pick") [(.var 0), (.var 1)])])) (evC (callD tb gl (n + 1)) gl none) (.nm 5) env g its (ts.map tc) s = some ((ts ++ us).map tc, s') ∧
      us.length = its.length ∧ (∀ t ∈ us, t.Lab) ∧ tsz us = its.length ∧ SrcE r i s' ∧ Fr r i s s' ∧ s'.length = s.length
  | [], ts, s, hs, _ => ⟨[], s, by simp [compL, Ev.Src.ok, hg], rfl, by simp, rfl, hs, Fr.rfl', rfl⟩
  | d :: its, ts, s, hs, hl => by
    obtain ⟨a, s1, hp, ha, hs1, hf1, hl1⟩ := leaf_pick (n := n) h1 h2 hs
    rw [List.length_cons] at hl
    obtain ⟨us, s', w, q1, q2, q3, q4, q5, q6⟩ := tr_comp he0 he1 hset hg h1 h2 its (ts ++ [.leaf a]) s1 hs1 (by simp; omega)
    refine ⟨.leaf a :: us, s', ?_, by simp [q1], ?_, by rw [tsz_cons, q3, Tr.size, List.length_cons]; omega, q4, hf1.trans q5, by rw [q6, hl1]⟩
    · rw [compL]
      have m1 : newT s1 [D.int (a : Int)] = some (tc (.leaf a), s1) := rfl
      have hlt : (ts.map tc).length < L := by simp only [List.length_map, L]; omega
      simp only [Ev.Src.ok, hg, List.all_nil, if_true, t_nm, Option.bind_some, r_cnone, bnd_some, r_tup, r_cons, r_call, r_var, (hset d).1, (hset d).2, Option.map_some, r_nil, E.isStar, Bool.false_eq_true, if_false, hp, m1, hlt]
      have e : ts.map tc ++ [tc (.leaf a)] = (ts ++ [Tr.leaf a]).map tc := by simp
      rw [e, w, List.append_assoc]
      rfl
    · intro t ht
      rcases List.mem_cons.mp ht with rfl | ht
      · exact ha
      · exact q2 t ht
theorem tree_run {k lv : Int} (h1 : 1 ≤ k) (h2 : k ≤ 1000) (h3 : 1 ≤ lv) (h4 : lv ≤ 100) (hs : SrcE r i s) : ∃ (t : Tr) (s' : Sto), callD tb gl (n + 2) "_law_tree" [.ref r, .int k, .int lv] s = some (tupI t.code, s') ∧ t.Lab ∧ (t.size : Int) = lv ∧ SrcE r i s' ∧ Fr r i s s' := by
  have hr := srcRange_ok (lo := 0) (hi := lv) (by omega) (by omega) (by omega) (by omega)
  obtain ⟨us, s1, w, q1, q2, q3, q4, q5, q6⟩ := tr_comp (n := n) (k := k) (r := r) (i := i) (env := [some (.ref r), some (.int k), some (.int lv), none, none, none]) (g := ⟨(List.range (lv - 0).toNat).map fun i : Nat => D.int (0 + i), [], none⟩) rfl rfl (fun _ => ⟨rfl, rfl⟩) rfl h1 h2 ((List.range (lv - 0).toNat).map fun i : Nat => D.int (0 + i)) [] s hs (by simp; omega)
  simp only [List.length_map, List.length_range] at q1 q3
  obtain ⟨x1, x2, x3, x4, hx⟩ := q4
  have hrl := (List.getElem?_eq_some_iff.1 hx.d).1
  have hil := (List.getElem?_eq_some_iff.1 hx.c).1
  have hne : us ≠ [] := by
    rintro rfl
    simp at q1
    omega
  obtain ⟨t, s', ρ', o4', w2, p1, p2, p3, p4, p5⟩ := ln_loop (n := n) (r := r) (i := i) (o1 := some (.int k)) (o2 := some (.int lv)) (o5 := none) turnsMost us (s1 ++ [C.lst (us.map tc)]) s1.length none hne (by simp only [turnsMost]; omega) q2 (by omega) (by omega) (SrcE.app ⟨x1, x2, x3, x4, hx⟩) at_app (by omega) (by omega)
  refine ⟨t, s', ?_, p2, by omega, p4, (q5.trans fr_app).trans p5⟩
  rw [callR' tb_l_tree rfl rfl]
  refine body_rt (env := [some (.ref r), some (.int k), some (.int lv), some (.ref ρ'), o4', none]) ?_
  show evSs _ _ [.asg (.nm 3) (.comp [5] (.nm 5) (.range1 (.var 2)) (.tup [(.call (Str.ofString "_law_pick") [(.var 0), (.var 1)])]) none), .whl lnTest lnBody, .ret (some (.idx (.var 3) (.lit (.int (0)))))] [some (.ref r), some (.int k), some (.int lv), none, none, none] s = _
  have hw : wipeD [some (.ref r), some (.int k), some (.int lv), none, none, none] [5] = [some (.ref r), some (.int k), some (.int lv), none, none, none] := rfl
  rw [List.map_nil, List.nil_append] at w
  rw [q_step (env' := [some (.ref r), some (.int k), some (.int lv), some (.ref s1.length), none, none]) (s' := s1 ++ [C.lst (us.map tc)]) (by
      simp only [q_asg, r_comp, r_range1, r_var, look_succ, look_zero, Option.map_some, bnd_some, hr, lockS, unlockS, hw, w, t_nm, List.set_cons_succ, List.set_cons_zero]),
    q_step (by rw [q_whl]; exact w2)]
  have e := idx_lst (ρ := ρ') (s := s') (j := 0) (d := tc t) p1 rfl
  have e : idxD (.ref ρ') (.int 0) s' = some (tupI t.code, s') := e
  simp [e]
end
end K
end Ev
end

section
set_option autoImplicit false
set_option maxRecDepth 100000
set_option linter.unusedVariables false
set_option linter.unusedSimpArgs false
open PySem L2
namespace Ev
/-- a loop with an invariant -/
theorem forL_inv {body : Env → Sto → Option ((Fl × Env) × Sto)} {t : T} {g : Src} (hg : g.keep = []) (Inv : Env → Sto → Prop) : ∀ (its : List D) (env : Env) (s : Sto),
    (∀ d ∈ its, ∀ env s, Inv env s → ∃ env1 env' s', setT t d env = some env1 ∧ body env1 s = some ((.nx, env'), s') ∧ Inv env' s') → Inv env s → ∃ env' s', forL body t g its env s = some ((.nx, env'), s') ∧ Inv env' s'
  | [], env, s, _, h => ⟨env, s, by simp [forL, Src.ok, hg], h⟩
  | d :: its, env, s, hb, h => by
    obtain ⟨env1, env', s', h1, h2, h3⟩ := hb d (List.mem_cons_self ..) env s h
    obtain ⟨env'', s'', w, h4⟩ := forL_inv hg Inv its env' s' (fun d hd => hb d (List.mem_cons_of_mem _ hd)) h3
    refine ⟨env'', s'', ?_, h4⟩
    rw [forL]
    simp only [Src.ok, hg, List.all_nil, if_true, h1, Option.bind_some]
    rw [h2]
    exact w
namespace K
/-! the plain law of rows -/
theorem keys_eq {t : Tr} {d e : Nat} {m m' : Rw} (R : IsRow d t m) (R' : IsRow e t m') (h : d ≤ e) : sortI (keysT m) = (sortI (keysT m')).filter fun x => decide ((many x : Int) ≤ (d : Int)) := by
  refine sorted_uniq (sortI_sorted _) ((sortI_sorted _).filter _) ?_
  refine (List.perm_ext_iff_of_nodup ?_ ?_).2 fun x => ?_
  · exact (sortI_perm _).nodup_iff.2 (nodup_keysT R.nodup)
  · exact ((sortI_perm _).nodup_iff.2 (nodup_keysT R'.nodup)).filter _
  · rw [List.mem_filter, (sortI_perm _).mem_iff, (sortI_perm _).mem_iff, mem_keysT R, mem_keysT R', decide_eq_true_eq]
    constructor
    · rintro ⟨p, rfl, h1, h2⟩
      exact ⟨⟨p, rfl, by omega, h2⟩, by rw [many_pc]; omega⟩
    · rintro ⟨⟨p, rfl, h1, h2⟩, h3⟩
      rw [many_pc] at h3
      exact ⟨p, rfl, by omega, h2⟩
theorem repr_rowOf {t : Tr} {d : Nat} {m : Rw} (R : IsRow d t m) (hd : d ≤ 10) (ht : t.size ≤ 12) (hL : t.Lab) : ∃ rr, ∀ s, reprD s (rowOf t (sortI (keysT m))) = some rr := by
  refine repr_row ?_ ?_
  · rw [List.length_map, (sortI_perm _).length_eq, keysT, List.length_map]
    have := R.len
    have h5 : 2 ^ t.size ≤ 2 ^ 12 := Nat.pow_le_pow_right (by decide) ht
    omega
  · intro p hp
    obtain ⟨x, hx, rfl⟩ := List.mem_map.mp hp
    have hx : x ∈ keysT m := (sortI_perm _).mem_iff.1 hx
    obtain ⟨q, rfl, h1, h2⟩ := (mem_keysT R).1 hx
    refine ⟨by have := pc_len q; simp only; omega, ?_, ?_⟩
    · intro i hi
      cases q with
      | none => cases hi
      | some u => exact lab_code (lab_cn hL h2) i hi
    · simp only [vf_pc]
      have := cnt_lt q t
      have h5 : 2 ^ t.size ≤ 2 ^ 12 := Nat.pow_le_pow_right (by decide) ht
      omega
def dgBody : List Ev.S := [.asg (.nm 12) (.comp [9] (.nm 9) (.seq (.bif .sorted [(.var 6)])) (.tup [(.var 9), (.idx (.var 6) (.var 9))]) (some (.cmp .LtE (.call (Str.ofString "_law_leaves") [(.var 9)]) (.var 7)))),
  .ite (.cmp .NotEq (.bif .repr [(.call (Str.ofString "row_of") [(.var 7), (.var 5)])]) (.bif .repr [(.bif .tuple [(.var 12)])])) [.ret (some (.lit (.bl false)))] []]
section
variable {s : Sto} {t : Tr} {m : Rw} {q : Nat}
theorem sorted_run (R : IsRow 5 t m) (ht : t.size ≤ 12) (hq : s[q]? = some (C.dct (dT m))) : bifD .sorted [.ref q] s = some (.ref s.length, s ++ [C.lst ((sortI (keysT m)).map tupI)]) := by
  have h5 : 2 ^ t.size ≤ 2 ^ 12 := Nat.pow_le_pow_right (by decide) ht
  have := R.len
  have h6 : (sortI (keysT m)).length ≤ 4096 := by rw [(sortI_perm _).length_eq, keysT, List.length_map]; omega
  simp only [bifD, hq, C.kvs, Option.bind_some, keys_dT', sortD_tups]
  rw [newL_le (by rw [List.length_map]; simp only [L]; omega)]
theorem dg_step {d : Nat} (h1 : 1 ≤ d) (h2 : d ≤ 3) (R : IsRow 5 t m) (ht : t.size ≤ 12) (hL : t.Lab) (hq : s[q]? = some (C.dct (dT m))) {o0 o1 o2 o3 o4 o8 o9 o10 o11 o12 : Option D} :
    ∃ o12' u, evSs (callD tb gl 59) gl dgBody [o0, o1, o2, o3, o4, some (tupI t.code), some (.ref q), some (.int (d : Nat)), o8, o9, o10, o11, o12] s =
      some ((.nx, [o0, o1, o2, o3, o4, some (tupI t.code), some (.ref q), some (.int (d : Nat)), o8, o9, o10, o11, o12']), s ++ u) := by
  have e4 := sorted_run R ht hq
  have h6 : (sortI (keysT m)).length ≤ 4096 := by
    have h5 : 2 ^ t.size ≤ 2 ^ 12 := Nat.pow_le_pow_right (by decide) ht
    have := R.len
    rw [(sortI_perm _).length_eq, keysT, List.length_map]; omega
  have hq1 := old_app (X := C.lst ((sortI (keysT m)).map tupI)) hq
  have hm4 : (s ++ [C.lst ((sortI (keysT m)).map tupI)])[s.length]? = some (C.lst ((sortI (keysT m)).map tupI)) := at_app
  have e5 : srcOf (.ref s.length) (s ++ [C.lst ((sortI (keysT m)).map tupI)]) = some ⟨(sortI (keysT m)).map tupI, [(s.length, C.lst ((sortI (keysT m)).map tupI))], none⟩ := by
    simp only [srcOf, hm4]
  have hcomp := compL_gen (elt := evE (callD tb gl 59) gl (.tup [(.var 9), (.idx (.var 6) (.var 9))])) (c := evC (callD tb gl 59) gl (some (.cmp .LtE (.call (Str.ofString "_law_leaves") [(.var 9)]) (.var 7)))) (t := .nm 9)
    (env := [o0, o1, o2, o3, o4, some (tupI t.code), some (.ref q), some (.int (d : Nat)), o8, none, o10, o11, o12])
    (g := ⟨(sortI (keysT m)).map tupI, [(s.length, C.lst ((sortI (keysT m)).map tupI))], none⟩) (S := s ++ [C.lst ((sortI (keysT m)).map tupI)])
    (by simp only [Src.ok, List.all_cons, List.all_nil, hm4, decide_true, Bool.and_self]) tupI (fun x => .tup [tupI x, .int (vf t x : Nat)]) (fun x => decide ((many x : Int) ≤ (d : Int))) (sortI (keysT m)) [] (fun x hx => by
      have hx : x ∈ keysT m := (sortI_perm _).mem_iff.1 hx
      obtain ⟨p, hp, hlk⟩ := lk_key R hx
      have hi := idx_dT hq1 rfl hlk
      rw [← hp] at hi
      have e6 : ∀ d S, newT S [tupI x, d] = some (.tup [tupI x, d], S) := fun d S => newT_le (by simp [L])
      have hlen : x.length ≤ 1000000 := by
        obtain ⟨p', hp', h1', _⟩ := (mem_keysT R).1 hx
        have := pc_len p'
        rw [hp']
        omega
      have l1 := lleaves_run (n := 58) (s := s ++ [C.lst ((sortI (keysT m)).map tupI)]) (xs := x) hlen
      refine ⟨_, t_nm, ?_, fun _ => ?_⟩
      · simp only [r_csome, r_cmp, r_call, r_cons, r_var, List.set_cons_succ, List.set_cons_zero, look_succ, look_zero, Option.map_some, bnd_some, r_nil, E.isStar, Bool.false_eq_true, if_false, l1, cmpD, cmpI]
      · simp only [r_tup, r_cons, r_var, List.set_cons_succ, List.set_cons_zero, look_succ, look_zero, Option.map_some, bnd_some, r_idx, hi, r_nil, E.isStar, Bool.false_eq_true, if_false, e6]) (by simp; omega)
  rw [List.nil_append] at hcomp
  have hw : wipeD [o0, o1, o2, o3, o4, some (tupI t.code), some (.ref q), some (.int (d : Nat)), o8, o9, o10, o11, o12] [9] = [o0, o1, o2, o3, o4, some (tupI t.code), some (.ref q), some (.int (d : Nat)), o8, none, o10, o11, o12] := rfl
  generalize hX : s ++ [C.lst ((sortI (keysT m)).map tupI)] = X at *
  obtain ⟨md, Rd, hrow⟩ := row_of_run (n := 56) (deg := d) (t := t) (s := X ++ [C.lst (((sortI (keysT m)).filter fun x => decide ((many x : Int) ≤ (d : Int))).map fun x => D.tup [tupI x, .int (vf t x : Nat)])]) (by omega) (by omega) (by omega)
  obtain ⟨rr, hrr⟩ := repr_rowOf Rd (by omega) ht hL
  have hk := keys_eq Rd R (by omega)
  have hdue : bifD .tuple [.ref X.length] (X ++ [C.lst (((sortI (keysT m)).filter fun x => decide ((many x : Int) ≤ (d : Int))).map fun x => D.tup [tupI x, .int (vf t x : Nat)])]) =
      some (rowOf t (sortI (keysT md)), X ++ [C.lst (((sortI (keysT m)).filter fun x => decide ((many x : Int) ≤ (d : Int))).map fun x => D.tup [tupI x, .int (vf t x : Nat)])]) := by
    simp only [bifD, at_app]
    rw [hk, rowOf, rowD, List.map_map]
    rfl
  refine ⟨some (.ref X.length), [C.lst ((sortI (keysT m)).map tupI)] ++ [C.lst (((sortI (keysT m)).filter fun x => decide ((many x : Int) ≤ (d : Int))).map fun x => D.tup [tupI x, .int (vf t x : Nat)])], ?_⟩
  rw [← List.append_assoc, hX]
  have hre : ∀ s, bifD .repr [rowOf t (sortI (keysT md))] s = some (.str rr, s) := fun s => by simp only [bifD, hrr, Option.map_some]
  simp only [dgBody, q_cons, q_asg, r_comp, r_seq, r_bif, r_cons, r_var, look_succ, look_zero, Option.map_some, bnd_some, r_nil, E.isStar, Bool.false_eq_true, if_false, e4, e5, hw, lockS, unlockS, hcomp, t_nm, List.set_cons_succ, List.set_cons_zero, q_ite, r_cmp, r_call, hrow, hdue, hre, cmpD, eqD_str, decide_true, Bool.not_true, q_nil]
end
end K
end Ev
end

section
set_option autoImplicit false
set_option maxRecDepth 100000
set_option linter.unusedVariables false
set_option linter.unusedSimpArgs false
open PySem L2
namespace Ev
namespace K
def deep : Nat := 60
theorem SrcE.lt {r i : Nat} {s : Sto} : SrcE r i s → r < s.length ∧ i < s.length := fun ⟨_, _, _, _, h⟩ => ⟨(List.getElem?_eq_some_iff.1 h.d).1, (List.getElem?_eq_some_iff.1 h.c).1⟩
theorem Fr.at {r i q : Nat} {s s' : Sto} {X : C} (h : Fr r i s s') (hq : s[q]? = some X) (h1 : q ≠ r) (h2 : q ≠ i) : s'[q]? = some X := by
  rw [h.2 q (List.getElem?_eq_some_iff.1 hq).1 h1 h2]; exact hq
def ctBody : List Ev.S := [.asg (.nm 9) (.call (Str.ofString "_law_tree") [(.var 1), (.var 10), (.bin .Add (.lit (.int (2))) (.call (Str.ofString "_law_pick") [(.var 1), (.lit (.int (4)))]))]),
  .ite (.cmp .NotEq (.bif .repr [(.call (Str.ofString "count_of") [(.var 9), (.var 5)])]) (.bif .repr [(.mth .get (.var 6) [(.var 9), (.lit (.int (0)))])])) [.ret (some (.lit (.bl false)))] []]
theorem cnt_small {p : Option Tr} {t : Tr} (ht : t.size ≤ 12) : cnt p t < 10 ^ 20 := by
  have := cnt_lt p t
  have h5 : 2 ^ t.size ≤ 2 ^ 12 := Nat.pow_le_pow_right (by decide) ht
  omega
theorem row_get {t : Tr} {m : Rw} (R : IsRow 5 t m) {p : Option Tr} (h : nl p ≤ 5) : (lkT m p).getD 0 = cnt p t := by
  have := R.wt p
  rw [if_pos h] at this
  exact this
section
variable {s : Sto} {t : Tr} {m : Rw} {q : Nat} {o0 o2 o3 o4 o7 o8 o9 o11 o12 : Option D} {k : Int}
theorem ct_step (k1 : 1 ≤ k) (k2 : k ≤ 1000) (R : IsRow 5 t m) (ht : t.size ≤ 12) (hs : SrcE 2 1 s) (hq : s[q]? = some (C.dct (dT m))) (q1 : q ≠ 2) (q2 : q ≠ 1) :
    ∃ o9' s', evSs (callD tb gl 59) gl ctBody [o0, some (.ref 2), o2, o3, o4, some (tupI t.code), some (.ref q), o7, o8, o9, some (.int k), o11, o12] s =
      some ((.nx, [o0, some (.ref 2), o2, o3, o4, some (tupI t.code), some (.ref q), o7, o8, o9', some (.int k), o11, o12]), s') ∧ SrcE 2 1 s' ∧ s'[q]? = some (C.dct (dT m)) := by
  obtain ⟨v, s1, hp, v0, v1, hs1, f1, _⟩ := pick_run (n := 58) (most := 4) (by decide) (by decide) hs
  obtain ⟨p, s2, htr, hLp, hsz, hs2, f2⟩ := tree_run (n := 57) (k := k) (lv := 2 + v) k1 k2 (by omega) (by omega) hs1
  have hq2 := (f1.trans f2).at hq q1 q2
  have hc := count_run' (t := t) (n := 59) (p := some p) (s := s2) (fun q hq => by cases hq; omega) (by omega) (by omega)
  have hg := get_dT (x := some p) hq2
  rw [row_get R (by simp only [nl]; omega)] at hg
  obtain ⟨rr, hrr⟩ := repr_int (i := ((cnt (some p) t : Nat) : Int)) (by have := cnt_small (p := some p) ht; omega)
  have hre : ∀ s, bifD .repr [.int ((cnt (some p) t : Nat) : Int)] s = some (.str rr, s) := fun s => by simp only [bifD, hrr, Option.map_some]
  have ok := ok_get hq2
  simp only [pc] at hc hg
  refine ⟨some (tupI p.code), s2, ?_, hs2, hq2⟩
  simp only [ctBody, q_cons, q_asg, r_call, r_cons, r_var, look_succ, look_zero, Option.map_some, bnd_some, r_bin, r_lit, r_nil, E.isStar, Bool.false_eq_true, if_false, hp, binD, htr, t_nm, List.set_cons_succ, List.set_cons_zero, q_ite, r_cmp, r_bif, hc, hre, r_mth, ok, if_true, hg, cmpD, eqD_str, decide_true, Bool.not_true, q_nil]
def lapBody : List Ev.S := [.asg (.tp [(.nm 10), (.nm 11)]) (.tup [(.bin .Add (.lit (.int (1))) (.call (Str.ofString "_law_pick") [(.var 1), (.lit (.int (2)))])), (.bin .Add (.lit (.int (7))) (.call (Str.ofString "_law_pick") [(.var 1), (.lit (.int (6)))]))]),
  .asg (.nm 4) (.call (Str.ofString "_law_pick") [(.var 1), (.lit (.int (4)))]),
  .asg (.nm 5) (.ite (.cmp .Lt (.var 4) (.lit (.int (2)))) (.call (Str.ofString "_law_comb") [(.var 1), (.var 10), (.var 11), (.var 4)]) (.call (Str.ofString "_law_tree") [(.var 1), (.var 10), (.var 11)])),
  .asg (.nm 6) (.call (Str.ofString "_law_counts") [(.lit (.int (5))), (.var 5)]),
  .for (.nm 7) (.seq (.tup [(.lit (.int (1))), (.lit (.int (2))), (.lit (.int (3)))])) dgBody,
  .for (.nm 8) (.range1 (.lit (.int (6)))) ctBody,
  .ite (.or (.cmp .NotEq (.call (Str.ofString "count_of") [(.var 5), (.var 5)]) (.lit (.int (1)))) (.cmp .Gt (.call (Str.ofString "count_of") [(.call (Str.ofString "_law_tree") [(.var 1), (.var 10), (.var 11)]), (.var 5)]) (.lit (.int (1))))) [.ret (some (.lit (.bl false)))] [],
  .asg (.nm 9) (.call (Str.ofString "_law_of") [(.var 1), (.bif .sorted [(.var 6)])]),
  .ite (.cmp .NotEq (.bif .repr [(.call (Str.ofString "count_of") [(.var 9), (.var 5)])]) (.bif .repr [(.idx (.var 6) (.var 9))])) [.ret (some (.lit (.bl false)))] []]
theorem lap_step {o1 o5 o6 o10 : Option D} (hs : SrcE 2 1 s) : ∃ e4 e5 e6 e7 e8 e9 e10 e11 e12 s', evSs (callD tb gl 59) gl lapBody [o0, some (.ref 2), o2, o3, o4, o5, o6, o7, o8, o9, o10, o11, o12] s =
      some ((.nx, [o0, some (.ref 2), o2, o3, e4, e5, e6, e7, e8, e9, e10, e11, e12]), s') ∧ SrcE 2 1 s' := by
  obtain ⟨a, s1, p1, a0, a1, hs1, _, _⟩ := pick_run (n := 58) (most := 2) (by decide) (by decide) hs
  obtain ⟨b, s2, p2, b0, b1, hs2, _, _⟩ := pick_run (n := 58) (most := 6) (by decide) (by decide) hs1
  obtain ⟨w, s3, p3, w0, w1, hs3, _, _⟩ := pick_run (n := 58) (most := 4) (by decide) (by decide) hs2
  -- the tree
  have htree : ∃ (t : Tr) (s4 : Sto), evE (callD tb gl 59) gl (.ite (.cmp .Lt (.var 4) (.lit (.int (2)))) (.call (Str.ofString "_law_comb") [(.var 1), (.var 10), (.var 11), (.var 4)]) (.call (Str.ofString "_law_tree") [(.var 1), (.var 10), (.var 11)]))
      [o0, some (.ref 2), o2, o3, some (.int w), o5, o6, o7, o8, o9, some (.int (1 + a)), some (.int (7 + b)), o12] s3 = some (tupI t.code, s4) ∧ t.Lab ∧ (t.size : Int) = 7 + b ∧ SrcE 2 1 s4 := by
    by_cases hw : w < 2
    · obtain ⟨t, s4, h1, h2, h3, h4, _⟩ := comb_run (n := 57) (k := 1 + a) (mny := 7 + b) (way := w) (by omega) (by omega) (by omega) (by omega) hs3
      exact ⟨t, s4, by simp [cmpD, cmpI, hw, h1, E.isStar], h2, h3, h4⟩
    · obtain ⟨t, s4, h1, h2, h3, h4, _⟩ := tree_run (n := 57) (k := 1 + a) (lv := 7 + b) (by omega) (by omega) (by omega) (by omega) hs3
      exact ⟨t, s4, by simp [cmpD, cmpI, hw, h1, E.isStar], h2, h3, h4⟩
  obtain ⟨t, s4, ht, hL, hsz, hs4⟩ := htree
  have ht12 : t.size ≤ 12 := by omega
  obtain ⟨q, m, u, hk, hqm, R, hqle⟩ := lcounts_run (deg := 5) (by decide) (by decide) t (n := 59) s4 (by omega) (by omega)
  have hk : callD tb gl 59 "_law_counts" [.int 5, tupI t.code] s4 = some (.ref q, s4 ++ u) := hk
  have hs5 : SrcE 2 1 (s4 ++ u) := hs4.app
  have hlt := hs4.lt
  have q1 : q ≠ 2 := by omega
  have q2 : q ≠ 1 := by omega
  -- the degrees
  have hdg : ∃ d7 d12 s6, evS (callD tb gl 59) gl (.for (.nm 7) (.seq (.tup [(.lit (.int (1))), (.lit (.int (2))), (.lit (.int (3)))])) dgBody) [o0, some (.ref 2), o2, o3, some (.int w), some (tupI t.code), some (.ref q), o7, o8, o9, some (.int (1 + a)), some (.int (7 + b)), o12] (s4 ++ u) =
      some ((.nx, [o0, some (.ref 2), o2, o3, some (.int w), some (tupI t.code), some (.ref q), d7, o8, o9, some (.int (1 + a)), some (.int (7 + b)), d12]), s6) ∧ SrcE 2 1 s6 ∧ s6[q]? = some (C.dct (dT m)) := by
    obtain ⟨env', s6, hf, d7, d12, rfl, h1, h2⟩ := forL_inv (body := evSs (callD tb gl 59) gl dgBody) (t := .nm 7) (g := ⟨[.int 1, .int 2, .int 3], [], none⟩) rfl
      (fun env s => ∃ d7 d12, env = [o0, some (.ref 2), o2, o3, some (.int w), some (tupI t.code), some (.ref q), d7, o8, o9, some (.int (1 + a)), some (.int (7 + b)), d12] ∧ SrcE 2 1 s ∧ s[q]? = some (C.dct (dT m)))
      [.int 1, .int 2, .int 3] [o0, some (.ref 2), o2, o3, some (.int w), some (tupI t.code), some (.ref q), o7, o8, o9, some (.int (1 + a)), some (.int (7 + b)), o12] (s4 ++ u) (fun d hd env s hI => by
        obtain ⟨d7, d12, rfl, hS, hQ⟩ := hI
        obtain ⟨dn, rfl, n1, n2⟩ : ∃ n : Nat, d = .int (n : Nat) ∧ 1 ≤ n ∧ n ≤ 3 := by
          simp only [List.mem_cons, List.not_mem_nil, or_false] at hd
          rcases hd with rfl | rfl | rfl
          · exact ⟨1, rfl, by decide, by decide⟩
          · exact ⟨2, rfl, by decide, by decide⟩
          · exact ⟨3, rfl, by decide, by decide⟩
        obtain ⟨d12', u', hb⟩ := dg_step (d := dn) n1 n2 R ht12 hL hQ (o0 := o0) (o1 := some (.ref 2)) (o2 := o2) (o3 := o3) (o4 := some (.int w)) (o8 := o8) (o9 := o9) (o10 := some (.int (1 + a))) (o11 := some (.int (7 + b))) (o12 := d12)
        exact ⟨_, _, _, t_nm, hb, some (.int (dn : Nat)), d12', rfl, hS.app, by rw [List.getElem?_append_left (List.getElem?_eq_some_iff.1 hQ).1]; exact hQ⟩) ⟨o7, o12, rfl, hs5, hqm⟩
    refine ⟨d7, d12, s6, ?_, h1, h2⟩
    have e1 : ∀ s, newT s [D.int 1, D.int 2, D.int 3] = some (.tup [.int 1, .int 2, .int 3], s) := fun s => rfl
    rw [q_for]
    simp only [r_seq, r_tup, r_cons, r_lit, bnd_some, r_nil, E.isStar, Bool.false_eq_true, if_false, e1, srcOf, Option.map_some, lockS, unlockS]
    rw [hf, bnd_some]
  obtain ⟨d7, d12, s6, hfor1, hs6, hq6⟩ := hdg
  -- the picks
  have hct : ∃ d8 d9 s7, evS (callD tb gl 59) gl (.for (.nm 8) (.range1 (.lit (.int (6)))) ctBody) [o0, some (.ref 2), o2, o3, some (.int w), some (tupI t.code), some (.ref q), d7, o8, o9, some (.int (1 + a)), some (.int (7 + b)), d12] s6 =
      some ((.nx, [o0, some (.ref 2), o2, o3, some (.int w), some (tupI t.code), some (.ref q), d7, d8, d9, some (.int (1 + a)), some (.int (7 + b)), d12]), s7) ∧ SrcE 2 1 s7 ∧ s7[q]? = some (C.dct (dT m)) := by
    have hr := srcRange_ok (lo := 0) (hi := 6) (by decide) (by decide) (by decide) (by decide)
    obtain ⟨env', s7, hf, d8, d9, rfl, h1, h2⟩ := forL_inv (body := evSs (callD tb gl 59) gl ctBody) (t := .nm 8) (g := ⟨(List.range (6 - 0 : Int).toNat).map fun i : Nat => D.int (0 + i), [], none⟩) rfl
      (fun env s => ∃ d8 d9, env = [o0, some (.ref 2), o2, o3, some (.int w), some (tupI t.code), some (.ref q), d7, d8, d9, some (.int (1 + a)), some (.int (7 + b)), d12] ∧ SrcE 2 1 s ∧ s[q]? = some (C.dct (dT m)))
      ((List.range (6 - 0 : Int).toNat).map fun i : Nat => D.int (0 + i)) [o0, some (.ref 2), o2, o3, some (.int w), some (tupI t.code), some (.ref q), d7, o8, o9, some (.int (1 + a)), some (.int (7 + b)), d12] s6 (fun d hd env s hI => by
        obtain ⟨d8, d9, rfl, hS, hQ⟩ := hI
        obtain ⟨d9', s', hb, h3, h4⟩ := ct_step (k := 1 + a) (by omega) (by omega) R ht12 hS hQ q1 q2 (o0 := o0) (o2 := o2) (o3 := o3) (o4 := some (.int w)) (o7 := d7) (o8 := some d) (o9 := d9) (o11 := some (.int (7 + b))) (o12 := d12)
        exact ⟨_, _, _, t_nm, hb, some d, d9', rfl, h3, h4⟩) ⟨o8, o9, rfl, hs6, hq6⟩
    refine ⟨d8, d9, s7, ?_, h1, h2⟩
    rw [q_for]
    simp only [r_range1, r_lit, bnd_some, hr, Option.map_some, lockS, unlockS]
    rw [hf, bnd_some]
  obtain ⟨d8, d9, s7, hfor2, hs7, hq7⟩ := hct
  -- itself, and one as great
  have c1 := count_run t (n := 59) (p := t) (s := s7) (by omega) (by omega) (by omega)
  rw [cn_same rfl, if_pos rfl] at c1
  have c1 : callD tb gl 59 "count_of" [tupI t.code, tupI t.code] s7 = some (.int 1, s7) := c1
  obtain ⟨t2, s8, hT, _, hsz2, hs8, f8⟩ := tree_run (n := 57) (k := 1 + a) (lv := 7 + b) (by omega) (by omega) (by omega) (by omega) hs7
  have hq8 := f8.at hq7 q1 q2
  have c2 := count_run t (n := 59) (p := t2) (s := s8) (by omega) (by omega) (by omega)
  have hle : ¬ (1 : Int) < ((cn t2 t : Nat) : Int) := by
    rw [cn_same (by omega)]
    split <;> decide
  -- one of its keys
  have e4 := sorted_run R ht12 hq8
  have hx0 : 0 < (sortI (keysT m)).length := by
    have : ([] : List Int) ∈ keysT m := (mem_keysT R).2 ⟨none, rfl, by simp [nl], by simp [cnt]⟩
    exact List.length_pos_of_mem ((sortI_perm _).mem_iff.2 this)
  have h6 : (sortI (keysT m)).length ≤ 4096 := by
    have h5 : 2 ^ t.size ≤ 2 ^ 12 := Nat.pow_le_pow_right (by decide) ht12
    have := R.len
    rw [(sortI_perm _).length_eq, keysT, List.length_map]; omega
  have hlt8 := hs8.lt
  obtain ⟨j, d, s9, hj, hof, hs9, f9⟩ := of_run (n := 57) (r := 2) (i := 1) (q := s8.length) (s := s8 ++ [C.lst ((sortI (keysT m)).map tupI)]) hs8.app at_app (by simpa using hx0) (by simp; omega) (by omega) (by omega)
  rw [List.getElem?_map] at hj
  obtain ⟨x, hx, rfl⟩ := Option.map_eq_some_iff.1 hj
  have hx : x ∈ keysT m := (sortI_perm _).mem_iff.1 (List.mem_of_getElem? hx)
  obtain ⟨p, rfl, n1, n2⟩ := (mem_keysT R).1 hx
  have hq9 := f9.at (old_app hq8) q1 q2
  have c3 := count_run' (t := t) (n := 59) (p := p) (s := s9) (fun q hq => by subst hq; simp only [nl] at n1; omega) (by omega) (by omega)
  have hi := idx_dT (x := p) (c := cnt p t) hq9 rfl (by rw [R.lk, if_pos ⟨n1, n2⟩])
  obtain ⟨rr, hrr⟩ := repr_int (i := ((cnt p t : Nat) : Int)) (by have := cnt_small (p := p) ht12; omega)
  have hre : ∀ s, bifD .repr [.int ((cnt p t : Nat) : Int)] s = some (.str rr, s) := fun s => by simp only [bifD, hrr, Option.map_some]
  refine ⟨some (.int w), some (tupI t.code), some (.ref q), d7, d8, some (tupI (pc p)), some (.int (1 + a)), some (.int (7 + b)), d12, s9, ?_, hs9⟩
  have m1 : ∀ s, newT s [D.int (1 + a), D.int (7 + b)] = some (.tup [.int (1 + a), .int (7 + b)], s) := fun s => rfl
  rw [lapBody, q_step (env' := [o0, some (.ref 2), o2, o3, o4, o5, o6, o7, o8, o9, some (.int (1 + a)), some (.int (7 + b)), o12]) (s' := s2) (by
      simp only [q_asg, r_tup, r_cons, r_bin, r_lit, r_call, r_var, look_succ, look_zero, Option.map_some, bnd_some, r_nil, E.isStar, Bool.false_eq_true, if_false, p1, p2, binD, m1, t_tp, t_cons, t_nm, t_nil, Option.bind_some, List.set_cons_succ, List.set_cons_zero]),
    q_step (env' := [o0, some (.ref 2), o2, o3, some (.int w), o5, o6, o7, o8, o9, some (.int (1 + a)), some (.int (7 + b)), o12]) (s' := s3) (by
      simp only [q_asg, r_cons, r_lit, r_call, r_var, look_succ, look_zero, Option.map_some, bnd_some, r_nil, E.isStar, Bool.false_eq_true, if_false, p3, t_nm, List.set_cons_succ, List.set_cons_zero]),
    q_step (env' := [o0, some (.ref 2), o2, o3, some (.int w), some (tupI t.code), o6, o7, o8, o9, some (.int (1 + a)), some (.int (7 + b)), o12]) (s' := s4) (by
      rw [q_asg, ht]; rfl),
    q_step (env' := [o0, some (.ref 2), o2, o3, some (.int w), some (tupI t.code), some (.ref q), o7, o8, o9, some (.int (1 + a)), some (.int (7 + b)), o12]) (s' := s4 ++ u) (by
      simp only [q_asg, r_cons, r_lit, r_call, r_var, look_succ, look_zero, Option.map_some, bnd_some, r_nil, E.isStar, Bool.false_eq_true, if_false, hk, t_nm, List.set_cons_succ, List.set_cons_zero]),
    q_step hfor1, q_step hfor2,
    q_step (env' := [o0, some (.ref 2), o2, o3, some (.int w), some (tupI t.code), some (.ref q), d7, d8, d9, some (.int (1 + a)), some (.int (7 + b)), d12]) (s' := s8) (by
      simp only [q_ite, r_or, r_cmp, r_cons, r_lit, r_call, r_var, look_succ, look_zero, Option.map_some, bnd_some, r_nil, E.isStar, Bool.false_eq_true, if_false, c1, cmpD, eqD_int, decide_true, Bool.not_true, hT, c2, cmpI, hle, decide_false, q_nil]),
    q_step (env' := [o0, some (.ref 2), o2, o3, some (.int w), some (tupI t.code), some (.ref q), d7, d8, some (tupI (pc p)), some (.int (1 + a)), some (.int (7 + b)), d12]) (s' := s9) (by
      simp only [q_asg, r_cons, r_bif, r_call, r_var, look_succ, look_zero, Option.map_some, bnd_some, r_nil, E.isStar, Bool.false_eq_true, if_false, e4, hof, t_nm, List.set_cons_succ, List.set_cons_zero]),
    q_step (env' := [o0, some (.ref 2), o2, o3, some (.int w), some (tupI t.code), some (.ref q), d7, d8, some (tupI (pc p)), some (.int (1 + a)), some (.int (7 + b)), d12]) (s' := s9) (by
      simp only [q_ite, r_cmp, r_cons, r_bif, r_call, r_idx, r_var, look_succ, look_zero, Option.map_some, bnd_some, r_nil, E.isStar, Bool.false_eq_true, if_false, c3, hi, hre, cmpD, eqD_str, decide_true, Bool.not_true, q_nil])]
  rw [q_nil]
end
def fullT : Tr := .node (.node (.node (.leaf 0) (.leaf 0)) (.node (.leaf 0) (.leaf 0))) (.node (.node (.leaf 0) (.leaf 0)) (.node (.leaf 0) (.leaf 0)))
theorem law_true : ∀ ns : List Int, ns.length ≤ 63 → callD tb gl deep "law" [.scr ns] [] = some (.bl true, []) := fun ns hns => by
  obtain ⟨sub, hop, hs, _⟩ := open_run (n := 58) hns
  have hr := srcRange_ok (lo := 0) (hi := 2) (by decide) (by decide) (by decide) (by decide)
  obtain ⟨env', s1, hf, o2, o4, o5, o6, o7, o8, o9, o10, o11, o12, rfl, hs1⟩ := forL_inv (body := evSs (callD tb gl 59) gl lapBody) (t := .nm 2) (g := ⟨(List.range (2 - 0 : Int).toNat).map fun i : Nat => D.int (0 + i), [], none⟩) rfl
    (fun env s => ∃ o2 o4 o5 o6 o7 o8 o9 o10 o11 o12, env = [some (.scr ns), some (.ref 2), o2, none, o4, o5, o6, o7, o8, o9, o10, o11, o12] ∧ SrcE 2 1 s)
    ((List.range (2 - 0 : Int).toNat).map fun i : Nat => D.int (0 + i)) [some (.scr ns), some (.ref 2), none, none, none, none, none, none, none, none, none, none, none] sub (fun d hd env s hI => by
      obtain ⟨o2, o4, o5, o6, o7, o8, o9, o10, o11, o12, rfl, hS⟩ := hI
      obtain ⟨e4, e5, e6, e7, e8, e9, e10, e11, e12, s', hb, h1⟩ := lap_step (o0 := some (.scr ns)) (o2 := some d) (o3 := none) (o4 := o4) (o5 := o5) (o6 := o6) (o7 := o7) (o8 := o8) (o9 := o9) (o10 := o10) (o11 := o11) (o12 := o12) (o1 := none) hS
      exact ⟨_, _, _, t_nm, hb, some d, e4, e5, e6, e7, e8, e9, e10, e11, e12, rfl, h1⟩) ⟨none, none, none, none, none, none, none, none, none, none, rfl, hs⟩
  have hfor : evS (callD tb gl 59) gl (.for (.nm 2) (.range1 (.lit (.int (2)))) lapBody) [some (.scr ns), some (.ref 2), none, none, none, none, none, none, none, none, none, none, none] sub = some ((.nx, [some (.scr ns), some (.ref 2), o2, none, o4, o5, o6, o7, o8, o9, o10, o11, o12]), s1) := by
    rw [q_for]
    simp only [r_range1, r_lit, bnd_some, hr, Option.map_some, lockS, unlockS]
    rw [hf, bnd_some]
  have f1 := count_run fullT (n := 59) (p := .node (.leaf 0) (.leaf 0)) (s := s1) (by decide) (by decide) (by decide)
  have f2 := count_run fullT (n := 59) (p := .node (.node (.leaf 0) (.leaf 0)) (.node (.leaf 0) (.leaf 0))) (s := s1) (by decide) (by decide) (by decide)
  have g1 : cn (.node (.leaf 0) (.leaf 0)) fullT = 28 := by decide
  have g2 : cn (.node (.node (.leaf 0) (.leaf 0)) (.node (.leaf 0) (.leaf 0))) fullT = 38 := by decide
  rw [g1] at f1
  rw [g2] at f2
  have b1 : ∀ s, newT s [D.int (-1), D.int 0, D.int 0] = some (tupI (Tr.node (.leaf 0) (.leaf 0)).code, s) := fun s => rfl
  have b2 : ∀ s, newT s [D.int (-1), D.int (-1), D.int 0, D.int 0, D.int (-1), D.int 0, D.int 0] = some (tupI (Tr.node (.node (.leaf 0) (.leaf 0)) (.node (.leaf 0) (.leaf 0))).code, s) := fun s => rfl
  have b3 : ∀ s, newT s [D.int (-1), D.int (-1), D.int (-1), D.int 0, D.int 0, D.int (-1), D.int 0, D.int 0, D.int (-1), D.int (-1), D.int 0, D.int 0, D.int (-1), D.int 0, D.int 0] = some (tupI fullT.code, s) := fun s => rfl
  refine callP (n := 59) tb_c_law rfl rfl (body_rt (s' := s1) (env := [some (.scr ns), some (.ref 2), o2, some (tupI fullT.code), o4, o5, o6, o7, o8, o9, o10, o11, o12]) ?_) rfl
  show evSs (callD tb gl 59) gl [.asg (.nm 1) (.call (Str.ofString "_law_open_cells") [(.var 0)]),
    .for (.nm 2) (.range1 (.lit (.int (2)))) lapBody,
    .asg (.nm 3) (.tup [(.neg (.lit (.int (1)))), (.neg (.lit (.int (1)))), (.neg (.lit (.int (1)))), (.lit (.int (0))), (.lit (.int (0))), (.neg (.lit (.int (1)))), (.lit (.int (0))), (.lit (.int (0))), (.neg (.lit (.int (1)))), (.neg (.lit (.int (1)))), (.lit (.int (0))), (.lit (.int (0))), (.neg (.lit (.int (1)))), (.lit (.int (0))), (.lit (.int (0)))]),
    .ret (some (.and (.cmp .Eq (.call (Str.ofString "count_of") [(.tup [(.neg (.lit (.int (1)))), (.lit (.int (0))), (.lit (.int (0)))]), (.var 3)]) (.lit (.int (28)))) (.cmp .Eq (.call (Str.ofString "count_of") [(.tup [(.neg (.lit (.int (1)))), (.neg (.lit (.int (1)))), (.lit (.int (0))), (.lit (.int (0))), (.neg (.lit (.int (1)))), (.lit (.int (0))), (.lit (.int (0)))]), (.var 3)]) (.lit (.int (38))))))]
    [some (.scr ns), none, none, none, none, none, none, none, none, none, none, none, none] [] = _
  rw [q_step (env' := [some (.scr ns), some (.ref 2), none, none, none, none, none, none, none, none, none, none, none]) (s' := sub) (by
      simp only [q_asg, r_cons, r_call, r_var, look_succ, look_zero, Option.map_some, bnd_some, r_nil, E.isStar, Bool.false_eq_true, if_false, hop, t_nm, List.set_cons_succ, List.set_cons_zero]),
    q_step hfor,
    q_step (env' := [some (.scr ns), some (.ref 2), o2, some (tupI fullT.code), o4, o5, o6, o7, o8, o9, o10, o11, o12]) (s' := s1) (by
      simp only [q_asg, r_tup, r_cons, r_neg, r_lit, bnd_some, r_nil, E.isStar, Bool.false_eq_true, if_false, b3, Option.map_some, t_nm, List.set_cons_succ, List.set_cons_zero])]
  simp only [q_cons, q_ret, r_and, r_cmp, r_call, r_tup, r_cons, r_neg, r_lit, r_var, look_succ, look_zero, Option.map_some, bnd_some, r_nil, E.isStar, Bool.false_eq_true, if_false, b1, b2, f1, f2, cmpD, eqD_int]
  rfl
end K
end Ev
end

open PySem PySem.W PyProof.Rows
set_option maxRecDepth 100000 in
set_option maxHeartbeats 0 in
theorem PySem.Challenge.cw_ruledtrees_k11_counts_of_great_trees_holds : PySem.Challenge.rw_ruledtrees_k11_counts_of_great_trees.Holds := by
  w_on; o_law; k_head; (case hw => w_witness2)
  k_fill
  refine Ev.walkEv (tb := Ev.K.tb) (gl := Ev.K.gl) (own := Ev.K.own) (gls := Ev.K.gls) (n := Ev.K.deep) (l := PySem.Challenge.rw_ruledtrees_k11_counts_of_great_trees) rfl rfl rfl (fun w h Y => PySem.W.kIn_of Y) ?T (by decide +kernel) ⟨rfl, by decide, by decide⟩ Ev.K.law_true
  case T =>
    intro w mg h KX G
    refine' Ev.K.tab_mk KX G ?a0 ?l0 ?c0 ?k0 ?a1 ?l1 ?c1 ?k1 ?a2 ?l2 ?c2 ?k2 ?a3 ?l3 ?c3 ?k3 ?a4 ?l4 ?c4 ?k4 ?a5 ?l5 ?c5 ?k5 ?a6 ?l6 ?c6 ?k6 ?a7 ?l7 ?c7 ?k7 ?a8 ?l8 ?c8 ?k8 ?a9 ?l9 ?c9 ?k9 ?a10 ?l10 ?c10 ?k10 ?a11 ?l11 ?c11 ?k11 ?a12 ?l12 ?c12 ?k12 ?a13 ?l13 ?c13 ?k13 ?a14 ?l14 ?c14 ?k14 ?a15 ?l15 ?c15 ?k15 ?a16 ?l16 ?c16 ?k16 ?a17 ?l17 ?c17 ?k17 ?z0 ?z1 ?z2 ?z3 ?z4 ?z5 ?z6 ?z7 ?z8 ?z9 ?z10 ?z11 ?z12
    (case a0 => k_is); (case l0 => k_is); (case c0 => k_is); (case k0 => k_is)
    (case a1 => k_is); (case l1 => k_is); (case c1 => k_is); (case k1 => k_is)
    (case a2 => k_is); (case l2 => k_is); (case c2 => k_is); (case k2 => k_is)
    (case a3 => k_is); (case l3 => k_is); (case c3 => k_is); (case k3 => k_is)
    (case a4 => k_is); (case l4 => k_is); (case c4 => k_is); (case k4 => k_is)
    (case a5 => k_is); (case l5 => k_is); (case c5 => k_is); (case k5 => k_is)
    (case a6 => k_is); (case l6 => k_is); (case c6 => k_is); (case k6 => k_is)
    (case a7 => k_is); (case l7 => k_is); (case c7 => k_is); (case k7 => k_is)
    (case a8 => k_is); (case l8 => k_is); (case c8 => k_is); (case k8 => k_is)
    (case a9 => k_is); (case l9 => k_is); (case c9 => k_is); (case k9 => k_is)
    (case a10 => k_is); (case l10 => k_is); (case c10 => k_is); (case k10 => k_is)
    (case a11 => k_is); (case l11 => k_is); (case c11 => k_is); (case k11 => k_is)
    (case a12 => k_is); (case l12 => k_is); (case c12 => k_is); (case k12 => k_is)
    (case a13 => k_is); (case l13 => k_is); (case c13 => k_is); (case k13 => k_is)
    (case a14 => k_is); (case l14 => k_is); (case c14 => k_is); (case k14 => k_is)
    (case a15 => k_is); (case l15 => k_is); (case c15 => k_is); (case k15 => k_is)
    (case a16 => k_is); (case l16 => k_is); (case c16 => k_is); (case k16 => k_is)
    (case a17 => k_is); (case l17 => k_is); (case c17 => k_is); (case k17 => k_is)
    (case z0 => k_is)
    (case z1 => k_is)
    (case z2 => k_is)
    (case z3 => k_is)
    (case z4 => k_is)
    (case z5 => k_is)
    (case z6 => k_is)
    (case z7 => k_is)
    (case z8 => k_is)
    (case z9 => k_is)
    (case z10 => k_is)
    (case z11 => k_is)
    (case z12 => k_is)
