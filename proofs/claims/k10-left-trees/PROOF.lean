import PyProof.Rows.All
import HandS.ForMost
import KE.SortData
import KE.KeyNested
import HandS.Star
import HandS.Wide
import HandS.Style
import HandS.TupAny
import KE.KDictKeyed
import PyProof.ReprReads
import KE.LtData
import PyProof.NeData
import HandS.Iter
import HandS.Conv
import HandS.SortKw
import KE.KDictPairs
import HandS.NoneIn
import KE.KDictDisplayH
import HandS.Words
import HandS.Ends
import PyProof.ReprLen
import PyProof.FitsInt
import PySem.Challenge.RW_ruledtrees_k10_whole_counts_of_left_tree
set_option autoImplicit false
set_option Elab.async false
set_option linter.all false
section
set_option autoImplicit false
/-! Ev0: data, cells, a small syntax, its evaluator -/
namespace Ev
open PySem

/-- a value: tuples are data, lists and dicts stand in the store -/
inductive D where
  | non | bl (b : Bool) | int (i : Int) | str (x : Str) | tup (ds : List D) | ref (i : Nat)
  /-- a list of ints that is only read (the script) -/
  | scr (is : List Int)
deriving Inhabited

/-- a cell of the store -/
inductive C where
  | lst (ds : List D)
  | dct (kvs : List (D × D))
  /-- a dict while a loop goes over it: read, not written -/
  | lck (kvs : List (D × D))
deriving Inhabited
/-- a dict to be read -/
def C.kvs : C → Option (List (D × D))
  | .lst _ => none
  | .dct kvs => some kvs
  | .lck kvs => some kvs
abbrev Sto := List C
abbrev Env := List (Option D)

/-- built-ins by name -/
inductive B where
  | len | int | abs | tuple | list | sorted | sum | all | any | max | min | repr | str | dict | range | zip | enumerate | items | values
deriving DecidableEq, Repr
/-- methods of lists and dicts -/
inductive Mt where
  | append | extend | pop | get | index
deriving DecidableEq, Repr

inductive T where
  | nm (i : Nat) | tp (ts : List T)

mutual
inductive E where
  | var (i : Nat)
  | lit (d : D)
  | gl (x : Str)
  | tup (es : List E)
  | lst (es : List E)
  | star (e : E)
  | dct (kvs : List E)
  | bin (op : Operator) (a b : E)
  | neg (a : E)
  | not (a : E)
  | cmp (op : CmpOp) (a b : E)
  | cmp2 (op op' : CmpOp) (a b c : E)
  | and (a b : E)
  | or (a b : E)
  | ite (c a b : E)
  | idx (a i : E)
  | slc (a : E) (lo hi : Option E)
  | rev (a : E)
  | call (f : Str) (es : List E)
  | bif (f : B) (es : List E)
  | bifI (f : B) (it : It)
  | mth (m : Mt) (o : E) (es : List E)
  | isi (e : E) (ty : List String)
  | comp (own : List Nat) (t : T) (it : It) (elt : E) (c : Option E)
inductive It where
  | seq (e : E)
  | range1 (a : E)
  | range2 (a b : E)
  | items (a : E)
  | zip (a b : E)
  | enum (a : E)
end
instance : Inhabited E := ⟨.lit .non⟩
def E.isStar : E → Bool
  | .star _ => true
  | _ => false

inductive S where
  | asg (t : T) (e : E)
  | seti (o i v : E)
  | ex (e : E)
  | ret (e : Option E)
  | ite (c : E) (a b : List S)
  | whl (c : E) (b : List S)
  | for (t : T) (it : It) (b : List S)
  | brk | cnt | pass | stuck
deriving Inhabited

structure Fd where
  params : Nat
  slots : Nat
  body : List S

end Ev
end

section
set_option autoImplicit false
namespace Ev
open PySem

def L : Nat := 16777216

/-! equality of values as terms -/
mutual
def D.same : D → D → Bool
  | .non, .non => true
  | .bl a, .bl b => a == b
  | .int a, .int b => a == b
  | .str a, .str b => decide (a = b)
  | .tup a, .tup b => D.sames a b
  | .ref a, .ref b => a == b
  | .scr a, .scr b => decide (a = b)
  | _, _ => false
def D.sames : List D → List D → Bool
  | [], [] => true
  | a :: as, b :: bs => a.same b && D.sames as bs
  | _, _ => false
end
mutual
theorem D.same_iff : ∀ a b : D, a.same b = true ↔ a = b
  | .non, b => by cases b <;> simp [D.same]
  | .bl a, b => by cases b <;> simp [D.same]
  | .int a, b => by cases b <;> simp [D.same]
  | .str a, b => by cases b <;> simp [D.same]
  | .tup a, b => by
    cases b <;> simp only [D.same, reduceCtorEq, Bool.false_eq_true, D.tup.injEq]
    exact D.sames_iff a _
  | .ref a, b => by cases b <;> simp [D.same]
  | .scr a, b => by cases b <;> simp [D.same]
theorem D.sames_iff : ∀ a b : List D, D.sames a b = true ↔ a = b
  | [], b => by cases b <;> simp [D.sames]
  | a :: as, b => by
    cases b with
    | nil => simp [D.sames]
    | cons b bs => simp [D.sames, D.same_iff a b, D.sames_iff as bs]
end
instance : DecidableEq D := fun a b => if h : a.same b = true then isTrue ((D.same_iff a b).1 h) else isFalse fun e => h ((D.same_iff a b).2 e)
instance : DecidableEq C := fun a b => match a, b with
  | .lst x, .lst y => if h : x = y then isTrue (by rw [h]) else isFalse fun e => h (C.lst.inj e)
  | .dct x, .dct y => if h : x = y then isTrue (by rw [h]) else isFalse fun e => h (C.dct.inj e)
  | .lck x, .lck y => if h : x = y then isTrue (by rw [h]) else isFalse fun e => h (C.lck.inj e)
  | .lst _, .dct _ => isFalse nofun
  | .lst _, .lck _ => isFalse nofun
  | .dct _, .lst _ => isFalse nofun
  | .dct _, .lck _ => isFalse nofun
  | .lck _, .lst _ => isFalse nofun
  | .lck _, .dct _ => isFalse nofun

mutual
/-- no reference within -/
def D.pure : D → Bool
  | .ref _ => false
  | .tup ds => D.pures ds
  | _ => true
def D.pures : List D → Bool
  | [] => true
  | d :: ds => d.pure && D.pures ds
end
mutual
def D.shift (n : Nat) : D → D
  | .ref i => .ref (n + i)
  | .tup ds => .tup (D.shifts n ds)
  | .non => .non | .bl b => .bl b | .int i => .int i | .str x => .str x | .scr is => .scr is
def D.shifts (n : Nat) : List D → List D
  | [] => []
  | d :: ds => d.shift n :: D.shifts n ds
end
def C.shift (n : Nat) : C → C
  | .lst ds => .lst (ds.map (D.shift n))
  | .dct kvs => .dct (kvs.map fun kv => (kv.1.shift n, kv.2.shift n))
  | .lck kvs => .lck (kvs.map fun kv => (kv.1.shift n, kv.2.shift n))

/-! as data -/
mutual
def D.dataW (r : Nat → Option PyData) : D → Option PyData
  | .non => some .none
  | .bl b => some (.bool b)
  | .int i => some (.int i)
  | .str x => some (.str x)
  | .tup ds => (D.dataWs r ds).map .tuple
  | .ref i => r i
  | .scr _ => none
def D.dataWs (r : Nat → Option PyData) : List D → Option (List PyData)
  | [] => some []
  | d :: ds => (d.dataW r).bind fun x => (D.dataWs r ds).map fun xs => x :: xs
end
def refData (s : Sto) : Nat → Nat → Option PyData
  | 0, _ => none
  | n + 1, i => match s[i]? with
    | some (.lst ds) => (D.dataWs (refData s n) ds).map .list
    | some c => c.kvs.bind fun kvs => if kvs.isEmpty then some (.dict []) else none
    | none => none
def D.data (s : Sto) (d : D) : Option PyData := d.dataW (refData s 40)
def dataAll (s : Sto) (ds : List D) : Option (List PyData) := D.dataWs (refData s 40) ds

def deepMost : Nat := 100
/-- two lists of unlike lengths -/
def farL (s : Sto) (a b : D) : Bool := match a, b with
  | .ref i, .ref j => match s[i]?, s[j]? with
    | some (.lst x), some (.lst y) => !(x.length == y.length)
    | _, _ => false
  | _, _ => false
/-- a == b -/
def twoStr : D → D → Option (Str × Str)
  | .str x, .str y => some (x, y)
  | _, _ => none
def eqD (s : Sto) (a b : D) : Option Bool :=
  match twoStr a b with
  | some (x, y) => some (decide (x = y))
  | none =>
  if farL s a b then some false else
  (a.data s).bind fun x => (b.data s).bind fun y => if x.canLay0 && y.canLay0 && decide (min x.depth y.depth ≤ deepMost) then some (x.eqv y) else none
def notNone : PyData → Bool
  | .none => false
  | _ => true
/-- a < b -/
def ltD (s : Sto) (a b : D) : Option Bool :=
  (a.data s).bind fun x => (b.data s).bind fun y => if PySem.W.alike x y && notNone x && decide (min x.depth y.depth ≤ deepMost) then some (PySem.W.dataLt x y) else none
def reprD (s : Sto) (d : D) : Option Str :=
  (d.data s).bind fun x => if x.showable && !x.hasDict && decide (x.depth ≤ deepMost) && decide (x.shown.length ≤ L) then some x.shown else none
/-- sorted -/
def sortD (s : Sto) (ds : List D) : Option (List D) :=
  (dataAll s ds).bind fun xs => if xs.all (fun x => xs.all fun y => PySem.W.alike x y) && xs.all notNone && xs.all (fun x => decide (x.depth ≤ deepMost)) then
    some (((ds.zip xs).mergeSort fun p q => !PySem.W.dataLt q.2 p.2).map (·.1)) else none

/-! dicts: keys are ints and texts, or tuples of such -/
def atomK : D → Bool
  | .int _ => true
  | .str _ => true
  | _ => false
mutual
/-- a value as a key -/
def D.nk : D → Option NestedKey
  | .non => some .none
  | .int i => some (.num i)
  | .str x => some (.text x)
  | .tup ds => (D.nks ds).map .tup
  | .bl _ => none
  | .ref _ => none
  | .scr _ => none
def D.nks : List D → Option (List NestedKey)
  | [] => some []
  | d :: ds => (D.nk d).bind fun k => (D.nks ds).map fun ks => k :: ks
end
def tupK : D → Bool
  | .tup ds => match D.nks ds with
    | some ks => decide ((NestedKey.tup ks).depth ≤ 8)
    | none => false
  | _ => false
/-- the key fits the dict -/
def keyFits (kvs : List (D × D)) (k : D) : Bool := (atomK k && kvs.all fun kv => atomK kv.1) || (tupK k && kvs.all fun kv => tupK kv.1)
def dget (kvs : List (D × D)) (k : D) : Option D := (kvs.find? fun kv => decide (kv.1 = k)).map (·.2)
def dput (kvs : List (D × D)) (k v : D) : List (D × D) :=
  if (kvs.any fun kv => decide (kv.1 = k)) = true then kvs.map (fun kv => if kv.1 = k then (kv.1, v) else kv) else kvs ++ [(k, v)]

/-! operators -/
def mulOk (i j : Int) : Bool := decide (i.natAbs.log2 + j.natAbs.log2 < 1000000) || decide (i.natAbs < 2 ^ 64) || decide (j.natAbs < 2 ^ 64)
def divOk (j : Int) : Bool := decide (j ≠ 0) && decide (j.natAbs.log2 < 9000)
def newL (s : Sto) (ds : List D) : Option (D × Sto) := if ds.length ≤ L then some (.ref s.length, s ++ [.lst ds]) else none
def newT (s : Sto) (ds : List D) : Option (D × Sto) := if ds.length ≤ L then some (.tup ds, s) else none

def binD (op : Operator) (x y : D) (s : Sto) : Option (D × Sto) :=
  match op, x, y with
  | .Add, .int i, .int j => some (.int (i + j), s)
  | .Sub, .int i, .int j => some (.int (i - j), s)
  | .Mult, .int i, .int j => if mulOk i j then some (.int (i * j), s) else none
  | .FloorDiv, .int i, .int j => if divOk j then some (.int (i.fdiv j), s) else none
  | .Mod, .int i, .int j => if divOk j then some (.int (i.fmod j), s) else none
  | .Add, .tup a, .tup b => newT s (a ++ b)
  | .Add, .str a, .str b => if (a ++ b).length ≤ L then some (.str (a ++ b), s) else none
  | .Add, .ref i, .ref j => match s[i]?, s[j]? with
    | some (.lst a), some (.lst b) => newL s (a ++ b)
    | _, _ => none
  | _, _, _ => none

def cmpI (op : CmpOp) (i j : Int) : Option Bool :=
  match op with
  | .Lt => some (decide (i < j))
  | .LtE => some (decide (i ≤ j))
  | .Gt => some (decide (j < i))
  | .GtE => some (decide (j ≤ i))
  | .Eq => some (decide (i = j))
  | .NotEq => some (!decide (i = j))
  | _ => none
def inSeq (s : Sto) (x : D) (ds : List D) : Option Bool :=
  (dataAll s ds).bind fun ys => (x.data s).bind fun dx => if dx.canLay0 && ys.all (fun y => y.canLay0 && decide (min y.depth dx.depth ≤ deepMost)) then some (ys.any fun y => y.eqv dx) else none
def inD (s : Sto) (x y : D) : Option Bool :=
  match y with
  | .tup ds => inSeq s x ds
  | .ref i => match s[i]? with
    | some (.lst ds) => inSeq s x ds
    | some c => c.kvs.bind fun kvs => if keyFits kvs x then some (dget kvs x).isSome else none
    | none => none
  | _ => none
def cmpD (op : CmpOp) (x y : D) (s : Sto) : Option Bool :=
  match op with
  | .Eq => eqD s x y
  | .NotEq => (eqD s x y).map (!·)
  | .Is => match y with
    | .non => some (decide (x = .non))
    | _ => none
  | .IsNot => match y with
    | .non => some (!decide (x = .non))
    | _ => none
  | .In => inD s x y
  | .NotIn => (inD s x y).map (!·)
  | op => match x, y with
    | .int i, .int j => cmpI op i j
    | .tup _, .tup _ => match op with
      | .Lt => ltD s x y
      | _ => none
    | _, _ => none

def ixD (n : Nat) (i : Int) : Option Nat := L2.ixN n i
def atD (ds : List D) (i : Int) : Option D := L2.atI ds i
def idxD (x y : D) (s : Sto) : Option (D × Sto) :=
  match x, y with
  | .tup ds, .int i => (atD ds i).map (·, s)
  | .ref r, k => match s[r]? with
    | some (.lst ds) => match k with
      | .int i => (atD ds i).map (·, s)
      | _ => none
    | some c => c.kvs.bind fun kvs => if keyFits kvs k then (dget kvs k).map (·, s) else none
    | none => none
  | _, _ => none
def cutD (ds : List D) (lo hi : Option Int) : List D := (ds.drop (HT.sIx ds.length 0 lo)).take (HT.sIx ds.length ds.length hi - HT.sIx ds.length 0 lo)
def slcD (x : D) (lo hi : Option Int) (s : Sto) : Option (D × Sto) :=
  match x with
  | .tup ds => some (.tup (cutD ds lo hi), s)
  | .ref r => match s[r]? with
    | some (.lst ds) => newL s (cutD ds lo hi)
    | _ => none
  | _ => none
def revD (x : D) (s : Sto) : Option (D × Sto) :=
  match x with
  | .tup ds => some (.tup ds.reverse, s)
  | .ref r => match s[r]? with
    | some (.lst ds) => newL s ds.reverse
    | _ => none
  | _ => none
/-- the items of a list or a tuple -/
def itemsD (x : D) (s : Sto) : Option (List D) :=
  match x with
  | .tup ds => some ds
  | .ref r => match s[r]? with
    | some (.lst ds) => some ds
    | _ => none
  | _ => none
def intsD : List D → Option (List Int)
  | [] => some []
  | .int i :: ds => (intsD ds).map (i :: ·)
  | _ => none
def boolsD : List D → Option (List Bool)
  | [] => some []
  | .bl b :: ds => (boolsD ds).map (b :: ·)
  | _ => none
/-- the items as pairs -/
def pairsD : List D → Option (List (D × D))
  | [] => some []
  | .tup [k, v] :: ds => (pairsD ds).map ((k, v) :: ·)
  | _ => none
/-- stored one behind the other -/
def putAll : List (D × D) → List (D × D) → Option (List (D × D))
  | acc, [] => some acc
  | acc, p :: ps => if keyFits acc p.1 then putAll (dput acc p.1 p.2) ps else none
def dictOf (ds : List D) (s : Sto) : Option (D × Sto) := if ds.length ≤ L then (pairsD ds).bind fun ps => (putAll [] ps).map fun kvs => (.ref s.length, s ++ [.dct kvs]) else none
def bifD (f : B) (xs : List D) (s : Sto) : Option (D × Sto) :=
  match f, xs with
  | .dict, [.tup ds] => dictOf ds s
  | .dict, [.ref r] => match s[r]? with
    | some (.lst ds) => dictOf ds s
    | _ => none
  | .len, [.tup ds] => some (.int ds.length, s)
  | .len, [.ref r] => match s[r]? with
    | some (.lst ds) => some (.int ds.length, s)
    | some c => c.kvs.map fun kvs => (.int kvs.length, s)
    | none => none
  | .int, [.int i] => some (.int i, s)
  | .int, [.bl b] => some (.int (if b then 1 else 0), s)
  | .abs, [.int i] => some (.int i.natAbs, s)
  | .tuple, [.tup ds] => some (.tup ds, s)
  | .tuple, [.ref r] => match s[r]? with
    | some (.lst ds) => some (.tup ds, s)
    | _ => none
  | .list, [x] => (itemsD x s).bind (newL s)
  | .sorted, [.ref r] => match s[r]? with
    | some (.lst ds) => (sortD s ds).bind (newL s)
    | some c => c.kvs.bind fun kvs => (sortD s (kvs.map (·.1))).bind (newL s)
    | none => none
  | .sorted, [.tup ds] => (sortD s ds).bind (newL s)
  | .sum, [.ref r] => match s[r]? with
    | some (.lst ds) => (intsD ds).map fun is => (.int is.sum, s)
    | _ => none
  | .all, [.ref r] => match s[r]? with
    | some (.lst ds) => (boolsD ds).map fun bs => (.bl (bs.all id), s)
    | _ => none
  | .any, [.ref r] => match s[r]? with
    | some (.lst ds) => (boolsD ds).map fun bs => (.bl (bs.any id), s)
    | _ => none
  | .max, [.int i, .int j] => some (.int (if i < j then j else i), s)
  | .min, [.int i, .int j] => some (.int (if j < i then j else i), s)
  | .repr, [x] => (reprD s x).map (.str ·, s)
  | _, _ => none
def mthD (m : Mt) (x : D) (xs : List D) (s : Sto) : Option (D × Sto) :=
  match x with
  | .ref r => match m, xs, s[r]? with
    | .append, [d], some (.lst ds) => if ds.length < L then some (.non, s.set r (.lst (ds ++ [d]))) else none
    | .extend, [.ref q], some (.lst ds) => match s[q]? with
      | some (.lst es) => if ds.length + es.length ≤ L then some (.non, s.set r (.lst (ds ++ es))) else none
      | _ => none
    | .pop, [], some (.lst ds) => ds.getLast?.map fun d => (d, s.set r (.lst ds.dropLast))
    | .pop, [.int i], some (.lst ds) => (ixD ds.length i).bind fun j => ds[j]?.map fun d => (d, s.set r (.lst (ds.eraseIdx j)))
    | .get, [k, d], some c => c.kvs.bind fun kvs => if keyFits kvs k then some ((dget kvs k).getD d, s) else none
    | _, _, _ => none
  | _ => none
/-- the receiver is of the method's type -/
def mthOk (m : Mt) (x : D) (s : Sto) : Bool :=
  match x with
  | .ref r => match s[r]? with
    | some (.lst _) => match m with
      | .append => true
      | .extend => true
      | .pop => true
      | _ => false
    | some _ => match m with
      | .get => true
      | _ => false
    | none => false
  | _ => false
def setD (x k v : D) (s : Sto) : Option Sto :=
  match x with
  | .ref r => match s[r]?, k with
    | some (.lst ds), .int i => (ixD ds.length i).map fun j => s.set r (.lst (ds.set j v))
    | some (.dct kvs), k => if keyFits kvs k && decide (kvs.length < L) then some (s.set r (.dct (dput kvs k v))) else none
    | _, _ => none
  | _ => none

/-! sources of loops: the items, which lists must stay as they are, the dict that is locked meanwhile -/
structure Src where
  items : List D
  keep : List (Nat × C)
  lock : Option Nat
def Src.ok (g : Src) (s : Sto) : Bool := g.keep.all fun p => decide (s[p.1]? = some p.2)
def lockS (g : Src) (s : Sto) : Sto := match g.lock with
  | none => s
  | some r => match s[r]? with
    | some (.dct kvs) => s.set r (.lck kvs)
    | _ => s
/-- s₀: ahead of the loop -/
def unlockS (g : Src) (s₀ s : Sto) : Sto := match g.lock with
  | none => s
  | some r => match s₀[r]? with
    | some c => s.set r c
    | none => s
def srcOf (x : D) (s : Sto) : Option Src :=
  match x with
  | .tup ds => some ⟨ds, [], none⟩
  | .scr is => some ⟨is.map .int, [], none⟩
  | .ref r => match s[r]? with
    | some (.lst ds) => some ⟨ds, [(r, .lst ds)], none⟩
    | some c => c.kvs.map fun kvs => ⟨kvs.map (·.1), [], some r⟩
    | none => none
  | _ => none
def srcItems (x : D) (s : Sto) : Option Src :=
  match x with
  | .ref r => (s[r]?).bind fun c => c.kvs.map fun kvs => ⟨kvs.map fun kv => .tup [kv.1, kv.2], [], some r⟩
  | _ => none
def srcRange (lo hi : Int) : Option Src :=
  if -(2 ^ 62) ≤ lo ∧ lo < 2 ^ 62 ∧ -(2 ^ 62) ≤ hi ∧ hi < 2 ^ 62 then some ⟨(List.range (hi - lo).toNat).map fun i : Nat => D.int (lo + i), [], none⟩ else none
/-- lists and tuples alone -/
def seqOnly (g : Src) : Option Src := if g.lock.isNone then some g else none
def srcZip (a b : Src) : Src := ⟨(a.items.zip b.items).map fun p => .tup [p.1, p.2], a.keep ++ b.keep, none⟩
def srcEnum (a : Src) : Src := ⟨a.items.mapIdx fun i d => .tup [.int i, d], a.keep, none⟩

def D.spl : D → List D
  | .tup ds => ds
  | _ => []
def pairUp : List (D × D) → List D → Option (List (D × D))
  | acc, [] => some acc
  | acc, k :: v :: r => if keyFits acc k && decide (acc.length < 15) then pairUp (dput acc k v) r else none
  | _, _ => none
def isiD (x : D) (ty : List String) (s : Sto) : Option Bool :=
  match x with
  | .non => some false
  | .bl _ => some (ty.contains "bool" || ty.contains "int")
  | .int _ => some (ty.contains "int")
  | .str _ => some (ty.contains "str")
  | .tup _ => some (ty.contains "tuple")
  | .scr _ => some (ty.contains "list")
  | .ref r => match s[r]? with
    | some (.lst _) => some (ty.contains "list")
    | some _ => some (ty.contains "dict")
    | none => none
def bifGD (f : B) (g : Src) (s : Sto) : Option (D × Sto) :=
  match f with
  | .list => newL s g.items
  | .tuple => newT s g.items
  | _ => none

/-! targets -/
mutual
def setT (s : Sto) : T → D → Env → Option Env
  | .nm i, d, env => some (env.set i (some d))
  | .tp ts, d, env => match itemsD d s with
    | some ds => setTs s ts ds env
    | none => none
def setTs (s : Sto) : List T → List D → Env → Option Env
  | [], [], env => some env
  | t :: ts, d :: ds, env => (setT s t d env).bind fun env => setTs s ts ds env
  | _, _, _ => none
end
def wipeD (env : Env) : List Nat → Env
  | [] => env
  | v :: vs => (wipeD env vs).set v none

def bnd {α β : Type} (x : Option (α × Sto)) (f : α → Sto → Option β) : Option β := match x with
  | some (a, s) => f a s
  | none => none
@[simp] theorem bnd_some {α β : Type} (a : α) (s : Sto) (f : α → Sto → Option β) : bnd (some (a, s)) f = f a s := rfl
@[simp] theorem bnd_none {α β : Type} (f : α → Sto → Option β) : bnd none f = none := rfl
theorem bnd_eq_some {α β : Type} {x : Option (α × Sto)} {f : α → Sto → Option β} {b : β} : bnd x f = some b ↔ ∃ a s, x = some (a, s) ∧ f a s = some b := by
  rcases x with _ | ⟨a, s⟩
  · simp
  · exact ⟨fun h => ⟨a, s, rfl, h⟩, fun ⟨a', s', e, h⟩ => by cases e; exact h⟩

/-- a comprehension's turns -/
def compL (elt : Env → Sto → Option (D × Sto)) (c : Env → Sto → Option (D × Sto)) (t : T) (env : Env) (g : Src) : List D → List D → Sto → Option (List D × Sto)
  | [], acc, s => if g.ok s then some (acc, s) else none
  | d :: ds, acc, s => if g.ok s then (setT s t d env).bind fun env1 => bnd (c env1 s) fun b s => match b with
      | .bl true => bnd (elt env1 s) fun x s => if acc.length < L then compL elt c t env g ds (acc ++ [x]) s else none
      | .bl false => compL elt c t env g ds acc s
      | _ => none
    else none

section
variable (cl : Str → List D → Sto → Option (D × Sto)) (gl : Str → Option D)
mutual
def evE : E → Env → Sto → Option (D × Sto)
  | .var i, env, s => match env[i]? with
    | some (some d) => some (d, s)
    | _ => none
  | .lit d, _, s => some (d, s)
  | .gl x, _, s => (gl x).map (·, s)
  | .tup es, env, s => bnd (evEs es env s) fun ds s => newT s ds
  | .lst es, env, s => bnd (evEs es env s) fun ds s => newL s ds
  | .star e, env, s => bnd (evE e env s) fun x s => (itemsD x s).map fun ds => (.tup ds, s)
  | .dct es, env, s => bnd (evEs es env s) fun ds s => (pairUp [] ds).map fun kvs => (.ref s.length, s ++ [.dct kvs])
  | .bin op a b, env, s => bnd (evE a env s) fun x s => bnd (evE b env s) fun y s => binD op x y s
  | .neg a, env, s => bnd (evE a env s) fun x s => match x with
    | .int i => some (.int (-i), s)
    | _ => none
  | .not a, env, s => bnd (evE a env s) fun x s => match x with
    | .bl b => some (.bl (!b), s)
    | _ => none
  | .cmp op a b, env, s => bnd (evE a env s) fun x s => bnd (evE b env s) fun y s => (cmpD op x y s).map (.bl ·, s)
  | .cmp2 op op' a b c, env, s => bnd (evE a env s) fun x s => bnd (evE b env s) fun y s => (cmpD op x y s).bind fun k =>
      if k then bnd (evE c env s) fun z s => (cmpD op' y z s).map (.bl ·, s) else some (.bl false, s)
  | .and a b, env, s => bnd (evE a env s) fun x s => match x with
    | .bl true => evE b env s
    | .bl false => some (.bl false, s)
    | _ => none
  | .or a b, env, s => bnd (evE a env s) fun x s => match x with
    | .bl true => some (.bl true, s)
    | .bl false => evE b env s
    | _ => none
  | .ite c a b, env, s => bnd (evE c env s) fun x s => match x with
    | .bl true => evE a env s
    | .bl false => evE b env s
    | _ => none
  | .idx a i, env, s => bnd (evE a env s) fun x s => bnd (evE i env s) fun y s => idxD x y s
  | .slc a lo hi, env, s => bnd (evE a env s) fun x s => bnd (evO lo env s) fun l s => bnd (evO hi env s) fun h s => slcD x l h s
  | .rev a, env, s => bnd (evE a env s) fun x s => revD x s
  | .call f es, env, s => bnd (evEs es env s) fun ds s => cl f ds s
  | .bif f es, env, s => bnd (evEs es env s) fun ds s => bifD f ds s
  | .mth m o es, env, s => bnd (evE o env s) fun x s => if mthOk m x s then bnd (evEs es env s) fun ds s => mthD m x ds s else none
  | .isi e ty, env, s => bnd (evE e env s) fun x s => (isiD x ty s).map fun b => (.bl b, s)
  | .bifI f it, env, s => bnd (evI it env s) fun g s => bifGD f g s
  | .comp own t it elt c, env, s => bnd (evI it env s) fun g s =>
      bnd (compL (fun env s => evE elt env s) (fun env s => evC c env s) t (wipeD env own) g g.items [] (lockS g s)) fun acc s1 => some (.ref (unlockS g s s1).length, unlockS g s s1 ++ [.lst acc])
def evEs : List E → Env → Sto → Option (List D × Sto)
  | [], _, s => some ([], s)
  | e :: es, env, s => bnd (evE e env s) fun d s => bnd (evEs es env s) fun ds s => some (if e.isStar then d.spl ++ ds else d :: ds, s)
def evO : Option E → Env → Sto → Option (Option Int × Sto)
  | none, _, s => some (none, s)
  | some e, env, s => bnd (evE e env s) fun x s => match x with
    | .int i => some (some i, s)
    | _ => none
def evC : Option E → Env → Sto → Option (D × Sto)
  | none, _, s => some (.bl true, s)
  | some e, env, s => evE e env s
def evI : It → Env → Sto → Option (Src × Sto)
  | .range1 a, env, s => bnd (evE a env s) fun x s => match x with
    | .int hi => (srcRange 0 hi).map (·, s)
    | _ => none
  | .range2 a b, env, s => bnd (evE a env s) fun x s => bnd (evE b env s) fun y s => match x, y with
    | .int lo, .int hi => (srcRange lo hi).map (·, s)
    | _, _ => none
  | .items a, env, s => bnd (evE a env s) fun x s => (srcItems x s).map (·, s)
  | .zip a b, env, s => bnd (evE a env s) fun x s => bnd (evE b env s) fun y s => ((srcOf x s).bind seqOnly).bind fun g => ((srcOf y s).bind seqOnly).map fun h => (srcZip g h, s)
  | .enum a, env, s => bnd (evE a env s) fun x s => ((srcOf x s).bind seqOnly).map fun g => (srcEnum g, s)
  | .seq e, env, s => bnd (evE e env s) fun x s => (srcOf x s).map (·, s)
end

inductive Fl where
  | nx | rt (d : D) | bk | ct

/-- a for loop's turns -/
def forL (body : Env → Sto → Option ((Fl × Env) × Sto)) (t : T) (g : Src) : List D → Env → Sto → Option ((Fl × Env) × Sto)
  | [], env, s => if g.ok s then some ((.nx, env), s) else none
  | d :: ds, env, s => if g.ok s then (setT s t d env).bind fun env => bnd (body env s) fun r s => match r with
      | (.nx, env) => forL body t g ds env s
      | (.ct, env) => forL body t g ds env s
      | (.bk, env) => some ((.nx, env), s)
      | (.rt v, env) => some ((.rt v, env), s)
    else none
def whlL (test : Env → Sto → Option (D × Sto)) (body : Env → Sto → Option ((Fl × Env) × Sto)) : Nat → Env → Sto → Option ((Fl × Env) × Sto)
  | 0, _, _ => none
  | n + 1, env, s => bnd (test env s) fun b s => match b with
    | .bl true => bnd (body env s) fun r s => match r with
      | (.nx, env) => whlL test body n env s
      | (.ct, env) => whlL test body n env s
      | (.bk, env) => some ((.nx, env), s)
      | (.rt v, env) => some ((.rt v, env), s)
    | .bl false => some ((.nx, env), s)
    | _ => none
def turnsMost : Nat := 1000000000

mutual
def evS : S → Env → Sto → Option ((Fl × Env) × Sto)
  | .asg t e, env, s => bnd (evE cl gl e env s) fun d s => (setT s t d env).map fun env => ((.nx, env), s)
  | .seti o i v, env, s => bnd (evE cl gl v env s) fun d s => bnd (evE cl gl o env s) fun x s => bnd (evE cl gl i env s) fun k s => (setD x k d s).map fun s => ((.nx, env), s)
  | .ex e, env, s => bnd (evE cl gl e env s) fun _ s => some ((.nx, env), s)
  | .ret (some e), env, s => bnd (evE cl gl e env s) fun d s => some ((.rt d, env), s)
  | .ret none, env, s => some ((.rt .non, env), s)
  | .ite c a b, env, s => bnd (evE cl gl c env s) fun x s => match x with
    | .bl true => evSs a env s
    | .bl false => evSs b env s
    | _ => none
  | .whl c b, env, s => whlL (fun env s => evE cl gl c env s) (fun env s => evSs b env s) turnsMost env s
  | .for t it b, env, s => bnd (evI cl gl it env s) fun g s => bnd (forL (fun env s => evSs b env s) t g g.items env (lockS g s)) fun r s1 => some (r, unlockS g s s1)
  | .brk, env, s => some ((.bk, env), s)
  | .cnt, env, s => some ((.ct, env), s)
  | .pass, env, s => some ((.nx, env), s)
  | .stuck, _, _ => none
def evSs : List S → Env → Sto → Option ((Fl × Env) × Sto)
  | [], env, s => some ((.nx, env), s)
  | st :: sts, env, s => bnd (evS st env s) fun r s => match r with
    | (.nx, env) => evSs sts env s
    | (f, env) => some ((f, env), s)
end

/-- a def's body at its arguments -/
def bodyD (fd : Fd) (ds : List D) (s : Sto) : Option (D × Sto) :=
  match evSs cl gl fd.body (ds.map some ++ List.replicate (fd.slots - ds.length) none) s with
  | some ((.rt v, _), s) => some (v, s)
  | some ((.nx, _), s) => some (.non, s)
  | _ => none
end

/-- a call, with so many calls within one another -/
def callD (tb : Str → Option Fd) (gl : Str → Option D) : Nat → Str → List D → Sto → Option (D × Sto)
  | 0, _, _, _ => none
  | n + 1, f, ds, s => match tb f with
    | none => none
    | some fd => if ds.length = fd.params then
        if D.pures ds then match bodyD (callD tb gl n) gl fd ds [] with
          | some (v, sub) => if v.pure then some (v, s) else some (v.shift s.length, s ++ sub.map (C.shift s.length))
          | none => none
        else bodyD (callD tb gl n) gl fd ds s
      else none
end Ev
end

section
set_option autoImplicit false
namespace Ev
open PySem

/-! from PySem's syntax; top: not within a comprehension -/
structure Cc where
  N : List Str
  own : Str → Bool
  gls : Str → Bool
  top : Bool

def slotOf (k : Cc) (x : Str) : Option Nat := k.N.findIdx? fun y => decide (y = x)
def varOf (k : Cc) (sc : Scope) (x : Str) : Option Nat :=
  match sc.names.lookup x with
  | some .local => slotOf k x
  | some .cell => slotOf k x
  | some .free => slotOf k x
  | _ => none
def isGl (sc : Scope) (x : Str) : Bool := match sc.names.lookup x with
  | some .globalImplicit => !(x == ("__debug__" : Str))
  | _ => false
def okName (x : Str) : Bool := !(x == ("__debug__" : Str)) && !(x == ("__classdict__" : Str))
def bTab : List (Str × B) := [("len", .len), ("int", .int), ("abs", .abs), ("tuple", .tuple), ("list", .list), ("sorted", .sorted), ("sum", .sum), ("all", .all), ("any", .any), ("max", .max), ("min", .min), ("repr", .repr), ("dict", .dict)]
def bOf (x : Str) : Option B := bTab.lookup x
def mTab : List (Str × Mt) := [("append", .append), ("extend", .extend), ("pop", .pop), ("get", .get)]
def mOf (x : Str) : Option Mt := mTab.lookup x

mutual
def cT (k : Cc) (sc : Scope) : Nat → Expr → Option T
  | 0, _ => none
  | n + 1, e => match e with
    | .Name x _ => match sc.names.lookup x with
      | some .local => (slotOf k x).map .nm
      | some .cell => if k.top then (slotOf k x).map .nm else none
      | _ => none
    | .Tuple es _ _ => (cTs k sc n es).map .tp
    | _ => none
def cTs (k : Cc) (sc : Scope) : Nat → List Expr → Option (List T)
  | 0, _ => none
  | _ + 1, [] => some []
  | n + 1, e :: es => (cT k sc n e).bind fun t => (cTs k sc n es).map fun ts => t :: ts
end
def cConst : Const → Option D
  | .none => some .non
  | .bool b => some (.bl b)
  | .int i => some (.int i)
  | .str x => some (.str x)
  | _ => none
def cOwn (k : Cc) (scope : Scope) : List (Str × Nat) :=
  scope.names.filterMap fun y => match y.2 with
    | .local => (slotOf k y.1).map fun i => (y.1, i)
    | .cell => (slotOf k y.1).map fun i => (y.1, i)
    | _ => none
mutual
def T.slots : T → List Nat
  | .nm i => [i]
  | .tp ts => T.slotss ts
def T.slotss : List T → List Nat
  | [] => []
  | t :: ts => t.slots ++ T.slotss ts
end
/-- x() or the like: super().m is another form -/
def isCall0 : Expr → Bool
  | .Call (.Name _ _) [] [] _ => true
  | _ => false
def isTup : Expr → Bool
  | .Tuple .. => true
  | _ => false
def isComp : Expr → Bool
  | .ListComp .. => true
  | .SetComp .. => true
  | .DictComp .. => true
  | _ => false

mutual
def cE (k : Cc) : Nat → Scope → Expr → Option E
  | 0, _, _ => none
  | n + 1, sc, e => match e with
    | .Name x _ => if okName x then (match varOf k sc x with
        | some i => some (.var i)
        | none => if isGl sc x && k.gls x then some (.gl x) else none) else none
    | .Constant c _ _ => (cConst c).map .lit
    | .Tuple es _ _ => (cEs k n sc es).map .tup
    | .List es _ => (cEs k n sc es).map .lst
    | .Dict ks vs _ => if ks.isEmpty && vs.isEmpty then some (.dct []) else if ks.all (·.isSome) && decide (ks.length = vs.length) && decide (ks.length ≤ 15) && !ks.isEmpty then (cPs k n sc ks vs).map .dct else none
    | .BinOp a op b _ => (cE k n sc a).bind fun x => (cE k n sc b).map fun y => .bin op x y
    | .UnaryOp op a _ => match op with
      | .USub => (cE k n sc a).map .neg
      | .Not => (cE k n sc a).map .not
      | _ => none
    | .Compare a ops bs _ => match ops, bs with
      | [op], [b] => if behindInMarks op b then none else (cE k n sc a).bind fun x => (cE k n sc b).map fun y => .cmp op x y
      | [op, op'], [b, c] => if lastMarks [op, op'] [b, c] then none else (cE k n sc a).bind fun x => (cE k n sc b).bind fun y => (cE k n sc c).map fun z => .cmp2 op op' x y z
      | _, _ => none
    | .BoolOp op es pos => match es with
      | [a] => cE k n sc a
      | a :: b :: r => (cE k n sc a).bind fun x => (cE k n sc (.BoolOp op (b :: r) pos)).map fun y => match op with
        | .And => .and x y
        | .Or => .or x y
      | [] => none
    | .IfExp c a b _ => (cE k n sc c).bind fun z => (cE k n sc a).bind fun x => (cE k n sc b).map fun y => .ite z x y
    | .Subscript a i _ => match i with
      | .Slice lo hi st _ => match st with
        | none => (cE k n sc a).bind fun x => (cO k n sc lo).bind fun l => (cO k n sc hi).map fun h => .slc x l h
        | some (.UnaryOp .USub (.Constant (.int 1) _ _) _) => match lo, hi with
          | none, none => (cE k n sc a).map .rev
          | _, _ => none
        | _ => none
      | i => (cE k n sc a).bind fun x => (cE k n sc i).map fun y => .idx x y
    | .Call f es kws cpos => if !kws.isEmpty then none else match f with
      | .Name f _ => if !isGl sc f then none
        else if k.own f then (cAs k n sc es).map (.call f)
        else match bOf f with
          | some b => if es.isEmpty then none else (cAs k n sc es).map (.bif b)
          | none => none
      | .Attribute o m apos => if isCall0 o || !(apos.endLine == cpos.line) || decide (28 ≤ es.length) then none else
          (mOf m).bind fun mm => (cE k n sc o).bind fun x => (cAs k n sc es).map fun ys => .mth mm x ys
      | _ => none
    | .ListComp elt gens scope _ => match gens with
      | [⟨tg, it, ifs, 0⟩] => (cLC k n sc elt tg it ifs scope).map fun r => .comp r.1 r.2.1 r.2.2.1 r.2.2.2.1 r.2.2.2.2
      | _ => none
    | _ => none
/-- a comprehension's parts -/
def cLC (k : Cc) : Nat → Scope → Expr → Expr → Expr → List Expr → Scope → Option (List Nat × T × It × E × Option E)
  | 0, _, _, _, _, _, _ => none
  | n + 1, sc, elt, tg, it, ifs, scope =>
      if L2.blkC k.N sc scope (cOwn k scope) then (cI k n sc tg it).bind fun i => (cT { k with top := false } (L2.relS scope sc) n tg).bind fun t =>
        if t.slots.all (fun j => (cOwn k scope).any fun p => decide (p.2 = j)) then (cE { k with top := false } n (L2.relS scope sc) elt).bind fun x => match ifs with
          | [] => some ((cOwn k scope).map (·.2), t, i, x, none)
          | [c] => (cE { k with top := false } n (L2.relS scope sc) c).map fun y => ((cOwn k scope).map (·.2), t, i, x, some y)
          | _ => none
        else none
      else none
/-- items of a display -/
def cEs (k : Cc) : Nat → Scope → List Expr → Option (List E)
  | 0, _, _ => none
  | _ + 1, _, [] => some []
  | n + 1, sc, e :: es => match e with
    | .Starred a _ => (cE k n sc a).bind fun x => (cEs k n sc es).map fun xs => .star x :: xs
    | e => (cE k n sc e).bind fun x => (cEs k n sc es).map fun xs => x :: xs
/-- plain arguments -/
def cAs (k : Cc) : Nat → Scope → List Expr → Option (List E)
  | 0, _, _ => none
  | _ + 1, _, [] => some []
  | n + 1, sc, e :: es => (cE k n sc e).bind fun x => (cAs k n sc es).map fun xs => x :: xs
def cPs (k : Cc) : Nat → Scope → List (Option Expr) → List Expr → Option (List E)
  | 0, _, _, _ => none
  | _ + 1, _, [], [] => some []
  | n + 1, sc, some a :: ks, b :: vs => (cE k n sc a).bind fun x => (cE k n sc b).bind fun y => (cPs k n sc ks vs).map fun xs => x :: y :: xs
  | _ + 1, _, _, _ => none
def cO (k : Cc) : Nat → Scope → Option Expr → Option (Option E)
  | 0, _, _ => none
  | _ + 1, _, none => some none
  | n + 1, sc, some e => (cE k n sc e).map some
def cI (k : Cc) : Nat → Scope → Expr → Expr → Option It
  | 0, _, _, _ => none
  | n + 1, sc, tg, e => match e with
    | .Call (.Name f q) es [] p => if isGl sc f && !k.own f && decide (f = "range") then match es with
          | [a] => (cE k n sc a).map .range1
          | [a, b] => (cE k n sc a).bind fun x => (cE k n sc b).map fun y => .range2 x y
          | _ => none
        else (cE k n sc (.Call (.Name f q) es [] p)).map .seq
    | .Call (.Attribute o m q) [] [] p => if decide (m = "items") then (if isTup tg && !isCall0 o && (q.endLine == p.line) then (cE k n sc o).map .items else none)
        else (cE k n sc (.Call (.Attribute o m q) [] [] p)).map .seq
    | e => (cE k n sc e).map .seq
end

/-- which stores stock swaps in (a, b) = (x, y): names, or none -/
def swNames (kd : Str → Option NameKind) (ts : List Expr) : List Str := ts.filterMap fun
  | .Name id pos => if kd id == some .local && pos.line == (ts.head?.map (·.pos.line)).getD 0 then some id else none
  | _ => none
def swK' (kd : Str → Option NameKind) (ts vs : List Expr) : Option (Option (List Str)) :=
  if !(ts.length == 2 || ts.length == 3) || vs.length != ts.length then some none
  else if vs.any fun | .Starred .. => true | _ => false then some none
  else if (swNames kd ts).length != ts.length || (swNames kd ts).eraseDups.length != (swNames kd ts).length then some none
  else if vs.all (foldedForSure 8) then some none
  else if vs.all (constantsAlone 8) then none
  else some (some (swNames kd ts))
def swK (sc : Scope) (ts vs : List Expr) : Option (Option (List Str)) := swK' (fun x => sc.names.lookup x) ts vs
def isLoc (sc : Scope) (x : Str) : Bool := match sc.names.lookup x with
  | some .local => true
  | _ => false
mutual
def cS (k : Cc) (sc : Scope) : Nat → Stmt → S
  | 0, _ => .stuck
  | n + 1, st => match st with
    | .Assign tgs v _ => match tgs with
      | [tg] => match tg with
        | .Subscript o i _ => (((cE k 60 sc o).bind fun x => (cE k 60 sc i).bind fun y => (cE k 60 sc v).map fun z => S.seti x y z)).getD .stuck
        | .Name x p' => match v with
          | .ListComp elt gens scope p => match gens with
            | [⟨tg', it, ifs, 0⟩] => if isLoc sc x && (p'.line == p.line) && !(scope.names.any fun (n, k) => n == x && (k == .local || k == .cell)) then
                (((slotOf k x).bind fun i => (cLC k 60 sc elt tg' it ifs scope).map fun r => S.asg (.nm i) (.comp r.1 r.2.1 r.2.2.1 r.2.2.2.1 r.2.2.2.2))).getD .stuck
              else .stuck
            | _ => .stuck
          | v => if isComp v then .stuck else (((cT k sc 60 (.Name x p')).bind fun t => (cE k 60 sc v).map fun z => S.asg t z)).getD .stuck
        | .Tuple ts kt pt => match v with
          | .Tuple vs k2 p2 => match swK sc ts vs with
            | some none => (((cT k sc 60 (.Tuple ts kt pt)).bind fun t => (cE k 60 sc (.Tuple vs k2 p2)).map fun z => S.asg t z)).getD .stuck
            | some (some _) => match ts, vs with
              | [.Name x _, .Name y _], [_, _] => (((slotOf k x).bind fun i => (slotOf k y).bind fun j => if decide (swK sc ts vs = some (some [x, y])) && isLoc sc x && isLoc sc y && decide (i ≠ j) then (cAs k 60 sc vs).map fun zs => S.asg (.tp [.nm i, .nm j]) (.tup zs) else none)).getD .stuck
              | [.Name x _, .Name y _, .Name z _], [_, _, _] => (((slotOf k x).bind fun i => (slotOf k y).bind fun j => (slotOf k z).bind fun l => if decide (swK sc ts vs = some (some [x, y, z])) && isLoc sc x && isLoc sc y && isLoc sc z && decide (i ≠ j) && decide (i ≠ l) && decide (j ≠ l) then
                  (cAs k 60 sc vs).map fun zs => S.asg (.tp [.nm i, .nm j, .nm l]) (.tup zs) else none)).getD .stuck
              | _, _ => .stuck
            | none => .stuck
          | v => (((cT k sc 60 (.Tuple ts kt pt)).bind fun t => (cE k 60 sc v).map fun z => S.asg t z)).getD .stuck
        | _ => .stuck
      | _ => .stuck
    | .Expr e _ => if isComp e then .stuck else ((cE k 60 sc e).map .ex).getD .stuck
    | .Return e _ => match e with
      | some e => ((cE k 60 sc e).map fun x => S.ret (some x)).getD .stuck
      | none => .ret none
    | .If c a b _ => ((cE k 60 sc c).map fun x => S.ite x (cSs k sc n a) (cSs k sc n b)).getD .stuck
    | .While c b el _ => if !el.isEmpty then .stuck else ((cE k 60 sc c).map fun x => S.whl x (cSs k sc n b)).getD .stuck
    | .For tg it b el _ => if !el.isEmpty then .stuck else (((cT k sc 60 tg).bind fun t => (cI k 60 sc tg it).map fun i => S.for t i (cSs k sc n b))).getD .stuck
    | .Break _ => .brk
    | .Continue _ => .cnt
    | .Pass _ => .pass
    | _ => .stuck
def cSs (k : Cc) (sc : Scope) : Nat → List Stmt → List S
  | 0, _ => [.stuck]
  | _ + 1, [] => []
  | n + 1, s :: ss => cS k sc n s :: cSs k sc n ss
end

/-- a def: its name, its parameters, its names by slot -/
structure Df where
  name : Str
  N : List Str
  params : Nat
deriving Inhabited
def cF (own gls : Str → Bool) (d : Df) : Stmt → Option Fd
  | .FunctionDef n a body [] none [] sc none _ _ => if n = d.name ∧ a.args.map (·.arg) = d.N.take d.params then some ⟨d.params, d.N.length, cSs ⟨d.N, own, gls, true⟩ sc 60 body⟩ else none
  | _ => none
end Ev
end

section
set_option autoImplicit false
set_option maxRecDepth 100000
/-! Ev3: how values and stores lie in the hand layer's abstract heap -/
namespace Ev
open PySem L2

/-- a list that stays as it is -/
def RoL (K : PySem.W.Frag) (H : Hp) (a : Addr) (xs : List V) : Prop :=
  (∃ o, H a = some (.frz o (.lst xs))) ∨
    ∃ (o : Obj) (its : Array Value) (n : Nat), K.lookup a = some o ∧ o.cls = .type "list" ∧ o.dict = none ∧ o.data = .seq its n ∧ its.size ≤ sizeLine ∧ Vals xs its.toList
theorem RoL.sq {K : PySem.W.Frag} {H : Hp} {a : Addr} {xs : List V} (h : RoL K H a xs) : SqL K H a xs := by
  rcases h with h | h
  · exact .inl (.inr h)
  · exact .inr h
/-- a tuple with no dict of its own, that stays as it is -/
def RoT (K : PySem.W.Frag) (H : Hp) (a : Addr) (xs : List V) : Prop :=
  (∃ o, H a = some (.frz o (.tup xs)) ∧ o.dict = none) ∨
    ∃ (o : Obj) (its : Array Value) (n : Nat), K.lookup a = some o ∧ o.cls = .type "tuple" ∧ o.dict = none ∧ o.data = .seq its n ∧ its.size ≤ sizeLine ∧ Vals xs its.toList
theorem RoT.sq {K : PySem.W.Frag} {H : Hp} {a : Addr} {xs : List V} (h : RoT K H a xs) : SqT K H a xs := by
  rcases h with ⟨o, h, _⟩ | ⟨o, its, n, h1, h2, _, h3⟩
  · exact .inl (.inr ⟨o, h⟩)
  · exact .inr ⟨o, its, n, h1, h2, h3⟩
/-- what is only read stays -/
structure Stay (K : PySem.W.Frag) (H H' : Hp) : Prop where
  t : ∀ a vs, RoT K H a vs → RoT K H' a vs
  l : ∀ a vs, RoL K H a vs → RoL K H' a vs
mutual
/-- the value d lies as v: K the written part, ι the cells' addresses -/
def RD (K : PySem.W.Frag) (ι : List Addr) (H : Hp) : D → V → Prop
  | .non, v => v = .non
  | .bl b, v => v = .bl b
  | .int i, v => v = .int i
  | .str x, v => v = .str x
  | .tup ds, v => ∃ a vs, v = .ref a ∧ RoT K H a vs ∧ RDs K ι H ds vs
  | .ref i, v => ∃ a, v = .ref a ∧ ι[i]? = some a
  | .scr is, v => ∃ a, v = .ref a ∧ RoL K H a (is.map V.int)
def RDs (K : PySem.W.Frag) (ι : List Addr) (H : Hp) : List D → List V → Prop
  | [], vs => vs = []
  | d :: ds, vs => ∃ v r, vs = v :: r ∧ RD K ι H d v ∧ RDs K ι H ds r
end

section
variable {K : PySem.W.Frag} {ι ι' : List Addr} {H H' : Hp}
theorem RDs_cons {d : D} {ds : List D} {v : V} {vs : List V} : RDs K ι H (d :: ds) (v :: vs) ↔ RD K ι H d v ∧ RDs K ι H ds vs := by
  constructor
  · intro h; rw [RDs] at h; obtain ⟨v', r, e, h1, h2⟩ := h; cases e; exact ⟨h1, h2⟩
  · intro h; rw [RDs]; exact ⟨v, vs, rfl, h⟩
theorem RDs_nil {vs : List V} : RDs K ι H [] vs ↔ vs = [] := by rw [RDs]
theorem RDs.length : ∀ {ds : List D} {vs : List V}, RDs K ι H ds vs → vs.length = ds.length
  | [], _, h => by rw [RDs] at h; subst h; rfl
  | d :: ds, _, h => by
    rw [RDs] at h
    obtain ⟨v, r, rfl, _, h2⟩ := h
    simp [RDs.length h2]
theorem RDs.get : ∀ {ds : List D} {vs : List V}, RDs K ι H ds vs → ∀ {i : Nat} {d : D}, ds[i]? = some d → ∃ v, vs[i]? = some v ∧ RD K ι H d v
  | [], _, _, i, d, e => by simp at e
  | d :: ds, _, h, i, d', e => by
    rw [RDs] at h
    obtain ⟨v, r, rfl, h1, h2⟩ := h
    cases i with
    | zero => simp at e; subst e; exact ⟨v, rfl, h1⟩
    | succ i => simp at e; obtain ⟨v', e', h'⟩ := RDs.get h2 e; exact ⟨v', by simpa using e', h'⟩
theorem RDs.of_get : ∀ {ds : List D} {vs : List V}, vs.length = ds.length → (∀ (i : Nat) (d : D) (v : V), ds[i]? = some d → vs[i]? = some v → RD K ι H d v) → RDs K ι H ds vs
  | [], vs, hl, _ => by rw [RDs]; exact List.length_eq_zero_iff.mp hl
  | d :: ds, vs, hl, h => by
    cases vs with
    | nil => simp at hl
    | cons v r =>
      rw [RDs_cons]
      exact ⟨h 0 d v rfl rfl, RDs.of_get (by simpa using hl) fun i d' v' e e' => h (i + 1) d' v' (by simpa using e) (by simpa using e')⟩
theorem RDs.rd {ds : List D} {vs : List V} (h : RDs K ι H ds vs) {i : Nat} {d : D} {v : V} (e : ds[i]? = some d) (e' : vs[i]? = some v) : RD K ι H d v := by
  obtain ⟨v', e2, r⟩ := h.get e
  rw [e'] at e2; cases e2; exact r
theorem RDs.none {ds : List D} {vs : List V} (h : RDs K ι H ds vs) {i : Nat} (e : ds[i]? = none) : vs[i]? = none := by
  rw [List.getElem?_eq_none_iff] at e ⊢
  have := h.length
  omega
theorem RDs.append {a b : List D} {x y : List V} (h : RDs K ι H a x) (h' : RDs K ι H b y) : RDs K ι H (a ++ b) (x ++ y) := by
  refine RDs.of_get (by simp [h.length, h'.length]) fun i d v e e' => ?_
  have hl := h.length
  by_cases hi : i < a.length
  · rw [List.getElem?_append_left hi] at e
    rw [List.getElem?_append_left (by omega)] at e'
    exact h.rd e e'
  · rw [List.getElem?_append_right (by omega)] at e
    rw [List.getElem?_append_right (by omega), hl] at e'
    exact h'.rd e e'
theorem RDs.one {d : D} {v : V} (h : RD K ι H d v) : RDs K ι H [d] [v] := by rw [RDs_cons, RDs_nil]; exact ⟨h, rfl⟩
theorem RDs.take {a : List D} {x : List V} (h : RDs K ι H a x) (n : Nat) : RDs K ι H (a.take n) (x.take n) := by
  refine RDs.of_get (by simp [h.length]) fun i d v e e' => ?_
  rw [List.getElem?_take] at e e'
  split at e
  · rename_i hn; rw [if_pos hn] at e'; exact h.rd e e'
  · simp at e
theorem RDs.drop {a : List D} {x : List V} (h : RDs K ι H a x) (n : Nat) : RDs K ι H (a.drop n) (x.drop n) := by
  refine RDs.of_get (by simp [h.length]) fun i d v e e' => ?_
  rw [List.getElem?_drop] at e e'
  exact h.rd e e'
theorem RDs.reverse {a : List D} {x : List V} (h : RDs K ι H a x) : RDs K ι H a.reverse x.reverse := by
  refine RDs.of_get (by simp [h.length]) fun i d v e e' => ?_
  have hl := h.length
  have hi : i < a.length := by
    have := (List.getElem?_eq_some_iff.mp e).1
    simpa using this
  rw [List.getElem?_reverse (by omega)] at e e'
  rw [hl] at e'
  exact h.rd e e'
theorem RDs.set {a : List D} {x : List V} (h : RDs K ι H a x) (n : Nat) {d : D} {v : V} (r : RD K ι H d v) : RDs K ι H (a.set n d) (x.set n v) := by
  refine RDs.of_get (by simp [h.length]) fun i d' v' e e' => ?_
  have hl := h.length
  rw [List.getElem?_set] at e e'
  split at e
  · rename_i hn
    subst hn
    rw [if_pos rfl] at e'
    split at e
    · rw [if_pos (by omega)] at e'
      cases e; cases e'; exact r
    · cases e
  · rename_i hn
    rw [if_neg hn] at e'
    exact h.rd e e'
theorem RDs.eraseIdx {a : List D} {x : List V} (h : RDs K ι H a x) (n : Nat) : RDs K ι H (a.eraseIdx n) (x.eraseIdx n) := by
  refine RDs.of_get ?_ fun i d' v' e e' => ?_
  · have hl := h.length
    simp only [List.length_eraseIdx, hl]
  · rw [List.getElem?_eraseIdx] at e e'
    split at e
    · rename_i hn; rw [if_pos hn] at e'; exact h.rd e e'
    · rename_i hn; rw [if_neg hn] at e'; exact h.rd e e'
theorem RDs.dropLast {a : List D} {x : List V} (h : RDs K ι H a x) : RDs K ι H a.dropLast x.dropLast := by
  rw [List.dropLast_eq_take, List.dropLast_eq_take, h.length]
  exact h.take _
theorem RDs.mem {a : List D} {x : List V} (h : RDs K ι H a x) {v : V} (hv : v ∈ x) : ∃ d ∈ a, RD K ι H d v := by
  obtain ⟨i, hi⟩ := List.mem_iff_getElem?.mp hv
  have hl := h.length
  have hlt : i < a.length := by
    have := (List.getElem?_eq_some_iff.mp hi).1
    omega
  exact ⟨a[i], List.getElem_mem hlt, h.rd (List.getElem?_eq_getElem hlt) hi⟩

mutual
theorem RD.mono (hT : Stay K H H') (hι : ∀ (i : Nat) (a : Addr), ι[i]? = some a → ι'[i]? = some a) : ∀ {d : D} {v : V}, RD K ι H d v → RD K ι' H' d v
  | .non, _, h => by rw [RD] at h ⊢; exact h
  | .bl _, _, h => by rw [RD] at h ⊢; exact h
  | .int _, _, h => by rw [RD] at h ⊢; exact h
  | .str _, _, h => by rw [RD] at h ⊢; exact h
  | .tup ds, _, h => by
    rw [RD] at h ⊢
    obtain ⟨a, vs, e, s, r⟩ := h
    exact ⟨a, vs, e, hT.t _ _ s, RDs.mono hT hι r⟩
  | .ref i, _, h => by
    rw [RD] at h ⊢
    obtain ⟨a, e, s⟩ := h
    exact ⟨a, e, hι _ _ s⟩
  | .scr is, _, h => by
    rw [RD] at h ⊢
    obtain ⟨a, e, s⟩ := h
    exact ⟨a, e, hT.l _ _ s⟩
theorem RDs.mono (hT : Stay K H H') (hι : ∀ (i : Nat) (a : Addr), ι[i]? = some a → ι'[i]? = some a) : ∀ {ds : List D} {vs : List V}, RDs K ι H ds vs → RDs K ι' H' ds vs
  | [], _, h => by rw [RDs] at h ⊢; exact h
  | d :: ds, _, h => by
    rw [RDs] at h ⊢
    obtain ⟨v, r, e, h1, h2⟩ := h
    exact ⟨v, r, e, RD.mono hT hι h1, RDs.mono hT hι h2⟩
end
mutual
/-- a value without references lies so whatever the cells are -/
theorem RD.pure (hT : Stay K H H') : ∀ {d : D} {v : V}, d.pure = true → RD K ι H d v → RD K ι' H' d v
  | .non, _, _, h => by rw [RD] at h ⊢; exact h
  | .bl _, _, _, h => by rw [RD] at h ⊢; exact h
  | .int _, _, _, h => by rw [RD] at h ⊢; exact h
  | .str _, _, _, h => by rw [RD] at h ⊢; exact h
  | .tup ds, _, p, h => by
    rw [RD] at h ⊢
    obtain ⟨a, vs, e, s, r⟩ := h
    exact ⟨a, vs, e, hT.t _ _ s, RDs.pure hT p r⟩
  | .ref i, _, p, _ => by cases p
  | .scr is, _, _, h => by
    rw [RD] at h ⊢
    obtain ⟨a, e, s⟩ := h
    exact ⟨a, e, hT.l _ _ s⟩
theorem RDs.pure (hT : Stay K H H') : ∀ {ds : List D} {vs : List V}, D.pures ds = true → RDs K ι H ds vs → RDs K ι' H' ds vs
  | [], _, _, h => by rw [RDs] at h ⊢; exact h
  | d :: ds, _, p, h => by
    rw [RDs] at h ⊢
    obtain ⟨v, r, e, h1, h2⟩ := h
    rw [D.pures, Bool.and_eq_true] at p
    exact ⟨v, r, e, RD.pure hT p.1 h1, RDs.pure hT p.2 h2⟩
end
mutual
theorem RD.shift (pre : List Addr) : ∀ {d : D} {v : V}, RD K ι H d v → RD K (pre ++ ι) H (d.shift pre.length) v
  | .non, _, h => by simp only [D.shift, RD] at h ⊢; exact h
  | .bl _, _, h => by simp only [D.shift, RD] at h ⊢; exact h
  | .int _, _, h => by simp only [D.shift, RD] at h ⊢; exact h
  | .str _, _, h => by simp only [D.shift, RD] at h ⊢; exact h
  | .scr _, _, h => by simp only [D.shift, RD] at h ⊢; exact h
  | .tup ds, _, h => by
    simp only [D.shift, RD] at h ⊢
    obtain ⟨a, vs, e, s, r⟩ := h
    exact ⟨a, vs, e, s, RDs.shift pre r⟩
  | .ref i, _, h => by
    simp only [D.shift, RD] at h ⊢
    obtain ⟨a, e, s⟩ := h
    exact ⟨a, e, by rw [List.getElem?_append_right (by omega)]; simpa using s⟩
theorem RDs.shift (pre : List Addr) : ∀ {ds : List D} {vs : List V}, RDs K ι H ds vs → RDs K (pre ++ ι) H (D.shifts pre.length ds) vs
  | [], _, h => by simp only [D.shifts, RDs] at h ⊢; exact h
  | d :: ds, _, h => by
    simp only [D.shifts, RDs] at h ⊢
    obtain ⟨v, r, e, h1, h2⟩ := h
    exact ⟨v, r, e, RD.shift pre h1, RDs.shift pre h2⟩
end
theorem D.shifts_map (n : Nat) : ∀ ds : List D, D.shifts n ds = ds.map (D.shift n)
  | [] => by rw [D.shifts]; rfl
  | d :: ds => by rw [D.shifts, D.shifts_map n ds]; rfl
end

/-! ### keys -/
mutual
theorem D.nk_inj : ∀ {a b : D} {k : NestedKey}, a.nk = some k → b.nk = some k → a = b
  | a, b, k, ha, hb => by
    cases a with
    | non => simp only [D.nk, Option.some.injEq] at ha; subst ha; cases b <;> simp_all [D.nk]
    | bl _ => simp [D.nk] at ha
    | int i => simp only [D.nk, Option.some.injEq] at ha; subst ha; cases b <;> simp_all [D.nk]
    | str x => simp only [D.nk, Option.some.injEq] at ha; subst ha; cases b <;> simp_all [D.nk]
    | ref _ => simp [D.nk] at ha
    | scr _ => simp [D.nk] at ha
    | tup ds =>
      simp only [D.nk, Option.map_eq_some_iff] at ha
      obtain ⟨ks, h1, rfl⟩ := ha
      cases b with
      | tup es =>
        simp only [D.nk, Option.map_eq_some_iff, NestedKey.tup.injEq, exists_eq_right] at hb
        rw [D.nks_inj h1 hb]
      | non => simp [D.nk] at hb
      | bl _ => simp [D.nk] at hb
      | int _ => simp [D.nk] at hb
      | str _ => simp [D.nk] at hb
      | ref _ => simp [D.nk] at hb
      | scr _ => simp [D.nk] at hb
theorem D.nks_inj : ∀ {a b : List D} {k : List NestedKey}, D.nks a = some k → D.nks b = some k → a = b
  | [], b, k, ha, hb => by
    simp only [D.nks, Option.some.injEq] at ha
    subst ha
    cases b with
    | nil => rfl
    | cons d ds => simp [D.nks, Option.bind_eq_some_iff] at hb
  | d :: ds, b, k, ha, hb => by
    simp only [D.nks, Option.bind_eq_some_iff, Option.map_eq_some_iff] at ha
    obtain ⟨x, h1, xs, h2, rfl⟩ := ha
    cases b with
    | nil => simp [D.nks] at hb
    | cons e es =>
      simp only [D.nks, Option.bind_eq_some_iff, Option.map_eq_some_iff, List.cons.injEq] at hb
      obtain ⟨y, h3, ys, h4, e1, e2⟩ := hb
      subst e1 e2
      rw [D.nk_inj h1 h3, D.nks_inj h2 h4]
end
end Ev
end

section
set_option autoImplicit false
set_option maxRecDepth 100000
/-! Ev4: stores in the abstract heap, what a run may change -/
namespace Ev
open PySem L2

def dK : Key → D
  | .inl i => .int i
  | .inr x => .str x

section
variable (P : Program) (w : World) (K : PySem.W.Frag)

/-- a dict whose keys are tuples, by its entries -/
def ndPhi (a : Addr) (xs : List (NestedKey × Addr × Value)) : Heap → Prop := fun h => (a == sysModules) = false ∧
  ∃ o es ep, h.get? a = some o ∧ o.ExactDict ∧ o.data = .dict es ep ∧ es.toList = xs.map (entryOfKey (nestedKind P w))
def ndHO (a : Addr) (xs : List (NestedKey × Addr × Value)) : HO := .ext (ndPhi P w a xs)

def atomKV (ι : List Addr) (H : Hp) (p : D × D) (q : Key × V) : Prop := p.1 = dK q.1 ∧ RD K ι H p.2 q.2
def nestKV (ι : List Addr) (H : Hp) (p : D × D) (x : NestedKey × Addr × Value) : Prop :=
  p.1.nk = some x.1 ∧ x.1.depth ≤ 8 ∧ RD K ι H p.1 (.ref x.2.1) ∧ ∃ v, RelV v x.2.2 ∧ RD K ι H p.2 v
/-- u at a is the dict kvs -/
def DctAt (ι : List Addr) (H : Hp) (kvs : List (D × D)) (a : Addr) (u : HO) : Prop :=
  (∃ kv', u = .dK kv' ∧ Paired (atomKV K ι H) kvs kv') ∨
  ∃ xs, u = ndHO P w a xs ∧ xs.length ≤ sizeLine ∧ (xs.map (·.1)).Nodup ∧ Paired (nestKV K ι H) kvs xs
def CellAt (ι : List Addr) (H : Hp) : C → Addr → Prop
  | .lst ds, a => ∃ vs, H a = some (.lst vs) ∧ RDs K ι H ds vs
  | .dct kvs, a => ∃ u, H a = some u ∧ DctAt P w K ι H kvs a u
  | .lck kvs, a => ∃ o u, H a = some (.frz o u) ∧ DctAt P w K ι H kvs a u

/-- the store lies at the addresses ι -/
structure Rep (ι : List Addr) (H : Hp) (s : Sto) : Prop where
  len : ι.length = s.length
  nd : ι.Nodup
  cell : ∀ (i : Nat) (c : C) (a : Addr), s[i]? = some c → ι[i]? = some a → CellAt P w K ι H c a

/-- what a run may do: new cells at new addresses; all else stays -/
structure Go (ι ι' : List Addr) (H H' : Hp) : Prop where
  pre : ∃ new, ι' = ι ++ new ∧ ∀ a ∈ new, H a = none
  keep : ∀ a o, H a = some o → a ∉ ι → H' a = some o
  frz : ∀ a o u, H a = some (.frz o u) → H' a = some (.frz o u)

structure RepE (ι : List Addr) (H : Hp) (env : Env) (σ : St) : Prop where
  len : σ.length = env.length
  slot : ∀ (i : Nat) (d : D), env[i]? = some (some d) → ∃ v, σ[i]? = some (some v) ∧ RD K ι H d v
end

section
variable {P : Program} {w : World} {K : PySem.W.Frag} {ι ι' ι1 : List Addr} {H H' H1 : Hp} {s s' s1 : Sto}

theorem DctAt.notTup {kvs : List (D × D)} {a : Addr} {u : HO} (h : DctAt P w K ι H kvs a u) : (∀ vs, u ≠ .tup vs) ∧ (∀ o v, u ≠ .frz o v) ∧ (∀ vs, u ≠ .lst vs) ∧ Mut (some u) := by
  rcases h with ⟨kv', rfl, _⟩ | ⟨xs, rfl, _⟩
  · exact ⟨fun _ e => (nomatch e), fun _ _ e => (nomatch e), fun _ e => (nomatch e), trivial⟩
  · exact ⟨fun _ e => (nomatch e), fun _ _ e => (nomatch e), fun _ e => (nomatch e), trivial⟩
theorem CellAt.there {c : C} {a : Addr} (h : CellAt P w K ι H c a) : ∃ o, H a = some o ∧ ∀ vs, o ≠ .tup vs := by
  cases c with
  | lst ds => obtain ⟨vs, e, _⟩ := h; exact ⟨_, e, fun _ z => (nomatch z)⟩
  | dct kvs => obtain ⟨u, e, q⟩ := h; exact ⟨_, e, q.notTup.1⟩
  | lck kvs => obtain ⟨o, u, e, q⟩ := h; exact ⟨_, e, fun _ z => (nomatch z)⟩
theorem Rep.cellOf (R : Rep P w K ι H s) {a : Addr} (h : a ∈ ι) : ∃ (i : Nat) (c : C), ι[i]? = some a ∧ s[i]? = some c ∧ CellAt P w K ι H c a := by
  obtain ⟨i, hi⟩ := List.mem_iff_getElem?.mp h
  have hlt : i < s.length := by
    have := (List.getElem?_eq_some_iff.mp hi).1
    have := R.len
    omega
  exact ⟨i, s[i], hi, List.getElem?_eq_getElem hlt, R.cell i _ a (List.getElem?_eq_getElem hlt) hi⟩
theorem Rep.notTup (R : Rep P w K ι H s) {a : Addr} {vs : List V} (h : H a = some (.tup vs)) : a ∉ ι := fun hm => by
  obtain ⟨i, c, _, _, q⟩ := R.cellOf hm
  obtain ⟨o, e, n⟩ := q.there
  rw [h] at e; cases e
  exact n _ rfl
theorem Rep.notNone (R : Rep P w K ι H s) {a : Addr} (h : H a = none) : a ∉ ι := fun hm => by
  obtain ⟨i, c, _, _, q⟩ := R.cellOf hm
  obtain ⟨o, e, n⟩ := q.there
  rw [h] at e; cases e
theorem Rep.addr (R : Rep P w K ι H s) {i : Nat} {c : C} (h : s[i]? = some c) : ∃ a, ι[i]? = some a ∧ CellAt P w K ι H c a := by
  have hlt : i < ι.length := by
    have := (List.getElem?_eq_some_iff.mp h).1
    have := R.len
    omega
  exact ⟨ι[i], List.getElem?_eq_getElem hlt, R.cell i c _ h (List.getElem?_eq_getElem hlt)⟩
theorem Rep.ofRef (R : Rep P w K ι H s) {i : Nat} {c : C} {v : V} (h : s[i]? = some c) (r : RD K ι H (.ref i) v) : ∃ a, v = .ref a ∧ ι[i]? = some a ∧ CellAt P w K ι H c a := by
  rw [RD] at r
  obtain ⟨a, e, q⟩ := r
  exact ⟨a, e, q, R.cell i c a h q⟩

theorem Go.refl : Go ι ι H H := ⟨⟨[], by simp, by simp⟩, fun _ _ h _ => h, fun _ _ _ h => h⟩
theorem Go.ix (g : Go ι ι' H H') {i : Nat} {a : Addr} (h : ι[i]? = some a) : ι'[i]? = some a := by
  obtain ⟨new, rfl, _⟩ := g.pre
  have hlt := (List.getElem?_eq_some_iff.mp h).1
  rw [List.getElem?_append_left hlt]; exact h
theorem Go.sqT (R : Rep P w K ι H s) (g : Go ι ι' H H') {a : Addr} {vs : List V} (h : RoT K H a vs) : RoT K H' a vs := by
  rcases h with ⟨o, h, z⟩ | h
  · exact .inl ⟨o, g.frz _ _ _ h, z⟩
  · exact .inr h
theorem Go.stay (R : Rep P w K ι H s) (g : Go ι ι' H H') : Stay K H H' := ⟨fun _ _ => g.sqT R, fun a vs h => by
  rcases h with ⟨o, h⟩ | h
  · exact .inl ⟨o, g.frz _ _ _ h⟩
  · exact .inr h⟩
theorem Go.rd (R : Rep P w K ι H s) (g : Go ι ι' H H') {d : D} {v : V} (h : RD K ι H d v) : RD K ι' H' d v :=
  RD.mono (g.stay R) (fun _ _ => g.ix) h
theorem Go.rds (R : Rep P w K ι H s) (g : Go ι ι' H H') {ds : List D} {vs : List V} (h : RDs K ι H ds vs) : RDs K ι' H' ds vs :=
  RDs.mono (g.stay R) (fun _ _ => g.ix) h
theorem Go.env (R : Rep P w K ι H s) (g : Go ι ι' H H') {env : Env} {σ : St} (h : RepE K ι H env σ) : RepE K ι' H' env σ :=
  ⟨h.len, fun i d e => let ⟨v, e', r⟩ := h.slot i d e; ⟨v, e', g.rd R r⟩⟩
theorem Go.trans (R1 : Rep P w K ι1 H1 s1) (g : Go ι ι1 H H1) (g' : Go ι1 ι' H1 H') : Go ι ι' H H' := by
  obtain ⟨n1, e1, f1⟩ := g.pre
  obtain ⟨n2, e2, f2⟩ := g'.pre
  refine ⟨⟨n1 ++ n2, by rw [e2, e1, List.append_assoc], fun a ha => ?_⟩, fun a o h ha => ?_, fun a o u h => g'.frz _ _ _ (g.frz _ _ _ h)⟩
  · rcases List.mem_append.mp ha with ha | ha
    · exact f1 a ha
    · have h1 := f2 a ha
      have n1' := R1.notNone h1
      cases e : H a with
      | none => rfl
      | some o =>
        have : a ∉ ι := fun z => n1' (by rw [e1]; exact List.mem_append_left _ z)
        have q := g.keep a o e this
        rw [h1] at q; cases q
  · refine g'.keep a o (g.keep a o h ha) fun z => ?_
    rw [e1] at z
    rcases List.mem_append.mp z with z | z
    · exact ha z
    · have := f1 a z
      rw [h] at this; cases this

theorem DctAt.mono {kvs : List (D × D)} {a : Addr} {u : HO} (hT : Stay K H H') (hι : ∀ (i : Nat) (a : Addr), ι[i]? = some a → ι'[i]? = some a) (h : DctAt P w K ι H kvs a u) : DctAt P w K ι' H' kvs a u := by
  rcases h with ⟨kv', e, q⟩ | ⟨xs, e, l, n, q⟩
  · exact .inl ⟨kv', e, Paired.mapP q fun p x ⟨h1, h2⟩ => ⟨h1, h2.mono hT hι⟩⟩
  · exact .inr ⟨xs, e, l, n, Paired.mapP q fun p x ⟨h1, h2, h3, v, h4, h5⟩ => ⟨h1, h2, h3.mono hT hι, v, h4, h5.mono hT hι⟩⟩
theorem CellAt.mono {c : C} {a : Addr} (hT : Stay K H H') (hι : ∀ (i : Nat) (a : Addr), ι[i]? = some a → ι'[i]? = some a) (ha : H' a = H a) (h : CellAt P w K ι H c a) : CellAt P w K ι' H' c a := by
  cases c with
  | lst ds => obtain ⟨vs, e, q⟩ := h; exact ⟨vs, by rw [ha]; exact e, q.mono hT hι⟩
  | dct kvs => obtain ⟨u, e, q⟩ := h; exact ⟨u, by rw [ha]; exact e, q.mono hT hι⟩
  | lck kvs => obtain ⟨o, u, e, q⟩ := h; exact ⟨o, u, by rw [ha]; exact e, q.mono hT hι⟩

theorem sqT_upd {p : Addr} {o : HO} (h : H p = none) {a : Addr} {vs : List V} (q : RoT K H a vs) : RoT K (upd H p o) a vs := by
  rcases q with ⟨ob, q, z⟩ | q
  · exact .inl ⟨ob, by rw [upd_ne (ne_of_none q h)]; exact q, z⟩
  · exact .inr q
theorem sqT_set {p : Addr} {o ob : HO} (h : H p = some ob) (h1 : ∀ vs, ob ≠ .tup vs) (h2 : ∀ q vs, ob ≠ .frz q (.tup vs)) {a : Addr} {vs : List V} (q : RoT K H a vs) : RoT K (upd H p o) a vs := by
  rcases q with ⟨ob', q, z⟩ | q
  · exact .inl ⟨ob', by rw [upd_ne (fun e => by subst e; rw [h] at q; cases q; exact h2 _ _ rfl)]; exact q, z⟩
  · exact .inr q
theorem stay_upd {p : Addr} {o : HO} (h : H p = none) : Stay K H (upd H p o) := ⟨fun _ _ => sqT_upd h, fun a vs q => by
  rcases q with ⟨ob, q⟩ | q
  · exact .inl ⟨ob, by rw [upd_ne (ne_of_none q h)]; exact q⟩
  · exact .inr q⟩
theorem stay_set {p : Addr} {o ob : HO} (h : H p = some ob) (h1 : ∀ vs, ob ≠ .tup vs) (h2 : ∀ q vs, ob ≠ .frz q (.tup vs)) (h3 : ∀ q vs, ob ≠ .frz q (.lst vs)) : Stay K H (upd H p o) := ⟨fun _ _ => sqT_set h h1 h2, fun a vs q => by
  rcases q with ⟨ob', q⟩ | q
  · exact .inl ⟨ob', by rw [upd_ne (fun e => by subst e; rw [h] at q; cases q; exact h3 _ _ rfl)]; exact q⟩
  · exact .inr q⟩
/-- a new object that is no cell -/
theorem Go.new {p : Addr} {o : HO} (h : H p = none) : Go ι ι H (upd H p o) :=
  ⟨⟨[], by simp, by simp⟩, fun a ob e _ => by rw [upd_ne (ne_of_none e h)]; exact e, fun a ob u e => by rw [upd_ne (ne_of_none e h)]; exact e⟩
theorem Rep.new (R : Rep P w K ι H s) {p : Addr} {o : HO} (h : H p = none) : Rep P w K ι (upd H p o) s :=
  ⟨R.len, R.nd, fun i c a e e' => (R.cell i c a e e').mono (stay_upd h) (fun _ _ e => e) (by
    have : a ≠ p := fun z => R.notNone h (z ▸ List.mem_of_getElem? e')
    exact upd_ne this)⟩
/-- a new cell -/
theorem Go.push {p : Addr} {o : HO} (h : H p = none) : Go ι (ι ++ [p]) H (upd H p o) :=
  ⟨⟨[p], rfl, fun a ha => by rw [List.mem_singleton] at ha; subst ha; exact h⟩, fun a ob e _ => by rw [upd_ne (ne_of_none e h)]; exact e, fun a ob u e => by rw [upd_ne (ne_of_none e h)]; exact e⟩
theorem Rep.push (R : Rep P w K ι H s) {p : Addr} {o : HO} (h : H p = none) {c : C} (hc : CellAt P w K (ι ++ [p]) (upd H p o) c p) : Rep P w K (ι ++ [p]) (upd H p o) (s ++ [c]) := by
  have hp : p ∉ ι := R.notNone h
  refine ⟨by simp [R.len], List.nodup_append.mpr ⟨R.nd, by simp, fun a ha b hb => ?_⟩, fun i c' a e e' => ?_⟩
  · rw [List.mem_singleton] at hb; subst hb; intro z; exact hp (z ▸ ha)
  · have hl := R.len
    by_cases hi : i < s.length
    · rw [List.getElem?_append_left hi] at e
      rw [List.getElem?_append_left (by omega)] at e'
      refine (R.cell i c' a e e').mono (stay_upd h) (fun j b e => (Go.push (o := o) h).ix e) ?_
      have : a ≠ p := fun z => hp (z ▸ List.mem_of_getElem? e')
      exact upd_ne this
    · rw [List.getElem?_append_right (by omega)] at e e'
      have h1 : i - s.length = 0 := by
        have := (List.getElem?_eq_some_iff.mp e).1
        simp at this
        omega
      have h2 : i - ι.length = 0 := by omega
      rw [h1] at e; rw [h2] at e'
      simp at e e'
      subst e e'
      exact hc
/-- a cell written -/
theorem Go.set {p : Addr} {o ob : HO} (hp : p ∈ ι) (h : H p = some ob) (hf : ∀ q u, ob ≠ .frz q u) : Go ι ι H (upd H p o) :=
  ⟨⟨[], by simp, by simp⟩, fun a ob' e n => by rw [upd_ne (fun z => by subst z; exact n hp)]; exact e, fun a ob' u e => by rw [upd_ne (fun z => by subst z; rw [h] at e; cases e; exact hf _ _ rfl)]; exact e⟩
theorem Rep.set (R : Rep P w K ι H s) {i : Nat} {c0 c : C} {p : Addr} {o : HO} (_hs : s[i]? = some c0) (hp : ι[i]? = some p) (h1 : ∀ vs, H p ≠ some (.tup vs)) (h2 : ∀ q vs, H p ≠ some (.frz q (.tup vs))) (h3 : ∀ q vs, H p ≠ some (.frz q (.lst vs)))
    (hc : CellAt P w K ι (upd H p o) c p) : Rep P w K ι (upd H p o) (s.set i c) := by
  obtain ⟨ob, eo⟩ : ∃ ob, H p = some ob := by
    obtain ⟨_, _, _, _, q⟩ := R.cellOf (List.mem_of_getElem? hp)
    obtain ⟨o, e, _⟩ := q.there
    exact ⟨o, e⟩
  refine ⟨by simp [R.len], R.nd, fun j c' a e e' => ?_⟩
  by_cases hj : j = i
  · subst hj
    rw [hp] at e'; cases e'
    rw [List.getElem?_set_self (by have := (List.getElem?_eq_some_iff.mp _hs).1; omega)] at e
    cases e
    exact hc
  · rw [List.getElem?_set_ne (Ne.symm hj)] at e
    refine (R.cell j c' a e e').mono (stay_set eo (fun vs z => h1 vs (z ▸ eo)) (fun q vs z => h2 q vs (z ▸ eo)) (fun q vs z => h3 q vs (z ▸ eo))) (fun _ _ e => e) ?_
    refine upd_ne fun z => hj ?_
    subst z
    obtain ⟨l1, q1⟩ := List.getElem?_eq_some_iff.mp e'
    obtain ⟨l2, q2⟩ := List.getElem?_eq_some_iff.mp hp
    exact (List.getElem_inj R.nd).mp (q1.trans q2.symm)
end

/-! ### what is wanted behind a run -/
section
variable (P : Program) (w : World) (K : PySem.W.Frag)
def Ret (ι : List Addr) (H : Hp) (Q : VK) (d : D) (s : Sto) : Prop := ∀ v H' ι', Go ι ι' H H' → Rep P w K ι' H' s → RD K ι' H' d v → Q v H'
def Rets (ι : List Addr) (H : Hp) (Q : List V → Hp → Prop) (ds : List D) (s : Sto) : Prop := ∀ vs H' ι', Go ι ι' H H' → Rep P w K ι' H' s → RDs K ι' H' ds vs → Q vs H'
def RetB (ι : List Addr) (H : Hp) (Q : Bool → Hp → Prop) (b : Bool) (s : Sto) : Prop := ∀ H' ι', Go ι ι' H H' → Rep P w K ι' H' s → Q b H'
/-- an expression's reading by its run -/
def tD (run : Env → Sto → Option (D × Sto)) : TE := fun σ H Q => ∃ ι env s d s', RepE K ι H env σ ∧ Rep P w K ι H s ∧ run env s = some (d, s') ∧ Ret P w K ι H Q d s'
def tDs (run : Env → Sto → Option (List D × Sto)) : TA := fun σ H Q => ∃ ι env s ds s', RepE K ι H env σ ∧ Rep P w K ι H s ∧ run env s = some (ds, s') ∧ Rets P w K ι H Q ds s'
def tDT (run : Env → Sto → Option (D × Sto)) : TT := fun σ H Q => ∃ ι env s b s', RepE K ι H env σ ∧ Rep P w K ι H s ∧ run env s = some (.bl b, s') ∧ RetB P w K ι H Q b s'
end
section
variable {P : Program} {w : World} {K : PySem.W.Frag} {ι ι' ι1 : List Addr} {H H' H1 : Hp} {s s' s1 : Sto}
theorem Ret.go {Q : VK} {d : D} (R1 : Rep P w K ι1 H1 s1) (g : Go ι ι1 H H1) (h : Ret P w K ι H Q d s') : Ret P w K ι1 H1 Q d s' := fun v H' ι' g' R' r => h v H' ι' (g.trans R1 g') R' r
theorem Rets.go {Q : List V → Hp → Prop} {d : List D} (R1 : Rep P w K ι1 H1 s1) (g : Go ι ι1 H H1) (h : Rets P w K ι H Q d s') : Rets P w K ι1 H1 Q d s' := fun v H' ι' g' R' r => h v H' ι' (g.trans R1 g') R' r
theorem RetB.go {Q : Bool → Hp → Prop} {d : Bool} (R1 : Rep P w K ι1 H1 s1) (g : Go ι ι1 H H1) (h : RetB P w K ι H Q d s') : RetB P w K ι1 H1 Q d s' := fun H' ι' g' R' => h H' ι' (g.trans R1 g') R'
end
section
variable {X : Cx} {e : Expr}
theorem _root_.L2.PE.weak {t t' : TE} (h : PE X e t) (q : ∀ σ H Q, t' σ H Q → t σ H Q) : PE X e t' := ⟨fun pins s σ H Q I hw => h.run pins s σ H Q I (q σ H Q hw)⟩
theorem _root_.L2.PT.weak {t t' : TT} (h : PT X e t) (q : ∀ σ H Q, t' σ H Q → t σ H Q) : PT X e t' := ⟨fun pins s σ H Q I hw => h.run pins s σ H Q I (q σ H Q hw)⟩
theorem _root_.L2.PW.weak {t t' : TT} (h : PW X e t) (q : ∀ σ H Q, t' σ H Q → t σ H Q) : PW X e t' := ⟨fun wh pins s σ H Q I hw => h.run wh pins s σ H Q I (q σ H Q hw)⟩
theorem _root_.L2.PA.weak {es : List Expr} {t t' : TA} (h : PA X es t) (q : ∀ σ H Q, t' σ H Q → t σ H Q) : PA X es t' := ⟨fun pos pins s σ H Q I hw => h.run pos pins s σ H Q I (q σ H Q hw)⟩
theorem _root_.L2.PS.weak {st : Stmt} {t t' : TS} (h : PS X st t) (q : ∀ D σ H, t' D σ H → t D σ H) : PS X st t' := ⟨fun pins s σ H D I hw => h.run pins s σ H D I (q D σ H hw)⟩
theorem _root_.L2.PSs.weak {st : List Stmt} {t t' : TS} (h : PSs X st t) (q : ∀ D σ H, t' D σ H → t D σ H) : PSs X st t' := ⟨fun pins s σ H D I hw => h.run pins s σ H D I (q D σ H hw)⟩
end
end Ev
end

section
set_option autoImplicit false
set_option maxRecDepth 100000
/-! Ev5: values read as data; comparisons -/
namespace Ev
open PySem L2 PySem.SeqAt

section
variable {K : PySem.W.Frag} {X : Cx} {pins : List (Addr × Obj)} {σ : St} {H : Hp} {sh : Shared} {ι : List Addr} {s : Sto}

mutual
theorem readsW (I : Inv X pins σ H sh) {r : Nat → Option PyData} (hr : ∀ (i : Nat) (x : PyData) (a : Addr), ι[i]? = some a → r i = some x → ∃ as, Reads sh.heap (.ref a) x as) :
    ∀ {d : D} {v : V} {u : Value} {x : PyData}, RD X.K ι H d v → RelV v u → d.dataW r = some x → ∃ as, Reads sh.heap u x as
  | .non, v, u, x, h, q, e => by
    rw [RD] at h; subst h; cases q; simp [D.dataW] at e; subst e; exact ⟨_, .none⟩
  | .bl b, v, u, x, h, q, e => by
    rw [RD] at h; subst h; cases q; simp [D.dataW] at e; subst e; exact ⟨_, .bool b⟩
  | .int i, v, u, x, h, q, e => by
    rw [RD] at h; subst h; obtain ⟨t, rfl⟩ := q; simp [D.dataW] at e; subst e; exact ⟨_, .int i t⟩
  | .str i, v, u, x, h, q, e => by
    rw [RD] at h; subst h; obtain ⟨t, rfl⟩ := q; simp [D.dataW] at e; subst e; exact ⟨_, .str i t⟩
  | .tup ds, v, u, x, h, q, e => by
    rw [RD] at h
    obtain ⟨a, vs, rfl, hs, hd⟩ := h
    cases q
    simp only [D.dataW, Option.map_eq_some_iff] at e
    obtain ⟨xs, e1, rfl⟩ := e
    obtain ⟨its, rv, ⟨o, ho, hc, n, hda⟩, hz⟩ := I.tuple hs.sq
    obtain ⟨as, ra⟩ := readsWs I hr hd rv e1
    exact ⟨as, .tuple ho hc hda (by simpa using ra)⟩
  | .ref i, v, u, x, h, q, e => by
    rw [RD] at h
    obtain ⟨a, rfl, hi⟩ := h
    cases q
    exact hr i x a hi (by simpa [D.dataW] using e)
  | .scr is, v, u, x, h, q, e => by simp [D.dataW] at e
theorem readsWs (I : Inv X pins σ H sh) {r : Nat → Option PyData} (hr : ∀ (i : Nat) (x : PyData) (a : Addr), ι[i]? = some a → r i = some x → ∃ as, Reads sh.heap (.ref a) x as) :
    ∀ {ds : List D} {vs : List V} {us : List Value} {xs : List PyData}, RDs X.K ι H ds vs → Vals vs us → D.dataWs r ds = some xs → ∃ as, ReadsAll sh.heap us xs as
  | [], vs, us, xs, h, q, e => by
    rw [RDs] at h; subst h; cases q; simp [D.dataWs] at e; subst e; exact ⟨_, .nil⟩
  | d :: ds, vs, us, xs, h, q, e => by
    rw [RDs] at h
    obtain ⟨v, t, rfl, h1, h2⟩ := h
    cases q with
    | cons q1 q2 =>
      simp only [D.dataWs, Option.bind_eq_some_iff, Option.map_eq_some_iff] at e
      obtain ⟨x, e1, ys, e2, rfl⟩ := e
      obtain ⟨as, r1⟩ := readsW I hr h1 q1 e1
      obtain ⟨bs, r2⟩ := readsWs I hr h2 q2 e2
      exact ⟨as ++ bs, .cons r1 r2⟩
end
theorem readsRef (I : Inv X pins σ H sh) (R : Rep X.prog X.w X.K ι H s) : ∀ (n i : Nat) (x : PyData) (a : Addr), ι[i]? = some a → refData s n i = some x → ∃ as, Reads sh.heap (.ref a) x as
  | 0, i, x, a, _, e => by simp [refData] at e
  | n + 1, i, x, a, hi, e => by
    rw [refData] at e
    cases hc : s[i]? with
    | none => rw [hc] at e; cases e
    | some c =>
      rw [hc] at e
      have q := R.cell i c a hc hi
      cases c with
      | lst ds =>
        simp only [Option.map_eq_some_iff] at e
        obtain ⟨xs, e1, rfl⟩ := e
        obtain ⟨vs, hv, rd⟩ := q
        obtain ⟨z, its, m, rv, ho⟩ := I.hok a _ hv
        obtain ⟨as, ra⟩ := readsWs I (fun i x a h1 h2 => readsRef I R n i x a h1 h2) rd rv e1
        exact ⟨_, .list ho rfl rfl (by simpa using ra)⟩
      | dct kvs =>
        simp only [C.kvs, Option.bind_some] at e
        split at e
        · cases e
          rename_i hk
          have hk' : kvs = [] := by simpa using hk
          subst hk'
          obtain ⟨u, hu, hq⟩ := q
          have : ∃ o es ep, sh.heap.get? a = some o ∧ o.cls = .type "dict" ∧ o.data = .dict es ep ∧ es.toList = [] := by
            rcases hq with ⟨kv', rfl, hp⟩ | ⟨xs, rfl, _, _, hp⟩
            · cases hp
              obtain ⟨_, _, vs, rel, o, es, ep, ho, hc, hda, _, hes, _⟩ := I.hok a _ hu
              cases rel
              refine ⟨o, es, ep, ho, hc.1, hda, ?_⟩
              generalize es.toList = l at hes
              cases hes
              rfl
            · cases hp
              obtain ⟨⟨_, o, es, ep, ho, hc, hda, hes⟩, _⟩ := I.hok a _ hu
              exact ⟨o, es, ep, ho, hc.1, hda, by simpa using hes⟩
          obtain ⟨o, es, ep, ho, hc, hda, hes⟩ := this
          exact ⟨_, .dict ho hc hda (by rw [hes]; exact .nil) (by rw [hes]; exact .nil)⟩
        · cases e
      | lck kvs =>
        simp only [C.kvs, Option.bind_some] at e
        split at e
        · cases e
          rename_i hk
          have hk' : kvs = [] := by simpa using hk
          subst hk'
          obtain ⟨o', u, hu, hq⟩ := q
          have : ∃ o es ep, sh.heap.get? a = some o ∧ o.cls = .type "dict" ∧ o.data = .dict es ep ∧ es.toList = [] := by
            have hok := (I.hok a _ hu).2
            rcases hq with ⟨kv', rfl, hp⟩ | ⟨xs, rfl, _, _, hp⟩
            · cases hp
              obtain ⟨_, _, vs, rel, o, es, ep, ho, hc, hda, _, hes, _⟩ := hok
              cases rel
              refine ⟨o, es, ep, ho, hc.1, hda, ?_⟩
              generalize es.toList = l at hes
              cases hes
              rfl
            · cases hp
              obtain ⟨⟨_, o, es, ep, ho, hc, hda, hes⟩, _⟩ := hok
              exact ⟨o, es, ep, ho, hc.1, hda, by simpa using hes⟩
          obtain ⟨o, es, ep, ho, hc, hda, hes⟩ := this
          exact ⟨_, .dict ho hc hda (by rw [hes]; exact .nil) (by rw [hes]; exact .nil)⟩
        · cases e
theorem reads_of (I : Inv X pins σ H sh) (R : Rep X.prog X.w X.K ι H s) {d : D} {v : V} {u : Value} {x : PyData} (h : RD X.K ι H d v) (q : RelV v u) (e : d.data s = some x) : ∃ as, Reads sh.heap u x as :=
  readsW I (readsRef I R 40) h q e
theorem reads_all (I : Inv X pins σ H sh) (R : Rep X.prog X.w X.K ι H s) {ds : List D} {vs : List V} {us : List Value} {xs : List PyData} (h : RDs X.K ι H ds vs) (q : Vals vs us) (e : dataAll s ds = some xs) : ∃ as, ReadsAll sh.heap us xs as :=
  readsWs I (readsRef I R 40) h q e
end

/-! ### comparisons -/
section
variable {X : Cx}
/-- a two-place operation on values that leaves the store: f the outcome -/
def rCmp (P : Program) (w : World) (K : PySem.W.Frag) (f : D → D → Sto → Option Bool) : R2 := fun vx vy H Q => ∃ ι s x y b, Rep P w K ι H s ∧ RD K ι H x vx ∧ RD K ι H y vy ∧ f x y s = some b ∧ Q (.bl b) H

theorem farL_len {s : Sto} {a b : D} (h : farL s a b = true) : ∃ i j x y, a = .ref i ∧ b = .ref j ∧ s[i]? = some (.lst x) ∧ s[j]? = some (.lst y) ∧ x.length ≠ y.length := by
  unfold farL at h
  split at h
  · split at h
    · rename_i i j _ _ x y h1 h2
      exact ⟨i, j, x, y, rfl, rfl, h1, h2, by simpa using h⟩
    · cases h
  · cases h
theorem op_eqD (hu : X.A.units + 200 < cLine) : OpR X (compareOp .Eq) (rCmp X.prog X.w X.K fun x y s => eqD s x y) := by
  intro pins sh σ H vx vy ux uy Q I rx ry h
  obtain ⟨ι, s, x, y, b, R, hx, hy, e, q⟩ := h
  replace e : eqD s x y = some b := e
  unfold eqD at e
  split at e
  · rename_i z1 z2 hz
    cases x <;> cases y <;> simp only [twoStr, reduceCtorEq, Option.some.injEq, Prod.mk.injEq] at hz
    obtain ⟨rfl, rfl⟩ := hz
    cases e
    rw [RD] at hx hy
    subst hx hy
    obtain ⟨t1, rfl⟩ := rx
    obtain ⟨t2, rfl⟩ := ry
    exact PyProof.Rows.eq_str ⟨.bl _, H, I, by rw [Bool.beq_eq_decide_eq]; rfl, q⟩
  by_cases hf : farL s x y = true
  · rw [if_pos hf] at e
    cases e
    obtain ⟨i, j, l1, l2, rfl, rfl, e1, e2, hne⟩ := farL_len hf
    obtain ⟨a1, rfl, _, w1, h1, r1⟩ := R.ofRef e1 hx
    obtain ⟨a2, rfl, _, w2, h2, r2⟩ := R.ofRef e2 hy
    cases rx; cases ry
    obtain ⟨z1, t1, n1, v1, o1⟩ := I.hok a1 _ h1
    obtain ⟨z2, t2, n2, v2, o2⟩ := I.hok a2 _ h2
    have l1' := r1.length; have l2' := r2.length; have l3 := v1.length; have l4 := v2.length
    exact RcAt.lists_lengths (items := t1.toArray) (items2 := t2.toArray) ⟨_, o1, rfl, _, rfl⟩ ⟨_, o2, rfl, _, rfl⟩ (by simp; omega) (by omega) X.prog X.w X.xe _ ⟨.bl false, H, I, rfl, q⟩
  · rw [if_neg hf] at e
    simp only [Option.bind_eq_some_iff] at e
    obtain ⟨dx, e1, dy, e2, e3⟩ := e
    split at e3
    · cases e3
      rename_i hc
      simp only [Bool.and_eq_true, decide_eq_true_eq] at hc
      obtain ⟨as, ra⟩ := reads_of I R hx rx e1
      obtain ⟨bs, rb⟩ := reads_of I R hy ry e2
      have hd : min dx.depth dy.depth ≤ 100 := hc.2
      exact compareEq_reads ra rb hc.1.1 hc.1.2 (by omega) ⟨.bl _, H, I, rfl, q⟩
    · cases e3
theorem op_neD (hu : X.A.units + 200 < cLine) : OpR X (compareOp .NotEq) (rCmp X.prog X.w X.K fun x y s => (eqD s x y).map (!·)) := by
  intro pins sh σ H vx vy ux uy Q I rx ry h
  obtain ⟨ι, s, x, y, b, R, hx, hy, e, q⟩ := h
  simp only [Option.map_eq_some_iff] at e
  obtain ⟨b', e, rfl⟩ := e
  replace e : eqD s x y = some b' := e
  unfold eqD at e
  split at e
  · rename_i z1 z2 hz
    cases x <;> cases y <;> simp only [twoStr, reduceCtorEq, Option.some.injEq, Prod.mk.injEq] at hz
    obtain ⟨rfl, rfl⟩ := hz
    cases e
    rw [RD] at hx hy
    subst hx hy
    obtain ⟨t1, rfl⟩ := rx
    obtain ⟨t2, rfl⟩ := ry
    exact PyProof.Rows.ne_str ⟨.bl _, H, I, by rw [bne, Bool.beq_eq_decide_eq]; rfl, q⟩
  by_cases hf : farL s x y = true
  · rw [if_pos hf] at e
    cases e
    obtain ⟨i, j, l1, l2, rfl, rfl, e1, e2, hne⟩ := farL_len hf
    obtain ⟨a1, rfl, _, w1, h1, r1⟩ := R.ofRef e1 hx
    obtain ⟨a2, rfl, _, w2, h2, r2⟩ := R.ofRef e2 hy
    cases rx; cases ry
    obtain ⟨z1, t1, n1, v1, o1⟩ := I.hok a1 _ h1
    obtain ⟨z2, t2, n2, v2, o2⟩ := I.hok a2 _ h2
    have l1' := r1.length; have l2' := r2.length; have l3 := v1.length; have l4 := v2.length
    exact RcNeAt.lists_lengths (items := t1.toArray) (items2 := t2.toArray) ⟨_, o1, rfl, _, rfl⟩ ⟨_, o2, rfl, _, rfl⟩ (by simp; omega) (by omega) X.prog X.w X.xe _ ⟨.bl true, H, I, rfl, q⟩
  · rw [if_neg hf] at e
    simp only [Option.bind_eq_some_iff] at e
    obtain ⟨dx, e1, dy, e2, e3⟩ := e
    split at e3
    · cases e3
      rename_i hc
      simp only [Bool.and_eq_true, decide_eq_true_eq] at hc
      obtain ⟨as, ra⟩ := reads_of I R hx rx e1
      obtain ⟨bs, rb⟩ := reads_of I R hy ry e2
      have hd : min dx.depth dy.depth ≤ 100 := hc.2
      exact compareNe_reads ra rb hc.1.1 hc.1.2 (by omega) ⟨.bl _, H, I, rfl, q⟩
    · cases e3
theorem op_ltD (hu : X.A.units + 200 < cLine) : OpR X (compareOp .Lt) (rCmp X.prog X.w X.K fun x y s => ltD s x y) := by
  intro pins sh σ H vx vy ux uy Q I rx ry h
  obtain ⟨ι, s, x, y, b, R, hx, hy, e, q⟩ := h
  replace e : ltD s x y = some b := e
  unfold ltD at e
  simp only [Option.bind_eq_some_iff] at e
  obtain ⟨dx, e1, dy, e2, e3⟩ := e
  split at e3
  · cases e3
    rename_i hc
    simp only [Bool.and_eq_true, decide_eq_true_eq] at hc
    obtain ⟨as, ra⟩ := reads_of I R hx rx e1
    obtain ⟨bs, rb⟩ := reads_of I R hy ry e2
    have hd : min dx.depth dy.depth ≤ 100 := hc.2
    exact PySem.W.rcLt_alike dx dy X.A sh ux uy as bs ra rb hc.1.1 (fun z => by subst z; simp [notNone] at hc) (by omega) X.prog X.w X.xe _ ⟨.bl _, H, I, rfl, q⟩
  · cases e3
end
end Ev
end

section
set_option autoImplicit false
set_option maxRecDepth 100000
set_option linter.unusedVariables false
/-! Ev6: operators, subscripts, slices by values -/
namespace Ev
open PySem L2 PySem.SeqAt

theorem L_eq : L = sizeLine := by rw [sizeLine_eq]; rfl

section
variable {P : Program} {w : World} {K : PySem.W.Frag} {ι : List Addr} {H : Hp} {s s' : Sto} {Q : VK} {d : D}
theorem Ret.here {v : V} (h : Ret P w K ι H Q d s) (R : Rep P w K ι H s) (r : RD K ι H d v) : Q v H := h v H ι Go.refl R r
theorem Ret.int {i : Int} (h : Ret P w K ι H Q (.int i) s) (R : Rep P w K ι H s) : Q (.int i) H := h.here R (by rw [RD])
theorem Ret.bl {i : Bool} (h : Ret P w K ι H Q (.bl i) s) (R : Rep P w K ι H s) : Q (.bl i) H := h.here R (by rw [RD])
theorem Ret.str {i : Str} (h : Ret P w K ι H Q (.str i) s) (R : Rep P w K ι H s) : Q (.str i) H := h.here R (by rw [RD])
theorem Ret.non (h : Ret P w K ι H Q .non s) (R : Rep P w K ι H s) : Q .non H := h.here R (by rw [RD])
theorem Ret.tup {ds : List D} {a : Addr} {vs : List V} (h : Ret P w K ι H Q (.tup ds) s) (R : Rep P w K ι H s) (q : RoT K H a vs) (r : RDs K ι H ds vs) : Q (.ref a) H := h.here R (by rw [RD]; exact ⟨a, vs, rfl, q, r⟩)
/-- a new tuple -/
theorem Ret.newT {ds : List D} {vs : List V} (h : Ret P w K ι H Q (.tup ds) s) (R : Rep P w K ι H s) (r : RDs K ι H ds vs) {p : Addr} {o : Obj} (hp : H p = none) (hd : o.dict = none) : Q (.ref p) (upd H p (.frz o (.tup vs))) := by
  refine h _ _ ι (Go.new hp) (R.new hp) ?_
  rw [RD]
  exact ⟨p, vs, rfl, .inl ⟨o, upd_same, hd⟩, r.mono (stay_upd hp) (fun _ _ e => e)⟩
/-- a new list -/
theorem Ret.newL {ds : List D} {vs : List V} (h : Ret P w K ι H Q (.ref s.length) (s ++ [.lst ds])) (R : Rep P w K ι H s) (r : RDs K ι H ds vs) {p : Addr} (hp : H p = none) : Q (.ref p) (upd H p (.lst vs)) := by
  have g : Go ι (ι ++ [p]) H (upd H p (.lst vs)) := Go.push hp
  refine h _ _ (ι ++ [p]) g (R.push hp ⟨vs, upd_same, g.rds R r⟩) ?_
  rw [RD]
  exact ⟨p, rfl, by rw [List.getElem?_append_right (by rw [R.len]; omega), R.len]; simp⟩
theorem RDs_ints : ∀ {ds : List D} {vs : List V} {ns : List Int}, RDs K ι H ds vs → intsD ds = some ns → vs = ns.map V.int
  | [], vs, ns, h, e => by rw [RDs] at h; subst h; simp [intsD] at e; subst e; rfl
  | d :: ds, vs, ns, h, e => by
    rw [RDs] at h
    obtain ⟨v, r, rfl, h1, h2⟩ := h
    cases d with
    | int i =>
      rw [RD] at h1; subst h1
      simp only [intsD, Option.map_eq_some_iff] at e
      obtain ⟨ms, e1, rfl⟩ := e
      rw [RDs_ints h2 e1]; rfl
    | _ => simp [intsD] at e
theorem RDs_bools : ∀ {ds : List D} {vs : List V} {ns : List Bool}, RDs K ι H ds vs → boolsD ds = some ns → vs = ns.map V.bl
  | [], vs, ns, h, e => by rw [RDs] at h; subst h; simp [boolsD] at e; subst e; rfl
  | d :: ds, vs, ns, h, e => by
    rw [RDs] at h
    obtain ⟨v, r, rfl, h1, h2⟩ := h
    cases d with
    | bl i =>
      rw [RD] at h1; subst h1
      simp only [boolsD, Option.map_eq_some_iff] at e
      obtain ⟨ms, e1, rfl⟩ := e
      rw [RDs_bools h2 e1]; rfl
    | _ => simp [boolsD] at e
end

/-! ### tuples as they are made -/
def tupObj (its : List Value) : Obj := { cls := .type "tuple", data := .seq its.toArray }
theorem newTup {X : Cx} {pins : List (Addr × Obj)} {σ : L2.St} {H : Hp} {s : Shared} (I : Inv X pins σ H s) {its : List Value} {vs : List V} (hv : Vals vs its) (hz : vs.length ≤ sizeLine) :
    Inv X pins σ (upd H s.heap.objs.size (.frz (tupObj its) (.tup vs))) { s with heap := s.heap.push (tupObj its) } :=
  I.laid (t' := s.toks) (fun _ _ e => Heap.get?_push_of_some _ e) (Nat.le_refl _) ⟨Heap.get?_push_size _ rfl, hz, its, hv, ⟨_, Heap.get?_push_size _ rfl, rfl, _, rfl⟩⟩
/-! ### two-place operators -/
def rBin (P : Program) (w : World) (K : PySem.W.Frag) (f : D → D → Sto → Option (D × Sto)) : R2 := fun vx vy H Q => ∃ ι s x y d s', Rep P w K ι H s ∧ RD K ι H x vx ∧ RD K ι H y vy ∧ f x y s = some (d, s') ∧ Ret P w K ι H Q d s'

section
variable {X : Cx}
theorem mulOk_ok {i j : Int} (h : mulOk i j = true) : IntMulOk i j := by
  unfold mulOk at h
  simp only [Bool.or_eq_true, decide_eq_true_eq] at h
  rcases h with (h | h) | h
  · exact CMulW.ok h
  · exact .of_left (intBits_le_64 (by omega) (by omega))
  · exact .of_right (intBits_le_64 (by omega) (by omega))
theorem op_binD (op : Operator) : OpR X (binaryOp op) (rBin X.prog X.w X.K fun x y s => binD op x y s) := by
  intro pins sh σ H vx vy ux uy Q I rx ry h
  obtain ⟨ι, s, x, y, d, s', R, hx, hy, e, q⟩ := h
  replace e : binD op x y s = some (d, s') := e
  unfold binD at e
  split at e
  · rename_i i j
    cases e
    rw [RD] at hx hy; subst hx hy
    exact op_add pins sh σ H _ _ ux uy Q I rx ry ⟨i, j, rfl, rfl, q.int R⟩
  · rename_i i j
    cases e
    rw [RD] at hx hy; subst hx hy
    exact op_sub pins sh σ H _ _ ux uy Q I rx ry ⟨i, j, rfl, rfl, q.int R⟩
  · rename_i i j
    split at e
    · rename_i hm
      cases e
      rw [RD] at hx hy; subst hx hy
      exact (opI (X := X) (C := IntMulOk) (g := fun i j => i * j) fun _ _ _ _ _ _ _ hc z => PyProof.Rows.mul_int z hc) pins sh σ H _ _ ux uy Q I rx ry ⟨i, j, rfl, rfl, mulOk_ok hm, q.int R⟩
    · cases e
  · rename_i i j
    split at e
    · rename_i hm
      cases e
      unfold divOk at hm
      simp only [Bool.and_eq_true, decide_eq_true_eq] at hm
      rw [RD] at hx hy; subst hx hy
      exact (opI (X := X) (C := fun _ j => j ≠ 0 ∧ j.natAbs.log2 < 9000) (g := fun i j => i.fdiv j) fun _ _ _ _ _ _ _ hc z => PyProof.Rows.floordiv_int hc.1 z (.inl (PyProof.noPylong_of_log2 hc.2))) pins sh σ H _ _ ux uy Q I rx ry ⟨i, j, rfl, rfl, hm, q.int R⟩
    · cases e
  · rename_i i j
    split at e
    · rename_i hm
      cases e
      unfold divOk at hm
      simp only [Bool.and_eq_true, decide_eq_true_eq] at hm
      rw [RD] at hx hy; subst hx hy
      exact op_modN pins sh σ H _ _ ux uy Q I rx ry ⟨i, j, rfl, rfl, hm.1, q.int R⟩
    · cases e
  · rename_i a b
    unfold newT at e
    split at e
    · rename_i hl
      cases e
      rw [RD] at hx hy
      obtain ⟨a1, xs, rfl, h1, r1⟩ := hx
      obtain ⟨a2, ys, rfl, h2, r2⟩ := hy
      have l1 := r1.length; have l2 := r2.length
      cases rx
      cases ry
      obtain ⟨its, v1, p1, _⟩ := I.tuple h1.sq
      obtain ⟨its2, v2, p2, _⟩ := I.tuple h2.sq
      have hz : xs.length + ys.length ≤ sizeLine := by rw [L_eq] at hl; simp at hl; omega
      by_cases hx : xs = []
      · subst hx
        have : a = [] := List.length_eq_zero_iff.mp (by simpa using l1.symm)
        subst this
        cases v1
        exact cat_tup0 p1 p2 ⟨.ref a2, H, I, rfl, q.tup R h2 r2⟩
      · refine HT.cat_tup p1 p2 (fun z => hx (v1.nil_iff.mp z)) (fun z => ⟨.ref a1, H, I, rfl, ?_⟩) (fun z => ?_) (by rw [← v1.length, ← v2.length]; exact hz)
        · have hy := v2.nil_iff.mp z
          subst hy
          have : b = [] := List.length_eq_zero_iff.mp (by simpa using l2.symm)
          subst this
          rw [List.append_nil] at q
          exact q.tup R h1 r1
        · exact ⟨.ref sh.heap.objs.size, _, newTup I (v1.append v2) (by rw [List.length_append]; exact hz), rfl, q.newT R (r1.append r2) (I.hok.fresh (Nat.le_refl _)) rfl⟩
    · cases e
  · rename_i a b
    split at e
    · rename_i hl
      cases e
      rw [RD] at hx hy; subst hx hy
      refine op_add_str pins sh σ H _ _ ux uy Q I rx ry ⟨a, b, rfl, rfl, ?_, q.str R⟩
      rw [L_eq] at hl
      have : (a ++ b).length = a.length + b.length := by rw [PySem.strLen_append]
      omega
    · cases e
  · rename_i i j
    split at e
    · rename_i a b h1 h2
      unfold newL at e
      split at e
      · rename_i hl
        cases e
        obtain ⟨a1, rfl, _, vs1, e1, r1⟩ := R.ofRef h1 hx
        obtain ⟨a2, rfl, _, vs2, e2, r2⟩ := R.ofRef h2 hy
        have l1 := r1.length; have l2 := r2.length
        refine op_cat pins sh σ H _ _ ux uy Q I rx ry ⟨a1, a2, vs1, vs2, rfl, rfl, e1, e2, ?_, fun p hp => q.newL R (r1.append r2) hp⟩
        rw [L_eq] at hl; simp at hl; omega
      · cases e
    · cases e
  · cases e
end
end Ev
end

section
set_option autoImplicit false
set_option maxRecDepth 100000
set_option linter.unusedVariables false
/-! Ev7: dicts by values -/
namespace Ev
open PySem L2 PySem.SeqAt

theorem dK_inj {a b : Key} (h : dK a = dK b) : a = b := by
  cases a <;> cases b <;> simp_all [dK]
theorem atomK_dK {d : D} (h : atomK d = true) : ∃ k, d = dK k := by
  cases d with
  | int i => exact ⟨.inl i, rfl⟩
  | str x => exact ⟨.inr x, rfl⟩
  | _ => simp [atomK] at h
theorem atomK_of (k : Key) : atomK (dK k) = true := by cases k <;> rfl
theorem tupK_nk {d : D} (h : tupK d = true) : ∃ ds ks, d = .tup ds ∧ D.nks ds = some ks ∧ d.nk = some (.tup ks) ∧ (NestedKey.tup ks).depth ≤ 8 := by
  cases d with
  | tup ds =>
    unfold tupK at h
    simp only at h
    split at h
    · rename_i ks e
      exact ⟨ds, ks, rfl, e, by simp [D.nk, e], of_decide_eq_true h⟩
    · cases h
  | _ => simp [tupK] at h
theorem RD_dK {K : PySem.W.Frag} {ι : List Addr} {H : Hp} {k : Key} {v : V} (h : RD K ι H (dK k) v) : v = kV k := by
  cases k with
  | inl i => have h : RD K ι H (.int i) v := h; rw [RD] at h; exact h
  | inr x => have h : RD K ι H (.str x) v := h; rw [RD] at h; exact h

section
variable {P : Program} {w : World} {K : PySem.W.Frag} {ι : List Addr} {H : Hp}
theorem paired_get {α β : Type} {F : α → β → Prop} : ∀ {l : List α} {m : List β} {i : Nat} {a : α}, Paired F l m → l[i]? = some a → ∃ b, m[i]? = some b ∧ F a b
  | _, _, _, _, .nil, e => by simp at e
  | _, _, 0, _, .cons r _, e => by simp at e; subst e; exact ⟨_, rfl, r⟩
  | _, _, i + 1, a, .cons _ t, e => by
    obtain ⟨b, h1, h2⟩ := paired_get (i := i) (a := a) t (by simpa using e)
    exact ⟨b, by simpa using h1, h2⟩
theorem dget_cons_pos {p : D × D} {r : List (D × D)} {k : D} (e : p.1 = k) : dget (p :: r) k = some p.2 := by simp [dget, e]
theorem dget_cons_neg {p : D × D} {r : List (D × D)} {k : D} (e : ¬ p.1 = k) : dget (p :: r) k = dget r k := by simp [dget, e]
/-- a look-up -/
theorem atom_get {k : Key} : ∀ {kvs : List (D × D)} {kv' : List (Key × V)}, Paired (atomKV K ι H) kvs kv' →
    (∀ d, dget kvs (dK k) = some d → ∃ v, valV kv' k = some v ∧ RD K ι H d v) ∧ (dget kvs (dK k) = none → valV kv' k = none)
  | _, _, .nil => ⟨fun d e => by simp [dget] at e, fun _ => rfl⟩
  | _, _, .cons (a := p) (b := q) (l₁ := r) (l₂ := r') ⟨h1, h2⟩ t => by
    by_cases e : q.1 = k
    · rw [dget_cons_pos (by rw [h1, e]), valV_pos e]
      exact ⟨fun d z => by cases z; exact ⟨_, rfl, h2⟩, fun z => by cases z⟩
    · rw [dget_cons_neg (by rw [h1]; exact fun z => e (dK_inj z)), valV_neg e]
      exact atom_get t
theorem nest_get {k : D} {nk : NestedKey} (hk : k.nk = some nk) : ∀ {kvs : List (D × D)} {xs : List (NestedKey × Addr × Value)}, Paired (nestKV K ι H) kvs xs →
    (∀ d, dget kvs k = some d → ∃ p v, atKey xs nk = some p ∧ RelV v p.2 ∧ RD K ι H d v) ∧ (dget kvs k = none → atKey xs nk = none)
  | _, _, .nil => ⟨fun d e => by simp [dget] at e, fun _ => rfl⟩
  | _, _, .cons (a := p) (b := x) (l₁ := r) (l₂ := r') ⟨h1, h2, h3, v, h4, h5⟩ t => by
    by_cases e : x.1 = nk
    · have : p.1 = k := D.nk_inj h1 (by rw [e]; exact hk)
      rw [dget_cons_pos this]
      have : atKey (x :: r') nk = some x.2 := by simp [atKey, e]
      rw [this]
      exact ⟨fun d z => by cases z; exact ⟨_, v, rfl, h4, h5⟩, fun z => by cases z⟩
    · have : ¬ p.1 = k := fun z => e (by rw [z, hk] at h1; exact (Option.some.inj h1).symm)
      rw [dget_cons_neg this]
      have : atKey (x :: r') nk = atKey r' nk := by simp [atKey, e]
      rw [this]
      exact nest_get hk t
theorem Paired.append' {α β : Type} {F : α → β → Prop} : ∀ {a b : List α} {x y : List β}, Paired F a x → Paired F b y → Paired F (a ++ b) (x ++ y)
  | _, _, _, _, .nil, s => s
  | _, _, _, _, .cons r t, s => .cons r (Paired.append' t s)
theorem atom_any {k : Key} : ∀ {kvs : List (D × D)} {kv' : List (Key × V)}, Paired (atomKV K ι H) kvs kv' → (kvs.any fun kv => decide (kv.1 = dK k)) = (kv'.any fun kv => decide (kv.1 = k))
  | _, _, .nil => rfl
  | _, _, .cons (a := p) (b := q) ⟨h1, h2⟩ t => by
    rw [List.any_cons, List.any_cons, atom_any t, h1]
    congr 1
    by_cases e : q.1 = k
    · simp [e]
    · rw [decide_eq_false e, decide_eq_false fun z => e (dK_inj z)]
theorem atom_map {k : Key} {d : D} {v : V} (rv : RD K ι H d v) : ∀ {kvs : List (D × D)} {kv' : List (Key × V)}, Paired (atomKV K ι H) kvs kv' →
    Paired (atomKV K ι H) (kvs.map fun kv => if kv.1 = dK k then (kv.1, d) else kv) (kv'.map fun kv => if kv.1 = k then (kv.1, v) else kv)
  | _, _, .nil => .nil
  | _, _, .cons (a := p) (b := q) ⟨h1, h2⟩ t => by
    rw [List.map_cons, List.map_cons]
    refine .cons ?_ (atom_map rv t)
    by_cases e : q.1 = k
    · rw [if_pos e, if_pos (by rw [h1, e])]; exact ⟨h1, rv⟩
    · rw [if_neg e, if_neg (by rw [h1]; exact fun z => e (dK_inj z))]; exact ⟨h1, h2⟩
theorem atom_put {k : Key} {d : D} {v : V} (rv : RD K ι H d v) {kvs : List (D × D)} {kv' : List (Key × V)} (h : Paired (atomKV K ι H) kvs kv') : Paired (atomKV K ι H) (dput kvs (dK k) d) (putK kv' k v) := by
  unfold dput putK
  rw [atom_any h]
  split
  · exact atom_map rv h
  · exact Paired.append' h (.cons ⟨rfl, rv⟩ .nil)
theorem nest_any {k : D} {nk : NestedKey} (hk : k.nk = some nk) : ∀ {kvs : List (D × D)} {xs : List (NestedKey × Addr × Value)}, Paired (nestKV K ι H) kvs xs → (kvs.any fun kv => decide (kv.1 = k)) = (atKey xs nk).isSome
  | _, _, .nil => rfl
  | _, _, .cons (a := p) (b := x) (l₂ := r') ⟨h1, h2, h3, v, h4, h5⟩ t => by
    rw [List.any_cons, nest_any hk t]
    by_cases e : x.1 = nk
    · have : p.1 = k := D.nk_inj h1 (by rw [e]; exact hk)
      have e2 : atKey (x :: r') nk = some x.2 := by simp [atKey, e]
      rw [decide_eq_true this, e2]; rfl
    · have : ¬ p.1 = k := fun z => e (by rw [z, hk] at h1; exact (Option.some.inj h1).symm)
      have e2 : atKey (x :: r') nk = atKey r' nk := by simp [atKey, e]
      rw [decide_eq_false this, e2]; rfl
theorem nest_map {k : D} {nk : NestedKey} (hk : k.nk = some nk) {d : D} {v : V} {u : Value} (ru : RelV v u) (rv : RD K ι H d v) : ∀ {kvs : List (D × D)} {xs : List (NestedKey × Addr × Value)}, Paired (nestKV K ι H) kvs xs →
    Paired (nestKV K ι H) (kvs.map fun kv => if kv.1 = k then (kv.1, d) else kv) (xs.map (putAt nk u))
  | _, _, .nil => .nil
  | _, _, .cons (a := p) (b := x) ⟨h1, h2, h3, v', h4, h5⟩ t => by
    rw [List.map_cons, List.map_cons]
    refine .cons ?_ (nest_map hk ru rv t)
    unfold putAt
    by_cases e : x.1 = nk
    · rw [if_pos e, if_pos (D.nk_inj h1 (by rw [e]; exact hk))]; exact ⟨h1, h2, h3, v, ru, rv⟩
    · rw [if_neg e, if_neg (fun z => e (by rw [z, hk] at h1; exact (Option.some.inj h1).symm))]; exact ⟨h1, h2, h3, v', h4, h5⟩
theorem nest_put {k : D} {nk : NestedKey} (hk : k.nk = some nk) (hd : nk.depth ≤ 8) {b : Addr} (rk : RD K ι H k (.ref b)) {d : D} {v : V} {u : Value} (ru : RelV v u) (rv : RD K ι H d v) {kvs : List (D × D)} {xs : List (NestedKey × Addr × Value)} (h : Paired (nestKV K ι H) kvs xs) :
    Paired (nestKV K ι H) (dput kvs k d) (storedH xs nk b u) := by
  unfold dput storedH
  rw [nest_any hk h]
  split
  · exact nest_map hk ru rv h
  · exact Paired.append' h (.cons ⟨hk, hd, rk, v, ru, rv⟩ .nil)
end

section
variable {X : Cx} {pins : List (Addr × Obj)} {σ : St} {H : Hp} {sh : Shared} {ι : List Addr} {s : Sto}
mutual
theorem nestIs (I : Inv X pins σ H sh) : ∀ {d : D} {v : V} {u : Value} {k : NestedKey}, RD X.K ι H d v → RelV v u → d.nk = some k → NestedIs sh.heap k u
  | .non, v, u, k, h, q, e => by rw [RD] at h; subst h; cases q; simp [D.nk] at e; subst e; exact .none
  | .bl b, v, u, k, h, q, e => by simp [D.nk] at e
  | .int i, v, u, k, h, q, e => by rw [RD] at h; subst h; obtain ⟨t, rfl⟩ := q; simp [D.nk] at e; subst e; exact .int i t
  | .str x, v, u, k, h, q, e => by rw [RD] at h; subst h; obtain ⟨t, rfl⟩ := q; simp [D.nk] at e; subst e; exact .text x t
  | .tup ds, v, u, k, h, q, e => by
    rw [RD] at h
    obtain ⟨a, vs, rfl, hs, hd⟩ := h
    cases q
    simp only [D.nk, Option.map_eq_some_iff] at e
    obtain ⟨ks, e1, rfl⟩ := e
    obtain ⟨its, rv, ⟨o, ho, hc, n, hda⟩, hz⟩ := I.tuple hs.sq
    exact .tup ho hc hda (by simpa using nestAll I hd rv e1)
  | .ref i, v, u, k, h, q, e => by simp [D.nk] at e
  | .scr _, v, u, k, h, q, e => by simp [D.nk] at e
theorem nestAll (I : Inv X pins σ H sh) : ∀ {ds : List D} {vs : List V} {us : List Value} {ks : List NestedKey}, RDs X.K ι H ds vs → Vals vs us → D.nks ds = some ks → NestedAll sh.heap ks us
  | [], vs, us, ks, h, q, e => by rw [RDs] at h; subst h; cases q; simp [D.nks] at e; subst e; exact .nil
  | d :: ds, vs, us, ks, h, q, e => by
    rw [RDs] at h
    obtain ⟨v, t, rfl, h1, h2⟩ := h
    cases q with
    | cons q1 q2 =>
      simp only [D.nks, Option.bind_eq_some_iff, Option.map_eq_some_iff] at e
      obtain ⟨x, e1, ys, e2, rfl⟩ := e
      exact .cons (nestIs I h1 q1 e1) (nestAll I h2 q2 e2)
end
/-- the dict at a is to be read -/
def DRd (H : Hp) (a : Addr) (u : HO) : Prop := H a = some u ∨ ∃ o, H a = some (.frz o u)
theorem CellAt.drd {P : Program} {w : World} {K : PySem.W.Frag} {c : C} {a : Addr} {kvs : List (D × D)} (h : CellAt P w K ι H c a) (e : c.kvs = some kvs) : ∃ u, DRd H a u ∧ DctAt P w K ι H kvs a u := by
  cases c with
  | lst ds => simp [C.kvs] at e
  | dct k => simp only [C.kvs, Option.some.injEq] at e; subst e; obtain ⟨u, h1, h2⟩ := h; exact ⟨u, .inl h1, h2⟩
  | lck k => simp only [C.kvs, Option.some.injEq] at e; subst e; obtain ⟨o, u, h1, h2⟩ := h; exact ⟨u, .inr ⟨o, h1⟩, h2⟩
theorem DRd.ok (I : Inv X pins σ H sh) {a : Addr} {u : HO} (h : DRd H a u) : ObjOk X.prog X.w H sh.heap a u := by
  rcases h with h | ⟨o, h⟩
  · exact I.hok a u h
  · exact (I.hok a _ h).2
/-- .. as a dict of ints and texts -/
theorem dictA (I : Inv X pins σ H sh) {a : Addr} {u : HO} {kvs : List (D × D)} (hr : DRd H a u) (h : DctAt X.prog X.w X.K ι H kvs a u) (hk : (kvs.all fun kv => atomK kv.1) = true) :
    ∃ kv' vs, Paired (atomKV X.K ι H) kvs kv' ∧ KV kv' vs ∧ sh.heap.DictOf (mixKind X.prog X.w) a vs ∧ (a == sysModules) = false ∧ kv'.length ≤ sizeLine := by
  have ok := hr.ok I
  rcases h with ⟨kv', rfl, hp⟩ | ⟨xs, rfl, hl, hn, hp⟩
  · obtain ⟨z, hs, vs, rel, dd⟩ := ok
    exact ⟨kv', vs, hp, rel, dd, hs, z⟩
  · obtain ⟨⟨hs, o, es, ep, ho, hc, hda, hes⟩, _⟩ := ok
    cases hp with
    | nil =>
      have e : es = #[] := by simpa using hes
      subst e
      refine ⟨[], [], .nil, .nil, ⟨o, #[], ep, ho, hc, hda, ?_, .nil, List.nodup_nil⟩, hs, Nat.zero_le _⟩
      intro i; simp
    | cons q t =>
      obtain ⟨h1, h2, h3, v, h4, h5⟩ := q
      rename_i p x r r'
      simp only [List.all_cons, Bool.and_eq_true] at hk
      obtain ⟨k, e⟩ := atomK_dK hk.1
      rw [e] at h3
      have := RD_dK h3
      cases k <;> cases this
/-- .. as a dict of tuples -/
theorem dictN (I : Inv X pins σ H sh) {a : Addr} {u : HO} {kvs : List (D × D)} (hr : DRd H a u) (h : DctAt X.prog X.w X.K ι H kvs a u) (hk : (kvs.all fun kv => tupK kv.1) = true) :
    ∃ xs, Paired (nestKV X.K ι H) kvs xs ∧ sh.heap.DictOfH (nestedKind X.prog X.w) a xs ∧ (a == sysModules) = false ∧ xs.length ≤ sizeLine := by
  have ok := hr.ok I
  rcases h with ⟨kv', rfl, hp⟩ | ⟨xs, rfl, hl, hn, hp⟩
  · obtain ⟨z, hs, vs, rel, dd⟩ := ok
    cases hp with
    | nil =>
      cases rel
      obtain ⟨o, es, ep, ho, hc, hda, _, hes, _⟩ := dd
      refine ⟨[], .nil, ⟨o, es, ep, ho, hc, hda, ?_, by simp, by simp⟩, hs, Nat.zero_le _⟩
      generalize es.toList = l at hes
      cases hes
      rfl
    | cons q t =>
      obtain ⟨h1, h2⟩ := q
      simp only [List.all_cons, Bool.and_eq_true] at hk
      rw [h1] at hk
      rename_i p x r r'
      have := hk.1
      cases hx : x.1 <;> simp [hx, dK, tupK] at this
  · obtain ⟨⟨hs, o, es, ep, ho, hc, hda, hes⟩, _⟩ := ok
    refine ⟨xs, hp, ⟨o, es, ep, ho, hc, hda, hes, fun x hx => ?_, hn⟩, hs, hl⟩
    obtain ⟨i, hi⟩ := List.mem_iff_getElem?.mp hx
    have : ∃ p, kvs[i]? = some p ∧ nestKV X.K ι H p x := by
      have hlen := Paired.length hp
      have hlt : i < kvs.length := by
        have := (List.getElem?_eq_some_iff.mp hi).1
        omega
      obtain ⟨b, e1, e2⟩ := paired_get hp (List.getElem?_eq_getElem hlt)
      rw [hi] at e1; cases e1
      exact ⟨_, List.getElem?_eq_getElem hlt, e2⟩
    obtain ⟨p, _, h1, h2, h3, _⟩ := this
    exact ⟨nestIs I h3 rfl h1, h2⟩
theorem keyFits_cases {kvs : List (D × D)} {k : D} (h : keyFits kvs k = true) : (∃ q, k = dK q ∧ (kvs.all fun kv => atomK kv.1) = true) ∨ (∃ ds ks, k = .tup ds ∧ k.nk = some (.tup ks) ∧ (NestedKey.tup ks).depth ≤ 8 ∧ (kvs.all fun kv => tupK kv.1) = true) := by
  unfold keyFits at h
  simp only [Bool.or_eq_true, Bool.and_eq_true] at h
  rcases h with ⟨h1, h2⟩ | ⟨h1, h2⟩
  · obtain ⟨q, e⟩ := atomK_dK h1
    exact .inl ⟨q, e, h2⟩
  · obtain ⟨ds, ks, e, _, e2, e3⟩ := tupK_nk h1
    exact .inr ⟨ds, ks, e, e2, e3, h2⟩
theorem room_nk {X : Cx} (hu : X.A.units + 200 < cLine) : (nestedKind X.prog X.w).room X.A.in1 := by
  show X.A.units + 1 + 8 < cLine
  omega

/-- d[k], there -/
theorem dGetItem {E : Value → Shared → Prop} {Q : Value → Shared → Prop} (hu : X.A.units + 200 < cLine) (I : Inv X pins σ H sh) {a : Addr} {u : HO} {kvs : List (D × D)} (hr : DRd H a u) (h : DctAt X.prog X.w X.K ι H kvs a u) {k d : D} (hf : keyFits kvs k = true) (hg : dget kvs k = some d)
    {vk : V} {uk : Value} (rk : RD X.K ι H k vk) (ru : RelV vk uk) (q : ∀ v u' s', Inv X pins σ H s' → RelV v u' → RD X.K ι H d v → Q u' s') : wpAny (model X.prog X.w) X.A (getItem (.ref a) uk) Q E sh := by
  rcases keyFits_cases hf with ⟨kk, rfl, hk⟩ | ⟨ds, ks, rfl, hnk, hdp, hk⟩
  · obtain ⟨kv', vs, hp, rel, dd, hs, _⟩ := dictA I hr h hk
    obtain ⟨v, hv, rv⟩ := (atom_get hp).1 d hg
    have := RD_dK rk; subst this
    obtain ⟨w', hw, rw'⟩ := RelO.some_of (v := v) (o := valueAt vs kk) (by rw [← hv]; exact rel.val kk)
    exact wpAny_getItem_of (kV_is ru) dd.mapOf hw (q v w' _ (I.tok _) rw' rv)
  · obtain ⟨xs, hp, dd, hs, _⟩ := dictN I hr h hk
    obtain ⟨p, v, hv, rw', rv⟩ := (nest_get hnk hp).1 d hg
    have rk' := rk
    rw [RD] at rk'
    obtain ⟨b, ws, rfl, _, _⟩ := rk'
    cases ru
    exact wpAny_getItem_heap (room_nk hu) ⟨nestIs I rk rfl hnk, hdp⟩ dd hv (q v p.2 _ (I.tok _) rw' rv)
theorem dIn {E : Value → Shared → Prop} {Q : Value → Shared → Prop} (hu : X.A.units + 200 < cLine) (I : Inv X pins σ H sh) {a : Addr} {u : HO} {kvs : List (D × D)} (hr : DRd H a u) (h : DctAt X.prog X.w X.K ι H kvs a u) {k : D} (hf : keyFits kvs k = true)
    {vk : V} {uk : Value} (rk : RD X.K ι H k vk) (ru : RelV vk uk) (q : ∀ s', Inv X pins σ H s' → Q (.bool (dget kvs k).isSome) s') : wpAny (model X.prog X.w) X.A (compareOp .In uk (.ref a)) Q E sh := by
  rcases keyFits_cases hf with ⟨kk, rfl, hk⟩ | ⟨ds, ks, rfl, hnk, hdp, hk⟩
  · obtain ⟨kv', vs, hp, rel, dd, hs, _⟩ := dictA I hr h hk
    have := RD_dK rk; subst this
    refine wpAny_in_of (kV_is ru) hs dd.mapOf ?_
    have e : (dget kvs (dK kk)).isSome = (valueAt vs kk).isSome := by
      rw [← (rel.val kk).isSome_eq]
      cases e : dget kvs (dK kk) with
      | none => rw [(atom_get hp).2 e]; rfl
      | some d => obtain ⟨v, hv, _⟩ := (atom_get hp).1 d e; rw [hv]; rfl
    rw [← e]
    exact q _ (I.tok _)
  · obtain ⟨xs, hp, dd, hs, _⟩ := dictN I hr h hk
    have rk' := rk
    rw [RD] at rk'
    obtain ⟨b, ws, rfl, _, _⟩ := rk'
    cases ru
    refine wpAny_in_heap (room_nk hu) ⟨nestIs I rk rfl hnk, hdp⟩ hs dd ?_
    have e : (dget kvs (.tup ds)).isSome = (atKey xs (.tup ks)).isSome := by
      cases e : dget kvs (.tup ds) with
      | none => rw [(nest_get hnk hp).2 e]; rfl
      | some d => obtain ⟨p, v, hv, _⟩ := (nest_get hnk hp).1 d e; rw [hv]; rfl
    rw [← e]
    exact q _ (I.tok _)
theorem dNotIn {E : Value → Shared → Prop} {Q : Value → Shared → Prop} (hu : X.A.units + 200 < cLine) (I : Inv X pins σ H sh) {a : Addr} {u : HO} {kvs : List (D × D)} (hr : DRd H a u) (h : DctAt X.prog X.w X.K ι H kvs a u) {k : D} (hf : keyFits kvs k = true)
    {vk : V} {uk : Value} (rk : RD X.K ι H k vk) (ru : RelV vk uk) (q : ∀ s', Inv X pins σ H s' → Q (.bool (!(dget kvs k).isSome)) s') : wpAny (model X.prog X.w) X.A (compareOp .NotIn uk (.ref a)) Q E sh := by
  rcases keyFits_cases hf with ⟨kk, rfl, hk⟩ | ⟨ds, ks, rfl, hnk, hdp, hk⟩
  · obtain ⟨kv', vs, hp, rel, dd, hs, _⟩ := dictA I hr h hk
    have := RD_dK rk; subst this
    refine wpAny_notIn_of (kV_is ru) hs dd.mapOf ?_
    have e : (dget kvs (dK kk)).isSome = (valueAt vs kk).isSome := by
      rw [← (rel.val kk).isSome_eq]
      cases e : dget kvs (dK kk) with
      | none => rw [(atom_get hp).2 e]; rfl
      | some d => obtain ⟨v, hv, _⟩ := (atom_get hp).1 d e; rw [hv]; rfl
    rw [← e]
    exact q _ (I.tok _)
  · obtain ⟨xs, hp, dd, hs, _⟩ := dictN I hr h hk
    have rk' := rk
    rw [RD] at rk'
    obtain ⟨b, ws, rfl, _, _⟩ := rk'
    cases ru
    refine PyProof.Rows.wpAny_notIn_heap (room_nk hu) ⟨nestIs I rk rfl hnk, hdp⟩ hs dd ?_
    have e : (dget kvs (.tup ds)).isSome = (atKey xs (.tup ks)).isSome := by
      cases e : dget kvs (.tup ds) with
      | none => rw [(nest_get hnk hp).2 e]; rfl
      | some d => obtain ⟨p, v, hv, _⟩ := (nest_get hnk hp).1 d e; rw [hv]; rfl
    rw [← e]
    exact q _ (I.tok _)
/-- d.get(k, x) -/
theorem dGet2 {E : Value → Shared → Prop} {Q : Value → Shared → Prop} (hu : X.A.units + 200 < cLine) (I : Inv X pins σ H sh) {a : Addr} {u : HO} {kvs : List (D × D)} (hr : DRd H a u) (h : DctAt X.prog X.w X.K ι H kvs a u) {k : D} (hf : keyFits kvs k = true)
    {vk : V} {uk : Value} (rk : RD X.K ι H k vk) (ru : RelV vk uk) {x : D} {vx : V} {ux : Value} (rx : RD X.K ι H x vx) (rux : RelV vx ux)
    (q : ∀ v u' s', Inv X pins σ H s' → RelV v u' → RD X.K ι H ((dget kvs k).getD x) v → Q u' s') : wpAny (model X.prog X.w) X.A (call (.builtin "dict.get") [.ref a, uk, ux]) Q E sh := by
  rcases keyFits_cases hf with ⟨kk, rfl, hk⟩ | ⟨ds, ks, rfl, hnk, hdp, hk⟩
  · obtain ⟨kv', vs, hp, rel, dd, hs, _⟩ := dictA I hr h hk
    have := RD_dK rk; subst this
    have go : ∀ v u' s', Inv X pins σ H s' → RelV v u' → v = (valV kv' kk).getD vx → Q u' s' := fun v u' s' I' r' e => by
      refine q v u' s' I' r' ?_
      cases e2 : dget kvs (dK kk) with
      | none => rw [(atom_get hp).2 e2] at e; subst e; exact rx
      | some d => obtain ⟨v', hv, rv⟩ := (atom_get hp).1 d e2; rw [hv] at e; subst e; exact rv
    refine call_meetsIn PySem.F.slot_dict_get dd.typeIs PySem.F.entry_dict_get (PySem.F.args_dict_get_3 _ _ _) (meets_dict_get_default (mixKind X.prog X.w) a (kV_is ru) hs ux) ⟨_, dd.mapOf, ?_⟩
    exact go _ _ _ (I.tok _) ((rel.val kk).getD rux) rfl
  · obtain ⟨xs, hp, dd, hs, _⟩ := dictN I hr h hk
    have rk' := rk
    rw [RD] at rk'
    obtain ⟨b, ws, rfl, _, _⟩ := rk'
    cases ru
    refine call_meetsIn PySem.F.slot_dict_get dd.typeIs PySem.F.entry_dict_get (PySem.F.args_dict_get_3 _ _ _) (meetsH_dict_get_default (nestedKind X.prog X.w) a b hs ux) ⟨room_nk hu, .tup ks, xs, ⟨nestIs I rk rfl hnk, hdp⟩, dd, ?_⟩
    cases e : dget kvs (.tup ds) with
    | none => rw [(nest_get hnk hp).2 e]; rw [e] at q; exact q vx ux _ (I.tok _) rux rx
    | some d =>
      obtain ⟨p, v, hv, rw', rv⟩ := (nest_get hnk hp).1 d e
      rw [hv]; rw [e] at q
      exact q v p.2 _ (I.tok _) rw' rv
end
end Ev
end

section
set_option autoImplicit false
set_option maxRecDepth 100000
set_option linter.unusedVariables false
/-! Ev8: stores into dicts and lists, subscripts, slices, in -/
namespace Ev
open PySem L2 PySem.SeqAt

section
variable {X : Cx} {pins : List (Addr × Obj)} {σ : St} {H : Hp} {sh : Shared} {ι : List Addr} {s : Sto}

theorem ndOk {P : Program} {w : World} {H' : Hp} {h' : Heap} {a : Addr} {xs : List (NestedKey × Addr × Value)} (h : ndPhi P w a xs h') : ObjOk P w H' h' a (ndHO P w a xs) := by
  refine ⟨h, ?_, fun h1 h2 p k => ?_⟩
  · obtain ⟨_, o, _, _, e, _⟩ := h
    exact ⟨o, e⟩
  · obtain ⟨z, o, es, ep, e, r⟩ := p
    exact ⟨z, o, es, ep, k o e, r⟩
/-- d[k] = x -/
theorem dSetItem {E : Value → Shared → Prop} {Q : Unit → Shared → Prop} (hu : X.A.units + 200 < cLine) (I : Inv X pins σ H sh) {a : Addr} {u : HO} {kvs : List (D × D)} (hH : H a = some u) (h : DctAt X.prog X.w X.K ι H kvs a u) {k : D} (hf : keyFits kvs k = true) (hl : kvs.length < sizeLine)
    {vk : V} {uk : Value} (rk : RD X.K ι H k vk) (ru : RelV vk uk) {x : D} {vx : V} {ux : Value} (rx : RD X.K ι H x vx) (rux : RelV vx ux)
    (q : ∀ s' u', Inv X pins σ (upd H a u') s' → DctAt X.prog X.w X.K ι (upd H a u') (dput kvs k x) a u' → Q () s') : wpAny (model X.prog X.w) X.A (setItem (.ref a) uk ux) Q E sh := by
  obtain ⟨n1, n2, n3, mu⟩ := h.notTup
  have hT : ∀ u', Stay X.K H (upd H a u') := fun u' => stay_set hH n1 (fun q' vs' e => n2 _ _ e) (fun q' vs' e => n2 _ _ e)
  have hput : (dput kvs k x).length ≤ kvs.length + 1 := by
    unfold dput
    split <;> simp
  rcases keyFits_cases hf with ⟨kk, rfl, hk⟩ | ⟨ds, ks, rfl, hnk, hdp, hk⟩
  · obtain ⟨kv', vs, hp, rel, dd, hs, hlen⟩ := dictA I (.inl hH) h hk
    have := RD_dK rk; subst this
    have e1 := Paired.length hp
    have e2 := rel.length
    refine wpAny_setItem_pairs (hsz := by omega) (kV_is ru) dd fun h' dd' hb => ?_
    have hp' : Paired (atomKV X.K ι (upd H a (.dK (putK kv' kk vx)))) (dput kvs (dK kk) x) (putK kv' kk vx) :=
      Paired.mapP (atom_put rx hp) fun p z ⟨h1, h2⟩ => ⟨h1, h2.mono (hT _) fun _ _ e => e⟩
    have hpl := length_putK kv' kk vx
    refine q _ (.dK (putK kv' kk vx)) (d_write I (by rw [hH]; exact mu) hb (let ⟨z, _, _, hz, _⟩ := dd'; ⟨z, hz⟩) ⟨by omega, hs, _, rel.put kk rux, dd'⟩) (.inl ⟨_, rfl, hp'⟩)
  · obtain ⟨xs, hp, dd, hs, hlen⟩ := dictN I (.inl hH) h hk
    have rk' := rk
    rw [RD] at rk'
    obtain ⟨b, ws, rfl, _, _⟩ := rk'
    cases ru
    have e1 := Paired.length hp
    refine wpAny_setItem_heap (hsz := hlen) (room_nk hu) ⟨nestIs I rk rfl hnk, hdp⟩ dd fun h' dd' hb => ?_
    have hp0 : Paired (nestKV X.K ι H) (dput kvs (.tup ds) x) (storedH xs (.tup ks) b ux) := nest_put hnk hdp rk rux rx hp
    have hp' : Paired (nestKV X.K ι (upd H a (ndHO X.prog X.w a (storedH xs (.tup ks) b ux)))) (dput kvs (.tup ds) x) (storedH xs (.tup ks) b ux) :=
      Paired.mapP hp0 fun p z ⟨h1, h2, h3, v, h4, h5⟩ => ⟨h1, h2, h3.mono (hT _) (fun _ _ e => e), v, h4, h5.mono (hT _) fun _ _ e => e⟩
    obtain ⟨o, es, ep, ho, hc, hda, hes, _, hn⟩ := dd'
    have e3 := Paired.length hp0
    refine q _ (ndHO X.prog X.w a (storedH xs (.tup ks) b ux)) (d_write I (by rw [hH]; exact mu) hb ⟨o, ho⟩ (ndOk ⟨hs, o, es, ep, ho, hc, hda, hes⟩)) (.inr ⟨_, rfl, by omega, hn, hp'⟩)

theorem atI_rd {K : PySem.W.Frag} {ds : List D} {vs : List V} (h : RDs K ι H ds vs) {i : Int} {d : D} (e : atD ds i = some d) : ∃ v, atI vs i = some v ∧ RD K ι H d v := by
  unfold atD atI at *
  rw [h.length]
  cases e2 : ixN ds.length i with
  | none => rw [e2] at e; cases e
  | some j =>
    rw [e2] at e
    exact h.get e
end

section
variable {X : Cx}
theorem ix_D (hu : X.A.units + 200 < cLine) : IxR X (rBin X.prog X.w X.K idxD) := by
  intro value slice pins sh σ H vx vy ux uy Q I rx ry h hs
  obtain ⟨ι, s, x, y, d, s', R, hx, hy, e, q⟩ := h
  unfold idxD at e
  split at e
  · rename_i ds i
    simp only [Option.map_eq_some_iff, Prod.mk.injEq] at e
    obtain ⟨d', e1, rfl, rfl⟩ := e
    have hy' : vy = .int i := by rw [RD] at hy; exact hy
    rw [RD] at hx; subst hy'
    obtain ⟨a, vs, rfl, hq, r⟩ := hx
    obtain ⟨v, hv, rv⟩ := atI_rd r e1
    exact ix_tup value slice pins sh σ H _ _ ux uy Q I rx ry ⟨a, vs, i, v, rfl, rfl, hq.sq, hv, q.here R rv⟩ hs
  · rename_i r k
    split at e
    · rename_i ds hc
      obtain ⟨a, rfl, _, vs, hv, rd⟩ := R.ofRef hc hx
      split at e
      · rename_i i
        simp only [Option.map_eq_some_iff, Prod.mk.injEq] at e
        obtain ⟨d', e1, rfl, rfl⟩ := e
        rw [RD] at hy; subst hy
        obtain ⟨v, hv', rv⟩ := atI_rd rd e1
        exact ix_list value slice pins sh σ H _ _ ux uy Q I rx ry ⟨a, vs, i, v, rfl, rfl, .inl (.inl hv), hv', q.here R rv⟩ hs
      · cases e
    · rename_i c _ hc
      obtain ⟨a, rfl, _, hcell⟩ := R.ofRef hc hx
      simp only [Option.bind_eq_some_iff] at e
      obtain ⟨kvs, e1, e2⟩ := e
      obtain ⟨u, hr, hd⟩ := hcell.drd e1
      split at e2
      · rename_i hf
        simp only [Option.map_eq_some_iff, Prod.mk.injEq] at e2
        obtain ⟨d', e3, rfl, rfl⟩ := e2
        cases rx
        have hT : sh.TypeIs (.ref a) "dict" := by
          rcases keyFits_cases hf with ⟨kk, _, hk⟩ | ⟨ds, ks, _, _, _, hk⟩
          · obtain ⟨_, _, _, _, dd, _⟩ := dictA I hr hd hk
            exact dd.typeIs
          · obtain ⟨_, _, dd, _⟩ := dictN I hr hd hk
            exact dd.typeIs
        exact PyProof.Rows.tail_any hT PySem.F.slot_dict_getitem.lookup (dGetItem hu I hr hd hf e3 hy ry fun v u' s' I' r' rd => ⟨v, H, I', r', q.here R rd⟩) hs
      · cases e2
    · cases e
  · cases e

/-- x[lo:hi] -/
def rSlD (P : Program) (w : World) (K : PySem.W.Frag) : V → Option Int → Option Int → Hp → VK → Prop := fun vx lo hi H Q => ∃ ι s x d s', Rep P w K ι H s ∧ RD K ι H x vx ∧ slcD x lo hi s = some (d, s') ∧ Ret P w K ι H Q d s'
theorem RDs.cut {K : PySem.W.Frag} {ι : List Addr} {H : Hp} {ds : List D} {vs : List V} (h : RDs K ι H ds vs) (lo hi : Option Int) : RDs K ι H (cutD ds lo hi) (cutV vs lo hi) := by
  unfold cutD cutV
  rw [h.length]
  exact (h.drop _).take _
theorem sl_D : SlR X (rSlD X.prog X.w X.K) := by
  intro pins sh σ H vx ux vl vu lo hi sl Q I rx hs pl pu h
  obtain ⟨ι, s, x, d, s', R, hx, e, q⟩ := h
  unfold slcD at e
  split at e
  · rename_i ds
    cases e
    rw [RD] at hx
    obtain ⟨a, vs, rfl, hq, r⟩ := hx
    have hl := r.length
    cases rx
    obtain ⟨its, rv, ht, hz⟩ := I.tuple hq.sq
    have hlen : its.toArray.size = vs.length := by rw [List.size_toArray]; exact rv.length.symm
    refine ⟨"tuple", _, PyProof.Rows.slot_tuple_getitem.lookup, ht.typeIs, ?_⟩
    by_cases hw : HT.sIx vs.length 0 lo = 0 ∧ HT.sIx vs.length vs.length hi = vs.length
    · have e : cutD ds lo hi = ds := by
        unfold cutD
        rw [hl] at hw
        rw [hw.1, hw.2]
        simp
      rw [e] at q
      exact getItem_tuple_whole ht hs pl pu (by rw [hlen]; exact hw) ⟨.ref a, H, I, rfl, q.tup R hq r⟩
    · refine HT.getItem_tuple_cut ht hs pl pu (by rw [hlen]; exact hw) ?_ (by rw [hlen]; exact hz)
      rw [hlen]
      exact ⟨.ref sh.heap.objs.size, _, newTup I ((rv.drop (HT.sIx vs.length 0 lo)).take (HT.sIx vs.length vs.length hi - HT.sIx vs.length 0 lo)) (Nat.le_trans (cutV_length vs lo hi) hz), rfl, q.newT R (r.cut lo hi) (I.hok.fresh (Nat.le_refl _)) rfl⟩
  · rename_i r
    split at e
    · rename_i ds hc
      unfold newL at e
      split at e
      · cases e
        obtain ⟨a, rfl, _, vs, hv, rd⟩ := R.ofRef hc hx
        exact sl_list pins sh σ H _ ux vl vu lo hi sl Q I rx hs pl pu ⟨a, vs, rfl, .inl (.inl hv), fun p hp => q.newL R (rd.cut lo hi) hp⟩
      · cases e
    · cases e
  · cases e
end
end Ev
end

section
set_option autoImplicit false
set_option maxRecDepth 100000
set_option linter.unusedVariables false
/-! Ev9: sorted -/
namespace Ev
open PySem L2 PySem.SeqAt PySem.W PyProof.Rows PySem.Calls

section
variable {prog : Program} {w : World} {A : Around} {E : Value → Shared → Prop} {sh : Shared}

/-- x < y of two tuples, asked of their type -/
theorem tup_lt_true {xs ys : List PyData} {a b : Value} {as bs : List Addr} {Q : Bool → Shared → Prop} (ra : Reads sh.heap a (.tuple xs) as) (rb : Reads sh.heap b (.tuple ys) bs) (h : alikeAll xs ys = true)
    (hu : A.units + min (PyData.tuple xs).depth (PyData.tuple ys).depth < cLine) (hq : Q (dataLt (.tuple xs) (.tuple ys)) sh) : wpAny (model prog w) A (oneLt' true a b) Q E sh := by
  cases ra with
  | @tuple l o vs n _ _ h1 h2 h3 h4 =>
    cases rb with
    | @tuple l' o' vs' n' _ _ k1 k2 k3 k4 =>
      have n1 : vs.size = xs.length := by simpa using ReadsAll.length _ _ _ h4
      have n2 : vs'.size = ys.length := by simpa using ReadsAll.length _ _ _ k4
      have hq' : Q (firstLt (pairEq xs ys) (fun j => dataLt (xs.getD j .none) (ys.getD j .none)) (decide (vs.size < vs'.size)) (List.range (min vs.size vs'.size))) sh := by
        rw [n1, n2, firstLt_toks xs ys h, ← dataLt_tuple]
        exact hq
      obtain ⟨cls, dd, data, sl⟩ := o
      obtain ⟨cls2, dd2, data2, sl2⟩ := o'
      simp only at h2 h3 k2 k3
      subst h2 h3 k2 k3
      have hroom := room_in hu
      rw [oneLt'_eq]
      simp only [if_true]
      refine wpAny_bind (wpAny_cRoomFor (room_here hu) (wpAny_bind (wpAny_callSpecialIfBound?_slot (T := "tuple") ⟨_, h1, rfl⟩ F.slot_tuple_lt ?_)))
      refine call_meets F.slot_tuple_lt ⟨_, h1, rfl⟩ F.entry_tuple_lt (F.args_tuple_lt_2 _ _) (tuple_ltAt l l' vs vs' n n' dd dd2 sl sl2 (pairEq xs ys) fun j => dataLt (xs.getD j .none) (ys.getD j .none)) ⟨h1, k1, fun j j1 j2 => ?_, fun j j1 j2 hj => ?_, wpAny_truthy_bool hq'⟩
      · have := eqAt_alikeAll xs ys A.in1 sh vs.toList vs'.toList _ _ h4 k4 h hroom j (by simpa using j1) (by simpa using j2)
        simpa using this
      · have := rcLt_alikeAll xs ys A.in1 sh vs.toList vs'.toList _ _ h4 k4 h hroom j (by simpa using j1) (by simpa using j2) hj
        simpa using this

theorem mapM_each {α β : Type} {M : Model} {f : α → Sem β} {g : α → β} : ∀ (l : List α) {Q : List β → Shared → Prop}, (∀ v ∈ l, ∀ (Q' : β → Shared → Prop), Q' (g v) sh → wpAny M A (f v) Q' E sh) → Q (l.map g) sh → wpAny M A (l.mapM f) Q E sh
  | [], _, _, h => by rw [List.mapM_nil]; exact wpAny_pure h
  | x :: l, Q, hf, h => by
    rw [List.mapM_cons]
    exact wpAny_bind (hf x (.head _) _ (wpAny_bind (mapM_each l (Q := fun bs s' => wpAny M A (pure (g x :: bs)) Q E s') (fun v hv => hf v (.tail _ hv)) (wpAny_pure h))))

/-- the first item of a tuple in the heap -/
def firstIn (h : Heap) (v : Value) : Option Value := match v with
  | .ref a => match h.get? a with
    | some o => match o.data with
      | .seq xs _ => xs[0]?
      | _ => none
    | none => none
  | _ => none

/-- tuples, some of them empty, can be sorted -/
theorem SortsAt.tups {vs : List Value} {ds : List PyData} (e : EachIs (fun v d => ∃ as, Reads sh.heap v d as) vs ds) (hal : AllAlike ds) (ht : ∀ d, d ∈ ds → ∃ xs, d = .tuple xs) (hemp : PyData.tuple [] ∈ ds) (hu : ∀ d, d ∈ ds → A.units + d.depth < cLine) : SortsAt prog w A sh (dataKind sh.heap ds) vs := by
  have room : ∀ {d d' : PyData}, d ∈ ds → A.units + min d.depth d'.depth < cLine := fun {d d'} hd => Nat.lt_of_le_of_lt (Nat.add_le_add_left (Nat.min_le_left _ _) _) (hu d hd)
  have keys : ∀ v, v ∈ vs → ∃ a, (dataKind sh.heap ds).keyOf v = some a := fun v hv => by
    obtain ⟨d, hd, as, r⟩ := e.left v hv
    exact ⟨_, dataKind_some hal hd r⟩
  have first : ∀ v ∈ vs, ∀ (E : Value → Shared → Prop) (Q' : Option Value → Shared → Prop), Q' (firstIn sh.heap v) sh → wpAny (model prog w) A (firstOfTuple' v) Q' E sh := fun v hv E Q' hq => by
    obtain ⟨d, hd, as, r⟩ := e.left v hv
    obtain ⟨xs, rfl⟩ := ht d hd
    cases r with
    | @tuple a o its n _ _ h1 h2 h3 h4 =>
      rw [kas_first_eq]
      refine wpAny_bind ((looks_reads (Reads.tuple h1 h2 h3 h4)).here ?_)
      show wpAny _ _ (if (Value.type "tuple" != Value.type "tuple") = true then _ else _) _ _ _
      rw [if_neg (by simp)]
      refine wpAny_bind (listItems_at h1 h3 (wpAny_pure ?_))
      have : firstIn sh.heap (.ref a) = its[0]? := by simp [firstIn, h1, h3]
      rw [← this]
      exact hq
  have typ : ∀ v ∈ vs, ∀ (E : Value → Shared → Prop) (Q' : Value → Shared → Prop), Q' (Value.type "tuple") sh → wpAny (model prog w) A (typeOf v) Q' E sh := fun v hv E Q' hq => by
    obtain ⟨d, hd, as, r⟩ := e.left v hv
    obtain ⟨xs, rfl⟩ := ht d hd
    exact (looks_reads r).here hq
  have lt : ∀ b, H.LtAt prog w A sh (dataKind sh.heap ds) (if b = true then oneType' else general') := fun b E x y p q Q hp hq' hQ => by
    obtain ⟨d, as, hd, ra, rfl⟩ := dataKind_inv hp
    obtain ⟨d', as', hd', rb, rfl⟩ := dataKind_inv hq'
    obtain ⟨xs, rfl⟩ := ht d hd
    obtain ⟨ys, rfl⟩ := ht d' hd'
    have h1 : alikeAll xs ys = true := by simpa [alike] using hal _ hd _ hd'
    cases b with
    | true =>
      rw [if_pos rfl, keyLt'_oneType]
      exact tup_lt_true ra rb h1 (room hd) hQ
    | false =>
      rw [if_neg (by simp)]
      show wpAny _ _ (oneLt' false x y) _ _ _
      exact oneLt_alike (fun z => by cases z) ra rb (hal _ hd _ hd') (fun z => by cases z) (room hd) hQ
  -- which kind is chosen
  by_cases hb : ∃ v, vs.head? = some v ∧ (firstIn sh.heap v).isSome = true
  · refine ⟨keys, general', lt false, fun h2 E Q hq => ?_⟩
    obtain ⟨v0, hv0, hs0⟩ := hb
    rw [kat_kind_eq, List.mapM_toArray, map_eq_pure_bind]
    refine wpAny_bind (wpAny_bind (mapM_each vs (fun v hv Q' z => first v hv E Q' z) (wpAny_pure ?_)))
    have hno : ¬ (((vs.map (firstIn sh.heap)).toArray.all fun x => x.isSome) = true) := by
      intro z
      simp only [List.all_toArray, List.all_map, List.all_eq_true] at z
      obtain ⟨v, hv, as, r⟩ : ∃ v, v ∈ vs ∧ ∃ as, Reads sh.heap v (.tuple []) as := by
        obtain ⟨i, hi⟩ := List.mem_iff_getElem?.mp hemp
        have hlen := e.length
        have hlt : i < vs.length := by
          have := (List.getElem?_eq_some_iff.mp hi).1
          omega
        have hz : (vs.zip ds)[i]? = some (vs[i], PyData.tuple []) := by
          rw [List.getElem?_zip_eq_some]
          exact ⟨List.getElem?_eq_getElem hlt, hi⟩
        exact ⟨vs[i], List.getElem_mem hlt, e.zip _ (List.mem_of_getElem? hz)⟩
      have q := z v hv
      cases r with
      | @tuple a o its n _ _ h1 h2 h3 h4 =>
        have : its.toList = [] := by cases h5 : its.toList with
          | nil => rfl
          | cons c d => rw [h5] at h4; cases h4
        have e0 : its = #[] := by simpa using this
        subst e0
        simp [firstIn, h1, h3] at q
    rw [if_neg hno]
    have h0 : ((vs.map (firstIn sh.heap)).toArray[0]?.bind id).isSome = true := by
      cases vs with
      | nil => simp at hv0
      | cons v r => simp only [List.head?_cons, Option.some.injEq] at hv0; subst hv0; simpa using hs0
    rw [if_pos h0]
    exact wpAny_pure hq
  · refine ⟨keys, oneType', lt true, fun h2 E Q hq => ?_⟩
    rw [kat_kind_eq, List.mapM_toArray, map_eq_pure_bind]
    refine wpAny_bind (wpAny_bind (mapM_each vs (fun v hv Q' z => first v hv E Q' z) (wpAny_pure ?_)))
    obtain ⟨v0, r0, rfl⟩ : ∃ v r, vs = v :: r := by
      cases vs with
      | nil => simp at h2
      | cons v r => exact ⟨v, r, rfl⟩
    have hf0 : ¬ (firstIn sh.heap v0).isSome = true := fun z => hb ⟨v0, rfl, z⟩
    have hno : ¬ ((((v0 :: r0).map (firstIn sh.heap)).toArray.all fun x => x.isSome) = true) := by
      intro z
      simp only [List.all_toArray, List.all_map, List.all_eq_true] at z
      exact hf0 (z v0 (List.mem_cons_self ..))
    rw [if_neg hno]
    have h0 : ¬ (((((v0 :: r0).map (firstIn sh.heap)).toArray)[0]?.bind id).isSome = true) := by simpa using hf0
    rw [if_neg h0, oneTypeOnly'_eq, List.mapM_toArray, map_eq_pure_bind]
    refine wpAny_bind (wpAny_bind (wpAny_bind (kas_mapM (r := Value.type "tuple") _ (fun v hv Q' hq => typ v hv E Q' hq) (wpAny_pure ?_))))
    have hall : ((List.map (fun _ => Value.type "tuple") (v0 :: r0)).toArray.all fun x => x == Value.type "tuple") = true := by
      simp only [List.all_toArray, List.all_map, List.all_eq_true]
      intro _ _
      rfl
    have h1 : (List.map (fun _ => Value.type "tuple") (v0 :: r0)).toArray[0]? = some (Value.type "tuple") := by simp
    rw [h1]
    simp only [hall, if_true]
    refine wpAny_pure (wpAny_pure ?_)
    simpa using hq
/-- alike values, none of them None, can be sorted -/
theorem SortsAt.any {vs : List Value} {ds : List PyData} (e : EachIs (fun v d => ∃ as, Reads sh.heap v d as) vs ds) (hal : AllAlike ds) (hn : ∀ d, d ∈ ds → notNone d = true) (hu : ∀ d, d ∈ ds → A.units + d.depth < cLine) : SortsAt prog w A sh (dataKind sh.heap ds) vs := by
  by_cases h0 : PyData.tuple [] ∈ ds
  · refine SortsAt.tups e hal (fun d hd => ?_) h0 hu
    have := hal _ h0 d hd
    cases d <;> simp [alike] at this
    exact ⟨_, rfl⟩
  · by_cases h1 : ∃ xs, PyData.tuple xs ∈ ds
    · obtain ⟨xs, hx⟩ := h1
      refine SortsAt.data e hal (.inl fun d hd => ?_) hu
      have := hal _ hx d hd
      cases d <;> simp [alike] at this
      rename_i ys
      cases ys with
      | nil => exact absurd hd h0
      | cons y r => exact ⟨y, r, rfl⟩
    · refine SortsAt.data e hal (.inr fun d hd => ⟨fun z => by subst z; simpa [notNone] using hn _ hd, fun xs z => h1 ⟨xs, z ▸ hd⟩⟩) hu
end
end Ev
end

section
set_option autoImplicit false
set_option maxRecDepth 100000
set_option linter.unusedVariables false
/-! Ev10: built-ins by values: sorted, len, list, tuple .. -/
namespace Ev
open PySem L2 PySem.SeqAt PySem.W PyProof.Rows PySem.Calls

/-- a built-in's reading by its run -/
def rCal (P : Program) (w : World) (K : PySem.W.Frag) (f : List D → Sto → Option (D × Sto)) : List V → Hp → VK → Prop := fun vs H Q => ∃ ι s ds d s', Rep P w K ι H s ∧ RDs K ι H ds vs ∧ f ds s = some (d, s') ∧ Ret P w K ι H Q d s'

section
variable {X : Cx} {pins : List (Addr × Obj)} {σ : L2.St} {H : Hp} {sh : Shared} {ι : List Addr} {s : Sto}
theorem RelV.key {P : Program} {w : World} {k : Key} {u : Value} (h : (mixKind P w).is k u = true) : RelV (kV k) u := by
  rcases keyIs_shape h with ⟨i, t, rfl, rfl⟩ | ⟨x, t, rfl, rfl⟩
  · exact ⟨t, rfl⟩
  · exact ⟨t, rfl⟩
theorem RD_kV {K : PySem.W.Frag} (k : Key) : RD K ι H (dK k) (kV k) := by
  cases k with
  | inl i => show RD K ι H (.int i) (.int i); rw [RD]
  | inr x => show RD K ι H (.str x) (.str x); rw [RD]
/-- entry e is p -/
def EntOk (K : PySem.W.Frag) (ι : List Addr) (H : Hp) (p : D × D) (e : DictEntry) : Prop := (∃ v, RelV v e.key ∧ RD K ι H p.1 v) ∧ ∃ v, RelV v e.val ∧ RD K ι H p.2 v
theorem paired_getR {α β : Type} {F : α → β → Prop} : ∀ {l : List α} {m : List β} {i : Nat} {b : β}, Paired F l m → m[i]? = some b → ∃ a, l[i]? = some a ∧ F a b
  | _, _, _, _, .nil, e => by simp at e
  | _, _, 0, _, .cons r _, e => by simp at e; subst e; exact ⟨_, rfl, r⟩
  | _, _, i + 1, a, .cons _ t, e => by
    obtain ⟨b, h1, h2⟩ := paired_getR (i := i) (b := a) t (by simpa using e)
    exact ⟨b, by simpa using h1, h2⟩
/-- any dict, by its entries -/
theorem dRaw (I : Inv X pins σ H sh) {a : Addr} {u : HO} {kvs : List (D × D)} (hr : DRd H a u) (h : DctAt X.prog X.w X.K ι H kvs a u) :
    ∃ es ep, sh.heap.DictRaw a es ep ∧ (a == sysModules) = false ∧ kvs.length ≤ sizeLine ∧ es.size = kvs.length ∧ ∀ (i : Nat) (e : DictEntry), es[i]? = some e → ∃ p, kvs[i]? = some p ∧ EntOk X.K ι H p e := by
  have ok := hr.ok I
  rcases h with ⟨kv', rfl, hp⟩ | ⟨xs, rfl, hl, hn, hp⟩
  · obtain ⟨z, hs, vs, rel, dd⟩ := ok
    obtain ⟨es, ep, hraw, hsz, hent⟩ := dd.raw
    have l1 := Paired.length hp
    have l2 := Paired.length rel
    refine ⟨es, ep, hraw, hs, by omega, by omega, fun i e he => ?_⟩
    obtain ⟨hi, rfl⟩ := Array.getElem?_eq_some_iff.mp he
    have hv : vs[i]? = some (vs[i]'(by omega)) := List.getElem?_eq_getElem _
    obtain ⟨q, hq, e1, rq⟩ := paired_getR rel hv
    obtain ⟨p, hpq, e2, rp⟩ := paired_getR hp hq
    obtain ⟨k1, k2⟩ := hent i hi _ _ hv
    refine ⟨p, hpq, ⟨kV q.1, ?_, ?_⟩, q.2, by rw [k2]; exact rq, rp⟩
    · rw [e1]; exact RelV.key k1
    · rw [e2]; exact RD_kV _
  · obtain ⟨⟨hs, o, es, ep, ho, hc, hda, hes⟩, _⟩ := ok
    have l1 := Paired.length hp
    have l2 : es.size = xs.length := by simpa using congrArg List.length hes
    refine ⟨es, ep, ⟨o, ho, hc, hda⟩, hs, by omega, by omega, fun i e he => ?_⟩
    have he' : es.toList[i]? = some e := by simpa using he
    rw [hes, List.getElem?_map, Option.map_eq_some_iff] at he'
    obtain ⟨x, hx, rfl⟩ := he'
    obtain ⟨p, hpx, h1, h2, h3, v, h4, h5⟩ := paired_getR hp hx
    exact ⟨p, hpx, ⟨.ref x.2.1, rfl, h3⟩, v, h4, h5⟩

theorem vals_ex : ∀ {us : List Value} {ds : List D}, us.length = ds.length → (∀ (i : Nat) (d : D) (u : Value), ds[i]? = some d → us[i]? = some u → ∃ v, RelV v u ∧ RD X.K ι H d v) → ∃ vs, Vals vs us ∧ RDs X.K ι H ds vs
  | [], [], _, _ => ⟨[], .nil, by rw [RDs]⟩
  | u :: us, d :: ds, hl, h => by
    obtain ⟨v, r1, r2⟩ := h 0 d u rfl rfl
    obtain ⟨vs, q1, q2⟩ := vals_ex (us := us) (ds := ds) (by simpa using hl) fun i d' u' e e' => h (i + 1) d' u' (by simpa using e) (by simpa using e')
    exact ⟨v :: vs, .cons r1 q1, by rw [RDs_cons]; exact ⟨r2, q2⟩⟩
  | [], _ :: _, hl, _ => by simp at hl
  | _ :: _, [], hl, _ => by simp at hl

theorem each_zip : ∀ {us : List Value} {vs : List V} {ds : List D} {xs : List PyData}, Vals vs us → RDs X.K ι H ds vs → xs.length = ds.length → EachIs (fun u (b : D × PyData) => ∃ v, RelV v u ∧ RD X.K ι H b.1 v) us (ds.zip xs)
  | _, _, [], xs, .nil, h, _ => by simp; exact .nil
  | _, _, d :: ds, x :: xs, .cons r t, h, hl => by
    rw [RDs_cons] at h
    exact .cons ⟨_, r, h.1⟩ (each_zip t h.2 (by simpa using hl))
  | _, _, [], _, .cons r t, h, _ => by rw [RDs] at h; cases h
  | _, _, d :: ds, [], _, _, hl => by simp at hl
  | _, _, d :: ds, x :: xs, .nil, h, _ => by rw [RDs] at h; obtain ⟨_, _, e, _⟩ := h; cases e
theorem each_back : ∀ {us : List Value} {bs : List (D × PyData)}, EachIs (fun u (b : D × PyData) => ∃ v, RelV v u ∧ RD X.K ι H b.1 v) us bs → ∃ vs, Vals vs us ∧ RDs X.K ι H (bs.map (·.1)) vs
  | _, _, .nil => ⟨[], .nil, by rw [List.map_nil, RDs]⟩
  | _, _, .cons ⟨v, r1, r2⟩ t => by
    obtain ⟨vs, q1, q2⟩ := each_back t
    exact ⟨v :: vs, .cons r1 q1, by rw [List.map_cons, RDs_cons]; exact ⟨r2, q2⟩⟩
theorem dataWs_length {r : Nat → Option PyData} : ∀ {ds : List D} {xs : List PyData}, D.dataWs r ds = some xs → xs.length = ds.length
  | [], xs, e => by simp [D.dataWs] at e; subst e; rfl
  | d :: ds, xs, e => by
    simp only [D.dataWs, Option.bind_eq_some_iff, Option.map_eq_some_iff] at e
    obtain ⟨x, _, ys, h, rfl⟩ := e
    simp [dataWs_length h]
theorem each_reads : ∀ {us : List Value} {xs : List PyData} {as : List Addr} {h : Heap}, ReadsAll h us xs as → EachIs (fun v d => ∃ as, Reads h v d as) us xs
  | _, _, _, _, .nil => .nil
  | _, _, _, _, .cons r t => .cons ⟨_, r⟩ (each_reads t)
theorem zip_snd : ∀ {ds : List D} {xs : List PyData}, xs.length = ds.length → (ds.zip xs).map (·.2) = xs
  | [], [], _ => rfl
  | [], _ :: _, h => by simp at h
  | _ :: _, [], h => by simp at h
  | d :: ds, x :: xs, h => by rw [List.zip_cons_cons, List.map_cons, zip_snd (by simpa using h)]

/-- sorted(x), by how x's items are collected -/
theorem sorted_core (hu : X.A.units + 200 < cLine) {E : Value → Shared → Prop} {ds ds' : List D} {us : List Value} {vs : List V} {h' : Heap} {tk : Nat} {Q : VK}
    (I1 : Inv X pins σ H { sh with heap := h', toks := tk }) (R : Rep X.prog X.w X.K ι H s) (rv : Vals vs us) (rd : RDs X.K ι H ds vs) (e : sortD s ds = some ds') (hz : ds.length ≤ sizeLine)
    (q : ∀ vs' p, RDs X.K ι H ds' vs' → H p = none → Q (.ref p) (upd H p (.lst vs'))) :
    wpAny (model X.prog X.w) X.A.in1 (newList us >>= fun l => do let _ ← holding [l] (call (.builtin "list.sort") [l]); pure (PySem.Fin.done (.ret l))) (fun f s' => ∃ u, f = .done (.ret u) ∧ EP X pins σ Q u s') E { sh with heap := h', toks := tk } := by
  unfold sortD at e
  simp only [Option.bind_eq_some_iff] at e
  obtain ⟨xs, e1, e2⟩ := e
  split at e2
  rotate_left
  · cases e2
  rename_i hc
  simp only [Option.some.injEq] at e2
  subst e2
  simp only [Bool.and_eq_true, List.all_eq_true, decide_eq_true_eq] at hc
  obtain ⟨⟨h1, h2⟩, h3⟩ := hc
  have hxl := dataWs_length e1
  have hul : us.length = ds.length := by rw [← rv.length, rd.length]
  obtain ⟨as, ra⟩ := reads_all I1 R rd rv e1
  have er := each_reads ra
  have hal : AllAlike xs := fun d hd d' hd' => h1 d hd d' hd'
  refine wpAny_bind (wpAny_newList ?_ (by rw [hul]; exact hz))
  have hoL : (h'.push (seqObj "list" us.toArray 0)).get? h'.objs.size = some (seqObj "list" us.toArray 0) := Heap.get?_push_size _ rfl
  show wpAny _ _ _ _ _ { sh with heap := h'.push (seqObj "list" us.toArray 0), toks := tk }
  have keep : ∀ b o, h'.get? b = some o → (sortingHeap (h'.push (seqObj "list" us.toArray 0)) h'.objs.size us).get? b = some o := fun b o eo => by
    have hb : b < h'.objs.size := Heap.lt_size eo
    have e0 : (h'.push (seqObj "list" us.toArray 0)).get? b = some o := Heap.get?_push_of_some _ eo
    exact PySem.W.sortingHeap_old (Nat.ne_of_lt hb) e0
  have er' : EachIs (fun v d => ∃ as, Reads (sortingHeap (h'.push (seqObj "list" us.toArray 0)) h'.objs.size us) v d as) us xs := er.mono fun _ _ ⟨as, r⟩ => ⟨as, PyProof.Rows.Reads.keeps keep r⟩
  have S : SortsAt X.prog X.w X.A.in1.in1 { sh with heap := sortingHeap (h'.push (seqObj "list" us.toArray 0)) h'.objs.size us, toks := tk } (dataKind (sortingHeap (h'.push (seqObj "list" us.toArray 0)) h'.objs.size us) xs) us :=
    SortsAt.any (sh := { sh with heap := sortingHeap (h'.push (seqObj "list" us.toArray 0)) h'.objs.size us, toks := tk }) er' hal h2 fun d hd => by
      have := h3 d hd
      have h100 : d.depth ≤ 100 := this
      show X.A.units + 1 + 1 + d.depth < cLine
      omega
  refine wpAny_bind (wpAny_holding (wpAny_call_entry PyProof.Rows.slot_list_sort ⟨_, hoL, rfl⟩ PyProof.Rows.entry_list_sort
    (PySem.W.list_sort_vals (s := { sh with heap := h'.push (seqObj "list" us.toArray 0), toks := tk }) hoL S (by rw [hul]; exact hz) ⟨_, rfl, ?_⟩)
    (PyProof.Rows.args_list_sort _)))
  have ed := PySem.W.sortVals_data (R := fun u (b : D × PyData) => ∃ v, RelV v u ∧ RD X.K ι H b.1 v) (enc := fun b : D × PyData => b.2) (bs := ds.zip xs) false (each_zip rv rd hxl) (each_of_map (R := fun v d => ∃ as, Reads (sortingHeap (h'.push (seqObj "list" us.toArray 0)) h'.objs.size us) v d as) (fun b : D × PyData => b.2) (by rw [zip_snd hxl]; exact er')) (by rw [zip_snd hxl]; exact hal)
  rw [zip_snd hxl] at ed
  obtain ⟨vs', rv', rd'⟩ := each_back ed
  obtain ⟨e', he'⟩ := PyProof.Rows.sortedHeap_at (vs := us) (out := (sortVals (dataKind (sortingHeap (h'.push (seqObj "list" us.toArray 0)) h'.objs.size us) xs) false us us).toArray) hoL
  have hl' : vs'.length ≤ sizeLine := by
    rw [rv'.length, PySem.W.sortVals_length false rfl, hul]
    exact hz
  refine wpAny_pure ⟨_, rfl, .ref h'.objs.size, upd H h'.objs.size (.lst vs'), I1.laid (t' := tk) (fun b u e => ?_) (Nat.le_refl _)
    (show ObjOk X.prog X.w _ _ _ (.lst vs') from ⟨hl', _, e', rv', he'⟩), rfl, q vs' _ ?_ (I1.hok.fresh (Nat.le_refl _))⟩
  · have hb : b < h'.objs.size := Heap.lt_size e
    rw [PyProof.Rows.sortedHeap_old (Nat.ne_of_lt hb) (by rw [size_push']; exact Nat.lt_succ_of_lt hb)]
    exact Heap.get?_push_of_some _ e
  · exact rd'

theorem sortD_len {ds ds' : List D} (e : sortD s ds = some ds') : ds'.length = ds.length := by
  unfold sortD at e
  simp only [Option.bind_eq_some_iff] at e
  obtain ⟨xs, e1, e2⟩ := e
  split at e2
  · simp only [Option.some.injEq] at e2
    subst e2
    rw [List.length_map, (List.mergeSort_perm _ _).length_eq, List.length_zip, dataWs_length e1, Nat.min_self]
  · cases e2
theorem newL_some {ds : List D} {d : D} {s s' : Sto} (e : newL s ds = some (d, s')) : ds.length ≤ sizeLine ∧ d = .ref s.length ∧ s' = s ++ [.lst ds] := by
  unfold newL at e
  split at e
  · rename_i h
    cases e
    exact ⟨by rw [← L_eq]; exact h, rfl, rfl⟩
  · cases e
theorem newT_some {ds : List D} {d : D} {s s' : Sto} (e : newT s ds = some (d, s')) : ds.length ≤ sizeLine ∧ d = .tup ds ∧ s' = s := by
  unfold newT at e
  split at e
  · rename_i h
    cases e
    exact ⟨by rw [← L_eq]; exact h, rfl, rfl⟩
  · cases e
theorem RDs.one_of {P : Prop} {d : D} {vs : List V} {us : List Value} (r : RDs X.K ι H [d] vs) (rv : Vals vs us) (k : ∀ v u, vs = [v] → us = [u] → RD X.K ι H d v → RelV v u → P) : P := by
  rw [RDs] at r
  obtain ⟨v, t, rfl, h1, h2⟩ := r
  rw [RDs] at h2
  subst h2
  cases rv with
  | cons r1 r2 => cases r2; exact k _ _ rfl rfl h1 r1
/-- the entries of a dict walked from its keys -/
theorem keys_vals {kvs : List (D × D)} {es : Array DictEntry} {acc : Array Value} (hsz : es.size = kvs.length) (hent : ∀ (i : Nat) (e : DictEntry), es[i]? = some e → ∃ p, kvs[i]? = some p ∧ EntOk X.K ι H p e)
    (hacc : ItemsOf (fun i v => ∃ hi : i < es.size, v = es[i].key) acc es.size) : ∃ vs, Vals vs acc.toList ∧ RDs X.K ι H (kvs.map (·.1)) vs := by
  refine vals_ex (by rw [Array.length_toList, hacc.1, hsz, List.length_map]) fun i d u e1 e2 => ?_
  obtain ⟨hi, rfl⟩ := hacc.2 i u (by rw [← Array.getElem?_toList]; exact e2)
  obtain ⟨p, hp, ⟨v, r1, r2⟩, _⟩ := hent i _ (Array.getElem?_eq_getElem hi)
  rw [List.getElem?_map, hp] at e1
  cases e1
  exact ⟨v, r1, r2⟩

theorem call_sortedD (hc : X.calm = true) (hu : X.A.units + 200 < cLine) : CallR X (.builtin "sorted") (rCal X.prog X.w X.K fun ds s => bifD .sorted ds s) := by
  intro pins sh σ H vs us Q I rv h
  obtain ⟨ι, s, ds, d, s', R, rd, e, q⟩ := h
  replace e : bifD .sorted ds s = some (d, s') := e
  have enter : ∀ (u : Value), (∀ E, wpAny (model X.prog X.w) X.A.in1 (collect u) (fun us' s1 => wpAny (model X.prog X.w) X.A.in1 (newList us' >>= fun l => do let _ ← holding [l] (call (.builtin "list.sort") [l]); pure (PySem.Fin.done (.ret l))) (fun f s' => ∃ u, f = .done (.ret u) ∧ EP X pins σ Q u s') E s1) E sh) →
      wpAny (model X.prog X.w) X.A (call (.builtin "sorted") [u]) (EP X pins σ Q) X.xe sh := fun u hb => by
    refine Calls.call_function_entry PyProof.Rows.kind_sorted PyProof.Rows.plain_sorted PyProof.Rows.entry_sorted (PyProof.Rows.args_sorted1 _) ?_
    unfold Builtin.«sorted»
    refine wpAny_bind (m := checkCount "sorted" 1 1 _) (wpAny_pure ?_)
    refine wpAny_bind ?_
    exact hb _
  have hcase : (∃ r, ds = [.ref r]) ∨ ∃ l, ds = [.tup l] := by
    rcases ds with _ | ⟨x, _ | ⟨y, t⟩⟩
    · simp [bifD] at e
    · cases x <;> first | exact .inl ⟨_, rfl⟩ | exact .inr ⟨_, rfl⟩ | simp [bifD] at e
    · cases x <;> simp [bifD] at e
  rcases hcase with ⟨r, rfl⟩ | ⟨l, rfl⟩
  · refine RDs.one_of rd rv fun v u hv hu' r1 r2 => ?_
    subst hv hu'
    simp only [bifD] at e
    cases hs : s[r]? with
    | none => rw [hs] at e; cases e
    | some c =>
      rw [hs] at e
      obtain ⟨a, rfl, ha, cell⟩ := R.ofRef hs r1
      cases r2
      cases c with
      | lst ds =>
        simp only [Option.bind_eq_some_iff] at e
        obtain ⟨ds', e1, e2⟩ := e
        obtain ⟨hz, rfl, rfl⟩ := newL_some e2
        obtain ⟨ws, h1, h2⟩ := cell
        obtain ⟨its, rv', pl, hz'⟩ := I.list (.inl (.inl h1))
        refine enter _ fun E => ?_
        have hl : its.length ≤ sizeLine := by rw [← rv'.length]; exact hz'
        refine PyProof.Rows.collect_list pl.isList ?_ hl
        have I1 : Inv X pins σ H { sh with heap := (sh.heap.push (seqObj "list" #[] 0)).update sh.heap.objs.size (Obj.mapSeq (· ++ its.toArray)) } := I.kept (t' := sh.toks) fun b o e => by
          rw [Heap.get?_update_ne _ _ _ _ (Nat.ne_of_lt (Heap.lt_size e))]
          exact Heap.get?_push_of_some _ e
        exact sorted_core hu (tk := sh.toks) I1 R rv' h2 e1 (by rw [← sortD_len e1]; exact hz) fun vs' p rd' hp => q.newL R rd' hp
      | dct kvs =>
        simp only [C.kvs, Option.bind_some, Option.bind_eq_some_iff] at e
        obtain ⟨ds', e1, e2⟩ := e
        obtain ⟨hz, rfl, rfl⟩ := newL_some e2
        obtain ⟨u', dr, da⟩ := cell.drd (kvs := kvs) rfl
        obtain ⟨es, ep, hraw, hsys, hkl, hsz, hent⟩ := dRaw I dr da
        refine enter _ fun E => ?_
        refine PySem.W.kdu_collect (KdlSrc.rawDict hsys) (I.ok.hd hc) hraw (by omega) fun h' tk acc hk hacc => ?_
        obtain ⟨ws, w1, w2⟩ := keys_vals (H := H) (ι := ι) hsz hent hacc
        have I1 : Inv X pins σ H { sh with heap := h', toks := tk } := I.kept hk
        exact sorted_core hu I1 R w1 w2 e1 (by rw [List.length_map]; exact hkl) fun vs' p rd' hp => q.newL R rd' hp
      | lck kvs =>
        simp only [C.kvs, Option.bind_some, Option.bind_eq_some_iff] at e
        obtain ⟨ds', e1, e2⟩ := e
        obtain ⟨hz, rfl, rfl⟩ := newL_some e2
        obtain ⟨u', dr, da⟩ := cell.drd (kvs := kvs) rfl
        obtain ⟨es, ep, hraw, hsys, hkl, hsz, hent⟩ := dRaw I dr da
        refine enter _ fun E => ?_
        refine PySem.W.kdu_collect (KdlSrc.rawDict hsys) (I.ok.hd hc) hraw (by omega) fun h' tk acc hk hacc => ?_
        obtain ⟨ws, w1, w2⟩ := keys_vals (H := H) (ι := ι) hsz hent hacc
        have I1 : Inv X pins σ H { sh with heap := h', toks := tk } := I.kept hk
        exact sorted_core hu I1 R w1 w2 e1 (by rw [List.length_map]; exact hkl) fun vs' p rd' hp => q.newL R rd' hp
  · refine RDs.one_of rd rv fun v u hv hu' r1 r2 => ?_
    subst hv hu'
    simp only [bifD, Option.bind_eq_some_iff] at e
    obtain ⟨ds', e1, e2⟩ := e
    obtain ⟨hz, rfl, rfl⟩ := newL_some e2
    rw [RD] at r1
    obtain ⟨a, ws, rfl, hq, rws⟩ := r1
    cases r2
    obtain ⟨its, rv', ⟨o, ho, hcl, n, hd⟩, hz'⟩ := I.tuple hq.sq
    refine enter _ fun E => ?_
    refine wpAny_collect_seq a (.inr rfl) ho hcl hd (fun h' hk => ?_) (by simpa [← rv'.length] using hz')
    have I1 : Inv X pins σ H { sh with heap := h' } := I.kept (t' := sh.toks) hk
    have := sorted_core hu (sh := sh) (tk := sh.toks) (E := E) I1 R rv' rws e1 (by rw [← sortD_len e1]; exact hz) fun vs' p rd' hp => q.newL R rd' hp
    simpa using this
end
end Ev
end

section
set_option autoImplicit false
set_option maxRecDepth 100000
set_option linter.unusedVariables false
/-! Ev11: built-ins by values -/
namespace Ev
open PySem L2 PySem.SeqAt PyProof.Rows PySem.Calls

structure Gd (X : Cx) : Prop where
  calm : X.calm = true
  units : X.A.units + 200 < cLine
  guards : X.A.guards = some []
  nd : X.N.Nodup
  xe : X.xe = fun _ _ => False

theorem cell_seq {P : Program} {w : World} {K : PySem.W.Frag} {ι : List Addr} {H : Hp} {ds : List D} {a : Addr} (h : CellAt P w K ι H (.lst ds) a) : ∃ vs, SqL K H a vs ∧ RDs K ι H ds vs :=
  let ⟨vs, h1, h2⟩ := h; ⟨vs, .inl (.inl h1), h2⟩

section
variable {X : Cx}
theorem call_lenD (G : Gd X) : CallR X (.builtin "len") (rCal X.prog X.w X.K fun ds s => bifD .len ds s) := by
  intro pins sh σ H vs us Q I rv h
  obtain ⟨ι, s, ds, d, s', R, rd, e, q⟩ := h
  replace e : bifD .len ds s = some (d, s') := e
  have hcase : (∃ r, ds = [.ref r]) ∨ ∃ l, ds = [.tup l] := by
    rcases ds with _ | ⟨x, _ | ⟨y, t⟩⟩
    · simp [bifD] at e
    · cases x <;> first | exact .inl ⟨_, rfl⟩ | exact .inr ⟨_, rfl⟩ | simp [bifD] at e
    · cases x <;> simp [bifD] at e
  rcases hcase with ⟨r, rfl⟩ | ⟨l, rfl⟩
  · refine RDs.one_of rd rv fun v u hv hu' r1 r2 => ?_
    subst hv hu'
    simp only [bifD] at e
    cases hs : s[r]? with
    | none => rw [hs] at e; cases e
    | some c =>
      rw [hs] at e
      obtain ⟨a, rfl, ha, cell⟩ := R.ofRef hs r1
      have hdict : ∀ kvs, c.kvs = some kvs → Q (.int kvs.length) H → wpAny (model X.prog X.w) X.A (call (.builtin "len") [u]) (EP X pins σ Q) X.xe sh := fun kvs hk hq => by
        cases r2
        obtain ⟨u', dr, da⟩ := cell.drd (kvs := kvs) hk
        obtain ⟨es, ep, hraw, hsys, hkl, hsz, hent⟩ := dRaw I dr da
        have hl : (kvs.length : Int) < 2 ^ 63 := by rw [sizeLine_eq] at hkl; omega
        refine Calls.call_function_entry kind_len plain_len entry_len (args_len1 _) ?_
        unfold Builtin.«len»
        refine wpAny_bind (m := oneArg "len" _) (wpAny_pure ?_)
        refine wpAny_bind (m := callSpecial? (.ref a) (Str.ofString "__len__")) (wpAny_callSpecial?_slot (name := Str.ofString "__len__") hraw.typeIs PySem.F.slot_dict_len
          (call_len_raw hsys hraw ?_))
        show wpAny _ _ _ _ _ { sh with toks := sh.toks + 1 }
        refine wpAny_bind (wpAny_holding (wpAny_pure ?_))
        refine wpAny_bind (wpAny_letGo ?_)
        rw [hsz]
        show wpAny _ _ (if ((kvs.length : Nat) : Int) < 0 then _ else _) _ _ _
        rw [if_neg (by omega)]
        show wpAny _ _ (if ((kvs.length : Nat) : Int) ≥ 2 ^ 63 then _ else _) _ _ _
        rw [if_neg (by omega)]
        exact wpAny_bind (wpAny_mkInt (wpAny_pure ⟨_, rfl, .int kvs.length, H, I.tok _, ⟨_, rfl⟩, hq⟩))
      cases c with
      | lst ds =>
        cases e
        obtain ⟨ws, h1, h2⟩ := cell_seq cell
        have := h2.length
        exact call_len_seq pins sh σ H _ _ Q I rv ⟨a, ws, rfl, .inl h1, by rw [this]; exact q.int R⟩
      | dct kvs =>
        simp only [C.kvs, Option.map_some, Option.some.injEq, Prod.mk.injEq] at e
        obtain ⟨rfl, rfl⟩ := e
        exact hdict kvs rfl (q.int R)
      | lck kvs =>
        simp only [C.kvs, Option.map_some, Option.some.injEq, Prod.mk.injEq] at e
        obtain ⟨rfl, rfl⟩ := e
        exact hdict kvs rfl (q.int R)
  · refine RDs.one_of rd rv fun v u hv hu' r1 r2 => ?_
    subst hv
    simp only [bifD, Option.some.injEq, Prod.mk.injEq] at e
    obtain ⟨rfl, rfl⟩ := e
    rw [RD] at r1
    obtain ⟨a, ws, rfl, hq, rws⟩ := r1
    have := rws.length
    exact call_len_seq pins sh σ H _ us Q I rv ⟨a, ws, rfl, .inr hq.sq, by rw [this]; exact q.int R⟩
theorem call_intD (G : Gd X) : CallR X (.type "int") (rCal X.prog X.w X.K fun ds s => bifD .int ds s) := by
  intro pins sh σ H vs us Q I rv h
  obtain ⟨ι, s, ds, d, s', R, rd, e, q⟩ := h
  replace e : bifD .int ds s = some (d, s') := e
  have hcase : (∃ r, ds = [.int r]) ∨ ∃ l, ds = [.bl l] := by
    rcases ds with _ | ⟨x, _ | ⟨y, t⟩⟩
    · simp [bifD] at e
    · cases x <;> first | exact .inl ⟨_, rfl⟩ | exact .inr ⟨_, rfl⟩ | simp [bifD] at e
    · cases x <;> simp [bifD] at e
  rcases hcase with ⟨r, rfl⟩ | ⟨l, rfl⟩
  · refine RDs.one_of rd rv fun v u hv hu' r1 r2 => ?_
    simp only [bifD, Option.some.injEq, Prod.mk.injEq] at e
    obtain ⟨rfl, rfl⟩ := e
    rw [RD] at r1
    subst r1
    exact call_int1 pins sh σ H _ us Q I rv (.inl ⟨r, hv, q.int R⟩)
  · refine RDs.one_of rd rv fun v u hv hu' r1 r2 => ?_
    simp only [bifD, Option.some.injEq, Prod.mk.injEq] at e
    obtain ⟨rfl, rfl⟩ := e
    rw [RD] at r1
    subst r1
    exact call_int1 pins sh σ H _ us Q I rv (.inr ⟨l, hv, q.int R⟩)
theorem call_absD (G : Gd X) : CallR X (.builtin "abs") (rCal X.prog X.w X.K fun ds s => bifD .abs ds s) := by
  intro pins sh σ H vs us Q I rv h
  obtain ⟨ι, s, ds, d, s', R, rd, e, q⟩ := h
  replace e : bifD .abs ds s = some (d, s') := e
  have hcase : ∃ r, ds = [.int r] := by
    rcases ds with _ | ⟨x, _ | ⟨y, t⟩⟩
    · simp [bifD] at e
    · cases x <;> first | exact ⟨_, rfl⟩ | simp [bifD] at e
    · cases x <;> simp [bifD] at e
  obtain ⟨r, rfl⟩ := hcase
  refine RDs.one_of rd rv fun v u hv hu' r1 r2 => ?_
  simp only [bifD, Option.some.injEq, Prod.mk.injEq] at e
  obtain ⟨rfl, rfl⟩ := e
  rw [RD] at r1
  subst r1
  refine call_abs pins sh σ H _ us Q I rv ⟨r, hv, ?_⟩
  have : (if r < 0 then -r else r) = (r.natAbs : Int) := by split <;> omega
  rw [this]
  exact q.int R
theorem two_of {P : Prop} {ι : List Addr} {H : Hp} {d d' : D} {vs : List V} {us : List Value} (r : RDs X.K ι H [d, d'] vs) (rv : Vals vs us) (k : ∀ v v' u u', vs = [v, v'] → us = [u, u'] → RD X.K ι H d v → RD X.K ι H d' v' → RelV v u → RelV v' u' → P) : P := by
  rw [RDs] at r
  obtain ⟨v, t, rfl, h1, h2⟩ := r
  rw [RDs] at h2
  obtain ⟨v', t', rfl, h3, h4⟩ := h2
  rw [RDs] at h4
  subst h4
  cases rv with
  | cons r1 r2 =>
    cases r2 with
    | cons r3 r4 => cases r4; exact k _ _ _ _ rfl rfl h1 h3 r1 r3
theorem call_maxD (G : Gd X) : CallR X (.builtin "max") (rCal X.prog X.w X.K fun ds s => bifD .max ds s) := by
  intro pins sh σ H vs us Q I rv h
  obtain ⟨ι, s, ds, d, s', R, rd, e, q⟩ := h
  replace e : bifD .max ds s = some (d, s') := e
  have hcase : ∃ i j, ds = [.int i, .int j] := by
    rcases ds with _ | ⟨x, _ | ⟨y, _ | ⟨z, t⟩⟩⟩
    · simp [bifD] at e
    · cases x <;> simp [bifD] at e
    · cases x <;> cases y <;> first | exact ⟨_, _, rfl⟩ | simp [bifD] at e
    · cases x <;> cases y <;> simp [bifD] at e
  obtain ⟨i, j, rfl⟩ := hcase
  refine two_of rd rv fun v v' u u' hv hu' r1 r2 r3 r4 => ?_
  simp only [bifD, Option.some.injEq, Prod.mk.injEq] at e
  obtain ⟨rfl, rfl⟩ := e
  rw [RD] at r1 r2
  subst r1 r2
  exact call_max2 G.calm pins sh σ H _ us Q I rv ⟨i, j, hv, q.int R⟩
theorem call_minD (G : Gd X) : CallR X (.builtin "min") (rCal X.prog X.w X.K fun ds s => bifD .min ds s) := by
  intro pins sh σ H vs us Q I rv h
  obtain ⟨ι, s, ds, d, s', R, rd, e, q⟩ := h
  replace e : bifD .min ds s = some (d, s') := e
  have hcase : ∃ i j, ds = [.int i, .int j] := by
    rcases ds with _ | ⟨x, _ | ⟨y, _ | ⟨z, t⟩⟩⟩
    · simp [bifD] at e
    · cases x <;> simp [bifD] at e
    · cases x <;> cases y <;> first | exact ⟨_, _, rfl⟩ | simp [bifD] at e
    · cases x <;> cases y <;> simp [bifD] at e
  obtain ⟨i, j, rfl⟩ := hcase
  refine two_of rd rv fun v v' u u' hv hu' r1 r2 r3 r4 => ?_
  simp only [bifD, Option.some.injEq, Prod.mk.injEq] at e
  obtain ⟨rfl, rfl⟩ := e
  rw [RD] at r1 r2
  subst r1 r2
  exact call_min2 G.calm pins sh σ H _ us Q I rv ⟨i, j, hv, q.int R⟩
/-- a list or a tuple -/
theorem seq_of {P : Program} {w : World} {ι : List Addr} {H : Hp} {s : Sto} (R : Rep P w X.K ι H s) {x : D} {ds : List D} {v : V} (e : itemsD x s = some ds) (r : RD X.K ι H x v) : ∃ a ws, v = .ref a ∧ (SqL X.K H a ws ∨ SqT X.K H a ws) ∧ RDs X.K ι H ds ws := by
  cases x with
  | tup l =>
    simp only [itemsD, Option.some.injEq] at e
    subst e
    rw [RD] at r
    obtain ⟨a, ws, rfl, hq, rws⟩ := r
    exact ⟨a, ws, rfl, .inr hq.sq, rws⟩
  | ref i =>
    simp only [itemsD] at e
    cases hs : s[i]? with
    | none => rw [hs] at e; cases e
    | some c =>
      rw [hs] at e
      cases c with
      | lst l =>
        cases e
        obtain ⟨a, rfl, ha, cell⟩ := R.ofRef hs r
        obtain ⟨ws, h1, h2⟩ := cell_seq cell
        exact ⟨a, ws, rfl, .inl h1, h2⟩
      | _ => cases e
  | _ => simp [itemsD] at e
theorem call_listD (G : Gd X) : CallR X (.type "list") (rCal X.prog X.w X.K fun ds s => bifD .list ds s) := by
  intro pins sh σ H vs us Q I rv h
  obtain ⟨ι, s, ds, d, s', R, rd, e, q⟩ := h
  replace e : bifD .list ds s = some (d, s') := e
  have hcase : ∃ x, ds = [x] := by
    rcases ds with _ | ⟨x, _ | ⟨y, t⟩⟩
    · simp [bifD] at e
    · exact ⟨_, rfl⟩
    · cases x <;> simp [bifD] at e
  obtain ⟨x, rfl⟩ := hcase
  refine RDs.one_of rd rv fun v u hv hu' r1 r2 => ?_
  have e : (itemsD x s).bind (newL s) = some (d, s') := by cases x <;> exact e
  simp only [Option.bind_eq_some_iff] at e
  obtain ⟨l, e1, e2⟩ := e
  obtain ⟨hz, rfl, rfl⟩ := newL_some e2
  obtain ⟨a, ws, rfl, hq, rws⟩ := seq_of R e1 r1
  exact call_list_of pins sh σ H _ us Q I rv ⟨a, ws, hv, hq, fun l hl => q.newL R rws hl⟩
theorem call_tupleD (G : Gd X) : CallR X (.type "tuple") (rCal X.prog X.w X.K fun ds s => bifD .tuple ds s) := by
  intro pins sh σ H vs us Q I rv h
  obtain ⟨ι, s, ds, d, s', R, rd, e, q⟩ := h
  replace e : bifD .tuple ds s = some (d, s') := e
  have hcase : (∃ r, ds = [.ref r]) ∨ ∃ l, ds = [.tup l] := by
    rcases ds with _ | ⟨x, _ | ⟨y, t⟩⟩
    · simp [bifD] at e
    · cases x <;> first | exact .inl ⟨_, rfl⟩ | exact .inr ⟨_, rfl⟩ | simp [bifD] at e
    · cases x <;> simp [bifD] at e
  rcases hcase with ⟨r, rfl⟩ | ⟨l, rfl⟩
  · refine RDs.one_of rd rv fun v u hv hu' r1 r2 => ?_
    simp only [bifD] at e
    cases hs : s[r]? with
    | none => rw [hs] at e; cases e
    | some c =>
      rw [hs] at e
      cases c with
      | lst l =>
        cases e
        obtain ⟨a, rfl, ha, cell⟩ := R.ofRef hs r1
        obtain ⟨ws, h1, h2⟩ := cell_seq cell
        subst hv hu'
        cases r2
        obtain ⟨its, r', pl, hz⟩ := I.list h1
        have hlen := r'.length
        refine call_tuple_list pl.isList (fun h' kp => ?_) (by simp only [List.size_toArray] <;> omega)
        have I1 : Inv X pins σ H { sh with heap := h' } := I.kept (t' := sh.toks) kp
        exact ⟨.ref h'.objs.size, _, newTup I1 r' hz, rfl, q.newT R h2 (I1.hok.fresh (Nat.le_refl _)) rfl⟩
      | _ => cases e
  · refine RDs.one_of rd rv fun v u hv hu' r1 r2 => ?_
    simp only [bifD, Option.some.injEq, Prod.mk.injEq] at e
    obtain ⟨rfl, rfl⟩ := e
    have r1' := r1
    rw [RD] at r1
    obtain ⟨a, ws, rfl, hq, rws⟩ := r1
    exact call_tuple_of pins sh σ H _ us Q I rv ⟨a, ws, hv, .inr ⟨hq.sq, q.here R r1'⟩⟩
theorem call_sumD (G : Gd X) : CallR X (.builtin "sum") (rCal X.prog X.w X.K fun ds s => bifD .sum ds s) := by
  intro pins sh σ H vs us Q I rv h
  obtain ⟨ι, s, ds, d, s', R, rd, e, q⟩ := h
  replace e : bifD .sum ds s = some (d, s') := e
  have hcase : ∃ r, ds = [.ref r] := by
    rcases ds with _ | ⟨x, _ | ⟨y, t⟩⟩
    · simp [bifD] at e
    · cases x <;> first | exact ⟨_, rfl⟩ | simp [bifD] at e
    · cases x <;> simp [bifD] at e
  obtain ⟨r, rfl⟩ := hcase
  refine RDs.one_of rd rv fun v u hv hu' r1 r2 => ?_
  simp only [bifD] at e
  cases hs : s[r]? with
  | none => rw [hs] at e; cases e
  | some c =>
    rw [hs] at e
    cases c with
    | lst l =>
      simp only [Option.map_eq_some_iff, Prod.mk.injEq] at e
      obtain ⟨is, e1, rfl, rfl⟩ := e
      obtain ⟨a, rfl, ha, cell⟩ := R.ofRef hs r1
      obtain ⟨ws, h1, h2⟩ := cell_seq cell
      have := RDs_ints h2 e1
      subst this
      exact cr_sum G.calm pins sh σ H _ us Q I rv ⟨a, is, hv, h1, q.int R⟩
    | _ => cases e
theorem call_allD (G : Gd X) : CallR X (.builtin "all") (rCal X.prog X.w X.K fun ds s => bifD .all ds s) := by
  intro pins sh σ H vs us Q I rv h
  obtain ⟨ι, s, ds, d, s', R, rd, e, q⟩ := h
  replace e : bifD .all ds s = some (d, s') := e
  have hcase : ∃ r, ds = [.ref r] := by
    rcases ds with _ | ⟨x, _ | ⟨y, t⟩⟩
    · simp [bifD] at e
    · cases x <;> first | exact ⟨_, rfl⟩ | simp [bifD] at e
    · cases x <;> simp [bifD] at e
  obtain ⟨r, rfl⟩ := hcase
  refine RDs.one_of rd rv fun v u hv hu' r1 r2 => ?_
  simp only [bifD] at e
  cases hs : s[r]? with
  | none => rw [hs] at e; cases e
  | some c =>
    rw [hs] at e
    cases c with
    | lst l =>
      simp only [Option.map_eq_some_iff, Prod.mk.injEq] at e
      obtain ⟨is, e1, rfl, rfl⟩ := e
      obtain ⟨a, rfl, ha, cell⟩ := R.ofRef hs r1
      obtain ⟨ws, h1, h2⟩ := cell_seq cell
      have := RDs_bools h2 e1
      subst this
      exact cr_all G.calm pins sh σ H _ us Q I rv ⟨a, is, hv, h1, q.bl R⟩
    | _ => cases e
theorem call_anyD (G : Gd X) : CallR X (.builtin "any") (rCal X.prog X.w X.K fun ds s => bifD .any ds s) := by
  intro pins sh σ H vs us Q I rv h
  obtain ⟨ι, s, ds, d, s', R, rd, e, q⟩ := h
  replace e : bifD .any ds s = some (d, s') := e
  have hcase : ∃ r, ds = [.ref r] := by
    rcases ds with _ | ⟨x, _ | ⟨y, t⟩⟩
    · simp [bifD] at e
    · cases x <;> first | exact ⟨_, rfl⟩ | simp [bifD] at e
    · cases x <;> simp [bifD] at e
  obtain ⟨r, rfl⟩ := hcase
  refine RDs.one_of rd rv fun v u hv hu' r1 r2 => ?_
  simp only [bifD] at e
  cases hs : s[r]? with
  | none => rw [hs] at e; cases e
  | some c =>
    rw [hs] at e
    cases c with
    | lst l =>
      simp only [Option.map_eq_some_iff, Prod.mk.injEq] at e
      obtain ⟨is, e1, rfl, rfl⟩ := e
      obtain ⟨a, rfl, ha, cell⟩ := R.ofRef hs r1
      obtain ⟨ws, h1, h2⟩ := cell_seq cell
      have := RDs_bools h2 e1
      subst this
      exact cr_any G.calm pins sh σ H _ us Q I rv ⟨a, is, hv, h1, q.bl R⟩
    | _ => cases e
theorem call_reprD (G : Gd X) : CallR X (.builtin "repr") (rCal X.prog X.w X.K fun ds s => bifD .repr ds s) := by
  intro pins sh σ H vs us Q I rv h
  obtain ⟨ι, s, ds, d, s', R, rd, e, q⟩ := h
  replace e : bifD .repr ds s = some (d, s') := e
  have hcase : ∃ x, ds = [x] := by
    rcases ds with _ | ⟨x, _ | ⟨y, t⟩⟩
    · simp [bifD] at e
    · exact ⟨_, rfl⟩
    · cases x <;> simp [bifD] at e
  obtain ⟨x, rfl⟩ := hcase
  refine RDs.one_of rd rv fun v u hv hu' r1 r2 => ?_
  subst hv hu'
  have e : (reprD s x).map (fun z => (D.str z, s)) = some (d, s') := by cases x <;> exact e
  simp only [reprD, Option.map_eq_some_iff, Option.bind_eq_some_iff, Prod.mk.injEq] at e
  obtain ⟨z, ⟨dx, e1, e2⟩, rfl, rfl⟩ := e
  split at e2
  rotate_left
  · cases e2
  rename_i hc
  cases e2
  simp only [Bool.and_eq_true, decide_eq_true_eq, Bool.not_eq_true'] at hc
  obtain ⟨⟨⟨h1, h2⟩, h3⟩, h4⟩ := hc
  have h100 : dx.depth ≤ 100 := h3
  rw [L_eq] at h4
  obtain ⟨as, ra⟩ := reads_of I R r1 r2 e1
  have hu := G.units
  have fin : ∀ (h' : Heap) (t tk : Nat), (∀ b o, sh.heap.get? b = some o → h'.get? b = some o) → EP X pins σ Q (.str dx.shown t) { sh with heap := h', toks := tk } := fun h' t tk hk =>
    ⟨.str dx.shown, H, I.kept hk, ⟨t, rfl⟩, q.str R⟩
  cases ra with
  | none => exact PySem.P.repr_of_none (fin _ _ _ fun _ _ e => e)
  | bool b => exact PySem.P.repr_of_bool (fin _ _ _ fun _ _ e => e)
  | int i t => exact PySem.P.repr_of_int (by simpa [PyData.showable] using h1) (fin _ _ _ fun _ _ e => e)
  | str x t => exact PySem.P.repr_of_str (fin _ _ _ fun _ _ e => e) (by simpa only [PyData.shown] using h4)
  | list a1 a2 a3 a4 => exact repr_of_reads' (.list a1 a2 a3 a4) h1 (PyData.noDict_hsm h2) G.guards (by omega) (fun _ _ e => e) (fun h' u tk hk => fin h' u tk hk) h4
  | tuple a1 a2 a3 a4 => exact repr_of_reads' (.tuple a1 a2 a3 a4) h1 (PyData.noDict_hsm h2) G.guards (by omega) (fun _ _ e => e) (fun h' u tk hk => fin h' u tk hk) h4
  | dict a1 a2 a3 a4 a5 => simp [PyData.hasDict] at h2
end
end Ev
end

section
set_option autoImplicit false
set_option maxRecDepth 100000
set_option linter.unusedVariables false
/-! Ev12: in, not in, is None, reversed, methods, stores -/
namespace Ev
open PySem L2 PySem.SeqAt PyProof.Rows PySem.Calls

theorem canLayAll : ∀ {ys : List PyData}, (∀ y ∈ ys, y.canLay0 = true) → PyData.canLayAll0 ys = true
  | [], _ => rfl
  | y :: ys, h => by
    rw [PyData.canLayAll0, h y (List.mem_cons_self ..), canLayAll fun z hz => h z (List.mem_cons_of_mem _ hz)]
    rfl
theorem depthAll_le {B : Nat} : ∀ {ys : List PyData}, (∀ y ∈ ys, y.depth ≤ B) → PyData.depthAll ys ≤ B
  | [], _ => Nat.zero_le _
  | y :: ys, h => by
    rw [PyData.depthAll]
    have h1 := h y (List.mem_cons_self ..)
    have h2 : PyData.depthAll ys ≤ B := depthAll_le fun z hz => h z (List.mem_cons_of_mem _ hz)
    exact Nat.max_le.mpr ⟨h1, h2⟩
theorem inSeq_ok {s : Sto} {x : D} {ds : List D} {b : Bool} (e : inSeq s x ds = some b) : ∃ ys dx, dataAll s ds = some ys ∧ x.data s = some dx ∧ dx.canLay0 = true ∧ PyData.canLayAll0 ys = true ∧ min (PyData.depthAll ys) dx.depth ≤ 100 ∧ b = ys.any fun y => y.eqv dx := by
  unfold inSeq at e
  simp only [Option.bind_eq_some_iff] at e
  obtain ⟨ys, e1, dx, e2, e3⟩ := e
  split at e3
  · rename_i hc
    cases e3
    simp only [Bool.and_eq_true, List.all_eq_true, decide_eq_true_eq] at hc
    refine ⟨ys, dx, e1, e2, hc.1, canLayAll fun y hy => (hc.2 y hy).1, ?_, rfl⟩
    by_cases h : dx.depth ≤ 100
    · exact Nat.le_trans (Nat.min_le_right _ _) h
    · refine Nat.le_trans (Nat.min_le_left _ _) (depthAll_le fun y hy => ?_)
      have h2 := (hc.2 y hy).2
      have h3 : min y.depth dx.depth ≤ 100 := h2
      omega
  · cases e3

section
variable {X : Cx}
theorem op_inD (G : Gd X) : OpR X (compareOp .In) (rCmp X.prog X.w X.K fun x y s => inD s x y) := by
  intro pins sh σ H vx vy ux uy Q I rx ry h
  obtain ⟨ι, s, x, y, b, R, hx, hy, e, q⟩ := h
  replace e : inD s x y = some b := e
  have hu := G.units
  cases y with
  | tup ds =>
    obtain ⟨ys, dx, e1, e2, c1, c2, c3, rfl⟩ := inSeq_ok e
    rw [RD] at hy
    obtain ⟨a, vs, rfl, hq, rws⟩ := hy
    cases ry
    obtain ⟨its, rv, ⟨o, ho, hcl, n, hda⟩, hz⟩ := I.tuple hq.sq
    obtain ⟨as, ra⟩ := reads_all I R rws rv e1
    obtain ⟨bs, rb⟩ := reads_of I R hx rx e2
    exact in_tuple_reads (.tuple ho hcl hda (by simpa using ra)) rb c2 c1 (by omega) ⟨.bl _, H, I, rfl, q⟩
  | ref r =>
    simp only [inD] at e
    cases hs : s[r]? with
    | none => rw [hs] at e; cases e
    | some c =>
      rw [hs] at e
      obtain ⟨a, rfl, ha, cell⟩ := R.ofRef hs hy
      cases ry
      cases c with
      | lst ds =>
        obtain ⟨ys, dx, e1, e2, c1, c2, c3, rfl⟩ := inSeq_ok e
        obtain ⟨vs, h1, h2⟩ := cell
        obtain ⟨z, its, n, rv, ho⟩ := I.hok a _ h1
        obtain ⟨as, ra⟩ := reads_all I R h2 rv e1
        obtain ⟨bs, rb⟩ := reads_of I R hx rx e2
        exact in_list_reads (.list ho rfl rfl (by simpa using ra)) rb c2 c1 (by omega) ⟨.bl _, H, I, rfl, q⟩
      | dct kvs =>
        simp only [C.kvs, Option.bind_some] at e
        split at e
        · rename_i hf
          cases e
          obtain ⟨u', dr, da⟩ := cell.drd (kvs := kvs) rfl
          exact dIn hu I dr da hf hx rx fun s' I' => ⟨.bl _, H, I', rfl, q⟩
        · cases e
      | lck kvs =>
        simp only [C.kvs, Option.bind_some] at e
        split at e
        · rename_i hf
          cases e
          obtain ⟨u', dr, da⟩ := cell.drd (kvs := kvs) rfl
          exact dIn hu I dr da hf hx rx fun s' I' => ⟨.bl _, H, I', rfl, q⟩
        · cases e
  | _ => simp [inD] at e
theorem op_notInD (G : Gd X) : OpR X (compareOp .NotIn) (rCmp X.prog X.w X.K fun x y s => (inD s x y).map (!·)) := by
  intro pins sh σ H vx vy ux uy Q I rx ry h
  obtain ⟨ι, s, x, y, b, R, hx, hy, e, q⟩ := h
  simp only [Option.map_eq_some_iff] at e
  obtain ⟨b, e, rfl⟩ := e
  replace e : inD s x y = some b := e
  have hu := G.units
  cases y with
  | tup ds =>
    obtain ⟨ys, dx, e1, e2, c1, c2, c3, rfl⟩ := inSeq_ok e
    rw [RD] at hy
    obtain ⟨a, vs, rfl, hq, rws⟩ := hy
    cases ry
    obtain ⟨its, rv, ⟨o, ho, hcl, n, hda⟩, hz⟩ := I.tuple hq.sq
    obtain ⟨as, ra⟩ := reads_all I R rws rv e1
    obtain ⟨bs, rb⟩ := reads_of I R hx rx e2
    exact notIn_tuple_reads (.tuple ho hcl hda (by simpa using ra)) rb c2 c1 (by omega) ⟨.bl _, H, I, rfl, q⟩
  | ref r =>
    simp only [inD] at e
    cases hs : s[r]? with
    | none => rw [hs] at e; cases e
    | some c =>
      rw [hs] at e
      obtain ⟨a, rfl, ha, cell⟩ := R.ofRef hs hy
      cases ry
      cases c with
      | lst ds =>
        obtain ⟨ys, dx, e1, e2, c1, c2, c3, rfl⟩ := inSeq_ok e
        obtain ⟨vs, h1, h2⟩ := cell
        obtain ⟨z, its, n, rv, ho⟩ := I.hok a _ h1
        obtain ⟨as, ra⟩ := reads_all I R h2 rv e1
        obtain ⟨bs, rb⟩ := reads_of I R hx rx e2
        exact notIn_list_reads (.list ho rfl rfl (by simpa using ra)) rb c2 c1 (by omega) ⟨.bl _, H, I, rfl, q⟩
      | dct kvs =>
        simp only [C.kvs, Option.bind_some] at e
        split at e
        · rename_i hf
          cases e
          obtain ⟨u', dr, da⟩ := cell.drd (kvs := kvs) rfl
          exact dNotIn hu I dr da hf hx rx fun s' I' => ⟨.bl _, H, I', rfl, q⟩
        · cases e
      | lck kvs =>
        simp only [C.kvs, Option.bind_some] at e
        split at e
        · rename_i hf
          cases e
          obtain ⟨u', dr, da⟩ := cell.drd (kvs := kvs) rfl
          exact dNotIn hu I dr da hf hx rx fun s' I' => ⟨.bl _, H, I', rfl, q⟩
        · cases e
  | _ => simp [inD] at e

theorem RD_non {K : PySem.W.Frag} {ι : List Addr} {H : Hp} {d : D} {v : V} (h : RD K ι H d v) : decide (v = .non) = decide (d = .non) := by
  cases d with
  | non => rw [RD] at h; subst h; simp
  | bl b => rw [RD] at h; subst h; simp
  | int b => rw [RD] at h; subst h; simp
  | str b => rw [RD] at h; subst h; simp
  | tup b => rw [RD] at h; obtain ⟨_, _, rfl, _⟩ := h; simp
  | ref b => rw [RD] at h; obtain ⟨_, rfl, _⟩ := h; simp
  | scr b => rw [RD] at h; obtain ⟨_, rfl, _⟩ := h; simp
theorem op_isD : OpR X (compareOp .Is) (rCmp X.prog X.w X.K fun x y s => cmpD .Is x y s) := by
  intro pins sh σ H vx vy ux uy Q I rx ry h
  obtain ⟨ι, s, x, y, b, R, hx, hy, e, q⟩ := h
  cases y with
  | non =>
    rw [RD] at hy; subst hy
    cases ry
    simp only [cmpD, Option.some.injEq] at e
    subst e
    exact is_none_gen ⟨.bl _, H, I, by rw [rx.none_iff, RD_non hx]; rfl, q⟩
  | _ => simp [cmpD] at e
theorem op_isNotD : OpR X (compareOp .IsNot) (rCmp X.prog X.w X.K fun x y s => cmpD .IsNot x y s) := by
  intro pins sh σ H vx vy ux uy Q I rx ry h
  obtain ⟨ι, s, x, y, b, R, hx, hy, e, q⟩ := h
  cases y with
  | non =>
    rw [RD] at hy; subst hy
    cases ry
    simp only [cmpD, Option.some.injEq] at e
    subst e
    exact isnot_none_gen ⟨.bl _, H, I, by rw [rx.none_iff, RD_non hx]; rfl, q⟩
  | _ => simp [cmpD] at e
theorem cmp_int {P : Int → Int → Bool} {op : CmpOp} (hop : ∀ x y s, cmpD op x y s = match x, y with
    | .int i, .int j => cmpI op i j
    | .tup _, .tup _ => match op with
      | .Lt => ltD s x y
      | _ => none
    | _, _ => none) {s : Sto} {x y : D} {b : Bool} (e : cmpD op x y s = some b) : (∃ i j, x = .int i ∧ y = .int j ∧ cmpI op i j = some b) ∨ (∃ l m, x = .tup l ∧ y = .tup m ∧ op = .Lt ∧ ltD s x y = some b) := by
  rw [hop] at e
  split at e
  · exact .inl ⟨_, _, rfl, rfl, e⟩
  · split at e
    · exact .inr ⟨_, _, rfl, rfl, rfl, e⟩
    · cases e
  · cases e
theorem op_cmpD (G : Gd X) (op : CmpOp) : OpR X (compareOp op) (rCmp X.prog X.w X.K fun x y s => cmpD op x y s) := by
  have hu := G.units
  cases op with
  | Eq => exact op_eqD hu
  | NotEq => exact op_neD hu
  | Is => exact op_isD
  | IsNot => exact op_isNotD
  | In => exact op_inD G
  | NotIn => exact op_notInD G
  | Lt =>
    intro pins sh σ H vx vy ux uy Q I rx ry h
    obtain ⟨ι, s, x, y, b, R, hx, hy, e, q⟩ := h
    rcases cmp_int (P := fun _ _ => true) (fun x y s => by cases x <;> cases y <;> rfl) e with ⟨i, j, rfl, rfl, e1⟩ | ⟨l, m, rfl, rfl, _, e1⟩
    · rw [RD] at hx hy; subst hx hy
      obtain ⟨t, rfl⟩ := rx; obtain ⟨t', rfl⟩ := ry
      cases e1
      exact lt_int ⟨.bl _, H, I, rfl, q⟩
    · exact op_ltD hu pins sh σ H vx vy ux uy Q I rx ry ⟨ι, s, _, _, b, R, hx, hy, e1, q⟩
  | LtE =>
    intro pins sh σ H vx vy ux uy Q I rx ry h
    obtain ⟨ι, s, x, y, b, R, hx, hy, e, q⟩ := h
    rcases cmp_int (P := fun _ _ => true) (fun x y s => by cases x <;> cases y <;> rfl) e with ⟨i, j, rfl, rfl, e1⟩ | ⟨l, m, rfl, rfl, e0, e1⟩
    · rw [RD] at hx hy; subst hx hy
      obtain ⟨t, rfl⟩ := rx; obtain ⟨t', rfl⟩ := ry
      cases e1
      exact le_int ⟨.bl _, H, I, rfl, q⟩
    · cases e0
  | Gt =>
    intro pins sh σ H vx vy ux uy Q I rx ry h
    obtain ⟨ι, s, x, y, b, R, hx, hy, e, q⟩ := h
    rcases cmp_int (P := fun _ _ => true) (fun x y s => by cases x <;> cases y <;> rfl) e with ⟨i, j, rfl, rfl, e1⟩ | ⟨l, m, rfl, rfl, e0, e1⟩
    · rw [RD] at hx hy; subst hx hy
      obtain ⟨t, rfl⟩ := rx; obtain ⟨t', rfl⟩ := ry
      cases e1
      exact gt_int ⟨.bl _, H, I, rfl, q⟩
    · cases e0
  | GtE =>
    intro pins sh σ H vx vy ux uy Q I rx ry h
    obtain ⟨ι, s, x, y, b, R, hx, hy, e, q⟩ := h
    rcases cmp_int (P := fun _ _ => true) (fun x y s => by cases x <;> cases y <;> rfl) e with ⟨i, j, rfl, rfl, e1⟩ | ⟨l, m, rfl, rfl, e0, e1⟩
    · rw [RD] at hx hy; subst hx hy
      obtain ⟨t, rfl⟩ := rx; obtain ⟨t', rfl⟩ := ry
      cases e1
      exact ge_int ⟨.bl _, H, I, rfl, q⟩
    · cases e0
end
end Ev
end

section
set_option autoImplicit false
set_option maxRecDepth 100000
set_option linter.unusedVariables false
/-! Ev13: methods, stores, reversed -/
namespace Ev
open PySem L2 PySem.SeqAt PyProof.Rows PySem.Calls

section
variable {P : Program} {w : World} {K : PySem.W.Frag} {ι : List Addr} {H : Hp} {s s' : Sto} {Q : VK} {d : D}
/-- the list at r is written -/
theorem set_rep (R : Rep P w K ι H s) {r : Nat} {ds ds' : List D} {a : Addr} {vs vs' : List V} (hs : s[r]? = some (.lst ds)) (ha : ι[r]? = some a) (hH : H a = some (.lst vs)) (rd : RDs K ι H ds' vs') :
    Go ι ι H (upd H a (.lst vs')) ∧ Rep P w K ι (upd H a (.lst vs')) (s.set r (.lst ds')) ∧ Stay K H (upd H a (.lst vs')) := by
  have st : Stay K H (upd H a (.lst vs')) := stay_set hH (fun _ z => nomatch z) (fun _ _ z => nomatch z) (fun _ _ z => nomatch z)
  refine ⟨Go.set (List.mem_of_getElem? ha) hH (fun _ _ z => nomatch z), ?_, st⟩
  refine R.set hs ha (fun _ z => by rw [hH] at z; cases z) (fun _ _ z => by rw [hH] at z; cases z) (fun _ _ z => by rw [hH] at z; cases z) ⟨vs', upd_same, rd.mono st fun _ _ e => e⟩
theorem Ret.setL (h : Ret P w K ι H Q d s') (R : Rep P w K ι H s) {r : Nat} {ds ds' : List D} {a : Addr} {vs vs' : List V} (hs : s[r]? = some (.lst ds)) (ha : ι[r]? = some a) (hH : H a = some (.lst vs)) (rd : RDs K ι H ds' vs') (e : s' = s.set r (.lst ds'))
    {v : V} (rv : RD K ι H d v) : Q v (upd H a (.lst vs')) := by
  subst e
  obtain ⟨g, R', st⟩ := set_rep R hs ha hH rd
  exact h v _ ι g R' (rv.mono st fun _ _ e => e)
end

def mId : Mt → String
  | .append => "list.append" | .extend => "list.extend" | .pop => "list.pop" | .get => "dict.get" | .index => "list.index"
def mTy : Mt → String
  | .get => "dict"
  | _ => "list"
/-- a method's reading by its run -/
def rMth (P : Program) (w : World) (K : PySem.W.Frag) (m : Mt) : V → List V → Hp → VK → Prop := fun vx vs H Q => ∃ ι s x ds d s', Rep P w K ι H s ∧ RD K ι H x vx ∧ RDs K ι H ds vs ∧ mthD m x ds s = some (d, s') ∧ Ret P w K ι H Q d s'
section
variable {X : Cx}
theorem mt_D (G : Gd X) (m : Mt) : MtR X (mId m) (rMth X.prog X.w X.K m) := by
  intro pins sh σ H vx vs ux us Q I rx rv h
  obtain ⟨ι, s, x, ds, d, s', R, hx, hds, e, q⟩ := h
  cases x with
  | ref r =>
    simp only [mthD] at e
    split at e
    · -- append
      rename_i dd l hs
      split at e
      · rename_i hl
        rw [L_eq] at hl
        cases e
        obtain ⟨a, rfl, ha, ws, h1, h2⟩ := R.ofRef hs hx
        refine RDs.one_of hds rv fun v u hv hu' r1 r2 => ?_
        have := h2.length
        exact mt_append pins sh σ H _ vs ux us Q I rx rv ⟨a, ws, v, rfl, hv, h1, by omega, q.setL R hs ha h1 (h2.append (RDs.one r1)) rfl (by rw [RD])⟩
      · cases e
    · -- extend
      rename_i qq l hs
      split at e
      · rename_i es hs2
        split at e
        · rename_i hl
          rw [L_eq] at hl
          cases e
          obtain ⟨a, rfl, ha, ws, h1, h2⟩ := R.ofRef hs hx
          refine RDs.one_of hds rv fun v u hv hu' r1 r2 => ?_
          obtain ⟨b, rfl, hb, ws2, h3, h4⟩ := R.ofRef hs2 r1
          have := h2.length; have := h4.length
          exact mt_extend pins sh σ H _ vs ux us Q I rx rv ⟨a, b, ws, ws2, rfl, hv, h1, h3, by omega, q.setL R hs ha h1 (h2.append h4) rfl (by rw [RD])⟩
        · cases e
      · cases e
    · -- pop
      rename_i l hs
      simp only [Option.map_eq_some_iff, Prod.mk.injEq] at e
      obtain ⟨d', e1, rfl, rfl⟩ := e
      obtain ⟨a, rfl, ha, ws, h1, h2⟩ := R.ofRef hs hx
      rw [RDs] at hds
      subst hds
      have hl := h2.length
      rw [List.getLast?_eq_getElem?] at e1
      obtain ⟨v, hv, rdv⟩ := h2.get e1
      exact mt_pop pins sh σ H _ _ ux us Q I rx rv ⟨a, ws, v, rfl, rfl, h1, by rw [hl]; exact hv, q.setL R hs ha h1 h2.dropLast rfl rdv⟩
    · -- pop i
      rename_i i l hs
      simp only [Option.bind_eq_some_iff, Option.map_eq_some_iff, Prod.mk.injEq] at e
      obtain ⟨j, e1, d', e2, rfl, rfl⟩ := e
      obtain ⟨a, rfl, ha, ws, h1, h2⟩ := R.ofRef hs hx
      refine RDs.one_of hds rv fun v u hv hu' r1 r2 => ?_
      rw [RD] at r1
      subst r1
      have hl := h2.length
      obtain ⟨z, _⟩ := I.hok a _ h1
      rw [sizeLine_eq] at z
      obtain ⟨k1, k2, k3, k4⟩ := ixN_seq (show ixN l.length i = some j from e1)
      obtain ⟨v', hv', rdv⟩ := h2.get e2
      exact mt_popAt pins sh σ H _ vs ux us Q I rx rv ⟨a, ws, i, j, v', rfl, hv, h1, by omega, by omega, by rw [hl]; exact k1, hv', q.setL R hs ha h1 (h2.eraseIdx j) rfl rdv⟩
    · -- get
      rename_i k dd c hs
      simp only [Option.bind_eq_some_iff] at e
      obtain ⟨kvs, e1, e2⟩ := e
      split at e2
      · rename_i hf
        cases e2
        obtain ⟨a, rfl, ha, cell⟩ := R.ofRef hs hx
        cases rx
        refine two_of hds rv fun v v' u u' hv hu' r1 r2 r3 r4 => ?_
        subst hv hu'
        obtain ⟨u0, dr, da⟩ := cell.drd e1
        exact dGet2 G.units I dr da hf r1 r3 r2 r4 fun v1 u1 s1 I1 rr1 rd1 => ⟨v1, H, I1, rr1, q.here R rd1⟩
      · cases e2
    · cases e
  | _ => simp [mthD] at e

/-- the receiver's type -/
theorem mthOk_ty {pins : List (Addr × Obj)} {σ : L2.St} {H : Hp} {sh : Shared} (I : Inv X pins σ H sh) {ι : List Addr} {s : Sto} (R : Rep X.prog X.w X.K ι H s) {m : Mt} {x : D} (h : mthOk m x s = true) {v : V} {u : Value} (rd : RD X.K ι H x v) (rv : RelV v u) :
    sh.TypeIs u (mTy m) ∧ ∀ a, u = .ref a → ∃ ob, sh.heap.get? a = some ob ∧ ob.dict = none := by
  cases x with
  | ref r =>
    simp only [mthOk] at h
    split at h
    · rename_i l hs
      obtain ⟨a, rfl, ha, ws, h1, h2⟩ := R.ofRef hs rd
      cases rv
      obtain ⟨z, its, n, rr, ho⟩ := I.hok a _ h1
      cases m <;> first | exact ⟨⟨_, ho, rfl⟩, fun b e => by cases e; exact ⟨_, ho, rfl⟩⟩ | simp at h
    · rename_i c hc hs
      obtain ⟨a, rfl, ha, cell⟩ := R.ofRef hs rd
      cases rv
      have hd : ∃ kvs, c.kvs = some kvs := by
        cases c with
        | lst l => exact absurd rfl (hc l)
        | dct kvs => exact ⟨kvs, rfl⟩
        | lck kvs => exact ⟨kvs, rfl⟩
      obtain ⟨kvs, hk⟩ := hd
      obtain ⟨u', dr, da⟩ := cell.drd hk
      obtain ⟨es, ep, ⟨o, ho, hx, _⟩, _⟩ := dRaw I dr da
      cases m <;> first | exact ⟨⟨_, ho, hx.1⟩, fun b e => by cases e; exact ⟨_, ho, hx.2.1⟩⟩ | simp at h
    · cases h
  | _ => simp [mthOk] at h

/-! ### o[i] = v -/
def rSet (P : Program) (w : World) (K : PySem.W.Frag) : TSet := fun vo vi vv H Q => ∃ ι s x k d s', Rep P w K ι H s ∧ RD K ι H x vo ∧ RD K ι H k vi ∧ RD K ι H d vv ∧ setD x k d s = some s' ∧ ∀ H' ι', Go ι ι' H H' → Rep P w K ι' H' s' → Q H'
theorem set_D (G : Gd X) : PSet X (rSet X.prog X.w X.K) := by
  intro pins sh σ H vo vi vv ou iu vu Q I ro ri rv h
  obtain ⟨ι, s, x, k, d, s', R, hx, hk, hd, e, q⟩ := h
  cases x with
  | ref r =>
    simp only [setD] at e
    split at e
    · rename_i l i hs
      simp only [Option.map_eq_some_iff] at e
      obtain ⟨j, e1, rfl⟩ := e
      obtain ⟨a, rfl, ha, ws, h1, h2⟩ := R.ofRef hs hx
      rw [RD] at hk
      subst hk
      have hl := h2.length
      obtain ⟨g, R', st⟩ := set_rep R hs ha h1 (h2.set j hd)
      exact set_list pins sh σ H _ _ _ ou iu vu Q I ro ri rv ⟨a, ws, i, j, rfl, rfl, h1, by rw [hl]; exact e1, q _ ι g R'⟩
    · rename_i kvs hs
      split at e
      · rename_i hc
        simp only [Bool.and_eq_true, decide_eq_true_eq] at hc
        obtain ⟨hf, hl⟩ := hc
        rw [L_eq] at hl
        cases e
        obtain ⟨a, rfl, ha, u, h1, h2⟩ := R.ofRef hs hx
        cases ro
        obtain ⟨n1, n2, n3, n4⟩ := h2.notTup
        refine dSetItem G.units I h1 h2 hf hl hk ri hd rv fun sh' u' I' h' => ⟨_, I', q _ ι (Go.set (List.mem_of_getElem? ha) h1 n2) ?_⟩
        exact R.set hs ha (fun vs z => by rw [h1] at z; exact n1 vs (Option.some.inj z)) (fun _ _ z => by rw [h1] at z; exact n2 _ _ (Option.some.inj z)) (fun _ _ z => by rw [h1] at z; exact n2 _ _ (Option.some.inj z)) ⟨u', upd_same, h'⟩
      · cases e
    · cases e
  | _ => simp [setD] at e
end
end Ev
end

section
set_option autoImplicit false
set_option maxRecDepth 100000
set_option linter.unusedVariables false
/-! Ev14: x[::-1] -/
namespace Ev
open PySem L2 PySem.SeqAt PyProof.Rows PySem.Calls

theorem places_rev (n : Nat) : Builtin.Slice.slicePlaces ((n : Int) - 1) (-1) (-1) = n := by
  unfold Builtin.Slice.slicePlaces
  rw [if_neg (by decide)]
  by_cases h : ((n : Int) - 1) > -1
  · rw [if_pos h]
    have : (-(-1) : Int) = 1 := by decide
    rw [this, Int.ediv_one]
    omega
  · rw [if_neg h]
    have : n = 0 := by omega
    subst this
    rfl
theorem fm_some {α β : Type} {f : α → Option β} {g : α → β} : ∀ {l : List α}, (∀ m ∈ l, f m = some (g m)) → l.filterMap f = l.map g
  | [], _ => rfl
  | a :: l, h => by rw [List.filterMap_cons_some (h a (List.mem_cons_self ..)), List.map_cons, fm_some fun m hm => h m (List.mem_cons_of_mem _ hm)]
theorem pick_rev (xs : Array Value) : ((List.range xs.size).filterMap fun (m : Nat) => xs[(((xs.size : Int) - 1) + (m : Int) * (-1)).toNat]?).toArray = xs.toList.reverse.toArray := by
  congr 1
  refine List.ext_getElem? fun i => ?_
  have key : (List.range xs.size).filterMap (fun (m : Nat) => xs[(((xs.size : Int) - 1) + (m : Int) * (-1)).toNat]?) = (List.range xs.size).map fun m => xs.toList.getD (xs.size - 1 - m) .none := by
    refine fm_some fun m hm => ?_
    have hm' : m < xs.size := List.mem_range.mp hm
    have e : (((xs.size : Int) - 1) + (m : Int) * (-1)).toNat = xs.size - 1 - m := by omega
    have h2 : xs.size - 1 - m < xs.toList.length := by rw [Array.length_toList]; omega
    rw [e, ← Array.getElem?_toList, List.getElem?_eq_getElem h2, List.getD_eq_getElem?_getD, List.getElem?_eq_getElem h2]
    rfl
  rw [key, List.getElem?_map]
  by_cases h : i < xs.size
  · rw [List.getElem?_range h, List.getElem?_reverse (by rw [Array.length_toList]; exact h)]
    have h2 : xs.size - 1 - i < xs.toList.length := by rw [Array.length_toList]; omega
    rw [Array.length_toList, List.getElem?_eq_getElem h2, Option.map_some, List.getD_eq_getElem?_getD, List.getElem?_eq_getElem h2]
    rfl
  · rw [List.getElem?_eq_none (by simpa using h), List.getElem?_eq_none (by simpa using h)]
    rfl

section
variable {prog : Program} {w : World} {A : Around} {E : Value → Shared → Prop} {s : Shared}
theorem sliceApplied_rev {sl : Addr} {vl vu vs : Value} {n : Nat} {Q : Int × Int × Nat → Shared → Prop} (hs : s.heap.IsSliceOf sl vl vu vs) (pl : IsPart vl none) (pu : IsPart vu none) (ps : IsPart vs (some (-1)))
    (h : Q ((n : Int) - 1, -1, n) s) : wpAny (model prog w) A (Builtin.Slice.sliceApplied (.ref sl) (pure (n : Int))) Q E s := by
  obtain ⟨os, hos, hcs, hds⟩ := id hs
  unfold Builtin.Slice.sliceApplied Builtin.Slice.sliceFields
  refine wpAny_bind (wpAny_bind (wpAny_field hos hds (x := vl) rfl (wpAny_bind (wpAny_field hos hds (x := vu) rfl (wpAny_bind (wpAny_field hos hds (x := vs) rfl (wpAny_pure ?_)))))))
  refine wpAny_bind (HT.slicePart_ ps ?_)
  show wpAny _ _ (if ((-1 : Int) == 0) = true then _ else _) _ _ s
  rw [if_neg (by decide)]
  refine wpAny_bind (HT.slicePart_ pl (wpAny_bind (HT.slicePart_ pu (wpAny_bind (wpAny_pure ?_)))))
  show wpAny _ _ (match Builtin.Slice.sliceAdjust none none (-1) (n : Int) with | (lo, hi) => pure (lo, (-1 : Int), Builtin.Slice.slicePlaces lo hi (-1))) _ _ s
  have e : Builtin.Slice.sliceAdjust none none (-1) (n : Int) = ((n : Int) - 1, -1) := rfl
  rw [e]
  show wpAny _ _ (pure ((n : Int) - 1, (-1 : Int), Builtin.Slice.slicePlaces ((n : Int) - 1) (-1) (-1))) _ _ s
  rw [places_rev]
  exact wpAny_pure h
theorem getItem_tuple_rev {t sl : Addr} {items : Array Value} {vl vu vs : Value} {Q : Value → Shared → Prop} (ht : IsTup s.heap t items) (hs : s.heap.IsSliceOf sl vl vu vs) (pl : IsPart vl none) (pu : IsPart vu none) (ps : IsPart vs (some (-1)))
    (h : Q (.ref s.heap.objs.size) { s with heap := s.heap.push { cls := .type "tuple", data := .seq items.toList.reverse.toArray } })
    (hsz : items.size ≤ sizeLine) : wpAny (model prog w) A (getItem (.ref t) (.ref sl)) Q E s := by
  have htake : sizeOk (.seq items.toList.reverse.toArray) := by
    show items.toList.reverse.toArray.size ≤ sizeLine
    simpa using hsz
  obtain ⟨os, hos, hcs, hds⟩ := id hs
  have hTs : s.TypeIs (.ref sl) "slice" := ⟨os, hos, hcs⟩
  unfold getItem
  try with_reducible refine wpAny_holding ?_
  first | refine wpAny_bind (wpAny_pure ?_) | skip
  refine wpAny_bind (wpAny_sequenceKey ht.typeIs (by decide) ?_)
  refine wpAny_bind (wpAny_callSpecial?_slot (name := Str.ofString "__getitem__") ht.typeIs PyProof.Rows.slot_tuple_getitem
    (wpAny_call_entry PyProof.Rows.slot_tuple_getitem ht.typeIs entry_tuple_getitem ?_ (args_tuple_getitem _ _)))
  show wpAny _ _ (Builtin.Tuple.tupleItemsOf (.ref t) >>= _) _ _ s
  refine wpAny_bind (tupleItemsOf_ ht ?_)
  refine wpAny_bind (wpAny_typeOf hTs ?_)
  rw [if_pos (by decide)]
  refine wpAny_bind (sliceApplied_rev hs pl pu ps ?_)
  have hno : ¬ ((((items.size : Int) - 1) == 0 && (-1 : Int) == 1 && items.size == items.size) = true) := by
    intro q
    rw [Bool.and_eq_true, Bool.and_eq_true] at q
    exact absurd q.1.2 (by decide)
  show wpAny _ _ (if (((items.size : Int) - 1) == 0 && (-1 : Int) == 1 && items.size == items.size) = true then _ else _) _ _ s
  rw [if_neg hno, pick_rev]
  first
    | exact wpAny_bind (m := Builtin.Tuple.tupleExact _) (wpAny_newObj_type (wpAny_pure ⟨_, rfl, wpAny_pure h⟩) htake)
    | exact wpAny_bind (m := Builtin.Tuple.tupleExact _) (wpAny_newObj_type (wpAny_bind (wpAny_pure (wpAny_pure ⟨_, rfl, wpAny_pure h⟩))) htake)
    | exact wpAny_bind (wpAny_bind (m := Builtin.Tuple.tupleExact _) (wpAny_newObj_type (wpAny_pure (wpAny_pure ⟨_, rfl, wpAny_pure h⟩)) htake))
    | exact wpAny_bind (wpAny_bind (m := Builtin.Tuple.tupleExact _) (wpAny_newObj_type (wpAny_pure ⟨_, rfl, wpAny_pure h⟩) htake))
end

def rRev (P : Program) (w : World) (K : PySem.W.Frag) : V → Hp → VK → Prop := fun vx H Q => ∃ ι s x d s', Rep P w K ι H s ∧ RD K ι H x vx ∧ revD x s = some (d, s') ∧ Ret P w K ι H Q d s'
section
variable {X : Cx}
theorem pe_revD {e : Expr} {te : TE} {k : Nat} {p1 p2 p3 pos : Pos} (he : PE X e te) : PE X (.Subscript e (.Slice none none (some (.UnaryOp .USub (.Constant (.int 1) k p1) p2)) p3) pos) (tUn (rRev X.prog X.w X.K) te) := by
  refine ⟨fun pins s σ H Q I h => ?_⟩
  refine Subscript_ (thn (he.run pins s σ H _ I h) fun v s1 ⟨x, H1, I1, r1, q1⟩ => ?_)
  have hst : PO X (some (.UnaryOp .USub (.Constant (.int 1) k p1) p2)) (tPart (tUn (rU fun i => .int (-i)) (tC (.int 1)))) := po_some (pe_un un_neg pe_int)
  refine wpAny_Slice (thn (po_none.run pins s1 σ H1 (fun o H2 => o = none ∧ H2 = H1) I1 ⟨rfl, rfl⟩) fun vl s2 ⟨l, H2, I2, pl, el, e2⟩ => ?_)
  subst el e2
  refine thn (po_none.run pins s2 σ H2 (fun o H3 => o = none ∧ H3 = H2) I2 ⟨rfl, rfl⟩) fun vu s3 ⟨u, H3, I3, pu, eu, e3⟩ => ?_
  subst eu e3
  refine thn (hst.run pins s3 σ H3 (fun o H4 => o = some (-1) ∧ H4 = H3) I3 ⟨1, rfl, -1, rfl, rfl, rfl⟩) fun vs s4 ⟨o, H4, I4, ps, eo, e4⟩ => ?_
  subst eo e4
  have I5 : Inv X pins σ H4 { s4 with heap := s4.heap.push { cls := .type "slice", data := .fields #[vl, vu, vs] } } := I4.kept (t' := s4.toks) fun b ob q => Heap.get?_push_of_some _ q
  obtain ⟨ι, s0, xd, d, s0', R, hx, er, q⟩ := q1
  show wpAny (model X.prog X.w) X.A (subscriptTail e (.Slice none none (some (.UnaryOp .USub (.Constant (.int 1) k p1) p2)) p3) v (.ref s4.heap.objs.size)) (EP X pins σ Q) X.xe { s4 with heap := s4.heap.push { cls := .type "slice", data := .fields #[vl, vu, vs] } }
  cases xd with
  | tup l =>
    simp only [revD, Option.some.injEq, Prod.mk.injEq] at er
    obtain ⟨rfl, rfl⟩ := er
    rw [RD] at hx
    obtain ⟨a, ws, rfl, hq, rd⟩ := hx
    cases r1
    obtain ⟨its, r, ht, hz⟩ := I5.tuple hq.sq
    have hlen := r.length
    refine tail_any (ops := [.ref a, .ref s4.heap.objs.size]) ht.typeIs (PyProof.Rows.slot_tuple_getitem.lookup) ?_ (by with_unfolding_all rfl)
    refine getItem_tuple_rev ht (Heap.IsSliceOf.new _ vl vu vs) pl pu ps ?_ (by rw [List.size_toArray]; omega)
    exact ⟨.ref _, _, newTup I5 r.reverse (by rw [List.length_reverse]; exact hz), rfl, q.newT R rd.reverse (I5.hok.fresh (Nat.le_refl _)) rfl⟩
  | ref i =>
    simp only [revD] at er
    split at er
    · rename_i l hs
      obtain ⟨hz0, rfl, rfl⟩ := newL_some er
      obtain ⟨a, rfl, ha, ws, h1, rd⟩ := R.ofRef hs hx
      cases r1
      obtain ⟨its, r, ht, hz⟩ := I5.list (.inl (.inl h1))
      have hlen := r.length
      refine tail_any (ops := [.ref a, .ref s4.heap.objs.size]) ht.isList.typeIs (PySem.slot_list_getitem.lookup) ?_ (by with_unfolding_all rfl)
      refine wpAny_getItem_list_slice ht.isList (Heap.IsSliceOf.new _ vl vu vs) pl pu ps (by decide) ?_ (by rw [List.size_toArray]; omega)
      rw [PySem.W.krv_pick]
      refine ⟨.ref _, _, I5.laid (t' := s4.toks) (o := .lst ws.reverse) (fun b ob q => Heap.get?_push_of_some _ q) (Nat.le_refl _) ?_, rfl, q.newL R rd.reverse (I5.hok.fresh (Nat.le_refl _))⟩
      exact ⟨by rw [List.length_reverse]; exact hz, _, 0, r.reverse, Heap.get?_push_size _ rfl⟩
    · cases er
  | _ => simp [revD] at er
end
end Ev
end

section
set_option autoImplicit false
set_option maxRecDepth 100000
set_option linter.unusedVariables false
/-! Ev14d: dict(pairs), dict(dict) -/
namespace Ev
open PySem L2 PySem.SeqAt PyProof.Rows PySem.Calls
section
variable {X : Cx} {pins : List (Addr × Obj)} {σ : L2.St} {H : Hp} {sh : Shared} {ι : List Addr} {s : Sto}
/-- a pair as it lies -/
structure PQ where
  T : Addr
  uk : Value
  uv : Value
  vk : V
  vv : V
def PQ.Ok (K : PySem.W.Frag) (ι : List Addr) (H : Hp) (h : Heap) (q : PQ) (p : D × D) : Prop :=
  h.IsTuple q.T #[q.uk, q.uv] ∧ RelV q.vk q.uk ∧ RelV q.vv q.uv ∧ RD K ι H p.1 q.vk ∧ RD K ι H p.2 q.vv
theorem pq_items (I : Inv X pins σ H sh) : ∀ {ds : List D} {ws : List V} {us : List Value} {ps : List (D × D)}, RDs X.K ι H ds ws → Vals ws us → pairsD ds = some ps →
    ∃ qs : List PQ, us = qs.map (fun q => .ref q.T) ∧ Paired (PQ.Ok X.K ι H sh.heap) qs ps
  | [], ws, us, ps, h, q, e => by
    rw [RDs] at h; subst h; cases q
    simp only [pairsD, Option.some.injEq] at e
    subst e
    exact ⟨[], rfl, .nil⟩
  | d :: ds, ws, us, ps, h, q, e => by
    rw [RDs] at h
    obtain ⟨v, t, rfl, h1, h2⟩ := h
    cases q with
    | cons q1 q2 =>
      have : ∃ k v, d = .tup [k, v] := by
        unfold pairsD at e
        split at e
        · rename_i e0; cases e0
        · rename_i k v ds' e0; cases e0; exact ⟨_, _, rfl⟩
        · cases e
      obtain ⟨k, v', rfl⟩ := this
      simp only [pairsD, Option.map_eq_some_iff] at e
      obtain ⟨ps', e1, rfl⟩ := e
      obtain ⟨qs, e2, hp⟩ := pq_items I h2 q2 e1
      rw [RD] at h1
      obtain ⟨a, ws, rfl, hq, rws⟩ := h1
      cases q1
      obtain ⟨its, rv, p, _⟩ := I.tuple hq.sq
      rcases ws with _ | ⟨vk, _ | ⟨vv, _ | ⟨_, _⟩⟩⟩
      · exact absurd rws.length (by simp)
      · exact absurd rws.length (by simp)
      · rw [RDs_cons, RDs_cons] at rws
        cases rv with
        | cons r1 rv => cases rv with
          | cons r2 rv => cases rv with
            | nil =>
              subst e2
              exact ⟨⟨a, _, _, vk, vv⟩ :: qs, rfl, .cons ⟨p, r1, r2, rws.1, rws.2.1⟩ hp⟩
      · exact absurd rws.length (by simp)
/-- all keys are ints and texts -/
theorem pq_atoms {h : Heap} : ∀ {qs : List PQ} {ps : List (D × D)}, Paired (PQ.Ok X.K ι H h) qs ps → (∀ p ∈ ps, atomK p.1 = true) →
    ∃ (kv : List (Key × V)) (rs : List (Key × Value)), Paired (atomKV X.K ι H) ps kv ∧ KV kv rs ∧ rs.length = qs.length ∧ ∀ (i : Nat) (q : PQ), qs[i]? = some q → ∃ k, rs[i]? = some (k, q.uv) ∧ (mixKind X.prog X.w).is k q.uk = true
  | [], [], .nil, _ => ⟨[], [], .nil, .nil, rfl, fun i q e => by simp at e⟩
  | q :: qs, p :: ps, .cons ⟨h0, h1, h2, h3, h4⟩ t, ha => by
    obtain ⟨kv, rs, a1, a2, a3, a4⟩ := pq_atoms t fun p hp => ha p (List.mem_cons_of_mem _ hp)
    obtain ⟨k, ek⟩ := atomK_dK (ha p (List.mem_cons_self ..))
    rw [ek] at h3
    have e := RD_dK h3
    rw [e] at h1
    refine ⟨(k, q.vv) :: kv, (k, q.uv) :: rs, .cons ⟨ek, h4⟩ a1, .cons ⟨rfl, h2⟩ a2, by simp [a3], fun i q' e' => ?_⟩
    cases i with
    | zero => simp at e'; subst e'; exact ⟨k, rfl, kV_is h1⟩
    | succ i => simp at e'; obtain ⟨k', b1, b2⟩ := a4 i q' e'; exact ⟨k', by simpa using b1, b2⟩
theorem putAll_atoms : ∀ {ps : List (D × D)} {kv : List (Key × V)} {acc r : List (D × D)} {a1 : List (Key × V)}, Paired (atomKV X.K ι H) ps kv → Paired (atomKV X.K ι H) acc a1 → putAll acc ps = some r → Paired (atomKV X.K ι H) r (mergeK a1 kv)
  | [], [], acc, r, a1, .nil, h, e => by
    simp only [putAll, Option.some.injEq] at e
    subst e
    exact h
  | p :: ps, k :: kv, acc, r, a1, .cons ⟨h1, h2⟩ t, h, e => by
    simp only [putAll] at e
    split at e
    · have := atom_put (k := k.1) h2 h
      rw [← h1] at this
      show Paired _ r (mergeK (putK a1 k.1 k.2) kv)
      exact putAll_atoms t this e
    · cases e
/-- all keys are tuples -/
theorem pq_nests {h : Heap} : ∀ {qs : List PQ} {ps : List (D × D)}, Paired (PQ.Ok X.K ι H h) qs ps → (∀ p ∈ ps, tupK p.1 = true) →
    ∃ xs : List (NestedKey × Addr × Value), Paired (nestKV X.K ι H) ps xs ∧ xs.length = qs.length ∧ ∀ (i : Nat) (q : PQ), qs[i]? = some q → ∃ k b, xs[i]? = some (k, b, q.uv) ∧ q.uk = .ref b
  | [], [], .nil, _ => ⟨[], .nil, rfl, fun i q e => by simp at e⟩
  | q :: qs, p :: ps, .cons ⟨h0, h1, h2, h3, h4⟩ t, ha => by
    obtain ⟨xs, a1, a3, a4⟩ := pq_nests t fun p hp => ha p (List.mem_cons_of_mem _ hp)
    obtain ⟨ds, ks, ek, e1, e2, e3⟩ := tupK_nk (ha p (List.mem_cons_self ..))
    have h3' := h3
    rw [ek, RD] at h3'
    obtain ⟨b, ws, ev, _, _⟩ := h3'
    rw [ev] at h1 h3
    have eu : q.uk = .ref b := by generalize q.uk = u at h1; cases h1; rfl
    refine ⟨(.tup ks, b, q.uv) :: xs, .cons ⟨e2, e3, h3, q.vv, h2, h4⟩ a1, by simp [a3], fun i q' e' => ?_⟩
    cases i with
    | zero => simp at e'; subst e'; exact ⟨_, b, rfl, eu⟩
    | succ i => simp at e'; obtain ⟨k', b', b1, b2⟩ := a4 i q' e'; exact ⟨k', b', by simpa using b1, b2⟩
theorem putAll_nests : ∀ {ps : List (D × D)} {xs : List (NestedKey × Addr × Value)} {acc r : List (D × D)} {a1 : List (NestedKey × Addr × Value)}, Paired (nestKV X.K ι H) ps xs → Paired (nestKV X.K ι H) acc a1 → putAll acc ps = some r → Paired (nestKV X.K ι H) r (storedAllH a1 xs)
  | [], [], acc, r, a1, .nil, h, e => by
    simp only [putAll, Option.some.injEq] at e
    subst e
    exact h
  | p :: ps, x :: xs, acc, r, a1, .cons ⟨h1, h2, h3, v, h4, h5⟩ t, h, e => by
    simp only [putAll] at e
    split at e
    · show Paired _ r (storedAllH (storedH a1 x.1 x.2.1 x.2.2) xs)
      exact putAll_nests t (nest_put h1 h2 h3 h4 h5 h) e
    · cases e
theorem atom_not_tup {d : D} (h : atomK d = true) (h' : tupK d = true) : False := by
  obtain ⟨k, rfl⟩ := atomK_dK h
  cases k <;> simp [dK, tupK] at h'
theorem key_dput {acc : List (D × D)} {k v : D} : (∃ e ∈ dput acc k v, e.1 = k) ∧ ∀ e ∈ acc, ∃ e' ∈ dput acc k v, e'.1 = e.1 := by
  unfold dput
  split
  next h =>
    refine ⟨?_, fun e he => ⟨_, List.mem_map.2 ⟨e, he, rfl⟩, by split <;> rfl⟩⟩
    obtain ⟨e, he, hk⟩ := List.any_eq_true.1 h
    rw [decide_eq_true_eq] at hk
    exact ⟨_, List.mem_map.2 ⟨e, he, rfl⟩, by rw [if_pos hk]; exact hk⟩
  next h => exact ⟨⟨(k, v), by simp, rfl⟩, fun e he => ⟨e, by simp [he], rfl⟩⟩
theorem putAll_kind : ∀ {ps acc r : List (D × D)}, putAll acc ps = some r → ∀ e ∈ acc, (atomK e.1 = true → ∀ p ∈ ps, atomK p.1 = true) ∧ (tupK e.1 = true → ∀ p ∈ ps, tupK p.1 = true)
  | [], acc, r, _, e, _ => ⟨fun _ _ hp => (nomatch hp), fun _ _ hp => (nomatch hp)⟩
  | p :: ps, acc, r, h, e, he => by
    simp only [putAll] at h
    split at h
    · rename_i hf
      obtain ⟨e', he', ek⟩ := (key_dput (acc := acc) (k := p.1) (v := p.2)).2 e he
      have ih := putAll_kind h e' he'
      rw [ek] at ih
      unfold keyFits at hf
      simp only [Bool.or_eq_true, Bool.and_eq_true, List.all_eq_true] at hf
      refine ⟨fun ha q hq => ?_, fun ha q hq => ?_⟩
      · rcases List.mem_cons.mp hq with rfl | hq
        · rcases hf with hf | hf
          · exact hf.1
          · exact absurd (hf.2 e he) fun z => atom_not_tup ha z
        · exact ih.1 ha q hq
      · rcases List.mem_cons.mp hq with rfl | hq
        · rcases hf with hf | hf
          · exact absurd (hf.2 e he) fun z => atom_not_tup z ha
          · exact hf.1
        · exact ih.2 ha q hq
    · cases h
theorem putAll_kinds {ps r : List (D × D)} (h : putAll [] ps = some r) : (∀ p ∈ ps, atomK p.1 = true) ∨ ∀ p ∈ ps, tupK p.1 = true := by
  cases ps with
  | nil => exact .inl fun p hp => by cases hp
  | cons p ps =>
    simp only [putAll] at h
    split at h
    · rename_i hf
      obtain ⟨⟨e, he, ek⟩, _⟩ := key_dput (acc := []) (k := p.1) (v := p.2)
      have ih := putAll_kind h e he
      rw [ek] at ih
      unfold keyFits at hf
      simp only [Bool.or_eq_true, Bool.and_eq_true] at hf
      rcases hf with hf | hf
      · exact .inl fun q hq => by
          rcases List.mem_cons.mp hq with rfl | hq
          · exact hf.1
          · exact ih.1 hf.1 q hq
      · exact .inr fun q hq => by
          rcases List.mem_cons.mp hq with rfl | hq
          · exact hf.1
          · exact ih.2 hf.1 q hq
    · cases h
theorem paired_ix {α β : Type} {F : α → β → Prop} : ∀ {l : List α} {m : List β}, Paired F l m → l.length = m.length
  | [], [], .nil => rfl
  | _ :: _, _ :: _, .cons _ t => by simp [paired_ix t]
theorem dictPairs (hc : X.calm = true) (hu : X.A.units + 200 < cLine) {T : String} {a : Addr} {fp : List Addr} {OK : Heap → Prop} {qs : List PQ} {ps kvs : List (D × D)} {Q : VK}
    (P : PairArg X.prog X.w T a fp [] qs.length (fun i k v => ∃ q, qs[i]? = some q ∧ k = q.uk ∧ v = q.uv) OK) (ok : OK sh.heap) (hp : Paired (PQ.Ok X.K ι H sh.heap) qs ps) (hk : putAll [] ps = some kvs) (hz : qs.length ≤ sizeLine)
    (I : Inv X pins σ H sh) (R : Rep X.prog X.w X.K ι H s) (q : Ret X.prog X.w X.K ι H Q (.ref s.length) (s ++ [.dct kvs])) : wpAny (model X.prog X.w) X.A (call (.type "dict") [.ref a]) (EP X pins σ Q) X.xe sh := by
  have hn := I.hok.fresh (Nat.le_refl sh.heap.objs.size)
  have hm : (sh.heap.objs.size == sysModules) = false := beq_eq_false_iff_ne.mpr (Nat.ne_of_gt I.big)
  have fin : ∀ (u : HO) (h' : Heap) (tk : Nat), (∀ b o, sh.heap.get? b = some o → h'.get? b = some o) → ObjOk X.prog X.w (upd H sh.heap.objs.size u) h' sh.heap.objs.size u → DctAt X.prog X.w X.K ι H kvs sh.heap.objs.size u → EP X pins σ Q (.ref sh.heap.objs.size) { sh with heap := h', toks := tk } := fun u h' tk hk ho hd => by
    have g : Go ι (ι ++ [sh.heap.objs.size]) H (upd H sh.heap.objs.size u) := Go.push hn
    refine ⟨.ref sh.heap.objs.size, upd H sh.heap.objs.size u, I.laid (t' := tk) hk (Nat.le_refl _) ho, rfl, q _ _ _ g (R.push hn ⟨u, upd_same, hd.mono (stay_upd hn) fun i b e => g.ix e⟩) ?_⟩
    rw [RD]
    exact ⟨_, rfl, by rw [List.getElem?_append_right (by rw [R.len]; omega), R.len]; simp⟩
  rcases putAll_kinds hk with ha | ha
  · obtain ⟨kv, rs, b1, b2, b3, b4⟩ := pq_atoms hp ha
    have hd := putAll_atoms b1 .nil hk
    refine call_dict_pairs (knd := mixKind X.prog X.w) (kvs := rs) P (I.ok.hd hc) ok ⟨b3, fun i k v ⟨q', e, e1, e2⟩ => ?_⟩ hz fun h' tk hd' hb => ?_
    · obtain ⟨k', c1, c2⟩ := b4 i q' e
      subst e1 e2
      exact ⟨k', c1, c2⟩
    · have hl : (mergeK [] kv).length ≤ sizeLine := by
        refine Nat.le_trans (length_mergeK kv []) ?_
        rw [List.length_nil, Nat.zero_add, b2.length, b3]
        exact hz
      exact fin (.dK (mergeK [] kv)) h' tk (fun b o e => hb b o (by simp) e) ⟨hl, hm, merged [] rs, KV.merge b2 .nil, hd'⟩ (.inl ⟨_, rfl, hd⟩)
  · obtain ⟨xs, b1, b3, b4⟩ := pq_nests hp ha
    have hd := putAll_nests b1 .nil hk
    have hst : KeysStay (nestedKind X.prog X.w) sh.heap sh.heap.objs.size [] xs := fun h' hk' x hx => by
      obtain ⟨i, hi⟩ := List.mem_iff_getElem?.mp hx
      have hlt : i < ps.length := by
        have := (List.getElem?_eq_some_iff.mp hi).1
        have := Paired.length b1
        omega
      obtain ⟨x', e1, h1, h2, h3, _⟩ := paired_get b1 (List.getElem?_eq_getElem hlt)
      rw [hi] at e1; cases e1
      exact nestedKind_stays.stays (fun b o vs n e _ => hk' b o (Nat.ne_of_lt (Heap.lt_size e)) (by simp) e) ⟨nestIs I h3 rfl h1, h2⟩
    refine call_dict_pairsH (knd := nestedKind X.prog X.w) (ps := xs) P (I.ok.hd hc) (show X.A.in1.in1.units + 8 < cLine by show X.A.units + 1 + 1 + 8 < cLine; omega) ok ⟨b3, fun i k v ⟨q', e, e1, e2⟩ => ?_⟩ hst hz fun h' tk hd' hb => ?_
    · obtain ⟨k', b, c1, c2⟩ := b4 i q' e
      subst e1 e2
      exact ⟨k', b, c1, c2⟩
    · obtain ⟨o, es, ep, ho, hx, hda, hes, _, hnd⟩ := hd'
      have hl : (storedAllH [] xs).length ≤ sizeLine := by
        have := storedAllH_length xs []
        simp only [List.length_nil, Nat.zero_add] at this
        omega
      exact fin (ndHO X.prog X.w sh.heap.objs.size (storedAllH [] xs)) h' tk (fun b o e => hb b o (by simp) e) (ndOk ⟨hm, o, es, ep, ho, hx, hda, hes⟩) (.inr ⟨_, rfl, hl, hnd, hd⟩)
theorem pairItems {h : Heap} {qs : List PQ} {ps : List (D × D)} (hp : Paired (PQ.Ok X.K ι H h) qs ps) :
    PairItems h (qs.map (fun q => Value.ref q.T)).toArray (fun j => ((qs[j]?).map (·.T)).getD 0) (qs.map fun q => (q.uk, q.uv)) := by
  refine ⟨by simp, fun j k v e => ?_⟩
  rw [List.getElem?_map, Option.map_eq_some_iff] at e
  obtain ⟨q, hq, e⟩ := e
  cases e
  refine ⟨by simp [hq], ?_⟩
  have hlt : j < ps.length := by rw [← paired_ix hp]; exact (List.getElem?_eq_some_iff.mp hq).1
  have : ∃ p, PQ.Ok X.K ι H h q p := by
    clear hlt
    induction hp generalizing j with
    | nil => simp at hq
    | cons a t ih => cases j with
      | zero => simp at hq; subst hq; exact ⟨_, a⟩
      | succ j => exact ih j (by simpa using hq)
  obtain ⟨p, h0, _⟩ := this
  simp only [hq, Option.map_some, Option.getD_some]
  exact .inl h0
theorem PairArg.of {prog : Program} {w : World} {T : String} {a : Addr} {fp wr : List Addr} {n n' : Nat} {Rel Rel' : Nat → Value → Value → Prop} {OK : Heap → Prop} (P : PairArg prog w T a fp wr n Rel OK) (hn : n = n') (hr : Rel = Rel') : PairArg prog w T a fp wr n' Rel' OK := by
  subst hn hr
  exact P
theorem rel_eq (qs : List PQ) : PairRel (qs.map fun q => (q.uk, q.uv)) = fun i k v => ∃ q, qs[i]? = some q ∧ k = q.uk ∧ v = q.uv := by
  funext i k v
  unfold PairRel
  rw [List.getElem?_map, Option.map_eq_some_iff]
  refine propext ⟨fun ⟨q, e, h⟩ => ⟨q, e, ?_⟩, fun ⟨q, e, h1, h2⟩ => ⟨q, e, by rw [h1, h2]⟩⟩
  cases h
  exact ⟨rfl, rfl⟩
theorem RoT.plain (I : Inv X pins σ H sh) {a : Addr} {vs : List V} (h : RoT X.K H a vs) : ∃ its : List Value, Vals vs its ∧ PlainSeq "tuple" sh.heap a its.toArray ∧ vs.length ≤ sizeLine := by
  rcases h with ⟨o, h, hd⟩ | ⟨o, its, n, hk, hc, hd, hs, hz, r⟩
  · obtain ⟨ho, hz, its, rv, o', ho', hc, n, hs⟩ := I.hok a _ h
    rw [ho] at ho'
    cases ho'
    exact ⟨its, rv, ⟨o, n, ho, hc, hd, hs⟩, hz⟩
  · refine ⟨its.toList, r, ⟨o, n, I.kIn a o hk, hc, hd, by simpa using hs⟩, ?_⟩
    have e := r.length
    simp only [Array.length_toList] at e
    omega
theorem call_dictD' (hc : X.calm = true) (hu : X.A.units + 200 < cLine) : CallR X (.type "dict") (rCal X.prog X.w X.K fun ds s => bifD .dict ds s) := by
  intro pins sh σ H vs us Q I rv h
  obtain ⟨ι, s, ds, d, s', R, rd, e, q⟩ := h
  replace e : bifD .dict ds s = some (d, s') := e
  have hcase : (∃ r, ds = [.ref r]) ∨ ∃ l, ds = [.tup l] := by
    rcases ds with _ | ⟨x, _ | ⟨y, t⟩⟩
    · simp [bifD] at e
    · cases x <;> first | exact .inl ⟨_, rfl⟩ | exact .inr ⟨_, rfl⟩ | simp [bifD] at e
    · cases x <;> simp [bifD] at e
  have pairs : ∀ {l : List D} {ws : List V} {its : List Value} {a : Addr}, dictOf l s = some (d, s') → RDs X.K ι H l ws → Vals ws its → (PlainSeq "list" sh.heap a its.toArray ∨ PlainSeq "tuple" sh.heap a its.toArray) → wpAny (model X.prog X.w) X.A (call (.type "dict") [.ref a]) (EP X pins σ Q) X.xe sh := fun {l ws its a} e h2 rv' pl => by
    unfold dictOf at e
    split at e
    · rename_i hl
      simp only [Option.bind_eq_some_iff, Option.map_eq_some_iff, Prod.mk.injEq] at e
      obtain ⟨ps, e1, kvs, e2, rfl, rfl⟩ := e
      obtain ⟨qs, eq, hp⟩ := pq_items I h2 rv' e1
      have hz : qs.length ≤ sizeLine := by
        have h3 := rv'.length
        have h4 := h2.length
        rw [eq, List.length_map] at h3
        rw [L_eq] at hl
        omega
      have pi := pairItems hp
      rw [← eq] at pi
      rcases pl with pl | pl
      · exact dictPairs hc hu (PairArg.of (PairArg.list a its.toArray _ _) (by simp) (rel_eq qs)) ⟨pl, pi⟩ hp e2 hz I R q
      · exact dictPairs hc hu (PairArg.of (PairArg.tuple a its.toArray _ _) (by simp) (rel_eq qs)) ⟨pl, pi⟩ hp e2 hz I R q
    · cases e
  rcases hcase with ⟨r, rfl⟩ | ⟨l, rfl⟩
  · refine RDs.one_of rd rv fun v u hv hu' r1 r2 => ?_
    subst hv hu'
    simp only [bifD] at e
    cases hs : s[r]? with
    | none => rw [hs] at e; cases e
    | some c =>
      rw [hs] at e
      obtain ⟨a, rfl, ha, cell⟩ := R.ofRef hs r1
      cases r2
      cases c with
      | lst ds =>
        obtain ⟨ws, h1, h2⟩ := cell
        obtain ⟨its, rv', ⟨o, n, ho, hcl, hd, hda⟩, hz'⟩ := I.list (.inl (.inl h1))
        exact pairs e h2 rv' (.inl ⟨o, n, ho, hcl, hd, hda⟩)
      | dct _ => cases e
      | lck _ => cases e
  · refine RDs.one_of rd rv fun v u hv hu' r1 r2 => ?_
    subst hv hu'
    simp only [bifD] at e
    rw [RD] at r1
    obtain ⟨a, ws, rfl, hq, rws⟩ := r1
    cases r2
    obtain ⟨its, rv', pl, hz'⟩ := hq.plain I
    exact pairs e rws rv' (.inr pl)
end
end Ev
end

section
set_option autoImplicit false
set_option maxRecDepth 100000
set_option linter.unusedVariables false
/-! Ev15: what loops walk -/
namespace Ev
open PySem L2 PySem.SeqAt PyProof.Rows PySem.Calls

/-- J yields g's items while what g needs stays -/
structure ItOk (P : Program) (w : World) (K : PySem.W.Frag) (ι1 : List Addr) (H1 : Hp) (g : Src) (J : L2.It) : Prop where
  step : ∀ (ι2 : List Addr) (H : Hp) (s2 : Sto), Go ι1 ι2 H1 H → Rep P w K ι2 H s2 → g.ok s2 = true → ∀ i : Nat,
    (∀ d, g.items[i]? = some d → J.go i H ∧ ∀ x H', J.yld i H x H' → Go ι2 ι2 H H' ∧ Rep P w K ι2 H' s2 ∧ RD K ι2 H' d x) ∧ (g.items.length ≤ i → J.stop i H)
/-- what is known of a dict that this loop locked -/
def Lk (X : Cx) (H : Hp) (ι1 : List Addr) (H1 : Hp) (g : Src) (s : Sto) : Prop := ∀ r, g.lock = some r → ∃ c a, s[r]? = some c ∧ ι1[r]? = some a ∧
  ((∃ kvs, c = .lck kvs) ∨ ∃ kvs od u, c = .dct kvs ∧ H1 a = some (.frz od u) ∧ DctAt X.prog X.w X.K ι1 H1 kvs a u ∧ (∀ o' u', X.H_0 a ≠ some (.frz o' u')) ∧ ∀ o' u', H a ≠ some (.frz o' u'))
theorem Lk.go {X : Cx} {H H' : Hp} {ι0 ι ι1 : List Addr} {H1 : Hp} {g : Src} {s : Sto} (h : Lk X H' ι1 H1 g s) (q : Go ι0 ι H H') : Lk X H ι1 H1 g s := fun r e => by
  obtain ⟨c, a, h1, h2, h3⟩ := h r e
  refine ⟨c, a, h1, h2, h3.imp id fun ⟨kvs, od, u, e1, e2, e3, e4, e5⟩ => ⟨kvs, od, u, e1, e2, e3, e4, fun o' u' z => e5 o' u' (q.frz _ _ _ z)⟩⟩
def RetI (X : Cx) (ι : List Addr) (H : Hp) (s' : Sto) (g : Src) (R : L2.It → Hp → Prop) : Prop :=
  ∀ J H1 ι1, Go ι ι1 H H1 → Rep X.prog X.w X.K ι1 H1 (lockS g s') → Lk X H ι1 H1 g s' → ItOk X.prog X.w X.K ι1 H1 g J → R J H1
def iD (X : Cx) (run : Env → Sto → Option (Src × Sto)) : TI := fun σ H R => ∃ ι env s g s', RepE X.K ι H env σ ∧ Rep X.prog X.w X.K ι H s ∧ run env s = some (g, s') ∧ RetI X ι H s' g R
theorem RetI.go {X : Cx} {ι ι1 : List Addr} {H H1 : Hp} {s1 s' : Sto} {g : Src} {R : L2.It → Hp → Prop} (R1 : Rep X.prog X.w X.K ι1 H1 s1) (h : Go ι ι1 H H1) (q : RetI X ι H s' g R) : RetI X ι1 H1 s' g R :=
  fun J H2 ι2 g2 a b => q J H2 ι2 (h.trans R1 g2) a (b.go h)

/-! ### lists, tuples -/
section
variable {P : Program} {w : World} {K : PySem.W.Frag} {ι1 : List Addr} {H1 : Hp} {s1 : Sto}
theorem itOk_list (R : Rep P w K ι1 H1 s1) {r : Nat} {ds : List D} {a : Addr} (hs : s1[r]? = some (.lst ds)) (ha : ι1[r]? = some a) : ItOk P w K ι1 H1 ⟨ds, [(r, .lst ds)], none⟩ (Itl K a) := by
  refine ⟨fun ι2 H s2 g R2 ok i => ?_⟩
  have hs2 : s2[r]? = some (.lst ds) := by simpa [Src.ok] using ok
  obtain ⟨vs, h1, h2⟩ := R2.cell r _ a hs2 (g.ix ha)
  have hl := h2.length
  refine ⟨fun d hd => ?_, fun hi => ⟨vs, .inl (.inl h1), by simp only at hi; omega⟩⟩
  obtain ⟨v, hv, rv⟩ := h2.get hd
  refine ⟨⟨vs, v, .inl (.inl h1), hv⟩, fun x H' y => ?_⟩
  obtain ⟨rfl, y⟩ := y
  have := y vs (.inl (.inl h1))
  rw [hv] at this; cases this
  exact ⟨Go.refl, R2, rv⟩
theorem itOk_ro (R : Rep P w K ι1 H1 s1) {is : List Int} {a : Addr} (h : RoL K H1 a (is.map V.int)) : ItOk P w K ι1 H1 ⟨is.map .int, [], none⟩ (Itl K a) := by
  refine ⟨fun ι2 H s2 g R2 ok i => ?_⟩
  have h2 := (g.stay R).l _ _ h
  refine ⟨fun d hd => ?_, fun hi => ⟨_, h2.sq, by simpa using hi⟩⟩
  rw [List.getElem?_map, Option.map_eq_some_iff] at hd
  obtain ⟨n, hn, rfl⟩ := hd
  refine ⟨⟨_, .int n, h2.sq, by rw [List.getElem?_map, hn]; rfl⟩, fun x H' y => ?_⟩
  obtain ⟨rfl, y⟩ := y
  have := y _ h2.sq
  rw [List.getElem?_map, hn] at this
  cases this
  exact ⟨Go.refl, R2, by rw [RD]⟩
theorem itOk_tup (R : Rep P w K ι1 H1 s1) {ds : List D} {a : Addr} {vs : List V} (hq : RoT K H1 a vs) (rd : RDs K ι1 H1 ds vs) : ItOk P w K ι1 H1 ⟨ds, [], none⟩ (Itt K a) := by
  refine ⟨fun ι2 H s2 g R2 ok i => ?_⟩
  have h1 := ((g.stay R).t _ _ hq).sq
  have h2 := g.rds R rd
  have hl := h2.length
  refine ⟨fun d hd => ?_, fun hi => ⟨vs, h1, by simp only at hi; omega⟩⟩
  obtain ⟨v, hv, rv⟩ := h2.get hd
  refine ⟨⟨vs, v, h1, hv⟩, fun x H' y => ?_⟩
  obtain ⟨rfl, y⟩ := y
  have := y vs h1
  rw [hv] at this; cases this
  exact ⟨Go.refl, R2, rv⟩
theorem itOk_range {lo hi : Int} {g : Src} (e : srcRange lo hi = some g) : ItOk P w K ι1 H1 g (Itr lo (hi - lo).toNat) := by
  unfold srcRange at e
  split at e
  · cases e
    refine ⟨fun ι2 H s2 g R2 ok i => ⟨fun d hd => ?_, fun hh => by
      show (hi - lo).toNat ≤ i
      simp at hh
      omega⟩⟩
    rw [List.getElem?_map, Option.map_eq_some_iff] at hd
    obtain ⟨n, hn, rfl⟩ := hd
    have hlt := (List.getElem?_eq_some_iff.mp hn).1
    rw [List.length_range] at hlt
    rw [List.getElem?_range hlt] at hn
    cases hn
    refine ⟨hlt, fun x H' y => ?_⟩
    obtain ⟨rfl, rfl⟩ := y
    exact ⟨Go.refl, R2, by rw [RD]⟩
  · cases e
end

/-! ### dicts -/
/-- the keys of the locked dict at d -/
def ItDk (d : Addr) (o : Obj) (u : HO) (es : Array DictEntry) : L2.It :=
  ⟨fun i H => H d = some (.frz o u) ∧ ∃ en x, es[i]? = some en ∧ RelV x en.key, fun i H x H' => H' = H ∧ ∃ en, es[i]? = some en ∧ RelV x en.key, fun i H => H d = some (.frz o u) ∧ es.size ≤ i⟩
/-- its pairs -/
def ItDi (d : Addr) (o : Obj) (u : HO) (es : Array DictEntry) : L2.It :=
  ⟨fun i H => H d = some (.frz o u) ∧ ∃ en x y, es[i]? = some en ∧ RelV x en.key ∧ RelV y en.val, fun i H x H' => ∃ T en k v, es[i]? = some en ∧ RelV k en.key ∧ RelV v en.val ∧ x = .ref T ∧ H T = none ∧ ∃ its, H' = upd H T (.frz (tupObj its) (.tup [k, v])),
    fun i H => H d = some (.frz o u) ∧ es.size ≤ i⟩
section
variable {P : Program} {w : World} {K : PySem.W.Frag} {tg : Expr} {d : Addr} {o : Obj} {u : HO} {es : Array DictEntry} {ep : Nat}
theorem turn_dk (it : Addr) (hx : o.ExactDict) (hod : o.data = .dict es ep) : Turn P w K tg (ItDk d o u es) [it] it (fun i h => h.IsKeyIter it d i es.size ep) where
  mem := by simp
  obj := fun i h st b hb => by
    have e : b = it := by simpa using hb
    subst e
    obtain ⟨oi, e, c, dd⟩ := st
    exact ⟨oi, e, fun v z => by rw [dd] at z; cases z⟩
  keep := fun i h h' st k => st.at fun oi e => k it (by simp) oi e
  item := by
    intro X hP hw hK hc i pins s σ H E I hf st hg
    subst hP hw hK
    obtain ⟨hd, en, x, hen, rx⟩ := hg
    obtain ⟨f0, f1, f2, f3, f4, f5⟩ := hf it (by simp)
    have hgd : s.heap.get? d = some o := (I.hok d _ hd).1
    refine next_key_item st hgd hod rfl hen fun h' st' sb => ?_
    have I1 : Inv X pins σ H { s with heap := h' } := I.turned (t' := s.toks) (fun b ob hb e => (sb.2 b hb).trans e) f0 f1 f3 f4 f5
    obtain ⟨oi, e, c, dd⟩ := id st'
    exact ⟨en.key, rfl, go_of (s := { s with heap := h' }) e c dd (by decide) ⟨x, H, I1, rx, ⟨rfl, en, hen, rx⟩, st', fun b hb => (hf b hb).1⟩⟩
  done := by
    intro X hP hw hK hc i pins s σ H E I hf st hg
    subst hP hw hK
    obtain ⟨hd, hi⟩ := hg
    obtain ⟨f0, f1, f2, f3, f4, f5⟩ := hf it (by simp)
    have hgd : s.heap.get? d = some o := (I.hok d _ hd).1
    exact next_key_end (I.ok.hd hc) st hgd hod rfl hi fun h' eb => ⟨rfl, I.turned (t' := s.toks) (fun b ob hb e => eb b ob hb e) f0 f1 f3 f4 f5⟩
  self := fun A i s Q E st h => by
    refine wpAny_pyIter_slot st.typeIs PySem.F.slot_dict_keyiterator_iter (wpAny_call_entry PySem.F.slot_dict_keyiterator_iter st.typeIs PySem.F.entry_dict_keyiterator_iter ?_ (PySem.F.args_dict_keyiterator_iter_1 _))
    show wpAny _ _ (ret (.ref it)) _ _ s
    exact wpAny_pure ⟨_, rfl, "dict_keyiterator", _, st.typeIs, PySem.F.slot_dict_keyiterator_next.lookup, h⟩
theorem turn_di {elts : List Expr} {kk : Nat} {tpos : Pos} (it : Addr) (hx : o.ExactDict) (hod : o.data = .dict es ep) :
    Turn P w K (.Tuple elts kk tpos) (ItDi d o u es) [it] it (fun i h => ∃ ok ov, IsItemIter h it d i es.size ep ok ov) where
  mem := by simp
  obj := fun i h st b hb => by
    have e : b = it := by simpa using hb
    subst e
    obtain ⟨ok, ov, e⟩ := st
    exact ⟨_, e, fun v z => nomatch z⟩
  keep := fun i h h' st k => let ⟨ok, ov, e⟩ := st; ⟨ok, ov, k it (by simp) _ e⟩
  item := by
    intro X hP hw hK hc i pins s σ H E I hf st hg
    subst hP hw hK
    obtain ⟨hd, en, x, y, hen, rx, ry⟩ := hg
    have hgd : s.heap.get? d = some o := (I.hok d _ hd).1
    obtain ⟨hi, rfl⟩ := Array.getElem?_eq_some_iff.mp hen
    obtain ⟨ok, ov, he⟩ := st
    have hlt : it < s.heap.objs.size := Heap.lt_size he
    refine wpAny_pyNext_items_item_raw he ⟨o, hgd, hx, hod⟩ hi fun h' ho hT hz hk => ?_
    refine ⟨_, rfl, wpAny_letOwnedTupleGo_items (s := { s with heap := h' }) ho fun h'' he' sb => ?_⟩
    have hT2 : h''.get? s.heap.objs.size = some { cls := .type "tuple", data := .seq #[es[i].key, es[i].val] } := (sb.2 _ (Nat.ne_of_gt hlt)).trans hT
    have new : ObjOk X.prog X.w (upd H s.heap.objs.size (.frz (tupObj [es[i].key, es[i].val]) (.tup [x, y]))) h'' s.heap.objs.size (.frz (tupObj [es[i].key, es[i].val]) (.tup [x, y])) :=
      ⟨hT2, by show 2 ≤ sizeLine; decide, [es[i].key, es[i].val], .cons rx (.cons ry .nil), ⟨_, hT2, rfl, _, rfl⟩⟩
    have I1 : Inv X pins σ (upd H s.heap.objs.size (.frz (tupObj [es[i].key, es[i].val]) (.tup [x, y]))) { s with heap := h'' } :=
      I.turnedNew (t' := s.toks) (ch := [it]) (fun b ob hb e => (sb.2 b (by simpa using hb)).trans (hk b ob (by simpa using hb) e)) hf (Nat.le_refl _) new
    refine ⟨.ref s.heap.objs.size, _, I1, rfl, ⟨_, _, x, y, hen, rx, ry, rfl, I.hok.fresh (Nat.le_refl _), _, rfl⟩, ⟨_, _, he'⟩, fun b hb => ?_⟩
    have e : b = it := by simpa using hb
    rw [e, upd_ne (Nat.ne_of_lt hlt)]
    exact (hf it (by simp)).1
  done := by
    intro X hP hw hK hc i pins s σ H E I hf st hg
    subst hP hw hK
    obtain ⟨hd, hi⟩ := hg
    obtain ⟨f0, f1, f2, f3, f4, f5⟩ := hf it (by simp)
    have hgd : s.heap.get? d = some o := (I.hok d _ hd).1
    obtain ⟨ok, ov, he⟩ := st
    exact wpAny_pyNext_items_end_raw (I.ok.hd hc) he ⟨o, hgd, hx, hod⟩ hi fun h' eb => ⟨rfl, I.turned (t' := s.toks) (fun b ob hb e => eb b ob hb e) f0 f1 f3 f4 f5⟩
  self := fun A i s Q E st h => let ⟨_, _, e⟩ := st; PySem.W.kcp_self e h
end

section
variable {X : Cx} {pins : List (Addr × Obj)} {σ : L2.St} {sh : Shared} {ι : List Addr} {H : Hp} {s : Sto}
/-- a dict is locked (where it is not yet) -/
theorem lock_of (I : Inv X pins σ H sh) (R : Rep X.prog X.w X.K ι H s) {r : Nat} {c : C} {kvs : List (D × D)} {a : Addr} (hs : s[r]? = some c) (hk : c.kvs = some kvs) (ha : ι[r]? = some a) (items : List D) :
    ∃ H1 od u es ep, Inv X pins σ H1 sh ∧ Go ι ι H H1 ∧ Rep X.prog X.w X.K ι H1 (lockS ⟨items, [], some r⟩ s) ∧ Lk X H ι H1 ⟨items, [], some r⟩ s ∧ H1 a = some (.frz od u) ∧ od.ExactDict ∧ od.data = .dict es ep ∧ (a == sysModules) = false ∧ es.size = kvs.length ∧
      ∀ (i : Nat) (e : DictEntry), es[i]? = some e → ∃ p, kvs[i]? = some p ∧ EntOk X.K ι H1 p e := by
  have cell := R.cell r c a hs ha
  obtain ⟨u, dr, da⟩ := cell.drd hk
  obtain ⟨es, ep, ⟨o, ho, hx, hdat⟩, hsys, hkl, hsz, hent⟩ := dRaw I dr da
  obtain ⟨n1, n2, n3, mu⟩ := da.notTup
  cases c with
  | lst l => simp [C.kvs] at hk
  | dct k =>
    simp only [C.kvs, Option.some.injEq] at hk
    subst hk
    obtain ⟨u', hu, da'⟩ := cell
    have huu : u' = u := by
      rcases dr with z | ⟨o', z⟩
      · rw [hu] at z; exact Option.some.inj z
      · rw [hu] at z
        have := da'.notTup.2.1 o' u
        exact absurd (Option.some.inj z) this
    subst huu
    obtain ⟨od, I1⟩ := I.lock hu mu
    have st : Stay X.K H (upd H a (.frz od u')) := stay_set hu n1 (fun _ _ => n2 _ _) (fun _ _ => n2 _ _)
    have hod : od = o := by
      have := (I1.hok a _ upd_same).1
      rw [ho] at this
      exact (Option.some.inj this).symm
    subst hod
    have g : Go ι ι H (upd H a (.frz od u')) := Go.set (List.mem_of_getElem? ha) hu n2
    have hda : DctAt X.prog X.w X.K ι (upd H a (.frz od u')) k a u' := da.mono st fun _ _ e => e
    refine ⟨_, od, u', es, ep, I1, g, ?_, fun r' e => ?_, upd_same, hx, hdat, hsys, hsz, fun i e he => ?_⟩
    · have : lockS ⟨items, [], some r⟩ s = s.set r (.lck k) := by simp [lockS, hs]
      rw [this]
      exact R.set hs ha (fun vs z => by rw [hu] at z; exact n1 _ (Option.some.inj z)) (fun _ _ z => by rw [hu] at z; exact n2 _ _ (Option.some.inj z)) (fun _ _ z => by rw [hu] at z; exact n2 _ _ (Option.some.inj z)) ⟨od, u', upd_same, hda⟩
    · cases e
      exact ⟨_, a, hs, ha, .inr ⟨k, od, u', rfl, upd_same, hda, I.nofrz hu mu, fun o' u'' z => by rw [hu] at z; exact n2 _ _ (Option.some.inj z)⟩⟩
    · obtain ⟨p, hp, ⟨v, r1, r2⟩, v', r3, r4⟩ := hent i e he
      exact ⟨p, hp, ⟨v, r1, r2.mono st fun _ _ e => e⟩, v', r3, r4.mono st fun _ _ e => e⟩
  | lck k =>
    simp only [C.kvs, Option.some.injEq] at hk
    subst hk
    obtain ⟨od, u', hu, da'⟩ := cell
    have huu : u' = u := by
      rcases dr with z | ⟨o', z⟩
      · rw [hu] at z
        exact absurd (Option.some.inj z).symm (n2 od u')
      · rw [hu] at z
        cases z
        rfl
    subst huu
    have hod : od = o := by
      have := (I.hok a _ hu).1
      rw [ho] at this
      exact (Option.some.inj this).symm
    subst hod
    refine ⟨H, od, u', es, ep, I, Go.refl, ?_, fun r' e => ?_, hu, hx, hdat, hsys, hsz, hent⟩
    · have : lockS ⟨items, [], some r⟩ s = s := by simp [lockS, hs]
      rw [this]
      exact R
    · cases e
      exact ⟨_, a, hs, ha, .inl ⟨k, rfl⟩⟩
theorem itOk_dk {s1 : Sto} (R : Rep X.prog X.w X.K ι H s1) {r : Nat} {a : Addr} {od : Obj} {u : HO} {es : Array DictEntry} {kvs : List (D × D)} (hH : H a = some (.frz od u)) (hsz : es.size = kvs.length)
    (hent : ∀ (i : Nat) (e : DictEntry), es[i]? = some e → ∃ p, kvs[i]? = some p ∧ EntOk X.K ι H p e) : ItOk X.prog X.w X.K ι H ⟨kvs.map (·.1), [], some r⟩ (ItDk a od u es) := by
  refine ⟨fun ι2 H2 s2 g R2 ok i => ⟨fun d hd => ?_, fun hi => ⟨g.frz _ _ _ hH, by simp only [List.length_map] at hi; omega⟩⟩⟩
  rw [List.getElem?_map, Option.map_eq_some_iff] at hd
  obtain ⟨p, hp, rfl⟩ := hd
  have hlt := (List.getElem?_eq_some_iff.mp hp).1
  have he : es[i]? = some (es[i]'(by omega)) := Array.getElem?_eq_getElem _
  obtain ⟨p', hp', ⟨v, r1, r2⟩, _⟩ := hent i _ he
  rw [hp] at hp'; cases hp'
  refine ⟨⟨g.frz _ _ _ hH, _, v, he, r1⟩, fun x H' y => ?_⟩
  obtain ⟨rfl, en, hen, rx⟩ := y
  rw [he] at hen; cases hen
  have := rx.inj r1
  subst this
  exact ⟨Go.refl, R2, g.rd R r2⟩
theorem itOk_di {s1 : Sto} (R : Rep X.prog X.w X.K ι H s1) {r : Nat} {a : Addr} {od : Obj} {u : HO} {es : Array DictEntry} {kvs : List (D × D)} (hH : H a = some (.frz od u)) (hsz : es.size = kvs.length)
    (hent : ∀ (i : Nat) (e : DictEntry), es[i]? = some e → ∃ p, kvs[i]? = some p ∧ EntOk X.K ι H p e) : ItOk X.prog X.w X.K ι H ⟨kvs.map fun kv => .tup [kv.1, kv.2], [], some r⟩ (ItDi a od u es) := by
  refine ⟨fun ι2 H2 s2 g R2 ok i => ⟨fun d hd => ?_, fun hi => ⟨g.frz _ _ _ hH, by simp only [List.length_map] at hi; omega⟩⟩⟩
  rw [List.getElem?_map, Option.map_eq_some_iff] at hd
  obtain ⟨p, hp, rfl⟩ := hd
  have hlt := (List.getElem?_eq_some_iff.mp hp).1
  have he : es[i]? = some (es[i]'(by omega)) := Array.getElem?_eq_getElem _
  obtain ⟨p', hp', ⟨v, r1, r2⟩, v', r3, r4⟩ := hent i _ he
  rw [hp] at hp'; cases hp'
  refine ⟨⟨g.frz _ _ _ hH, _, v, v', he, r1, r3⟩, fun x H' y => ?_⟩
  obtain ⟨T, en, k, z, hen, rk, rz, rfl, hT, its, rfl⟩ := y
  rw [he] at hen; cases hen
  have e1 := rk.inj r1
  have e2 := rz.inj r3
  subst e1 e2
  refine ⟨Go.new hT, R2.new hT, ?_⟩
  rw [RD]
  refine ⟨T, [k, z], rfl, .inl ⟨_, upd_same, rfl⟩, ?_⟩
  rw [RDs_cons, RDs_cons, RDs_nil]
  exact ⟨(g.rd R r2).mono (stay_upd hT) fun _ _ e => e, (g.rd R r4).mono (stay_upd hT) fun _ _ e => e, rfl⟩
end

/-! ### for .. in e -/
section
variable {X : Cx} {tg e : Expr} {re : Env → Sto → Option (D × Sto)}
/-- the value of an expression, with its store -/
def Got (X : Cx) (ι : List Addr) (H : Hp) (x : D) (s1 : Sto) (vx : V) (H1 : Hp) : Prop := ∃ ι1, Go ι ι1 H H1 ∧ Rep X.prog X.w X.K ι1 H1 s1 ∧ RD X.K ι1 H1 x vx
theorem got_of {ι : List Addr} {H : Hp} {env : Env} {σ : L2.St} {s s1 : Sto} {x : D} (hE : RepE X.K ι H env σ) (R : Rep X.prog X.w X.K ι H s) (e1 : re env s = some (x, s1)) : tD X.prog X.w X.K re σ H (Got X ι H x s1) :=
  ⟨ι, env, s, x, s1, hE, R, e1, fun v H' ι' g R' rd => ⟨ι', g, R', rd⟩⟩
theorem rep_lock_none {g : Src} (h : g.lock = none) (s : Sto) : lockS g s = s := by unfold lockS; rw [h]
theorem pi_srcD (G : Gd X) (he : PE X e (tD X.prog X.w X.K re)) : PI X tg e (iD X fun env s => bnd (re env s) fun x s => (srcOf x s).map (·, s)) := by
  refine ⟨fun pins s σ H R I h => ?_⟩
  obtain ⟨ι, env, st, g, st', hE, RR, er, q⟩ := h
  obtain ⟨x, s1, e1, e2⟩ := bnd_eq_some.mp er
  simp only [Option.map_eq_some_iff, Prod.mk.injEq] at e2
  obtain ⟨g', e2, rfl, rfl⟩ := e2
  refine thn (he.run pins s σ H _ I (got_of hE RR e1)) fun v sh1 ⟨vx, H1, I1, r1, ι1, go, R1, rd⟩ => ?_
  cases x with
  | tup ds =>
    simp only [srcOf, Option.some.injEq] at e2
    subst e2
    rw [RD] at rd
    obtain ⟨a, vs, rfl, hq, rds⟩ := rd
    cases r1
    obtain ⟨its, rv, ht, hz⟩ := I1.tuple hq.sq
    refine wpAny_pyIter_tuple (show sh1.heap.IsTuple a its.toArray from ht) ?_
    refine ⟨sh1.heap.objs.size, [sh1.heap.objs.size], _, _, H1, rfl, I1.kept (t' := sh1.toks) fun b o e => Heap.get?_push_of_some _ e, turn_tuple a _, ⟨_, Heap.get?_push_size _ rfl, rfl, rfl⟩, fun b hb => ?_, q _ _ ι1 go R1 (fun _ z => by cases z) (itOk_tup R1 hq rds)⟩
    have e : b = sh1.heap.objs.size := by simpa using hb
    subst e
    exact I1.fpOk (Nat.le_refl _) (I1.hok.fresh (Nat.le_refl _))
  | scr is =>
    simp only [srcOf, Option.some.injEq] at e2
    subst e2
    rw [RD] at rd
    obtain ⟨a, rfl, hq⟩ := rd
    cases r1
    obtain ⟨its, rv, p, hz⟩ := I1.list hq.sq
    refine wpAny_pyIter_list p.isList ?_
    refine ⟨sh1.heap.objs.size, [sh1.heap.objs.size], _, _, H1, rfl, I1.kept (t' := sh1.toks) fun b o e => Heap.get?_push_of_some _ e, turn_list a _, ⟨_, Heap.get?_push_size _ rfl, rfl, rfl⟩, fun b hb => ?_, q _ _ ι1 go R1 (fun _ z => by cases z) (itOk_ro R1 hq)⟩
    have e : b = sh1.heap.objs.size := by simpa using hb
    subst e
    exact I1.fpOk (Nat.le_refl _) (I1.hok.fresh (Nat.le_refl _))
  | ref r =>
    simp only [srcOf] at e2
    cases hs : s1[r]? with
    | none => rw [hs] at e2; cases e2
    | some c =>
      rw [hs] at e2
      obtain ⟨a, rfl, ha, cell⟩ := R1.ofRef hs rd
      cases r1
      have hdict : ∀ kvs, c.kvs = some kvs → g' = ⟨kvs.map (·.1), [], some r⟩ → wpAny (model X.prog X.w) X.A (pyIter (.ref a)) (PIE X pins σ tg R) X.xe sh1 := fun kvs hk hg => by
        subst hg
        obtain ⟨H2, od, u, es, ep, I2, g2, R2, lk, hH, hx, hdat, hsys, hsz, hent⟩ := lock_of I1 R1 hs hk ha (kvs.map (·.1))
        have hgd : sh1.heap.get? a = some od := (I2.hok a _ hH).1
        refine iter_keys hsys hgd hx hdat (pi_one (tk := sh1.toks) I2 _ (turn_dk (u := u) _ hx hdat) ⟨_, Heap.get?_push_size _ rfl, rfl, rfl⟩ ?_)
        exact q _ _ ι1 (go.trans R1 g2) R2 (lk.go go) (itOk_dk R2 hH hsz hent)
      cases c with
      | lst ds =>
        cases e2
        obtain ⟨vs, h1, h2⟩ := cell
        obtain ⟨its, rv, p, hz⟩ := I1.list (.inl (.inl h1))
        refine wpAny_pyIter_list p.isList ?_
        refine ⟨sh1.heap.objs.size, [sh1.heap.objs.size], _, _, H1, rfl, I1.kept (t' := sh1.toks) fun b o e => Heap.get?_push_of_some _ e, turn_list a _, ⟨_, Heap.get?_push_size _ rfl, rfl, rfl⟩, fun b hb => ?_, q _ _ ι1 go R1 (fun _ z => by cases z) (itOk_list R1 hs ha)⟩
        have e : b = sh1.heap.objs.size := by simpa using hb
        subst e
        exact I1.fpOk (Nat.le_refl _) (I1.hok.fresh (Nat.le_refl _))
      | dct kvs =>
        simp only [C.kvs, Option.map_some, Option.some.injEq] at e2
        exact hdict kvs rfl e2.symm
      | lck kvs =>
        simp only [C.kvs, Option.map_some, Option.some.injEq] at e2
        exact hdict kvs rfl e2.symm
  | _ => simp [srcOf] at e2
theorem pi_itemsD (G : Gd X) {elts : List Expr} {kk : Nat} {tpos apos cpos : Pos} (he : PE X e (tD X.prog X.w X.K re)) (hbase : attributeBase e "items" X.env (eval e X.env) = eval e X.env) (hline : (apos.endLine == cpos.line) = true) :
    PI X (.Tuple elts kk tpos) (.Call (.Attribute e "items" apos) [] [] cpos) (iD X fun env s => bnd (re env s) fun x s => (srcItems x s).map (·, s)) := by
  refine ⟨fun pins s σ H R I h => ?_⟩
  obtain ⟨ι, env, st, g, st', hE, RR, er, q⟩ := h
  obtain ⟨x, s1, e1, e2⟩ := bnd_eq_some.mp er
  simp only [Option.map_eq_some_iff, Prod.mk.injEq] at e2
  obtain ⟨g', e2, rfl, rfl⟩ := e2
  refine wpAny_Call_method (T := "dict") (id := "dict.items") hbase rfl hline PySem.F.plainAttrs_dict PySem.F.slot_dict_items PySem.F.type_dict_items (thn (he.run pins s σ H _ I (got_of hE RR e1)) fun v sh1 ⟨vx, H1, I1, r1, ι1, go, R1, rd⟩ => ?_)
  cases x with
  | ref r =>
    simp only [srcItems, Option.bind_eq_some_iff, Option.map_eq_some_iff] at e2
    obtain ⟨c, hs, kvs, hk, rfl⟩ := e2
    obtain ⟨a, rfl, ha, cell⟩ := R1.ofRef hs rd
    cases r1
    obtain ⟨H2, od, u, es, ep, I2, g2, R2, lk, hH, hx, hdat, hsys, hsz, hent⟩ := lock_of I1 R1 hs hk ha (kvs.map fun kv => .tup [kv.1, kv.2])
    have hgd : sh1.heap.get? a = some od := (I2.hok a _ hH).1
    have hraw : sh1.heap.DictRaw a es ep := ⟨od, hgd, hx, hdat⟩
    refine ⟨hraw.typeIs, fun b e => by cases e; exact ⟨od, hgd, hx.2.1⟩, ?_⟩
    have I3 : Inv X pins σ H2 { sh1 with heap := sh1.heap.push { cls := .type "dict_items", data := .fields #[.ref a] } } := I2.kept (t' := sh1.toks) fun b o q => Heap.get?_push_of_some _ q
    have fin : wpAny (model X.prog X.w) X.A (pyIter (.ref sh1.heap.objs.size)) (PIE X pins σ (.Tuple elts kk tpos) R) X.xe { sh1 with heap := sh1.heap.push { cls := .type "dict_items", data := .fields #[.ref a] } } := by
      refine wpAny_pyIter_items_raw (d := a) (es := es) (ep := ep) ⟨_, Heap.get?_push_size _ rfl, rfl, rfl⟩ (hraw.at fun o e => Heap.get?_push_of_some _ e) (pi_one (tk := sh1.toks) I3 _ (turn_di (u := u) (d := a) _ hx hdat) ⟨.none, .none, ?_⟩ ?_)
      · exact Heap.get?_push_size _ rfl
      · exact q _ _ ι1 (go.trans R1 g2) R2 (lk.go go) (itOk_di R2 hH hsz hent)
    show wpAny _ _ (callWith cpos (.builtin "dict.items") [.ref a] [] []) _ X.xe sh1
    exact method_meetsIn PySem.F.slot_dict_items PySem.F.entry_dict_items rfl (PySem.evalArgs_none ⟨rfl, hraw.typeIs, PySem.F.args_dict_items_1 _, _, meets_dict_items_raw a hsys, ⟨es, ep, hraw⟩, fin⟩)
  | _ => simp [srcItems] at e2
end
end Ev
end

section
set_option autoImplicit false
set_option maxRecDepth 100000
set_option linter.unusedVariables false
/-! Ev16: expressions by their runs -/
namespace Ev
open PySem L2 PySem.SeqAt PyProof.Rows PySem.Calls

abbrev tE (X : Cx) (run : Env → Sto → Option (D × Sto)) : TE := tD X.prog X.w X.K run
abbrev tEs (X : Cx) (run : Env → Sto → Option (List D × Sto)) : TA := tDs X.prog X.w X.K run
abbrev tET (X : Cx) (run : Env → Sto → Option (D × Sto)) : TT := tDT X.prog X.w X.K run

theorem star_plain {e : Expr} (h : ∀ a p, e ≠ .Starred a p) (es : List Expr) (env : PySem.Env) : starEach (e :: es) env = (false, eval e env) :: starEach es env := by
  cases e <;> first | rfl | exact absurd rfl (h _ _)
theorem star_none (pos : Pos) : ∀ {es : List Expr} (env : PySem.Env), (∀ e ∈ es, ∀ a p, e ≠ Expr.Starred a p) → (backTo pos (starEach es env)).any (·.1) = false
  | [], _, _ => rfl
  | e :: es, env, h => by
    rw [star_plain (h e (List.mem_cons_self ..))]
    show (false || (backTo pos (starEach es env)).any (·.1)) = false
    rw [star_none pos env fun x hx => h x (List.mem_cons_of_mem _ hx)]
    rfl

section
variable {X : Cx} {a b c : Expr} {ra rb rc : Env → Sto → Option (D × Sto)} {pos : Pos}

/-! ### names, constants -/
theorem pe_varD {i : Nat} {x : Str} (hN : X.N[i]? = some x) (hv : Vis X.env.scope x) (hd : (x == ("__debug__" : Str)) = false) (hcd : (x == ("__classdict__" : Str)) = false) :
    PE X (.Name x pos) (tE X fun env s => match env[i]? with
      | some (some d) => some (d, s)
      | _ => none) := by
  refine (pe_var hN hv hd hcd).weak fun σ H Q h => ?_
  obtain ⟨ι, env, s, d, s', hE, R, e, q⟩ := h
  replace e : (match env[i]? with
      | some (some d) => some (d, s)
      | _ => none) = some (d, s') := e
  split at e
  · rename_i d' he
    cases e
    obtain ⟨v, hv, rd⟩ := hE.slot i _ he
    exact ⟨v, hv, q.here R rd⟩
  · cases e
theorem lit_weak {v : V} {d : D} (hd : ∀ ι H, RD X.K ι H d v) : ∀ (σ : L2.St) (H : Hp) (Q : VK), tE X (fun _ s => some (d, s)) σ H Q → tC v σ H Q := by
  intro σ H Q ⟨ι, env, s, d', s', hE, R, e, q⟩
  cases e
  exact q.here R (hd ι H)

/-! ### operators -/
theorem bin_weak {r : R2} {f : D → D → Sto → Option (D × Sto)} (hr : ∀ vx vy H Q, (∃ ι s x y d s', Rep X.prog X.w X.K ι H s ∧ RD X.K ι H x vx ∧ RD X.K ι H y vy ∧ f x y s = some (d, s') ∧ Ret X.prog X.w X.K ι H Q d s') → r vx vy H Q) :
    ∀ (σ : L2.St) (H : Hp) (Q : VK), tE X (fun env s => bnd (ra env s) fun x s => bnd (rb env s) fun y s => f x y s) σ H Q → tOp r (tE X ra) (tE X rb) σ H Q := by
  intro σ H Q ⟨ι, env, s, d, s', hE, R, e, q⟩
  obtain ⟨x, s1, e1, e⟩ := bnd_eq_some.mp e
  obtain ⟨y, s2, e2, e⟩ := bnd_eq_some.mp e
  refine ⟨ι, env, s, x, s1, hE, R, e1, fun vx H1 ι1 g1 R1 rx => ⟨ι1, env, s1, y, s2, g1.env R hE, R1, e2, fun vy H2 ι2 g2 R2 ry => hr _ _ _ _ ⟨ι2, s2, x, y, d, s', R2, g2.rd R1 rx, ry, e, (q.go R1 g1).go R2 g2⟩⟩⟩
theorem pe_binD {op : Operator} (ha : PE X a (tE X ra)) (hb : PE X b (tE X rb)) : PE X (.BinOp a op b pos) (tE X fun env s => bnd (ra env s) fun x s => bnd (rb env s) fun y s => binD op x y s) :=
  (pe_op (op_binD op) ha hb).weak (bin_weak fun _ _ _ _ h => h)
theorem rCmp_of {f : D → D → Sto → Option Bool} {vx vy : V} {H : Hp} {Q : VK} (h : ∃ ι s x y d s', Rep X.prog X.w X.K ι H s ∧ RD X.K ι H x vx ∧ RD X.K ι H y vy ∧ ((f x y s).map fun b => (D.bl b, s)) = some (d, s') ∧ Ret X.prog X.w X.K ι H Q d s') : rCmp X.prog X.w X.K f vx vy H Q := by
  obtain ⟨ι, s, x, y, d, s', R, hx, hy, e, q⟩ := h
  simp only [Option.map_eq_some_iff, Prod.mk.injEq] at e
  obtain ⟨k, e, rfl, rfl⟩ := e
  exact ⟨ι, s, x, y, k, R, hx, hy, e, q.bl R⟩
theorem pe_cmpD (G : Gd X) {op : CmpOp} (ha : PE X a (tE X ra)) (hb : PE X b (tE X rb)) (hm : behindInMarks op b = false) : PE X (.Compare a [op] [b] pos) (tE X fun env s => bnd (ra env s) fun x s => bnd (rb env s) fun y s => (cmpD op x y s).map fun k => (.bl k, s)) :=
  (pe_cmpR (op_cmpD G op) ha hb hm).weak (bin_weak (f := fun x y s => (cmpD op x y s).map fun k => (D.bl k, s)) fun _ _ _ _ h => rCmp_of h)
/-- a test's reading out of a value's -/
theorem test_weak {t : TE} {run : Env → Sto → Option (D × Sto)} (h : ∀ (σ : L2.St) (H : Hp) (Q : VK), tE X run σ H Q → t σ H Q) : ∀ (σ : L2.St) (H : Hp) (Q : Bool → Hp → Prop), tET X run σ H Q → tTest t σ H Q := by
  intro σ H Q ⟨ι, env, s, k, s', hE, R, e, q⟩
  refine h σ H _ ⟨ι, env, s, .bl k, s', hE, R, e, fun v H' ι' g R' rd => ?_⟩
  rw [RD] at rd
  exact ⟨k, rd, q H' ι' g R'⟩
theorem pt_cmpD (G : Gd X) {op : CmpOp} (ha : PE X a (tE X ra)) (hb : PE X b (tE X rb)) (hm : behindInMarks op b = false) : PT X (.Compare a [op] [b] pos) (tET X fun env s => bnd (ra env s) fun x s => bnd (rb env s) fun y s => (cmpD op x y s).map fun k => (.bl k, s)) :=
  (pt_cmpR (op_cmpD G op) ha hb hm).weak (test_weak (bin_weak (f := fun x y s => (cmpD op x y s).map fun k => (D.bl k, s)) fun _ _ _ _ h => rCmp_of h))
theorem chain_weak {op op' : CmpOp} : ∀ (σ : L2.St) (H : Hp) (Q : VK), tE X (fun env s => bnd (ra env s) fun x s => bnd (rb env s) fun y s => (cmpD op x y s).bind fun k => if k then bnd (rc env s) fun z s => (cmpD op' y z s).map fun k => (.bl k, s) else some (.bl false, s)) σ H Q →
    tChain (rCmp X.prog X.w X.K fun x y s => cmpD op x y s) (rCmp X.prog X.w X.K fun x y s => cmpD op' x y s) (tE X ra) (tE X rb) (tE X rc) σ H Q := by
  intro σ H Q ⟨ι, env, s, d, s', hE, R, e, q⟩
  obtain ⟨x, s1, e1, e⟩ := bnd_eq_some.mp e
  obtain ⟨y, s2, e2, e⟩ := bnd_eq_some.mp e
  simp only [Option.bind_eq_some_iff] at e
  obtain ⟨k, e3, e⟩ := e
  refine ⟨ι, env, s, x, s1, hE, R, e1, fun vx H1 ι1 g1 R1 rx => ⟨ι1, env, s1, y, s2, g1.env R hE, R1, e2, fun vy H2 ι2 g2 R2 ry => ?_⟩⟩
  refine ⟨ι2, s2, x, y, k, R2, g2.rd R1 rx, ry, e3, k, rfl, ?_⟩
  cases k with
  | false =>
    rw [if_neg Bool.false_ne_true] at e ⊢
    cases e
    exact ((q.go R1 g1).go R2 g2).bl R2
  | true =>
    rw [if_pos rfl] at e ⊢
    obtain ⟨z, s3, e4, e⟩ := bnd_eq_some.mp e
    simp only [Option.map_eq_some_iff, Prod.mk.injEq] at e
    obtain ⟨k', e5, rfl, rfl⟩ := e
    refine ⟨ι2, env, s2, z, s3, g2.env R1 (g1.env R hE), R2, e4, fun vz H3 ι3 g3 R3 rz => ?_⟩
    exact ⟨ι3, s3, y, z, k', R3, g3.rd R2 ry, rz, e5, (((q.go R1 g1).go R2 g2).go R3 g3).bl R3⟩
theorem pe_chainD (G : Gd X) {op op' : CmpOp} (ha : PE X a (tE X ra)) (hb : PE X b (tE X rb)) (hc : PE X c (tE X rc)) (hm : lastMarks [op, op'] [b, c] = false) :
    PE X (.Compare a [op, op'] [b, c] pos) (tE X fun env s => bnd (ra env s) fun x s => bnd (rb env s) fun y s => (cmpD op x y s).bind fun k => if k then bnd (rc env s) fun z s => (cmpD op' y z s).map fun k => (.bl k, s) else some (.bl false, s)) :=
  (pe_chain (op_cmpD G op) (op_cmpD G op') ha hb hc hm).weak chain_weak
theorem pt_chainD (G : Gd X) {op op' : CmpOp} (ha : PE X a (tE X ra)) (hb : PE X b (tE X rb)) (hc : PE X c (tE X rc)) (hm : lastMarks [op, op'] [b, c] = false) :
    PT X (.Compare a [op, op'] [b, c] pos) (tET X fun env s => bnd (ra env s) fun x s => bnd (rb env s) fun y s => (cmpD op x y s).bind fun k => if k then bnd (rc env s) fun z s => (cmpD op' y z s).map fun k => (.bl k, s) else some (.bl false, s)) :=
  (pt_chain (op_cmpD G op) (op_cmpD G op') ha hb hc hm).weak (test_weak chain_weak)
theorem pe_negD (ha : PE X a (tE X ra)) : PE X (.UnaryOp .USub a pos) (tE X fun env s => bnd (ra env s) fun x s => match x with
    | .int i => some (.int (-i), s)
    | _ => none) := by
  refine (pe_un un_neg ha).weak fun σ H Q h => ?_
  obtain ⟨ι, env, s, d, s', hE, R, e, q⟩ := h
  obtain ⟨x, s1, e1, e⟩ := bnd_eq_some.mp e
  refine ⟨ι, env, s, x, s1, hE, R, e1, fun vx H1 ι1 g1 R1 rx => ?_⟩
  split at e
  · cases e
    rw [RD] at rx
    exact ⟨_, rx, (q.go R1 g1).int R1⟩
  · cases e
theorem pe_notD (ha : PE X a (tE X ra)) : PE X (.UnaryOp .Not a pos) (tE X fun env s => bnd (ra env s) fun x s => match x with
    | .bl b => some (.bl (!b), s)
    | _ => none) := by
  refine (pe_not ha).weak fun σ H Q h => ?_
  obtain ⟨ι, env, s, d, s', hE, R, e, q⟩ := h
  obtain ⟨x, s1, e1, e⟩ := bnd_eq_some.mp e
  refine ⟨ι, env, s, x, s1, hE, R, e1, fun vx H1 ι1 g1 R1 rx => ?_⟩
  split at e
  · cases e
    rw [RD] at rx
    exact ⟨_, rx, (q.go R1 g1).bl R1⟩
  · cases e
theorem pt_notD (ha : PT X a (tET X ra)) : PT X (.UnaryOp .Not a pos) (tET X fun env s => bnd (ra env s) fun x s => match x with
    | .bl b => some (.bl (!b), s)
    | _ => none) := by
  refine (pt_not ha).weak fun σ H Q h => ?_
  obtain ⟨ι, env, s, k, s', hE, R, e, q⟩ := h
  obtain ⟨x, s1, e1, e⟩ := bnd_eq_some.mp e
  split at e
  · rename_i b
    cases e
    exact ⟨ι, env, s, b, _, hE, R, e1, fun H1 ι1 g1 R1 => q H1 ι1 g1 R1⟩
  · cases e
/-! ### and, or, if else -/
abbrev andR (ra rb : Env → Sto → Option (D × Sto)) : Env → Sto → Option (D × Sto) := fun env s => bnd (ra env s) fun x s => match x with
    | .bl true => rb env s
    | .bl false => some (.bl false, s)
    | _ => none
abbrev orR (ra rb : Env → Sto → Option (D × Sto)) : Env → Sto → Option (D × Sto) := fun env s => bnd (ra env s) fun x s => match x with
    | .bl true => some (.bl true, s)
    | .bl false => rb env s
    | _ => none
abbrev iteR (rc ra rb : Env → Sto → Option (D × Sto)) : Env → Sto → Option (D × Sto) := fun env s => bnd (rc env s) fun x s => match x with
    | .bl true => ra env s
    | .bl false => rb env s
    | _ => none
theorem bl_cases {x : D} {s s' : Sto} {d : D} {f g : Option (D × Sto)} (e : (match x with
    | .bl true => f
    | .bl false => g
    | _ => none) = some (d, s')) : (x = .bl true ∧ f = some (d, s')) ∨ (x = .bl false ∧ g = some (d, s')) := by
  split at e
  · exact .inl ⟨rfl, e⟩
  · exact .inr ⟨rfl, e⟩
  · cases e
theorem and_weak : ∀ (σ : L2.St) (H : Hp) (Q : VK), tE X (andR ra rb) σ H Q → tAndV (tE X ra) (tE X rb) σ H Q := by
  intro σ H Q ⟨ι, env, s, d, s', hE, R, e, q⟩
  obtain ⟨x, s1, e1, e⟩ := bnd_eq_some.mp e
  refine ⟨ι, env, s, x, s1, hE, R, e1, fun vx H1 ι1 g1 R1 rx => ?_⟩
  rcases bl_cases (s := s) e with ⟨rfl, e⟩ | ⟨rfl, e⟩
  · rw [RD] at rx
    exact ⟨true, rx, by show (if true = true then _ else _); rw [if_pos rfl]; exact ⟨ι1, env, s1, d, s', g1.env R hE, R1, e, q.go R1 g1⟩⟩
  · rw [RD] at rx
    cases e
    exact ⟨false, rx, by show (if false = true then _ else _); rw [if_neg Bool.false_ne_true]; exact (q.go R1 g1).bl R1⟩
theorem or_weak : ∀ (σ : L2.St) (H : Hp) (Q : VK), tE X (orR ra rb) σ H Q → tOrV (tE X ra) (tE X rb) σ H Q := by
  intro σ H Q ⟨ι, env, s, d, s', hE, R, e, q⟩
  obtain ⟨x, s1, e1, e⟩ := bnd_eq_some.mp e
  refine ⟨ι, env, s, x, s1, hE, R, e1, fun vx H1 ι1 g1 R1 rx => ?_⟩
  rcases bl_cases (s := s) e with ⟨rfl, e⟩ | ⟨rfl, e⟩
  · rw [RD] at rx
    cases e
    exact ⟨true, rx, by show (if true = true then _ else _); rw [if_pos rfl]; exact (q.go R1 g1).bl R1⟩
  · rw [RD] at rx
    exact ⟨false, rx, by show (if false = true then _ else _); rw [if_neg Bool.false_ne_true]; exact ⟨ι1, env, s1, d, s', g1.env R hE, R1, e, q.go R1 g1⟩⟩
theorem and_weakT : ∀ (σ : L2.St) (H : Hp) (Q : Bool → Hp → Prop), tET X (andR ra rb) σ H Q → tAnd (tET X ra) (tET X rb) σ H Q := by
  intro σ H Q ⟨ι, env, s, k, s', hE, R, e, q⟩
  obtain ⟨x, s1, e1, e⟩ := bnd_eq_some.mp e
  rcases bl_cases (s := s) e with ⟨rfl, e⟩ | ⟨rfl, e⟩
  · exact ⟨ι, env, s, true, s1, hE, R, e1, fun H1 ι1 g1 R1 => by show (if true = true then _ else _); rw [if_pos rfl]; exact ⟨ι1, env, s1, k, s', g1.env R hE, R1, e, q.go R1 g1⟩⟩
  · cases e
    exact ⟨ι, env, s, false, _, hE, R, e1, fun H1 ι1 g1 R1 => by show (if false = true then _ else _); rw [if_neg Bool.false_ne_true]; exact q H1 ι1 g1 R1⟩
theorem or_weakT : ∀ (σ : L2.St) (H : Hp) (Q : Bool → Hp → Prop), tET X (orR ra rb) σ H Q → tOr (tET X ra) (tET X rb) σ H Q := by
  intro σ H Q ⟨ι, env, s, k, s', hE, R, e, q⟩
  obtain ⟨x, s1, e1, e⟩ := bnd_eq_some.mp e
  rcases bl_cases (s := s) e with ⟨rfl, e⟩ | ⟨rfl, e⟩
  · cases e
    exact ⟨ι, env, s, true, _, hE, R, e1, fun H1 ι1 g1 R1 => by show (if true = true then _ else _); rw [if_pos rfl]; exact q H1 ι1 g1 R1⟩
  · exact ⟨ι, env, s, false, s1, hE, R, e1, fun H1 ι1 g1 R1 => by show (if false = true then _ else _); rw [if_neg Bool.false_ne_true]; exact ⟨ι1, env, s1, k, s', g1.env R hE, R1, e, q.go R1 g1⟩⟩
theorem pe_iteD (hc : PT X c (tET X rc)) (ha : PE X a (tE X ra)) (hb : PE X b (tE X rb)) : PE X (.IfExp c a b pos) (tE X (iteR rc ra rb)) := by
  refine (pe_ifExp hc ha hb).weak fun σ H Q h => ?_
  obtain ⟨ι, env, s, d, s', hE, R, e, q⟩ := h
  obtain ⟨x, s1, e1, e⟩ := bnd_eq_some.mp e
  rcases bl_cases (s := s) e with ⟨rfl, e⟩ | ⟨rfl, e⟩
  · exact ⟨ι, env, s, true, s1, hE, R, e1, fun H1 ι1 g1 R1 => by show (if true = true then _ else _); rw [if_pos rfl]; exact ⟨ι1, env, s1, d, s', g1.env R hE, R1, e, q.go R1 g1⟩⟩
  · exact ⟨ι, env, s, false, s1, hE, R, e1, fun H1 ι1 g1 R1 => by show (if false = true then _ else _); rw [if_neg Bool.false_ne_true]; exact ⟨ι1, env, s1, d, s', g1.env R hE, R1, e, q.go R1 g1⟩⟩
theorem pt_iteD (hc : PT X c (tET X rc)) (ha : PT X a (tET X ra)) (hb : PT X b (tET X rb)) : PT X (.IfExp c a b pos) (tET X (iteR rc ra rb)) := by
  refine ⟨fun pins sh σ H Q I h => ?_⟩
  obtain ⟨ι, env, s, k, s', hE, R, e, q⟩ := h
  obtain ⟨x, s1, e1, e⟩ := bnd_eq_some.mp e
  rcases bl_cases (s := s) e with ⟨rfl, e⟩ | ⟨rfl, e⟩
  · refine PyProof.Rows.isTrue_IfExp (thn (hc.run pins sh σ H (fun b H1 => b = true ∧ tET X ra σ H1 Q) I ⟨ι, env, s, true, s1, hE, R, e1, fun H1 ι1 g1 R1 => ⟨rfl, ι1, env, s1, k, s', g1.env R hE, R1, e, q.go R1 g1⟩⟩) fun d s2 ⟨H1, I1, h1, h2⟩ => ?_)
    subst h1
    exact ha.run pins s2 σ H1 Q I1 h2
  · refine PyProof.Rows.isTrue_IfExp (thn (hc.run pins sh σ H (fun b H1 => b = false ∧ tET X rb σ H1 Q) I ⟨ι, env, s, false, s1, hE, R, e1, fun H1 ι1 g1 R1 => ⟨rfl, ι1, env, s1, k, s', g1.env R hE, R1, e, q.go R1 g1⟩⟩) fun d s2 ⟨H1, I1, h1, h2⟩ => ?_)
    subst h1
    exact hb.run pins s2 σ H1 Q I1 h2
/-- an expression whose test is its value's truth -/
theorem pt_valD (h : PE X a (tE X ra)) (he : ∀ whole, isTrue a X.env whole = (do let v ← whole; standAt a.pos; holding [v] (truthy v))) : PT X a (tET X ra) := by
  refine (pt_val h he).weak fun σ H Q h => ?_
  obtain ⟨ι, env, s, k, s', hE, R, e, q⟩ := h
  refine ⟨ι, env, s, .bl k, s', hE, R, e, fun v H' ι' g R' rd => ?_⟩
  rw [RD] at rd
  exact ⟨k, rd, q H' ι' g R'⟩

/-! ### subscripts -/
theorem plainIx {b : Expr} (h : ∀ lo hi st p, b ≠ .Slice lo hi st p) : PlainIx b := by
  intro o i
  cases b <;> first | rfl | exact absurd rfl (h _ _ _ _)
theorem pe_idxD (G : Gd X) (ha : PE X a (tE X ra)) (hb : PE X b (tE X rb)) (hs : ∀ lo hi st p, b ≠ .Slice lo hi st p) : PE X (.Subscript a b pos) (tE X fun env s => bnd (ra env s) fun x s => bnd (rb env s) fun y s => idxD x y s) :=
  (pe_ix (ix_D G.units) ha hb (plainIx hs)).weak (bin_weak fun _ _ _ _ h => h)
/-- a slice's part -/
def tPO (X : Cx) (run : Env → Sto → Option (Option Int × Sto)) : TO := fun σ H Q => ∃ ι env s o s', RepE X.K ι H env σ ∧ Rep X.prog X.w X.K ι H s ∧ run env s = some (o, s') ∧ ∀ H' ι', Go ι ι' H H' → Rep X.prog X.w X.K ι' H' s' → Q o H'
theorem PO.weak {e : Option Expr} {t t' : TO} (h : PO X e t) (q : ∀ σ H Q, t' σ H Q → t σ H Q) : PO X e t' := ⟨fun pins s σ H Q I hw => h.run pins s σ H Q I (q σ H Q hw)⟩
theorem po_noneD : PO X none (tPO X fun _ s => some (none, s)) := by
  refine PO.weak po_none fun σ H Q h => ?_
  obtain ⟨ι, env, s, o, s', hE, R, e, q⟩ := h
  cases e
  exact q H ι Go.refl R
theorem po_someD (ha : PE X a (tE X ra)) : PO X (some a) (tPO X fun env s => bnd (ra env s) fun x s => match x with
    | .int i => some (some i, s)
    | _ => none) := by
  refine PO.weak (po_some ha) fun σ H Q h => ?_
  obtain ⟨ι, env, s, o, s', hE, R, e, q⟩ := h
  obtain ⟨x, s1, e1, e⟩ := bnd_eq_some.mp e
  refine ⟨ι, env, s, x, s1, hE, R, e1, fun vx H1 ι1 g1 R1 rx => ?_⟩
  split at e
  · cases e
    rw [RD] at rx
    exact ⟨_, rx, q H1 ι1 g1 R1⟩
  · cases e
theorem pe_slcD {lo hi : Option Expr} {rl rh : Env → Sto → Option (Option Int × Sto)} {p2 : Pos} (ha : PE X a (tE X ra)) (hl : PO X lo (tPO X rl)) (hh : PO X hi (tPO X rh)) :
    PE X (.Subscript a (.Slice lo hi none p2) pos) (tE X fun env s => bnd (ra env s) fun x s => bnd (rl env s) fun l s => bnd (rh env s) fun h s => slcD x l h s) := by
  refine (pe_slice sl_D ha hl hh).weak fun σ H Q h => ?_
  obtain ⟨ι, env, s, d, s', hE, R, e, q⟩ := h
  obtain ⟨x, s1, e1, e⟩ := bnd_eq_some.mp e
  obtain ⟨l, s2, e2, e⟩ := bnd_eq_some.mp e
  obtain ⟨h, s3, e3, e⟩ := bnd_eq_some.mp e
  refine ⟨ι, env, s, x, s1, hE, R, e1, fun vx H1 ι1 g1 R1 rx => ?_⟩
  refine ⟨ι1, env, s1, l, s2, g1.env R hE, R1, e2, fun H2 ι2 g2 R2 => ?_⟩
  refine ⟨ι2, env, s2, h, s3, g2.env R1 (g1.env R hE), R2, e3, fun H3 ι3 g3 R3 => ?_⟩
  exact ⟨ι3, s3, x, d, s', R3, g3.rd R2 (g2.rd R1 rx), e, ((q.go R1 g1).go R2 g2).go R3 g3⟩
theorem pe_revE {k : Nat} {p1 p2 p3 : Pos} (ha : PE X a (tE X ra)) : PE X (.Subscript a (.Slice none none (some (.UnaryOp .USub (.Constant (.int 1) k p1) p2)) p3) pos) (tE X fun env s => bnd (ra env s) fun x s => revD x s) := by
  refine (pe_revD ha).weak fun σ H Q h => ?_
  obtain ⟨ι, env, s, d, s', hE, R, e, q⟩ := h
  obtain ⟨x, s1, e1, e⟩ := bnd_eq_some.mp e
  exact ⟨ι, env, s, x, s1, hE, R, e1, fun vx H1 ι1 g1 R1 rx => ⟨ι1, s1, x, d, s', R1, rx, e, q.go R1 g1⟩⟩

/-! ### lists of arguments -/
variable {es : List Expr} {rs : Env → Sto → Option (List D × Sto)}
theorem pa_nilD : PA X [] (tEs X fun _ s => some ([], s)) := by
  refine pa_nil.weak fun σ H Q h => ?_
  obtain ⟨ι, env, s, d, s', hE, R, e, q⟩ := h
  cases e
  exact q [] H ι Go.refl R (by rw [RDs])
theorem pa_consD (ha : PE X a (tE X ra)) (hr : PA X es (tEs X rs)) (hp : ∀ z p, a ≠ .Starred z p) : PA X (a :: es) (tEs X fun env s => bnd (ra env s) fun d s => bnd (rs env s) fun ds s => some (d :: ds, s)) := by
  refine (pa_cons ha hr (star_plain hp es X.env)).weak fun σ H Q h => ?_
  obtain ⟨ι, env, s, ds, s', hE, R, e, q⟩ := h
  obtain ⟨x, s1, e1, e⟩ := bnd_eq_some.mp e
  obtain ⟨xs, s2, e2, e⟩ := bnd_eq_some.mp e
  cases e
  refine ⟨ι, env, s, x, s1, hE, R, e1, fun vx H1 ι1 g1 R1 rx => ⟨ι1, env, s1, xs, _, g1.env R hE, R1, e2, fun vs H2 ι2 g2 R2 rs => ?_⟩⟩
  exact q _ H2 ι2 (g1.trans R1 g2) R2 (by rw [RDs_cons]; exact ⟨g2.rd R1 rx, rs⟩)
theorem pa_starD {p : Pos} (ha : PE X a (tE X ra)) (hr : PA X es (tEs X rs)) : PA X (.Starred a p :: es) (tEs X fun env s => bnd (bnd (ra env s) fun x s => (itemsD x s).map fun ds => (D.tup ds, s)) fun d s => bnd (rs env s) fun ds s => some (d.spl ++ ds, s)) := by
  refine (StX.pa_star (p := p) ha hr).weak fun σ H Q h => ?_
  obtain ⟨ι, env, s, ds, s', hE, R, e, q⟩ := h
  obtain ⟨y, s1, e1, e⟩ := bnd_eq_some.mp e
  obtain ⟨x, s0, e0, k1⟩ := bnd_eq_some.mp e1
  simp only [Option.map_eq_some_iff, Prod.mk.injEq] at k1
  obtain ⟨l, k1, rfl, rfl⟩ := k1
  obtain ⟨xs, s2, e2, e⟩ := bnd_eq_some.mp e
  simp only [Option.some.injEq, Prod.mk.injEq] at e
  obtain ⟨rfl, rfl⟩ := e
  refine ⟨ι, env, s, x, s0, hE, R, e0, fun vx H1 ι1 g1 R1 rx => ?_⟩
  obtain ⟨a', ws, rfl, hq, rd⟩ := seq_of R1 k1 rx
  refine ⟨a', ws, rfl, hq.symm, ι1, env, s0, xs, _, g1.env R hE, R1, e2, fun vs H2 ι2 g2 R2 rs => ?_⟩
  exact q _ H2 ι2 (g1.trans R1 g2) R2 ((g2.rds R1 rd).append rs)
theorem pe_tupD {x1 : Nat} (h : PA X es (tEs X rs)) : PE X (.Tuple es x1 pos) (tE X fun env s => bnd (rs env s) fun ds s => newT s ds) := by
  refine ⟨fun pins sh σ H Q I h0 => ?_⟩
  obtain ⟨ι, env, s, d, s', hE, R, e, q⟩ := h0
  obtain ⟨ds, s1, e1, e⟩ := bnd_eq_some.mp e
  obtain ⟨hz, rfl, rfl⟩ := newT_some e
  refine wpAny_Tuple_spliced (thn (h.run pos pins sh σ H (fun vs H' => vs.length ≤ sizeLine ∧ ∀ (o : Obj) (p : Addr), o.dict = none → H' p = none → Q (.ref p) (upd H' p (.frz o (.tup vs)))) I ⟨ι, env, s, ds, _, hE, R, e1, fun vs H1 ι1 g1 R1 rd => ⟨by rw [rd.length]; exact hz, fun o p ho hp => (q.go R1 g1).newT R1 rd hp ho⟩⟩) fun us sh1 ⟨xs, H1, I1, r, z, q⟩ => ⟨by rw [← r.length]; exact z, ?_⟩)
  exact ⟨.ref sh1.heap.objs.size, _, newTup I1 r z, rfl, q _ _ rfl (I1.hok.fresh (Nat.le_refl _))⟩
theorem pe_lstD (h : PA X es (tEs X rs)) : PE X (.List es pos) (tE X fun env s => bnd (rs env s) fun ds s => newL s ds) := by
  refine (pe_lst h).weak fun σ H Q h => ?_
  obtain ⟨ι, env, s, d, s', hE, R, e, q⟩ := h
  obtain ⟨ds, s1, e1, e⟩ := bnd_eq_some.mp e
  obtain ⟨hz, rfl, rfl⟩ := newL_some e
  refine ⟨ι, env, s, ds, _, hE, R, e1, fun vs H1 ι1 g1 R1 rd => ⟨by rw [rd.length]; exact hz, fun p hp => (q.go R1 g1).newL R1 rd hp⟩⟩
/-! ### calls of built-ins, methods -/
theorem cb_weak {f : List D → Sto → Option (D × Sto)} : ∀ (σ : L2.St) (H : Hp) (Q : VK), tE X (fun env s => bnd (rs env s) fun ds s => f ds s) σ H Q → tCB (rCal X.prog X.w X.K f) (tEs X rs) σ H Q := by
  intro σ H Q ⟨ι, env, s, d, s', hE, R, e, q⟩
  obtain ⟨ds, s1, e1, e⟩ := bnd_eq_some.mp e
  exact ⟨ι, env, s, ds, s1, hE, R, e1, fun vs H1 ι1 g1 R1 rd => ⟨ι1, s1, ds, d, s', R1, rd, e, q.go R1 g1⟩⟩
theorem pe_mth0D (G : Gd X) {m : Mt} {name : Str} {o : Expr} {apos cpos : Pos} {ro : Env → Sto → Option (D × Sto)} (slot : Slot (mTy m) name (mId m)) (hty : typeOf (.builtin (mId m)) = pure (.type "method_descriptor")) (ho : PE X o (tE X ro))
    (hbase : attributeBase o name X.env (eval o X.env) = eval o X.env) (hline : (apos.endLine == cpos.line) = true) :
    PE X (.Call (.Attribute o name apos) [] [] cpos) (tE X fun env s => bnd (ro env s) fun x s => if mthOk m x s then mthD m x [] s else none) := by
  have pa : PlainAttrs (mTy m) := by cases m <;> first | exact PySem.F.plainAttrs_list | exact PySem.F.plainAttrs_dict
  refine ⟨fun pins sh σ H Q I h => ?_⟩
  obtain ⟨ι, env, s, d, s', hE, R, e, q⟩ := h
  obtain ⟨x, s1, e1, e⟩ := bnd_eq_some.mp e
  split at e
  rotate_left
  · cases e
  rename_i hok
  refine wpAny_Call_method0_late hbase hline (thn (ho.run pins sh σ H _ I (got_of hE R e1)) fun v sh1 ⟨vx, H1, I1, r1, ι1, g1, R1, rx⟩ => ?_)
  obtain ⟨h1, h2⟩ := mthOk_ty I1 R1 hok rx r1
  exact ⟨mTy m, mId m, pa, slot, hty, h1, h2, Calls.callWith_builtin rfl (PySem.evalArgs_none (mt_D G m pins sh1 σ H1 vx [] v [] Q I1 r1 .nil ⟨ι1, s1, x, [], d, s', R1, rx, by rw [RDs], e, q.go R1 g1⟩))⟩
theorem pe_mthD (G : Gd X) {m : Mt} {name : Str} {o a0 : Expr} {es0 : List Expr} {apos cpos : Pos} {ro : Env → Sto → Option (D × Sto)} (slot : Slot (mTy m) name (mId m)) (hty : typeOf (.builtin (mId m)) = pure (.type "method_descriptor")) (ho : PE X o (tE X ro)) (ha : PA X (a0 :: es0) (tEs X rs))
    (hbase : attributeBase o name X.env (eval o X.env) = eval o X.env) (hline : (apos.endLine == cpos.line) = true) (hst : ∀ e ∈ a0 :: es0, ∀ z p, e ≠ Expr.Starred z p) (hlen : (a0 :: es0).length < 28) :
    PE X (.Call (.Attribute o name apos) (a0 :: es0) [] cpos) (tE X fun env s => bnd (ro env s) fun x s => if mthOk m x s then bnd (rs env s) fun ds s => mthD m x ds s else none) := by
  have pa : PlainAttrs (mTy m) := by cases m <;> first | exact PySem.F.plainAttrs_list | exact PySem.F.plainAttrs_dict
  refine ⟨fun pins sh σ H Q I h => ?_⟩
  obtain ⟨ι, env, s, d, s', hE, R, e, q⟩ := h
  obtain ⟨x, s1, e1, e⟩ := bnd_eq_some.mp e
  split at e
  rotate_left
  · cases e
  rename_i hok
  obtain ⟨ds, s2, e2, e⟩ := bnd_eq_some.mp e
  have hall : ∀ {l : List Expr}, (∀ e ∈ l, ∀ z p, e ≠ Expr.Starred z p) → (backTo cpos (starEach l X.env)).all (fun x => !x.1) = true := fun {l} hl => by
    have := star_none cpos (es := l) X.env hl
    rw [List.all_eq_true]
    intro y hy
    rw [List.any_eq_false] at this
    simpa using this y hy
  refine wpAny_Call_method_late hbase (by rw [hall hst]; simp [keywordEach, backToKw]; simp at hlen; omega) hline rfl (thn (ho.run pins sh σ H _ I (got_of hE R e1)) fun v sh1 ⟨vx, H1, I1, r1, ι1, g1, R1, rx⟩ => ?_)
  obtain ⟨h1, h2⟩ := mthOk_ty I1 R1 hok rx r1
  refine ⟨mTy m, mId m, pa, slot, hty, h1, h2, ?_⟩
  have hA := ha.run cpos pins sh1 σ H1 (fun vs H2 => ∃ ι2, Go ι1 ι2 H1 H2 ∧ Rep X.prog X.w X.K ι2 H2 s2 ∧ RDs X.K ι2 H2 ds vs) I1 ⟨ι1, env, s1, ds, s2, g1.env R hE, R1, e2, fun vs H' ι' g' R' rd' => ⟨ι', g', R', rd'⟩⟩
  have fin : ∀ us sh2, AP X pins σ (fun vs H2 => ∃ ι2, Go ι1 ι2 H1 H2 ∧ Rep X.prog X.w X.K ι2 H2 s2 ∧ RDs X.K ι2 H2 ds vs) us sh2 → wpAny (model X.prog X.w) X.A (call (.builtin (mId m)) (v :: us)) (EP X pins σ Q) X.xe sh2 := fun us sh2 ⟨vs, H2, I2, r2, ι2, g2, R2, rd⟩ =>
    mt_D G m pins sh2 σ H2 vx vs v us Q I2 r1 r2 ⟨ι2, s2, x, ds, d, s', R2, g2.rd R1 rx, rd, e, (q.go R1 g1).go R2 g2⟩
  have hs := star_plain (hst a0 (List.mem_cons_self ..)) es0 X.env
  rw [hs] at hA ⊢
  refine Calls.callWith_builtin (by show (false || (backTo cpos (starEach es0 X.env)).any (·.1)) = false; rw [star_none cpos X.env fun y hy => hst y (List.mem_cons_of_mem _ hy)]; rfl) (Calls.evalArgs_plain ?_)
  exact thn hA fin
end
end Ev
end

section
set_option autoImplicit false
set_option maxRecDepth 100000
set_option linter.unusedVariables false
/-! Ev17: targets, comprehensions, statements by their runs -/
namespace Ev
open PySem L2 PySem.SeqAt PyProof.Rows PySem.Calls

/-! ### targets -/
def gD (X : Cx) (t : T) : TG := fun vx σ H Q => ∃ ι env s d env', RepE X.K ι H env σ ∧ Rep X.prog X.w X.K ι H s ∧ RD X.K ι H d vx ∧ setT s t d env = some env' ∧
  ∀ σ', RepE X.K ι H env' σ' → (∀ i, i ∉ t.slots → σ'[i]? = σ[i]?) → σ'.length = σ.length → Q σ' H
def gDs (X : Cx) (ts : List T) : TGs := fun vs σ H Q => ∃ ι env s ds env', RepE X.K ι H env σ ∧ Rep X.prog X.w X.K ι H s ∧ RDs X.K ι H ds vs ∧ setTs s ts ds env = some env' ∧
  ∀ σ', RepE X.K ι H env' σ' → (∀ i, i ∉ T.slotss ts → σ'[i]? = σ[i]?) → σ'.length = σ.length → Q σ' H
theorem _root_.L2.PG.weak {X : Cx} {e : Expr} {t t' : TG} (h : PG X e t) (q : ∀ v σ H Q, t' v σ H Q → t v σ H Q) : PG X e t' := ⟨fun pins s σ H v u Q I r hw => h.run pins s σ H v u Q I r (q v σ H Q hw)⟩
theorem _root_.L2.PGs.weak {X : Cx} {e : List Expr} {t t' : TGs} (h : PGs X e t) (q : ∀ v σ H Q, t' v σ H Q → t v σ H Q) : PGs X e t' := ⟨fun pins s σ H v u Q I r hw => h.run pins s σ H v u Q I r (q v σ H Q hw)⟩
theorem RepE.set {K : PySem.W.Frag} {ι : List Addr} {H : Hp} {env : Env} {σ : L2.St} (h : RepE K ι H env σ) (i : Nat) {d : D} {v : V} (r : RD K ι H d v) : RepE K ι H (env.set i (some d)) (σ.set i (some v)) := by
  refine ⟨by simp [h.len], fun j d' e => ?_⟩
  by_cases hj : i = j
  · subst hj
    by_cases hl : i < env.length
    · rw [List.getElem?_set_self hl] at e
      cases e
      exact ⟨v, by rw [List.getElem?_set_self (by rw [h.len]; exact hl)], r⟩
    · rw [List.getElem?_eq_none (by simpa using hl)] at e
      cases e
  · rw [List.getElem?_set_ne hj] at e ⊢
    exact h.slot j d' e
theorem RepE.unset {K : PySem.W.Frag} {ι : List Addr} {H : Hp} {env : Env} {σ : L2.St} (h : RepE K ι H env σ) (i : Nat) : RepE K ι H (env.set i none) (σ.set i none) := by
  refine ⟨by simp [h.len], fun j d' e => ?_⟩
  by_cases hj : i = j
  · subst hj
    by_cases hl : i < env.length
    · rw [List.getElem?_set_self hl] at e
      cases e
    · rw [List.getElem?_eq_none (by simpa using hl)] at e
      cases e
  · rw [List.getElem?_set_ne hj] at e ⊢
    exact h.slot j d' e
theorem RepE.wipe {K : PySem.W.Frag} {ι : List Addr} {H : Hp} {env : Env} {σ : L2.St} (h : RepE K ι H env σ) : ∀ vs : List Nat, RepE K ι H (wipeD env vs) (L2.wipe σ vs)
  | [] => h
  | v :: vs => (RepE.wipe h vs).unset v

section
variable {X : Cx}
theorem pg_nameD (G : Gd X) {i : Nat} {x : Str} {pos : Pos} (hi : X.N[i]? = some x) (hx : Loc X.env.scope x) (hf : X.fn x = true ∨ X.env.scope.names.lookup x = some .local) : PG X (.Name x pos) (gD X (.nm i)) := by
  refine (pg_name G.nd hi hx hf).weak fun v σ H Q h => ?_
  obtain ⟨ι, env, s, d, env', hE, R, rd, e, q⟩ := h
  simp only [setT, Option.some.injEq] at e
  subst e
  refine q _ (hE.set i rd) (fun j hj => ?_) (by simp)
  rw [T.slots, List.mem_singleton] at hj
  exact List.getElem?_set_ne (Ne.symm hj)
theorem pgs_nilD : PGs X [] (gDs X []) := by
  refine pgs_nil.weak fun v σ H Q h => ?_
  obtain ⟨ι, env, s, ds, env', hE, R, rd, e, q⟩ := h
  cases ds with
  | nil =>
    simp only [setTs, Option.some.injEq] at e
    subst e
    rw [RDs] at rd
    exact ⟨rd, q σ hE (fun _ _ => rfl) rfl⟩
  | cons d ds => simp [setTs] at e
theorem asgEach_plain {e : Expr} (h : ∀ a p, e ≠ .Starred a p) (es : List Expr) (env : PySem.Env) : assignEach (e :: es) env = (false, assign e env) :: assignEach es env := by
  cases e <;> first | rfl | exact absurd rfl (h _ _)
theorem pgs_consD {e : Expr} {es : List Expr} {t : T} {ts : List T} (h1 : PG X e (gD X t)) (h2 : PGs X es (gDs X ts)) (hp : ∀ a p, e ≠ .Starred a p) : PGs X (e :: es) (gDs X (t :: ts)) := by
  refine (pgs_cons h1 h2 (by rw [asgEach_plain hp]; rfl)).weak fun v σ H Q h => ?_
  obtain ⟨ι, env, s, ds, env', hE, R, rd, e, q⟩ := h
  cases ds with
  | nil => simp [setTs] at e
  | cons d ds =>
    simp only [setTs, Option.bind_eq_some_iff] at e
    obtain ⟨env1, e1, e2⟩ := e
    rw [RDs] at rd
    obtain ⟨v, r, rfl, h1, h2⟩ := rd
    refine ⟨v, r, rfl, ι, env, s, d, env1, hE, R, h1, e1, fun σ1 hE1 f1 l1 => ⟨ι, env1, s, ds, env', hE1, R, h2, e2, fun σ2 hE2 f2 l2 => q σ2 hE2 (fun i hi => ?_) (l2.trans l1)⟩⟩
    rw [T.slotss, List.mem_append, not_or] at hi
    exact (f2 i hi.2).trans (f1 i hi.1)
theorem asgEach_len : ∀ {es : List Expr} (env : PySem.Env), (∀ e ∈ es, ∀ a p, e ≠ Expr.Starred a p) → (assignEach es env).length = es.length ∧ (assignEach es env).findIdx? (·.1) = none
  | [], _, _ => ⟨rfl, rfl⟩
  | e :: es, env, h => by
    obtain ⟨h1, h2⟩ := asgEach_len env fun x hx => h x (List.mem_cons_of_mem e hx)
    rw [asgEach_plain (h e (List.mem_cons_self ..))]
    refine ⟨by rw [List.length_cons, h1, List.length_cons], ?_⟩
    rw [List.findIdx?_cons]
    simp [h2]
theorem setTs_len {s : Sto} : ∀ {ts : List T} {ds : List D} {env env' : Env}, setTs s ts ds env = some env' → ds.length = ts.length
  | [], [], _, _, _ => rfl
  | [], _ :: _, _, _, e => by simp [setTs] at e
  | _ :: _, [], _, _, e => by simp [setTs] at e
  | t :: ts, d :: ds, _, _, e => by
    simp only [setTs, Option.bind_eq_some_iff] at e
    obtain ⟨_, _, e2⟩ := e
    simp [setTs_len e2]
theorem pg_or {e : Expr} {t t' : TG} (h : PG X e t) (h' : PG X e t') : PG X e fun v σ H Q => t v σ H Q ∨ t' v σ H Q := ⟨fun pins s σ H v u Q I r hw => hw.elim (h.run pins s σ H v u Q I r) (h'.run pins s σ H v u Q I r)⟩
theorem pg_tupD (G : Gd X) {es : List Expr} {k : Nat} {ts : List T} {pos : Pos} (h : PGs X es (gDs X ts)) (hp : ∀ e ∈ es, ∀ a p, e ≠ Expr.Starred a p) (hl : ts.length = es.length) : PG X (.Tuple es k pos) (gD X (.tp ts)) := by
  obtain ⟨h1, h2⟩ := asgEach_len X.env hp
  refine (pg_or (pg_tup (n := es.length) (k := k) (pos := pos) G.calm h h1 h2) (pg_unl (n := es.length) (k := k) (pos := pos) G.calm h h1 h2)).weak fun v σ H Q h => ?_
  obtain ⟨ι, env, s, d, env', hE, R, rd, e, q⟩ := h
  have fin : ∀ {σ' : L2.St}, (∀ i, i ∉ T.slotss ts → σ'[i]? = σ[i]?) → ∀ i, i ∉ (T.tp ts).slots → σ'[i]? = σ[i]? := fun h2 i hi => h2 i (by rw [T.slots] at hi; exact hi)
  cases d with
  | tup ds =>
    simp only [setT, itemsD] at e
    rw [RD] at rd
    obtain ⟨a, vs, rfl, hq, rds⟩ := rd
    exact .inl ⟨a, vs, rfl, hq.sq, by rw [rds.length, setTs_len e, hl], ι, env, s, ds, env', hE, R, rds, e, fun σ' h1 h2 h3 => q σ' h1 (fin h2) h3⟩
  | ref r =>
    simp only [setT, itemsD] at e
    cases hs : s[r]? with
    | none => simp [hs] at e
    | some c =>
      obtain ⟨a, rfl, ha, cell⟩ := R.ofRef hs rd
      cases c with
      | lst ds =>
        obtain ⟨ws, h3, h4⟩ := cell
        simp only [hs] at e
        exact .inr ⟨a, ws, rfl, .inl (.inl h3), by rw [h4.length, setTs_len e, hl], ι, env, s, ds, env', hE, R, h4, e, fun σ' h1 h2 h3 => q σ' h1 (fin h2) h3⟩
      | dct _ => simp [hs] at e
      | lck _ => simp [hs] at e
  | _ => simp [setT, itemsD] at e
end

/-! ### a dict is let go again -/
section
variable {X : Cx}
/-- wanted at the heap, or at the heap with one dict let go -/
def Opn (X : Cx) (Q : Hp → Prop) (H : Hp) : Prop := Q H ∨ ∃ a od u, H a = some (.frz od u) ∧ (∀ o' u', X.H_0 a ≠ some (.frz o' u')) ∧ Q (upd H a u)
def opnE (X : Cx) (D : Ends) : Ends := ⟨fun σ H => Opn X (D.nx σ) H, fun v H => Opn X (D.rt v) H, fun σ H => Opn X (D.bk σ) H, fun σ H => Opn X (D.ct σ) H⟩
theorem opn_inv {pins : List (Addr × Obj)} {σ : L2.St} {H : Hp} {s : Shared} {Q : Hp → Prop} (I : Inv X pins σ H s) (h : Opn X Q H) : ∃ H', Inv X pins σ H' s ∧ Q H' := by
  rcases h with h | ⟨a, od, u, h1, h2, h3⟩
  · exact ⟨H, I, h⟩
  · exact ⟨_, I.unlock h1 h2, h3⟩
theorem opn_sp {pins : List (Addr × Obj)} {D : Ends} {f : Flow} {s : Shared} (h : SP X pins (opnE X D) f s) : SP X pins D f s := by
  cases f with
  | next => obtain ⟨σ', H', I, q⟩ := h; obtain ⟨H2, I2, q2⟩ := opn_inv I q; exact ⟨σ', H2, I2, q2⟩
  | brk => obtain ⟨σ', H', I, q⟩ := h; obtain ⟨H2, I2, q2⟩ := opn_inv I q; exact ⟨σ', H2, I2, q2⟩
  | cont => obtain ⟨σ', H', I, q⟩ := h; obtain ⟨H2, I2, q2⟩ := opn_inv I q; exact ⟨σ', H2, I2, q2⟩
  | ret u => obtain ⟨v, σ', H', I, r, q⟩ := h; obtain ⟨H2, I2, q2⟩ := opn_inv I q; exact ⟨v, σ', H2, I2, r, q2⟩
/-- behind the loop the store is let go: what is wanted of the open store holds -/
theorem opn_of {ι0 ι1 ι2 : List Addr} {H0 H1 H : Hp} {g : Src} {s1 s2 : Sto} (R1 : Rep X.prog X.w X.K ι1 H1 (lockS g s1)) (lk : Lk X H0 ι1 H1 g s1) (g0 : Go ι0 ι2 H0 H) (g2 : Go ι1 ι2 H1 H) (R2 : Rep X.prog X.w X.K ι2 H s2) {Q : Hp → Prop}
    (q : ∀ H', Go ι0 ι2 H0 H' → Stay X.K H H' → Rep X.prog X.w X.K ι2 H' (unlockS g s1 s2) → (∀ a, a ∉ ι2 → H' a = H a) → Q H') : Opn X Q H := by
  cases hl : g.lock with
  | none => exact .inl (q H g0 ⟨fun _ _ e => e, fun _ _ e => e⟩ (by unfold unlockS; rw [hl]; exact R2) fun _ _ => rfl)
  | some r =>
    obtain ⟨c, a, hs, ha, hc⟩ := lk r hl
    have ha2 := g2.ix ha
    have hu : unlockS g s1 s2 = s2.set r c := by unfold unlockS; rw [hl]; simp only; rw [hs]
    have hr2 : r < s2.length := by
      have := (List.getElem?_eq_some_iff.mp ha2).1
      rw [R2.len] at this
      exact this
    rcases hc with ⟨kvs, rfl⟩ | ⟨kvs, od, u, rfl, hH, hd, hn, hn0⟩
    · -- it was locked ahead of this loop
      refine .inl (q H g0 ⟨fun _ _ e => e, fun _ _ e => e⟩ ?_ fun _ _ => rfl)
      rw [hu]
      have hlk : lockS g s1 = s1 := by unfold lockS; rw [hl]; simp only; rw [hs]
      rw [hlk] at R1
      obtain ⟨o, u, h1, h2⟩ := R1.cell r _ a hs ha
      refine ⟨by rw [List.length_set]; exact R2.len, R2.nd, fun j c' b e e' => ?_⟩
      by_cases hj : j = r
      · subst hj
        rw [List.getElem?_set_self hr2] at e
        cases e
        rw [ha2] at e'; cases e'
        exact ⟨o, u, g2.frz _ _ _ h1, h2.mono (g2.stay R1) fun _ _ => g2.ix⟩
      · rw [List.getElem?_set_ne (Ne.symm hj)] at e
        exact R2.cell j c' b e e'
    · obtain ⟨n1, n2, n3, mu⟩ := hd.notTup
      have hH2 := g2.frz _ _ _ hH
      have st : Stay X.K H (upd H a u) := stay_set hH2 (fun _ z => nomatch z) (fun _ _ z => by cases z; exact n1 _ rfl) (fun _ _ z => by cases z; exact n3 _ rfl)
      refine .inr ⟨a, od, u, hH2, hn, q _ ?_ st ?_ fun b hb => upd_ne fun z => hb (z ▸ List.mem_of_getElem? ha2)⟩
      · refine ⟨g0.pre, fun b o e nb => ?_, fun b o u' e => ?_⟩
        · have e2 := g0.keep b o e nb
          rw [upd_ne fun z => ?_]
          · exact e2
          · subst z
            rw [hH2] at e2; cases e2
            exact hn0 _ _ e
        · rw [upd_ne fun z => hn0 o u' (by rw [← z]; exact e)]
          exact g0.frz _ _ _ e
      · rw [hu]
        refine R2.set (List.getElem?_eq_getElem hr2) ha2 (fun _ z => by rw [hH2] at z; cases z) (fun _ _ z => by rw [hH2] at z; cases z; exact n1 _ rfl) (fun _ _ z => by rw [hH2] at z; cases z; exact n3 _ rfl) ⟨u, upd_same, ?_⟩
        exact (hd.mono (g2.stay R1) fun _ _ => g2.ix).mono st fun _ _ e => e
end

/-! ### comprehensions -/
section
variable {X : Cx}
theorem wipe_get {σ : L2.St} {i : Nat} : ∀ {vs : List Nat}, (L2.wipe σ vs)[i]? = if i ∈ vs then (if i < σ.length then some none else none) else σ[i]?
  | [] => by simp [L2.wipe]
  | v :: vs => by
    unfold L2.wipe
    by_cases hi : v = i
    · subst hi
      by_cases hl : v < σ.length
      · rw [List.getElem?_set_self (by rw [L2.wipe_length]; exact hl)]; simp [hl]
      · rw [List.getElem?_eq_none (by rw [List.length_set, L2.wipe_length]; omega)]; simp [hl]
    · rw [List.getElem?_set_ne hi, wipe_get]
      have : i ∈ v :: vs ↔ i ∈ vs := by simp [Ne.symm hi]
      simp only [this]
theorem wipe_same {σ σ' : L2.St} {vs : List Nat} (hl : σ'.length = σ.length) (h : ∀ i, i ∉ vs → σ'[i]? = σ[i]?) : L2.wipe σ' vs = L2.wipe σ vs := by
  refine List.ext_getElem? fun i => ?_
  rw [wipe_get, wipe_get, hl]
  split
  · rfl
  · rename_i hi; exact h i hi
theorem wipe_wipe (σ : L2.St) (vs : List Nat) : L2.wipe (L2.wipe σ vs) vs = L2.wipe σ vs := by
  refine wipe_same (L2.wipe_length σ vs) fun i hi => ?_
  rw [wipe_get, if_neg hi]
/-- a side object that is no cell is written -/
theorem Rep.side {P : Program} {w : World} {K : PySem.W.Frag} {ι : List Addr} {H : Hp} {s : Sto} (R : Rep P w K ι H s) {p : Addr} {o : HO} (hp : p ∉ ι) (st : Stay K H (upd H p o)) : Rep P w K ι (upd H p o) s :=
  ⟨R.len, R.nd, fun i c a e e' => (R.cell i c a e e').mono st (fun _ _ e => e) (upd_ne fun z => hp (z ▸ List.mem_of_getElem? e'))⟩

/-- a comprehension's test, where there is one -/
def tC? (X : Cx) (rc : Env → Sto → Option (D × Sto)) : TT := tET X rc
theorem lc_weak {ri : Env → Sto → Option (Src × Sto)} {rt re : Env → Sto → Option (D × Sto)} {t : T} {vs : List Nat} (ht : ∀ i ∈ t.slots, i ∈ vs) {σ : L2.St} {H : Hp} {Q : VK}
    (h : tE X (fun env s => bnd (ri env s) fun g s => bnd (compL re rt t (wipeD env vs) g g.items [] (lockS g s)) fun acc s1 => some (.ref (unlockS g s s1).length, unlockS g s s1 ++ [.lst acc])) σ H Q) :
    tLc (iD X ri) (gD X t) (tET X rt) (tE X re) vs σ H fun v H' => Opn X (Q v) H' := by
  obtain ⟨ι, env, s, d, s', hE, R, e, q⟩ := h
  obtain ⟨g, s1, e1, e⟩ := bnd_eq_some.mp e
  obtain ⟨accF, sF, e2, e⟩ := bnd_eq_some.mp e
  simp only [Option.some.injEq, Prod.mk.injEq] at e
  obtain ⟨rfl, rfl⟩ := e
  refine ⟨ι, env, s, g, s1, hE, R, e1, fun J H1 ι1 g1 R1 lk io D hD => ?_⟩
  have hDι : D ∉ ι1 := R1.notNone hD
  have hn : g.items.length = g.items.length := rfl
  have hH0D : H D = none := by
    cases z : H D with
    | none => rfl
    | some o =>
      by_cases hd : D ∈ ι
      · exact absurd (by obtain ⟨new, e, _⟩ := g1.pre; rw [e]; exact List.mem_append_left _ hd) hDι
      · have := g1.keep D o z hd
        rw [hD] at this; cases this
  -- the invariant of the turns
  refine ⟨fun i m H2 => m = g.items.length - i ∧ ∃ ι2 s2 acc av, Go ι1 ι2 H1 H2 ∧ Rep X.prog X.w X.K ι2 H2 s2 ∧ D ∉ ι2 ∧ H2 D = some (.lst av) ∧ RDs X.K ι2 H2 acc av ∧ compL re rt t (wipeD env vs) g (g.items.drop i) acc s2 = some (accF, sF),
    ⟨g.items.length, by simp, ι1, lockS g s1, [], [], Go.new hD, R1.new hD, hDι, upd_same, by rw [RDs], by simpa using e2⟩, ?_⟩
  rintro i m H2 ⟨rfl, ι2, s2, acc, av, g2, R2, hD2, hA, rA, ec⟩
  by_cases hi : i < g.items.length
  · -- a turn
    have hd : g.items[i]? = some g.items[i] := List.getElem?_eq_getElem hi
    rw [List.drop_eq_getElem_cons hi, compL] at ec
    split at ec
    rotate_left
    · cases ec
    rename_i hok
    simp only [Option.bind_eq_some_iff] at ec
    obtain ⟨env1, e3, ec⟩ := ec
    obtain ⟨bb, s3, e4, ec⟩ := bnd_eq_some.mp ec
    obtain ⟨st1, st2⟩ := io.step ι2 H2 s2 g2 R2 hok i
    obtain ⟨go1, yl⟩ := st1 _ hd
    refine .inr ⟨go1, fun H3 => ∃ ι3 s3 acc3 av3, Go ι1 ι3 H1 H3 ∧ Rep X.prog X.w X.K ι3 H3 s3 ∧ D ∉ ι3 ∧ H3 D = some (.lst av3) ∧ RDs X.K ι3 H3 acc3 av3 ∧ compL re rt t (wipeD env vs) g (g.items.drop (i + 1)) acc3 s3 = some (accF, sF),
      fun H3 h3 => ⟨g.items.length - (i + 1), by omega, rfl, h3⟩, fun x H3 y => ?_⟩
    obtain ⟨g3, R3, rx⟩ := yl x H3 y
    have hA3 : H3 D = some (.lst av) := g3.keep D _ hA hD2
    have hE3 : RepE X.K ι2 H3 (wipeD env vs) (L2.wipe σ vs) := g3.env R2 (g2.env R1 (g1.env R hE |>.wipe vs) )
    have rA3 := g3.rds R2 rA
    refine ⟨ι2, wipeD env vs, s2, _, env1, hE3, R3, rx, e3, fun σ' hE4 hf hl => ⟨?_, ?_⟩⟩
    · rw [← wipe_wipe σ vs]
      exact wipe_same hl fun j hj => hf j fun z => hj (ht j z)
    · -- the test
      have hb : bb = .bl true ∨ bb = .bl false := by
        split at ec
        · exact .inl rfl
        · exact .inr rfl
        · cases ec
      rcases hb with rfl | rfl
      · refine ⟨ι2, env1, s2, true, s3, hE4, R3, e4, fun H5 ι5 g5 R5 => ?_⟩
        show (if true = true then _ else _)
        rw [if_pos rfl]
        simp only at ec
        obtain ⟨y, s6, e6, ec⟩ := bnd_eq_some.mp ec
        split at ec
        rotate_left
        · cases ec
        rename_i hlen
        refine ⟨ι5, env1, s3, y, s6, g5.env R3 hE4, R5, e6, fun vy H6 ι6 g6 R6 ry => ?_⟩
        have hD5 : D ∉ ι5 := fun z => by
          obtain ⟨new, e, hnew⟩ := g5.pre
          rw [e] at z
          rcases List.mem_append.mp z with z | z
          · exact hD2 z
          · have := hnew D z
            rw [hA3] at this; cases this
        have hA5 : H5 D = some (.lst av) := g5.keep D _ hA3 hD2
        have hD6 : D ∉ ι6 := fun z => by
          obtain ⟨new, e, hnew⟩ := g6.pre
          rw [e] at z
          rcases List.mem_append.mp z with z | z
          · exact hD5 z
          · have := hnew D z
            rw [hA5] at this; cases this
        have hA6 : H6 D = some (.lst av) := g6.keep D _ hA5 hD5
        have rA6 := g6.rds R5 (g5.rds R3 rA3)
        have hal := rA6.length
        refine ⟨av, hA6, by rw [hal, ← L_eq]; exact hlen, ?_⟩
        have st : Stay X.K H6 (upd H6 D (.lst (av ++ [vy]))) := stay_set hA6 (fun _ z => nomatch z) (fun _ _ z => nomatch z) (fun _ _ z => nomatch z)
        have g16 : Go ι1 ι6 H1 H6 := ((g2.trans R2 g3).trans R3 g5).trans R5 g6
        refine ⟨ι6, s6, acc ++ [y], av ++ [vy], ⟨g16.pre, fun a o e na => ?_, fun a o u e => ?_⟩, R6.side hD6 st, hD6, upd_same, (rA6.append (RDs.one ry)).mono st fun _ _ e => e, ec⟩
        · rw [upd_ne (ne_of_none e hD)]
          exact g16.keep a o e na
        · rw [upd_ne (ne_of_none e hD)]
          exact g16.frz a o u e
      · refine ⟨ι2, env1, s2, false, s3, hE4, R3, e4, fun H5 ι5 g5 R5 => ?_⟩
        show (if false = true then _ else _)
        rw [if_neg Bool.false_ne_true]
        simp only at ec
        have hD5 : D ∉ ι5 := fun z => by
          obtain ⟨new, e, hnew⟩ := g5.pre
          rw [e] at z
          rcases List.mem_append.mp z with z | z
          · exact hD2 z
          · have := hnew D z
            rw [hA3] at this; cases this
        exact ⟨ι5, s3, acc, av, (g2.trans R2 g3).trans R3 g5, R5, hD5, g5.keep D _ hA3 hD2, g5.rds R3 rA3, ec⟩
  · -- the end
    rw [List.drop_eq_nil_of_le (by omega), compL] at ec
    split at ec
    rotate_left
    · cases ec
    rename_i hok
    simp only [Option.some.injEq, Prod.mk.injEq] at ec
    obtain ⟨rfl, rfl⟩ := ec
    obtain ⟨st1, st2⟩ := io.step ι2 H2 s2 g2 R2 hok i
    refine .inl ⟨st2 (by omega), ?_⟩
    have g02 : Go ι ι2 H H2 := g1.trans R1 g2
    refine opn_of R1 lk g02 g2 R2 fun H' g' st R' same => ?_
    have hA' : H' D = some (.lst av) := by rw [same D hD2]; exact hA
    refine q _ H' (ι2 ++ [D]) ⟨?_, g'.keep, g'.frz⟩ ?_ ?_
    · obtain ⟨new, e, hnew⟩ := g'.pre
      refine ⟨new ++ [D], by rw [e, List.append_assoc], fun a ha => ?_⟩
      rcases List.mem_append.mp ha with ha | ha
      · exact hnew a ha
      · rw [List.mem_singleton] at ha; subst ha; exact hH0D
    · have hix : ∀ (i : Nat) (a : Addr), ι2[i]? = some a → (ι2 ++ [D])[i]? = some a := fun i a e => by
        rw [List.getElem?_append_left (List.getElem?_eq_some_iff.mp e).1]; exact e
      refine ⟨by simp [R'.len], List.nodup_append.mpr ⟨R'.nd, by simp, fun a ha b hb => ?_⟩, fun j c a e e' => ?_⟩
      · rw [List.mem_singleton] at hb; subst hb; intro z; exact hD2 (z ▸ ha)
      · by_cases hj : j < (unlockS g s1 s2).length
        · rw [List.getElem?_append_left hj] at e
          rw [List.getElem?_append_left (by rw [R'.len]; exact hj)] at e'
          exact (R'.cell j c a e e').mono ⟨fun _ _ e => e, fun _ _ e => e⟩ hix rfl
        · rw [List.getElem?_append_right (by omega)] at e
          rw [List.getElem?_append_right (by rw [R'.len]; omega)] at e'
          have h1 : j - (unlockS g s1 s2).length = 0 := by
            have := (List.getElem?_eq_some_iff.mp e).1
            simp at this
            omega
          have h2 : j - ι2.length = 0 := by rw [R'.len]; exact h1
          rw [h1] at e; rw [h2] at e'
          simp at e e'
          subst e e'
          exact ⟨av, hA', (rA.mono st fun _ _ e => e).mono ⟨fun _ _ e => e, fun _ _ e => e⟩ hix⟩
    · rw [RD]
      exact ⟨D, rfl, by rw [List.getElem?_append_right (by rw [R'.len]; omega), R'.len]; simp⟩
end
end Ev
end

section
set_option autoImplicit false
set_option maxRecDepth 100000
set_option linter.unusedVariables false
/-! Ev18: statements by their runs -/
namespace Ev
open PySem L2 PySem.SeqAt PyProof.Rows PySem.Calls

def RetS (X : Cx) (ι : List Addr) (H : Hp) (D : Ends) : Fl × Env → Sto → Prop
  | (.nx, env), s => ∀ σ' H' ι', Go ι ι' H H' → Rep X.prog X.w X.K ι' H' s → RepE X.K ι' H' env σ' → D.nx σ' H'
  | (.rt d, _), s => ∀ v H' ι', Go ι ι' H H' → Rep X.prog X.w X.K ι' H' s → RD X.K ι' H' d v → D.rt v H'
  | (.bk, env), s => ∀ σ' H' ι', Go ι ι' H H' → Rep X.prog X.w X.K ι' H' s → RepE X.K ι' H' env σ' → D.bk σ' H'
  | (.ct, env), s => ∀ σ' H' ι', Go ι ι' H H' → Rep X.prog X.w X.K ι' H' s → RepE X.K ι' H' env σ' → D.ct σ' H'
def tSD (X : Cx) (run : Env → Sto → Option ((Fl × Env) × Sto)) : TS := fun D σ H => ∃ ι env s r s', RepE X.K ι H env σ ∧ Rep X.prog X.w X.K ι H s ∧ run env s = some (r, s') ∧ RetS X ι H D r s'
section
variable {X : Cx}
theorem RetS.go {ι ι1 : List Addr} {H H1 : Hp} {s1 s' : Sto} {D : Ends} {r : Fl × Env} (R1 : Rep X.prog X.w X.K ι1 H1 s1) (g : Go ι ι1 H H1) (q : RetS X ι H D r s') : RetS X ι1 H1 D r s' := by
  obtain ⟨f, env⟩ := r
  cases f with
  | nx => exact fun σ' H' ι' g' => q σ' H' ι' (g.trans R1 g')
  | rt d => exact fun σ' H' ι' g' => q σ' H' ι' (g.trans R1 g')
  | bk => exact fun σ' H' ι' g' => q σ' H' ι' (g.trans R1 g')
  | ct => exact fun σ' H' ι' g' => q σ' H' ι' (g.trans R1 g')

variable {a b c e tg iter elt : Expr} {ra rb rc re : Env → Sto → Option (D × Sto)} {ri : Env → Sto → Option (Src × Sto)} {t : T} {pos : Pos}
/-! ### comprehensions -/
theorem folded_not (h : ∀ es k p, iter ≠ .Set es k p) : ∀ x, foldedSetIterable iter X.env x = pure x := by
  intro x
  cases iter <;> first | rfl | exact absurd rfl (h _ _ _)
abbrev lcR (ri : Env → Sto → Option (Src × Sto)) (rt re : Env → Sto → Option (D × Sto)) (t : T) (vs : List Nat) : Env → Sto → Option (D × Sto) := fun env s => bnd (ri env s) fun g s => bnd (compL re rt t (wipeD env vs) g g.items [] (lockS g s)) fun acc s1 => some (.ref (unlockS g s s1).length, unlockS g s s1 ++ [.lst acc])
theorem pe_lcD (G : Gd X) {ifs : List Expr} {scope : Scope} {own : List (Str × Nat)} {rt : Env → Sto → Option (D × Sto)} (ht : ∀ i ∈ t.slots, i ∈ own.map (·.2)) (hi : PI X tg iter (iD X ri)) (ok : BlkOk X.N X.env.scope scope own)
    (hg : ∀ (s : Shared) (H : Hp) (C : Addr) (cl : List (Str × Addr)) (fp : List Addr), PG (X.blk s H scope (compEnvC scope cl C X.env) fp) tg (gD X t)) (htt : ∀ (s : Shared) (H : Hp) (C : Addr) (cl : List (Str × Addr)) (fp : List Addr), PTs (X.blk s H scope (compEnvC scope cl C X.env) fp) ifs (tET X rt))
    (hee : ∀ (s : Shared) (H : Hp) (C : Addr) (cl : List (Str × Addr)) (fp : List Addr), PE (X.blk s H scope (compEnvC scope cl C X.env) fp) elt (tE X re)) (hs : ∀ es k p, iter ≠ .Set es k p) :
    PE X (.ListComp elt [⟨tg, iter, ifs, 0⟩] scope pos) (tE X (lcR ri rt re t (own.map (·.2)))) :=
  ⟨fun pins s σ H Q I h => thn ((pe_lc G.calm G.nd hi ok hg htt hee (folded_not hs)).run pins s σ H (fun v H' => Opn X (Q v) H') I (lc_weak ht h)) fun v s' ⟨x, H', I', r, q⟩ =>
    let ⟨H2, I2, q2⟩ := opn_inv I' q; ⟨x, H2, I2, r, q2⟩⟩
abbrev asgR (re : Env → Sto → Option (D × Sto)) (t : T) : Env → Sto → Option ((Fl × Env) × Sto) := fun env s => bnd (re env s) fun d s => (setT s t d env).map fun env => ((.nx, env), s)
theorem ps_setLcD (G : Gd X) {i : Nat} {y : Str} {py spos : Pos} {ifs : List Expr} {scope : Scope} {own : List (Str × Nat)} {rt : Env → Sto → Option (D × Sto)} (hy : X.N[i]? = some y) (hyl : X.env.scope.names.lookup y = some .local)
    (hsw : swapsWith (.ListComp elt [⟨tg, iter, ifs, 0⟩] scope pos) (some (.Name y py)) spos.line X.env = pure true) (ht : ∀ i ∈ t.slots, i ∈ own.map (·.2)) (hi : PI X tg iter (iD X ri)) (ok : BlkOk X.N X.env.scope scope own)
    (hg : ∀ (s : Shared) (H : Hp) (C : Addr) (cl : List (Str × Addr)) (fp : List Addr), PG (X.blk s H scope (compEnvC scope cl C X.env) fp) tg (gD X t)) (htt : ∀ (s : Shared) (H : Hp) (C : Addr) (cl : List (Str × Addr)) (fp : List Addr), PTs (X.blk s H scope (compEnvC scope cl C X.env) fp) ifs (tET X rt))
    (hee : ∀ (s : Shared) (H : Hp) (C : Addr) (cl : List (Str × Addr)) (fp : List Addr), PE (X.blk s H scope (compEnvC scope cl C X.env) fp) elt (tE X re)) (hs : ∀ es k p, iter ≠ .Set es k p) :
    PS X (.Assign [.Name y py] (.ListComp elt [⟨tg, iter, ifs, 0⟩] scope pos) spos) (tSD X (asgR (lcR ri rt re t (own.map (·.2))) (.nm i))) := by
  refine ⟨fun pins s σ H D I h => ?_⟩
  obtain ⟨ι, env, st, r, s', hE, R, e, q⟩ := h
  obtain ⟨d, s1, e1, e2⟩ := bnd_eq_some.mp e
  simp only [setT, Option.map_some, Option.some.injEq, Prod.mk.injEq] at e2
  obtain ⟨rfl, rfl⟩ := e2
  refine thn ((ps_setLc G.calm G.nd hy hyl hsw hi ok hg htt hee (folded_not hs)).run pins s σ H (opnE X D) I ?_) fun f s' h => opn_sp h
  refine lc_weak (Q := fun v H' => D.nx (σ.set i (some v)) H') ht ⟨ι, env, st, d, _, hE, R, e1, fun v H' ι' g R' rd => ?_⟩
  exact q _ H' ι' g R' ((g.env R hE).set i rd)

/-! ### assignments -/
theorem ps_asgD (he : PE X e (tE X re)) (hg : PG X tg (gD X t)) (hs : swapsWithSole [tg] e pos.line X.env = pure false) (hw : swappedStores [tg] e X.env = pure none) (h1 : ∀ z p, tg ≠ .Starred z p) : PS X (.Assign [tg] e pos) (tSD X (asgR re t)) := by
  refine (ps_asg he hg hs hw (by rw [asgEach_plain h1]; rfl)).weak fun D σ H h => ?_
  obtain ⟨ι, env, s, r, s', hE, R, e, q⟩ := h
  obtain ⟨d, s1, e1, e2⟩ := bnd_eq_some.mp e
  simp only [Option.map_eq_some_iff, Prod.mk.injEq] at e2
  obtain ⟨env', e2, rfl, rfl⟩ := e2
  refine ⟨ι, env, s, d, _, hE, R, e1, fun v H1 ι1 g1 R1 rd => ⟨ι1, env, _, d, env', g1.env R hE, R1, rd, e2, fun σ' hE' _ _ => q σ' H1 ι1 g1 R1 hE'⟩⟩
theorem ps_setD (G : Gd X) {i : Nat} {x : Str} {pos' : Pos} (hi : X.N[i]? = some x) (hx : Loc X.env.scope x) (he : PE X e (tE X re)) (hs : swapsWith e (some (.Name x pos')) pos.line X.env = pure false) (hf : X.fn x = true ∨ X.env.scope.names.lookup x = some .local) :
    PS X (.Assign [.Name x pos'] e pos) (tSD X (asgR re (.nm i))) := by
  refine (ps_set G.nd hi hx he hs hf).weak fun D σ H h => ?_
  obtain ⟨ι, env, s, r, s', hE, R, e, q⟩ := h
  obtain ⟨d, s1, e1, e2⟩ := bnd_eq_some.mp e
  simp only [setT, Option.map_some, Option.some.injEq, Prod.mk.injEq] at e2
  obtain ⟨rfl, rfl⟩ := e2
  exact ⟨ι, env, s, d, _, hE, R, e1, fun v H1 ι1 g1 R1 rd => q _ H1 ι1 g1 R1 ((g1.env R hE).set i rd)⟩
theorem ps_parD (G : Gd X) {i j : Nat} {x y : Str} {rs : Env → Sto → Option (List D × Sto)} {px py pt : Pos} {kt k2 pt2} (hi : X.N[i]? = some x) (hj : X.N[j]? = some y) (hij : i ≠ j)
    (hx : X.env.scope.names.lookup x = some .local) (hy : X.env.scope.names.lookup y = some .local) (ha : PA X [a, b] (tEs X rs))
    (hw : swappedStores [.Tuple [.Name x px, .Name y py] kt pt] (.Tuple [a, b] k2 pt2) X.env = pure (some [x, y])) (hs : swapsWithSole [.Tuple [.Name x px, .Name y py] kt pt] (.Tuple [a, b] k2 pt2) pos.line X.env = pure false) :
    PS X (.Assign [.Tuple [.Name x px, .Name y py] kt pt] (.Tuple [a, b] k2 pt2) pos) (tSD X (asgR (fun env s => bnd (rs env s) fun ds s => newT s ds) (.tp [.nm i, .nm j]))) := by
  refine (ps_par G.calm G.nd hi hj hij hx hy ha hw hs).weak fun D σ H h => ?_
  obtain ⟨ι, env, s, r, s', hE, R, e, q⟩ := h
  obtain ⟨d, s1, e1, e2⟩ := bnd_eq_some.mp e
  obtain ⟨ds, s2, e0, e1⟩ := bnd_eq_some.mp e1
  obtain ⟨_, rfl, rfl⟩ := newT_some e1
  simp only [Option.map_eq_some_iff, Prod.mk.injEq] at e2
  obtain ⟨env', e2, rfl, rfl⟩ := e2
  refine ⟨ι, env, s, ds, _, hE, R, e0, fun vs H1 ι1 g1 R1 rd => ?_⟩
  rcases ds with _ | ⟨d1, _ | ⟨d2, _ | ⟨d3, ds⟩⟩⟩
  · simp [setT, setTs, itemsD] at e2
  · simp [setT, setTs, itemsD] at e2
  · simp only [setT, setTs, itemsD, Option.bind_some, Option.some.injEq] at e2
    subst e2
    rw [RDs] at rd
    obtain ⟨v, l, rfl, h1, h2⟩ := rd
    rw [RDs] at h2
    obtain ⟨v2, l, rfl, h2, h3⟩ := h2
    rw [RDs] at h3
    subst h3
    exact ⟨v, v2, rfl, q _ H1 ι1 g1 R1 (((g1.env R hE).set i h1).set j h2)⟩
  · simp [setT, setTs, itemsD] at e2
theorem ps_par3D (G : Gd X) {i j l : Nat} {x y z : Str} {d' : Expr} {rs : Env → Sto → Option (List D × Sto)} {px py pz pt : Pos} {kt k2 pt2} (hi : X.N[i]? = some x) (hj : X.N[j]? = some y) (hl : X.N[l]? = some z) (hij : i ≠ j) (hil : i ≠ l) (hjl : j ≠ l)
    (hx : X.env.scope.names.lookup x = some .local) (hy : X.env.scope.names.lookup y = some .local) (hz : X.env.scope.names.lookup z = some .local) (ha : PA X [a, b, d'] (tEs X rs))
    (hw : swappedStores [.Tuple [.Name x px, .Name y py, .Name z pz] kt pt] (.Tuple [a, b, d'] k2 pt2) X.env = pure (some [x, y, z])) (hs : swapsWithSole [.Tuple [.Name x px, .Name y py, .Name z pz] kt pt] (.Tuple [a, b, d'] k2 pt2) pos.line X.env = pure false) :
    PS X (.Assign [.Tuple [.Name x px, .Name y py, .Name z pz] kt pt] (.Tuple [a, b, d'] k2 pt2) pos) (tSD X (asgR (fun env s => bnd (rs env s) fun ds s => newT s ds) (.tp [.nm i, .nm j, .nm l]))) := by
  refine (ps_par3 G.calm G.nd hi hj hl hij hil hjl hx hy hz ha hw hs).weak fun D σ H h => ?_
  obtain ⟨ι, env, s, r, s', hE, R, e, q⟩ := h
  obtain ⟨d, s1, e1, e2⟩ := bnd_eq_some.mp e
  obtain ⟨ds, s2, e0, e1⟩ := bnd_eq_some.mp e1
  obtain ⟨_, rfl, rfl⟩ := newT_some e1
  simp only [Option.map_eq_some_iff, Prod.mk.injEq] at e2
  obtain ⟨env', e2, rfl, rfl⟩ := e2
  refine ⟨ι, env, s, ds, _, hE, R, e0, fun vs H1 ι1 g1 R1 rd => ?_⟩
  rcases ds with _ | ⟨d1, _ | ⟨d2, _ | ⟨d3, _ | ⟨d4, ds⟩⟩⟩⟩
  · simp [setT, setTs, itemsD] at e2
  · simp [setT, setTs, itemsD] at e2
  · simp [setT, setTs, itemsD] at e2
  · simp only [setT, setTs, itemsD, Option.bind_some, Option.some.injEq] at e2
    subst e2
    rw [RDs] at rd
    obtain ⟨v, l1, rfl, h1, h2⟩ := rd
    rw [RDs] at h2
    obtain ⟨v2, l2, rfl, h2, h3⟩ := h2
    rw [RDs] at h3
    obtain ⟨v3, l3, rfl, h3, h4⟩ := h3
    rw [RDs] at h4
    subst h4
    exact ⟨v, v2, v3, rfl, q _ H1 ι1 g1 R1 ((((g1.env R hE).set i h1).set j h2).set l h3)⟩
  · simp [setT, setTs, itemsD] at e2
theorem ps_setiD (G : Gd X) {o i v : Expr} {p : Pos} {ro ri' rv : Env → Sto → Option (D × Sto)} (ho : PE X o (tE X ro)) (hi : PE X i (tE X ri')) (hv : PE X v (tE X rv)) (hns : ∀ lo hi st p, i ≠ .Slice lo hi st p)
    (hs : swapsWithSole [.Subscript o i p] v pos.line X.env = pure false) : PS X (.Assign [.Subscript o i p] v pos) (tSD X fun env s => bnd (rv env s) fun d s => bnd (ro env s) fun x s => bnd (ri' env s) fun k s => (setD x k d s).map fun s => ((.nx, env), s)) := by
  have hgs : PG X (.Subscript o i p) (gSub (tE X ro) (tE X ri') (rSet X.prog X.w X.K)) := pg_sub ho hi (set_D G) (by
    intro v
    cases i <;> first | rfl | exact absurd rfl (hns _ _ _ _))
  refine (ps_asg hv hgs hs (by rfl) (by rfl)).weak fun D σ H h => ?_
  obtain ⟨ι, env, s, r, s', hE, R, e, q⟩ := h
  obtain ⟨d, s1, e1, e⟩ := bnd_eq_some.mp e
  obtain ⟨x, s2, e2, e⟩ := bnd_eq_some.mp e
  obtain ⟨k, s3, e3, e⟩ := bnd_eq_some.mp e
  simp only [Option.map_eq_some_iff, Prod.mk.injEq] at e
  obtain ⟨s4, e4, rfl, rfl⟩ := e
  refine ⟨ι, env, s, d, s1, hE, R, e1, fun vd H1 ι1 g1 R1 rd => ?_⟩
  refine ⟨ι1, env, s1, x, s2, g1.env R hE, R1, e2, fun vx H2 ι2 g2 R2 rx => ?_⟩
  refine ⟨ι2, env, s2, k, s3, g2.env R1 (g1.env R hE), R2, e3, fun vk H3 ι3 g3 R3 rk => ?_⟩
  refine ⟨ι3, s3, x, k, d, s4, R3, g3.rd R2 rx, rk, g3.rd R2 (g2.rd R1 rd), e4, fun H4 ι4 g4 R4 => ?_⟩
  exact q σ H4 ι4 (((g1.trans R1 g2).trans R2 g3).trans R3 g4) R4 (g4.env R3 (g3.env R2 (g2.env R1 (g1.env R hE))))
theorem ps_exD (he : PE X e (tE X re)) (hs : swapsWith e none pos.line X.env = pure false) : PS X (.Expr e pos) (tSD X fun env s => bnd (re env s) fun _ s => some ((.nx, env), s)) := by
  refine (ps_expr he hs).weak fun D σ H h => ?_
  obtain ⟨ι, env, s, r, s', hE, R, e, q⟩ := h
  obtain ⟨d, s1, e1, e⟩ := bnd_eq_some.mp e
  cases e
  exact ⟨ι, env, s, d, _, hE, R, e1, fun v H1 ι1 g1 R1 rd => q σ H1 ι1 g1 R1 (g1.env R hE)⟩
theorem ps_retD (he : PE X e (tE X re)) : PS X (.Return (some e) pos) (tSD X fun env s => bnd (re env s) fun d s => some ((.rt d, env), s)) := by
  refine (ps_ret he).weak fun D σ H h => ?_
  obtain ⟨ι, env, s, r, s', hE, R, e, q⟩ := h
  obtain ⟨d, s1, e1, e⟩ := bnd_eq_some.mp e
  cases e
  exact ⟨ι, env, s, d, _, hE, R, e1, fun v H1 ι1 g1 R1 rd => q v H1 ι1 g1 R1 rd⟩
theorem ps_retND : PS X (.Return none pos) (tSD X fun env s => some ((.rt .non, env), s)) := by
  refine ps_retN.weak fun D σ H h => ?_
  obtain ⟨ι, env, s, r, s', hE, R, e, q⟩ := h
  cases e
  exact q .non H ι Go.refl R (by rw [RD])
theorem pss_nilD : PSs X [] (tSD X fun env s => some ((.nx, env), s)) := by
  refine pss_nil.weak fun D σ H h => ?_
  obtain ⟨ι, env, s, r, s', hE, R, e, q⟩ := h
  cases e
  exact q σ H ι Go.refl R hE
theorem ps_passD : PS X (.Pass pos) (tSD X fun env s => some ((.nx, env), s)) := by
  refine ps_pass.weak fun D σ H h => ?_
  obtain ⟨ι, env, s, r, s', hE, R, e, q⟩ := h
  cases e
  exact q σ H ι Go.refl R hE
theorem ps_brkD : PS X (.Break pos) (tSD X fun env s => some ((.bk, env), s)) := by
  refine ps_break.weak fun D σ H h => ?_
  obtain ⟨ι, env, s, r, s', hE, R, e, q⟩ := h
  cases e
  exact q σ H ι Go.refl R hE
theorem ps_cntD : PS X (.Continue pos) (tSD X fun env s => some ((.ct, env), s)) := by
  refine ps_continue.weak fun D σ H h => ?_
  obtain ⟨ι, env, s, r, s', hE, R, e, q⟩ := h
  cases e
  exact q σ H ι Go.refl R hE
theorem ps_neverD {st : Stmt} : PS X st (tSD X fun _ _ => none) := ⟨fun _ _ _ _ _ _ h => by obtain ⟨_, _, _, _, _, _, _, e, _⟩ := h; cases e⟩
variable {st : Stmt} {sts sts' : List Stmt} {r1 r2 : Env → Sto → Option ((Fl × Env) × Sto)}
theorem pss_consD (h1 : PS X st (tSD X r1)) (h2 : PSs X sts (tSD X r2)) : PSs X (st :: sts) (tSD X fun env s => bnd (r1 env s) fun r s => match r with
    | (.nx, env) => r2 env s
    | (f, env) => some ((f, env), s)) := by
  refine (pss_cons h1 h2).weak fun D σ H h => ?_
  obtain ⟨ι, env, s, r, s', hE, R, e, q⟩ := h
  obtain ⟨⟨f, env1⟩, s1, e1, e⟩ := bnd_eq_some.mp e
  refine ⟨ι, env, s, (f, env1), s1, hE, R, e1, ?_⟩
  cases f with
  | nx => exact fun σ1 H1 ι1 g1 R1 hE1 => ⟨ι1, env1, s1, r, s', hE1, R1, e, q.go R1 g1⟩
  | rt d => cases e; exact q
  | bk => cases e; exact q
  | ct => cases e; exact q
theorem ps_iteD {c : Expr} (hc : PT X c (tET X rc)) (ha : PSs X sts (tSD X r1)) (hb : PSs X sts' (tSD X r2)) : PS X (.If c sts sts' pos) (tSD X fun env s => bnd (rc env s) fun x s => match x with
    | .bl true => r1 env s
    | .bl false => r2 env s
    | _ => none) := by
  refine (ps_if hc ha hb).weak fun D σ H h => ?_
  obtain ⟨ι, env, s, r, s', hE, R, e, q⟩ := h
  obtain ⟨x, s1, e1, e⟩ := bnd_eq_some.mp e
  have hx : (x = .bl true ∧ r1 env s1 = some (r, s')) ∨ (x = .bl false ∧ r2 env s1 = some (r, s')) := by
    split at e
    · exact .inl ⟨rfl, e⟩
    · exact .inr ⟨rfl, e⟩
    · cases e
  rcases hx with ⟨rfl, e⟩ | ⟨rfl, e⟩
  · exact ⟨ι, env, s, true, s1, hE, R, e1, fun H1 ι1 g1 R1 => by show (if true = true then _ else _); rw [if_pos rfl]; exact ⟨ι1, env, s1, r, s', g1.env R hE, R1, e, q.go R1 g1⟩⟩
  · exact ⟨ι, env, s, false, s1, hE, R, e1, fun H1 ι1 g1 R1 => by show (if false = true then _ else _); rw [if_neg Bool.false_ne_true]; exact ⟨ι1, env, s1, r, s', g1.env R hE, R1, e, q.go R1 g1⟩⟩
theorem ps_whlD (G : Gd X) {c : Expr} {fuel : Nat} (hc : PT X c (tET X rc)) (hb : PSs X sts (tSD X r1)) : PS X (.While c sts [] pos) (tSD X fun env s => whlL rc r1 fuel env s) := by
  refine (ps_while (by rw [G.xe]; exact PassesOwn.never) hc hb).weak fun D σ H h => ?_
  obtain ⟨ι, env, s, r, s', hE, R, e, q⟩ := h
  refine ⟨fun m σ2 H2 => ∃ ι2 env2 s2, Go ι ι2 H H2 ∧ RepE X.K ι2 H2 env2 σ2 ∧ Rep X.prog X.w X.K ι2 H2 s2 ∧ whlL rc r1 m env2 s2 = some (r, s'), ⟨fuel, ι, env, s, Go.refl, hE, R, e⟩, ?_⟩
  rintro m σ2 H2 ⟨ι2, env2, s2, g2, hE2, R2, e2⟩
  cases m with
  | zero => simp [whlL] at e2
  | succ m =>
    rw [whlL] at e2
    obtain ⟨x, s3, e3, e2⟩ := bnd_eq_some.mp e2
    have hx : (x = .bl true) ∨ (x = .bl false) := by
      split at e2
      · exact .inl rfl
      · exact .inr rfl
      · cases e2
    rcases hx with rfl | rfl
    · refine ⟨ι2, env2, s2, true, s3, hE2, R2, e3, fun H3 ι3 g3 R3 => ?_⟩
      show (if true = true then _ else _)
      rw [if_pos rfl]
      simp only at e2
      obtain ⟨⟨f, env4⟩, s4, e4, e2⟩ := bnd_eq_some.mp e2
      refine ⟨fun σ5 H5 => ∃ ι5 env5 s5, Go ι ι5 H H5 ∧ RepE X.K ι5 H5 env5 σ5 ∧ Rep X.prog X.w X.K ι5 H5 s5 ∧ whlL rc r1 m env5 s5 = some (r, s'), fun σ' H' h' => ⟨m, Nat.lt_succ_self m, h'⟩, ?_⟩
      have g23 := g2.trans R2 g3
      refine ⟨ι3, env2, s3, (f, env4), s4, g3.env R2 hE2, R3, e4, ?_⟩
      cases f with
      | nx => exact fun σ5 H5 ι5 g5 R5 hE5 => ⟨ι5, env4, s4, g23.trans R3 g5, hE5, R5, e2⟩
      | ct => exact fun σ5 H5 ι5 g5 R5 hE5 => ⟨ι5, env4, s4, g23.trans R3 g5, hE5, R5, e2⟩
      | bk => cases e2; exact fun σ5 H5 ι5 g5 R5 hE5 => q σ5 H5 ι5 (g23.trans R3 g5) R5 hE5
      | rt d => cases e2; exact fun v H5 ι5 g5 R5 rd => q v H5 ι5 (g23.trans R3 g5) R5 rd
    · refine ⟨ι2, env2, s2, false, s3, hE2, R2, e3, fun H3 ι3 g3 R3 => ?_⟩
      show (if false = true then _ else _)
      rw [if_neg Bool.false_ne_true]
      simp only at e2
      cases e2
      exact q σ2 H3 ι3 (g2.trans R2 g3) R3 (g3.env R2 hE2)
abbrev forR (ri : Env → Sto → Option (Src × Sto)) (t : T) (body : Env → Sto → Option ((Fl × Env) × Sto)) : Env → Sto → Option ((Fl × Env) × Sto) := fun env s => bnd (ri env s) fun g s => bnd (forL body t g g.items env (lockS g s)) fun r s1 => some (r, unlockS g s s1)
theorem for_weak {σ : L2.St} {H : Hp} {D : Ends} (h : tSD X (forR ri t r1) D σ H) : tFor (iD X ri) (gD X t) (tSD X r1) (opnE X D) σ H := by
  obtain ⟨ι, env, s, r, s', hE, R, e, q⟩ := h
  obtain ⟨g, s1, e1, e⟩ := bnd_eq_some.mp e
  obtain ⟨rF, sF, e2, e⟩ := bnd_eq_some.mp e
  simp only [Option.some.injEq, Prod.mk.injEq] at e
  obtain ⟨rfl, rfl⟩ := e
  refine ⟨ι, env, s, g, s1, hE, R, e1, fun J H1 ι1 g1 R1 lk io => ?_⟩
  -- an end of the loop
  have fin : ∀ {ι5 : List Addr} {H5 : Hp}, Go ι1 ι5 H1 H5 → Rep X.prog X.w X.K ι5 H5 sF → RetS X ι5 H5 (opnE X D) rF sF := fun {ι5 H5} g5 R5 => by
    obtain ⟨f, envF⟩ := rF
    cases f with
    | nx => exact fun σ6 H6 ι6 g6 R6 hE6 => opn_of R1 lk (g1.trans R1 (g5.trans R5 g6)) (g5.trans R5 g6) R6 fun H' g' st R' _ => q σ6 H' ι6 g' R' ⟨hE6.len, fun i d e => let ⟨v, e', rd⟩ := hE6.slot i d e; ⟨v, e', rd.mono st fun _ _ e => e⟩⟩
    | bk => exact fun σ6 H6 ι6 g6 R6 hE6 => opn_of R1 lk (g1.trans R1 (g5.trans R5 g6)) (g5.trans R5 g6) R6 fun H' g' st R' _ => q σ6 H' ι6 g' R' ⟨hE6.len, fun i d e => let ⟨v, e', rd⟩ := hE6.slot i d e; ⟨v, e', rd.mono st fun _ _ e => e⟩⟩
    | ct => exact fun σ6 H6 ι6 g6 R6 hE6 => opn_of R1 lk (g1.trans R1 (g5.trans R5 g6)) (g5.trans R5 g6) R6 fun H' g' st R' _ => q σ6 H' ι6 g' R' ⟨hE6.len, fun i d e => let ⟨v, e', rd⟩ := hE6.slot i d e; ⟨v, e', rd.mono st fun _ _ e => e⟩⟩
    | rt d => exact fun v H6 ι6 g6 R6 rd => opn_of R1 lk (g1.trans R1 (g5.trans R5 g6)) (g5.trans R5 g6) R6 fun H' g' st R' _ => q v H' ι6 g' R' (rd.mono st fun _ _ e => e)
  refine ⟨fun i m σ2 H2 => m = g.items.length - i ∧ ∃ ι2 env2 s2, Go ι1 ι2 H1 H2 ∧ RepE X.K ι2 H2 env2 σ2 ∧ Rep X.prog X.w X.K ι2 H2 s2 ∧ forL r1 t g (g.items.drop i) env2 s2 = some (rF, sF),
    ⟨g.items.length, by simp, ι1, env, lockS g s1, Go.refl, g1.env R hE, R1, by simpa using e2⟩, ?_⟩
  rintro i m σ2 H2 ⟨rfl, ι2, env2, s2, g2, hE2, R2, ec⟩
  by_cases hi : i < g.items.length
  · have hd : g.items[i]? = some g.items[i] := List.getElem?_eq_getElem hi
    rw [List.drop_eq_getElem_cons hi, forL] at ec
    split at ec
    rotate_left
    · cases ec
    rename_i hok
    simp only [Option.bind_eq_some_iff] at ec
    obtain ⟨env3, e3, ec⟩ := ec
    obtain ⟨⟨f, env4⟩, s4, e4, ec⟩ := bnd_eq_some.mp ec
    obtain ⟨st1, st2⟩ := io.step ι2 H2 s2 g2 R2 hok i
    obtain ⟨go1, yl⟩ := st1 _ hd
    refine .inr ⟨go1, fun σ3 H3 => ∃ ι3 env3 s3, Go ι1 ι3 H1 H3 ∧ RepE X.K ι3 H3 env3 σ3 ∧ Rep X.prog X.w X.K ι3 H3 s3 ∧ forL r1 t g (g.items.drop (i + 1)) env3 s3 = some (rF, sF),
      fun σ3 H3 h3 => ⟨g.items.length - (i + 1), by omega, rfl, h3⟩, fun x H3 y => ?_⟩
    obtain ⟨g3, R3, rx⟩ := yl x H3 y
    refine ⟨ι2, env2, s2, _, env3, g3.env R2 hE2, R3, rx, e3, fun σ3 hE3 _ _ => ?_⟩
    have g23 := g2.trans R2 g3
    refine ⟨ι2, env3, s2, (f, env4), s4, hE3, R3, e4, ?_⟩
    cases f with
    | nx => exact fun σ5 H5 ι5 g5 R5 hE5 => ⟨ι5, env4, s4, g23.trans R3 g5, hE5, R5, ec⟩
    | ct => exact fun σ5 H5 ι5 g5 R5 hE5 => ⟨ι5, env4, s4, g23.trans R3 g5, hE5, R5, ec⟩
    | bk =>
      simp only [Option.some.injEq, Prod.mk.injEq] at ec
      obtain ⟨rfl, rfl⟩ := ec
      exact fun σ5 H5 ι5 g5 R5 hE5 => fin (g23.trans R3 g5) R5 σ5 H5 ι5 Go.refl R5 hE5
    | rt d =>
      simp only [Option.some.injEq, Prod.mk.injEq] at ec
      obtain ⟨rfl, rfl⟩ := ec
      exact fun v H5 ι5 g5 R5 rd => fin (g23.trans R3 g5) R5 v H5 ι5 Go.refl R5 rd
  · rw [List.drop_eq_nil_of_le (by omega), forL] at ec
    split at ec
    rotate_left
    · cases ec
    rename_i hok
    simp only [Option.some.injEq, Prod.mk.injEq] at ec
    obtain ⟨rfl, rfl⟩ := ec
    obtain ⟨st1, st2⟩ := io.step ι2 H2 s2 g2 R2 hok i
    exact .inl ⟨st2 (by omega), fin g2 R2 σ2 H2 ι2 Go.refl R2 hE2⟩
theorem ps_forD (G : Gd X) (hi : PI X tg iter (iD X ri)) (hg : PG X tg (gD X t)) (hb : PSs X sts (tSD X r1)) (hs : ∀ es k p, iter ≠ .Set es k p) : PS X (.For tg iter sts [] pos) (tSD X (forR ri t r1)) :=
  ⟨fun pins s σ H D I h => thn ((ps_for (by rw [G.xe]; exact PassesOwn.never) G.calm hi hg hb (folded_not hs)).run pins s σ H (opnE X D) I (for_weak h)) fun f s' h => opn_sp h⟩
end
end Ev
end

section
set_option autoImplicit false
set_option maxRecDepth 100000
set_option linter.unusedVariables false
/-! Ev19: dict displays -/
namespace Ev
open PySem L2 PySem.SeqAt PyProof.Rows PySem.Calls

section
variable {X : Cx} {pins : List (Addr × Obj)} {σ : L2.St} {H : Hp} {sh : Shared} {ι : List Addr} {s : Sto}
theorem dDictSet {E : Value → Shared → Prop} {Q : Unit → Shared → Prop} (hu : X.A.units + 200 < cLine) (I : Inv X pins σ H sh) {a : Addr} {u : HO} {kvs : List (D × D)} (hH : H a = some u) (h : DctAt X.prog X.w X.K ι H kvs a u) {k : D} (hf : keyFits kvs k = true) (hl : kvs.length < sizeLine)
    {vk : V} {uk : Value} (rk : RD X.K ι H k vk) (ru : RelV vk uk) {x : D} {vx : V} {ux : Value} (rx : RD X.K ι H x vx) (rux : RelV vx ux)
    (q : ∀ s' u', Inv X pins σ (upd H a u') s' → DctAt X.prog X.w X.K ι (upd H a u') (dput kvs k x) a u' → Q () s') : wpAny (model X.prog X.w) X.A (dictSet a uk ux) Q E sh := by
  obtain ⟨n1, n2, n3, mu⟩ := h.notTup
  have hT : ∀ u', Stay X.K H (upd H a u') := fun u' => stay_set hH n1 (fun q' vs' e => n2 _ _ e) (fun q' vs' e => n2 _ _ e)
  rcases keyFits_cases hf with ⟨kk, rfl, hk⟩ | ⟨ds, ks, rfl, hnk, hdp, hk⟩
  · obtain ⟨kv', vs, hp, rel, dd, hs, hlen⟩ := dictA I (.inl hH) h hk
    have := RD_dK rk; subst this
    have e1 := Paired.length hp
    have e2 := rel.length
    refine wpAny_dictSet_pairs (hsz := by omega) (kV_is ru) dd fun h' dd' hb => ?_
    have hp' : Paired (atomKV X.K ι (upd H a (.dK (putK kv' kk vx)))) (dput kvs (dK kk) x) (putK kv' kk vx) :=
      Paired.mapP (atom_put rx hp) fun p z ⟨h1, h2⟩ => ⟨h1, h2.mono (hT _) fun _ _ e => e⟩
    have hpl := length_putK kv' kk vx
    refine q _ (.dK (putK kv' kk vx)) (d_write I (by rw [hH]; exact mu) hb (let ⟨z, _, _, hz, _⟩ := dd'; ⟨z, hz⟩) ⟨by omega, hs, _, rel.put kk rux, dd'⟩) (.inl ⟨_, rfl, hp'⟩)
  · obtain ⟨xs, hp, dd, hs, hlen⟩ := dictN I (.inl hH) h hk
    have rk' := rk
    rw [RD] at rk'
    obtain ⟨b, ws, rfl, _, _⟩ := rk'
    cases ru
    have e1 := Paired.length hp
    have hroom : (nestedKind X.prog X.w).room X.A := by
      show X.A.units + 8 < cLine
      omega
    refine wpAny_dictSet_heap (hsz := hlen) hroom ⟨nestIs I rk rfl hnk, hdp⟩ dd fun h' dd' hb => ?_
    have hp0 : Paired (nestKV X.K ι H) (dput kvs (.tup ds) x) (storedH xs (.tup ks) b ux) := nest_put hnk hdp rk rux rx hp
    have hp' : Paired (nestKV X.K ι (upd H a (ndHO X.prog X.w a (storedH xs (.tup ks) b ux)))) (dput kvs (.tup ds) x) (storedH xs (.tup ks) b ux) :=
      Paired.mapP hp0 fun p z ⟨h1, h2, h3, v, h4, h5⟩ => ⟨h1, h2, h3.mono (hT _) (fun _ _ e => e), v, h4, h5.mono (hT _) fun _ _ e => e⟩
    obtain ⟨o, es, ep, ho, hc, hda, hes, _, hn⟩ := dd'
    have e3 := Paired.length hp0
    refine q _ (ndHO X.prog X.w a (storedH xs (.tup ks) b ux)) (d_write I (by rw [hH]; exact mu) hb ⟨o, ho⟩ (ndOk ⟨hs, o, es, ep, ho, hc, hda, hes⟩)) (.inr ⟨_, rfl, by
      have : (dput kvs (.tup ds) x).length ≤ kvs.length + 1 := by unfold dput; split <;> simp
      omega, hn, hp'⟩)
def flatV2 : List (V × V) → List V
  | [] => []
  | p :: r => p.1 :: p.2 :: flatV2 r
theorem stay_side {K : PySem.W.Frag} {H H' : Hp} {p : Addr} {u : HO} (hp : H p = some u) (n1 : ∀ vs, u ≠ .tup vs) (n2 : ∀ o v, u ≠ .frz o v) (same : ∀ a, a ≠ p → H' a = H a) : Stay K H H' := ⟨fun a vs q => by
  rcases q with ⟨o, q, z⟩ | q
  · exact .inl ⟨o, by rw [same a fun e => by subst e; rw [hp] at q; cases q; exact n2 _ _ rfl]; exact q, z⟩
  · exact .inr q, fun a vs q => by
  rcases q with ⟨o, q⟩ | q
  · exact .inl ⟨o, by rw [same a fun e => by subst e; rw [hp] at q; cases q; exact n2 _ _ rfl]; exact q⟩
  · exact .inr q⟩
theorem storeLoop (hu : X.A.units + 200 < cLine) {E : Value → Shared → Prop} {p : Addr} {kvs : List (D × D)} : ∀ (ws : List (Value × Value)) (ps : List (V × V)) (ds : List D) (acc : List (D × D)) (H : Hp) (sh : Shared) (u : HO) (Q : PUnit → Shared → Prop), VV ps ws → RDs X.K ι H ds (flatV2 ps) → pairUp acc ds = some kvs →
    Inv X pins σ H sh → H p = some u → DctAt X.prog X.w X.K ι H acc p u → (∀ sh' H' u', Inv X pins σ H' sh' → H' p = some u' → DctAt X.prog X.w X.K ι H' kvs p u' → (∀ a, a ≠ p → H' a = H a) → Q PUnit.unit sh') →
    wpAny (model X.prog X.w) X.A (forIn ws PUnit.unit fun (x : Value × Value) (_ : PUnit) => (do dictSet p x.1 x.2; pure (ForInStep.yield PUnit.unit) : Sem (ForInStep PUnit))) Q E sh
  | _, _, ds, acc, H, sh, u, Q, .nil, rd, e, I, hp, hd, q => by
    have rd : RDs X.K ι H ds [] := rd
    have hds : ds = [] := List.length_eq_zero_iff.mp rd.length.symm
    subst hds
    simp only [pairUp, Option.some.injEq] at e
    subst e
    rw [List.forIn_nil]
    exact wpAny_pure (q sh H u I hp hd fun _ _ => rfl)
  | _, _, ds, acc, H, sh, u, Q, .cons (a := p1) (b := w1) (l₁ := ps) (l₂ := ws) ⟨r1, r2⟩ t, rd, e, I, hp, hd, q => by
    have rd : RDs X.K ι H ds (p1.1 :: p1.2 :: flatV2 ps) := rd
    rcases ds with _ | ⟨k, _ | ⟨v, ds⟩⟩
    · exact absurd rd.length (by simp)
    · exact absurd rd.length (by simp)
    · rw [RDs_cons, RDs_cons] at rd
      obtain ⟨rk, rv, rd⟩ := rd
      simp only [pairUp] at e
      split at e
      rotate_left
      · cases e
      rename_i hc
      simp only [Bool.and_eq_true, decide_eq_true_eq] at hc
      obtain ⟨n1, n2, n3, mu⟩ := hd.notTup
      rw [List.forIn_cons]
      refine wpAny_bind (wpAny_bind (dDictSet hu I hp hd hc.1 (by rw [sizeLine_eq]; omega) rk r1 rv r2 fun s' u' I' hd' => wpAny_pure ?_))
      have st : Stay X.K H (upd H p u') := stay_set hp n1 (fun _ _ => n2 _ _) (fun _ _ => n2 _ _)
      refine storeLoop hu ws ps ds _ _ s' u' Q t (rd.mono st fun _ _ e => e) e I' upd_same hd' fun sh' H' u'' I'' hp'' hd'' same => q sh' H' u'' I'' hp'' hd'' fun a ha => (same a ha).trans (upd_ne ha)
end

/-- the pairs of a display, flat -/
structure PPf (X : Cx) (pos : Pos) (keys : List (Option Expr)) (values : List Expr) (t : TA) : Prop where
  run : ∀ (pins : List (Addr × Obj)) (s : Shared) (σ : L2.St) (H : Hp) (Q : List V → Hp → Prop), Inv X pins σ H s → t σ H Q →
    wpAny (model X.prog X.w) X.A (evalPairs (pairTrees keys values X.env pos)) (fun ws s' => ∃ ps H', Inv X pins σ H' s' ∧ VV ps ws ∧ Q (flatV2 ps) H') X.xe s
section
variable {X : Cx} {pos : Pos} {k v : Expr} {ks : List (Option Expr)} {vs : List Expr} {rk rv : Env → Sto → Option (D × Sto)} {rs : Env → Sto → Option (List D × Sto)}
theorem ppf_nil : PPf X pos [] [] (tEs X fun _ s => some ([], s)) := ⟨fun pins sh σ H Q I h => by
  obtain ⟨ι, env, s, d, s', hE, R, e, q⟩ := h
  cases e
  exact pairTrees_nil_walk ⟨[], H, I, .nil, q [] H ι Go.refl R (by rw [RDs])⟩⟩
theorem ppf_cons (hk : PE X k (tE X rk)) (hv : PE X v (tE X rv)) (hr : PPf X pos ks vs (tEs X rs)) :
    PPf X pos (some k :: ks) (v :: vs) (tEs X fun env s => bnd (rk env s) fun x s => bnd (rv env s) fun y s => bnd (rs env s) fun l s => some (x :: y :: l, s)) := ⟨fun pins sh σ H Q I h => by
  obtain ⟨ι, env, s, ds, s', hE, R, e, q⟩ := h
  obtain ⟨x, s1, e1, e⟩ := bnd_eq_some.mp e
  obtain ⟨y, s2, e2, e⟩ := bnd_eq_some.mp e
  obtain ⟨l, s3, e3, e⟩ := bnd_eq_some.mp e
  simp only [Option.some.injEq, Prod.mk.injEq] at e
  obtain ⟨rfl, rfl⟩ := e
  refine pairTrees_cons_walk (thn (hk.run pins sh σ H _ I (got_of hE R e1)) fun u sh1 ⟨vx, H1, I1, rx, ι1, g1, R1, rdx⟩ => ?_)
  refine thn (hv.run pins sh1 σ H1 _ I1 (got_of (g1.env R hE) R1 e2)) fun u2 sh2 ⟨vy, H2, I2, ry, ι2, g2, R2, rdy⟩ => ?_
  refine thn (hr.run pins sh2 σ H2 (fun l H' => Q (vx :: vy :: l) H') I2 ⟨ι2, env, s2, l, s3, g2.env R1 (g1.env R hE), R2, e3, fun vs' H' ι' g' R' rd' => ?_⟩) fun ws sh3 ⟨ps, H3, I3, rel, q3⟩ => ⟨(vx, vy) :: ps, H3, I3, .cons ⟨rx, ry⟩ rel, q3⟩
  exact q _ H' ι' ((g1.trans R1 g2).trans R2 g') R' (by rw [RDs_cons, RDs_cons]; exact ⟨g'.rd R2 (g2.rd R1 rdx), g'.rd R2 rdy, rd'⟩)⟩
theorem dctAt_nil {P : Program} {w : World} {K : PySem.W.Frag} {ι : List Addr} {H : Hp} {p : Addr} : DctAt P w K ι H [] p (.dK []) := .inl ⟨[], rfl, .nil⟩
theorem pe_dct0D : PE X (.Dict [] [] pos) (tE X fun env s => some (.ref s.length, s ++ [.dct []])) := ⟨fun pins sh σ H Q I h => by
  obtain ⟨ι, env, s, d, s', hE, R, e, q⟩ := h
  simp only [Option.some.injEq, Prod.mk.injEq] at e
  obtain ⟨rfl, rfl⟩ := e
  have hn := I.hok.fresh (Nat.le_refl sh.heap.objs.size)
  refine wpAny_Dict_empty ⟨.ref sh.heap.objs.size, _, I.laid (a := sh.heap.objs.size) (o := .dK []) (t' := sh.toks) (fun _ _ q => Heap.get?_push_of_some _ q) (Nat.le_refl _) (dk_empty sh.heap I.big), rfl, ?_⟩
  refine q _ _ (ι ++ [sh.heap.objs.size]) (Go.push hn) (R.push hn ⟨.dK [], upd_same, dctAt_nil⟩) ?_
  rw [RD]
  exact ⟨_, rfl, by rw [List.getElem?_append_right (by rw [R.len]; omega), R.len]; simp⟩⟩
theorem pe_dctD (G : Gd X) (hp : PPf X pos ks vs (tEs X rs)) (hall : ks.all (·.isSome) = true) (hl : ks.length = vs.length) (h0 : ks ≠ []) (h15 : ks.length ≤ 15) :
    PE X (.Dict ks vs pos) (tE X fun env s => bnd (rs env s) fun ds s => (pairUp [] ds).map fun kvs => (.ref s.length, s ++ [.dct kvs])) := ⟨fun pins sh σ H Q I h => by
  obtain ⟨ι, env, s, d, s', hE, R, e, q⟩ := h
  obtain ⟨ds, s1, e1, e⟩ := bnd_eq_some.mp e
  simp only [Option.map_eq_some_iff, Prod.mk.injEq] at e
  obtain ⟨kvs, e2, rfl, rfl⟩ := e
  have hn := I.hok.fresh (Nat.le_refl sh.heap.objs.size)
  have I1 := I.laid (a := sh.heap.objs.size) (o := .dK []) (h' := sh.heap.push { cls := .type "dict", data := .dict #[] }) (t' := sh.toks) (fun _ _ q => Heap.get?_push_of_some _ q) (Nat.le_refl _) (dk_empty sh.heap I.big)
  generalize hpa : sh.heap.objs.size = p at *
  have hnp := pairTrees_length ks vs X.env pos hall hl
  have h0' : pairTrees ks vs X.env pos ≠ [] := fun z => by
    rw [z] at hnp
    exact h0 (List.length_eq_zero_iff.mp hnp.symm)
  rw [arm_eval_Dict, zip_pairTrees ks vs X.env pos hall hl, dictDisplay_pairs _ h0' (by omega)]
  refine wpAny_bind (wpAny_standAt (wpAny_bind ?_))
  unfold subDict
  refine wpAny_bind (wpAny_alloc ?_)
  rw [hpa]
  refine wpAny_bind (wpAny_holding ?_)
  rw [if_pos (by omega)]
  have gn : Go ι ι H (upd H p (.dK [])) := Go.new hn
  have pι : p ∉ ι := R.notNone hn
  refine wpAny_bind (thn (hp.run pins _ σ _ (fun vs H' => ∃ ι', Go ι ι' (upd H p (.dK [])) H' ∧ Rep X.prog X.w X.K ι' H' s1 ∧ RDs X.K ι' H' ds vs) I1 ⟨ι, env, s, ds, s1, gn.env R hE, R.new hn, e1, fun vs' H' ι' g' R' rd' => ⟨ι', g', R', rd'⟩⟩) fun ws sh2 ⟨ps, H2, I2, rel, ι2, g2, R2, rd⟩ => ?_)
  refine wpAny_holding (wpAny_bind ?_)
  have hA : H2 p = some (.dK []) := g2.keep p _ upd_same pι
  have pι2 : p ∉ ι2 := fun z => by
    obtain ⟨new, e, hnew⟩ := g2.pre
    rw [e] at z
    rcases List.mem_append.mp z with z | z
    · exact pι z
    · have := hnew p z
      rw [upd_same] at this; cases this
  refine storeLoop (ι := ι2) G.units ws ps ds [] H2 sh2 (.dK []) _ rel rd e2 I2 hA dctAt_nil fun sh3 H3 u3 I3 hp3 hd3 same => ?_
  refine wpAny_pure (wpAny_pure (wpAny_pure ⟨.ref p, H3, I3, rfl, ?_⟩))
  have st : Stay X.K H2 H3 := stay_side hA (fun _ z => nomatch z) (fun _ _ z => nomatch z) same
  have hix : ∀ (i : Nat) (a : Addr), ι2[i]? = some a → (ι2 ++ [p])[i]? = some a := fun i a e => by
    rw [List.getElem?_append_left (List.getElem?_eq_some_iff.mp e).1]; exact e
  refine q _ H3 (ι2 ++ [p]) ⟨?_, fun a o e na => ?_, fun a o u e => ?_⟩ ⟨by simp [R2.len], List.nodup_append.mpr ⟨R2.nd, by simp, fun a ha b hb => ?_⟩, fun j c a e e' => ?_⟩ ?_
  · obtain ⟨new, e, hnew⟩ := g2.pre
    refine ⟨new ++ [p], by rw [e, List.append_assoc], fun a ha => ?_⟩
    rcases List.mem_append.mp ha with ha | ha
    · have := hnew a ha
      have hne : a ≠ p := fun z => by subst z; rw [upd_same] at this; cases this
      rw [upd_ne hne] at this
      exact this
    · rw [List.mem_singleton] at ha; subst ha; exact hn
  · have hne := ne_of_none e hn
    rw [same a hne]
    exact g2.keep a o (by rw [upd_ne hne]; exact e) na
  · have hne := ne_of_none e hn
    rw [same a hne]
    exact g2.frz a o u (by rw [upd_ne hne]; exact e)
  · rw [List.mem_singleton] at hb; subst hb; intro z; exact pι2 (z ▸ ha)
  · by_cases hj : j < s1.length
    · rw [List.getElem?_append_left hj] at e
      rw [List.getElem?_append_left (by rw [R2.len]; exact hj)] at e'
      exact (R2.cell j c a e e').mono st hix (same a fun z => pι2 (z ▸ List.mem_of_getElem? e'))
    · rw [List.getElem?_append_right (by omega)] at e
      rw [List.getElem?_append_right (by rw [R2.len]; omega)] at e'
      have h1 : j - s1.length = 0 := by
        have := (List.getElem?_eq_some_iff.mp e).1
        simp at this
        omega
      have h2 : j - ι2.length = 0 := by rw [R2.len]; exact h1
      rw [h1] at e; rw [h2] at e'
      simp at e e'
      subst e e'
      exact ⟨u3, hp3, hd3.mono ⟨fun _ _ e => e, fun _ _ e => e⟩ hix⟩
  · rw [RD]
    exact ⟨p, rfl, by rw [List.getElem?_append_right (by rw [R2.len]; omega), R2.len]; simp⟩⟩
end
end Ev
end

section
set_option autoImplicit false
set_option maxRecDepth 100000
set_option linter.unusedVariables false
/-! Ev20: calls of defs; the compiler's facts about a context -/
namespace Ev
open PySem L2 PySem.SeqAt PyProof.Rows PySem.Calls

/-- a def's promise: sp, called with values, under no guard -/
def FnG (P : Program) (w : World) (K : PySem.W.Frag) (mg : Str → Option Value) (base : Heap) (n : Nat) (f : Addr) (sp : List V → Hp → VK → Prop) : Prop :=
  ∀ (A : Around) (outer : List PySem.Env) (s : Shared) (H : Hp) (us : List Value) (vs : List V) (Q : VK), Room n A → A.guards = some [] → Env0 P w K mg base A outer s H → Vals vs us → sp vs H Q →
    codeAny (model P w) A (.call (.ref f) ⟨us, []⟩) (CR (fun _ _ _ _ _ _ => False) outer P w H s Q (fun _ _ _ => False)) s

section
variable {X : Cx}
theorem callR_fn {n : Nat} {f : Addr} {sp : List V → Hp → VK → Prop} (G : Gd X) (hr : Room n X.A) (F : FnG X.prog X.w X.K X.mg X.base n f sp) : CallR X (.ref f) sp := by
  intro pins s σ H xs us Q I r h
  refine wpAny_call (codeAny_mono (F X.A X.stack s H us xs Q hr G.guards I.env0 r h) fun r s' hq => ?_)
  cases r with
  | error e => exact hq.elim
  | ok fl =>
    cases fl with
    | ret u => exact I.after hq
    | next => exact False.elim hq
    | brk => exact False.elim hq
    | cont => exact False.elim hq
theorem pe_callG {f : Addr} {r : List V → Hp → VK → Prop} {x : Str} {p pos : Pos} {e : Expr} {es : List Expr} {t : TA} (hc : CallR X (.ref f) r) (hg : Gl X x) (hm : X.mg x = some (.ref f)) (hk : PySem.W.keepIn X.K (.ref f) = true)
    (ha : PA X (e :: es) t) (hdb : (x == ("__debug__" : Str)) = false) (he : starEach (e :: es) X.env = (false, eval e X.env) :: starEach es X.env) (hpl : (backTo pos (starEach es X.env)).any (·.1) = false) :
    PE X (.Call (.Name x p) (e :: es) [] pos) (tCB r t) := by
  refine ⟨fun pins s σ H Q I h => ?_⟩
  refine wpAny_Call_Name_kw (ld_glob I hg hm ?_ hdb)
  exact PySem.W.callWith_K (h₀ := X.base) I.ok.mod.kin hk (thn (ha.run pos pins s σ H _ I h) fun us s1 ⟨vs, H1, I1, r, q⟩ => ⟨I1.kIn, hc pins s1 σ H1 vs us Q I1 r q⟩) he hpl
theorem pe_callG0 {f : Addr} {r : List V → Hp → VK → Prop} {x : Str} {p pos : Pos} (hc : CallR X (.ref f) r) (hg : Gl X x) (hm : X.mg x = some (.ref f)) (hk : PySem.W.keepIn X.K (.ref f) = true)
    (hdb : (x == ("__debug__" : Str)) = false) : PE X (.Call (.Name x p) [] [] pos) (tCB r tNil) := by
  refine ⟨fun pins s σ H Q I h => ?_⟩
  refine wpAny_Call_Name_kw (ld_glob I hg hm ?_ hdb)
  exact PySem.W.callWith_K0 I.kIn hk (hc pins s σ H [] [] Q I .nil h)
end

/-- the built-ins that the compiler knows -/
def bltns : List Str := ["len", "int", "abs", "tuple", "list", "sorted", "sum", "all", "any", "max", "min", "repr", "range", "dict"]
/-- the context is as the compiler takes it -/
structure Sim (cl : Str → List D → Sto → Option (D × Sto)) (gl : Str → Option D) (k : Cc) (sc : Scope) (X : Cx) : Prop where
  sc : X.env.scope = sc
  N : X.N = k.N
  gd : Gd X
  fn : k.top = true → ∀ x, X.fn x = true
  nob : ∀ x ∈ bltns, X.mg x = none
  calls : ∃ n, Room n X.A ∧ ∀ f, k.own f = true → ∃ fa, X.mg f = some (.ref fa) ∧ PySem.W.keepIn X.K (.ref fa) = true ∧ FnG X.prog X.w X.K X.mg X.base n fa (rCal X.prog X.w X.K (cl f))
  gls : ∀ x, k.gls x = true → ∀ d, gl x = some d → ∃ u v, X.mg x = some u ∧ RelV v u ∧ ∀ ι H, RD X.K ι H d v
section
variable {cl : Str → List D → Sto → Option (D × Sto)} {gl : Str → Option D} {k : Cc} {sc : Scope} {X : Cx}
theorem Sim.blk (S : Sim cl gl k sc X) (s : Shared) (H : Hp) (scope : Scope) (C : Addr) (l : List (Str × Addr)) (fp : List Addr) : Sim cl gl { k with top := false } (L2.relS scope sc) (X.blk s H scope (compEnvC scope l C X.env) fp) := by
  refine ⟨?_, S.N, ⟨S.gd.calm, S.gd.units, S.gd.guards, S.gd.nd, rfl⟩, fun z => (nomatch z), S.nob, S.calls, S.gls⟩
  have := S.sc
  subst this
  rfl
theorem slotOf_ok {x : Str} {i : Nat} (S : Sim cl gl k sc X) (h : slotOf k x = some i) : X.N[i]? = some x := by
  unfold slotOf at h
  rw [List.findIdx?_eq_some_iff_getElem] at h
  obtain ⟨hi, h1, _⟩ := h
  rw [S.N, List.getElem?_eq_getElem hi]
  simpa using h1
theorem varOf_ok {x : Str} {i : Nat} (S : Sim cl gl k sc X) (h : varOf k sc x = some i) : X.N[i]? = some x ∧ Vis X.env.scope x := by
  unfold varOf at h
  rw [S.sc]
  unfold Vis
  split at h
  · rename_i e; exact ⟨slotOf_ok S h, .inl e⟩
  · rename_i e; exact ⟨slotOf_ok S h, .inr (.inl e)⟩
  · rename_i e; exact ⟨slotOf_ok S h, .inr (.inr e)⟩
  · cases h
theorem isGl_ok {x : Str} (S : Sim cl gl k sc X) (h : isGl sc x = true) : Gl X x ∧ (x == ("__debug__" : Str)) = false := by
  unfold isGl at h
  split at h
  · rename_i e
    refine ⟨?_, by simpa using h⟩
    show X.env.scope.names.lookup x = _
    rw [S.sc]
    exact e
  · cases h
theorem okName_ok {x : Str} (h : okName x = true) : (x == ("__debug__" : Str)) = false ∧ (x == ("__classdict__" : Str)) = false := by
  unfold okName at h
  simpa using h
/-! ### a call of a built-in -/
def bVal : B → Value
  | .len => .builtin "len" | .int => .type "int" | .abs => .builtin "abs" | .tuple => .type "tuple" | .list => .type "list" | .sorted => .builtin "sorted" | .sum => .builtin "sum" | .all => .builtin "all"
  | .any => .builtin "any" | .max => .builtin "max" | .min => .builtin "min" | .repr => .builtin "repr" | .dict => .type "dict" | _ => .none
theorem bTab_ok : ∀ p ∈ bTab, p.1 ∈ bltns ∧ bootBuiltins p.1 = some (bVal p.2) ∧ p.1 ≠ "__name__" ∧ (p.1 == ("__debug__" : Str)) = false := by
  intro p hp
  simp only [bTab, List.mem_cons, List.not_mem_nil, or_false] at hp
  rcases hp with rfl | rfl | rfl | rfl | rfl | rfl | rfl | rfl | rfl | rfl | rfl | rfl | rfl <;> exact ⟨by decide +kernel, by kernel_rfl, by decide +kernel, by decide +kernel⟩
theorem bOf_ok {x : Str} {b : B} (h : bOf x = some b) : x ∈ bltns ∧ bootBuiltins x = some (bVal b) ∧ x ≠ "__name__" ∧ (x == ("__debug__" : Str)) = false :=
  bTab_ok (x, b) (PySem.mem_of_lookup h)
theorem mTab_ok : ∀ p ∈ mTab, Slot (mTy p.2) p.1 (mId p.2) ∧ typeOf (.builtin (mId p.2)) = pure (.type "method_descriptor") := by
  intro p hp
  simp only [mTab, List.mem_cons, List.not_mem_nil, or_false] at hp
  rcases hp with rfl | rfl | rfl | rfl
  · exact ⟨PySem.F.slot_list_append, PySem.F.type_list_append⟩
  · exact ⟨PySem.F.slot_list_extend, PySem.F.type_list_extend⟩
  · exact ⟨PySem.F.slot_list_pop, PySem.F.type_list_pop⟩
  · exact ⟨PySem.F.slot_dict_get, PySem.F.type_dict_get⟩
theorem mOf_ok {x : Str} {m : Mt} (h : mOf x = some m) : Slot (mTy m) x (mId m) ∧ typeOf (.builtin (mId m)) = pure (.type "method_descriptor") := mTab_ok (x, m) (PySem.mem_of_lookup h)
theorem pe_bifD (S : Sim cl gl k sc X) {x : Str} {b : B} (hb : bOf x = some b) (hg : Gl X x) {p pos : Pos} {e : Expr} {es : List Expr} {rs : Env → Sto → Option (List D × Sto)} (ha : PA X (e :: es) (tEs X rs)) (hst : ∀ y ∈ e :: es, ∀ z p, y ≠ Expr.Starred z p) :
    PE X (.Call (.Name x p) (e :: es) [] pos) (tE X fun env s => bnd (rs env s) fun ds s => bifD b ds s) := by
  obtain ⟨h1, h2, h3, h4⟩ := bOf_ok hb
  have hm := S.nob x h1
  have G := S.gd
  have s1 := star_plain (hst e (List.mem_cons_self ..)) es X.env
  have s2 := star_none pos (es := es) X.env fun y hy => hst y (List.mem_cons_of_mem _ hy)
  cases b with
  | len => exact (pe_callB (call_lenD G) hg hm h2 ha h3 h4 s1 s2).weak cb_weak
  | int => exact (pe_callTy (call_intD G) hg hm h2 ha h3 h4 s1 s2).weak cb_weak
  | abs => exact (pe_callB (call_absD G) hg hm h2 ha h3 h4 s1 s2).weak cb_weak
  | tuple => exact (pe_callTy (call_tupleD G) hg hm h2 ha h3 h4 s1 s2).weak cb_weak
  | list => exact (pe_callTy (call_listD G) hg hm h2 ha h3 h4 s1 s2).weak cb_weak
  | sorted => exact (pe_callB (call_sortedD G.calm G.units) hg hm h2 ha h3 h4 s1 s2).weak cb_weak
  | sum => exact (pe_callB (call_sumD G) hg hm h2 ha h3 h4 s1 s2).weak cb_weak
  | all => exact (pe_callB (call_allD G) hg hm h2 ha h3 h4 s1 s2).weak cb_weak
  | any => exact (pe_callB (call_anyD G) hg hm h2 ha h3 h4 s1 s2).weak cb_weak
  | max => exact (pe_callB (call_maxD G) hg hm h2 ha h3 h4 s1 s2).weak cb_weak
  | min => exact (pe_callB (call_minD G) hg hm h2 ha h3 h4 s1 s2).weak cb_weak
  | repr => exact (pe_callB (call_reprD G) hg hm h2 ha h3 h4 s1 s2).weak cb_weak
  | dict => exact (pe_callTy (call_dictD' G.calm G.units) hg hm h2 ha h3 h4 s1 s2).weak cb_weak
  | _ =>
    have := PySem.mem_of_lookup (show bTab.lookup x = some _ from hb)
    simp [bTab] at this
theorem pe_callD (S : Sim cl gl k sc X) {x : Str} (ho : k.own x = true) (hg : Gl X x) (hdb : (x == ("__debug__" : Str)) = false) {p pos : Pos} {es : List Expr} {rs : Env → Sto → Option (List D × Sto)} (ha : PA X es (tEs X rs)) (h0 : es = [] → rs = fun _ s => some ([], s)) (hst : ∀ y ∈ es, ∀ z p, y ≠ Expr.Starred z p) :
    PE X (.Call (.Name x p) es [] pos) (tE X fun env s => bnd (rs env s) fun ds s => cl x ds s) := by
  obtain ⟨n, hr, hf⟩ := S.calls
  obtain ⟨fa, hm, hk, F⟩ := hf x ho
  have hc := callR_fn S.gd hr F
  cases es with
  | nil =>
    refine (pe_callG0 hc hg hm hk hdb).weak fun σ H Q h => ?_
    rw [h0 rfl] at h
    obtain ⟨ι, env, s, d, s', hE, R, e, q⟩ := h
    exact ⟨ι, s, [], d, s', R, by rw [RDs], e, q⟩
  | cons e es =>
    exact (pe_callG hc hg hm hk ha hdb (star_plain (hst e (List.mem_cons_self ..)) es X.env) (star_none pos (es := es) X.env fun y hy => hst y (List.mem_cons_of_mem _ hy))).weak cb_weak
theorem base_plain {o : Expr} {name : Str} (h : isCall0 o = false) : attributeBase o name X.env (eval o X.env) = eval o X.env := by
  unfold attributeBase
  cases o with
  | Call f es kws p =>
    cases f with
    | Name x q =>
      cases es with
      | nil =>
        cases kws with
        | nil => simp [isCall0] at h
        | cons a l => rfl
      | cons a l => rfl
    | _ => rfl
  | _ => rfl
/-! ### loops -/
theorem pi_rangeD1 (S : Sim cl gl k sc X) {tg a : Expr} {ra : Env → Sto → Option (D × Sto)} {p pos : Pos} (hg : Gl X "range") (ha : PE X a (tE X ra)) (hp : ∀ z p, a ≠ Expr.Starred z p) : PI X tg (.Call (.Name "range" p) [a] [] pos) (iD X fun env s => bnd (ra env s) fun x s => match x with
    | .int hi => (srcRange 0 hi).map fun g => (g, s)
    | _ => none) := by
  have hm := S.nob "range" (by decide)
  refine ⟨fun pins sh σ H R I h => ?_⟩
  obtain ⟨ι, env, s, g, s', hE, RR, e, q⟩ := h
  obtain ⟨x, s1, e1, e2⟩ := bnd_eq_some.mp e
  split at e2
  rotate_left
  · cases e2
  rename_i hi
  simp only [Option.map_eq_some_iff, Prod.mk.injEq] at e2
  obtain ⟨g', e2, rfl, rfl⟩ := e2
  have hb := e2
  unfold srcRange at hb
  split at hb
  rotate_left
  · cases hb
  rename_i hc
  refine (pi_range1 hg hm (pa_consD ha pa_nilD hp) (star_plain hp [] X.env)).run pins sh σ H R I ⟨ι, env, s, [.int hi], s1, hE, RR, by simp [e1], fun vs H1 ι1 g1 R1 rd => ?_⟩
  rw [RDs] at rd
  obtain ⟨v, r, rfl, h1, h2⟩ := rd
  rw [RDs] at h2
  rw [RD] at h1
  subst h1 h2
  refine ⟨hi, rfl, hc.2.2.1, hc.2.2.2, ?_⟩
  have hl : g'.lock = none := by cases hb; rfl
  have io := itOk_range (P := X.prog) (w := X.w) (K := X.K) (ι1 := ι1) (H1 := H1) e2
  rw [Int.sub_zero] at io
  exact q _ H1 ι1 g1 (by rw [rep_lock_none hl]; exact R1) (fun _ z => by rw [hl] at z; cases z) io
theorem pi_rangeD2 (S : Sim cl gl k sc X) {tg a b : Expr} {ra rb : Env → Sto → Option (D × Sto)} {p pos : Pos} (hg : Gl X "range") (ha : PE X a (tE X ra)) (hb' : PE X b (tE X rb)) (hp : ∀ z p, a ≠ Expr.Starred z p) (hp' : ∀ z p, b ≠ Expr.Starred z p) :
    PI X tg (.Call (.Name "range" p) [a, b] [] pos) (iD X fun env s => bnd (ra env s) fun x s => bnd (rb env s) fun y s => match x, y with
    | .int lo, .int hi => (srcRange lo hi).map fun g => (g, s)
    | _, _ => none) := by
  have hm := S.nob "range" (by decide)
  refine ⟨fun pins sh σ H R I h => ?_⟩
  obtain ⟨ι, env, s, g, s', hE, RR, e, q⟩ := h
  obtain ⟨x, s1, e1, e2⟩ := bnd_eq_some.mp e
  obtain ⟨y, s2, e3, k2⟩ := bnd_eq_some.mp e2
  split at k2
  rotate_left
  · cases k2
  rename_i lo hi
  simp only [Option.map_eq_some_iff, Prod.mk.injEq] at k2
  obtain ⟨g', k2, rfl, rfl⟩ := k2
  have hb := k2
  unfold srcRange at hb
  split at hb
  rotate_left
  · cases hb
  rename_i hc
  refine (pi_range2 hg hm (pa_consD ha (pa_consD hb' pa_nilD hp') hp) (by rw [star_plain hp, star_plain hp']; rfl) (star_plain hp' [] X.env)).run pins sh σ H R I ⟨ι, env, s, [.int lo, .int hi], s2, hE, RR, by simp [e1, e3], fun vs H1 ι1 g1 R1 rd => ?_⟩
  rw [RDs] at rd
  obtain ⟨v, r, rfl, h1, h2⟩ := rd
  rw [RDs] at h2
  obtain ⟨v2, r2, rfl, h2, h3⟩ := h2
  rw [RDs] at h3
  rw [RD] at h1 h2
  subst h1 h2 h3
  refine ⟨lo, hi, rfl, hc, ?_⟩
  have hl : g'.lock = none := by cases hb; rfl
  exact q _ H1 ι1 g1 (by rw [rep_lock_none hl]; exact R1) (fun _ z => by rw [hl] at z; cases z) (itOk_range k2)
end
end Ev
end

section
set_option autoImplicit false
set_option maxRecDepth 100000
set_option linter.unusedVariables false
/-! Ev21: what the compiler makes of expressions runs as they do -/
namespace Ev
open PySem L2 PySem.SeqAt PyProof.Rows PySem.Calls

structure EOk (X : Cx) (e : Expr) (x : E) (run : Env → Sto → Option (D × Sto)) : Prop where
  pe : PE X e (tE X run)
  pt : PT X e (tET X run)
  pw : ∀ op es pos, e = .BoolOp op es pos → PW X e (tET X run)
  st : ∀ a p, e ≠ .Starred a p
  sl : ∀ lo hi s p, e ≠ .Slice lo hi s p
  se : ∀ es k p, e ≠ .Set es k p
  xs : x.isStar = false
structure LOk (cl : Str → List D → Sto → Option (D × Sto)) (gl : Str → Option D) (X : Cx) (elt tg it : Expr) (ifs : List Expr) (scope : Scope) (r : List Nat × T × Ev.It × E × Option E) : Prop where
  own : ∃ own : List (Str × Nat), r.1 = own.map (·.2) ∧ BlkOk X.N X.env.scope scope own
  sub : ∀ i ∈ r.2.1.slots, i ∈ r.1
  iter : PI X tg it (iD X (evI cl gl r.2.2.1))
  se : ∀ es k p, it ≠ Expr.Set es k p
  tgt : ∀ (s : Shared) (H : Hp) (C : Addr) (l : List (Str × Addr)) (fp : List Addr), PG (X.blk s H scope (compEnvC scope l C X.env) fp) tg (gD X r.2.1)
  elt : ∀ (s : Shared) (H : Hp) (C : Addr) (l : List (Str × Addr)) (fp : List Addr), PE (X.blk s H scope (compEnvC scope l C X.env) fp) elt (tE X (evE cl gl r.2.2.2.1))
  ifs : ∀ (s : Shared) (H : Hp) (C : Addr) (l : List (Str × Addr)) (fp : List Addr), PTs (X.blk s H scope (compEnvC scope l C X.env) fp) ifs (tET X (evC cl gl r.2.2.2.2))
structure Ok (cl : Str → List D → Sto → Option (D × Sto)) (gl : Str → Option D) (n : Nat) : Prop where
  e : ∀ {k : Cc} {sc : Scope} {X : Cx} {e : Expr} {x : E}, Sim cl gl k sc X → cE k n sc e = some x → EOk X e x (evE cl gl x)
  lc : ∀ {k : Cc} {sc : Scope} {X : Cx} {elt tg it : Expr} {ifs : List Expr} {scope : Scope} {r : List Nat × T × Ev.It × E × Option E}, Sim cl gl k sc X → cLC k n sc elt tg it ifs scope = some r → LOk cl gl X elt tg it ifs scope r
  es : ∀ {k : Cc} {sc : Scope} {X : Cx} {es : List Expr} {xs : List E}, Sim cl gl k sc X → cEs k n sc es = some xs → PA X es (tEs X (evEs cl gl xs))
  as : ∀ {k : Cc} {sc : Scope} {X : Cx} {es : List Expr} {xs : List E}, Sim cl gl k sc X → cAs k n sc es = some xs → PA X es (tEs X (evEs cl gl xs)) ∧ (∀ e ∈ es, ∀ a p, e ≠ Expr.Starred a p) ∧ (es = [] → xs = [])
  ps : ∀ {k : Cc} {sc : Scope} {X : Cx} {ks : List (Option Expr)} {vs : List Expr} {xs : List E} (pos : Pos), Sim cl gl k sc X → cPs k n sc ks vs = some xs → PPf X pos ks vs (tEs X (evEs cl gl xs))
  o : ∀ {k : Cc} {sc : Scope} {X : Cx} {e : Option Expr} {x : Option E}, Sim cl gl k sc X → cO k n sc e = some x → PO X e (tPO X (evO cl gl x))
  i : ∀ {k : Cc} {sc : Scope} {X : Cx} {tg e : Expr} {x : Ev.It}, Sim cl gl k sc X → cI k n sc tg e = some x → PI X tg e (iD X (evI cl gl x)) ∧ ∀ es k p, e ≠ .Set es k p

section
variable {cl : Str → List D → Sto → Option (D × Sto)} {gl : Str → Option D}
theorem evEs_cons {x : E} {xs : List E} (h : x.isStar = false) : evEs cl gl (x :: xs) = fun env s => bnd (evE cl gl x env s) fun d s => bnd (evEs cl gl xs env s) fun ds s => some (d :: ds, s) := by
  funext env s
  rw [evEs]
  simp [h]
theorem evEs_nil : evEs cl gl [] = fun env s => some ([], s) := by funext env s; rw [evEs] <;> rfl
theorem evEs_star {x : E} {xs : List E} : evEs cl gl (.star x :: xs) = fun env s => bnd (bnd (evE cl gl x env s) fun x s => (itemsD x s).map fun ds => (D.tup ds, s)) fun d s => bnd (evEs cl gl xs env s) fun ds s => some (d.spl ++ ds, s) := by
  funext env s
  rw [evEs]
  simp only [evE, E.isStar, if_true]
theorem ok_es {n : Nat} (ih : Ok cl gl n) {k : Cc} {sc : Scope} {X : Cx} : ∀ {es : List Expr} {xs : List E}, Sim cl gl k sc X → cEs k (n + 1) sc es = some xs → PA X es (tEs X (evEs cl gl xs))
  | [], xs, S, h => by
    simp only [cEs, Option.some.injEq] at h
    subst h
    rw [evEs_nil]
    exact pa_nilD
  | e :: es, xs, S, h => by
    by_cases hs : ∃ a p, e = .Starred a p
    · obtain ⟨a, p, rfl⟩ := hs
      simp only [cEs, Option.bind_eq_some_iff, Option.map_eq_some_iff] at h
      obtain ⟨x, h1, ys, h2, rfl⟩ := h
      rw [evEs_star]
      exact pa_starD (ih.e S h1).pe (ih.es S h2)
    · have h' : ((cE k n sc e).bind fun x => (cEs k n sc es).map fun xs => x :: xs) = some xs := by
        rw [← h, cEs]
        intro a p z
        exact hs ⟨a, p, z⟩
      simp only [Option.bind_eq_some_iff, Option.map_eq_some_iff] at h'
      obtain ⟨x, h1, ys, h2, rfl⟩ := h'
      have E1 := ih.e S h1
      rw [evEs_cons E1.xs]
      exact pa_consD E1.pe (ih.es S h2) E1.st
theorem ok_as {n : Nat} (ih : Ok cl gl n) {k : Cc} {sc : Scope} {X : Cx} : ∀ {es : List Expr} {xs : List E}, Sim cl gl k sc X → cAs k (n + 1) sc es = some xs → PA X es (tEs X (evEs cl gl xs)) ∧ (∀ e ∈ es, ∀ a p, e ≠ Expr.Starred a p) ∧ (es = [] → xs = [])
  | [], xs, S, h => by
    simp only [cAs, Option.some.injEq] at h
    subst h
    rw [evEs_nil]
    exact ⟨pa_nilD, (fun e he => by cases he), fun _ => rfl⟩
  | e :: es, xs, S, h => by
    simp only [cAs, Option.bind_eq_some_iff, Option.map_eq_some_iff] at h
    obtain ⟨x, h1, ys, h2, rfl⟩ := h
    have E1 := ih.e S h1
    obtain ⟨a1, a2, _⟩ := ih.as S h2
    rw [evEs_cons E1.xs]
    refine ⟨pa_consD E1.pe a1 E1.st, fun y hy => ?_, fun z => by cases z⟩
    rcases List.mem_cons.mp hy with rfl | hy
    · exact E1.st
    · exact a2 y hy
theorem ok_ps {n : Nat} (ih : Ok cl gl n) {k : Cc} {sc : Scope} {X : Cx} (pos : Pos) : ∀ {ks : List (Option Expr)} {vs : List Expr} {xs : List E}, Sim cl gl k sc X → cPs k (n + 1) sc ks vs = some xs → PPf X pos ks vs (tEs X (evEs cl gl xs))
  | [], [], xs, S, h => by
    simp only [cPs, Option.some.injEq] at h
    subst h
    rw [evEs_nil]
    exact ppf_nil
  | some a :: ks, b :: vs, xs, S, h => by
    simp only [cPs, Option.bind_eq_some_iff, Option.map_eq_some_iff] at h
    obtain ⟨x, h1, y, h2, ys, h3, rfl⟩ := h
    have E1 := ih.e S h1
    have E2 := ih.e S h2
    have : evEs cl gl (x :: y :: ys) = fun env s => bnd (evE cl gl x env s) fun x s => bnd (evE cl gl y env s) fun y s => bnd (evEs cl gl ys env s) fun l s => some (x :: y :: l, s) := by
      rw [evEs_cons E1.xs, evEs_cons E2.xs]
      funext env s
      cases evE cl gl x env s with
      | none => rfl
      | some p =>
        obtain ⟨d, s⟩ := p
        simp only [bnd_some]
        cases evE cl gl y env s with
        | none => rfl
        | some p =>
          obtain ⟨d, s⟩ := p
          simp only [bnd_some]
          cases evEs cl gl ys env s with
          | none => rfl
          | some p => rfl
    rw [this]
    exact ppf_cons E1.pe E2.pe (ih.ps pos S h3)
  | [], _ :: _, xs, S, h => by simp [cPs] at h
  | none :: _, _, xs, S, h => by simp [cPs] at h
  | some _ :: _, [], xs, S, h => by simp [cPs] at h
theorem ok_o {n : Nat} (ih : Ok cl gl n) {k : Cc} {sc : Scope} {X : Cx} {e : Option Expr} {x : Option E} (S : Sim cl gl k sc X) (h : cO k (n + 1) sc e = some x) : PO X e (tPO X (evO cl gl x)) := by
  cases e with
  | none =>
    simp only [cO, Option.some.injEq] at h
    subst h
    have : evO cl gl none = fun env s => some (none, s) := by funext env s; rw [evO] <;> rfl
    rw [this]
    exact po_noneD
  | some e =>
    simp only [cO, Option.map_eq_some_iff] at h
    obtain ⟨y, h1, rfl⟩ := h
    have : evO cl gl (some y) = fun env s => bnd (evE cl gl y env s) fun x s => match x with
      | .int i => some (some i, s)
      | _ => none := by funext env s; rw [evO] <;> rfl
    rw [this]
    exact po_someD (ih.e S h1).pe
theorem ok_seq {n : Nat} (ih : Ok cl gl n) {k : Cc} {sc : Scope} {X : Cx} {tg e : Expr} {x : Ev.It} (S : Sim cl gl k sc X) (h : (cE k n sc e).map Ev.It.seq = some x) : PI X tg e (iD X (evI cl gl x)) ∧ ∀ es k p, e ≠ .Set es k p := by
  simp only [Option.map_eq_some_iff] at h
  obtain ⟨y, h1, rfl⟩ := h
  have E1 := ih.e S h1
  have : evI cl gl (.seq y) = fun env s => bnd (evE cl gl y env s) fun x s => (srcOf x s).map fun g => (g, s) := by funext env s; rw [evI] <;> rfl
  rw [this]
  exact ⟨pi_srcD S.gd E1.pe, E1.se⟩
theorem ok_i {n : Nat} (ih : Ok cl gl n) {k : Cc} {sc : Scope} {X : Cx} {tg e : Expr} {x : Ev.It} (S : Sim cl gl k sc X) (h : cI k (n + 1) sc tg e = some x) : PI X tg e (iD X (evI cl gl x)) ∧ ∀ es k p, e ≠ .Set es k p := by
  unfold cI at h
  split at h
  · rename_i f q es p
    split at h
    · rename_i hc
      simp only [Bool.and_eq_true, decide_eq_true_eq] at hc
      obtain ⟨⟨hg, ho⟩, rfl⟩ := hc
      have hg := (isGl_ok S hg).1
      split at h
      · simp only [Option.map_eq_some_iff] at h
        obtain ⟨y, h1, rfl⟩ := h
        have E1 := ih.e S h1
        have : evI cl gl (.range1 y) = fun env s => bnd (evE cl gl y env s) fun x s => match x with
          | .int hi => (srcRange 0 hi).map fun g => (g, s)
          | _ => none := by funext env s; rw [evI] <;> rfl
        rw [this]
        exact ⟨pi_rangeD1 S hg E1.pe E1.st, fun _ _ _ z => nomatch z⟩
      · simp only [Option.bind_eq_some_iff, Option.map_eq_some_iff] at h
        obtain ⟨y, h1, z, h2, rfl⟩ := h
        have E1 := ih.e S h1
        have E2 := ih.e S h2
        have : evI cl gl (.range2 y z) = fun env s => bnd (evE cl gl y env s) fun x s => bnd (evE cl gl z env s) fun y s => match x, y with
          | .int lo, .int hi => (srcRange lo hi).map fun g => (g, s)
          | _, _ => none := by funext env s; rw [evI] <;> rfl
        rw [this]
        exact ⟨pi_rangeD2 S hg E1.pe E2.pe E1.st E2.st, fun _ _ _ z => nomatch z⟩
      · cases h
    · exact ok_seq ih S h
  · rename_i o m q p
    split at h
    · rename_i hm
      have hm := of_decide_eq_true hm
      subst hm
      split at h
      · rename_i hc
        simp only [Bool.and_eq_true, Bool.not_eq_true'] at hc
        obtain ⟨⟨h1, h2⟩, h3⟩ := hc
        simp only [Option.map_eq_some_iff] at h
        obtain ⟨y, h4, rfl⟩ := h
        have E1 := ih.e S h4
        have : evI cl gl (.items y) = fun env s => bnd (evE cl gl y env s) fun x s => (srcItems x s).map fun g => (g, s) := by funext env s; rw [evI] <;> rfl
        rw [this]
        refine ⟨?_, fun _ _ _ z => nomatch z⟩
        cases tg with
        | Tuple elts kk tpos => exact pi_itemsD S.gd E1.pe (base_plain h2) h3
        | _ => simp [isTup] at h1
      · cases h
    · exact ok_seq ih S h
  · exact ok_seq ih S h

/-! ### targets -/
theorem ok_t {k : Cc} {sc : Scope} {X : Cx} (S : Sim cl gl k sc X) : ∀ n, (∀ {e : Expr} {t : T}, cT k sc n e = some t → PG X e (gD X t) ∧ ∀ a p, e ≠ .Starred a p) ∧
    (∀ {es : List Expr} {ts : List T}, cTs k sc n es = some ts → PGs X es (gDs X ts) ∧ (∀ e ∈ es, ∀ a p, e ≠ Expr.Starred a p) ∧ ts.length = es.length)
  | 0 => ⟨fun h => by simp [cT] at h, fun h => by simp [cTs] at h⟩
  | n + 1 => by
    obtain ⟨i1, i2⟩ := ok_t S n
    constructor
    · intro e t h
      unfold cT at h
      split at h
      · rename_i x p
        have go : (slotOf k x).map T.nm = some t → Loc X.env.scope x → (X.fn x = true ∨ X.env.scope.names.lookup x = some .local) → PG X (.Name x p) (gD X t) ∧ ∀ a p', Expr.Name x p ≠ .Starred a p' := fun h1 h2 h3 => by
          simp only [Option.map_eq_some_iff] at h1
          obtain ⟨i, h1, rfl⟩ := h1
          exact ⟨pg_nameD S.gd (slotOf_ok S h1) h2 h3, fun _ _ z => nomatch z⟩
        split at h
        · rename_i e1
          exact go h (.inl (by rw [S.sc]; exact e1)) (.inr (by rw [S.sc]; exact e1))
        · rename_i e1
          split at h
          · rename_i ht
            exact go h (.inr (by rw [S.sc]; exact e1)) (.inl (S.fn ht x))
          · cases h
        · cases h
      · simp only [Option.map_eq_some_iff] at h
        obtain ⟨ts, h1, rfl⟩ := h
        obtain ⟨a1, a2, a3⟩ := i2 h1
        exact ⟨pg_tupD S.gd a1 a2 a3, fun _ _ z => nomatch z⟩
      · cases h
    · intro es ts h
      cases es with
      | nil =>
        simp only [cTs, Option.some.injEq] at h
        subst h
        exact ⟨pgs_nilD, (fun e he => by cases he), rfl⟩
      | cons e es =>
        simp only [cTs, Option.bind_eq_some_iff, Option.map_eq_some_iff] at h
        obtain ⟨t, h1, ts', h2, rfl⟩ := h
        obtain ⟨a1, a2⟩ := i1 h1
        obtain ⟨b1, b2, b3⟩ := i2 h2
        refine ⟨pgs_consD a1 b1 a2, fun y hy => ?_, by simp [b3]⟩
        rcases List.mem_cons.mp hy with rfl | hy
        · exact a2
        · exact b2 y hy
theorem ok_lc {n : Nat} (ih : Ok cl gl n) {k : Cc} {sc : Scope} {X : Cx} {elt tg it : Expr} {ifs : List Expr} {scope : Scope} {r : List Nat × T × Ev.It × E × Option E} (S : Sim cl gl k sc X) (h : cLC k (n + 1) sc elt tg it ifs scope = some r) : LOk cl gl X elt tg it ifs scope r := by
  unfold cLC at h
  split at h
  rotate_left
  · cases h
  rename_i hb
  simp only [Option.bind_eq_some_iff] at h
  obtain ⟨i, h1, t, h2, h⟩ := h
  split at h
  rotate_left
  · cases h
  rename_i ht
  simp only [Option.bind_eq_some_iff] at h
  obtain ⟨x, h3, h⟩ := h
  have hr : ∃ c, r = ((cOwn k scope).map (·.2), t, i, x, c) ∧ ((ifs = [] ∧ c = none) ∨ ∃ ce y, ifs = [ce] ∧ c = some y ∧ cE { k with top := false } n (L2.relS scope sc) ce = some y) := by
    split at h
    · cases h; exact ⟨none, rfl, .inl ⟨rfl, rfl⟩⟩
    · simp only [Option.map_eq_some_iff] at h
      obtain ⟨y, h4, rfl⟩ := h
      exact ⟨some y, rfl, .inr ⟨_, y, rfl, rfl, h4⟩⟩
    · cases h
  obtain ⟨c, rfl, hc⟩ := hr
  have hI := ih.i S h1
  have SB := fun (s : Shared) (H : Hp) (C : Addr) (l : List (Str × Addr)) (fp : List Addr) => S.blk s H scope C l fp
  refine ⟨⟨cOwn k scope, rfl, blkOk_by (by rw [S.N, S.sc]; exact hb)⟩, fun j hj => ?_, hI.1, hI.2, fun s H C l fp => ((ok_t (SB s H C l fp) n).1 h2).1, fun s H C l fp => (ih.e (SB s H C l fp) h3).pe, fun s H C l fp => ?_⟩
  · rw [List.all_eq_true] at ht
    have := ht j hj
    rw [List.any_eq_true] at this
    obtain ⟨p, hp, e⟩ := this
    exact List.mem_map.mpr ⟨p, hp, of_decide_eq_true e⟩
  · rcases hc with ⟨rfl, rfl⟩ | ⟨ce, y, rfl, rfl, h4⟩
    · have : evC cl gl none = fun env s => some (.bl true, s) := by funext env s; rw [evC] <;> rfl
      show PTs _ [] (tET X (evC cl gl none))
      rw [this]
      refine ⟨fun pins sh σ H' Q I hw => pts_nil.run pins sh σ H' Q I ?_⟩
      obtain ⟨ι, env, s', kk, s'', hE, R, e, q⟩ := hw
      cases e
      exact q H' ι Go.refl R
    · have : evC cl gl (some y) = evE cl gl y := by funext env s; rw [evC] <;> rfl
      show PTs _ [ce] (tET X (evC cl gl (some y)))
      rw [this]
      exact pts_one (ih.e (SB s H C l fp) h4).pt
end
end Ev
end

section
set_option autoImplicit false
set_option maxRecDepth 100000
set_option linter.unusedVariables false
/-! Ev22: expressions -/
namespace Ev
open PySem L2 PySem.SeqAt PyProof.Rows PySem.Calls

section
variable {cl : Str → List D → Sto → Option (D × Sto)} {gl : Str → Option D}
/-- a value whose test is its truth, with the plain sides by the form -/
theorem EOk.val {X : Cx} {e : Expr} {x : E} {run : Env → Sto → Option (D × Sto)} (h : PE X e (tE X run)) (hx : x.isStar = false) (he : ∀ whole, isTrue e X.env whole = (do let v ← whole; standAt e.pos; holding [v] (truthy v))) (hb : ∀ op es pos, e ≠ .BoolOp op es pos)
    (st : ∀ a p, e ≠ .Starred a p) (sl : ∀ lo hi s p, e ≠ .Slice lo hi s p) (se : ∀ es k p, e ≠ .Set es k p) : EOk X e x run :=
  ⟨h, pt_valD h he, fun op es pos z => absurd z (hb op es pos), st, sl, se, hx⟩
theorem ok_e {n : Nat} (ih : Ok cl gl n) {k : Cc} {sc : Scope} {X : Cx} {e : Expr} {x : E} (S : Sim cl gl k sc X) (h : cE k (n + 1) sc e = some x) : EOk X e x (evE cl gl x) := by
  unfold cE at h
  split at h
  · -- a name
    rename_i y pos
    split at h
    rotate_left
    · cases h
    rename_i hn
    obtain ⟨hd, hcd⟩ := okName_ok hn
    split at h
    · rename_i i hi
      cases h
      obtain ⟨h1, h2⟩ := varOf_ok S hi
      have : evE cl gl (.var i) = fun env s => match env[i]? with
        | some (some d) => some (d, s)
        | _ => none := by funext env s; rw [evE] <;> rfl
      rw [this]
      exact .val (pe_varD h1 h2 hd hcd) rfl (fun _ => rfl) (fun _ _ _ z => nomatch z) (fun _ _ z => nomatch z) (fun _ _ _ _ z => nomatch z) (fun _ _ _ z => nomatch z)
    · split at h
      · rename_i hg
        simp only [Bool.and_eq_true] at hg
        cases h
        have : evE cl gl (.gl y) = fun env s => (gl y).map fun d => (d, s) := by funext env s; rw [evE] <;> rfl
        rw [this]
        refine .val ⟨fun pins sh σ H Q I h => ?_⟩ rfl (fun _ => rfl) (fun _ _ _ z => nomatch z) (fun _ _ z => nomatch z) (fun _ _ _ _ z => nomatch z) (fun _ _ _ z => nomatch z)
        obtain ⟨ι, env, s, d, s', hE, R, e, q⟩ := h
        simp only [Option.map_eq_some_iff, Prod.mk.injEq] at e
        obtain ⟨d', e1, rfl, rfl⟩ := e
        obtain ⟨u, v, hm, rv, rd⟩ := S.gls y hg.2 _ e1
        exact (pe_glob (isGl_ok S hg.1).1 hm rv hd).run pins sh σ H Q I (q.here R (rd ι H))
      · cases h
  · -- a constant
    rename_i c j pos
    simp only [Option.map_eq_some_iff] at h
    obtain ⟨d, h1, rfl⟩ := h
    have : evE cl gl (.lit d) = fun env s => some (d, s) := by funext env s; rw [evE] <;> rfl
    rw [this]
    have hp : PE X (.Constant c j pos) (tE X fun env s => some (d, s)) := by
      cases c <;> simp only [cConst, Option.some.injEq, reduceCtorEq] at h1 <;> subst h1
      · exact pe_non.weak (lit_weak fun ι H => by rw [RD])
      · exact pe_bl.weak (lit_weak fun ι H => by rw [RD])
      · exact pe_int.weak (lit_weak fun ι H => by rw [RD])
      · exact pe_str.weak (lit_weak fun ι H => by rw [RD])
    exact .val hp rfl (fun _ => rfl) (fun _ _ _ z => nomatch z) (fun _ _ z => nomatch z) (fun _ _ _ _ z => nomatch z) (fun _ _ _ z => nomatch z)
  · -- a tuple
    simp only [Option.map_eq_some_iff] at h
    obtain ⟨xs, h1, rfl⟩ := h
    have : evE cl gl (.tup xs) = fun env s => bnd (evEs cl gl xs env s) fun ds s => newT s ds := by funext env s; rw [evE] <;> rfl
    rw [this]
    exact .val (pe_tupD (ih.es S h1)) rfl (fun _ => rfl) (fun _ _ _ z => nomatch z) (fun _ _ z => nomatch z) (fun _ _ _ _ z => nomatch z) (fun _ _ _ z => nomatch z)
  · simp only [Option.map_eq_some_iff] at h
    obtain ⟨xs, h1, rfl⟩ := h
    have : evE cl gl (.lst xs) = fun env s => bnd (evEs cl gl xs env s) fun ds s => newL s ds := by funext env s; rw [evE] <;> rfl
    rw [this]
    exact .val (pe_lstD (ih.es S h1)) rfl (fun _ => rfl) (fun _ _ _ z => nomatch z) (fun _ _ z => nomatch z) (fun _ _ _ _ z => nomatch z) (fun _ _ _ z => nomatch z)
  · -- a dict
    rename_i ks vs pos
    have dd : ∀ xs, evE cl gl (.dct xs) = fun env s => bnd (evEs cl gl xs env s) fun ds s => (pairUp [] ds).map fun kvs => (.ref s.length, s ++ [.dct kvs]) := fun xs => by funext env s; rw [evE] <;> rfl
    split at h
    · rename_i hc
      simp only [Bool.and_eq_true, List.isEmpty_iff] at hc
      obtain ⟨rfl, rfl⟩ := hc
      cases h
      have : evE cl gl (.dct []) = fun env s => some (.ref s.length, s ++ [.dct []]) := by
        rw [dd, evEs_nil]
        rfl
      rw [this]
      exact .val pe_dct0D rfl (fun _ => rfl) (fun _ _ _ z => nomatch z) (fun _ _ z => nomatch z) (fun _ _ _ _ z => nomatch z) (fun _ _ _ z => nomatch z)
    · split at h
      · rename_i hc
        simp only [Bool.and_eq_true, decide_eq_true_eq, Bool.not_eq_true', List.isEmpty_eq_false_iff] at hc
        obtain ⟨⟨⟨h1, h2⟩, h3⟩, h4⟩ := hc
        simp only [Option.map_eq_some_iff] at h
        obtain ⟨xs, h5, rfl⟩ := h
        rw [dd]
        exact .val (pe_dctD S.gd (ih.ps pos S h5) h1 h2 h4 h3) rfl (fun _ => rfl) (fun _ _ _ z => nomatch z) (fun _ _ z => nomatch z) (fun _ _ _ _ z => nomatch z) (fun _ _ _ z => nomatch z)
      · cases h
  · -- an operator
    simp only [Option.bind_eq_some_iff, Option.map_eq_some_iff] at h
    obtain ⟨a, h1, b, h2, rfl⟩ := h
    have : ∀ op, evE cl gl (.bin op a b) = fun env s => bnd (evE cl gl a env s) fun x s => bnd (evE cl gl b env s) fun y s => binD op x y s := fun op => by funext env s; rw [evE] <;> rfl
    rw [this]
    exact .val (pe_binD (ih.e S h1).pe (ih.e S h2).pe) rfl (fun _ => rfl) (fun _ _ _ z => nomatch z) (fun _ _ z => nomatch z) (fun _ _ _ _ z => nomatch z) (fun _ _ _ z => nomatch z)
  · -- -a, not a
    split at h
    · simp only [Option.map_eq_some_iff] at h
      obtain ⟨a, h1, rfl⟩ := h
      have : evE cl gl (.neg a) = fun env s => bnd (evE cl gl a env s) fun x s => match x with
        | .int i => some (.int (-i), s)
        | _ => none := by funext env s; rw [evE] <;> rfl
      rw [this]
      exact .val (pe_negD (ih.e S h1).pe) rfl (fun _ => rfl) (fun _ _ _ z => nomatch z) (fun _ _ z => nomatch z) (fun _ _ _ _ z => nomatch z) (fun _ _ _ z => nomatch z)
    · simp only [Option.map_eq_some_iff] at h
      obtain ⟨a, h1, rfl⟩ := h
      have : evE cl gl (.not a) = fun env s => bnd (evE cl gl a env s) fun x s => match x with
        | .bl b => some (.bl (!b), s)
        | _ => none := by funext env s; rw [evE] <;> rfl
      rw [this]
      exact ⟨pe_notD (ih.e S h1).pe, pt_notD (ih.e S h1).pt, fun _ _ _ z => (nomatch z), fun _ _ z => (nomatch z), fun _ _ _ _ z => (nomatch z), fun _ _ _ z => (nomatch z), rfl⟩
    · cases h
  · -- a comparison
    split at h
    · split at h
      · cases h
      · rename_i hm
        simp only [Option.bind_eq_some_iff, Option.map_eq_some_iff] at h
        obtain ⟨a, h1, b, h2, rfl⟩ := h
        have : ∀ op, evE cl gl (.cmp op a b) = fun env s => bnd (evE cl gl a env s) fun x s => bnd (evE cl gl b env s) fun y s => (cmpD op x y s).map fun k => (.bl k, s) := fun op => by funext env s; rw [evE] <;> rfl
        rw [this]
        have hm := Bool.eq_false_iff.mpr hm
        exact ⟨pe_cmpD S.gd (ih.e S h1).pe (ih.e S h2).pe hm, pt_cmpD S.gd (ih.e S h1).pe (ih.e S h2).pe hm, fun _ _ _ z => (nomatch z), fun _ _ z => (nomatch z), fun _ _ _ _ z => (nomatch z), fun _ _ _ z => (nomatch z), rfl⟩
    · split at h
      · cases h
      · rename_i hm
        simp only [Option.bind_eq_some_iff, Option.map_eq_some_iff] at h
        obtain ⟨a, h1, b, h2, c, h3, rfl⟩ := h
        have : ∀ op op', evE cl gl (.cmp2 op op' a b c) = fun env s => bnd (evE cl gl a env s) fun x s => bnd (evE cl gl b env s) fun y s => (cmpD op x y s).bind fun k => if k then bnd (evE cl gl c env s) fun z s => (cmpD op' y z s).map fun k => (.bl k, s) else some (.bl false, s) := fun op op' => by funext env s; rw [evE] <;> rfl
        rw [this]
        have hm := Bool.eq_false_iff.mpr hm
        exact ⟨pe_chainD S.gd (ih.e S h1).pe (ih.e S h2).pe (ih.e S h3).pe hm, pt_chainD S.gd (ih.e S h1).pe (ih.e S h2).pe (ih.e S h3).pe hm, fun _ _ _ z => (nomatch z), fun _ _ z => (nomatch z), fun _ _ _ _ z => (nomatch z), fun _ _ _ z => (nomatch z), rfl⟩
    · cases h
  · -- and, or
    rename_i op es pos
    split at h
    · rename_i a
      have E1 := ih.e S h
      have hw : PW X (.BoolOp op [a] pos) (tET X (evE cl gl x)) := by
        cases op
        · exact pw_and1 E1.pt
        · exact pw_or1 E1.pt
      exact ⟨pe_one E1.pe, hw.pt, fun _ _ _ z => by cases z; exact hw, fun _ _ z => (nomatch z), fun _ _ _ _ z => (nomatch z), fun _ _ _ z => (nomatch z), E1.xs⟩
    · rename_i a b r
      simp only [Option.bind_eq_some_iff, Option.map_eq_some_iff] at h
      obtain ⟨y, h1, z, h2, rfl⟩ := h
      have E1 := ih.e S h1
      have E2 := ih.e S h2
      cases op
      · have : evE cl gl (.and y z) = andR (evE cl gl y) (evE cl gl z) := by funext env s; rw [evE] <;> rfl
        show EOk X _ (.and y z) (evE cl gl (.and y z))
        rw [this]
        have hw : PW X (.BoolOp .And (a :: b :: r) pos) (tET X (andR (evE cl gl y) (evE cl gl z))) := (pw_and E1.pt (E2.pw _ _ _ rfl)).weak and_weakT
        exact ⟨(pe_and E1.pe E2.pe).weak and_weak, hw.pt, fun _ _ _ z => by cases z; exact hw, fun _ _ z => (nomatch z), fun _ _ _ _ z => (nomatch z), fun _ _ _ z => (nomatch z), rfl⟩
      · have : evE cl gl (.or y z) = orR (evE cl gl y) (evE cl gl z) := by funext env s; rw [evE] <;> rfl
        show EOk X _ (.or y z) (evE cl gl (.or y z))
        rw [this]
        have hw : PW X (.BoolOp .Or (a :: b :: r) pos) (tET X (orR (evE cl gl y) (evE cl gl z))) := (pw_or E1.pt (E2.pw _ _ _ rfl)).weak or_weakT
        exact ⟨(pe_or E1.pe E2.pe).weak or_weak, hw.pt, fun _ _ _ z => by cases z; exact hw, fun _ _ z => (nomatch z), fun _ _ _ _ z => (nomatch z), fun _ _ _ z => (nomatch z), rfl⟩
    · cases h
  · -- a if c else b
    simp only [Option.bind_eq_some_iff, Option.map_eq_some_iff] at h
    obtain ⟨z, h1, y, h2, w, h3, rfl⟩ := h
    have : evE cl gl (.ite z y w) = iteR (evE cl gl z) (evE cl gl y) (evE cl gl w) := by funext env s; rw [evE] <;> rfl
    rw [this]
    exact ⟨pe_iteD (ih.e S h1).pt (ih.e S h2).pe (ih.e S h3).pe, pt_iteD (ih.e S h1).pt (ih.e S h2).pt (ih.e S h3).pt, fun _ _ _ z => (nomatch z), fun _ _ z => (nomatch z), fun _ _ _ _ z => (nomatch z), fun _ _ _ z => (nomatch z), rfl⟩
  · -- subscripts
    split at h
    · split at h
      · simp only [Option.bind_eq_some_iff, Option.map_eq_some_iff] at h
        obtain ⟨y, h1, l, h2, u, h3, rfl⟩ := h
        have : evE cl gl (.slc y l u) = fun env s => bnd (evE cl gl y env s) fun x s => bnd (evO cl gl l env s) fun l s => bnd (evO cl gl u env s) fun h s => slcD x l h s := by funext env s; rw [evE] <;> rfl
        rw [this]
        exact .val (pe_slcD (ih.e S h1).pe (ih.o S h2) (ih.o S h3)) rfl (fun _ => rfl) (fun _ _ _ z => nomatch z) (fun _ _ z => nomatch z) (fun _ _ _ _ z => nomatch z) (fun _ _ _ z => nomatch z)
      · split at h
        · simp only [Option.map_eq_some_iff] at h
          obtain ⟨y, h1, rfl⟩ := h
          have : evE cl gl (.rev y) = fun env s => bnd (evE cl gl y env s) fun x s => revD x s := by funext env s; rw [evE] <;> rfl
          rw [this]
          exact .val (pe_revE (ih.e S h1).pe) rfl (fun _ => rfl) (fun _ _ _ z => nomatch z) (fun _ _ z => nomatch z) (fun _ _ _ _ z => nomatch z) (fun _ _ _ z => nomatch z)
        · cases h
      · cases h
    · simp only [Option.bind_eq_some_iff, Option.map_eq_some_iff] at h
      obtain ⟨y, h1, i, h2, rfl⟩ := h
      have : evE cl gl (.idx y i) = fun env s => bnd (evE cl gl y env s) fun x s => bnd (evE cl gl i env s) fun y s => idxD x y s := by funext env s; rw [evE] <;> rfl
      rw [this]
      exact .val (pe_idxD S.gd (ih.e S h1).pe (ih.e S h2).pe (ih.e S h2).sl) rfl (fun _ => rfl) (fun _ _ _ z => nomatch z) (fun _ _ z => nomatch z) (fun _ _ _ _ z => nomatch z) (fun _ _ _ z => nomatch z)
  · -- calls
    rename_i f es kws cpos
    split at h
    · cases h
    rename_i hk
    have hk : kws = [] := by simpa using hk
    subst hk
    split at h
    · rename_i g q
      split at h
      · cases h
      rename_i hg
      obtain ⟨hg, hdb⟩ := isGl_ok S (by simpa using hg)
      split at h
      · rename_i ho
        simp only [Option.map_eq_some_iff] at h
        obtain ⟨xs, h1, rfl⟩ := h
        obtain ⟨a1, a2, a3⟩ := ih.as S h1
        have : evE cl gl (.call g xs) = fun env s => bnd (evEs cl gl xs env s) fun ds s => cl g ds s := by funext env s; rw [evE] <;> rfl
        rw [this]
        exact .val (pe_callD S ho hg hdb a1 (fun z => by rw [a3 z, evEs_nil]) a2) rfl (fun _ => rfl) (fun _ _ _ z => nomatch z) (fun _ _ z => nomatch z) (fun _ _ _ _ z => nomatch z) (fun _ _ _ z => nomatch z)
      · split at h
        · rename_i b hb
          split at h
          · cases h
          rename_i he
          simp only [Option.map_eq_some_iff] at h
          obtain ⟨xs, h1, rfl⟩ := h
          obtain ⟨a1, a2, a3⟩ := ih.as S h1
          have : evE cl gl (.bif b xs) = fun env s => bnd (evEs cl gl xs env s) fun ds s => bifD b ds s := by funext env s; rw [evE] <;> rfl
          rw [this]
          cases es with
          | nil => simp at he
          | cons e0 es0 => exact .val (pe_bifD S hb hg a1 a2) rfl (fun _ => rfl) (fun _ _ _ z => nomatch z) (fun _ _ z => nomatch z) (fun _ _ _ _ z => nomatch z) (fun _ _ _ z => nomatch z)
        · cases h
    · rename_i o m apos
      split at h
      · cases h
      rename_i hc
      simp only [Bool.or_eq_true, Bool.not_eq_true', decide_eq_true_eq, not_or] at hc
      obtain ⟨⟨hc1, hc2⟩, hc3⟩ := hc
      simp only [Option.bind_eq_some_iff, Option.map_eq_some_iff] at h
      obtain ⟨mm, h1, y, h2, xs, h3, rfl⟩ := h
      obtain ⟨slot, hty⟩ := mOf_ok h1
      obtain ⟨a1, a2, a3⟩ := ih.as S h3
      have E1 := ih.e S h2
      have hbase := base_plain (X := X) (name := m) (Bool.eq_false_iff.mpr hc1)
      have hline : (apos.endLine == cpos.line) = true := by simpa using hc2
      have : evE cl gl (.mth mm y xs) = fun env s => bnd (evE cl gl y env s) fun x s => if mthOk mm x s then bnd (evEs cl gl xs env s) fun ds s => mthD mm x ds s else none := by funext env s; rw [evE] <;> rfl
      rw [this]
      cases es with
      | nil =>
        rw [a3 rfl, evEs_nil]
        exact .val (pe_mth0D S.gd slot hty E1.pe hbase hline) rfl (fun _ => rfl) (fun _ _ _ z => nomatch z) (fun _ _ z => nomatch z) (fun _ _ _ _ z => nomatch z) (fun _ _ _ z => nomatch z)
      | cons a0 es0 =>
        exact .val (pe_mthD S.gd slot hty E1.pe a1 hbase hline a2 (by omega)) rfl (fun _ => rfl) (fun _ _ _ z => nomatch z) (fun _ _ z => nomatch z) (fun _ _ _ _ z => nomatch z) (fun _ _ _ z => nomatch z)
    · cases h
  · -- comprehensions
    split at h
    · simp only [Option.map_eq_some_iff] at h
      obtain ⟨r, h1, rfl⟩ := h
      have L1 := ih.lc S h1
      obtain ⟨own, ho, hb⟩ := L1.own
      have : evE cl gl (.comp r.1 r.2.1 r.2.2.1 r.2.2.2.1 r.2.2.2.2) = lcR (evI cl gl r.2.2.1) (evC cl gl r.2.2.2.2) (evE cl gl r.2.2.2.1) r.2.1 (own.map (·.2)) := by
        funext env s
        rw [evE, ho] <;> rfl
      rw [this]
      exact .val (pe_lcD S.gd (fun i hi => by rw [← ho]; exact L1.sub i hi) L1.iter hb L1.tgt L1.ifs L1.elt L1.se) rfl (fun _ => rfl) (fun _ _ _ z => nomatch z) (fun _ _ z => nomatch z) (fun _ _ _ _ z => nomatch z) (fun _ _ _ z => nomatch z)
    · cases h
  · cases h

theorem ok_all : ∀ n, Ok cl gl n
  | 0 => ⟨(fun S h => by unfold cE at h; cases h), (fun S h => by unfold cLC at h; cases h), (fun S h => by unfold cEs at h; cases h), (fun S h => by unfold cAs at h; cases h), (fun pos S h => by unfold cPs at h; cases h), (fun S h => by unfold cO at h; cases h), (fun S h => by unfold cI at h; cases h)⟩
  | n + 1 => have ih := ok_all n; ⟨ok_e ih, ok_lc ih, ok_es ih, ok_as ih, fun pos => ok_ps ih pos, ok_o ih, ok_i ih⟩
end
end Ev
end

section
set_option autoImplicit false
set_option maxRecDepth 100000
set_option linter.unusedVariables false
/-! Ev23: statements -/
namespace Ev
open PySem L2 PySem.SeqAt PyProof.Rows PySem.Calls

section
variable {cl : Str → List D → Sto → Option (D × Sto)} {gl : Str → Option D}
theorem swaps_not {e : Expr} {t : Option Expr} {l : Nat} {env : PySem.Env} (h : isComp e = false) : swapsWith e t l env = pure false := by
  cases e <;> first | rfl | simp [isComp] at h
theorem swaps_tup {e : Expr} {ts : List Expr} {k : Nat} {p : Pos} {l : Nat} {env : PySem.Env} : swapsWithSole [.Tuple ts k p] e l env = pure false := by
  show swapsWith e (some (.Tuple ts k p)) l env = _
  cases e <;> rfl
theorem swaps_sub {e o i : Expr} {p : Pos} {l : Nat} {env : PySem.Env} : swapsWithSole [.Subscript o i p] e l env = pure false := by
  show swapsWith e (some (.Subscript o i p)) l env = _
  cases e <;> rfl
theorem stores_none {tg e : Expr} {env : PySem.Env} (h : isTup e = false) (ht : ∀ l p, tg ≠ .List l p) : swappedStores [tg] e env = pure none := by
  cases e <;> first | (simp [isTup] at h; done) | (cases tg <;> first | rfl | exact absurd rfl (ht _ _))
theorem swK_ok {sc : Scope} {ts vs : List Expr} {kt k2 : Nat} {pt p2 : Pos} {env : PySem.Env} {r : Option (List Str)} (hs : env.scope = sc) (hk : sc.kind = .function) (h : swK sc ts vs = some r) : swappedStores [.Tuple ts kt pt] (.Tuple vs k2 p2) env = pure r := by
  subst hs
  have hb : env.blockKind = .function := by
    unfold Env.blockKind
    rw [hk]
    rfl
  replace h : swK' env.kindOf ts vs = some r := h
  unfold swK' at h
  unfold swappedStores
  simp only [hb]
  split at h
  · rename_i c
    cases h
    have c' : (!(ts.length == 2 || ts.length == 3) || vs.length != ts.length || ScopeKind.function != ScopeKind.function) = true := by
      rw [Bool.or_eq_true]
      exact .inl c
    simp only [c', if_true]
  rename_i c
  have c' : (!(ts.length == 2 || ts.length == 3) || vs.length != ts.length || ScopeKind.function != ScopeKind.function) = false := by
    rw [Bool.eq_false_iff.mpr c]
    rfl
  simp only [c', Bool.false_eq_true, if_false]
  split at h
  · rename_i c2
    cases h
    exact if_pos c2
  rename_i c2
  refine (if_neg c2).trans ?_
  split at h
  · rename_i c3
    cases h
    exact if_pos c3
  rename_i c3
  refine (if_neg c3).trans ?_
  split at h
  · rename_i c4
    cases h
    exact if_pos c4
  rename_i c4
  refine (if_neg c4).trans ?_
  split at h
  · cases h
  rename_i c5
  cases h
  exact if_neg c5

theorem evS_asg {t : T} {e : E} : evS cl gl (.asg t e) = asgR (evE cl gl e) t := by funext env s; rw [evS] <;> rfl
theorem isLoc_ok {k : Cc} {sc : Scope} {X : Cx} (S : Sim cl gl k sc X) {x : Str} (h : isLoc sc x = true) : X.env.scope.names.lookup x = some .local := by
  rw [S.sc]
  unfold isLoc at h
  split at h
  · assumption
  · cases h
/-- a statement that is not compiled says nothing -/
theorem stuckD {X : Cx} {st : Stmt} : PS X st (tSD X (evS cl gl .stuck)) := by
  have : evS cl gl .stuck = fun _ _ => none := by funext env s; rw [evS]
  rw [this]
  exact ps_neverD
theorem ok_s {k : Cc} {sc : Scope} {X : Cx} (S : Sim cl gl k sc X) (hk : sc.kind = .function) : ∀ n, (∀ st : Stmt, PS X st (tSD X (evS cl gl (cS k sc n st)))) ∧ ∀ sts : List Stmt, PSs X sts (tSD X (evSs cl gl (cSs k sc n sts)))
  | 0 => ⟨fun st => by rw [cS]; exact stuckD, fun sts => by
      rw [cSs]
      refine ⟨fun pins s σ H D I h => ?_⟩
      obtain ⟨ι, env, s', r, s'', hE, R, e, q⟩ := h
      rw [evSs, evS] at e
      cases e⟩
  | n + 1 => by
    obtain ⟨i1, i2⟩ := ok_s S hk n
    have O := ok_all (cl := cl) (gl := gl) 60
    have getD : ∀ {o : Option Ev.S} {st : Stmt}, (∀ s, o = some s → PS X st (tSD X (evS cl gl s))) → PS X st (tSD X (evS cl gl (o.getD .stuck))) := fun {o st} h => by
      cases o with
      | none => exact stuckD
      | some s => exact h s rfl
    constructor
    · intro st
      unfold cS
      split
      · -- assignments
        rename_i tgs v pos
        split
        rotate_left
        · exact stuckD
        rename_i tg
        split
        · -- o[i] = v
          rename_i o i p
          refine getD fun s h => ?_
          simp only [Option.bind_eq_some_iff, Option.map_eq_some_iff] at h
          obtain ⟨x, h1, y, h2, z, h3, rfl⟩ := h
          have : evS cl gl (.seti x y z) = fun env s => bnd (evE cl gl z env s) fun d s => bnd (evE cl gl x env s) fun x s => bnd (evE cl gl y env s) fun k s => (setD x k d s).map fun s => ((.nx, env), s) := by funext env s; rw [evS] <;> rfl
          rw [this]
          exact ps_setiD S.gd (O.e S h1).pe (O.e S h2).pe (O.e S h3).pe (O.e S h2).sl swaps_sub
        · -- a name
          rename_i x p'
          split
          · split
            · rename_i elt gens scope p tg' it ifs
              split
              rotate_left
              · exact stuckD
              rename_i hc
              simp only [Bool.and_eq_true, Bool.not_eq_true'] at hc
              obtain ⟨⟨hc1, hc2⟩, hc3⟩ := hc
              refine getD fun s h => ?_
              simp only [Option.bind_eq_some_iff, Option.map_eq_some_iff] at h
              obtain ⟨i, h1, r, h2, rfl⟩ := h
              have L1 := O.lc S h2
              obtain ⟨own, ho, hb⟩ := L1.own
              have : evE cl gl (.comp r.1 r.2.1 r.2.2.1 r.2.2.2.1 r.2.2.2.2) = lcR (evI cl gl r.2.2.1) (evC cl gl r.2.2.2.2) (evE cl gl r.2.2.2.1) r.2.1 (own.map (·.2)) := by
                funext env s
                rw [evE, ho] <;> rfl
              rw [evS_asg, this]
              have hl := isLoc_ok S hc1
              exact ps_setLcD S.gd (slotOf_ok S h1) hl (sw_true (by rw [S.sc]; exact hk) hl hc2 hc3) (fun i hi => by rw [← ho]; exact L1.sub i hi) L1.iter hb L1.tgt L1.ifs L1.elt L1.se
            · exact stuckD
          · split
            · exact stuckD
            rename_i hnc
            refine getD fun s h => ?_
            simp only [Option.bind_eq_some_iff, Option.map_eq_some_iff] at h
            obtain ⟨t, h1, z, h2, rfl⟩ := h
            rw [evS_asg]
            exact ps_asgD (O.e S h2).pe ((ok_t S 60).1 h1).1 (show swapsWith v (some (.Name x p')) pos.line X.env = _ from swaps_not (by simpa using hnc)) (by
              cases v <;> rfl) (fun _ _ z => nomatch z)
        · -- a tuple
          rename_i ts kt pt
          split
          · rename_i vs k2 p2
            split
            · rename_i hsw
              refine getD fun s h => ?_
              simp only [Option.bind_eq_some_iff, Option.map_eq_some_iff] at h
              obtain ⟨t, h1, z, h2, rfl⟩ := h
              rw [evS_asg]
              exact ps_asgD (O.e S h2).pe ((ok_t S 60).1 h1).1 swaps_tup (swK_ok S.sc hk hsw) (fun _ _ z => nomatch z)
            · split
              · refine getD fun s h => ?_
                simp only [Option.bind_eq_some_iff] at h
                obtain ⟨i, h1, j, h2, h⟩ := h
                split at h
                rotate_left
                · cases h
                rename_i hc
                simp only [Bool.and_eq_true, decide_eq_true_eq] at hc
                obtain ⟨⟨⟨hc1, hc2⟩, hc3⟩, hc4⟩ := hc
                simp only [Option.map_eq_some_iff] at h
                obtain ⟨zs, h3, rfl⟩ := h
                have : evE cl gl (.tup zs) = fun env s => bnd (evEs cl gl zs env s) fun ds s => newT s ds := by funext env s; rw [evE] <;> rfl
                rw [evS_asg, this]
                exact ps_parD S.gd (slotOf_ok S h1) (slotOf_ok S h2) hc4 (isLoc_ok S hc2) (isLoc_ok S hc3) (O.as S h3).1 (swK_ok S.sc hk hc1) swaps_tup
              · refine getD fun s h => ?_
                simp only [Option.bind_eq_some_iff] at h
                obtain ⟨i, h1, j, h2, l, h0, h⟩ := h
                split at h
                rotate_left
                · cases h
                rename_i hc
                simp only [Bool.and_eq_true, decide_eq_true_eq] at hc
                obtain ⟨⟨⟨⟨⟨⟨hc1, hc2⟩, hc3⟩, hc4⟩, hc5⟩, hc6⟩, hc7⟩ := hc
                simp only [Option.map_eq_some_iff] at h
                obtain ⟨zs, h3, rfl⟩ := h
                have : evE cl gl (.tup zs) = fun env s => bnd (evEs cl gl zs env s) fun ds s => newT s ds := by funext env s; rw [evE] <;> rfl
                rw [evS_asg, this]
                exact ps_par3D S.gd (slotOf_ok S h1) (slotOf_ok S h2) (slotOf_ok S h0) hc5 hc6 hc7 (isLoc_ok S hc2) (isLoc_ok S hc3) (isLoc_ok S hc4) (O.as S h3).1 (swK_ok S.sc hk hc1) swaps_tup
              · exact stuckD
            · exact stuckD
          · rename_i hnt
            refine getD fun s h => ?_
            simp only [Option.bind_eq_some_iff, Option.map_eq_some_iff] at h
            obtain ⟨t, h1, z, h2, rfl⟩ := h
            rw [evS_asg]
            refine ps_asgD (O.e S h2).pe ((ok_t S 60).1 h1).1 swaps_tup (stores_none ?_ (fun _ _ z => nomatch z)) (fun _ _ z => nomatch z)
            cases v <;> first | rfl | exact absurd rfl (hnt _ _ _)
        · exact stuckD
      · -- an expression
        split
        · exact stuckD
        rename_i e pos hnc
        refine getD fun s h => ?_
        simp only [Option.map_eq_some_iff] at h
        obtain ⟨x, h1, rfl⟩ := h
        have : evS cl gl (.ex x) = fun env s => bnd (evE cl gl x env s) fun _ s => some ((.nx, env), s) := by funext env s; rw [evS] <;> rfl
        rw [this]
        exact ps_exD (O.e S h1).pe (swaps_not (by simpa using hnc))
      · -- return
        split
        · refine getD fun s h => ?_
          simp only [Option.map_eq_some_iff] at h
          obtain ⟨x, h1, rfl⟩ := h
          have : evS cl gl (.ret (some x)) = fun env s => bnd (evE cl gl x env s) fun d s => some ((.rt d, env), s) := by funext env s; rw [evS] <;> rfl
          rw [this]
          exact ps_retD (O.e S h1).pe
        · have : evS cl gl (.ret none) = fun env s => some ((.rt .non, env), s) := by funext env s; rw [evS] <;> rfl
          rw [this]
          exact ps_retND
      · -- if
        refine getD fun s h => ?_
        simp only [Option.map_eq_some_iff] at h
        obtain ⟨x, h1, rfl⟩ := h
        rename_i c a b pos
        have : evS cl gl (.ite x (cSs k sc n a) (cSs k sc n b)) = fun env s => bnd (evE cl gl x env s) fun x s => match x with
          | .bl true => evSs cl gl (cSs k sc n a) env s
          | .bl false => evSs cl gl (cSs k sc n b) env s
          | _ => none := by funext env s; rw [evS] <;> rfl
        rw [this]
        exact ps_iteD (O.e S h1).pt (i2 a) (i2 b)
      · -- while
        rename_i c b el pos
        split
        · exact stuckD
        rename_i hel
        have hel : el = [] := by simpa using hel
        subst hel
        refine getD fun s h => ?_
        simp only [Option.map_eq_some_iff] at h
        obtain ⟨x, h1, rfl⟩ := h
        have : evS cl gl (.whl x (cSs k sc n b)) = fun env s => whlL (evE cl gl x) (evSs cl gl (cSs k sc n b)) turnsMost env s := by funext env s; rw [evS] <;> rfl
        rw [this]
        exact ps_whlD S.gd (O.e S h1).pt (i2 b)
      · -- for
        rename_i tg it b el pos
        split
        · exact stuckD
        rename_i hel
        have hel : el = [] := by simpa using hel
        subst hel
        refine getD fun s h => ?_
        simp only [Option.bind_eq_some_iff, Option.map_eq_some_iff] at h
        obtain ⟨t, h1, i, h2, rfl⟩ := h
        have : evS cl gl (.for t i (cSs k sc n b)) = forR (evI cl gl i) t (evSs cl gl (cSs k sc n b)) := by funext env s; rw [evS] <;> rfl
        rw [this]
        exact ps_forD S.gd (O.i S h2).1 ((ok_t S 60).1 h1).1 (i2 b) (O.i S h2).2
      · have : evS cl gl .brk = fun env s => some ((.bk, env), s) := by funext env s; rw [evS] <;> rfl
        rw [this]
        exact ps_brkD
      · have : evS cl gl .cnt = fun env s => some ((.ct, env), s) := by funext env s; rw [evS] <;> rfl
        rw [this]
        exact ps_cntD
      · have : evS cl gl .pass = fun env s => some ((.nx, env), s) := by funext env s; rw [evS] <;> rfl
        rw [this]
        exact ps_passD
      · exact stuckD
    · intro sts
      cases sts with
      | nil =>
        have : evSs cl gl [] = fun env s => some ((.nx, env), s) := by funext env s; rw [evSs] <;> rfl
        rw [cSs, this]
        exact pss_nilD
      | cons st sts =>
        have : evSs cl gl (cS k sc n st :: cSs k sc n sts) = fun env s => bnd (evS cl gl (cS k sc n st) env s) fun r s => match r with
          | (.nx, env) => evSs cl gl (cSs k sc n sts) env s
          | (f, env) => some ((f, env), s) := by funext env s; rw [evSs] <;> rfl
        rw [cSs, this]
        exact pss_consD (i1 st) (i2 sts)
end
end Ev
end

section
set_option autoImplicit false
set_option maxRecDepth 100000
set_option linter.unusedVariables false
/-! Ev24: defs -/
namespace Ev
open PySem L2 PySem.SeqAt PyProof.Rows PySem.Calls

section
variable {P : Program} {w : World} {K : PySem.W.Frag} {ι ι' : List Addr} {H H' : Hp}
theorem rep_nil (H : Hp) : Rep P w K [] H [] := ⟨rfl, List.nodup_nil, fun i c a e => by simp at e⟩
mutual
theorem shift_nk : ∀ {d : D} {k : NestedKey} (n : Nat), d.nk = some k → d.shift n = d
  | .non, _, _, _ => by rw [D.shift]
  | .bl _, _, _, _ => by rw [D.shift]
  | .int _, _, _, _ => by rw [D.shift]
  | .str _, _, _, _ => by rw [D.shift]
  | .tup ds, k, n, h => by
    simp only [D.nk, Option.map_eq_some_iff] at h
    obtain ⟨ks, h1, _⟩ := h
    rw [D.shift, shifts_nk n h1]
  | .ref _, _, _, h => by simp [D.nk] at h
  | .scr _, _, _, h => by simp [D.nk] at h
theorem shifts_nk : ∀ {ds : List D} {ks : List NestedKey} (n : Nat), D.nks ds = some ks → D.shifts n ds = ds
  | [], _, _, _ => by rw [D.shifts]
  | d :: ds, ks, n, h => by
    simp only [D.nks, Option.bind_eq_some_iff, Option.map_eq_some_iff] at h
    obtain ⟨x, h1, xs, h2, _⟩ := h
    rw [D.shifts, shift_nk n h1, shifts_nk n h2]
end
theorem paired_mapL {α β γ : Type} {F : α → β → Prop} {G : γ → β → Prop} {f : α → γ} (h : ∀ a b, F a b → G (f a) b) : ∀ {l : List α} {m : List β}, Paired F l m → Paired G (l.map f) m
  | _, _, .nil => .nil
  | _, _, .cons r t => .cons (h _ _ r) (paired_mapL h t)
theorem DctAt.shift (pre : List Addr) {kvs : List (D × D)} {a : Addr} {u : HO} (h : DctAt P w K ι H kvs a u) : DctAt P w K (pre ++ ι) H (kvs.map fun kv => (kv.1.shift pre.length, kv.2.shift pre.length)) a u := by
  rcases h with ⟨kv', e, hp⟩ | ⟨xs, e, hl, hn, hp⟩
  · refine .inl ⟨kv', e, paired_mapL (fun p q ⟨h1, h2⟩ => ⟨?_, h2.shift pre⟩) hp⟩
    show p.1.shift _ = _
    rw [h1]
    cases q.1 <;> rfl
  · refine .inr ⟨xs, e, hl, hn, paired_mapL (fun p q ⟨h1, h2, h3, v, h4, h5⟩ => ⟨?_, h2, ?_, v, h4, h5.shift pre⟩) hp⟩
    · show (p.1.shift _).nk = _
      rw [shift_nk _ h1]
      exact h1
    · exact h3.shift pre
theorem CellAt.shift (pre : List Addr) {c : C} {a : Addr} (h : CellAt P w K ι H c a) : CellAt P w K (pre ++ ι) H (c.shift pre.length) a := by
  cases c with
  | lst ds =>
    obtain ⟨vs, h1, h2⟩ := h
    have := h2.shift pre
    rw [D.shifts_map] at this
    exact ⟨vs, h1, this⟩
  | dct kvs => obtain ⟨u, h1, h2⟩ := h; exact ⟨u, h1, h2.shift pre⟩
  | lck kvs => obtain ⟨o, u, h1, h2⟩ := h; exact ⟨o, u, h1, h2.shift pre⟩
end

/-- the outcome of a def's body -/
theorem bodyD_some {cl : Str → List D → Sto → Option (D × Sto)} {gl : Str → Option D} {fd : Fd} {ds : List D} {s s' : Sto} {d : D} (h : bodyD cl gl fd ds s = some (d, s')) :
    (∃ env, evSs cl gl fd.body (ds.map some ++ List.replicate (fd.slots - ds.length) none) s = some ((.rt d, env), s')) ∨ (d = .non ∧ ∃ env, evSs cl gl fd.body (ds.map some ++ List.replicate (fd.slots - ds.length) none) s = some ((.nx, env), s')) := by
  unfold bodyD at h
  split at h
  · rename_i e; cases h; exact .inl ⟨_, e⟩
  · rename_i e; cases h; exact .inr ⟨rfl, _, e⟩
  · cases h

structure Tab (P : Program) (w : World) (K : PySem.W.Frag) (mg : Str → Option Value) (tb : Str → Option Fd) (gl : Str → Option D) (own gls : Str → Bool) : Prop where
  nob : ∀ x ∈ bltns, mg x = none
  cgl : ∀ x, gls x = true → ∀ d, gl x = some d → ∃ u v, mg x = some u ∧ RelV v u ∧ ∀ ι H, RD K ι H d v
  defs : ∀ f, own f = true → ∃ (fa : Addr) (fd : FuncData) (st : Stmt) (N ps : List Str), mg f = some (.ref fa) ∧ L2.Fun K f f st fa fd ∧ Binds K fd ps [] ∧ FnScope N ps (defScope st) ∧
    tb f = some ⟨ps.length, N.length, cSs ⟨N, own, gls, true⟩ (defScope st) 60 (defBody st)⟩
section
variable {P : Program} {w : World} {K : PySem.W.Frag} {mg : Str → Option Value} {base : Heap} {tb : Str → Option Fd} {gl : Str → Option D} {own gls : Str → Bool}
theorem repE_start {ι : List Addr} {H : Hp} {N : List Str} {ds : List D} {vs : List V} (rd : RDs K ι H ds vs) : RepE K ι H (ds.map some ++ List.replicate (N.length - ds.length) none) (L2.start N vs) := by
  have hl := rd.length
  unfold L2.start
  rw [hl]
  refine ⟨by simp [hl], fun i d e => ?_⟩
  by_cases hi : i < ds.length
  · rw [List.getElem?_append_left (by simpa using hi), List.getElem?_map, Option.map_eq_some_iff] at e
    obtain ⟨d', e1, e2⟩ := e
    cases e2
    obtain ⟨v, hv, r⟩ := rd.get e1
    exact ⟨v, by rw [List.getElem?_append_left (by simpa [hl] using hi), List.getElem?_map, hv]; rfl, r⟩
  · rw [List.getElem?_append_right (by simpa using hi), List.getElem?_replicate] at e
    split at e <;> cases e
/-- a def of the table keeps its promise -/
theorem fnG_all (T : Tab P w K mg tb gl own gls) : ∀ (n : Nat) (f : Str), own f = true → ∃ fa, mg f = some (.ref fa) ∧ PySem.W.keepIn K (.ref fa) = true ∧ FnG P w K mg base n fa (rCal P w K (callD tb gl n f))
  | 0, f, hf => by
    obtain ⟨fa, fd, st, N, ps, h1, h2, _⟩ := T.defs f hf
    refine ⟨fa, h1, h2.kp, fun A outer s H us vs Q hr hg e0 r h => ?_⟩
    obtain ⟨ι, s', ds, d, s'', R, rd, e, q⟩ := h
    simp [callD] at e
  | n + 1, f, hf => by
    have ih := fnG_all T n
    obtain ⟨fa, fd, st, N, ps, h1, h2, hb, SC, htb⟩ := T.defs f hf
    refine ⟨fa, h1, h2.kp, fun A outer s H us vs Q hr hg e0 r h => ?_⟩
    obtain ⟨oc, od, kV, doc, pm, an, cdv, ct, osl, rfl, lk, hcd⟩ := h2.ex
    -- a run of the body
    have lem : ∀ (ι0 : List Addr) (st0 : Sto) (ds : List D) (v : D) (s0 : Sto), Rep P w K ι0 H st0 → RDs K ι0 H ds vs → ds.length = ps.length → bodyD (callD tb gl n) gl ⟨ps.length, N.length, cSs ⟨N, own, gls, true⟩ (defScope st) 60 (defBody st)⟩ ds st0 = some (v, s0) → Ret P w K ι0 H Q v s0 →
        codeAny (model P w) A (.call (.ref fa) ⟨us, []⟩) (CR (fun _ _ _ _ _ _ => False) outer P w H s Q (fun _ _ _ => False)) s := by
      intro ι0 st0 ds v s0 R0 rd hdl e q
      have hlv : vs.length = ps.length := by rw [rd.length, hdl]
      have hlu : us.length = ps.length := by rw [← r.length, hlv]
      have spv : ∀ vs' H0 Q0 (E0 : XK), (vs' = vs ∧ H0 = H ∧ Q0 = Q) → vs'.length = ps.length := fun vs' _ _ _ h => by rw [h.1]; exact hlv
      have KX : K.In s.heap := e0.mod.kin.keeps fun b o e => (e0.bs b o e).1
      have lim : s.heap.NoLimit := e0.mod.nolimit.keeps fun b o e => (e0.bs b o e).1
      have hkind : ∀ y ∈ ps.zip us, (defScope st).names.lookup y.1 = some .local ∨ ((defScope st).names.lookup y.1 = some .cell ∧ ((cellsFrom (s.heap.objs.size + 1) (defScope st).names []).lookup y.1).isSome = true) := fun ⟨m, u⟩ hy => by
        rcases SC.par m (List.of_mem_zip hy).1 with q | q
        · exact .inl q
        · exact .inr ⟨q, PySem.W.cellsFrom_some _ _ _ (.inl q)⟩
      have hbd := hb s us KX (by simpa using hlu)
      rw [List.append_nil] at hbd
      refine codeAny_call_function hr.depth (KX _ _ lk) rfl SC.co SC.gen rfl (PySem.W.codeRec_of KX hcd) (hbd _ _ _ _ ?_)
      refine wpAny_newFunctionEnv_cells SC.kind hkind fun env he s1 x => ?_
      subst he
      refine ⟨lim.keeps x.toInCall.keep, codeAny_func ?_⟩
      have I := inv_start (CX := fun _ _ _ _ _ _ => False) (E := fun _ _ _ => False) SC hr.hd e0 hlv r x
      have S : Sim (callD tb gl n) gl ⟨N, own, gls, true⟩ (defScope st) ((cxOf (fun _ _ _ _ _ _ => False) P w K mg base N f (defScope st) fa cdv A outer s H (fun _ _ _ => False)).nox) := by
        have hd := hr.deeper (envOfC f (defScope st) s.heap.objs.size fa cdv)
        refine ⟨rfl, rfl, ⟨rfl, ?_, hg, SC.nd, rfl⟩, fun _ _ => rfl, T.nob, ⟨n, hd, ih⟩, T.cgl⟩
        have := hd.un
        show (A.deeper _).units + 200 < cLine
        omega
      have B := ((ok_s S SC.kind 60).2 (defBody st)).nox
      refine wpAny_mono (B.run [] s1 (L2.start N vs) H { nx := fun _ H' => Q .non H', rt := Q } I ?_) (fun fl s' hs => ?_) fun e s' hs => hs
      · rcases bodyD_some e with ⟨env, e⟩ | ⟨rfl, env, e⟩
        · exact ⟨ι0, _, st0, _, s0, repE_start (N := N) rd, R0, e, q⟩
        · exact ⟨ι0, _, st0, _, s0, repE_start (N := N) rd, R0, e, fun σ' H' ι' g R' hE' => q .non H' ι' g R' (by rw [RD])⟩
      · have fin : ∀ {σ' : L2.St} {H' : Hp} {v : V} {u : Value}, Inv (cxOf (fun _ _ _ _ _ _ => False) P w K mg base N f (defScope st) fa cdv A outer s H (fun _ _ _ => False)) [] σ' H' s' → RelV v u → Q v H' → CE outer P w H s Q u s' :=
          fun {σ' H' v u} J rv q => ⟨v, H', J.os, J.bare, J.base, J.hok, rv, q⟩
        cases fl with
        | ret u =>
          obtain ⟨v, σ', H', J, rv, q⟩ := hs
          exact fin J rv q
        | next =>
          obtain ⟨σ', H', J, q⟩ := hs
          exact fin (v := V.non) (u := Value.none) J rfl q
        | brk =>
          obtain ⟨_, _, _, q⟩ := hs
          exact False.elim q
        | cont =>
          obtain ⟨_, _, _, q⟩ := hs
          exact False.elim q
    obtain ⟨ι, st0, ds, d, s', R, rd, e, q⟩ := h
    rw [callD, htb] at e
    simp only at e
    split at e
    rotate_left
    · cases e
    rename_i hdl
    split at e
    · rename_i hpu
      split at e
      rotate_left
      · cases e
      rename_i v sub eb
      refine lem [] [] ds v sub (rep_nil H) (rd.pure ⟨fun _ _ e => e, fun _ _ e => e⟩ hpu) hdl eb fun vx H' ι' g' R' rdv => ?_
      have st : Stay K H H' := g'.stay (rep_nil (P := P) (w := w) H)
      have keep : ∀ a o, H a = some o → H' a = some o := fun a o e => g'.keep a o e (by simp)
      have hix : ∀ (i : Nat) (a : Addr), ι[i]? = some a → (ι ++ ι')[i]? = some a := fun i a e => by
        rw [List.getElem?_append_left (List.getElem?_eq_some_iff.mp e).1]; exact e
      have cell : ∀ {κ : List Addr}, (∀ (i : Nat) (a : Addr), ι[i]? = some a → κ[i]? = some a) → ∀ (i : Nat) (c : C) (a : Addr), st0[i]? = some c → ι[i]? = some a → CellAt P w K κ H' c a := fun hκ i c a e1 e2 => by
        have ce := R.cell i c a e1 e2
        obtain ⟨o, ho, _⟩ := ce.there
        exact ce.mono st hκ (by rw [ho]; exact keep a o ho)
      split at e
      · rename_i hvp
        cases e
        exact q vx H' ι ⟨⟨[], by simp, by simp⟩, fun a o e _ => keep a o e, fun a o u e => keep a _ e⟩ ⟨R.len, R.nd, cell fun _ _ e => e⟩ (rdv.pure ⟨fun _ _ e => e, fun _ _ e => e⟩ hvp)
      · simp only [Option.some.injEq, Prod.mk.injEq] at e
        obtain ⟨rfl, rfl⟩ := e
        obtain ⟨new, enew, hnew⟩ := g'.pre
        have enew : ι' = new := by simpa using enew
        subst enew
        refine q vx H' (ι ++ ι') ⟨⟨ι', rfl, hnew⟩, fun a o e _ => keep a o e, fun a o u e => keep a _ e⟩ ⟨by simp [R.len, R'.len], List.nodup_append.mpr ⟨R.nd, R'.nd, fun a ha b hb z => ?_⟩, fun i c a e e' => ?_⟩ ?_
        · subst z
          exact R.notNone (hnew a hb) ha
        · by_cases hi : i < st0.length
          · rw [List.getElem?_append_left hi] at e
            rw [List.getElem?_append_left (by rw [R.len]; exact hi)] at e'
            exact cell hix i c a e e'
          · rw [List.getElem?_append_right (by omega), List.getElem?_map, Option.map_eq_some_iff] at e
            rw [List.getElem?_append_right (by rw [R.len]; omega), R.len] at e'
            obtain ⟨c0, e1, rfl⟩ := e
            have := (R'.cell _ c0 a e1 e').shift ι
            rw [R.len] at this
            exact this
        · have := rdv.shift ι
          rw [R.len] at this
          exact this
    · exact lem ι st0 ds d s' R rd hdl e q
end
end Ev
end

section
set_option autoImplicit false
set_option maxRecDepth 100000
set_option linter.unusedVariables false
/-! Ev25: a law by its run -/
namespace Ev
open PySem L2 PySem.SeqAt PyProof.Rows PySem.Calls

section
variable {P : Program} {w : World} {K : PySem.W.Frag} {mg mb : Str → Option Value} {tb : Str → Option Fd} {gl : Str → Option D} {own gls : Str → Bool} {n : Nat}
/-- what the entry needs, for an abstract heap that holds at most the script -/
theorem enter_at {s₁ : Shared} {a fa : Addr} {vs : List Value} {ns : List Int} {H : Hp} (KX : K.In s₁.heap) (hns : s₁.heap.Ns mainGlobals mg) (hb : s₁.heap.Ns builtinsNs mb) (hbb : ∀ x : Str, x ≠ "__name__" → mb x = bootBuiltins x) (hlim : s₁.heap.NoLimit) (hg : s₁.gens = #[])
    (ha : s₁.heap.get? a = some { cls := .type "list", data := .seq vs.toArray }) (hr : Room n callerA) (F : ∀ base : Heap, FnG P w K mg base n fa (rCal P w K (callD tb gl n "law"))) (hlaw : callD tb gl n "law" [.scr ns] [] = some (.bl true, []))
    (hok : HOk P w H s₁.heap) (hro : RoL K H a (ns.map V.int)) (only : ∀ b u, H b = some u → b = a ∧ ∃ o xs, u = .frz o (.lst xs)) (hk : H a ≠ none → K.lookup a = none) :
    codeAny (model P w) callerA (.call (.ref fa) ⟨[.ref a], []⟩) (fun r s' => r = .ok (.ret (.bool true)) ∧ OldK s₁.heap s'.heap ∧ s'.os = s₁.os ∧ AllBare s'.gens) s₁ := by
  have free : ∀ {b : Addr} {o : Obj}, s₁.heap.get? b = some o → (∀ vs' n', o.data ≠ .seq vs' n') → H b = none := fun {b o} e nd => by
    cases q : H b with
    | none => rfl
    | some u =>
      obtain ⟨rfl, _⟩ := only b u q
      rw [ha] at e; cases e
      exact absurd rfl (nd _ _)
  have ns' : ∀ {b : Addr} {m : Str → Option Value}, s₁.heap.Ns b m → (hidT s₁.heap H).Ns b m := fun {b m} ⟨o, es, ep, e, d, r⟩ =>
    ⟨o, es, ep, hidT_get e (free e fun vs' n' z => by rw [d] at z; cases z), d, r⟩
  have kin : K.In (hidT s₁.heap H) := fun b o e => hidT_get (KX b o e) (by
    cases q : H b with
    | none => rfl
    | some u =>
      obtain ⟨rfl, _⟩ := only b u q
      rw [hk (by rw [q]; simp)] at e; cases e)
  have M : Mod K mg (hidT s₁.heap H) := ⟨kin, ns' hns, ⟨mb, ns' hb, hbb⟩, let ⟨mc, h1, h2⟩ := hlim; ⟨mc, ns' h1, h2⟩⟩
  have none_in : ∀ b : Addr, b ∉ frs ([] : List PySem.Env) := fun b z => by simp [frs] at z
  have e0 : Env0 P w K mg (hidT s₁.heap H) callerA [] s₁ H := ⟨rfl, M, fun b o e => of_hidT e, Nat.le_of_eq (hidT_size _ _), trivial, fun b z => absurd z (none_in b), hok, .of_eq hg⟩
  have sp : rCal P w K (callD tb gl n "law") [.ref a] H (fun v _ => v = .bl true) := ⟨[], [], [.scr ns], .bl true, [], rep_nil H, by
    rw [RDs]
    exact ⟨.ref a, [], rfl, by rw [RD]; exact ⟨a, rfl, hro⟩, by rw [RDs]⟩, hlaw, fun v H' ι' g R' rd => by rw [RD] at rd; exact rd⟩
  refine codeAny_mono (F _ callerA [] s₁ H [.ref a] [.ref a] _ hr rfl e0 (.cons rfl .nil) sp) fun r s' h => ?_
  cases r with
  | error e => exact False.elim h
  | ok fl =>
    cases fl with
    | next => exact False.elim h
    | brk => exact False.elim h
    | cont => exact False.elim h
    | ret u =>
      obtain ⟨v, H', os, bare, un, hok', rv, q⟩ := h
      have q : v = .bl true := q
      subst q
      obtain rfl : u = Value.bool true := rv
      refine ⟨rfl, OldK.of_keep fun b o e => ?_, os, bare⟩
      cases q : H b with
      | none => exact un.keep b o e q (none_in b) (by simp)
      | some u =>
        obtain ⟨_, ob, xs, rfl⟩ := only b u q
        have := un.frzs b ob _ q
        obtain ⟨e1, _⟩ := hok b _ q
        obtain ⟨e2, _⟩ := hok' b _ this
        rw [e] at e1; cases e1
        exact e2
end
/-- THE HEAD -/
theorem walkEv {l : PySem.W.OpenLaw} {q : Program} {loose : List Str} {XP : (Str → Option Value) → Heap → Prop} {YP : World → Heap → Prop} {d : DefRec} {K : Params → PySem.W.Frag} {tb : Str → Option Fd} {gl : Str → Option D} {own gls : Str → Bool} {n : Nat}
    (hn : l.most = some 63) (hdf : d.params.defaults = []) (hd : d.name = "law") (hY : ∀ (w : World) (h : Heap), YP w h → (K w.params).In h)
    (T : ∀ (w : World) (mg : Str → Option Value) (h : Heap), (K w.params).In h → h.Ns mainGlobals mg → Tab l.prog w (K w.params) mg tb gl own gls) (hown : own "law" = true) (hr : Room n callerA)
    (hlaw : ∀ ns : List Int, ns.length ≤ 63 → callD tb gl n "law" [.scr ns] [] = some (.bl true, [])) :
    PySem.W.WalkO q loose XP YP l.row.toRowW d [] (fun f vs => PySem.call f vs) := by
  refine Att.attach_call hn hdf fun w s₀ s₁ mg mb fa o pm cd doc a vs ns G Y ho hd' hcd hmg hobj hints hlen hg => ?_
  have KX := hY w _ Y
  have T1 := T w mg _ KX G.T.g
  have F : ∀ base : Heap, FnG l.prog w (K w.params) mg base n fa (rCal l.prog w (K w.params) (callD tb gl n "law")) := fun base => by
    obtain ⟨fa', hm, _, F⟩ := fnG_all (base := base) T1 n "law" hown
    rw [hd, hm] at hmg
    cases hmg
    exact F
  have rv := vals_ints hints
  have hl : (ns.map V.int).length ≤ sizeLine := by
    rw [List.length_map, sizeLine_eq]
    omega
  have hlv : vs.length = ns.length := hints.length
  cases hk : (K w.params).lookup a with
  | some oa =>
    have e := KX a oa hk
    rw [hobj] at e
    cases e
    exact enter_at (H := fun _ => none) KX G.T.g G.T.b G.T.builtins G.T.nolimit hg hobj hr F (hlaw ns hlen) (fun b u z => nomatch (show (none : Option HO) = some u from z))
      (.inr ⟨_, vs.toArray, _, hk, rfl, rfl, rfl, by rw [List.size_toArray, hlv]; simpa using hl, by simpa using rv⟩) (fun b u z => nomatch (show (none : Option HO) = some u from z)) fun z => absurd rfl z
  | none =>
    have at_a : ∀ (b : Addr) (u : HO), (if b = a then some (HO.frz { cls := .type "list", data := .seq vs.toArray } (.lst (ns.map V.int))) else none) = some u → b = a ∧ u = .frz { cls := .type "list", data := .seq vs.toArray } (.lst (ns.map V.int)) := fun b u z => by
      by_cases h : b = a
      · rw [if_pos h] at z
        exact ⟨h, (Option.some.inj z).symm⟩
      · rw [if_neg h] at z
        cases z
    refine enter_at (H := fun b => if b = a then some (.frz { cls := .type "list", data := .seq vs.toArray } (.lst (ns.map V.int))) else none) KX G.T.g G.T.b G.T.builtins G.T.nolimit hg hobj hr F (hlaw ns hlen) (fun b u z => ?_)
      (.inl ⟨_, if_pos rfl⟩) (fun b u z => ?_) fun _ => hk
    · obtain ⟨rfl, rfl⟩ := at_a b u z
      exact ⟨hobj, hl, vs, _, rv, hobj⟩
    · obtain ⟨rfl, rfl⟩ := at_a b u z
      exact ⟨rfl, _, _, rfl⟩
end Ev
end

section
set_option autoImplicit false
set_option maxRecDepth 100000
set_option linter.unusedVariables false
/-! Ev26: to reckon with runs -/
namespace Ev
open PySem L2

section
variable {cl : Str → List D → Sto → Option (D × Sto)} {gl : Str → Option D} {env : Env} {s : Sto}
/-- a slot's value -/
def look (env : Env) (i : Nat) : Option D := (env[i]?).join
@[simp] theorem look_zero {d : D} {r : Env} : look (some d :: r) 0 = some d := rfl
@[simp] theorem look_succ {o : Option D} {r : Env} {i : Nat} : look (o :: r) (i + 1) = look r i := rfl
@[simp] theorem r_var {i : Nat} : evE cl gl (.var i) env s = (look env i).map fun d => (d, s) := by
  rw [evE]
  unfold look
  cases h : env[i]? with
  | none => rfl
  | some o => cases o <;> rfl
@[simp] theorem r_lit {d : D} : evE cl gl (.lit d) env s = some (d, s) := by rw [evE]
@[simp] theorem r_tup {es : List E} : evE cl gl (.tup es) env s = bnd (evEs cl gl es env s) fun ds s => newT s ds := by rw [evE]
@[simp] theorem r_lst {es : List E} : evE cl gl (.lst es) env s = bnd (evEs cl gl es env s) fun ds s => newL s ds := by rw [evE]
@[simp] theorem r_dct {es : List E} : evE cl gl (.dct es) env s = bnd (evEs cl gl es env s) fun ds s => (pairUp [] ds).map fun kvs => (.ref s.length, s ++ [.dct kvs]) := by rw [evE]
@[simp] theorem r_bin {op : Operator} {a b : E} : evE cl gl (.bin op a b) env s = bnd (evE cl gl a env s) fun x s => bnd (evE cl gl b env s) fun y s => binD op x y s := by rw [evE]
@[simp] theorem r_neg {a : E} : evE cl gl (.neg a) env s = bnd (evE cl gl a env s) fun x s => match x with
    | .int i => some (.int (-i), s)
    | _ => none := by rw [evE] <;> rfl
@[simp] theorem r_not {a : E} : evE cl gl (.not a) env s = bnd (evE cl gl a env s) fun x s => match x with
    | .bl b => some (.bl (!b), s)
    | _ => none := by rw [evE] <;> rfl
@[simp] theorem r_cmp {op : CmpOp} {a b : E} : evE cl gl (.cmp op a b) env s = bnd (evE cl gl a env s) fun x s => bnd (evE cl gl b env s) fun y s => (cmpD op x y s).map fun k => (.bl k, s) := by rw [evE]
@[simp] theorem r_cmp2 {op op' : CmpOp} {a b c : E} : evE cl gl (.cmp2 op op' a b c) env s = bnd (evE cl gl a env s) fun x s => bnd (evE cl gl b env s) fun y s => (cmpD op x y s).bind fun k => if k then bnd (evE cl gl c env s) fun z s => (cmpD op' y z s).map fun k => (.bl k, s) else some (.bl false, s) := by rw [evE]
@[simp] theorem r_and {a b : E} : evE cl gl (.and a b) env s = bnd (evE cl gl a env s) fun x s => match x with
    | .bl true => evE cl gl b env s
    | .bl false => some (.bl false, s)
    | _ => none := by rw [evE] <;> rfl
@[simp] theorem r_or {a b : E} : evE cl gl (.or a b) env s = bnd (evE cl gl a env s) fun x s => match x with
    | .bl true => some (.bl true, s)
    | .bl false => evE cl gl b env s
    | _ => none := by rw [evE] <;> rfl
@[simp] theorem r_ite {c a b : E} : evE cl gl (.ite c a b) env s = bnd (evE cl gl c env s) fun x s => match x with
    | .bl true => evE cl gl a env s
    | .bl false => evE cl gl b env s
    | _ => none := by rw [evE] <;> rfl
@[simp] theorem r_idx {a b : E} : evE cl gl (.idx a b) env s = bnd (evE cl gl a env s) fun x s => bnd (evE cl gl b env s) fun y s => idxD x y s := by rw [evE]
@[simp] theorem r_slc {a : E} {l h : Option E} : evE cl gl (.slc a l h) env s = bnd (evE cl gl a env s) fun x s => bnd (evO cl gl l env s) fun l s => bnd (evO cl gl h env s) fun h s => slcD x l h s := by rw [evE]
@[simp] theorem r_rev {a : E} : evE cl gl (.rev a) env s = bnd (evE cl gl a env s) fun x s => revD x s := by rw [evE]
@[simp] theorem r_call {f : Str} {es : List E} : evE cl gl (.call f es) env s = bnd (evEs cl gl es env s) fun ds s => cl f ds s := by rw [evE]
@[simp] theorem r_bif {f : B} {es : List E} : evE cl gl (.bif f es) env s = bnd (evEs cl gl es env s) fun ds s => bifD f ds s := by rw [evE]
@[simp] theorem r_mth {m : Mt} {o : E} {es : List E} : evE cl gl (.mth m o es) env s = bnd (evE cl gl o env s) fun x s => if mthOk m x s then bnd (evEs cl gl es env s) fun ds s => mthD m x ds s else none := by rw [evE]
@[simp] theorem r_star {a : E} : evE cl gl (.star a) env s = bnd (evE cl gl a env s) fun x s => (itemsD x s).map fun ds => (.tup ds, s) := by rw [evE]
@[simp] theorem r_comp {own : List Nat} {t : T} {it : Ev.It} {elt : E} {c : Option E} : evE cl gl (.comp own t it elt c) env s = bnd (evI cl gl it env s) fun g s =>
      bnd (compL (evE cl gl elt) (evC cl gl c) t (wipeD env own) g g.items [] (lockS g s)) fun acc s1 => some (.ref (unlockS g s s1).length, unlockS g s s1 ++ [.lst acc]) := by rw [evE]
@[simp] theorem r_nil : evEs cl gl [] env s = some ([], s) := by rw [evEs]
@[simp] theorem r_cons {e : E} {es : List E} : evEs cl gl (e :: es) env s = bnd (evE cl gl e env s) fun d s => bnd (evEs cl gl es env s) fun ds s => some (if e.isStar then d.spl ++ ds else d :: ds, s) := by rw [evEs]
@[simp] theorem r_onone : evO cl gl none env s = some (none, s) := by rw [evO]
@[simp] theorem r_osome {e : E} : evO cl gl (some e) env s = bnd (evE cl gl e env s) fun x s => match x with
    | .int i => some (some i, s)
    | _ => none := by rw [evO] <;> rfl
@[simp] theorem r_cnone : evC cl gl none env s = some (.bl true, s) := by rw [evC]
@[simp] theorem r_csome {e : E} : evC cl gl (some e) env s = evE cl gl e env s := by rw [evC]
@[simp] theorem r_range1 {a : E} : evI cl gl (.range1 a) env s = bnd (evE cl gl a env s) fun x s => match x with
    | .int hi => (srcRange 0 hi).map fun g => (g, s)
    | _ => none := by rw [evI] <;> rfl
@[simp] theorem r_range2 {a b : E} : evI cl gl (.range2 a b) env s = bnd (evE cl gl a env s) fun x s => bnd (evE cl gl b env s) fun y s => match x, y with
    | .int lo, .int hi => (srcRange lo hi).map fun g => (g, s)
    | _, _ => none := by rw [evI] <;> rfl
@[simp] theorem r_items {a : E} : evI cl gl (.items a) env s = bnd (evE cl gl a env s) fun x s => (srcItems x s).map fun g => (g, s) := by rw [evI]
@[simp] theorem r_seq {a : E} : evI cl gl (.seq a) env s = bnd (evE cl gl a env s) fun x s => (srcOf x s).map fun g => (g, s) := by rw [evI]

@[simp] theorem q_asg {t : T} {e : E} : evS cl gl (.asg t e) env s = bnd (evE cl gl e env s) fun d s => (setT s t d env).map fun env => ((.nx, env), s) := by rw [evS]
@[simp] theorem q_seti {o i v : E} : evS cl gl (.seti o i v) env s = bnd (evE cl gl v env s) fun d s => bnd (evE cl gl o env s) fun x s => bnd (evE cl gl i env s) fun k s => (setD x k d s).map fun s => ((.nx, env), s) := by rw [evS]
@[simp] theorem q_ex {e : E} : evS cl gl (.ex e) env s = bnd (evE cl gl e env s) fun _ s => some ((.nx, env), s) := by rw [evS]
@[simp] theorem q_ret {e : E} : evS cl gl (.ret (some e)) env s = bnd (evE cl gl e env s) fun d s => some ((.rt d, env), s) := by rw [evS]
@[simp] theorem q_retN : evS cl gl (.ret none) env s = some ((.rt .non, env), s) := by rw [evS]
@[simp] theorem q_ite {c : E} {a b : List S} : evS cl gl (.ite c a b) env s = bnd (evE cl gl c env s) fun x s => match x with
    | .bl true => evSs cl gl a env s
    | .bl false => evSs cl gl b env s
    | _ => none := by rw [evS] <;> rfl
theorem q_whl {c : E} {b : List S} : evS cl gl (.whl c b) env s = whlL (evE cl gl c) (evSs cl gl b) turnsMost env s := by rw [evS]
theorem q_for {t : T} {it : Ev.It} {b : List S} : evS cl gl (.for t it b) env s = bnd (evI cl gl it env s) fun g s => bnd (forL (evSs cl gl b) t g g.items env (lockS g s)) fun r s1 => some (r, unlockS g s s1) := by rw [evS]
@[simp] theorem q_brk : evS cl gl .brk env s = some ((.bk, env), s) := by rw [evS]
@[simp] theorem q_cnt : evS cl gl .cnt env s = some ((.ct, env), s) := by rw [evS]
@[simp] theorem q_pass : evS cl gl .pass env s = some ((.nx, env), s) := by rw [evS]
@[simp] theorem q_nil : evSs cl gl [] env s = some ((.nx, env), s) := by rw [evSs]
@[simp] theorem q_cons {st : S} {sts : List S} : evSs cl gl (st :: sts) env s = bnd (evS cl gl st env s) fun r s => match r with
    | (.nx, env) => evSs cl gl sts env s
    | (f, env) => some ((f, env), s) := by rw [evSs] <;> rfl
/-- a step whose outcome is known -/
theorem q_step {st : S} {sts : List S} {env' : Env} {s' : Sto} (h : evS cl gl st env s = some ((.nx, env'), s')) : evSs cl gl (st :: sts) env s = evSs cl gl sts env' s' := by rw [q_cons, h]; rfl
@[simp] theorem t_nm {i : Nat} {d : D} : setT s (.nm i) d env = some (env.set i (some d)) := by rw [setT]
@[simp] theorem t_tp {ts : List T} {ds : List D} : setT s (.tp ts) (.tup ds) env = setTs s ts ds env := by rw [setT]; rfl
@[simp] theorem t_nil : setTs s [] [] env = some env := by rw [setTs]
@[simp] theorem t_cons {t : T} {ts : List T} {d : D} {ds : List D} : setTs s (t :: ts) (d :: ds) env = (setT s t d env).bind fun env => setTs s ts ds env := by rw [setTs]
@[simp] theorem bnd_map_some {α β : Type} {a : α} {s : Sto} {o : Option D} {f : D → Sto → Option β} {d : D} (h : o = some d) : bnd (o.map fun d => (d, s)) f = f d s := by rw [h]; rfl
end

/-! ### calls -/
section
variable {tb : Str → Option Fd} {gl : Str → Option D} {n : Nat} {f : Str} {fd : Fd} {ds : List D} {s s' : Sto} {d : D}
/-- a call with values alone that yields one -/
theorem callP (h : tb f = some fd) (hl : ds.length = fd.params) (hp : D.pures ds = true) {v : D} {sub : Sto} (hb : bodyD (callD tb gl n) gl fd ds [] = some (v, sub)) (hv : v.pure = true) : callD tb gl (n + 1) f ds s = some (v, s) := by
  rw [callD, h]
  simp only [hl, if_true, hp, hb, hv]
/-- .. that yields new things -/
theorem callQ (h : tb f = some fd) (hl : ds.length = fd.params) (hp : D.pures ds = true) {v : D} {sub : Sto} (hb : bodyD (callD tb gl n) gl fd ds [] = some (v, sub)) (hv : v.pure = false) : callD tb gl (n + 1) f ds s = some (v.shift s.length, s ++ sub.map (C.shift s.length)) := by
  rw [callD, h]
  simp only [hl, if_true, hp, hb, hv]
  rfl
/-- a call with things -/
theorem callR' (h : tb f = some fd) (hl : ds.length = fd.params) (hp : D.pures ds = false) : callD tb gl (n + 1) f ds s = bodyD (callD tb gl n) gl fd ds s := by
  rw [callD, h]
  simp only [hl, if_true, hp]
  rfl
theorem body_rt {cl : Str → List D → Sto → Option (D × Sto)} {v : D} {env : Env} (h : evSs cl gl fd.body (ds.map some ++ List.replicate (fd.slots - ds.length) none) s = some ((.rt v, env), s')) : bodyD cl gl fd ds s = some (v, s') := by
  unfold bodyD
  rw [h]
end

/-! ### ints, tuples of ints -/
def tupI (xs : List Int) : D := .tup (xs.map .int)
theorem pures_ints : ∀ xs : List Int, D.pures (xs.map .int) = true
  | [] => rfl
  | x :: xs => by rw [List.map_cons, D.pures, pures_ints xs]; rfl
@[simp] theorem pure_tupI (xs : List Int) : (tupI xs).pure = true := by rw [tupI, D.pure, pures_ints]
theorem dataWs_ints (r : Nat → Option PyData) : ∀ xs : List Int, D.dataWs r (xs.map .int) = some (xs.map .int)
  | [] => rfl
  | x :: xs => by rw [List.map_cons, D.dataWs, dataWs_ints r xs]; rfl
@[simp] theorem data_tupI (s : Sto) (xs : List Int) : (tupI xs).data s = some (.tuple (xs.map .int)) := by
  rw [tupI, D.data, D.dataW, dataWs_ints]; rfl
theorem canLay_ints : ∀ xs : List Int, PyData.canLayAll0 (xs.map .int) = true
  | [] => rfl
  | x :: xs => by rw [List.map_cons, PyData.canLayAll0, canLay_ints xs]; rfl
theorem depth_ints : ∀ xs : List Int, PyData.depthAll (xs.map .int) = 0
  | [] => rfl
  | x :: xs => by rw [List.map_cons, PyData.depthAll, depth_ints xs]; rfl
end Ev
end

section
set_option autoImplicit false
set_option maxRecDepth 100000
set_option linter.unusedVariables false
/-! Ev27: tuples of ints: equal, keys, sorted, shown -/
namespace Ev
open PySem L2

theorem eqv_ints : ∀ a b : List Int, PyData.eqvAll (a.map .int) (b.map .int) = decide (a = b)
  | [], [] => rfl
  | [], _ :: _ => rfl
  | _ :: _, [] => rfl
  | x :: xs, y :: ys => by
    rw [List.map_cons, List.map_cons, PyData.eqvAll, PyData.eqv, eqv_ints xs ys]
    by_cases h : x = y <;> by_cases h' : xs = ys <;> simp [h, h']
theorem farL_tup (s : Sto) (a b : List D) : farL s (.tup a) (.tup b) = false := rfl
@[simp] theorem eqD_tupI (s : Sto) (a b : List Int) : eqD s (tupI a) (tupI b) = some (decide (a = b)) := by
  unfold eqD
  have : farL s (tupI a) (tupI b) = false := rfl
  rw [this]
  simp only [Bool.false_eq_true, if_false, data_tupI, Option.bind_some]
  have h1 : (PyData.tuple (a.map .int)).canLay0 = true := by rw [PyData.canLay0, canLay_ints]
  have h2 : (PyData.tuple (b.map .int)).canLay0 = true := by rw [PyData.canLay0, canLay_ints]
  have h3 : (PyData.tuple (a.map .int)).depth = 1 := by rw [PyData.depth, depth_ints]
  have h4 : (PyData.tuple (b.map .int)).depth = 1 := by rw [PyData.depth, depth_ints]
  rw [h1, h2, h3, h4]
  simp [deepMost, PyData.eqv, eqv_ints]
  rfl
@[simp] theorem eqD_int (s : Sto) (a b : Int) : eqD s (.int a) (.int b) = some (decide (a = b)) := by
  unfold eqD
  have : farL s (.int a) (.int b) = false := rfl
  rw [this]
  simp [D.data, D.dataW, PyData.canLay0, PyData.depth, PyData.eqv, deepMost]
  rfl
@[simp] theorem eqD_str (s : Sto) (a b : Str) : eqD s (.str a) (.str b) = some (decide (a = b)) := by
  rfl

/-! ### keys -/
theorem nks_ints : ∀ xs : List Int, D.nks (xs.map .int) = some (xs.map .num)
  | [] => rfl
  | x :: xs => by rw [List.map_cons, D.nks, nks_ints xs]; rfl
theorem nk_tupI (xs : List Int) : (tupI xs).nk = some (.tup (xs.map .num)) := by rw [tupI, D.nk, nks_ints]; rfl
theorem depthAll_nums : ∀ xs : List Int, NestedKey.depthAll (xs.map .num) = 0
  | [] => rfl
  | x :: xs => by rw [List.map_cons, NestedKey.depthAll, depthAll_nums xs]; rfl
theorem tupK_tupI (xs : List Int) : tupK (tupI xs) = true := by
  rw [tupI, tupK]
  simp only [nks_ints]
  rw [decide_eq_true_eq, NestedKey.depth, depthAll_nums]
  omega
/-- a dict whose keys are tuples of ints -/
def dI {α : Type} (f : α → D) (m : List (List Int × α)) : List (D × D) := m.map fun p => (tupI p.1, f p.2)
theorem tupI_inj {a b : List Int} (h : tupI a = tupI b) : a = b := by
  unfold tupI at h
  have h := D.tup.inj h
  exact List.map_inj_right (fun x y e => D.int.inj e) |>.mp h
theorem keyFits_dI {α : Type} (f : α → D) (m : List (List Int × α)) (xs : List Int) : keyFits (dI f m) (tupI xs) = true := by
  unfold keyFits
  rw [tupK_tupI]
  have : (dI f m).all (fun kv => tupK kv.1) = true := by
    rw [List.all_eq_true]
    intro p hp
    obtain ⟨q, _, rfl⟩ := List.mem_map.mp hp
    exact tupK_tupI q.1
  rw [this]
  simp
/-- look up, put -/
def lkI {α : Type} (m : List (List Int × α)) (x : List Int) : Option α := (m.find? fun p => decide (p.1 = x)).map (·.2)
def puI {α : Type} (m : List (List Int × α)) (x : List Int) (c : α) : List (List Int × α) :=
  if (m.any fun p => decide (p.1 = x)) = true then m.map (fun p => if p.1 = x then (p.1, c) else p) else m ++ [(x, c)]
theorem dget_dI {α : Type} (f : α → D) (m : List (List Int × α)) (x : List Int) : dget (dI f m) (tupI x) = (lkI m x).map f := by
  unfold dget lkI dI
  induction m with
  | nil => rfl
  | cons p m ih =>
    rw [List.map_cons]
    by_cases h : p.1 = x
    · simp [h]
    · have h' : ¬ tupI p.1 = tupI x := fun z => h (tupI_inj z)
      simp only [List.find?_cons, decide_eq_false h, decide_eq_false h']
      exact ih
theorem dput_dI {α : Type} (f : α → D) (m : List (List Int × α)) (x : List Int) (c : α) : dput (dI f m) (tupI x) (f c) = dI f (puI m x c) := by
  have hany : ((dI f m).any fun kv => decide (kv.1 = tupI x)) = (m.any fun p => decide (p.1 = x)) := by
    unfold dI
    rw [List.any_map]
    congr 1
    funext p
    simp only [Function.comp]
    by_cases h : p.1 = x
    · simp [h]
    · rw [decide_eq_false h, decide_eq_false fun z => h (tupI_inj z)]
  unfold dput puI
  rw [hany]
  split
  · unfold dI
    rw [List.map_map, List.map_map]
    refine List.map_congr_left fun p _ => ?_
    simp only [Function.comp]
    by_cases h : p.1 = x
    · rw [if_pos h, if_pos (by rw [h])]
    · rw [if_neg h, if_neg fun z => h (tupI_inj z)]
  · unfold dI
    rw [List.map_append]
    rfl

/-! ### sorted -/
def leI (a b : List Int) : Bool := decide (a ≤ b)
def sortI (l : List (List Int)) : List (List Int) := l.mergeSort leI
theorem sortI_perm (l : List (List Int)) : (sortI l).Perm l := List.mergeSort_perm _ _
theorem leI_trans (a b c : List Int) (h : leI a b = true) (h' : leI b c = true) : leI a c = true := by
  unfold leI at *
  rw [decide_eq_true_eq] at *
  exact List.le_trans h h'
theorem leI_total (a b : List Int) : (leI a b || leI b a) = true := by
  unfold leI
  rw [Bool.or_eq_true, decide_eq_true_eq, decide_eq_true_eq]
  exact List.le_total a b
theorem sortI_sorted (l : List (List Int)) : (sortI l).Pairwise (fun a b => leI a b = true) := List.pairwise_mergeSort leI_trans leI_total l
theorem leI_anti {a b : List Int} (h : leI a b = true) (h' : leI b a = true) : a = b := by
  unfold leI at *
  rw [decide_eq_true_eq] at *
  exact List.le_antisymm h h'
/-- there is but one sorted list -/
theorem sorted_uniq {l m : List (List Int)} (hl : l.Pairwise (fun a b => leI a b = true)) (hm : m.Pairwise (fun a b => leI a b = true)) (h : l.Perm m) : l = m :=
  List.Perm.eq_of_pairwise (fun _ _ _ _ h h' => leI_anti h h') hl hm h
theorem alike_ints : ∀ a b : List Int, PySem.W.alikeAll (a.map .int) (b.map .int) = true
  | [], b => by rw [List.map_nil, PySem.W.alikeAll]
  | _ :: _, [] => by rw [List.map_nil, List.map_cons, PySem.W.alikeAll]
  | x :: xs, y :: ys => by rw [List.map_cons, List.map_cons, PySem.W.alikeAll, alike_ints xs ys, PySem.W.alike]; rfl
theorem dataWs_tups (r : Nat → Option PyData) : ∀ l : List (List Int), D.dataWs r (l.map tupI) = some (l.map fun a => .tuple (a.map .int))
  | [] => rfl
  | a :: l => by
    rw [List.map_cons, D.dataWs, dataWs_tups r l, tupI, D.dataW, dataWs_ints]
    rfl
theorem sortD_tups (s : Sto) (l : List (List Int)) : sortD s (l.map tupI) = some ((sortI l).map tupI) := by
  unfold sortD dataAll
  rw [dataWs_tups]
  simp only [Option.bind_some]
  rw [if_pos]
  · congr 1
    have hz : (l.map tupI).zip (l.map fun a => PyData.tuple (a.map .int)) = l.map fun a => (tupI a, PyData.tuple (a.map .int)) := by
      induction l with
      | nil => rfl
      | cons a l ih => rw [List.map_cons, List.map_cons, List.zip_cons_cons, ih, List.map_cons]
    rw [hz, sortI]
    rw [← List.map_mergeSort (r := leI) (s := fun p q : D × PyData => !PySem.W.dataLt q.2 p.2) (f := fun a => (tupI a, PyData.tuple (a.map .int)))]
    · rw [List.map_map]
      simp
    · intro a _ b _
      show leI a b = !PySem.W.dataLt (.tuple (b.map .int)) (.tuple (a.map .int))
      rw [PySem.W.dataLt_tuple]
      have := PySem.W.dataLt_ints b a
      unfold PySem.W.rowLt at this
      rw [this]
      unfold leI
      by_cases h : b < a
      · have h' : ¬ a ≤ b := fun z => List.not_lt.mpr z h
        simp [h, h']
      · have h' : a ≤ b := List.not_lt.mp h
        simp [h, h']
  · simp only [Bool.and_eq_true, List.all_eq_true, List.mem_map, decide_eq_true_eq]
    refine ⟨⟨?_, ?_⟩, ?_⟩
    · rintro _ ⟨a, _, rfl⟩ _ ⟨b, _, rfl⟩
      rw [PySem.W.alike, alike_ints]
    · rintro _ ⟨a, _, rfl⟩
      rfl
    · rintro _ ⟨a, _, rfl⟩
      rw [PyData.depth, depth_ints]
      decide

/-! ### shown -/
theorem shown_int {i : Int} (h : i.natAbs < 10 ^ 20) : (PyData.shown (.int i)).length ≤ 21 := by
  rw [PyData.shown]
  have := int_text_length_le10 (a := i) (k := 20) (by decide) h
  rw [ofString_length]
  exact this
theorem shownAll_length : ∀ xs : List PyData, (PyData.shownAll xs).length = xs.length
  | [] => rfl
  | x :: xs => by rw [PyData.shownAll, List.length_cons, List.length_cons, shownAll_length xs]
theorem sum_le {B : Nat} : ∀ {l : List Nat}, (∀ n ∈ l, n ≤ B) → l.sum ≤ B * l.length
  | [], _ => by simp
  | n :: l, h => by
    rw [List.sum_cons, List.length_cons, Nat.mul_succ]
    have h1 := h n (List.mem_cons_self ..)
    have h2 : l.sum ≤ B * l.length := sum_le fun m hm => h m (List.mem_cons_of_mem _ hm)
    omega
theorem mem_shownAll {t : Str} : ∀ {xs : List PyData}, t ∈ PyData.shownAll xs → ∃ x ∈ xs, t = x.shown
  | [], h => by rw [PyData.shownAll] at h; cases h
  | x :: xs, h => by
    rw [PyData.shownAll] at h
    rcases List.mem_cons.mp h with rfl | h
    · exact ⟨x, List.mem_cons_self .., rfl⟩
    · obtain ⟨y, hy, e⟩ := mem_shownAll h
      exact ⟨y, List.mem_cons_of_mem _ hy, e⟩
/-- a tuple's text is no longer than its items' -/
theorem shown_tuple {xs : List PyData} {B n : Nat} (hB : ∀ x ∈ xs, x.shown.length ≤ B) (hn : xs.length ≤ n) : (PyData.shown (.tuple xs)).length ≤ (B + 2) * n + 3 := by
  rw [PyData.shown]
  have h1 := tupleText_len_le (PyData.shownAll xs)
  have h2 : ((PyData.shownAll xs).map (·.length)).sum ≤ B * ((PyData.shownAll xs).map (·.length)).length := sum_le fun m hm => by
    obtain ⟨t, ht, rfl⟩ := List.mem_map.mp hm
    obtain ⟨x, hx, rfl⟩ := mem_shownAll ht
    exact hB x hx
  rw [List.length_map, shownAll_length] at h2
  rw [shownAll_length] at h1
  have h3 : B * xs.length ≤ B * n := Nat.mul_le_mul_left B hn
  have h4 : (B + 2) * n = B * n + 2 * n := Nat.add_mul ..
  omega
theorem showAll_ints : ∀ {xs : List Int}, (∀ i ∈ xs, i.natAbs < 10 ^ 20) → PyData.showableAll (xs.map .int) = true
  | [], _ => rfl
  | x :: xs, h => by
    rw [List.map_cons, PyData.showableAll, showAll_ints fun i hi => h i (List.mem_cons_of_mem _ hi), PyData.showable]
    have := h x (List.mem_cons_self ..)
    have h2 : x.natAbs.log2 < 1920 := by
      by_cases h0 : x.natAbs = 0
      · rw [h0]; decide
      · rw [Nat.log2_lt h0]
        exact Nat.lt_of_lt_of_le this (Nat.le_trans (show 10 ^ 20 ≤ 2 ^ 100 by decide) (Nat.pow_le_pow_right (by decide) (by decide)))
    simp [h2]
theorem noDict_ints : ∀ xs : List Int, PyData.hasDictAll (xs.map .int) = false
  | [] => rfl
  | x :: xs => by rw [List.map_cons, PyData.hasDictAll, noDict_ints xs]; rfl
/-- an int's text -/
theorem repr_int {i : Int} (h : i.natAbs < 10 ^ 20) : ∃ r, ∀ s, reprD s (.int i) = some r := by
  refine ⟨PyData.shown (.int i), fun s => ?_⟩
  unfold reprD
  have hs : PyData.showable (.int i) = true := by
    have := showAll_ints (xs := [i]) (fun j hj => by rw [List.mem_singleton] at hj; subst hj; exact h)
    rw [List.map_cons, List.map_nil, PyData.showableAll, PyData.showableAll, Bool.and_true] at this
    exact this
  have hl := shown_int h
  have hl2 : (PyData.shown (.int i)).length ≤ L := Nat.le_trans hl (by decide)
  show (if _ then _ else _) = _
  rw [if_pos]
  simp only [hs, Bool.true_and, Bool.and_eq_true, decide_eq_true_eq, Bool.not_eq_true']
  exact ⟨⟨rfl, Nat.zero_le _⟩, hl2⟩
/-- a row: little things with counts -/
def rowD (l : List (List Int × Nat)) : D := .tup (l.map fun p => .tup [tupI p.1, .int p.2])
theorem data_row (s : Sto) (l : List (List Int × Nat)) : (rowD l).data s = some (.tuple (l.map fun p => .tuple [.tuple (p.1.map .int), .int p.2])) := by
  have : ∀ r : Nat → Option PyData, D.dataWs r (l.map fun p => .tup [tupI p.1, .int p.2]) = some (l.map fun p => .tuple [.tuple (p.1.map .int), .int p.2]) := fun r => by
    induction l with
    | nil => rfl
    | cons p l ih =>
      rw [List.map_cons, D.dataWs, ih, D.dataW, D.dataWs, D.dataWs, D.dataWs, tupI, D.dataW.eq_5, dataWs_ints]
      rfl
  unfold rowD D.data
  rw [D.dataW, this]
  rfl
theorem repr_row {l : List (List Int × Nat)} (hl : l.length ≤ 5000) (hp : ∀ p ∈ l, p.1.length ≤ 30 ∧ (∀ i ∈ p.1, i.natAbs < 10 ^ 20) ∧ p.2 < 10 ^ 20) : ∃ r, ∀ s, reprD s (rowD l) = some r := by
  refine ⟨PyData.shown (.tuple (l.map fun p => .tuple [.tuple (p.1.map .int), .int p.2])), fun s => ?_⟩
  unfold reprD
  rw [data_row]
  simp only [Option.bind_some]
  have h1 : ∀ p ∈ l, (PyData.shown (.tuple [.tuple (p.1.map .int), .int p.2])).length ≤ (693 + 2) * 2 + 3 := fun p hp' => by
    obtain ⟨a, b, c⟩ := hp p hp'
    refine shown_tuple (fun x hx => ?_) (by simp)
    simp only [List.mem_cons, List.not_mem_nil, or_false] at hx
    rcases hx with rfl | rfl
    · refine Nat.le_trans (shown_tuple (B := 21) (n := 30) (fun x hx => ?_) (by rw [List.length_map]; exact a)) (by decide)
      obtain ⟨i, hi, rfl⟩ := List.mem_map.mp hx
      exact shown_int (b i hi)
    · refine Nat.le_trans (shown_int (by simpa using c)) (by decide)
  have h2 := shown_tuple (xs := l.map fun p => PyData.tuple [.tuple (p.1.map .int), .int p.2]) (B := (693 + 2) * 2 + 3) (n := 5000) (fun x hx => by
    obtain ⟨p, hp', rfl⟩ := List.mem_map.mp hx
    exact h1 p hp') (by rw [List.length_map]; exact hl)
  have h3 : ∀ (m : List (List Int × Nat)), (∀ p ∈ m, p ∈ l) → PyData.showableAll (m.map fun p => .tuple [.tuple (p.1.map .int), .int p.2]) = true ∧ PyData.hasDictAll (m.map fun p => .tuple [.tuple (p.1.map .int), .int p.2]) = false ∧
      PyData.depthAll (m.map fun p => .tuple [.tuple (p.1.map .int), .int p.2]) ≤ 2 := fun m => by
    induction m with
    | nil => intro _; exact ⟨rfl, rfl, by simp [PyData.depthAll]⟩
    | cons p m ih =>
      intro hm
      obtain ⟨i1, i2, i3⟩ := ih fun q hq => hm q (List.mem_cons_of_mem _ hq)
      obtain ⟨a, b, c⟩ := hp p (hm p (List.mem_cons_self ..))
      have hs := showAll_ints b
      have hc := showAll_ints (xs := [(p.2 : Int)]) (fun j hj => by rw [List.mem_singleton] at hj; subst hj; simpa using c)
      rw [List.map_cons, List.map_nil] at hc
      refine ⟨?_, ?_, ?_⟩
      · rw [List.map_cons, PyData.showableAll, i1, PyData.showable, PyData.showableAll, PyData.showable, hs, hc]
        rfl
      · rw [List.map_cons, PyData.hasDictAll, i2, PyData.hasDict, PyData.hasDictAll, PyData.hasDict, noDict_ints, PyData.hasDictAll, PyData.hasDictAll, PyData.hasDict]
        rfl
      · rw [List.map_cons, PyData.depthAll, PyData.depth, PyData.depthAll, PyData.depth, depth_ints, PyData.depthAll, PyData.depthAll, PyData.depth]
        omega
  obtain ⟨s1, s2, s3⟩ := h3 l fun _ h => h
  rw [if_pos]
  simp only [Bool.and_eq_true, decide_eq_true_eq, Bool.not_eq_true']
  refine ⟨⟨⟨by rw [PyData.showable]; exact s1, by rw [PyData.hasDict]; exact s2⟩, ?_⟩, Nat.le_trans h2 (by decide)⟩
  rw [PyData.depth]
  show _ ≤ 100
  omega
end Ev
end

section
set_option autoImplicit false
set_option linter.unusedVariables false
/-! U1: values with lists and dicts within (no store), and what runs ask of them -/
namespace Ev
open PySem

inductive U where
  | non | bl (b : Bool) | int (i : Int) | str (x : Str) | tup (us : List U) | lst (us : List U) | dct (kvs : List (D × U))
  /-- the source of picks -/
  | src
  | scr (is : List Int)
deriving Inhabited
/-- a slot: nothing, a value, a thing that nothing else holds -/
inductive Sl where
  | no | val (u : U) | own (u : U)
deriving Inhabited
def Sl.u : Sl → U
  | .no => .non
  | .val u => u
  | .own u => u
abbrev UEnv := List Sl
inductive FU where
  | nx | rt (u : U) | bk | ct

def ok {α : Type} (o : Option α) (Q : α → Prop) : Prop := ∃ a, o = some a ∧ Q a
@[simp] theorem ok_some {α : Type} {a : α} {Q : α → Prop} : ok (some a) Q = Q a := by simp [ok]
@[simp] theorem ok_none {α : Type} {Q : α → Prop} : ok none Q = False := by simp [ok]
@[simp] theorem ok_map {α β : Type} {o : Option α} {f : α → β} {Q : β → Prop} : ok (o.map f) Q = ok o fun a => Q (f a) := by cases o <;> simp
@[simp] theorem ok_bind {α β : Type} {o : Option α} {f : α → Option β} {Q : β → Prop} : ok (o.bind f) Q = ok o fun a => ok (f a) Q := by cases o <;> simp
@[simp] theorem ok_if {α : Type} {c : Prop} [Decidable c] {o o' : Option α} {Q : α → Prop} : ok (if c then o else o') Q = if c then ok o Q else ok o' Q := by split <;> rfl

mutual
def U.toD : U → Option D
  | .non => some .non
  | .bl b => some (.bl b)
  | .int i => some (.int i)
  | .str x => some (.str x)
  | .tup us => (U.toDs us).map .tup
  | _ => none
def U.toDs : List U → Option (List D)
  | [] => some []
  | u :: us => (u.toD).bind fun d => (U.toDs us).map fun ds => d :: ds
end
mutual
def D.toU : D → U
  | .non => .non
  | .bl b => .bl b
  | .int i => .int i
  | .str x => .str x
  | .tup ds => .tup (D.toUs ds)
  | .ref _ => .src
  | .scr is => .scr is
def D.toUs : List D → List U
  | [] => []
  | d :: ds => d.toU :: D.toUs ds
end
mutual
def U.dataF : Nat → U → Option PyData
  | _, .non => some .none
  | _, .bl b => some (.bool b)
  | _, .int i => some (.int i)
  | _, .str x => some (.str x)
  | n, .tup us => (U.dataFs n us).map .tuple
  | n, .lst us => match n with
    | 0 => none
    | n + 1 => (U.dataFs n us).map .list
  | n, .dct kvs => match n with
    | 0 => none
    | _ + 1 => if kvs.isEmpty then some (.dict []) else none
  | _, .src => none
  | _, .scr _ => none
def U.dataFs : Nat → List U → Option (List PyData)
  | _, [] => some []
  | n, u :: us => (u.dataF n).bind fun x => (U.dataFs n us).map fun xs => x :: xs
end
def U.data (u : U) : Option PyData := u.dataF 40
def dataAllU (us : List U) : Option (List PyData) := U.dataFs 40 us
def farU : U → U → Bool
  | .lst x, .lst y => !(x.length == y.length)
  | _, _ => false
def twoStrU : U → U → Option (Str × Str)
  | .str x, .str y => some (x, y)
  | _, _ => none
def eqU (a b : U) : Option Bool :=
  match twoStrU a b with
  | some (x, y) => some (decide (x = y))
  | none =>
  if farU a b then some false else
  (a.data).bind fun x => (b.data).bind fun y => if x.canLay0 && y.canLay0 && decide (min x.depth y.depth ≤ deepMost) then some (x.eqv y) else none
def ltU (a b : U) : Option Bool :=
  (a.data).bind fun x => (b.data).bind fun y => if PySem.W.alike x y && notNone x && decide (min x.depth y.depth ≤ deepMost) then some (PySem.W.dataLt x y) else none
def reprU (d : U) : Option Str :=
  (d.data).bind fun x => if x.showable && !x.hasDict && decide (x.depth ≤ deepMost) && decide (x.shown.length ≤ L) then some x.shown else none
def sortU (us : List U) : Option (List U) :=
  (dataAllU us).bind fun xs => if xs.all (fun x => xs.all fun y => PySem.W.alike x y) && xs.all notNone && xs.all (fun x => decide (x.depth ≤ deepMost)) then
    some (((us.zip xs).mergeSort fun p q => !PySem.W.dataLt q.2 p.2).map (·.1)) else none

/-! keys -/
def kf (ks : List D) (k : D) : Bool := (atomK k && ks.all atomK) || (tupK k && ks.all tupK)
theorem keyFits_kf (kvs : List (D × D)) (k : D) : keyFits kvs k = kf (kvs.map (·.1)) k := by
  simp only [keyFits, kf, List.all_map]; rfl
def keyFitsU (kvs : List (D × U)) (k : D) : Bool := kf (kvs.map (·.1)) k
def dgetU (kvs : List (D × U)) (k : D) : Option U := (kvs.find? fun kv => decide (kv.1 = k)).map (·.2)
def dputU (kvs : List (D × U)) (k : D) (v : U) : List (D × U) :=
  if (kvs.any fun kv => decide (kv.1 = k)) = true then kvs.map (fun kv => if kv.1 = k then (kv.1, v) else kv) else kvs ++ [(k, v)]

def newLU (us : List U) : Option Sl := if us.length ≤ L then some (.own (.lst us)) else none
def newTU (us : List U) : Option Sl := if us.length ≤ L then some (.val (.tup us)) else none
def binU (op : Operator) (x y : U) : Option Sl :=
  match op, x, y with
  | .Add, .int i, .int j => some (.val (.int (i + j)))
  | .Sub, .int i, .int j => some (.val (.int (i - j)))
  | .Mult, .int i, .int j => if mulOk i j then some (.val (.int (i * j))) else none
  | .FloorDiv, .int i, .int j => if divOk j then some (.val (.int (i.fdiv j))) else none
  | .Mod, .int i, .int j => if divOk j then some (.val (.int (i.fmod j))) else none
  | .Add, .tup a, .tup b => newTU (a ++ b)
  | .Add, .str a, .str b => if (a ++ b).length ≤ L then some (.val (.str (a ++ b))) else none
  | .Add, .lst a, .lst b => newLU (a ++ b)
  | _, _, _ => none
def inSeqU (x : U) (us : List U) : Option Bool :=
  (dataAllU us).bind fun ys => (x.data).bind fun dx => if dx.canLay0 && ys.all (fun y => y.canLay0 && decide (min y.depth dx.depth ≤ deepMost)) then some (ys.any fun y => y.eqv dx) else none
def inU (x y : U) : Option Bool :=
  match y with
  | .tup us => inSeqU x us
  | .lst us => inSeqU x us
  | .dct kvs => (x.toD).bind fun k => if keyFitsU kvs k then some (dgetU kvs k).isSome else none
  | _ => none
def isNonU : U → Bool
  | .non => true
  | _ => false
def cmpU (op : CmpOp) (x y : U) : Option Bool :=
  match op with
  | .Eq => eqU x y
  | .NotEq => (eqU x y).map (!·)
  | .Is => match y with
    | .non => some (isNonU x)
    | _ => none
  | .IsNot => match y with
    | .non => some (!isNonU x)
    | _ => none
  | .In => inU x y
  | .NotIn => (inU x y).map (!·)
  | op => match x, y with
    | .int i, .int j => cmpI op i j
    | .tup _, .tup _ => match op with
      | .Lt => ltU x y
      | _ => none
    | _, _ => none
def idxU (x y : U) : Option U :=
  match x, y with
  | .tup us, .int i => L2.atI us i
  | .lst us, .int i => L2.atI us i
  | .dct kvs, k => (k.toD).bind fun k => if keyFitsU kvs k then dgetU kvs k else none
  | _, _ => none
def cutU (us : List U) (lo hi : Option Int) : List U := (us.drop (HT.sIx us.length 0 lo)).take (HT.sIx us.length us.length hi - HT.sIx us.length 0 lo)
def slcU (x : U) (lo hi : Option Int) : Option Sl :=
  match x with
  | .tup us => some (.val (.tup (cutU us lo hi)))
  | .lst us => some (.own (.lst (cutU us lo hi)))
  | _ => none
def revU (x : U) : Option Sl :=
  match x with
  | .tup us => some (.val (.tup us.reverse))
  | .lst us => some (.own (.lst us.reverse))
  | _ => none
def itemsU (x : U) : Option (List U) :=
  match x with
  | .tup us => some us
  | .lst us => some us
  | _ => none
def keysU (kvs : List (D × U)) : List U := kvs.map fun kv => kv.1.toU
def seqU (x : U) : Option (List U) :=
  match x with
  | .tup us => some us
  | .lst us => some us
  | .dct kvs => some (keysU kvs)
  | _ => none
def itemsOfU (x : U) : Option (List U) :=
  match x with
  | .dct kvs => some (kvs.map fun kv => .tup [kv.1.toU, kv.2])
  | _ => none
def rangeU (lo hi : Int) : Option (List U) :=
  if -1000000 ≤ lo ∧ lo ≤ 1000000 ∧ -1000000 ≤ hi ∧ hi ≤ 1000000 then some ((List.range (hi - lo).toNat).map fun i : Nat => U.int (lo + i)) else none
def intsU : List U → Option (List Int)
  | [] => some []
  | .int i :: us => (intsU us).map (i :: ·)
  | _ => none
def boolsU : List U → Option (List Bool)
  | [] => some []
  | .bl b :: us => (boolsU us).map (b :: ·)
  | _ => none
def pairsU : List U → Option (List (D × U))
  | [] => some []
  | .tup [k, v] :: us => (k.toD).bind fun k => (pairsU us).map ((k, v) :: ·)
  | _ => none
def putAllU : List (D × U) → List (D × U) → Option (List (D × U))
  | acc, [] => some acc
  | acc, p :: ps => if keyFitsU acc p.1 then putAllU (dputU acc p.1 p.2) ps else none
def pairUpU : List (D × U) → List U → Option (List (D × U))
  | acc, [] => some acc
  | acc, k :: v :: r => (k.toD).bind fun k => if keyFitsU acc k && decide (acc.length < 15) then pairUpU (dputU acc k v) r else none
  | _, _ => none
def dictOfU (us : List U) : Option Sl := (pairsU us).bind fun ps => (putAllU [] ps).map fun kvs => .own (.dct kvs)
def bifU (f : B) (xs : List U) : Option Sl :=
  match f, xs with
  | .dict, [.tup us] => dictOfU us
  | .dict, [.lst us] => dictOfU us
  | .len, [.tup us] => some (.val (.int us.length))
  | .len, [.lst us] => some (.val (.int us.length))
  | .len, [.dct kvs] => some (.val (.int kvs.length))
  | .int, [.int i] => some (.val (.int i))
  | .int, [.bl b] => some (.val (.int (if b then 1 else 0)))
  | .abs, [.int i] => some (.val (.int i.natAbs))
  | .tuple, [.tup us] => some (.val (.tup us))
  | .tuple, [.lst us] => some (.val (.tup us))
  | .list, [.tup us] => some (.own (.lst us))
  | .list, [.lst us] => some (.own (.lst us))
  | .sorted, [.lst us] => (sortU us).map fun us => .own (.lst us)
  | .sorted, [.tup us] => (sortU us).map fun us => .own (.lst us)
  | .sorted, [.dct kvs] => (sortU (keysU kvs)).map fun us => .own (.lst us)
  | .sum, [.lst us] => (intsU us).map fun is => .val (.int is.sum)
  | .all, [.lst us] => (boolsU us).map fun bs => .val (.bl (bs.all id))
  | .any, [.lst us] => (boolsU us).map fun bs => .val (.bl (bs.any id))
  | .max, [.int i, .int j] => some (.val (.int (if i < j then j else i)))
  | .min, [.int i, .int j] => some (.val (.int (if j < i then j else i)))
  | .repr, [x] => (reprU x).map fun t => .val (.str t)
  | _, _ => none
def getU (x k d : U) : Option U :=
  match x with
  | .dct kvs => (k.toD).bind fun k => if keyFitsU kvs k then some ((dgetU kvs k).getD d) else none
  | _ => none
/-- append, extend, pop: what comes back, and what is left -/
def mutU (m : Mt) (us : List U) (xs : List U) : Option (U × List U) :=
  match m, xs with
  | .append, [u] => if us.length < L then some (.non, us ++ [u]) else none
  | .extend, [.lst es] => if us.length + es.length ≤ L then some (.non, us ++ es) else none
  | .pop, [] => us.getLast?.map fun u => (u, us.dropLast)
  | .pop, [.int i] => (ixD us.length i).bind fun j => us[j]?.map fun u => (u, us.eraseIdx j)
  | _, _ => none
/-- what is handed is only looked at -/
def Mt.pk : Mt → Bool
  | .extend => true
  | _ => false
/-- x[k] = v -/
def setU (x k v : U) : Option U :=
  match x, k with
  | .lst us, .int i => (ixD us.length i).map fun j => .lst (us.set j v)
  | .dct kvs, k => (k.toD).bind fun k => if keyFitsU kvs k && decide (kvs.length < L) then some (.dct (dputU kvs k v)) else none
  | _, _ => none
def U.spl : U → List U
  | .tup us => us
  | _ => []
mutual
def setTU : T → Sl → UEnv → Option UEnv
  | .nm i, d, env => some (env.set i d)
  | .tp ts, d, env => match itemsU d.u with
    | some us => setTsU ts us env
    | none => none
def setTsU : List T → List U → UEnv → Option UEnv
  | [], [], env => some env
  | t :: ts, u :: us, env => (setTU t (.val u) env).bind fun env => setTsU ts us env
  | _, _, _ => none
end
def wipeU (env : UEnv) : List Nat → UEnv
  | [] => env
  | v :: vs => (wipeU env vs).set v .no
/-- stored in slots, each as it is -/
def setSls : List T → List Sl → UEnv → Option UEnv
  | [], [], env => some env
  | .nm i :: ts, d :: ds, env => setSls ts ds (env.set i d)
  | _, _, _ => none

abbrev PT := (U → Prop) → Prop
def wComp (elt : UEnv → (Sl → UEnv → Prop) → Prop) (c : UEnv → (Sl → UEnv → Prop) → Prop) (t : T) (env : UEnv) : List U → List U → (List U → Prop) → Prop
  | [], acc, Q => Q acc
  | u :: us, acc, Q => ok (setTU t (.val u) env) fun env1 => c env1 fun b env2 => env2 = env1 ∧ match b.u with
      | .bl true => elt env1 fun x env2 => env2 = env1 ∧ wComp elt c t env us (acc ++ [x.u]) Q
      | .bl false => wComp elt c t env us acc Q
      | _ => False

section
variable (cw : Str → List U → PT) (gu : Str → Option U)
mutual
/-- pk: the value is looked at and let go -/
def wE (pk : Bool) : E → UEnv → (Sl → UEnv → Prop) → Prop
  | .var i, env, Q => match env[i]? with
    | some (.val u) => Q (.val u) env
    | some (.own u) => if pk then Q (.val u) env else Q (.val u) (env.set i (.val u))
    | _ => False
  | .lit d, env, Q => Q (.val d.toU) env
  | .gl x, env, Q => ok (gu x) fun u => Q (.val u) env
  | .tup es, env, Q => wEs false es env fun ds env => ok (newTU (ds.map Sl.u)) fun r => Q r env
  | .lst es, env, Q => wEs false es env fun ds env => ok (newLU (ds.map Sl.u)) fun r => Q r env
  | .star e, env, Q => wE true e env fun x env => ok (itemsU x.u) fun us => Q (.val (.tup us)) env
  | .dct es, env, Q => wEs false es env fun ds env => ok (pairUpU [] (ds.map Sl.u)) fun kvs => Q (.own (.dct kvs)) env
  | .bin op a b, env, Q => wE true a env fun x env => wE true b env fun y env => ok (binU op x.u y.u) fun r => Q r env
  | .neg a, env, Q => wE true a env fun x env => match x.u with
    | .int i => Q (.val (.int (-i))) env
    | _ => False
  | .not a, env, Q => wE true a env fun x env => match x.u with
    | .bl b => Q (.val (.bl (!b))) env
    | _ => False
  | .cmp op a b, env, Q => wE true a env fun x env => wE true b env fun y env => ok (cmpU op x.u y.u) fun k => Q (.val (.bl k)) env
  | .cmp2 op op' a b c, env, Q => wE true a env fun x env => wE true b env fun y env => ok (cmpU op x.u y.u) fun k =>
      if k then wE true c env fun z env => ok (cmpU op' y.u z.u) fun k => Q (.val (.bl k)) env else Q (.val (.bl false)) env
  | .and a b, env, Q => wE true a env fun x env => match x.u with
    | .bl true => wE false b env Q
    | .bl false => Q (.val (.bl false)) env
    | _ => False
  | .or a b, env, Q => wE true a env fun x env => match x.u with
    | .bl true => Q (.val (.bl true)) env
    | .bl false => wE false b env Q
    | _ => False
  | .ite c a b, env, Q => wE true c env fun x env => match x.u with
    | .bl true => wE false a env Q
    | .bl false => wE false b env Q
    | _ => False
  | .idx a i, env, Q => wE true a env fun x env => wE true i env fun y env => ok (idxU x.u y.u) fun u => Q (.val u) env
  | .slc a lo hi, env, Q => wE true a env fun x env => wO lo env fun l env => wO hi env fun h env => ok (slcU x.u l h) fun r => Q r env
  | .rev a, env, Q => wE true a env fun x env => ok (revU x.u) fun r => Q r env
  | .call f es, env, Q => wEs false es env fun ds env => cw f (ds.map Sl.u) fun u => Q (.val u) env
  | .bif f es, env, Q => wEs true es env fun ds env => ok (bifU f (ds.map Sl.u)) fun r => Q r env
  | .mth m o es, env, Q => match m with
    | .get => wE true o env fun x env => wEs false es env fun ds env => match x.u with
      | .dct _ => match ds with
        | [k, d] => ok (getU x.u k.u d.u) fun u => Q (.val u) env
        | _ => False
      | _ => False
    | .index => False
    | m => match o with
      | .var i => match env[i]? with
        | some (.own (.lst _)) => wEs (Mt.pk m) es env fun ds env => match env[i]? with
          | some (.own (.lst us)) => ok (mutU m us (ds.map Sl.u)) fun r => Q (.val r.1) (env.set i (.own (.lst r.2)))
          | _ => False
        | _ => False
      | _ => False
  | .isi _ _, _, _ => False
  | .bifI _ _, _, _ => False
  | .comp own t it elt c, env, Q => wI it env fun us env =>
      wComp (fun env Q => wE false elt env Q) (fun env Q => wC c env Q) t (wipeU env own) us [] fun acc => Q (.own (.lst acc)) env
def wEs (pk : Bool) : List E → UEnv → (List Sl → UEnv → Prop) → Prop
  | [], env, Q => Q [] env
  | e :: es, env, Q => wE pk e env fun d env => wEs pk es env fun ds env => Q (if e.isStar then d.u.spl.map Sl.val ++ ds else d :: ds) env
def wO : Option E → UEnv → (Option Int → UEnv → Prop) → Prop
  | none, env, Q => Q none env
  | some e, env, Q => wE true e env fun x env => match x.u with
    | .int i => Q (some i) env
    | _ => False
def wC : Option E → UEnv → (Sl → UEnv → Prop) → Prop
  | none, env, Q => Q (.val (.bl true)) env
  | some e, env, Q => wE false e env Q
def wI : It → UEnv → (List U → UEnv → Prop) → Prop
  | .range1 a, env, Q => wE true a env fun x env => match x.u with
    | .int hi => ok (rangeU 0 hi) fun us => Q us env
    | _ => False
  | .range2 a b, env, Q => wE true a env fun x env => wE true b env fun y env => match x.u, y.u with
    | .int lo, .int hi => ok (rangeU lo hi) fun us => Q us env
    | _, _ => False
  | .items a, env, Q => wE false a env fun x env => ok (itemsOfU x.u) fun us => Q us env
  | .zip _ _, _, _ => False
  | .enum _, _, _ => False
  | .seq e, env, Q => wE false e env fun x env => ok (seqU x.u) fun us => Q us env
end

def wFor (body : UEnv → (FU → UEnv → Prop) → Prop) (t : T) : List U → UEnv → (FU → UEnv → Prop) → Prop
  | [], env, Q => Q .nx env
  | u :: us, env, Q => ok (setTU t (.val u) env) fun env => body env fun r env => match r with
      | .nx => wFor body t us env Q
      | .ct => wFor body t us env Q
      | .bk => Q .nx env
      | .rt v => Q (.rt v) env
def wWhl (test : UEnv → (Sl → UEnv → Prop) → Prop) (body : UEnv → (FU → UEnv → Prop) → Prop) : Nat → UEnv → (FU → UEnv → Prop) → Prop
  | 0, _, _ => False
  | n + 1, env, Q => test env fun b env => match b.u with
    | .bl true => body env fun r env => match r with
      | .nx => wWhl test body n env Q
      | .ct => wWhl test body n env Q
      | .bk => Q .nx env
      | .rt v => Q (.rt v) env
    | .bl false => Q .nx env
    | _ => False
/-- a, b = x, y: each as it is -/
def nmAll : List T → Bool
  | [] => true
  | .nm _ :: ts => nmAll ts
  | _ => false
mutual
def wS : S → UEnv → (FU → UEnv → Prop) → Prop
  | .asg t e, env, Q => match t, e with
    | .tp ts, .tup es => if nmAll ts && !es.any (·.isStar) && decide (es.length ≤ 1000) then wEs cw gu false es env fun ds env => ok (setSls ts ds env) fun env => Q .nx env
        else wE cw gu false (.tup es) env fun d env => ok (setTU (.tp ts) d env) fun env => Q .nx env
    | t, e => wE cw gu false e env fun d env => ok (setTU t d env) fun env => Q .nx env
  | .seti o i v, env, Q => wE cw gu false v env fun d env => match o with
    | .var j => wE cw gu true i env fun k env => match env[j]? with
      | some (.own x) => ok (setU x k.u d.u) fun x => Q .nx (env.set j (.own x))
      | _ => False
    | _ => False
  | .ex e, env, Q => wE cw gu true e env fun _ env => Q .nx env
  | .ret (some e), env, Q => wE cw gu false e env fun d env => Q (.rt d.u) env
  | .ret none, env, Q => Q (.rt .non) env
  | .ite c a b, env, Q => wE cw gu true c env fun x env => match x.u with
    | .bl true => wSs a env Q
    | .bl false => wSs b env Q
    | _ => False
  | .whl c b, env, Q => wWhl (fun env Q => wE cw gu true c env Q) (fun env Q => wSs b env Q) turnsMost env Q
  | .for t it b, env, Q => wI cw gu it env fun us env => wFor (fun env Q => wSs b env Q) t us env Q
  | .brk, env, Q => Q .bk env
  | .cnt, env, Q => Q .ct env
  | .pass, env, Q => Q .nx env
  | .stuck, _, _ => False
def wSs : List S → UEnv → (FU → UEnv → Prop) → Prop
  | [], env, Q => Q .nx env
  | st :: sts, env, Q => wS st env fun r env => match r with
    | .nx => wSs sts env Q
    | f => Q f env
end
def wBody (fd : Fd) (us : List U) (Q : U → Prop) : Prop :=
  wSs cw gu fd.body (us.map Sl.val ++ List.replicate (fd.slots - us.length) .no) fun r _ => match r with
    | .rt u => Q u
    | .nx => Q .non
    | _ => False
end
/-- a call; prim: what is known of defs by other roads -/
def callW (tb : Str → Option Fd) (gu : Str → Option U) (prim : Str → Option (Nat → List U → PT)) : Nat → Str → List U → PT
  | 0, _, _, _ => False
  | n + 1, f, us, Q => match prim f with
    | some P => P n us Q
    | none => match tb f with
      | none => False
      | some fd => us.length = fd.params ∧ wBody (callW tb gu prim n) gu fd us Q

/-! what is asked of the text: nothing is changed while it is looked at -/
def E.isVar : E → Bool
  | .var _ => true
  | _ => false
mutual
def E.mut : E → Bool
  | .var _ => false
  | .lit _ => false
  | .gl _ => false
  | .tup es => E.muts es
  | .lst es => E.muts es
  | .star e => e.mut
  | .dct es => E.muts es
  | .bin _ a b => a.mut || b.mut
  | .neg a => a.mut
  | .not a => a.mut
  | .cmp _ a b => a.mut || b.mut
  | .cmp2 _ _ a b c => a.mut || b.mut || c.mut
  | .and a b => a.mut || b.mut
  | .or a b => a.mut || b.mut
  | .ite a b c => a.mut || b.mut || c.mut
  | .idx a b => a.mut || b.mut
  | .slc a l h => a.mut || E.mutO l || E.mutO h
  | .rev a => a.mut
  | .call _ es => E.muts es
  | .bif _ es => E.muts es
  | .mth m o es => (match m with | .get => false | _ => true) || o.mut || E.muts es
  | .isi e _ => e.mut
  | .bifI _ it => It.mut it
  | .comp _ _ it elt c => It.mut it || elt.mut || E.mutO c
def E.muts : List E → Bool
  | [] => false
  | e :: es => e.mut || E.muts es
def E.mutO : Option E → Bool
  | none => false
  | some e => e.mut
def It.mut : It → Bool
  | .seq e => e.mut
  | .range1 a => a.mut
  | .range2 a b => a.mut || b.mut
  | .items a => a.mut
  | .zip a b => a.mut || b.mut
  | .enum a => a.mut
end
mutual
def E.safe : E → Bool
  | .var _ => true
  | .lit d => d.pure && (match d with | .tup _ => false | _ => true)
  | .gl _ => true
  | .tup es => E.safes es
  | .lst es => E.safes es
  | .star e => e.safe
  | .dct es => E.safes es
  | .bin _ a b => a.safe && b.safe && !b.mut
  | .neg a => a.safe
  | .not a => a.safe
  | .cmp _ a b => a.safe && b.safe && !b.mut
  | .cmp2 _ _ a b c => a.safe && b.safe && c.safe && !b.mut && !c.mut
  | .and a b => a.safe && b.safe
  | .or a b => a.safe && b.safe
  | .ite a b c => a.safe && b.safe && c.safe
  | .idx a b => a.safe && b.safe && !b.mut
  | .slc a l h => a.safe && E.safeO l && E.safeO h && !E.mutO l && !E.mutO h
  | .rev a => a.safe
  | .call _ es => E.safes es
  | .bif _ es => E.safes es && !E.muts es
  | .mth m o es => o.safe && E.safes es && ((match m with | .get => !E.muts es | .extend => !E.muts es | _ => true))
  | .isi e _ => e.safe
  | .bifI _ it => It.safe it
  | .comp _ _ it elt c => It.safe it && elt.safe && E.safeO c && !elt.mut && !E.mutO c
def E.safes : List E → Bool
  | [] => true
  | e :: es => e.safe && E.safes es
def E.safeO : Option E → Bool
  | none => true
  | some e => e.safe
def It.safe : It → Bool
  | .seq e => e.safe
  | .range1 a => a.safe
  | .range2 a b => a.safe && b.safe && !b.mut
  | .items a => a.safe
  | .zip a b => a.safe && b.safe && !b.mut
  | .enum a => a.safe
end
mutual
def S.safe : S → Bool
  | .asg _ e => e.safe
  | .seti o i v => o.safe && i.safe && v.safe && !i.mut
  | .ex e => e.safe
  | .ret none => true
  | .ret (some e) => e.safe
  | .ite c a b => c.safe && S.safes a && S.safes b
  | .whl c b => c.safe && S.safes b
  | .for _ it b => It.safe it && S.safes b
  | _ => true
def S.safes : List S → Bool
  | [] => true
  | s :: ss => s.safe && S.safes ss
end
end Ev
end

section
set_option autoImplicit false
set_option linter.unusedVariables false
/-! U2: a value with its things within, and how it lies in a store -/
namespace Ev
open PySem

mutual
/-- u lies as d in s, nothing of it among X -/
inductive Rp (sr : Option (Nat × Nat)) (X : Nat → Prop) (s : Sto) : U → D → Prop
  | non : Rp sr X s .non .non
  | bl {b : Bool} : Rp sr X s (.bl b) (.bl b)
  | int {i : Int} : Rp sr X s (.int i) (.int i)
  | str {x : Str} : Rp sr X s (.str x) (.str x)
  | scr {is : List Int} : Rp sr X s (.scr is) (.scr is)
  | tup {us : List U} {ds : List D} : ds.length ≤ L → Rps sr X s us ds → Rp sr X s (.tup us) (.tup ds)
  | lst {us : List U} {ds : List D} {i : Nat} : s[i]? = some (.lst ds) → ¬ X i → ds.length ≤ L → Rps sr X s us ds → Rp sr X s (.lst us) (.ref i)
  | dct {kus : List (D × U)} {kds : List (D × D)} {c : C} {i : Nat} : s[i]? = some c → c.kvs = some kds → ¬ X i → kds.length ≤ L → Rpk sr X s kus kds → Rp sr X s (.dct kus) (.ref i)
  | src {r i : Nat} : sr = some (r, i) → Rp sr X s .src (.ref r)
inductive Rps (sr : Option (Nat × Nat)) (X : Nat → Prop) (s : Sto) : List U → List D → Prop
  | nil : Rps sr X s [] []
  | cons {u : U} {d : D} {us : List U} {ds : List D} : Rp sr X s u d → Rps sr X s us ds → Rps sr X s (u :: us) (d :: ds)
inductive Rpk (sr : Option (Nat × Nat)) (X : Nat → Prop) (s : Sto) : List (D × U) → List (D × D) → Prop
  | nil : Rpk sr X s [] []
  | cons {k : D} {u : U} {d : D} {kus : List (D × U)} {kds : List (D × D)} : Rp sr X s k.toU k → Rp sr X s u d → Rpk sr X s kus kds → Rpk sr X s ((k, u) :: kus) ((k, d) :: kds)
end
def C.core : C → C
  | .lck kvs => .dct kvs
  | c => c
theorem core_lst {c : C} {ds : List D} (h : c.core = .lst ds) : c = .lst ds := by cases c <;> simp_all [C.core]
theorem core_kvs {c c' : C} (h : c'.core = c.core) : c'.kvs = c.kvs := by cases c <;> cases c' <;> simp_all [C.core, C.kvs]
section
variable {sr : Option (Nat × Nat)} {X X' : Nat → Prop} {s s' : Sto}
mutual
theorem Rp.mono (h1 : ∀ j, X' j → X j ∨ s.length ≤ j) (h2 : ∀ j c, ¬ X j → s[j]? = some c → ∃ c', s'[j]? = some c' ∧ c'.core = c.core) : ∀ {u : U} {d : D}, Rp sr X s u d → Rp sr X' s' u d
  | _, _, .non => .non
  | _, _, .bl => .bl
  | _, _, .int => .int
  | _, _, .str => .str
  | _, _, .scr => .scr
  | _, _, .tup hl h => .tup hl (Rps.mono h1 h2 h)
  | _, _, .lst (i := i) e hx hl h => by
    obtain ⟨c', e1, e2⟩ := h2 _ _ hx e
    have := core_lst (c := c') e2
    subst this
    refine .lst e1 (fun z => ?_) hl (Rps.mono h1 h2 h)
    rcases h1 _ z with z | z
    · exact hx z
    · have := (List.getElem?_eq_some_iff.1 e).1; omega
  | _, _, .dct (i := i) e hk hx hl h => by
    obtain ⟨c', e1, e2⟩ := h2 _ _ hx e
    refine .dct e1 (by rw [core_kvs e2, hk]) (fun z => ?_) hl (Rpk.mono h1 h2 h)
    rcases h1 _ z with z | z
    · exact hx z
    · have := (List.getElem?_eq_some_iff.1 e).1; omega
  | _, _, .src e => .src e
theorem Rps.mono (h1 : ∀ j, X' j → X j ∨ s.length ≤ j) (h2 : ∀ j c, ¬ X j → s[j]? = some c → ∃ c', s'[j]? = some c' ∧ c'.core = c.core) : ∀ {us : List U} {ds : List D}, Rps sr X s us ds → Rps sr X' s' us ds
  | _, _, .nil => .nil
  | _, _, .cons h t => .cons (Rp.mono h1 h2 h) (Rps.mono h1 h2 t)
theorem Rpk.mono (h1 : ∀ j, X' j → X j ∨ s.length ≤ j) (h2 : ∀ j c, ¬ X j → s[j]? = some c → ∃ c', s'[j]? = some c' ∧ c'.core = c.core) : ∀ {us : List (D × U)} {ds : List (D × D)}, Rpk sr X s us ds → Rpk sr X' s' us ds
  | _, _, .nil => .nil
  | _, _, .cons k h t => .cons (Rp.mono h1 h2 k) (Rp.mono h1 h2 h) (Rpk.mono h1 h2 t)
end
theorem Rp.weak {u : U} {d : D} (h : Rp sr X s u d) (h1 : ∀ j, X' j → X j) : Rp sr X' s u d := h.mono (fun j z => .inl (h1 j z)) fun j c _ e => ⟨c, e, rfl⟩
theorem Rps.weak {us : List U} {ds : List D} (h : Rps sr X s us ds) (h1 : ∀ j, X' j → X j) : Rps sr X' s us ds := h.mono (fun j z => .inl (h1 j z)) fun j c _ e => ⟨c, e, rfl⟩
theorem Rpk.weak {us : List (D × U)} {ds : List (D × D)} (h : Rpk sr X s us ds) (h1 : ∀ j, X' j → X j) : Rpk sr X' s us ds := h.mono (fun j z => .inl (h1 j z)) fun j c _ e => ⟨c, e, rfl⟩
theorem app_keep {u : Sto} : ∀ (j : Nat) (c : C), s[j]? = some c → ∃ c', (s ++ u)[j]? = some c' ∧ c'.core = c.core := fun j c e => ⟨c, by rw [List.getElem?_append_left (List.getElem?_eq_some_iff.1 e).1]; exact e, rfl⟩
theorem Rps.length {us : List U} {ds : List D} (h : Rps sr X s us ds) : us.length = ds.length := by
  induction us generalizing ds with
  | nil => cases h; rfl
  | cons u us ih => cases h with | cons h t => simp [ih t]
theorem Rpk.length {us : List (D × U)} {ds : List (D × D)} (h : Rpk sr X s us ds) : us.length = ds.length := by
  induction us generalizing ds with
  | nil => cases h; rfl
  | cons u us ih => cases h with | cons _ h t => simp [ih t]
theorem Rpk.keys {us : List (D × U)} {ds : List (D × D)} (h : Rpk sr X s us ds) : us.map (·.1) = ds.map (·.1) := by
  induction us generalizing ds with
  | nil => cases h; rfl
  | cons u us ih => cases h with | cons _ h t => simp [ih t]
theorem Rps.append {us us' : List U} {ds ds' : List D} (h : Rps sr X s us ds) (h' : Rps sr X s us' ds') : Rps sr X s (us ++ us') (ds ++ ds') := by
  induction us generalizing ds with
  | nil => cases h; exact h'
  | cons u us ih => cases h with | cons h t => exact .cons h (ih t)
theorem Rpk.append {us us' : List (D × U)} {ds ds' : List (D × D)} (h : Rpk sr X s us ds) (h' : Rpk sr X s us' ds') : Rpk sr X s (us ++ us') (ds ++ ds') := by
  induction us generalizing ds with
  | nil => cases h; exact h'
  | cons u us ih => cases h with | cons k h t => exact .cons k h (ih t)
theorem Rps.get {us : List U} {ds : List D} (h : Rps sr X s us ds) : ∀ {i : Nat} {u : U}, us[i]? = some u → ∃ d, ds[i]? = some d ∧ Rp sr X s u d := by
  induction us generalizing ds with
  | nil => intro i u e; simp at e
  | cons u us ih =>
    cases h with
    | cons h t =>
      intro i u' e
      cases i with
      | zero => simp at e; subst e; exact ⟨_, rfl, h⟩
      | succ i => simpa using ih t (by simpa using e)
theorem Rps.of_get : ∀ {us : List U} {ds : List D}, us.length = ds.length → (∀ (i : Nat) (u : U) (d : D), us[i]? = some u → ds[i]? = some d → Rp sr X s u d) → Rps sr X s us ds
  | [], ds, hl, _ => by cases ds with | nil => exact .nil | cons => simp at hl
  | u :: us, ds, hl, h => by
    cases ds with
    | nil => simp at hl
    | cons d ds => exact .cons (h 0 u d rfl rfl) (Rps.of_get (by simpa using hl) fun i u' d' e e' => h (i + 1) u' d' (by simpa using e) (by simpa using e'))
theorem Rps.rp {us : List U} {ds : List D} (h : Rps sr X s us ds) {i : Nat} {u : U} {d : D} (e : us[i]? = some u) (e' : ds[i]? = some d) : Rp sr X s u d := by
  obtain ⟨d', e1, r⟩ := h.get e
  rw [e'] at e1; cases e1; exact r
theorem Rps.drop {us : List U} {ds : List D} (h : Rps sr X s us ds) (n : Nat) : Rps sr X s (us.drop n) (ds.drop n) :=
  .of_get (by simp [h.length]) fun i u d e e' => h.rp (i := n + i) (by rwa [List.getElem?_drop] at e) (by rwa [List.getElem?_drop] at e')
theorem Rps.take {us : List U} {ds : List D} (h : Rps sr X s us ds) (n : Nat) : Rps sr X s (us.take n) (ds.take n) :=
  .of_get (by simp [h.length]) fun i u d e e' => by
    rw [List.getElem?_take] at e e'
    split at e
    · rename_i hi; rw [if_pos hi] at e'; exact h.rp e e'
    · cases e
theorem Rps.reverse {us : List U} {ds : List D} (h : Rps sr X s us ds) : Rps sr X s us.reverse ds.reverse := by
  induction us generalizing ds with
  | nil => cases h; exact .nil
  | cons u us ih => cases h with | cons h t => rw [List.reverse_cons, List.reverse_cons]; exact (ih t).append (.cons h .nil)
theorem Rps.set {us : List U} {ds : List D} (h : Rps sr X s us ds) {u : U} {d : D} (r : Rp sr X s u d) (i : Nat) : Rps sr X s (us.set i u) (ds.set i d) :=
  .of_get (by simp [h.length]) fun j u' d' e e' => by
    rw [List.getElem?_set] at e e'
    have := h.length
    by_cases hi : i = j
    · simp only [hi, if_true, ← this] at e e'
      split at e
      · rename_i hj; rw [if_pos hj] at e'; cases e; cases e'; exact r
      · cases e
    · simp only [hi, if_false] at e e'; exact h.rp e e'
theorem Rps.eraseIdx {us : List U} {ds : List D} (h : Rps sr X s us ds) : ∀ i : Nat, Rps sr X s (us.eraseIdx i) (ds.eraseIdx i) := by
  induction us generalizing ds with
  | nil => cases h; intro i; exact .nil
  | cons u us ih =>
    cases h with
    | cons h t =>
      intro i
      cases i with
      | zero => exact t
      | succ i => exact .cons h (ih t i)

/-! as data -/
mutual
theorem Rp.data : ∀ {u : U} {d : D} (n : Nat), Rp sr X s u d → ∀ {x : PyData}, u.dataF n = some x → d.dataW (refData s n) = some x
  | _, _, n, .non, x, e => by rw [U.dataF] at e; rw [D.dataW]; exact e
  | _, _, n, .bl, x, e => by rw [U.dataF] at e; rw [D.dataW]; exact e
  | _, _, n, .int, x, e => by rw [U.dataF] at e; rw [D.dataW]; exact e
  | _, _, n, .str, x, e => by rw [U.dataF] at e; rw [D.dataW]; exact e
  | _, _, n, .scr, x, e => by rw [U.dataF] at e; cases e
  | _, _, n, .tup _ h, x, e => by
    rw [U.dataF, Option.map_eq_some_iff] at e
    obtain ⟨xs, e, rfl⟩ := e
    rw [D.dataW, Rps.data n h e]; rfl
  | _, _, 0, .lst e1 _ _ h, x, e => by rw [U.dataF] at e; cases e
  | _, _, n + 1, .lst e1 _ _ h, x, e => by
    rw [U.dataF] at e
    simp only [Option.map_eq_some_iff] at e
    obtain ⟨xs, e, rfl⟩ := e
    rw [D.dataW, refData, e1]
    simp only [Rps.data n h e, Option.map_some]
  | _, _, 0, .dct _ _ _ _ _, x, e => by rw [U.dataF] at e; cases e
  | .dct kus, _, n + 1, .dct (c := c) (kds := kds) e1 e2 _ _ h, x, e => by
    rw [U.dataF] at e
    have hz : kus.isEmpty = kds.isEmpty := by cases h <;> rfl
    rw [D.dataW, refData, e1]
    cases c with
    | lst ds => cases e2
    | dct kvs => simp only [e2, Option.bind_some, ← hz]; exact e
    | lck kvs => simp only [e2, Option.bind_some, ← hz]; exact e
  | _, _, n, .src _, x, e => by rw [U.dataF] at e; cases e
theorem Rps.data : ∀ {us : List U} {ds : List D} (n : Nat), Rps sr X s us ds → ∀ {xs : List PyData}, U.dataFs n us = some xs → D.dataWs (refData s n) ds = some xs
  | _, _, n, .nil, xs, e => by rw [U.dataFs] at e; rw [D.dataWs]; exact e
  | _, _, n, .cons h t, xs, e => by
    rw [U.dataFs, Option.bind_eq_some_iff] at e
    obtain ⟨y, e1, e⟩ := e
    rw [Option.map_eq_some_iff] at e
    obtain ⟨ys, e2, rfl⟩ := e
    rw [D.dataWs, Rp.data n h e1, Rps.data n t e2]; rfl
end
mutual
theorem Rp.toD : ∀ {u : U} {d : D}, Rp sr X s u d → ∀ {k : D}, u.toD = some k → d = k ∧ k.toU = u
  | _, _, .non, k, e => by rw [U.toD] at e; cases e; exact ⟨rfl, by rw [D.toU]⟩
  | _, _, .bl, k, e => by rw [U.toD] at e; cases e; exact ⟨rfl, by rw [D.toU]⟩
  | _, _, .int, k, e => by rw [U.toD] at e; cases e; exact ⟨rfl, by rw [D.toU]⟩
  | _, _, .str, k, e => by rw [U.toD] at e; cases e; exact ⟨rfl, by rw [D.toU]⟩
  | _, _, .scr, k, e => by simp [U.toD] at e
  | _, _, .tup _ h, k, e => by
    rw [U.toD, Option.map_eq_some_iff] at e
    obtain ⟨ks, e, rfl⟩ := e
    obtain ⟨h1, h2⟩ := Rps.toD h e
    exact ⟨by rw [h1], by rw [D.toU, h2]⟩
  | _, _, .lst _ _ _ _, k, e => by simp [U.toD] at e
  | _, _, .dct _ _ _ _ _, k, e => by simp [U.toD] at e
  | _, _, .src _, k, e => by simp [U.toD] at e
theorem Rps.toD : ∀ {us : List U} {ds : List D}, Rps sr X s us ds → ∀ {ks : List D}, U.toDs us = some ks → ds = ks ∧ D.toUs ks = us
  | _, _, .nil, k, e => by rw [U.toDs] at e; cases e; exact ⟨rfl, by rw [D.toUs]⟩
  | _, _, .cons h t, k, e => by
    rw [U.toDs, Option.bind_eq_some_iff] at e
    obtain ⟨y, e1, e⟩ := e
    rw [Option.map_eq_some_iff] at e
    obtain ⟨ys, e2, rfl⟩ := e
    obtain ⟨a, b⟩ := Rp.toD h e1
    obtain ⟨a', b'⟩ := Rps.toD t e2
    exact ⟨by rw [a, a'], by rw [D.toUs, b, b']⟩
end
theorem Rp.key {u : U} {d : D} (h : Rp sr X s u d) {k : D} (e : u.toD = some k) : d = k ∧ Rp sr X s k.toU k := by
  obtain ⟨rfl, h2⟩ := h.toD e
  exact ⟨rfl, by rw [h2]; exact h⟩
mutual
/-- what has no reference within lies in any store -/
theorem Rp.anywhere {sr' : Option (Nat × Nat)} : ∀ {u : U} {d : D}, Rp sr X s u d → d.pure = true → Rp sr' X' s' u d
  | _, _, .non, _ => .non
  | _, _, .bl, _ => .bl
  | _, _, .int, _ => .int
  | _, _, .str, _ => .str
  | _, _, .scr, _ => .scr
  | _, _, .tup hl h, e => .tup hl (Rps.anywhere h (by rwa [D.pure] at e))
  | _, _, .lst _ _ _ _, e => by rw [D.pure] at e <;> simp at e
  | _, _, .dct _ _ _ _ _, e => by rw [D.pure] at e <;> simp at e
  | _, _, .src _, e => by rw [D.pure] at e <;> simp at e
theorem Rps.anywhere {sr' : Option (Nat × Nat)} : ∀ {us : List U} {ds : List D}, Rps sr X s us ds → D.pures ds = true → Rps sr' X' s' us ds
  | _, _, .nil, _ => .nil
  | _, _, .cons h t, e => by
    rw [D.pures, Bool.and_eq_true] at e
    exact .cons (Rp.anywhere h e.1) (Rps.anywhere t e.2)
end
mutual
theorem key_shift (n : Nat) : ∀ {k : D}, Rp none X s k.toU k → k.shift n = k
  | .non, _ => by rw [D.shift]
  | .bl _, _ => by rw [D.shift]
  | .int _, _ => by rw [D.shift]
  | .str _, _ => by rw [D.shift]
  | .scr _, _ => by rw [D.shift]
  | .tup ds, h => by
    rw [D.toU] at h
    cases h with | tup _ h => rw [D.shift, keys_shift n h]
  | .ref _, h => by
    rw [D.toU] at h
    cases h with | src e => cases e
theorem keys_shift (n : Nat) : ∀ {ks : List D}, Rps none X s (D.toUs ks) ks → D.shifts n ks = ks
  | [], _ => by rw [D.shifts]
  | k :: ks, h => by
    rw [D.toUs] at h
    cases h with | cons h t => rw [D.shifts, key_shift n h, keys_shift n t]
end
mutual
/-- shifted: behind a store -/
theorem Rp.shift {pre : Sto} (hX : ∀ j, X' (pre.length + j) → X j) : ∀ {u : U} {d : D}, Rp none X s u d → Rp sr X' (pre ++ s.map (C.shift pre.length)) u (d.shift pre.length)
  | _, _, .non => by rw [D.shift]; exact .non
  | _, _, .bl => by rw [D.shift]; exact .bl
  | _, _, .int => by rw [D.shift]; exact .int
  | _, _, .str => by rw [D.shift]; exact .str
  | _, _, .scr => by rw [D.shift]; exact .scr
  | _, .tup ds, .tup hl h => by
    rw [D.shift]
    have hh := Rps.shift (pre := pre) hX h
    have hl' : (D.shifts pre.length ds).length = ds.length := by have := hh.length; have := h.length; omega
    exact .tup (by rw [hl']; exact hl) hh
  | _, _, .lst (i := i) (ds := ds) e hx hl h => by
    rw [D.shift]
    have hh := Rps.shift (pre := pre) hX h
    have hs : D.shifts pre.length ds = ds.map (D.shift pre.length) := by
      clear hh h hl e hx
      induction ds with
      | nil => rw [D.shifts]; rfl
      | cons d ds ih => rw [D.shifts, ih]; rfl
    rw [hs] at hh
    refine .lst (by rw [List.getElem?_append_right (by omega)]; simp [e, C.shift]) (fun z => hx (hX _ z)) (by simpa using hl) hh
  | _, _, .dct (i := i) (c := c) (kds := kds) e hk hx hl h => by
    rw [D.shift]
    have hh := Rpk.shift (pre := pre) hX h
    refine .dct (c := c.shift pre.length) (kds := kds.map fun kv => (kv.1.shift pre.length, kv.2.shift pre.length)) (by rw [List.getElem?_append_right (by omega)]; simp [e]) ?_ (fun z => hx (hX _ z)) (by simpa using hl) hh
    cases c with
    | lst => cases hk
    | dct kvs => cases hk; rfl
    | lck kvs => cases hk; rfl
  | _, _, .src e => by cases e
theorem Rps.shift {pre : Sto} (hX : ∀ j, X' (pre.length + j) → X j) : ∀ {us : List U} {ds : List D}, Rps none X s us ds → Rps sr X' (pre ++ s.map (C.shift pre.length)) us (D.shifts pre.length ds)
  | _, _, .nil => by rw [D.shifts]; exact .nil
  | _, _, .cons h t => by rw [D.shifts]; exact .cons (Rp.shift hX h) (Rps.shift hX t)
theorem Rpk.shift {pre : Sto} (hX : ∀ j, X' (pre.length + j) → X j) : ∀ {us : List (D × U)} {ds : List (D × D)}, Rpk none X s us ds → Rpk sr X' (pre ++ s.map (C.shift pre.length)) us (ds.map fun kv => (kv.1.shift pre.length, kv.2.shift pre.length))
  | _, _, .nil => .nil
  | _, _, .cons (k := k) kk h t => by
    have h1 := Rp.shift (pre := pre) hX kk
    have h2 : k.shift pre.length = k := key_shift _ kk
    rw [List.map_cons]
    simp only [h2]
    rw [h2] at h1
    exact .cons h1 (Rp.shift hX h) (Rpk.shift hX t)
end
end
end Ev
end

section
set_option autoImplicit false
set_option linter.unusedVariables false
set_option linter.unusedSimpArgs false
/-! U3: each step on values is one on the store -/
namespace Ev
open PySem

inductive Root (sr : Option (Nat × Nat)) (X : Nat → Prop) (s : Sto) (i : Nat) : U → Prop
  | lst {us : List U} {ds : List D} : s[i]? = some (.lst ds) → ds.length ≤ L → Rps sr X s us ds → Root sr X s i (.lst us)
  | dct {kus : List (D × U)} {kds : List (D × D)} : s[i]? = some (.dct kds) → kds.length ≤ L → Rpk sr X s kus kds → Root sr X s i (.dct kus)
/-- a cell of the source -/
def sc (sr : Option (Nat × Nat)) (j : Nat) : Prop := ∃ r i, sr = some (r, i) ∧ (j = r ∨ j = i)
/-- a value that is looked at -/
def Tp (sr : Option (Nat × Nat)) (X : Nat → Prop) (s : Sto) (u : U) (d : D) : Prop := Rp sr X s u d ∨ ∃ i, d = .ref i ∧ ¬ sc sr i ∧ Root sr X s i u
/-- a new thing's cell -/
inductive RootC (sr : Option (Nat × Nat)) (X : Nat → Prop) (s : Sto) : C → U → Prop
  | lst {us : List U} {ds : List D} : ds.length ≤ L → Rps sr X s us ds → RootC sr X s (.lst ds) (.lst us)
  | dct {kus : List (D × U)} {kds : List (D × D)} : kds.length ≤ L → Rpk sr X s kus kds → RootC sr X s (.dct kds) (.dct kus)
def Res (sr : Option (Nat × Nat)) (X : Nat → Prop) (s : Sto) (r : Sl) (p : D × Sto) : Prop :=
  (∃ u, r = .val u ∧ p.2 = s ∧ Rp sr X s u p.1) ∨ ∃ u c, r = .own u ∧ p = (.ref s.length, s ++ [c]) ∧ RootC sr X s c u

section
variable {sr : Option (Nat × Nat)} {X X' : Nat → Prop} {s s' : Sto}
theorem Res.val {u : U} {d : D} (h : Rp sr X s u d) : Res sr X s (.val u) (d, s) := .inl ⟨u, rfl, rfl, h⟩
theorem Res.lst {us : List U} {ds : List D} (hl : ds.length ≤ L) (h : Rps sr X s us ds) : Res sr X s (.own (.lst us)) (.ref s.length, s ++ [.lst ds]) := .inr ⟨_, _, rfl, rfl, .lst hl h⟩
theorem Tp.weak0 {u : U} {d : D} (h : Tp sr X s u d) : Rp sr (fun _ => False) s u d := by
  rcases h with h | ⟨i, rfl, _, h⟩
  · exact h.weak fun _ => False.elim
  · cases h with
    | lst e hl h => exact .lst e id hl (h.weak fun _ => False.elim)
    | dct e hl h => exact .dct e rfl id hl (h.weak fun _ => False.elim)
theorem Tp.tup {us : List U} {d : D} (h : Tp sr X s (.tup us) d) : ∃ ds, d = .tup ds ∧ ds.length ≤ L ∧ Rps sr X s us ds := by
  rcases h with h | ⟨i, rfl, _, h⟩
  · cases h with | tup hl h => exact ⟨_, rfl, hl, h⟩
  · cases h
theorem Tp.lst {us : List U} {d : D} (h : Tp sr X s (.lst us) d) : ∃ i ds, d = .ref i ∧ s[i]? = some (.lst ds) ∧ ds.length ≤ L ∧ Rps sr X s us ds := by
  rcases h with h | ⟨i, rfl, _, h⟩
  · cases h with | lst e _ hl h => exact ⟨_, _, rfl, e, hl, h⟩
  · cases h with | lst e hl h => exact ⟨_, _, rfl, e, hl, h⟩
theorem Tp.dct {us : List (D × U)} {d : D} (h : Tp sr X s (.dct us) d) : ∃ i c kds, d = .ref i ∧ s[i]? = some c ∧ c.kvs = some kds ∧ kds.length ≤ L ∧ Rpk sr X s us kds := by
  rcases h with h | ⟨i, rfl, _, h⟩
  · cases h with | dct e hk _ hl h => exact ⟨_, _, _, rfl, e, hk, hl, h⟩
  · cases h with | dct e hl h => exact ⟨_, _, _, rfl, e, rfl, hl, h⟩
theorem Tp.int {i : Int} {d : D} (h : Tp sr X s (.int i) d) : d = .int i := by
  rcases h with h | ⟨i, rfl, _, h⟩ <;> cases h
  rfl
theorem Tp.bl {i : Bool} {d : D} (h : Tp sr X s (.bl i) d) : d = .bl i := by
  rcases h with h | ⟨i, rfl, _, h⟩ <;> cases h
  rfl
theorem Tp.str {i : Str} {d : D} (h : Tp sr X s (.str i) d) : d = .str i := by
  rcases h with h | ⟨i, rfl, _, h⟩ <;> cases h
  rfl
theorem Tp.non {d : D} (h : Tp sr X s .non d) : d = .non := by
  rcases h with h | ⟨i, rfl, _, h⟩ <;> cases h
  rfl
theorem Tp.data {u : U} {d : D} (h : Tp sr X s u d) {x : PyData} (e : u.data = some x) : d.data s = some x := h.weak0.data 40 e
theorem Tp.toD {u : U} {d : D} (h : Tp sr X s u d) {k : D} (e : u.toD = some k) : d = k ∧ Rp sr X s k.toU k := by
  rcases h with h | ⟨i, rfl, _, h⟩
  · exact h.key e
  · cases h <;> simp [U.toD] at e
theorem Rps.dataAll {us : List U} {ds : List D} (h : Rps sr X s us ds) {xs : List PyData} (e : dataAllU us = some xs) : Ev.dataAll s ds = some xs := h.data 40 e
theorem newLU_ok {us : List U} {ds : List D} (h : Rps sr X s us ds) {r : Sl} (e : newLU us = some r) : ∃ p, newL s ds = some p ∧ Res sr X s r p := by
  unfold newLU at e
  split at e
  · rename_i hl
    cases e
    rw [h.length] at hl
    exact ⟨_, by rw [newL, if_pos hl], .lst hl h⟩
  · cases e
theorem newTU_ok {us : List U} {ds : List D} (h : Rps sr X s us ds) {r : Sl} (e : newTU us = some r) : ∃ p, newT s ds = some p ∧ Res sr X s r p := by
  unfold newTU at e
  split at e
  · rename_i hl
    cases e
    rw [h.length] at hl
    exact ⟨_, by rw [newT, if_pos hl], .val (.tup hl h)⟩
  · cases e
theorem binU_ok {op : Operator} {x y : U} {dx dy : D} {r : Sl} (hx : Tp sr X s x dx) (hy : Tp sr X s y dy) (e : binU op x y = some r) : ∃ p, binD op dx dy s = some p ∧ Res sr X s r p := by
  unfold binU at e
  split at e
  · cases e; rw [hx.int, hy.int]; exact ⟨_, rfl, .val .int⟩
  · cases e; rw [hx.int, hy.int]; exact ⟨_, rfl, .val .int⟩
  · split at e
    · rename_i h; cases e; rw [hx.int, hy.int]; exact ⟨_, by rw [binD, if_pos h], .val .int⟩
    · cases e
  · split at e
    · rename_i h; cases e; rw [hx.int, hy.int]; exact ⟨_, by rw [binD, if_pos h], .val .int⟩
    · cases e
  · split at e
    · rename_i h; cases e; rw [hx.int, hy.int]; exact ⟨_, by rw [binD, if_pos h], .val .int⟩
    · cases e
  · obtain ⟨a, rfl, _, ha⟩ := hx.tup
    obtain ⟨b, rfl, _, hb⟩ := hy.tup
    exact newTU_ok (ha.append hb) e
  · split at e
    · rename_i h; cases e; rw [hx.str, hy.str]; exact ⟨_, by rw [binD, if_pos h], .val .str⟩
    · cases e
  · obtain ⟨i, a, rfl, e1, _, ha⟩ := hx.lst
    obtain ⟨j, b, rfl, e2, _, hb⟩ := hy.lst
    rw [binD, e1, e2]
    exact newLU_ok (ha.append hb) e
  · cases e
theorem eqU_ok {x y : U} {dx dy : D} {b : Bool} (hx : Tp sr X s x dx) (hy : Tp sr X s y dy) (e : eqU x y = some b) : eqD s dx dy = some b := by
  unfold eqU at e
  unfold eqD
  split at e
  · rename_i p q h
    obtain ⟨h1, h2⟩ : x = .str p ∧ y = .str q := by
      unfold twoStrU at h
      split at h
      · cases h; exact ⟨rfl, rfl⟩
      · cases h
    subst h1 h2
    rw [hx.str, hy.str]
    exact e
  · rename_i h
    by_cases hf : farU x y = true
    · rw [if_pos hf] at e
      have hh : ∃ us vs, x = .lst us ∧ y = .lst vs ∧ us.length ≠ vs.length := by
        unfold farU at hf
        split at hf
        · exact ⟨_, _, rfl, rfl, by simpa using hf⟩
        · cases hf
      obtain ⟨us, vs, rfl, rfl, hn⟩ := hh
      obtain ⟨i, a, rfl, e1, _, ha⟩ := hx.lst
      obtain ⟨j, b, rfl, e2, _, hb⟩ := hy.lst
      have : farL s (.ref i) (.ref j) = true := by
        simp only [farL, e1, e2]
        rw [ha.length, hb.length] at hn
        simpa using hn
      simp only [twoStr, this, if_true]
      exact e
    · rw [if_neg hf] at e
      rw [Option.bind_eq_some_iff] at e
      obtain ⟨px, e1, e⟩ := e
      rw [Option.bind_eq_some_iff] at e
      obtain ⟨py, e2, e⟩ := e
      have h1 : twoStr dx dy = none := by
        cases hx.weak0 <;> cases hy.weak0 <;> first | rfl | (simp [twoStrU] at h)
      have h2 : farL s dx dy = false := by
        cases h3 : farL s dx dy with
        | false => rfl
        | true =>
          exfalso
          unfold farL at h3
          split at h3
          · split at h3
            · rename_i i j _ _ a b ea eb
              have hx' : ∃ us, x = .lst us ∧ us.length = a.length := by
                cases hx.weak0 with
                | lst q _ _ w => rw [ea] at q; cases q; exact ⟨_, rfl, w.length⟩
                | dct q w _ _ _ => rw [ea] at q; cases q; cases w
                | src _ => cases e1
              have hy' : ∃ us, y = .lst us ∧ us.length = b.length := by
                cases hy.weak0 with
                | lst q _ _ w => rw [eb] at q; cases q; exact ⟨_, rfl, w.length⟩
                | dct q w _ _ _ => rw [eb] at q; cases q; cases w
                | src _ => cases e2
              obtain ⟨us, rfl, l1⟩ := hx'
              obtain ⟨vs, rfl, l2⟩ := hy'
              apply hf
              simp only [farU, l1, l2]
              exact h3
            · cases h3
          · cases h3
      rw [h1]
      simp only [h2, Bool.false_eq_true, if_false, hx.data e1, hy.data e2, Option.bind_some]
      exact e
theorem ltU_ok {x y : U} {dx dy : D} {b : Bool} (hx : Tp sr X s x dx) (hy : Tp sr X s y dy) (e : ltU x y = some b) : ltD s dx dy = some b := by
  unfold ltU at e
  rw [Option.bind_eq_some_iff] at e
  obtain ⟨px, e1, e⟩ := e
  rw [Option.bind_eq_some_iff] at e
  obtain ⟨py, e2, e⟩ := e
  simp only [ltD, hx.data e1, hy.data e2, Option.bind_some]
  exact e
theorem reprU_ok {x : U} {dx : D} {b : Str} (hx : Tp sr X s x dx) (e : reprU x = some b) : reprD s dx = some b := by
  unfold reprU at e
  rw [Option.bind_eq_some_iff] at e
  obtain ⟨px, e1, e⟩ := e
  simp only [reprD, hx.data e1, Option.bind_some]
  exact e
/-! keys -/
theorem Rpk.fits {kus : List (D × U)} {kds : List (D × D)} (h : Rpk sr X s kus kds) (k : D) : keyFits kds k = keyFitsU kus k := by rw [keyFits_kf, keyFitsU, h.keys]
theorem Rpk.get {kus : List (D × U)} {kds : List (D × D)} (h : Rpk sr X s kus kds) (k : D) : (dgetU kus k = none ∧ dget kds k = none) ∨ ∃ u d, dgetU kus k = some u ∧ dget kds k = some d ∧ Rp sr X s u d := by
  induction kus generalizing kds with
  | nil => cases h; exact .inl ⟨rfl, rfl⟩
  | cons p kus ih =>
    cases h with
    | cons kk h t =>
      rename_i k' u d kds'
      unfold dgetU dget
      by_cases hk : k' = k
      · simp only [List.find?_cons, decide_eq_true hk]
        exact .inr ⟨_, _, rfl, rfl, h⟩
      · simp only [List.find?_cons, decide_eq_false hk]
        exact ih t
theorem Rpk.put {kus : List (D × U)} {kds : List (D × D)} (h : Rpk sr X s kus kds) {k : D} (hk : Rp sr X s k.toU k) {u : U} {d : D} (hu : Rp sr X s u d) : Rpk sr X s (dputU kus k u) (dput kds k d) := by
  have hany : (kus.any fun kv => decide (kv.1 = k)) = (kds.any fun kv => decide (kv.1 = k)) := by
    have e1 : (kus.any fun kv => decide (kv.1 = k)) = (kus.map (·.1)).any fun x => decide (x = k) := by rw [List.any_map]; rfl
    have e2 : (kds.any fun kv => decide (kv.1 = k)) = (kds.map (·.1)).any fun x => decide (x = k) := by rw [List.any_map]; rfl
    rw [e1, e2, h.keys]
  unfold dputU dput
  rw [hany]
  split
  · clear hany
    induction kus generalizing kds with
    | nil => cases h; exact .nil
    | cons p kus ih =>
      cases h with
      | cons kk h t =>
        rename_i k' u' d' kds' _
        rw [List.map_cons, List.map_cons]
        by_cases hk : k' = k
        · simp only [hk, if_true]
          rw [hk] at kk
          refine .cons kk hu ?_
          by_cases hh : (kds'.any fun kv => decide (kv.1 = k)) = true
          · exact ih t hh
          · have e2 : (kds'.any fun kv => decide (kv.1 = k)) = (kds'.map (·.1)).any fun x => decide (x = k) := by rw [List.any_map]; rfl
            have w : ∀ x ∈ kds'.map (·.1), x ≠ k := fun x hx z => hh (by rw [e2, List.any_eq_true]; exact ⟨x, hx, by simpa using z⟩)
            have m1 : (kds'.map fun kv => if kv.1 = k then (kv.1, d) else kv) = kds' := by
              conv => rhs; rw [← List.map_id kds']
              exact List.map_congr_left fun p hp => by rw [if_neg (w _ (List.mem_map_of_mem hp))]; rfl
            have m2 : (kus.map fun kv => if kv.1 = k then (kv.1, u) else kv) = kus := by
              conv => rhs; rw [← List.map_id kus]
              exact List.map_congr_left fun p hp => by rw [if_neg (w _ (by rw [← t.keys]; exact List.mem_map_of_mem hp))]; rfl
            rw [m1, m2]
            exact t
        · simp only [hk, if_false]
          rename_i hh
          exact .cons kk h (ih t (by simpa [hk] using hh))
  · exact h.append (.cons hk hu .nil)
theorem keysU_ok {kus : List (D × U)} {kds : List (D × D)} (h : Rpk sr X s kus kds) : Rps sr X s (keysU kus) (kds.map (·.1)) := by
  induction kus generalizing kds with
  | nil => cases h; exact .nil
  | cons p kus ih => cases h with | cons k h t => exact .cons k (ih t)
theorem sortU_ok {us us' : List U} {ds : List D} (h : Rps sr X s us ds) (e : sortU us = some us') : ∃ ds', sortD s ds = some ds' ∧ Rps sr X s us' ds' ∧ ds'.length = ds.length := by
  unfold sortU at e
  rw [Option.bind_eq_some_iff] at e
  obtain ⟨xs, e1, e⟩ := e
  split at e
  rotate_left
  · cases e
  rename_i hc
  cases e
  have e2 := h.dataAll e1
  have hl : xs.length = ds.length := dataWs_length e2
  have hl' := h.length
  let l := us.zip (ds.zip xs)
  let g : U × D × PyData → U × D × PyData → Bool := fun p q => !PySem.W.dataLt q.2.2 p.2.2
  have z1 : us.zip xs = l.map fun t => (t.1, t.2.2) := by
    apply List.ext_getElem
    · simp [l]; omega
    · intro i h1 h2; simp [l]
  have z2 : ds.zip xs = l.map (·.2) := by
    apply List.ext_getElem
    · simp [l]; omega
    · intro i h1 h2; simp [l]
  have m1 : ((us.zip xs).mergeSort fun p q => !PySem.W.dataLt q.2 p.2) = (l.mergeSort g).map fun t => (t.1, t.2.2) := by
    rw [z1]
    exact (List.map_mergeSort (r := g) (f := fun t : U × D × PyData => (t.1, t.2.2)) (s := fun p q => !PySem.W.dataLt q.2 p.2) fun a _ b _ => rfl).symm
  have m2 : ((ds.zip xs).mergeSort fun p q => !PySem.W.dataLt q.2 p.2) = (l.mergeSort g).map (·.2) := by
    rw [z2]
    exact (List.map_mergeSort (r := g) (f := fun t : U × D × PyData => t.2) (s := fun p q => !PySem.W.dataLt q.2 p.2) fun a _ b _ => rfl).symm
  refine ⟨((ds.zip xs).mergeSort fun p q => !PySem.W.dataLt q.2 p.2).map (·.1), ?_, ?_, ?_⟩
  · unfold sortD
    rw [e2, Option.bind_some, if_pos hc]
  · rw [m1, m2, List.map_map, List.map_map]
    have hm : ∀ t ∈ l.mergeSort g, Rp sr X s t.1 t.2.1 := fun t ht => by
      have ht : t ∈ l := (List.mergeSort_perm l g).mem_iff.1 ht
      obtain ⟨i, hi, rfl⟩ := List.getElem_of_mem ht
      simp only [l, List.length_zip] at hi
      have : l[i] = (us[i]'(by omega), ds[i]'(by omega), xs[i]'(by omega)) := by simp [l]
      rw [this]
      exact h.rp (List.getElem?_eq_getElem _) (List.getElem?_eq_getElem _)
    generalize l.mergeSort g = m at hm
    induction m with
    | nil => exact .nil
    | cons t m ih => exact .cons (hm t (List.mem_cons_self ..)) (ih fun t' h' => hm t' (List.mem_cons_of_mem _ h'))
  · simp [hl]
theorem inSeqU_ok {x : U} {dx : D} {us : List U} {ds : List D} {b : Bool} (hx : Tp sr X s x dx) (h : Rps sr X s us ds) (e : inSeqU x us = some b) : inSeq s dx ds = some b := by
  unfold inSeqU at e
  rw [Option.bind_eq_some_iff] at e
  obtain ⟨ys, e1, e⟩ := e
  rw [Option.bind_eq_some_iff] at e
  obtain ⟨y, e2, e⟩ := e
  simp only [inSeq, h.dataAll e1, hx.data e2, Option.bind_some]
  exact e
theorem inU_ok {x y : U} {dx dy : D} {b : Bool} (hx : Tp sr X s x dx) (hy : Tp sr X s y dy) (e : inU x y = some b) : inD s dx dy = some b := by
  unfold inU at e
  split at e
  · obtain ⟨ds, rfl, _, h⟩ := hy.tup
    exact inSeqU_ok hx h e
  · obtain ⟨i, ds, rfl, e1, _, h⟩ := hy.lst
    simp only [inD, e1]
    exact inSeqU_ok hx h e
  · obtain ⟨i, c, kds, rfl, e1, e2, _, h⟩ := hy.dct
    rw [Option.bind_eq_some_iff] at e
    obtain ⟨k, e3, e⟩ := e
    obtain ⟨rfl, _⟩ := hx.toD e3
    simp only [inD, e1]
    cases c with
    | lst => cases e2
    | dct kvs => cases e2; simp only [C.kvs, Option.bind_some, h.fits]; rcases h.get dx with ⟨g1, g2⟩ | ⟨u, d, g1, g2, _⟩ <;> simp_all
    | lck kvs => cases e2; simp only [C.kvs, Option.bind_some, h.fits]; rcases h.get dx with ⟨g1, g2⟩ | ⟨u, d, g1, g2, _⟩ <;> simp_all
  · cases e
theorem isNonU_ok {x : U} {dx : D} (hx : Tp sr X s x dx) : decide (dx = .non) = isNonU x := by
  cases hx.weak0 <;> simp [isNonU]
theorem cmpU_ok {op : CmpOp} {x y : U} {dx dy : D} {b : Bool} (hx : Tp sr X s x dx) (hy : Tp sr X s y dy) (e : cmpU op x y = some b) : cmpD op dx dy s = some b := by
  unfold cmpU at e
  split at e
  · exact eqU_ok hx hy e
  · rw [Option.map_eq_some_iff] at e
    obtain ⟨c, e, rfl⟩ := e
    simp only [cmpD, eqU_ok hx hy e, Option.map_some]
  · split at e
    · rw [hy.non]; simp only [cmpD, isNonU_ok hx]; exact e
    · cases e
  · split at e
    · rw [hy.non]; simp only [cmpD, isNonU_ok hx]; exact e
    · cases e
  · exact inU_ok hx hy e
  · rw [Option.map_eq_some_iff] at e
    obtain ⟨c, e, rfl⟩ := e
    simp only [cmpD, inU_ok hx hy e, Option.map_some]
  · rename_i h1 h2 h3 h4 h5 h6
    split at e
    · rw [hx.int, hy.int]
      cases op <;> first | exact e | exact absurd rfl h1 | exact absurd rfl h2 | exact absurd rfl h3 | exact absurd rfl h4 | exact absurd rfl h5 | exact absurd rfl h6
    · split at e
      · obtain ⟨a, rfl, _⟩ := hx.tup
        obtain ⟨b, rfl, _⟩ := hy.tup
        exact ltU_ok hx hy e
      · cases e
    · cases e
theorem atI_ok {us : List U} {ds : List D} {u : U} {i : Int} (h : Rps sr X s us ds) (e : L2.atI us i = some u) : ∃ d, atD ds i = some d ∧ Rp sr X s u d := by
  unfold atD
  unfold L2.atI at e ⊢
  rw [h.length] at e
  rw [Option.bind_eq_some_iff] at e
  obtain ⟨j, e1, e⟩ := e
  rw [e1]
  exact h.get e
theorem idxU_ok {x y : U} {dx dy : D} {u : U} (hx : Tp sr X s x dx) (hy : Tp sr X s y dy) (e : idxU x y = some u) : ∃ d, idxD dx dy s = some (d, s) ∧ Rp sr X s u d := by
  unfold idxU at e
  split at e
  · obtain ⟨ds, rfl, _, h⟩ := hx.tup
    obtain ⟨d, e1, r⟩ := atI_ok h e
    rw [hy.int]
    exact ⟨d, by simp only [idxD, e1, Option.map_some], r⟩
  · obtain ⟨i, ds, rfl, e0, _, h⟩ := hx.lst
    obtain ⟨d, e1, r⟩ := atI_ok h e
    rw [hy.int]
    exact ⟨d, by simp only [idxD, e0, e1, Option.map_some], r⟩
  · obtain ⟨i, c, kds, rfl, e0, e2, _, h⟩ := hx.dct
    rw [Option.bind_eq_some_iff] at e
    obtain ⟨k, e3, e⟩ := e
    obtain ⟨rfl, _⟩ := hy.toD e3
    split at e
    rotate_left
    · cases e
    rename_i hf
    rcases h.get dy with ⟨g1, g2⟩ | ⟨u', d, g1, g2, r⟩
    · rw [g1] at e; cases e
    · rw [g1] at e; cases e
      refine ⟨d, ?_, r⟩
      cases c with
      | lst => cases e2
      | dct kvs => cases e2; simp only [idxD, e0, C.kvs, Option.bind_some, h.fits, hf, if_true, g2, Option.map_some]
      | lck kvs => cases e2; simp only [idxD, e0, C.kvs, Option.bind_some, h.fits, hf, if_true, g2, Option.map_some]
  · cases e
theorem cutU_ok {us : List U} {ds : List D} (h : Rps sr X s us ds) (lo hi : Option Int) : Rps sr X s (cutU us lo hi) (cutD ds lo hi) := by
  unfold cutU cutD
  rw [h.length]
  exact (h.drop _).take _
theorem cutD_len (ds : List D) (lo hi : Option Int) : (cutD ds lo hi).length ≤ ds.length := by
  unfold cutD
  rw [List.length_take, List.length_drop]
  omega
theorem slcU_ok {x : U} {dx : D} {lo hi : Option Int} {r : Sl} (hx : Tp sr X s x dx) (e : slcU x lo hi = some r) : ∃ p, slcD dx lo hi s = some p ∧ Res sr X s r p := by
  unfold slcU at e
  split at e
  · obtain ⟨ds, rfl, hl, h⟩ := hx.tup
    cases e
    exact ⟨_, rfl, .val (.tup (Nat.le_trans (cutD_len ..) hl) (cutU_ok h lo hi))⟩
  · obtain ⟨i, ds, rfl, e0, hl, h⟩ := hx.lst
    cases e
    have := Nat.le_trans (cutD_len ds lo hi) hl
    exact ⟨_, by simp only [slcD, e0, newL, if_pos this], .lst this (cutU_ok h lo hi)⟩
  · cases e
theorem revU_ok {x : U} {dx : D} {r : Sl} (hx : Tp sr X s x dx) (e : revU x = some r) : ∃ p, revD dx s = some p ∧ Res sr X s r p := by
  unfold revU at e
  split at e
  · obtain ⟨ds, rfl, hl, h⟩ := hx.tup
    cases e
    exact ⟨_, rfl, .val (.tup (by simpa using hl) h.reverse)⟩
  · obtain ⟨i, ds, rfl, e0, hl, h⟩ := hx.lst
    cases e
    have : ds.reverse.length ≤ L := by simpa using hl
    exact ⟨_, by simp only [revD, e0, newL, if_pos this], .lst this h.reverse⟩
  · cases e
theorem itemsU_ok {x : U} {dx : D} {us : List U} (hx : Tp sr X s x dx) (e : itemsU x = some us) : ∃ ds, itemsD dx s = some ds ∧ ds.length ≤ L ∧ Rps sr X s us ds := by
  unfold itemsU at e
  split at e
  · obtain ⟨ds, rfl, hl, h⟩ := hx.tup
    cases e
    exact ⟨ds, rfl, hl, h⟩
  · obtain ⟨i, ds, rfl, e0, hl, h⟩ := hx.lst
    cases e
    exact ⟨ds, by simp only [itemsD, e0], hl, h⟩
  · cases e
theorem dput_len (kvs : List (D × D)) (k v : D) : (dput kvs k v).length ≤ kvs.length + 1 := by
  unfold dput
  split
  · rw [List.length_map]; omega
  · simp
theorem pairUpU_ok : ∀ {us : List U} {acc kus : List (D × U)} {kds : List (D × D)} {ds : List D}, Rps sr X s us ds → Rpk sr X s acc kds → kds.length ≤ 15 → pairUpU acc us = some kus → ∃ kds', pairUp kds ds = some kds' ∧ kds'.length ≤ L ∧ Rpk sr X s kus kds'
  | [], acc, kus, kds, ds, h, h', hl, e => by
    cases h
    rw [pairUpU] at e
    cases e
    exact ⟨_, by rw [pairUp], by unfold L; omega, h'⟩
  | [_], acc, kus, kds, ds, h, h', hl, e => by simp [pairUpU] at e
  | k :: v :: us, acc, kus, kds, ds, h, h', hl, e => by
    cases h with
    | cons hk t =>
      cases t with
      | cons hv t =>
        rw [pairUpU, Option.bind_eq_some_iff] at e
        obtain ⟨kd, e1, e⟩ := e
        obtain ⟨rfl, hk⟩ := hk.key e1
        split at e
        rotate_left
        · cases e
        rename_i hc
        rw [← h'.fits, h'.length] at hc
        rw [Bool.and_eq_true, decide_eq_true_eq] at hc
        obtain ⟨kds', e2, r⟩ := pairUpU_ok t (h'.put hk hv) (Nat.le_trans (dput_len ..) (by omega)) e
        exact ⟨kds', by rw [pairUp, if_pos (by rw [hc.1, decide_eq_true hc.2]; rfl)]; exact e2, r⟩
theorem intsU_ok : ∀ {us : List U} {ds : List D} {is : List Int}, Rps sr X s us ds → intsU us = some is → intsD ds = some is
  | [], _, _, .nil, e => e
  | u :: us, _, is, .cons h t, e => by
    unfold intsU at e
    split at e
    · rename_i e'; cases e'
    · rename_i e'; cases e'
      cases h
      rw [Option.map_eq_some_iff] at e
      obtain ⟨is', e, rfl⟩ := e
      rw [intsD, intsU_ok t e]; rfl
    · cases e
theorem boolsU_ok : ∀ {us : List U} {ds : List D} {is : List Bool}, Rps sr X s us ds → boolsU us = some is → boolsD ds = some is
  | [], _, _, .nil, e => e
  | u :: us, _, is, .cons h t, e => by
    unfold boolsU at e
    split at e
    · rename_i e'; cases e'
    · rename_i e'; cases e'
      cases h
      rw [Option.map_eq_some_iff] at e
      obtain ⟨is', e, rfl⟩ := e
      rw [boolsD, boolsU_ok t e]; rfl
    · cases e
theorem pairsU_ok : ∀ {us : List U} {ds : List D} {ps : List (D × U)}, Rps sr X s us ds → pairsU us = some ps → ∃ qs, pairsD ds = some qs ∧ Rpk sr X s ps qs
  | [], _, ps, .nil, e => by rw [pairsU] at e; cases e; exact ⟨[], by rw [pairsD], .nil⟩
  | u :: us, _, ps, .cons h t, e => by
    unfold pairsU at e
    split at e
    · rename_i e'; cases e'
    · rename_i k v us' e'
      cases e'
      cases h with | tup _ h =>
      obtain _ | ⟨hk, hv⟩ := h
      obtain _ | ⟨hv, hz⟩ := hv
      cases hz
      rw [Option.bind_eq_some_iff] at e
      obtain ⟨kd, e1, e⟩ := e
      rw [Option.map_eq_some_iff] at e
      obtain ⟨ps', e2, rfl⟩ := e
      obtain ⟨rfl, hk⟩ := hk.key e1
      obtain ⟨qs, e3, r⟩ := pairsU_ok t e2
      exact ⟨_, by rw [pairsD, e3]; rfl, .cons hk hv r⟩
    · cases e
theorem putAllU_ok : ∀ {ps acc kus : List (D × U)} {qs kds : List (D × D)}, Rpk sr X s ps qs → Rpk sr X s acc kds → putAllU acc ps = some kus → ∃ kds', putAll kds qs = some kds' ∧ kds'.length ≤ kds.length + qs.length ∧ Rpk sr X s kus kds'
  | [], acc, kus, qs, kds, h, h', e => by
    cases h
    rw [putAllU] at e
    cases e
    exact ⟨_, by rw [putAll], by simp, h'⟩
  | (k, u) :: ps, acc, kus, qs, kds, h, h', e => by
    cases h with
    | cons hk hu t =>
      rw [putAllU] at e
      split at e
      rotate_left
      · cases e
      rename_i hf
      simp only at hf e
      rw [← h'.fits] at hf
      obtain ⟨kds', e1, e2, r⟩ := putAllU_ok t (h'.put hk hu) e
      refine ⟨kds', by rw [putAll, if_pos hf]; exact e1, ?_, r⟩
      rename_i d qs'
      have := dput_len kds k d
      simp only [List.length_cons]
      omega
theorem dictOfU_ok {us : List U} {ds : List D} {r : Sl} (hl : ds.length ≤ L) (h : Rps sr X s us ds) (e : dictOfU us = some r) : ∃ p, dictOf ds s = some p ∧ Res sr X s r p := by
  unfold dictOfU at e
  rw [Option.bind_eq_some_iff] at e
  obtain ⟨ps, e1, e⟩ := e
  rw [Option.map_eq_some_iff] at e
  obtain ⟨kus, e2, rfl⟩ := e
  obtain ⟨qs, f1, r1⟩ := pairsU_ok h e1
  obtain ⟨kds, f2, f3, r2⟩ := putAllU_ok r1 .nil e2
  have hq : ∀ {ds : List D} {qs : List (D × D)}, pairsD ds = some qs → qs.length = ds.length := fun {ds} => by
    induction ds with
    | nil => intro qs e; rw [pairsD] at e; cases e; rfl
    | cons d ds ih =>
      intro qs e
      unfold pairsD at e
      split at e
      · rename_i z; cases z
      · rename_i z; cases z
        rw [Option.map_eq_some_iff] at e
        obtain ⟨qs', e, rfl⟩ := e
        simp [ih e]
      · cases e
  have := hq f1
  refine ⟨(.ref s.length, s ++ [.dct kds]), by unfold dictOf; rw [if_pos hl, f1, Option.bind_some, f2]; rfl, .inr ⟨_, _, rfl, rfl, .dct (by simp only [List.length_nil] at f3; omega) r2⟩⟩
/-- operands looked at -/
inductive Tps (sr : Option (Nat × Nat)) (X : Nat → Prop) (s : Sto) : List U → List D → Prop
  | nil : Tps sr X s [] []
  | cons {u : U} {d : D} {us : List U} {ds : List D} : Tp sr X s u d → Tps sr X s us ds → Tps sr X s (u :: us) (d :: ds)
theorem bifU_ok {f : B} {us : List U} {ds : List D} {r : Sl} (h : Tps sr X s us ds) (e : bifU f us = some r) : ∃ p, bifD f ds s = some p ∧ Res sr X s r p := by
  unfold bifU at e
  split at e
  · obtain _ | ⟨h, _ | _⟩ := h
    obtain ⟨ds, rfl, hl, h⟩ := h.tup
    exact dictOfU_ok hl h e
  · obtain _ | ⟨h, _ | _⟩ := h
    obtain ⟨i, ds, rfl, e0, hl, h⟩ := h.lst
    obtain ⟨p, e1, r⟩ := dictOfU_ok hl h e
    exact ⟨p, by simp only [bifD, e0]; exact e1, r⟩
  · cases e; obtain _ | ⟨h, _ | _⟩ := h
    obtain ⟨ds, rfl, _, h⟩ := h.tup
    exact ⟨_, rfl, by rw [h.length]; exact .val .int⟩
  · cases e; obtain _ | ⟨h, _ | _⟩ := h
    obtain ⟨i, ds, rfl, e0, _, h⟩ := h.lst
    exact ⟨(.int ds.length, s), by simp only [bifD, e0], by rw [h.length]; exact .val .int⟩
  · cases e; obtain _ | ⟨h, _ | _⟩ := h
    obtain ⟨i, c, kds, rfl, e0, e2, _, h⟩ := h.dct
    refine ⟨(.int kds.length, s), ?_, by rw [h.length]; exact .val .int⟩
    cases c with
    | lst => cases e2
    | dct kvs => cases e2; simp only [bifD, e0, C.kvs, Option.map_some]
    | lck kvs => cases e2; simp only [bifD, e0, C.kvs, Option.map_some]
  · cases e; obtain _ | ⟨h, _ | _⟩ := h
    rw [h.int]; exact ⟨_, rfl, .val .int⟩
  · cases e; obtain _ | ⟨h, _ | _⟩ := h
    rw [h.bl]; exact ⟨_, rfl, .val .int⟩
  · cases e; obtain _ | ⟨h, _ | _⟩ := h
    rw [h.int]; exact ⟨_, rfl, .val .int⟩
  · cases e; obtain _ | ⟨h, _ | _⟩ := h
    obtain ⟨ds, rfl, hl, h⟩ := h.tup
    exact ⟨_, rfl, .val (.tup hl h)⟩
  · cases e; obtain _ | ⟨h, _ | _⟩ := h
    obtain ⟨i, ds, rfl, e0, hl, h⟩ := h.lst
    exact ⟨_, by simp only [bifD, e0], .val (.tup hl h)⟩
  · cases e; obtain _ | ⟨h, _ | _⟩ := h
    obtain ⟨ds, rfl, hl, h⟩ := h.tup
    exact ⟨_, by simp only [bifD, itemsD, Option.bind_some, newL, if_pos hl], .lst hl h⟩
  · cases e; obtain _ | ⟨h, _ | _⟩ := h
    obtain ⟨i, ds, rfl, e0, hl, h⟩ := h.lst
    exact ⟨_, by simp only [bifD, itemsD, e0, Option.bind_some, newL, if_pos hl], .lst hl h⟩
  · obtain _ | ⟨h, _ | _⟩ := h
    obtain ⟨i, ds, rfl, e0, hl, h⟩ := h.lst
    rw [Option.map_eq_some_iff] at e
    obtain ⟨us', e, rfl⟩ := e
    obtain ⟨ds', e1, h', hl'⟩ := sortU_ok h e
    rw [← hl'] at hl
    exact ⟨_, by simp only [bifD, e0, e1, Option.bind_some, newL, if_pos hl], .lst hl h'⟩
  · obtain _ | ⟨h, _ | _⟩ := h
    obtain ⟨ds, rfl, hl, h⟩ := h.tup
    rw [Option.map_eq_some_iff] at e
    obtain ⟨us', e, rfl⟩ := e
    obtain ⟨ds', e1, h', hl'⟩ := sortU_ok h e
    rw [← hl'] at hl
    exact ⟨_, by simp only [bifD, e1, Option.bind_some, newL, if_pos hl], .lst hl h'⟩
  · obtain _ | ⟨h, _ | _⟩ := h
    obtain ⟨i, c, kds, rfl, e0, e2, hl, h⟩ := h.dct
    rw [Option.map_eq_some_iff] at e
    obtain ⟨us', e, rfl⟩ := e
    obtain ⟨ds', e1, h', hl'⟩ := sortU_ok (keysU_ok h) e
    have hl : ds'.length ≤ L := by rw [hl', List.length_map]; exact hl
    refine ⟨_, ?_, .lst hl h'⟩
    cases c with
    | lst => cases e2
    | dct kvs => cases e2; simp only [bifD, e0, C.kvs, e1, Option.bind_some, newL, if_pos hl]
    | lck kvs => cases e2; simp only [bifD, e0, C.kvs, e1, Option.bind_some, newL, if_pos hl]
  · obtain _ | ⟨h, _ | _⟩ := h
    obtain ⟨i, ds, rfl, e0, hl, h⟩ := h.lst
    rw [Option.map_eq_some_iff] at e
    obtain ⟨is, e, rfl⟩ := e
    exact ⟨_, by simp only [bifD, e0, intsU_ok h e, Option.map_some], .val .int⟩
  · obtain _ | ⟨h, _ | _⟩ := h
    obtain ⟨i, ds, rfl, e0, hl, h⟩ := h.lst
    rw [Option.map_eq_some_iff] at e
    obtain ⟨is, e, rfl⟩ := e
    exact ⟨_, by simp only [bifD, e0, boolsU_ok h e, Option.map_some], .val .bl⟩
  · obtain _ | ⟨h, _ | _⟩ := h
    obtain ⟨i, ds, rfl, e0, hl, h⟩ := h.lst
    rw [Option.map_eq_some_iff] at e
    obtain ⟨is, e, rfl⟩ := e
    exact ⟨_, by simp only [bifD, e0, boolsU_ok h e, Option.map_some], .val .bl⟩
  · cases e; obtain _ | ⟨h, _ | ⟨h', _ | _⟩⟩ := h
    rw [h.int, h'.int]; exact ⟨_, rfl, .val .int⟩
  · cases e; obtain _ | ⟨h, _ | ⟨h', _ | _⟩⟩ := h
    rw [h.int, h'.int]; exact ⟨_, rfl, .val .int⟩
  · obtain _ | ⟨h, _ | _⟩ := h
    rw [Option.map_eq_some_iff] at e
    obtain ⟨t, e, rfl⟩ := e
    exact ⟨_, by simp only [bifD, reprU_ok h e, Option.map_some], .val .str⟩
  · cases e
end
end Ev
end

section
set_option autoImplicit false
set_option linter.unusedVariables false
set_option linter.unusedSimpArgs false
/-! U4: states -/
namespace Ev
open PySem

def ow (own : Nat → Option Nat) (j : Nat) : Prop := ∃ k, own k = some j
def XX (A : Nat → Prop) (own : Nat → Option Nat) (j : Nat) : Prop := A j ∨ ow own j
def AN (A : Nat → Prop) (ns : List Nat) (j : Nat) : Prop := A j ∨ j ∈ ns
def isOwn : Option Sl → Prop
  | some (.own _) => True
  | _ => False
def isVal : Option Sl → Prop
  | some (.val _) => True
  | _ => False
def SlotOk (sr : Option (Nat × Nat)) (X : Nat → Prop) (s : Sto) (own : Nat → Option Nat) (denv : Env) (k : Nat) : Sl → Prop
  | .no => True
  | .val u => ∃ d, denv[k]? = some (some d) ∧ Rp sr X s u d
  | .own u => ∃ i, own k = some i ∧ denv[k]? = some (some (.ref i)) ∧ Root sr X s i u
/-- what the source's cells say -/
structure SPr where
  P : Nat → Nat → Sto → Prop
  loc : ∀ {r i : Nat} {s s' : Sto}, s'[r]? = s[r]? → s'[i]? = s[i]? → P r i s → P r i s'
def SrcOk (SP : SPr) (sr : Option (Nat × Nat)) (s : Sto) : Prop := ∀ r i, sr = some (r, i) → SP.P r i s
structure St (SP : SPr) (sr : Option (Nat × Nat)) (A : Nat → Prop) (own : Nat → Option Nat) (s : Sto) (env : UEnv) (denv : Env) : Prop where
  len : env.length = denv.length
  src : SrcOk SP sr s
  bnd : ∀ j, A j → j < s.length
  srA : ∀ j, sc sr j → A j
  slot : ∀ (k : Nat) (sl : Sl), env[k]? = some sl → SlotOk sr (XX A own) s own denv k sl
  inj : ∀ k k' i, own k = some i → own k' = some i → k = k'
  ow : ∀ k i, own k = some i → ¬ A i ∧ i < s.length
structure Mv (env env' : UEnv) (own own' : Nat → Option Nat) : Prop where
  fz : ∀ k : Nat, own' k = own k ∨ (own' k = none ∧ isOwn env[k]? ∧ isVal env'[k]?)
  m1 : ∀ k : Nat, isOwn env'[k]? → isOwn env[k]?
  m2 : ∀ k : Nat, isVal env[k]? → isVal env'[k]?
theorem Mv.refl {env : UEnv} {own : Nat → Option Nat} : Mv env env own own := ⟨fun _ => .inl rfl, fun _ h => h, fun _ h => h⟩
theorem Mv.trans {e e' e'' : UEnv} {o o' o'' : Nat → Option Nat} (h : Mv e e' o o') (h' : Mv e' e'' o' o'') : Mv e e'' o o'' :=
  ⟨fun k => by
    rcases h'.fz k with z | ⟨z1, z2, z3⟩
    · rcases h.fz k with y | ⟨y1, y2, y3⟩
      · exact .inl (z.trans y)
      · exact .inr ⟨z.trans y1, y2, h'.m2 k y3⟩
    · exact .inr ⟨z1, h.m1 k z2, z3⟩, fun k z => h.m1 k (h'.m1 k z), fun k z => h'.m2 k (h.m2 k z)⟩
theorem Mv.sub {e e' : UEnv} {o o' : Nat → Option Nat} (h : Mv e e' o o') {k j : Nat} (z : o' k = some j) : o k = some j := by
  rcases h.fz k with y | ⟨y, _⟩
  · rw [← y]; exact z
  · rw [y] at z; cases z
theorem Mv.subX {e e' : UEnv} {o o' : Nat → Option Nat} (h : Mv e e' o o') {A : Nat → Prop} {j : Nat} (z : XX A o' j) : XX A o j := by
  rcases z with z | ⟨k, z⟩
  · exact .inl z
  · exact .inr ⟨k, h.sub z⟩
/-- what a step leaves alone; m: it may change what is owned -/
structure Out (sr : Option (Nat × Nat)) (own : Nat → Option Nat) (s s' : Sto) (m : Bool) : Prop where
  len : s.length ≤ s'.length
  keep : ∀ j, j < s.length → ¬ sc sr j → (m = false ∨ ¬ ow own j) → s'[j]? = s[j]?
def SlAt (sr : Option (Nat × Nat)) (X : Nat → Prop) (s : Sto) (sl : Sl) (d : D) (ns : List Nat) : Prop := match sl with
  | .no => False
  | .val u => ns = [] ∧ Rp sr X s u d
  | .own u => ∃ i, ns = [i] ∧ d = .ref i ∧ Root sr X s i u
inductive SlsAt (sr : Option (Nat × Nat)) (X : Nat → Prop) (s : Sto) : List Sl → List D → List Nat → Prop
  | nil : SlsAt sr X s [] [] []
  | cons {sl : Sl} {d : D} {n1 n2 : List Nat} {sls : List Sl} {ds : List D} : SlAt sr X s sl d n1 → SlsAt sr X s sls ds n2 → SlsAt sr X s (sl :: sls) (d :: ds) (n1 ++ n2)

section
variable {SP : SPr} {sr : Option (Nat × Nat)} {A A' : Nat → Prop} {own own' : Nat → Option Nat} {s s' s'' : Sto} {env env' : UEnv} {denv : Env} {m m' : Bool}
theorem Out.refl : Out sr own s s m := ⟨Nat.le_refl _, fun _ _ _ _ => rfl⟩
theorem Out.trans (h : Out sr own s s' m) (h' : Out sr own' s' s'' m') (hs : ∀ j, ow own' j → ow own j) : Out sr own s s'' (m || m') :=
  ⟨Nat.le_trans h.len h'.len, fun j h1 h2 h3 => by
    have q1 : m = false ∨ ¬ ow own j := by rcases h3 with h3 | h3; (· rw [Bool.or_eq_false_iff] at h3; exact .inl h3.1); exact .inr h3
    have q2 : m' = false ∨ ¬ ow own' j := by rcases h3 with h3 | h3; (· rw [Bool.or_eq_false_iff] at h3; exact .inl h3.2); exact .inr fun z => h3 (hs j z)
    rw [h'.keep j (Nat.lt_of_lt_of_le h1 h.len) h2 q2, h.keep j h1 h2 q1]⟩
theorem Out.more (h : Out sr own s s' m) (hm : m = true → m' = true) : Out sr own s s' m' := ⟨h.len, fun j h1 h2 h3 => h.keep j h1 h2 (by
  rcases h3 with h3 | h3
  · left; cases m with | false => rfl | true => rw [hm rfl] at h3; cases h3
  · exact .inr h3)⟩
theorem Out.app {u : Sto} (h : Out sr own s s' m) : Out sr own s (s' ++ u) m :=
  ⟨by rw [List.length_append]; have := h.len; omega, fun j h1 h2 h3 => by rw [List.getElem?_append_left (Nat.lt_of_lt_of_le h1 h.len)]; exact h.keep j h1 h2 h3⟩
theorem Mv.subO {e e' : UEnv} (h : Mv e e' own own') (j : Nat) : ow own' j → ow own j := fun ⟨k, z⟩ => ⟨k, h.sub z⟩
theorem Root.move {X X' : Nat → Prop} {i : Nat} {u : U} (h : Root sr X s i u) (h1 : ∀ j, X' j → X j ∨ s.length ≤ j) (h2 : ∀ j c, ¬ X j → s[j]? = some c → ∃ c', s'[j]? = some c' ∧ c'.core = c.core) (h3 : s'[i]? = s[i]?) : Root sr X' s' i u := by
  cases h with
  | lst e hl h => exact .lst (by rw [h3]; exact e) hl (h.mono h1 h2)
  | dct e hl h => exact .dct (by rw [h3]; exact e) hl (h.mono h1 h2)
theorem Root.lt {X : Nat → Prop} {i : Nat} {u : U} (h : Root sr X s i u) : i < s.length := by
  cases h with
  | lst e _ _ => exact (List.getElem?_eq_some_iff.1 e).1
  | dct e _ _ => exact (List.getElem?_eq_some_iff.1 e).1
theorem Root.rp {X X' : Nat → Prop} {i : Nat} {u : U} (h : Root sr X s i u) (h1 : ∀ j, X' j → X j) (hi : ¬ X' i) : Rp sr X' s u (.ref i) := by
  cases h with
  | lst e hl h => exact .lst e hi hl (h.weak h1)
  | dct e hl h => exact .dct e rfl hi hl (h.weak h1)
theorem Tp.move {X X' : Nat → Prop} {u : U} {d : D} (h : Tp sr X s u d) (h1 : ∀ j, X' j → X j ∨ s.length ≤ j) (h2 : ∀ j c, ¬ X j → s[j]? = some c → ∃ c', s'[j]? = some c' ∧ c'.core = c.core) (h3 : ∀ j, j < s.length → ¬ sc sr j → s'[j]? = s[j]?) : Tp sr X' s' u d := by
  rcases h with h | ⟨i, rfl, h0, h⟩
  · exact .inl (h.mono h1 h2)
  · exact .inr ⟨i, rfl, h0, h.move h1 h2 (h3 i h.lt h0)⟩
/-- slots by slots -/
theorem SlotOk.move {X X' : Nat → Prop} {k : Nat} {sl : Sl} (h : SlotOk sr X s own denv k sl) (h1 : ∀ j, X' j → X j ∨ s.length ≤ j) (h2 : ∀ j c, ¬ X j → s[j]? = some c → ∃ c', s'[j]? = some c' ∧ c'.core = c.core) (h3 : ∀ i, own k = some i → s'[i]? = s[i]?) : SlotOk sr X' s' own denv k sl := by
  cases sl with
  | no => trivial
  | val u => obtain ⟨d, e, r⟩ := h; exact ⟨d, e, r.mono h1 h2⟩
  | own u => obtain ⟨i, e1, e2, r⟩ := h; exact ⟨i, e1, e2, r.move h1 h2 (h3 i e1)⟩
/-- more things -/
theorem St.grow (h : St SP sr A own s env denv) (hl : s.length ≤ s'.length) (hk : ∀ j, j < s.length → s'[j]? = s[j]?) (hA : ∀ j, A j → A' j) (hA' : ∀ j, A' j → A j ∨ (s.length ≤ j ∧ j < s'.length)) : St SP sr A' own s' env denv := by
  have lt : ∀ {r i}, sr = some (r, i) → r < s.length ∧ i < s.length := fun {r i} e => ⟨h.bnd _ (h.srA _ ⟨r, i, e, .inl rfl⟩), h.bnd _ (h.srA _ ⟨r, i, e, .inr rfl⟩)⟩
  refine ⟨h.len, fun r i e => SP.loc (hk _ (lt e).1) (hk _ (lt e).2) (h.src r i e), fun j z => ?_, fun j z => hA j (h.srA j z), fun k sl e => (h.slot k sl e).move (fun j z => ?_) (fun j c _ e => ⟨c, by rw [hk j (List.getElem?_eq_some_iff.1 e).1]; exact e, rfl⟩) fun i e => hk i (h.ow k i e).2, h.inj, fun k i e => ⟨fun z => ?_, Nat.lt_of_lt_of_le (h.ow k i e).2 hl⟩⟩
  · rcases hA' j z with z | z
    · exact Nat.lt_of_lt_of_le (h.bnd j z) hl
    · exact z.2
  · rcases z with z | z
    · rcases hA' j z with z | z
      · exact .inl (.inl z)
      · exact .inr z.1
    · exact .inl (.inr z)
  · have := h.ow k i e
    rcases hA' i z with z | z
    · exact this.1 z
    · omega
theorem St.congrA (h : St SP sr A own s env denv) (hA : ∀ j, A' j ↔ A j) : St SP sr A' own s env denv :=
  h.grow (Nat.le_refl _) (fun _ _ => rfl) (fun j z => (hA j).2 z) fun j z => .inl ((hA j).1 z)
theorem an_nil (j : Nat) : AN A [] j ↔ A j := by simp [AN]
theorem an_app {a b : List Nat} (j : Nat) : AN (AN A a) b j ↔ AN A (a ++ b) j := by simp [AN, or_assoc]
/-- what was owned anew is let go -/
theorem St.drop {ns : List Nat} (h : St SP sr (AN A ns) own s env denv) (hsr : ∀ j, sc sr j → A j) : St SP sr A own s env denv :=
  ⟨h.len, h.src, fun j z => h.bnd j (.inl z), hsr, fun k sl e => (h.slot k sl e).move (fun j z => .inl (by rcases z with z | z; (· exact .inl (.inl z)); exact .inr z)) (fun j c _ e => ⟨c, e, rfl⟩) fun _ _ => rfl, h.inj, fun k i e => ⟨fun z => (h.ow k i e).1 (.inl z), (h.ow k i e).2⟩⟩
/-- a step's outcome, where it is one thing or none more -/
theorem finish {X : Nat → Prop} {r : Sl} {p : D × Sto} (h : St SP sr A own s env denv) (hr : Res sr (XX A own) s r p) :
    ∃ ns, (∀ j ∈ ns, s.length ≤ j) ∧ St SP sr (AN A ns) own p.2 env denv ∧ SlAt sr (XX (AN A ns) own) p.2 r p.1 ns ∧ Out sr own s p.2 false := by
  rcases hr with ⟨u, rfl, e, r⟩ | ⟨u, c, rfl, rfl, r⟩
  · refine ⟨[], fun j z => (nomatch z), ?_, ⟨rfl, ?_⟩, ?_⟩
    · rw [e]; exact h.congrA an_nil
    · rw [e]; exact r.weak fun j z => by rcases z with z | z; (· exact .inl ((an_nil j).1 z)); exact .inr z
    · rw [e]; exact .refl
  · refine ⟨[s.length], fun j z => by simp only [List.mem_singleton] at z; omega, ?_, ⟨s.length, rfl, rfl, ?_⟩, Out.refl.app⟩
    · refine h.grow (by simp) (fun j z => by rw [List.getElem?_append_left z]) (fun j z => .inl z) fun j z => ?_
      rcases z with z | z
      · exact .inl z
      · simp only [List.mem_singleton] at z; subst z; exact .inr ⟨Nat.le_refl _, by simp⟩
    · have g1 : ∀ j, XX (AN A [s.length]) own j → XX A own j ∨ s.length ≤ j := fun j z => by
        rcases z with (z | z) | z
        · exact .inl (.inl z)
        · simp only [List.mem_singleton] at z; exact .inr (by omega)
        · exact .inl (.inr z)
      have g2 : ∀ (j : Nat) (c' : C), ¬ XX A own j → s[j]? = some c' → ∃ c'', (s ++ [c])[j]? = some c'' ∧ c''.core = c'.core := fun j c' _ e => app_keep j c' e
      cases r with
      | lst hl hh => exact .lst (by simp) hl (hh.mono g1 g2)
      | dct hl hh => exact .dct (by simp) hl (hh.mono g1 g2)
/-! through a step -/
theorem step_core {X : Nat → Prop} (o : Out sr own s s' m) (hX : ∀ j, ow own j → X j) (hs : ∀ j, sc sr j → X j) (j : Nat) (c : C) (hx : ¬ X j) (e : s[j]? = some c) : ∃ c', s'[j]? = some c' ∧ c'.core = c.core :=
  ⟨c, by rw [o.keep j (List.getElem?_eq_some_iff.1 e).1 (fun z => hx (hs j z)) (.inr fun z => hx (hX j z))]; exact e, rfl⟩
theorem Rp.step {u : U} {d : D} (h : Rp sr (XX A own) s u d) (hsr : ∀ j, sc sr j → A j) (mv : Mv env env' own own') (o : Out sr own s s' m) : Rp sr (XX A own') s' u d :=
  h.mono (fun j z => .inl (mv.subX z)) (step_core o (fun j z => .inr z) fun j z => .inl (hsr j z))
theorem Rps.step {u : List U} {d : List D} (h : Rps sr (XX A own) s u d) (hsr : ∀ j, sc sr j → A j) (mv : Mv env env' own own') (o : Out sr own s s' m) : Rps sr (XX A own') s' u d :=
  h.mono (fun j z => .inl (mv.subX z)) (step_core o (fun j z => .inr z) fun j z => .inl (hsr j z))
theorem Tp.step {u : U} {d : D} (h : Tp sr (XX A own) s u d) (hsr : ∀ j, sc sr j → A j) (mv : Mv env env' own own') (o : Out sr own s s' false) : Tp sr (XX A own') s' u d :=
  h.move (fun j z => .inl (mv.subX z)) (step_core o (fun j z => .inr z) fun j z => .inl (hsr j z)) fun j z1 z2 => o.keep j z1 z2 (.inl rfl)
theorem Tps.step : ∀ {us : List U} {ds : List D}, Tps sr (XX A own) s us ds → (∀ j, sc sr j → A j) → Mv env env' own own' → Out sr own s s' false → Tps sr (XX A own') s' us ds
  | _, _, .nil, _, _, _ => .nil
  | _, _, .cons h t, hsr, mv, o => .cons (h.step hsr mv o) (t.step hsr mv o)
/-- owned ones, through a step with them aside -/
theorem SlAt.step {sl : Sl} {d : D} {n1 n2 : List Nat} (h : SlAt sr (XX (AN A n1) own) s sl d n1) (st : St SP sr (AN A n1) own s env denv) (mv : Mv env env' own own') (o : Out sr own s s' m) (hn : ∀ j ∈ n2, s.length ≤ j) (h0 : ∀ j, sc sr j → j ∉ n1) :
    SlAt sr (XX (AN A (n1 ++ n2)) own') s' sl d n1 := by
  have g1 : ∀ j, XX (AN A (n1 ++ n2)) own' j → XX (AN A n1) own j ∨ s.length ≤ j := fun j z => by
    rcases z with (z | z) | z
    · exact .inl (.inl (.inl z))
    · rw [List.mem_append] at z
      rcases z with z | z
      · exact .inl (.inl (.inr z))
      · exact .inr (hn j z)
    · exact .inl (.inr (mv.subO j z))
  have g2 := step_core (X := XX (AN A n1) own) o (fun j z => .inr z) fun j z => .inl (st.srA j z)
  cases sl with
  | no => exact h
  | val u => exact ⟨h.1, h.2.mono g1 g2⟩
  | own u =>
    obtain ⟨i, e1, e2, r⟩ := h
    refine ⟨i, e1, e2, r.move g1 g2 (o.keep i r.lt (fun z => h0 i z (by rw [e1]; simp)) (.inr fun ⟨k, z⟩ => (st.ow k i z).1 (.inr (by rw [e1]; simp))))⟩
theorem SlAt.rp {sl : Sl} {d : D} {ns : List Nat} (h : SlAt sr (XX (AN A ns) own) s sl d ns) (st : St SP sr (AN A ns) own s env denv) (hn : ∀ j ∈ ns, ¬ A j) : Rp sr (XX A own) s sl.u d := by
  have g : ∀ j, XX A own j → XX (AN A ns) own j := fun j z => by rcases z with z | z; (· exact .inl (.inl z)); exact .inr z
  cases sl with
  | no => exact False.elim h
  | val u => exact h.2.weak g
  | own u =>
    obtain ⟨i, e1, rfl, r⟩ := h
    refine r.rp g fun z => ?_
    rcases z with z | ⟨k, z⟩
    · exact hn i (by rw [e1]; simp) z
    · exact (st.ow k i z).1 (.inr (by rw [e1]; simp))
theorem SlsAt.rps : ∀ {sls : List Sl} {ds : List D} {ns ns' : List Nat}, SlsAt sr (XX (AN A ns') own) s sls ds ns → (∀ j ∈ ns, j ∈ ns') → St SP sr (AN A ns') own s env denv → (∀ j ∈ ns, ¬ A j) → Rps sr (XX A own) s (sls.map Sl.u) ds
  | _, _, _, _, .nil, _, _, _ => .nil
  | _, _, _, ns', .cons (sl := sl) (n1 := n1) h t, hs, st, hn => by
    refine .cons ?_ (t.rps (fun j z => hs j (List.mem_append_right _ z)) st fun j z => hn j (List.mem_append_right _ z))
    have g : ∀ j, XX A own j → XX (AN A ns') own j := fun j z => by rcases z with z | z; (· exact .inl (.inl z)); exact .inr z
    cases sl with
    | no => exact False.elim h
    | val u => exact h.2.weak g
    | own u =>
      obtain ⟨i, e1, rfl, r⟩ := h
      subst e1
      refine r.rp g fun z => ?_
      rcases z with z | ⟨k, z⟩
      · exact hn i (by simp) z
      · exact (st.ow k i z).1 (.inr (hs i (by simp)))
theorem SlsAt.move {X X' : Nat → Prop} : ∀ {sls : List Sl} {ds : List D} {ns : List Nat}, SlsAt sr X s sls ds ns → (∀ j, X' j → X j ∨ s.length ≤ j) → (∀ j c, ¬ X j → s[j]? = some c → ∃ c', s'[j]? = some c' ∧ c'.core = c.core) → (∀ i ∈ ns, s'[i]? = s[i]?) → SlsAt sr X' s' sls ds ns
  | _, _, _, .nil, _, _, _ => .nil
  | _, _, _, .cons (sl := sl) h t, h1, h2, h3 => by
    refine .cons ?_ (t.move h1 h2 fun i z => h3 i (List.mem_append_right _ z))
    cases sl with
    | no => exact h
    | val u => exact ⟨h.1, h.2.mono h1 h2⟩
    | own u => obtain ⟨i, e1, e2, r⟩ := h; exact ⟨i, e1, e2, r.move h1 h2 (h3 i (by rw [e1]; simp))⟩
theorem slsAt_vals {X : Nat → Prop} : ∀ {us : List U} {ds : List D}, Rps sr X s us ds → SlsAt sr X s (us.map Sl.val) ds []
  | _, _, .nil => .nil
  | _, _, .cons h t => SlsAt.cons (n1 := []) (n2 := []) ⟨rfl, h⟩ (slsAt_vals t)
theorem SlsAt.app {X : Nat → Prop} : ∀ {a b : List Sl} {da db : List D} {na nb : List Nat}, SlsAt sr X s a da na → SlsAt sr X s b db nb → SlsAt sr X s (a ++ b) (da ++ db) (na ++ nb)
  | _, _, _, _, _, _, .nil, h' => h'
  | _, _, _, _, _, _, .cons h t, h' => by rw [List.append_assoc]; exact .cons h (t.app h')
end
end Ev
end

section
set_option autoImplicit false
set_option linter.unusedVariables false
set_option linter.unusedSimpArgs false
/-! U5: expressions: what holds of values holds of the run -/
namespace Ev
open PySem

section
variable {SP : SPr} {sr : Option (Nat × Nat)} {A A' : Nat → Prop} {own own' : Nat → Option Nat} {s s' s'' : Sto} {env env' : UEnv} {denv : Env} {m m' : Bool}
/-- all but the source's cells stay -/
theorem St.ext (h : St SP sr A own s env denv) (hl : s.length ≤ s'.length) (hk : ∀ j, j < s.length → ¬ sc sr j → s'[j]? = s[j]?) (hs : SrcOk SP sr s') : St SP sr A own s' env denv := by
  refine ⟨h.len, hs, fun j z => Nat.lt_of_lt_of_le (h.bnd j z) hl, h.srA, fun k sl e => (h.slot k sl e).move (fun j z => .inl z) (fun j c hx e => ⟨c, ?_, rfl⟩) (fun i e => hk i (h.ow k i e).2 fun z => (h.ow k i e).1 (h.srA i z)), h.inj, fun k i e => ⟨(h.ow k i e).1, Nat.lt_of_lt_of_le (h.ow k i e).2 hl⟩⟩
  rw [hk j (List.getElem?_eq_some_iff.1 e).1 fun z => hx (.inl (h.srA j z))]
  exact e
theorem St.write {i r : Nat} {c : C} {u : U} (h : St SP sr A own s env denv) (hi : own i = some r) (hd : denv[i]? = some (some (.ref r))) (rt : RootC sr (XX A own) s c u) : St SP sr A own (s.set r c) (env.set i (.own u)) denv := by
  have hr := h.ow i r hi
  have g2 : ∀ j c', ¬ XX A own j → s[j]? = some c' → ∃ c'', (s.set r c)[j]? = some c'' ∧ c''.core = c'.core := fun j c' hx e =>
    ⟨c', by rw [List.getElem?_set_ne (fun z => hx (.inr ⟨i, by rw [hi, z]⟩))]; exact e, rfl⟩
  have ne : ∀ {a b : Nat}, sr = some (a, b) → r ≠ a ∧ r ≠ b := fun {a b} e => ⟨fun z => hr.1 (h.srA r ⟨a, b, e, .inl z⟩), fun z => hr.1 (h.srA r ⟨a, b, e, .inr z⟩)⟩
  refine ⟨by rw [List.length_set]; exact h.len, fun a b e => SP.loc (List.getElem?_set_ne (ne e).1) (List.getElem?_set_ne (ne e).2) (h.src a b e), fun j z => by rw [List.length_set]; exact h.bnd j z, h.srA, fun k sl e => ?_, h.inj, fun k j e => by rw [List.length_set]; exact h.ow k j e⟩
  by_cases hk : i = k
  · subst hk
    rw [List.getElem?_set] at e
    simp only [if_true] at e
    split at e
    · cases e
      refine ⟨r, hi, hd, ?_⟩
      have hg : (s.set r c)[r]? = some c := by rw [List.getElem?_set_self hr.2]
      cases rt with
      | lst hl hh => exact .lst hg hl (hh.mono (fun j z => .inl z) g2)
      | dct hl hh => exact .dct hg hl (hh.mono (fun j z => .inl z) g2)
    · cases e
  · rw [List.getElem?_set_ne hk] at e
    exact (h.slot k sl e).move (fun j z => .inl z) g2 fun j ej => List.getElem?_set_ne fun z => hk (h.inj i k r hi (by rw [ej, z]))

variable (SP) (cw : Str → List U → PT) (gu : Str → Option U) (cl : Str → List D → Sto → Option (D × Sto)) (gl : Str → Option D)
def SC : Prop := ∀ (f : Str) (us : List U) (Q : U → Prop), cw f us Q → ∀ (sr : Option (Nat × Nat)) (A : Nat → Prop) (s : Sto) (ds : List D), Rps sr A s us ds → (∀ j, sc sr j → A j) → (∀ j, A j → j < s.length) → SrcOk SP sr s →
  ∃ d s' u, cl f ds s = some (d, s') ∧ Q u ∧ Rp sr A s' u d ∧ SrcOk SP sr s' ∧ s.length ≤ s'.length ∧ ∀ j, j < s.length → ¬ sc sr j → s'[j]? = s[j]?
def GU : Prop := ∀ x u, gu x = some u → ∃ d, gl x = some d ∧ ∀ sr X s, Rp sr X s u d
def SE (e : E) : Prop := ∀ {sr : Option (Nat × Nat)} {A : Nat → Prop} {own : Nat → Option Nat} {s : Sto} {env : UEnv} {denv : Env} {Q : Sl → UEnv → Prop}, St SP sr A own s env denv → wE cw gu false e env Q →
  ∃ d s' sl env' own' ns, evE cl gl e denv s = some (d, s') ∧ Q sl env' ∧ St SP sr (AN A ns) own' s' env' denv ∧ SlAt sr (XX (AN A ns) own') s' sl d ns ∧ Mv env env' own own' ∧ Out sr own s s' e.mut ∧ ∀ j ∈ ns, s.length ≤ j
def SK (e : E) : Prop := ∀ {sr : Option (Nat × Nat)} {A : Nat → Prop} {own : Nat → Option Nat} {s : Sto} {env : UEnv} {denv : Env} {Q : Sl → UEnv → Prop}, St SP sr A own s env denv → wE cw gu true e env Q →
  ∃ d s' sl env' own', evE cl gl e denv s = some (d, s') ∧ Q sl env' ∧ St SP sr A own' s' env' denv ∧ Tp sr (XX A own') s' sl.u d ∧ Mv env env' own own' ∧ Out sr own s s' e.mut
def SEs (es : List E) : Prop := ∀ {sr : Option (Nat × Nat)} {A : Nat → Prop} {own : Nat → Option Nat} {s : Sto} {env : UEnv} {denv : Env} {Q : List Sl → UEnv → Prop}, St SP sr A own s env denv → wEs cw gu false es env Q →
  ∃ ds s' sls env' own' ns, evEs cl gl es denv s = some (ds, s') ∧ Q sls env' ∧ St SP sr (AN A ns) own' s' env' denv ∧ SlsAt sr (XX (AN A ns) own') s' sls ds ns ∧ ns.Nodup ∧ Mv env env' own own' ∧ Out sr own s s' (E.muts es) ∧ ∀ j ∈ ns, s.length ≤ j
def SKs (es : List E) : Prop := ∀ {sr : Option (Nat × Nat)} {A : Nat → Prop} {own : Nat → Option Nat} {s : Sto} {env : UEnv} {denv : Env} {Q : List Sl → UEnv → Prop}, St SP sr A own s env denv → wEs cw gu true es env Q →
  ∃ ds s' sls env' own', evEs cl gl es denv s = some (ds, s') ∧ Q sls env' ∧ St SP sr A own' s' env' denv ∧ Tps sr (XX A own') s' (sls.map Sl.u) ds ∧ Mv env env' own own' ∧ Out sr own s s' (E.muts es)
def SO (o : Option E) : Prop := ∀ {sr : Option (Nat × Nat)} {A : Nat → Prop} {own : Nat → Option Nat} {s : Sto} {env : UEnv} {denv : Env} {Q : Option Int → UEnv → Prop}, St SP sr A own s env denv → wO cw gu o env Q →
  ∃ l s' env' own', evO cl gl o denv s = some (l, s') ∧ Q l env' ∧ St SP sr A own' s' env' denv ∧ Mv env env' own own' ∧ Out sr own s s' (E.mutO o)
def SCo (o : Option E) : Prop := ∀ {sr : Option (Nat × Nat)} {A : Nat → Prop} {own : Nat → Option Nat} {s : Sto} {env : UEnv} {denv : Env} {Q : Sl → UEnv → Prop}, St SP sr A own s env denv → wC cw gu o env Q →
  ∃ d s' sl env' own' ns, evC cl gl o denv s = some (d, s') ∧ Q sl env' ∧ St SP sr (AN A ns) own' s' env' denv ∧ SlAt sr (XX (AN A ns) own') s' sl d ns ∧ Mv env env' own own' ∧ Out sr own s s' (E.mutO o) ∧ ∀ j ∈ ns, s.length ≤ j
/-- the items of a loop -/
structure SrcAt (sr : Option (Nat × Nat)) (X : Nat → Prop) (s : Sto) (us : List U) (g : Src) : Prop where
  its : Rps sr X s us g.items
  le : g.items.length ≤ L
  keep : ∀ p ∈ g.keep, s[p.1]? = some p.2 ∧ ¬ X p.1 ∧ ∃ ds, p.2 = .lst ds
  lock : ∀ r, g.lock = some r → ∃ c kvs, s[r]? = some c ∧ c.kvs = some kvs ∧ ¬ X r
def SI (it : It) : Prop := ∀ {sr : Option (Nat × Nat)} {A : Nat → Prop} {own : Nat → Option Nat} {s : Sto} {env : UEnv} {denv : Env} {Q : List U → UEnv → Prop}, St SP sr A own s env denv → wI cw gu it env Q →
  ∃ g s' us env' own', evI cl gl it denv s = some (g, s') ∧ Q us env' ∧ St SP sr A own' s' env' denv ∧ SrcAt sr (XX A own') s' us g ∧ Mv env env' own own' ∧ Out sr own s s' (It.mut it)
variable {SP cw gu cl gl}
theorem wE_pk {e : E} (h : e.isVar = false) : wE cw gu true e = wE cw gu false e := by
  funext env Q
  cases e <;> first | (cases h; done) | ((conv => lhs; unfold wE); (conv => rhs; unfold wE))
theorem SK.of {e : E} (h : SE SP cw gu cl gl e) : SK SP cw gu cl gl e := by
  intro sr A own s env denv Q st hw
  by_cases hv : e.isVar = true
  · obtain ⟨i, rfl⟩ : ∃ i, e = .var i := by cases e <;> first | exact ⟨_, rfl⟩ | cases hv
    rw [wE] at hw
    split at hw
    · rename_i u e0
      obtain ⟨d, e1, r⟩ := st.slot i _ e0
      exact ⟨d, s, _, env, own, by rw [evE, e1], hw, st, .inl r, .refl, .refl⟩
    · rename_i u e0
      simp only [if_true] at hw
      obtain ⟨j, e1, e2, r⟩ := st.slot i _ e0
      exact ⟨.ref j, s, _, env, own, by rw [evE, e2], hw, st, .inr ⟨j, rfl, fun z => (st.ow i j e1).1 (st.srA j z), r⟩, .refl, .refl⟩
    · cases hw
  · rw [wE_pk (by simpa using hv)] at hw
    obtain ⟨d, s', sl, env', own', ns, h1, h2, h3, h4, h5, h6, h7⟩ := h st hw
    exact ⟨d, s', sl, env', own', h1, h2, h3.drop st.srA, .inl (h4.rp h3 fun j z1 z2 => by have := h7 j z1; have := st.bnd j z2; omega), h5, h6⟩
theorem pack {e : E} {Q : Sl → UEnv → Prop} {p : D × Sto} {r : Sl} (ev : evE cl gl e denv s = some p) (hq : Q r env') (st : St SP sr A own' s' env' denv) (mv : Mv env env' own own') (o : Out sr own s s' m) (hm : m = e.mut) (hr : Res sr (XX A own') s' r p) :
    ∃ d s' sl env' own' ns, evE cl gl e denv s = some (d, s') ∧ Q sl env' ∧ St SP sr (AN A ns) own' s' env' denv ∧ SlAt sr (XX (AN A ns) own') s' sl d ns ∧ Mv env env' own own' ∧ Out sr own s s' e.mut ∧ ∀ j ∈ ns, s.length ≤ j := by
  obtain ⟨ns, h1, h2, h3, h4⟩ := finish (X := A) st hr
  refine ⟨p.1, p.2, r, env', own', ns, ev, hq, h2, h3, mv, ?_, fun j z => Nat.le_trans o.len (h1 j z)⟩
  have := o.trans h4 mv.subO
  rw [Bool.or_false, hm] at this
  exact this
theorem two {a b : E} {R : Sl → Sl → UEnv → Prop} (ha : SK SP cw gu cl gl a) (hb : SK SP cw gu cl gl b) (hm : b.mut = false) (st : St SP sr A own s env denv) (h : wE cw gu true a env fun x env => wE cw gu true b env fun y env => R x y env) :
    ∃ dx s1 dy s2 x y env2 own2, evE cl gl a denv s = some (dx, s1) ∧ evE cl gl b denv s1 = some (dy, s2) ∧ R x y env2 ∧ St SP sr A own2 s2 env2 denv ∧ Tp sr (XX A own2) s2 x.u dx ∧ Tp sr (XX A own2) s2 y.u dy ∧ Mv env env2 own own2 ∧ Out sr own s s2 (a.mut || b.mut) := by
  obtain ⟨dx, s1, x, env1, own1, h1, h2, h3, h4, h5, h6⟩ := ha st h
  obtain ⟨dy, s2, y, env2, own2, k1, k2, k3, k4, k5, k6⟩ := hb h3 h2
  rw [hm] at k6
  refine ⟨dx, s1, dy, s2, x, y, env2, own2, h1, k1, k2, k3, h4.step st.srA k5 k6, k4, h5.trans k5, ?_⟩
  rw [hm]
  exact h6.trans k6 h5.subO
/-! comprehensions -/
theorem setTU_len : ∀ {t : T} {d : Sl} {env env1 : UEnv}, setTU t d env = some env1 → env1.length = env.length
  | .nm i, d, env, env1, e => by rw [setTU] at e; cases e; simp
  | .tp ts, d, env, env1, e => by
    rw [setTU] at e
    split at e
    · exact setTsU_len e
    · cases e
where setTsU_len : ∀ {ts : List T} {us : List U} {env env1 : UEnv}, setTsU ts us env = some env1 → env1.length = env.length
  | [], [], env, env1, e => by rw [setTsU] at e; cases e; rfl
  | t :: ts, u :: us, env, env1, e => by
    rw [setTsU, Option.bind_eq_some_iff] at e
    obtain ⟨env2, e1, e2⟩ := e
    rw [setTsU_len e2, setTU_len e1]
  | [], u :: us, env, env1, e => by simp [setTsU] at e
  | t :: ts, [], env, env1, e => by simp [setTsU] at e
theorem St.setVal (st : St SP sr A own s env denv) {u : U} {d : D} (r : Rp sr (XX A own) s u d) (i : Nat) : St SP sr A own s (env.set i (.val u)) (denv.set i (some d)) := by
  refine ⟨by simp [st.len], st.src, st.bnd, st.srA, fun k sl e => ?_, st.inj, st.ow⟩
  rw [List.getElem?_set] at e
  by_cases hk : i = k
  · subst hk
    simp only [if_true] at e
    split at e
    · rename_i hl
      cases e
      exact ⟨d, by rw [List.getElem?_set_self (by rw [← st.len]; exact hl)], r⟩
    · cases e
  · simp only [hk, if_false] at e
    have := st.slot k sl e
    cases sl with
    | no => trivial
    | val u => obtain ⟨d, e, r⟩ := this; exact ⟨d, by rw [List.getElem?_set_ne hk]; exact e, r⟩
    | own u => obtain ⟨j, e1, e2, r⟩ := this; exact ⟨j, e1, by rw [List.getElem?_set_ne hk]; exact e2, r⟩
theorem St.setT : ∀ {t : T} {u : U} {d : D} {env env1 : UEnv} {denv : Env}, St SP sr A own s env denv → Rp sr (XX A own) s u d → setTU t (.val u) env = some env1 → ∃ denv1, setT s t d denv = some denv1 ∧ St SP sr A own s env1 denv1
  | .nm i, u, d, env, env1, denv, st, r, e => by
    rw [setTU] at e; cases e
    exact ⟨_, by rw [Ev.setT], st.setVal r i⟩
  | .tp ts, u, d, env, env1, denv, st, r, e => by
    rw [setTU] at e
    split at e
    · rename_i us hu
      simp only [Sl.u] at hu
      obtain ⟨ds, e0, _, r'⟩ := itemsU_ok (.inl r) hu
      obtain ⟨denv1, e1, st1⟩ := setTs st r' e
      exact ⟨denv1, by rw [Ev.setT, e0]; exact e1, st1⟩
    · cases e
where setTs : ∀ {ts : List T} {us : List U} {ds : List D} {env env1 : UEnv} {denv : Env}, St SP sr A own s env denv → Rps sr (XX A own) s us ds → setTsU ts us env = some env1 → ∃ denv1, Ev.setTs s ts ds denv = some denv1 ∧ St SP sr A own s env1 denv1
  | [], [], ds, env, env1, denv, st, r, e => by
    cases r; rw [setTsU] at e; cases e; exact ⟨denv, by rw [Ev.setTs], st⟩
  | t :: ts, u :: us, ds, env, env1, denv, st, r, e => by
    cases r with
    | cons r rs =>
      rw [setTsU, Option.bind_eq_some_iff] at e
      obtain ⟨env2, e1, e2⟩ := e
      obtain ⟨denv2, f1, st2⟩ := St.setT st r e1
      obtain ⟨denv3, f2, st3⟩ := setTs st2 rs e2
      exact ⟨denv3, by rw [Ev.setTs, f1]; exact f2, st3⟩
  | [], u :: us, ds, env, env1, denv, st, r, e => by simp [setTsU] at e
  | t :: ts, [], ds, env, env1, denv, st, r, e => by simp [setTsU] at e
theorem St.wipe (st : St SP sr A own s env denv) : ∀ vs : List Nat, St SP sr A own s (wipeU env vs) (wipeD denv vs)
  | [] => st
  | v :: vs => by
    have h := st.wipe vs
    refine ⟨by simp [wipeU, wipeD, h.len], h.src, h.bnd, h.srA, fun k sl e => ?_, h.inj, h.ow⟩
    rw [wipeU, List.getElem?_set] at e
    by_cases hk : v = k
    · simp only [hk, if_true] at e
      split at e
      · cases e; trivial
      · cases e
    · simp only [hk, if_false] at e
      have := h.slot k sl e
      cases sl with
      | no => trivial
      | val u => obtain ⟨d, e, r⟩ := this; exact ⟨d, by rw [wipeD, List.getElem?_set_ne hk]; exact e, r⟩
      | own u => obtain ⟨j, e1, e2, r⟩ := this; exact ⟨j, e1, by rw [wipeD, List.getElem?_set_ne hk]; exact e2, r⟩
theorem Mv.same {own2 : Nat → Option Nat} (h : Mv env env own own2) : own2 = own := by
  funext k
  rcases h.fz k with z | ⟨_, z1, z2⟩
  · exact z
  · exfalso
    cases hk : env[k]? with
    | none => rw [hk] at z1; exact z1
    | some sl => rw [hk] at z1 z2; cases sl <;> simp_all [isOwn, isVal]
theorem Out.all (o : Out sr own s s' false) (j : Nat) (h : j < s.length) (h' : ¬ sc sr j) : s'[j]? = s[j]? := o.keep j h h' (.inl rfl)
theorem all_core {X : Nat → Prop} (hs : ∀ j, sc sr j → X j) (hk : ∀ j, j < s.length → ¬ sc sr j → s'[j]? = s[j]?) (j : Nat) (c : C) (hx : ¬ X j) (e : s[j]? = some c) : ∃ c', s'[j]? = some c' ∧ c'.core = c.core :=
  ⟨c, by rw [hk j (List.getElem?_eq_some_iff.1 e).1 fun z => hx (hs j z)]; exact e, rfl⟩
theorem comp_ok {elt : E} {c : Option E} (he : SE SP cw gu cl gl elt) (hc : SCo SP cw gu cl gl c) (me : elt.mut = false) (mc : E.mutO c = false) {t : T} {g : Src} {Q : List U → Prop} : ∀ {us : List U} {ds : List D} {accU : List U} {accD : List D} {s : Sto},
    St SP sr A own s env denv → Rps sr (XX A own) s us ds → Rps sr (XX A own) s accU accD → accD.length + ds.length ≤ L → (∀ p ∈ g.keep, s[p.1]? = some p.2 ∧ ¬ XX A own p.1) →
    wComp (fun env Q => wE cw gu false elt env Q) (fun env Q => wC cw gu c env Q) t env us accU Q →
    ∃ s' accD' accU', compL (fun env s => evE cl gl elt env s) (fun env s => evC cl gl c env s) t denv g ds accD s = some (accD', s') ∧ Q accU' ∧ Rps sr (XX A own) s' accU' accD' ∧ accD'.length ≤ L ∧ SrcOk SP sr s' ∧ s.length ≤ s'.length ∧ ∀ j, j < s.length → ¬ sc sr j → s'[j]? = s[j]?
  | [], ds, accU, accD, s, st, r, ra, hl, hg, h => by
    cases r
    have hok : g.ok s = true := by
      unfold Src.ok
      rw [List.all_eq_true]
      exact fun p hp => by simpa using (hg p hp).1
    exact ⟨s, accD, accU, by rw [compL, if_pos hok], h, ra, by simpa using hl, st.src, Nat.le_refl _, fun _ _ _ => rfl⟩
  | u :: us, ds, accU, accD, s, st, r, ra, hl, hg, h => by
    cases r with
    | cons r rs =>
      rename_i d ds
      have hok : g.ok s = true := by
        unfold Src.ok
        rw [List.all_eq_true]
        exact fun p hp => by simpa using (hg p hp).1
      rw [List.length_cons] at hl
      rw [wComp] at h
      obtain ⟨env1, e1, h⟩ := h
      obtain ⟨denv1, f1, st1⟩ := st.setT r e1
      obtain ⟨db, s1, b, env2, own2, ns, g1, ⟨rfl, h⟩, g3, g4, g5, g6, g7⟩ := hc st1 h
      have hown := g5.same
      subst own2
      rw [mc] at g6
      have st2 := g3.drop st.srA
      have hb := g4.rp g3 fun j z1 z2 => by have := g7 j z1; have := st.bnd j z2; omega
      have keep1 : ∀ p ∈ g.keep, s1[p.1]? = some p.2 ∧ ¬ XX A own p.1 := fun p hp => ⟨by rw [g6.all p.1 (List.getElem?_eq_some_iff.1 (hg p hp).1).1 fun z => (hg p hp).2 (.inl (st.srA _ z))]; exact (hg p hp).1, (hg p hp).2⟩
      have stE := st.ext g6.len (fun j => g6.all j) st2.src
      have hcr : ∀ (j : Nat) (c : C), ¬ XX A own j → s[j]? = some c → ∃ c', s1[j]? = some c' ∧ c'.core = c.core := all_core (fun j z => .inl (st.srA j z)) fun j => g6.all j
      split at h
      · rename_i hbu
        rw [hbu] at hb
        cases hb
        obtain ⟨dx, s2, x, env3, own3, ns2, k1, ⟨rfl, hnext⟩, k3, k4, k5, k6, k7⟩ := he st2 h
        have hown := k5.same
        subst own3
        rw [me] at k6
        have st3 := k3.drop st.srA
        have hx := k4.rp k3 fun j z1 z2 => by have := k7 j z1; have := st2.bnd j z2; omega
        have hcr2 : ∀ (j : Nat) (c : C), ¬ XX A own j → s1[j]? = some c → ∃ c', s2[j]? = some c' ∧ c'.core = c.core := all_core (fun j z => .inl (st.srA j z)) fun j => k6.all j
        have stE2 := stE.ext k6.len (fun j => k6.all j) st3.src
        have keep2 : ∀ p ∈ g.keep, s2[p.1]? = some p.2 ∧ ¬ XX A own p.1 := fun p hp => ⟨by rw [k6.all p.1 (List.getElem?_eq_some_iff.1 (keep1 p hp).1).1 fun z => (hg p hp).2 (.inl (st.srA _ z))]; exact (keep1 p hp).1, (hg p hp).2⟩
        have mm : ∀ j, XX A own j → XX A own j ∨ s.length ≤ j := fun j z => .inl z
        obtain ⟨s', accD', accU', l1, l2, l3, l4, l5, l6, l7⟩ := comp_ok he hc me mc (us := us) (ds := ds) (accU := accU ++ [x.u]) (accD := accD ++ [dx]) stE2 ((rs.mono mm hcr).mono (fun j z => .inl z) hcr2) (((ra.mono mm hcr).mono (fun j z => .inl z) hcr2).append (.cons hx .nil)) (by simp; omega) keep2 hnext
        refine ⟨s', accD', accU', ?_, l2, l3, l4, l5, Nat.le_trans (Nat.le_trans g6.len k6.len) l6, fun j z1 z2 => ?_⟩
        · rw [compL, if_pos hok, f1, Option.bind_some]
          simp only [g1, bnd_some, k1]
          rw [if_pos (by omega)]
          exact l1
        · rw [l7 j (by have := g6.len; have := k6.len; omega) z2, k6.all j (by have := g6.len; omega) z2, g6.all j z1 z2]
      · rename_i hbu
        rw [hbu] at hb
        cases hb
        have mm : ∀ j, XX A own j → XX A own j ∨ s.length ≤ j := fun j z => .inl z
        obtain ⟨s', accD', accU', l1, l2, l3, l4, l5, l6, l7⟩ := comp_ok he hc me mc (us := us) (ds := ds) (accU := accU) (accD := accD) stE (rs.mono mm hcr) (ra.mono mm hcr) (by omega) keep1 h
        refine ⟨s', accD', accU', ?_, l2, l3, l4, l5, Nat.le_trans g6.len l6, fun j z1 z2 => ?_⟩
        · rw [compL, if_pos hok, f1, Option.bind_some]
          simp only [g1, bnd_some]
          exact l1
        · rw [l7 j (by have := g6.len; omega) z2, g6.all j z1 z2]
      · cases h
/-- another form of a locked dict, back and forth -/
theorem St.recore (h : St SP sr A own s env denv) (hl : s'.length = s.length) (hc : ∀ (j : Nat) (c : C), s[j]? = some c → ∃ c', s'[j]? = some c' ∧ c'.core = c.core) (hx : ∀ j, XX A own j → s'[j]? = s[j]?) : St SP sr A own s' env denv := by
  refine ⟨h.len, fun a b e => SP.loc (hx _ (.inl (h.srA _ ⟨a, b, e, .inl rfl⟩))) (hx _ (.inl (h.srA _ ⟨a, b, e, .inr rfl⟩))) (h.src a b e), fun j z => by rw [hl]; exact h.bnd j z, h.srA, fun k sl e => (h.slot k sl e).move (fun j z => .inl z) (fun j c _ e => hc j c e) (fun i e => hx i (.inr ⟨k, e⟩)), h.inj, fun k i e => by rw [hl]; exact h.ow k i e⟩
theorem lock_core {g : Src} (s : Sto) : (lockS g s).length = s.length ∧ (∀ (j : Nat) (c : C), s[j]? = some c → ∃ c', (lockS g s)[j]? = some c' ∧ c'.core = c.core) ∧ (∀ j : Nat, g.lock ≠ some j → (lockS g s)[j]? = s[j]?) := by
  unfold lockS
  split
  · exact ⟨rfl, fun j c e => ⟨c, e, rfl⟩, fun _ _ => rfl⟩
  · rename_i r hr
    split
    · rename_i kvs e0
      refine ⟨by simp, fun j c e => ?_, fun j hj => List.getElem?_set_ne fun z => hj (by rw [hr, z])⟩
      by_cases hj : r = j
      · subst hj
        rw [e0] at e; cases e
        exact ⟨.lck kvs, by rw [List.getElem?_set_self (List.getElem?_eq_some_iff.1 e0).1], rfl⟩
      · exact ⟨c, by rw [List.getElem?_set_ne hj]; exact e, rfl⟩
    · exact ⟨rfl, fun j c e => ⟨c, e, rfl⟩, fun _ _ => rfl⟩
/-- unlocked behind a loop that left the cell alone -/
theorem unlock_core {g : Src} {s s1 : Sto} (hl : s.length ≤ s1.length) (hg : ∀ r, g.lock = some r → s1[r]? = (lockS g s)[r]? ∧ r < s.length) :
    (unlockS g s s1).length = s1.length ∧ (∀ (j : Nat) (c : C), s1[j]? = some c → ∃ c', (unlockS g s s1)[j]? = some c' ∧ c'.core = c.core) ∧ (∀ j : Nat, g.lock ≠ some j → (unlockS g s s1)[j]? = s1[j]?) ∧ (∀ j : Nat, g.lock = some j → (unlockS g s s1)[j]? = s[j]?) := by
  unfold unlockS
  split
  · rename_i hr
    exact ⟨rfl, fun j c e => ⟨c, e, rfl⟩, fun _ _ => rfl, fun j z => by rw [hr] at z; cases z⟩
  · rename_i r hr
    obtain ⟨h1, h2⟩ := hg r hr
    have e0 : s[r]? = some s[r] := List.getElem?_eq_getElem h2
    rw [e0]
    simp only
    refine ⟨by simp, fun j c e => ?_, fun j hj => List.getElem?_set_ne fun z => hj (by rw [hr, z]), fun j hj => ?_⟩
    · by_cases hj : r = j
      · subst hj
        refine ⟨s[r], by rw [List.getElem?_set_self (by omega)], ?_⟩
        obtain ⟨c', e1, e2⟩ := (lock_core (g := g) s).2.1 r _ e0
        rw [← h1, e] at e1
        cases e1
        exact e2.symm
      · exact ⟨c, by rw [List.getElem?_set_ne hj]; exact e, rfl⟩
    · rw [hr] at hj; cases hj
      rw [List.getElem?_set_self (by omega), e0]
end
end Ev
end

section
set_option autoImplicit false
set_option linter.unusedVariables false
set_option linter.unusedSimpArgs false
/-! U6: expressions, all -/
namespace Ev
open PySem

section
variable {SP : SPr} {cw : Str → List U → PT} {gu : Str → Option U} {cl : Str → List D → Sto → Option (D × Sto)} {gl : Str → Option D}
theorem se_var (i : Nat) : SE SP cw gu cl gl (.var i) := by
  intro sr A own s env denv Q st hw
  rw [wE] at hw
  split at hw
  · rename_i u e0
    obtain ⟨d, e1, r⟩ := st.slot i _ e0
    exact pack (m := false) (by rw [evE, e1]) hw st .refl .refl rfl (.val r)
  · rename_i u e0
    simp only [Bool.false_eq_true, if_false] at hw
    obtain ⟨j, e1, e2, r⟩ := st.slot i _ e0
    have hi : i < env.length := (List.getElem?_eq_some_iff.1 e0).1
    let own' : Nat → Option Nat := fun k => if k = i then none else own k
    have sub : ∀ k j, own' k = some j → own k = some j ∧ k ≠ i := fun k j z => by
      simp only [own'] at z
      split at z
      · cases z
      · rename_i h; exact ⟨z, h⟩
    have g : ∀ j, XX A own' j → XX A own j := fun j z => by
      rcases z with z | ⟨k, z⟩
      · exact .inl z
      · exact .inr ⟨k, (sub k j z).1⟩
    have hnx : ¬ XX A own' j := fun z => by
      rcases z with z | ⟨k, z⟩
      · exact (st.ow i j e1).1 z
      · exact (sub k j z).2 (st.inj k i j (sub k j z).1 e1)
    have rr := r.rp g hnx
    have st' : St SP sr A own' s (env.set i (.val u)) denv := by
      refine ⟨by rw [List.length_set]; exact st.len, st.src, st.bnd, st.srA, fun k sl e => ?_, fun k k' i' z z' => st.inj k k' i' (sub k i' z).1 (sub k' i' z').1, fun k i' z => st.ow k i' (sub k i' z).1⟩
      rw [List.getElem?_set] at e
      by_cases hk : i = k
      · subst hk
        simp only [if_true, hi] at e
        cases e
        exact ⟨_, e2, rr⟩
      · simp only [hk, if_false] at e
        have h := st.slot k sl e
        cases sl with
        | no => trivial
        | val u' => obtain ⟨d, e, r⟩ := h; exact ⟨d, e, r.weak g⟩
        | own u' =>
          obtain ⟨j', f1, f2, r⟩ := h
          exact ⟨j', by simp only [own']; rw [if_neg (fun z => hk z.symm)]; exact f1, f2, r.move (fun j z => .inl (g j z)) (fun j c _ e => ⟨c, e, rfl⟩) rfl⟩
    have mv : Mv env (env.set i (.val u)) own own' := by
      refine ⟨fun k => ?_, fun k z => ?_, fun k z => ?_⟩
      · by_cases hk : k = i
        · subst hk
          refine .inr ⟨by simp [own'], by rw [e0]; trivial, by rw [List.getElem?_set_self hi]; trivial⟩
        · exact .inl (by simp only [own', if_neg hk])
      · by_cases hk : i = k
        · subst hk; rw [List.getElem?_set_self hi] at z; exact False.elim z
        · rw [List.getElem?_set_ne hk] at z; exact z
      · by_cases hk : i = k
        · subst hk; rw [e0] at z; exact False.elim z
        · rw [List.getElem?_set_ne hk]; exact z
    exact pack (m := false) (p := (.ref j, s)) (by rw [evE, e2]) hw st' mv .refl rfl (.val rr)
  · cases hw
/-- what is written as it is -/
theorem lit_rp {d : D} (h : E.safe (.lit d) = true) (sr : Option (Nat × Nat)) (X : Nat → Prop) (s : Sto) : Rp sr X s d.toU d := by
  cases d with
  | non => rw [D.toU]; exact .non
  | bl => rw [D.toU]; exact .bl
  | int => rw [D.toU]; exact .int
  | str => rw [D.toU]; exact .str
  | scr => rw [D.toU]; exact .scr
  | tup => simp [E.safe] at h
  | ref => simp [E.safe, D.pure] at h
theorem muts_cons {e : E} {es : List E} : E.muts (e :: es) = (e.mut || E.muts es) := by rw [E.muts]
theorem tp_spl {sr : Option (Nat × Nat)} {X : Nat → Prop} {s : Sto} {us : List U} {d : D} (h : Rp sr X s (.tup us) d) : Rps sr X s us d.spl := by
  cases h with | tup _ h => exact h

theorem tps_of {sr : Option (Nat × Nat)} {X : Nat → Prop} {s : Sto} : ∀ {us : List U} {ds : List D}, Rps sr X s us ds → Tps sr X s us ds
  | _, _, .nil => .nil
  | _, _, .cons h t => .cons (.inl h) (tps_of t)
theorem tps_app {sr : Option (Nat × Nat)} {X : Nat → Prop} {s : Sto} : ∀ {us vs : List U} {ds es : List D}, Tps sr X s us ds → Tps sr X s vs es → Tps sr X s (us ++ vs) (ds ++ es)
  | _, _, _, _, .nil, h => h
  | _, _, _, _, .cons h t, h' => .cons h (tps_app t h')
theorem items_rps {sr : Option (Nat × Nat)} {X : Nat → Prop} {s : Sto} : ∀ {kus : List (D × U)} {kds : List (D × D)}, Rpk sr X s kus kds → Rps sr X s (kus.map fun kv => .tup [kv.1.toU, kv.2]) (kds.map fun kv => .tup [kv.1, kv.2])
  | _, _, .nil => .nil
  | _, _, .cons k h t => .cons (.tup (by simp [L]) (.cons k (.cons h .nil))) (items_rps t)
theorem range_ok {sr : Option (Nat × Nat)} {X : Nat → Prop} {s : Sto} {lo hi : Int} {us : List U} (e : rangeU lo hi = some us) : ∃ g, srcRange lo hi = some g ∧ SrcAt sr X s us g := by
  unfold rangeU at e
  split at e
  · rename_i h
    cases e
    refine ⟨_, if_pos (by omega), ?_, ?_, nofun, nofun⟩
    · generalize List.range (hi - lo).toNat = l
      induction l with
      | nil => exact .nil
      | cons x l ih => exact .cons .int ih
    · simp only [List.length_map, List.length_range, L]; omega
  · cases e

theorem mut_mth {m : Mt} {o : E} {es : List E} (hm : ¬ m = .get) : (E.mth m o es).mut = true := by
  cases m <;> first | (simp [E.mut]; done) | exact absurd rfl hm
theorem star_val {pk : Bool} {a : E} {env : UEnv} {Q : Sl → UEnv → Prop} (h : wE cw gu pk (.star a) env Q) : wE cw gu pk (.star a) env fun sl env => Q sl env ∧ ∃ us, sl = .val (.tup us) := by
  rw [wE] at h ⊢
  have : (fun (x : Sl) (env : UEnv) => ok (itemsU x.u) fun us => Q (.val (.tup us)) env ∧ ∃ us', Sl.val (.tup us) = .val (.tup us')) = fun (x : Sl) (env : UEnv) => ok (itemsU x.u) fun us => Q (.val (.tup us)) env := by
    funext x env
    simp
  rw [this]
  exact h
theorem sEs_cons {e : E} {es : List E} (he : SE SP cw gu cl gl e) (hes : SEs SP cw gu cl gl es) : SEs SP cw gu cl gl (e :: es) := by
  intro sr A own s env denv Q st hw
  rw [wEs] at hw
  by_cases hst : e.isStar = true
  · obtain ⟨a, rfl⟩ : ∃ a, e = .star a := by cases e <;> first | exact ⟨_, rfl⟩ | cases hst
    obtain ⟨d, s1, sl, env1, own1, n1, h1, ⟨h2, us, rfl⟩, h3, h4, h5, h6, h7⟩ := he st (star_val hw)
    obtain ⟨rfl, r⟩ := h4
    have r := tp_spl r
    have h3 := h3.drop st.srA
    have r : Rps sr (XX A own1) s1 us d.spl := r.weak fun j z => by rcases z with z | z; (· exact .inl (.inl z)); exact .inr z
    obtain ⟨ds, s2, sls, env2, own2, ns, k1, k2, k3, k4, k5, k6, k7, k8⟩ := hes h3 h2
    simp only [E.isStar, if_true, Sl.u, U.spl] at k2
    have r2 : Rps sr (XX (AN A ns) own2) s2 us d.spl := r.mono (fun j z => by
      rcases z with (z | z) | z
      · exact .inl (.inl z)
      · exact .inr (k8 j z)
      · exact .inl (.inr (k6.subO j z))) (step_core k7 (fun j z => .inr z) fun j z => .inl (st.srA j z))
    refine ⟨d.spl ++ ds, s2, _, env2, own2, ns, ?_, k2, k3, (slsAt_vals r2).app k4, k5, h5.trans k6, ?_, fun j z => Nat.le_trans h6.len (k8 j z)⟩
    · rw [evEs, h1]
      simp only [bnd_some, k1, E.isStar, if_true]
    · rw [E.muts]
      exact h6.trans k7 h5.subO
  · obtain ⟨d, s1, sl, env1, own1, n1, h1, h2, h3, h4, h5, h6, h7⟩ := he st hw
    obtain ⟨ds, s2, sls, env2, own2, n2, k1, k2, k3, k4, k5, k6, k7, k8⟩ := hes h3 h2
    rw [if_neg hst] at k2
    have hn2 : ∀ j ∈ n2, s1.length ≤ j := k8
    have lt1 : ∀ j ∈ n1, j < s1.length := fun j z => h3.bnd j (.inr z)
    refine ⟨d :: ds, s2, sl :: sls, env2, own2, n1 ++ n2, ?_, k2, k3.congrA fun j => (an_app j).symm, .cons ?_ (k4.move ?_ (fun j c _ e => ⟨c, e, rfl⟩) fun _ _ => rfl), ?_, h5.trans k6, ?_, ?_⟩
    · rw [evEs, h1]
      simp only [bnd_some, k1]
      rw [if_neg hst]
    · exact SlAt.step h4 h3 k6 k7 hn2 fun j z w => by have := h7 j w; have := st.bnd j (st.srA j z); omega
    · exact fun j z => .inl (by rcases z with z | z; (· exact .inl ((an_app j).2 z)); exact .inr z)
    · have nd1 : n1.Nodup := by
        cases sl with
        | no => exact False.elim h4
        | val u => rw [h4.1]; exact .nil
        | own u => obtain ⟨i, e1, _⟩ := h4; rw [e1]; exact List.nodup_cons.2 ⟨by simp, .nil⟩
      exact List.nodup_append.2 ⟨nd1, k5, fun a ha b hb z => by have := lt1 a ha; have := hn2 b hb; omega⟩
    · rw [E.muts]
      exact h6.trans k7 h5.subO
    · intro j z
      rw [List.mem_append] at z
      rcases z with z | z
      · exact h7 j z
      · exact Nat.le_trans h6.len (hn2 j z)

mutual
theorem sE (hc : SC SP cw cl) (hg : GU gu gl) : ∀ e : E, e.safe = true → SE SP cw gu cl gl e
  | .var i, _ => se_var i
  | .lit d, hs => by
    rename_i sr A own s env denv Q; intro st hw
    rw [wE] at hw
    exact pack (m := false) (by rw [evE]) hw st .refl .refl rfl (.val (lit_rp hs ..))
  | .gl x, hs => by
    rename_i sr A own s env denv Q; intro st hw
    rw [wE] at hw
    obtain ⟨u, e, hw⟩ := hw
    obtain ⟨d, e1, r⟩ := hg x u e
    exact pack (m := false) (p := (d, s)) (by rw [evE, e1]; rfl) hw st .refl .refl rfl (.val (r ..))
  | .tup es, hs => by
    rename_i sr A own s env denv Q; intro st hw
    rw [wE] at hw
    rw [E.safe] at hs
    obtain ⟨ds, s', sls, env', own', ns, h1, h2, h3, h4, h5, h6, h7, h8⟩ := sEs hc hg es hs st hw
    obtain ⟨r, e, hq⟩ := h2
    have st2 := h3.drop st.srA
    obtain ⟨p, e1, e2⟩ := newTU_ok (h4.rps (fun j z => z) h3 fun j z1 z2 => by have := h8 j z1; have := st.bnd j z2; omega) e
    exact pack (by rw [evE, h1]; exact e1) hq st2 h6 h7 (by rw [E.mut]) e2
  | .lst es, hs => by
    rename_i sr A own s env denv Q; intro st hw
    rw [wE] at hw
    rw [E.safe] at hs
    obtain ⟨ds, s', sls, env', own', ns, h1, h2, h3, h4, h5, h6, h7, h8⟩ := sEs hc hg es hs st hw
    obtain ⟨r, e, hq⟩ := h2
    have st2 := h3.drop st.srA
    obtain ⟨p, e1, e2⟩ := newLU_ok (h4.rps (fun j z => z) h3 fun j z1 z2 => by have := h8 j z1; have := st.bnd j z2; omega) e
    exact pack (by rw [evE, h1]; exact e1) hq st2 h6 h7 (by rw [E.mut]) e2
  | .star e, hs => by
    rename_i sr A own s env denv Q; intro st hw
    rw [wE] at hw
    rw [E.safe] at hs
    obtain ⟨d, s', x, env', own', h1, h2, h3, h4, h5, h6⟩ := SK.of (sE hc hg e hs) st hw
    obtain ⟨us, e0, hq⟩ := h2
    obtain ⟨ds, e1, hl, r⟩ := itemsU_ok h4 e0
    exact pack (p := (.tup ds, s')) (by rw [evE, h1]; simp only [bnd_some, e1, Option.map_some]) hq h3 h5 h6 (by rw [E.mut]) (.val (.tup hl r))
  | .dct es, hs => by
    rename_i sr A own s env denv Q; intro st hw
    rw [wE] at hw
    rw [E.safe] at hs
    obtain ⟨ds, s', sls, env', own', ns, h1, h2, h3, h4, h5, h6, h7, h8⟩ := sEs hc hg es hs st hw
    obtain ⟨r, e, hq⟩ := h2
    have st2 := h3.drop st.srA
    obtain ⟨kds, e1, hl, e2⟩ := pairUpU_ok (h4.rps (fun j z => z) h3 fun j z1 z2 => by have := h8 j z1; have := st.bnd j z2; omega) .nil (by simp) e
    exact pack (p := (.ref s'.length, s' ++ [.dct kds])) (by rw [evE, h1]; simp only [bnd_some, e1, Option.map_some]) hq st2 h6 h7 (by rw [E.mut]) (.inr ⟨_, _, rfl, rfl, .dct hl e2⟩)
  | .bin op a b, hs => by
    rename_i sr A own s env denv Q; intro st hw
    rw [wE] at hw
    simp only [E.safe, Bool.and_eq_true, Bool.not_eq_true'] at hs
    obtain ⟨dx, s1, dy, s2, x, y, env2, own2, e1, e2, ⟨r, e3, hq⟩, st2, hx, hy, mv, o⟩ := two (SK.of (sE hc hg a hs.1.1)) (SK.of (sE hc hg b hs.1.2)) hs.2 st hw
    obtain ⟨p, e4, hr⟩ := binU_ok hx hy e3
    exact pack (by rw [evE, e1]; simp only [bnd_some, e2, e4]) hq st2 mv o (by rw [E.mut]) hr
  | .neg a, hs => by
    rename_i sr A own s env denv Q; intro st hw
    rw [wE] at hw
    rw [E.safe] at hs
    obtain ⟨d, s', x, env', own', h1, h2, h3, h4, h5, h6⟩ := SK.of (sE hc hg a hs) st hw
    split at h2
    · rename_i i hx
      rw [hx] at h4
      have := h4.int
      subst this
      exact pack (p := (.int (-i), s')) (by rw [evE, h1]; rfl) h2 h3 h5 h6 (by rw [E.mut]) (.val .int)
    · cases h2
  | .not a, hs => by
    rename_i sr A own s env denv Q; intro st hw
    rw [wE] at hw
    rw [E.safe] at hs
    obtain ⟨d, s', x, env', own', h1, h2, h3, h4, h5, h6⟩ := SK.of (sE hc hg a hs) st hw
    split at h2
    · rename_i i hx
      rw [hx] at h4
      have := h4.bl
      subst this
      exact pack (p := (.bl (!i), s')) (by rw [evE, h1]; rfl) h2 h3 h5 h6 (by rw [E.mut]) (.val .bl)
    · cases h2
  | .cmp op a b, hs => by
    rename_i sr A own s env denv Q; intro st hw
    rw [wE] at hw
    simp only [E.safe, Bool.and_eq_true, Bool.not_eq_true'] at hs
    obtain ⟨dx, s1, dy, s2, x, y, env2, own2, e1, e2, ⟨r, e3, hq⟩, st2, hx, hy, mv, o⟩ := two (SK.of (sE hc hg a hs.1.1)) (SK.of (sE hc hg b hs.1.2)) hs.2 st hw
    exact pack (p := (.bl r, s2)) (by rw [evE, e1]; simp only [bnd_some, e2, cmpU_ok hx hy e3, Option.map_some]) hq st2 mv o (by rw [E.mut]) (.val .bl)
  | .cmp2 op op' a b c, hs => by
    rename_i sr A own s env denv Q; intro st hw
    rw [wE] at hw
    simp only [E.safe, Bool.and_eq_true, Bool.not_eq_true'] at hs
    obtain ⟨⟨⟨⟨ha, hb⟩, hcc⟩, mb⟩, mc⟩ := hs
    obtain ⟨dx, s1, dy, s2, x, y, env2, own2, e1, e2, ⟨r, e3, hq⟩, st2, hx, hy, mv, o⟩ := two (SK.of (sE hc hg a ha)) (SK.of (sE hc hg b hb)) mb st hw
    cases r with
    | false =>
      simp only [Bool.false_eq_true, if_false] at hq
      exact pack (p := (.bl false, s2)) (by rw [evE, e1]; simp only [bnd_some, e2, cmpU_ok hx hy e3, Option.bind_some, Bool.false_eq_true, if_false]) hq st2 mv o (by rw [E.mut, mc, Bool.or_false]) (.val .bl)
    | true =>
      simp only [if_true] at hq
      obtain ⟨d, s', z, env', own', h1, h2, h3, h4, h5, h6⟩ := SK.of (sE hc hg c hcc) st2 hq
      obtain ⟨k, e4, hq⟩ := h2
      rw [mc] at h6
      have oo := o.trans h6 mv.subO
      exact pack (p := (.bl k, s')) (by rw [evE, e1]; simp only [bnd_some, e2, cmpU_ok hx hy e3, Option.bind_some, if_true, h1, cmpU_ok (hy.step st.srA h5 h6) h4 e4, Option.map_some]) hq h3 (mv.trans h5) oo (by rw [E.mut, mc]) (.val .bl)
  | .and a b, hs => by
    rename_i sr A own s env denv Q; intro st hw
    rw [wE] at hw
    simp only [E.safe, Bool.and_eq_true] at hs
    obtain ⟨d, s', x, env', own', h1, h2, h3, h4, h5, h6⟩ := SK.of (sE hc hg a hs.1) st hw
    split at h2
    · rename_i hx
      rw [hx] at h4
      have := h4.bl
      subst this
      obtain ⟨d, s2, sl, env2, own2, ns, k1, k2, k3, k4, k5, k6, k7⟩ := sE hc hg b hs.2 h3 h2
      exact ⟨d, s2, sl, env2, own2, ns, by rw [evE, h1]; simp only [bnd_some]; exact k1, k2, k3, k4, h5.trans k5, by rw [E.mut]; exact h6.trans k6 h5.subO, fun j z => Nat.le_trans h6.len (k7 j z)⟩
    · rename_i hx
      rw [hx] at h4
      have := h4.bl
      subst this
      exact pack (p := (.bl false, s')) (by rw [evE, h1]; rfl) h2 h3 h5 (h6.more (m' := a.mut || b.mut) (fun z => by rw [z]; rfl)) (by rw [E.mut]) (.val .bl)
    · cases h2
  | .or a b, hs => by
    rename_i sr A own s env denv Q; intro st hw
    rw [wE] at hw
    simp only [E.safe, Bool.and_eq_true] at hs
    obtain ⟨d, s', x, env', own', h1, h2, h3, h4, h5, h6⟩ := SK.of (sE hc hg a hs.1) st hw
    split at h2
    · rename_i hx
      rw [hx] at h4
      have := h4.bl
      subst this
      exact pack (p := (.bl true, s')) (by rw [evE, h1]; rfl) h2 h3 h5 (h6.more (m' := a.mut || b.mut) (fun z => by rw [z]; rfl)) (by rw [E.mut]) (.val .bl)
    · rename_i hx
      rw [hx] at h4
      have := h4.bl
      subst this
      obtain ⟨d, s2, sl, env2, own2, ns, k1, k2, k3, k4, k5, k6, k7⟩ := sE hc hg b hs.2 h3 h2
      exact ⟨d, s2, sl, env2, own2, ns, by rw [evE, h1]; simp only [bnd_some]; exact k1, k2, k3, k4, h5.trans k5, by rw [E.mut]; exact h6.trans k6 h5.subO, fun j z => Nat.le_trans h6.len (k7 j z)⟩
    · cases h2
  | .ite c a b, hs => by
    rename_i sr A own s env denv Q; intro st hw
    rw [wE] at hw
    simp only [E.safe, Bool.and_eq_true] at hs
    obtain ⟨d, s', x, env', own', h1, h2, h3, h4, h5, h6⟩ := SK.of (sE hc hg c hs.1.1) st hw
    split at h2
    · rename_i hx
      rw [hx] at h4
      have := h4.bl
      subst this
      obtain ⟨d, s2, sl, env2, own2, ns, k1, k2, k3, k4, k5, k6, k7⟩ := sE hc hg a hs.1.2 h3 h2
      exact ⟨d, s2, sl, env2, own2, ns, by rw [evE, h1]; simp only [bnd_some]; exact k1, k2, k3, k4, h5.trans k5, by rw [E.mut]; exact (h6.trans k6 h5.subO).more (fun z => by rw [z]; rfl), fun j z => Nat.le_trans h6.len (k7 j z)⟩
    · rename_i hx
      rw [hx] at h4
      have := h4.bl
      subst this
      obtain ⟨d, s2, sl, env2, own2, ns, k1, k2, k3, k4, k5, k6, k7⟩ := sE hc hg b hs.2 h3 h2
      exact ⟨d, s2, sl, env2, own2, ns, by rw [evE, h1]; simp only [bnd_some]; exact k1, k2, k3, k4, h5.trans k5, by rw [E.mut]; exact (h6.trans k6 h5.subO).more (fun z => by rw [Bool.or_eq_true] at z; rcases z with z | z <;> rw [z] <;> simp), fun j z => Nat.le_trans h6.len (k7 j z)⟩
    · cases h2
  | .idx a b, hs => by
    rename_i sr A own s env denv Q; intro st hw
    rw [wE] at hw
    simp only [E.safe, Bool.and_eq_true, Bool.not_eq_true'] at hs
    obtain ⟨dx, s1, dy, s2, x, y, env2, own2, e1, e2, ⟨r, e3, hq⟩, st2, hx, hy, mv, o⟩ := two (SK.of (sE hc hg a hs.1.1)) (SK.of (sE hc hg b hs.1.2)) hs.2 st hw
    obtain ⟨d, e4, hr⟩ := idxU_ok hx hy e3
    exact pack (p := (d, s2)) (by rw [evE, e1]; simp only [bnd_some, e2, e4]) hq st2 mv o (by rw [E.mut]) (.val hr)
  | .slc a lo hi, hs => by
    rename_i sr A own s env denv Q; intro st hw
    rw [wE] at hw
    simp only [E.safe, Bool.and_eq_true, Bool.not_eq_true'] at hs
    obtain ⟨⟨⟨⟨ha, hlo⟩, hhi⟩, ml⟩, mh⟩ := hs
    obtain ⟨d, s1, x, env1, own1, h1, h2, h3, h4, h5, h6⟩ := SK.of (sE hc hg a ha) st hw
    obtain ⟨l, s2, env2, own2, k1, k2, k3, k4, k5⟩ := sO hc hg lo hlo h3 h2
    obtain ⟨h, s3, env3, own3, l1, ⟨r, l2, hq⟩, l3, l4, l5⟩ := sO hc hg hi hhi k3 k2
    rw [ml] at k5
    rw [mh] at l5
    obtain ⟨p, e4, hr⟩ := slcU_ok ((h4.step st.srA k4 k5).step st.srA l4 l5) l2
    exact pack (by rw [evE, h1]; simp only [bnd_some, k1, l1]; exact e4) hq l3 ((h5.trans k4).trans l4) ((h6.trans k5 h5.subO).trans l5 (h5.trans k4).subO) (by rw [E.mut, ml, mh]) hr
  | .rev a, hs => by
    rename_i sr A own s env denv Q; intro st hw
    rw [wE] at hw
    rw [E.safe] at hs
    obtain ⟨d, s1, x, env1, own1, h1, ⟨r, h2, hq⟩, h3, h4, h5, h6⟩ := SK.of (sE hc hg a hs) st hw
    obtain ⟨p, e4, hr⟩ := revU_ok h4 h2
    exact pack (by rw [evE, h1]; exact e4) hq h3 h5 h6 (by rw [E.mut]) hr
  | .call f es, hs => by
    rename_i sr A own s env denv Q; intro st hw
    rw [wE] at hw
    rw [E.safe] at hs
    obtain ⟨ds, s', sls, env', own', ns, h1, h2, h3, h4, h5, h6, h7, h8⟩ := sEs hc hg es hs st hw
    have st2 := h3.drop st.srA
    have hr := h4.rps (fun j z => z) h3 fun j z1 z2 => by have := h8 j z1; have := st.bnd j z2; omega
    obtain ⟨d, s2, u, k1, k2, k3, k4, k5, k6⟩ := hc f _ _ h2 sr (XX A own') s' ds hr (fun j z => .inl (st.srA j z)) (fun j z => by
      rcases z with z | ⟨k, z⟩
      · exact st2.bnd j z
      · exact (st2.ow k j z).2) st2.src
    have st3 := st2.ext k5 k6 k4
    have o2 : Out sr own' s' s2 false := ⟨k5, fun j z1 z2 _ => k6 j z1 z2⟩
    exact pack (p := (d, s2)) (by rw [evE, h1]; exact k1) k2 st3 h6 (h7.trans o2 h6.subO) (by rw [E.mut, Bool.or_false]) (.val k3)
  | .bif f es, hs => by
    rename_i sr A own s env denv Q; intro st hw
    rw [wE] at hw
    simp only [E.safe, Bool.and_eq_true, Bool.not_eq_true'] at hs
    obtain ⟨ds, s', sls, env', own', h1, ⟨r, h2, hq⟩, h3, h4, h5, h6⟩ := sKs hc hg es hs.1 hs.2 st hw
    obtain ⟨p, e4, hr⟩ := bifU_ok h4 h2
    exact pack (by rw [evE, h1]; exact e4) hq h3 h5 h6 (by rw [E.mut]) hr
  | .mth m o es, hs => by
    simp only [E.safe, Bool.and_eq_true] at hs
    obtain ⟨⟨hso, hse⟩, hsm⟩ := hs
    by_cases hm : m = .get
    · subst hm
      rename_i sr A own s env denv Q; intro st hw
      rw [wE] at hw
      simp only [Bool.not_eq_true'] at hsm
      obtain ⟨d, s1, x, env1, own1, h1, h2, h3, h4, h5, h6⟩ := SK.of (sE hc hg o hso) st hw
      obtain ⟨ds, s2, sls, env2, own2, ns, k1, k2, k3, k4, k5, k6, k7, k8⟩ := sEs hc hg es hse h3 h2
      rw [hsm] at k7
      have st2 := k3.drop st.srA
      have hr := k4.rps (fun j z => z) k3 fun j z1 z2 => by have := k8 j z1; have := h3.bnd j z2; omega
      split at k2
      rotate_left
      · cases k2
      rename_i kus hx
      split at k2
      rotate_left
      · cases k2
      rename_i sk sd
      obtain ⟨u, e0, hq⟩ := k2
      rw [hx] at h4 e0
      obtain ⟨i, c, kds, rfl, c1, c2, _, _⟩ := h4.dct
      have h4' := h4.step st.srA k6 k7
      obtain ⟨i', c', kds', ei, c1', c2', hl, hk⟩ := h4'.dct
      cases ei
      obtain _ | ⟨ra, rb⟩ := hr
      obtain _ | ⟨rb, rc⟩ := rb
      cases rc
      rename_i dk dd
      simp only [getU] at e0
      rw [Option.bind_eq_some_iff] at e0
      obtain ⟨k, e1, e0⟩ := e0
      obtain ⟨rfl, _⟩ := ra.key e1
      split at e0
      rotate_left
      · cases e0
      rename_i hf
      rw [← hk.fits] at hf
      have hmo : mthOk .get (.ref i) s1 = true := by
        simp only [mthOk, c1]
        cases c with
        | lst => cases c2
        | dct => rfl
        | lck => rfl
      have hres : ∃ dv, mthD .get (.ref i) [dk, dd] s2 = some (dv, s2) ∧ Rp sr (XX A own2) s2 u dv := by
        rcases hk.get dk with ⟨g1, g2⟩ | ⟨u', d', g1, g2, r⟩
        · rw [g1] at e0; simp only [Option.getD_none, Option.some.injEq] at e0; subst e0
          exact ⟨dd, by simp only [mthD, c1', c2', Option.bind_some, hf, if_true, g2, Option.getD_none], rb⟩
        · rw [g1] at e0; simp only [Option.getD_some, Option.some.injEq] at e0; subst e0
          exact ⟨d', by simp only [mthD, c1', c2', Option.bind_some, hf, if_true, g2, Option.getD_some], r⟩
      obtain ⟨dv, f1, f2⟩ := hres
      exact pack (p := (dv, s2)) (by rw [evE, h1]; simp only [bnd_some, hmo, if_true, k1]; exact f1) hq st2 (h5.trans k6) (h6.trans k7 h5.subO) (by rw [E.mut, hsm]; rfl) (.val f2)
    · by_cases hi : m = .index
      · subst hi
        rename_i sr A own s env denv Q; intro st hw
        rw [wE] at hw
        cases hw
      · rename_i sr A own s env denv Q; intro st hw
        have hmm : (E.mth m o es).mut = true := mut_mth hm
        rw [wE.eq_def] at hw
        simp only at hw
        split at hw
        rotate_left
        · cases hw
        rename_i i
        split at hw
        rotate_left
        · cases hw
        rename_i us0 e0
        obtain ⟨r, q1, q2, q3⟩ := st.slot i _ e0
        obtain ⟨ds0, q4⟩ : ∃ ds0, s[r]? = some (.lst ds0) := by cases q3 with | lst e _ _ => exact ⟨_, e⟩
        have hmo : mthOk m (.ref r) s = true := by simp only [mthOk, q4]; cases m <;> first | rfl | exact absurd rfl hm | exact absurd rfl hi
        have ev0 : evE cl gl (.var i) denv s = some (.ref r, s) := by rw [evE, q2]
        -- the hands
        have hargs : ∃ (ds : List D) (s2 : Sto) (sls : List Sl) (env2 : UEnv) (own2 : Nat → Option Nat), evEs cl gl es denv s = some (ds, s2) ∧ (match env2[i]? with
              | some (Sl.own (U.lst us)) => ok (mutU m us (sls.map Sl.u)) fun r => Q (.val r.1) (env2.set i (.own (.lst r.2)))
              | _ => False) ∧ St SP sr A own2 s2 env2 denv ∧ ((m = .append → Rps sr (XX A own2) s2 (sls.map Sl.u) ds) ∧ Tps sr (XX A own2) s2 (sls.map Sl.u) ds) ∧ Mv env env2 own own2 ∧ Out sr own s s2 (E.muts es) := by
          by_cases hx : m = .extend
          · subst hx
            simp only [Bool.not_eq_true'] at hsm
            obtain ⟨ds, s2, sls, env2, own2, k1, k2, k3, k4, k5, k6⟩ := sKs hc hg es hse hsm st hw
            exact ⟨ds, s2, sls, env2, own2, k1, k2, k3, ⟨nofun, k4⟩, k5, k6⟩
          · have hpk : Mt.pk m = false := by cases m <;> first | rfl | exact absurd rfl hx
            rw [hpk] at hw
            obtain ⟨ds, s2, sls, env2, own2, ns, k1, k2, k3, k4, k5, k6, k7, k8⟩ := sEs hc hg es hse st hw
            have hr := k4.rps (fun j z => z) k3 fun j z1 z2 => by have := k8 j z1; have := st.bnd j z2; omega
            exact ⟨ds, s2, sls, env2, own2, k1, k2, k3.drop st.srA, ⟨fun _ => hr, tps_of hr⟩, k6, k7⟩
        obtain ⟨ds, s2, sls, env2, own2, k1, k2, k3, ⟨k4, k4'⟩, k5, k6⟩ := hargs
        split at k2
        rotate_left
        · cases k2
        rename_i us e2
        obtain ⟨⟨u, us'⟩, e3, hq⟩ := k2
        obtain ⟨r', p1, p2, p3⟩ := k3.slot i _ e2
        rw [q2] at p2; cases p2
        obtain ⟨ds1, p4, p5, p6⟩ : ∃ ds1, s2[r]? = some (.lst ds1) ∧ ds1.length ≤ L ∧ Rps sr (XX A own2) s2 us ds1 := by cases p3 with | lst e h1 h2 => exact ⟨_, e, h1, h2⟩
        have hres : ∃ d ds', mthD m (.ref r) ds s2 = some (d, s2.set r (.lst ds')) ∧ ds'.length ≤ L ∧ Rps sr (XX A own2) s2 us' ds' ∧ Rp sr (XX A own2) s2 u d := by
          unfold mutU at e3
          split at e3
          · rename_i x hx
            rw [hx] at k4
            have k4 := k4 rfl
            obtain _ | ⟨ra, rb⟩ := k4
            cases rb
            split at e3
            · rename_i hl
              cases e3
              rw [p6.length] at hl
              exact ⟨_, _, by simp only [mthD, p4, if_pos hl], by simp; omega, p6.append (.cons ra .nil), .non⟩
            · cases e3
          · rename_i es' hx
            rw [hx] at k4'
            obtain _ | ⟨ra, rb⟩ := k4'
            cases rb
            obtain ⟨q, dq, rfl, f1, _, f3⟩ := ra.lst
            split at e3
            · rename_i hl
              cases e3
              rw [p6.length, f3.length] at hl
              exact ⟨_, _, by simp only [mthD, p4, f1, if_pos hl], by simp; omega, p6.append f3, .non⟩
            · cases e3
          · rename_i hx
            rw [hx] at k4'
            cases k4'
            rw [Option.map_eq_some_iff] at e3
            obtain ⟨x, e4, e5⟩ := e3
            cases e5
            have hl := p6.length
            rw [List.getLast?_eq_getElem?] at e4
            obtain ⟨d, e6, r6⟩ := p6.get e4
            rw [hl, ← List.getLast?_eq_getElem?] at e6
            refine ⟨d, ds1.dropLast, by simp only [mthD, p4, e6, Option.map_some], by simp; omega, ?_, r6⟩
            rw [List.dropLast_eq_take, List.dropLast_eq_take, hl]
            exact p6.take _
          · rename_i j hx
            rw [hx] at k4'
            obtain _ | ⟨ra, rb⟩ := k4'
            cases rb
            have := ra.int
            subst this
            rw [Option.bind_eq_some_iff] at e3
            obtain ⟨j', e4, e3⟩ := e3
            rw [Option.map_eq_some_iff] at e3
            obtain ⟨x, e5, e6⟩ := e3
            cases e6
            obtain ⟨d, e7, r7⟩ := p6.get e5
            rw [p6.length] at e4
            refine ⟨d, ds1.eraseIdx j', by simp only [mthD, p4, e4, Option.bind_some, e7, Option.map_some], ?_, p6.eraseIdx j', r7⟩
            exact Nat.le_trans (List.length_eraseIdx_le ..) p5
          · cases e3
        obtain ⟨d, ds', f1, f2, f3, f4⟩ := hres
        have st3 := k3.write (c := .lst ds') p1 q2 (.lst f2 f3)
        have o3 : Out sr own2 s2 (s2.set r (.lst ds')) true := ⟨by simp, fun j _ _ z => by
          rcases z with z | z
          · cases z
          · exact List.getElem?_set_ne fun w => z ⟨i, by rw [p1, w]⟩⟩
        have mv3 : Mv env2 (env2.set i (.own (.lst us'))) own2 own2 := by
          have hi2 : i < env2.length := (List.getElem?_eq_some_iff.1 e2).1
          refine ⟨fun _ => .inl rfl, fun k z => ?_, fun k z => ?_⟩
          · by_cases hk : i = k
            · subst hk; rw [e2]; trivial
            · rw [List.getElem?_set_ne hk] at z; exact z
          · by_cases hk : i = k
            · subst hk; rw [e2] at z; exact False.elim z
            · rw [List.getElem?_set_ne hk]; exact z
        have o3' : Out sr own s (s2.set r (.lst ds')) (E.muts es || true) := k6.trans o3 k5.subO
        exact pack (p := (d, s2.set r (.lst ds'))) (by rw [evE, ev0]; simp only [bnd_some, hmo, if_true, k1]; exact f1) hq st3 (k5.trans mv3) o3' (by rw [hmm]; simp) (.val (f4.step k3.srA mv3 o3))
  | .isi _ _, _ => by
    rename_i sr A own s env denv Q; intro st hw
    rw [wE] at hw
    cases hw
  | .bifI _ _, _ => by
    rename_i sr A own s env denv Q; intro st hw
    rw [wE] at hw
    cases hw
  | .comp cown t it elt c, hs => by
    rename_i sr A own s env denv Q; intro st hw
    rw [wE] at hw
    simp only [E.safe, Bool.and_eq_true, Bool.not_eq_true'] at hs
    obtain ⟨⟨⟨⟨h1, h2⟩, h3⟩, me⟩, mc⟩ := hs
    obtain ⟨g, s1, us, env1, own1, k1, k2, k3, k4, k5, k6⟩ := sI hc hg it h1 st hw
    obtain ⟨lk1, lk2, lk3⟩ := lock_core (g := g) s1
    have nolock : ∀ j, XX A own1 j → g.lock ≠ some j := fun j z e => by obtain ⟨_, _, _, _, w⟩ := k4.lock j e; exact w z
    have nosc : ∀ j, g.lock = some j → ¬ sc sr j := fun j e z => nolock j (.inl (st.srA j z)) e
    have stL := k3.recore lk1 lk2 fun j z => lk3 j (nolock j z)
    have keepL : ∀ p ∈ g.keep, (lockS g s1)[p.1]? = some p.2 ∧ ¬ XX A own1 p.1 := fun p hp => by
      obtain ⟨q1, q2, ds, q3⟩ := k4.keep p hp
      refine ⟨?_, q2⟩
      obtain ⟨c', e1, e2⟩ := lk2 p.1 _ q1
      rw [q3] at e2
      rw [e1, core_lst (c := c') e2, q3]
    have mm : ∀ j, XX A own1 j → XX A own1 j ∨ s1.length ≤ j := fun j z => .inl z
    obtain ⟨s2, accD, accU, l1, l2, l3, l4, l5, l6, l7⟩ := comp_ok (sE hc hg elt h2) (sCo hc hg c h3) me mc (g := g) (stL.wipe cown) (k4.its.mono mm fun j c _ e => lk2 j c e) .nil (by simpa using k4.le) keepL k2
    rw [lk1] at l6 l7
    have hlk : ∀ r, g.lock = some r → s2[r]? = (lockS g s1)[r]? ∧ r < s1.length := fun r e => by
      obtain ⟨c, kvs, w1, w2, w3⟩ := k4.lock r e
      have hr := (List.getElem?_eq_some_iff.1 w1).1
      exact ⟨l7 r hr (nosc r e), hr⟩
    obtain ⟨u1, u2, u3, u4⟩ := unlock_core (g := g) (s := s1) l6 hlk
    have eq1 : ∀ j, j < s1.length → ¬ sc sr j → (unlockS g s1 s2)[j]? = s1[j]? := fun j z1 z2 => by
      by_cases hj : g.lock = some j
      · exact u4 j hj
      · rw [u3 j hj, l7 j z1 z2, lk3 j hj]
    have stF := k3.ext (s' := unlockS g s1 s2) (by rw [u1]; exact l6) eq1 fun a b e => SP.loc (u3 a fun z => nosc a z ⟨a, b, e, .inl rfl⟩) (u3 b fun z => nosc b z ⟨a, b, e, .inr rfl⟩) (l5 a b e)
    have o2 : Out sr own1 s1 (unlockS g s1 s2) false := ⟨by rw [u1]; exact l6, fun j z1 z2 _ => eq1 j z1 z2⟩
    exact pack (p := (.ref (unlockS g s1 s2).length, unlockS g s1 s2 ++ [.lst accD])) (by rw [evE, k1]; simp only [bnd_some, l1]) l2 stF k5 (k6.trans o2 k5.subO) (by rw [E.mut, me, mc]; simp) (.lst l4 (l3.mono (fun j z => .inl z) fun j c _ e => u2 j c e))
theorem sEs (hc : SC SP cw cl) (hg : GU gu gl) : ∀ es : List E, E.safes es = true → SEs SP cw gu cl gl es
  | [], hs => by
    rename_i sr A own s env denv Q; intro st hw
    rw [wEs] at hw
    exact ⟨[], s, [], env, own, [], by rw [evEs], hw, st.congrA an_nil, .nil, .nil, .refl, .refl, nofun⟩
  | e :: es, hs => by
    simp only [E.safes, Bool.and_eq_true] at hs
    exact sEs_cons (sE hc hg e hs.1) (sEs hc hg es hs.2)
theorem sKs (hc : SC SP cw cl) (hg : GU gu gl) : ∀ es : List E, E.safes es = true → E.muts es = false → SKs SP cw gu cl gl es
  | [], hs, hm => by
    rename_i sr A own s env denv Q; intro st hw
    rw [wEs] at hw
    exact ⟨[], s, [], env, own, by rw [evEs], hw, st, .nil, .refl, .refl⟩
  | e :: es, hs, hm => by
    rw [muts_cons, Bool.or_eq_false_iff] at hm
    simp only [E.safes, Bool.and_eq_true] at hs
    rename_i sr A own s env denv Q; intro st hw
    rw [wEs] at hw
    obtain ⟨d, s1, x, env1, own1, h1, h2, h3, h4, h5, h6⟩ := SK.of (sE hc hg e hs.1) st hw
    obtain ⟨ds, s2, sls, env2, own2, k1, k2, k3, k4, k5, k6⟩ := sKs hc hg es hs.2 hm.2 h3 h2
    rw [hm.2] at k6
    have h4' := h4.step st.srA k5 k6
    by_cases hst : e.isStar = true
    · rw [if_pos hst] at k2
      refine ⟨d.spl ++ ds, s2, _, env2, own2, ?_, k2, k3, ?_, h5.trans k5, ?_⟩
      · rw [evEs, h1]
        simp only [bnd_some, k1]
        rw [if_pos hst]
      · rw [List.map_append, List.map_map]
        refine tps_app ?_ k4
        have : (Sl.u ∘ Sl.val) = id := rfl
        rw [this, List.map_id]
        generalize x.u = xu at h4' ⊢
        rcases h4' with h | ⟨i, rfl, _, h⟩
        · cases h <;> simp only [U.spl, D.spl] <;> first | exact .nil | skip
          rename_i h
          exact tps_of h
        · cases h <;> exact .nil
      · rw [muts_cons, hm.2]; exact h6.trans k6 h5.subO
    · rw [if_neg hst] at k2
      refine ⟨d :: ds, s2, _, env2, own2, ?_, k2, k3, .cons h4' k4, h5.trans k5, ?_⟩
      · rw [evEs, h1]
        simp only [bnd_some, k1]
        rw [if_neg hst]
      · rw [muts_cons, hm.2]; exact h6.trans k6 h5.subO
theorem sO (hc : SC SP cw cl) (hg : GU gu gl) : ∀ o : Option E, E.safeO o = true → SO SP cw gu cl gl o
  | none, hs => by
    rename_i sr A own s env denv Q; intro st hw
    rw [wO] at hw
    exact ⟨none, s, env, own, by rw [evO], hw, st, .refl, .refl⟩
  | some e, hs => by
    rename_i sr A own s env denv Q; intro st hw
    rw [wO] at hw
    rw [E.safeO] at hs
    obtain ⟨d, s1, x, env1, own1, h1, h2, h3, h4, h5, h6⟩ := SK.of (sE hc hg e hs) st hw
    split at h2
    · rename_i i hx
      rw [hx] at h4
      have := h4.int
      subst this
      exact ⟨some i, s1, env1, own1, by rw [evO, h1]; rfl, h2, h3, h5, by rw [E.mutO]; exact h6⟩
    · cases h2
theorem sCo (hc : SC SP cw cl) (hg : GU gu gl) : ∀ o : Option E, E.safeO o = true → SCo SP cw gu cl gl o
  | none, hs => by
    rename_i sr A own s env denv Q; intro st hw
    rw [wC] at hw
    exact ⟨.bl true, s, _, env, own, [], by rw [evC], hw, st.congrA an_nil, ⟨rfl, .bl⟩, .refl, .refl, nofun⟩
  | some e, hs => by
    rename_i sr A own s env denv Q; intro st hw
    rw [wC] at hw
    rw [E.safeO] at hs
    obtain ⟨d, s1, x, env1, own1, ns, h1, h2, h3, h4, h5, h6, h7⟩ := sE hc hg e hs st hw
    exact ⟨d, s1, x, env1, own1, ns, by rw [evC]; exact h1, h2, h3, h4, h5, by rw [E.mutO]; exact h6, h7⟩
theorem sI (hc : SC SP cw cl) (hg : GU gu gl) : ∀ it : Ev.It, It.safe it = true → SI SP cw gu cl gl it
  | .range1 a, hs => by
    rename_i sr A own s env denv Q; intro st hw
    rw [wI] at hw
    rw [It.safe] at hs
    obtain ⟨d, s1, x, env1, own1, h1, h2, h3, h4, h5, h6⟩ := SK.of (sE hc hg a hs) st hw
    split at h2
    · rename_i i hx
      rw [hx] at h4
      have := h4.int
      subst this
      obtain ⟨us, e0, hq⟩ := h2
      obtain ⟨g, g1, g2⟩ := range_ok (sr := sr) (X := XX A own1) (s := s1) e0
      exact ⟨g, s1, us, env1, own1, by rw [evI, h1]; simp only [bnd_some, g1, Option.map_some], hq, h3, g2, h5, by rw [It.mut]; exact h6⟩
    · cases h2
  | .range2 a b, hs => by
    rename_i sr A own s env denv Q; intro st hw
    rw [wI] at hw
    simp only [It.safe, Bool.and_eq_true, Bool.not_eq_true'] at hs
    obtain ⟨dx, s1, dy, s2, x, y, env2, own2, e1, e2, hw, st2, hx, hy, mv, o⟩ := two (SK.of (sE hc hg a hs.1.1)) (SK.of (sE hc hg b hs.1.2)) hs.2 st hw
    split at hw
    · rename_i i j hi hj
      rw [hi] at hx
      rw [hj] at hy
      have := hx.int
      subst this
      have := hy.int
      subst this
      obtain ⟨us, e0, hq⟩ := hw
      obtain ⟨g, g1, g2⟩ := range_ok (sr := sr) (X := XX A own2) (s := s2) e0
      exact ⟨g, s2, us, env2, own2, by rw [evI, e1]; simp only [bnd_some, e2, g1, Option.map_some], hq, st2, g2, mv, by rw [It.mut]; exact o⟩
    · cases hw
  | .items a, hs => by
    rename_i sr A own s env denv Q; intro st hw
    rw [wI] at hw
    rw [It.safe] at hs
    obtain ⟨d, s1, sl, env1, own1, ns, h1, ⟨us, e0, hq⟩, h3, h4, h5, h6, h7⟩ := sE hc hg a hs st hw
    have r := h4.rp h3 fun j z1 z2 => by have := h7 j z1; have := st.bnd j z2; omega
    have st2 := h3.drop st.srA
    unfold itemsOfU at e0
    split at e0
    rotate_left
    · cases e0
    rename_i kus hu
    cases e0
    rw [hu] at r
    cases r with
    | dct e1 e2 e3 e4 e5 =>
      rename_i kds c i
      refine ⟨⟨kds.map fun kv => .tup [kv.1, kv.2], [], some i⟩, s1, _, env1, own1, ?_, hq, st2, ⟨?_, by simpa using e4, nofun, fun r z => ?_⟩, h5, by rw [It.mut]; exact h6⟩
      · rw [evI, h1]
        simp only [bnd_some, srcItems, e1, Option.bind_some, e2, Option.map_some]
      · exact items_rps e5
      · cases z; exact ⟨c, kds, e1, e2, e3⟩
  | .zip _ _, _ => by
    rename_i sr A own s env denv Q; intro st hw
    rw [wI] at hw
    cases hw
  | .enum _, _ => by
    rename_i sr A own s env denv Q; intro st hw
    rw [wI] at hw
    cases hw
  | .seq a, hs => by
    rename_i sr A own s env denv Q; intro st hw
    rw [wI] at hw
    rw [It.safe] at hs
    obtain ⟨d, s1, sl, env1, own1, ns, h1, ⟨us, e0, hq⟩, h3, h4, h5, h6, h7⟩ := sE hc hg a hs st hw
    have r := h4.rp h3 fun j z1 z2 => by have := h7 j z1; have := st.bnd j z2; omega
    have st2 := h3.drop st.srA
    have fin : ∀ g, srcOf d s1 = some g → SrcAt sr (XX A own1) s1 us g → ∃ g s' us env' own', evI cl gl (.seq a) denv s = some (g, s') ∧ Q us env' ∧ St SP sr A own' s' env' denv ∧ SrcAt sr (XX A own') s' us g ∧ Mv env env' own own' ∧ Out sr own s s' (It.mut (.seq a)) := fun g e w =>
      ⟨g, s1, us, env1, own1, by rw [evI, h1]; simp only [bnd_some, e, Option.map_some], hq, st2, w, h5, by rw [It.mut]; exact h6⟩
    unfold seqU at e0
    split at e0
    · rename_i us' hu
      cases e0
      rw [hu] at r
      cases r with
      | tup e1 e2 => exact fin _ rfl ⟨e2, e1, nofun, nofun⟩
    · rename_i us' hu
      cases e0
      rw [hu] at r
      cases r with
      | lst e1 e2 e3 e4 =>
        rename_i ds i
        exact fin ⟨ds, [(i, .lst ds)], none⟩ (by simp only [srcOf, e1]) ⟨e4, e3, fun p z => by simp only [List.mem_singleton] at z; subst z; exact ⟨e1, e2, ds, rfl⟩, nofun⟩
    · rename_i kus hu
      cases e0
      rw [hu] at r
      cases r with
      | dct e1 e2 e3 e4 e5 =>
        rename_i kds c i
        refine fin ⟨kds.map (·.1), [], some i⟩ ?_ ⟨keysU_ok e5, by simpa using e4, nofun, fun r z => by cases z; exact ⟨c, kds, e1, e2, e3⟩⟩
        cases c with
        | lst => cases e2
        | dct kvs => cases e2; simp only [srcOf, e1, C.kvs, Option.map_some]
        | lck kvs => cases e2; simp only [srcOf, e1, C.kvs, Option.map_some]
    · cases e0
end
end
end Ev
end

section
set_option autoImplicit false
set_option linter.unusedVariables false
set_option linter.unusedSimpArgs false
/-! U7: statements, defs -/
namespace Ev
open PySem

structure OutS (sr : Option (Nat × Nat)) (own own' : Nat → Option Nat) (s s' : Sto) : Prop where
  len : s.length ≤ s'.length
  keep : ∀ j, j < s.length → ¬ sc sr j → ¬ ow own j → s'[j]? = s[j]?
  sub : ∀ j, ow own' j → ow own j ∨ s.length ≤ j
inductive FlAt (sr : Option (Nat × Nat)) (X : Nat → Prop) (s : Sto) : FU → Fl → Prop
  | nx : FlAt sr X s .nx .nx
  | bk : FlAt sr X s .bk .bk
  | ct : FlAt sr X s .ct .ct
  | rt {u : U} {d : D} : Rp sr X s u d → FlAt sr X s (.rt u) (.rt d)
section
variable {SP : SPr} {sr : Option (Nat × Nat)} {A A' : Nat → Prop} {own own' own'' : Nat → Option Nat} {s s' s'' : Sto} {env env' : UEnv} {denv denv' : Env} {m m' : Bool}
theorem OutS.refl : OutS sr own own s s := ⟨Nat.le_refl _, fun _ _ _ _ => rfl, fun _ h => .inl h⟩
theorem OutS.trans (h : OutS sr own own' s s') (h' : OutS sr own' own'' s' s'') : OutS sr own own'' s s'' :=
  ⟨Nat.le_trans h.len h'.len, fun j a b c => by
    rw [h'.keep j (Nat.lt_of_lt_of_le a h.len) b (fun z => by rcases h.sub j z with z | z; (· exact c z); omega), h.keep j a b c], fun j z => by
    rcases h'.sub j z with z | z
    · exact h.sub j z
    · have := h.len; exact .inr (by omega)⟩
theorem Out.os (h : Out sr own s s' m) (mv : Mv env env' own own') : OutS sr own own' s s' := ⟨h.len, fun j a b c => h.keep j a b (.inr c), fun j z => .inl (mv.subO j z)⟩
theorem setSl {ns : List Nat} (st : St SP sr (AN A ns) own s env denv) (hsr : ∀ j, sc sr j → A j) (hn : ∀ j ∈ ns, ¬ A j) {sl : Sl} {d : D} (h : SlAt sr (XX (AN A ns) own) s sl d ns) (i : Nat) : ∃ own', St SP sr A own' s (env.set i sl) (denv.set i (some d)) ∧ ∀ j, ow own' j → ow own j ∨ j ∈ ns := by
  have st0 := st.drop hsr
  have g0 : ∀ j, XX A own j → XX (AN A ns) own j := fun j z => by rcases z with z | z; (· exact .inl (.inl z)); exact .inr z
  cases sl with
  | no => exact False.elim h
  | val u => exact ⟨own, st0.setVal (h.2.weak g0) i, fun j z => .inl z⟩
  | own u =>
    obtain ⟨j0, rfl, rfl, r⟩ := h
    let own' : Nat → Option Nat := fun k => if k = i then some j0 else own k
    have g : ∀ j, XX A own' j → XX (AN A [j0]) own j := fun j z => by
      rcases z with z | ⟨k, z⟩
      · exact .inl (.inl z)
      · simp only [own'] at z
        split at z
        · cases z; exact .inl (.inr (by simp))
        · exact .inr ⟨k, z⟩
    have no0 : ∀ k, own k ≠ some j0 := fun k z => (st.ow k j0 z).1 (.inr (by simp))
    refine ⟨own', ⟨by simp [st.len], st.src, st0.bnd, hsr, fun k sl e => ?_, fun k k' i' z z' => ?_, fun k i' z => ?_⟩, fun j ⟨k, z⟩ => ?_⟩
    · rw [List.getElem?_set] at e
      by_cases hk : i = k
      · subst hk
        simp only [if_true] at e
        split at e
        · rename_i hl
          cases e
          exact ⟨j0, by simp [own'], by rw [List.getElem?_set_self (by rw [← st.len]; exact hl)], r.move (fun j z => .inl (g j z)) (fun j c _ e => ⟨c, e, rfl⟩) rfl⟩
        · cases e
      · simp only [hk, if_false] at e
        have := st.slot k sl e
        cases sl with
        | no => trivial
        | val u => obtain ⟨d, e, r⟩ := this; exact ⟨d, by rw [List.getElem?_set_ne hk]; exact e, r.weak g⟩
        | own u => obtain ⟨j, e1, e2, r⟩ := this; exact ⟨j, by simp only [own']; rw [if_neg (fun z => hk z.symm)]; exact e1, by rw [List.getElem?_set_ne hk]; exact e2, r.move (fun j z => .inl (g j z)) (fun j c _ e => ⟨c, e, rfl⟩) rfl⟩
    · simp only [own'] at z z'
      split at z <;> split at z'
      · omega
      · cases z; exact absurd z' (no0 k')
      · cases z'; exact absurd z (no0 k)
      · exact st.inj k k' i' z z'
    · simp only [own'] at z
      split at z
      · cases z; exact ⟨hn j0 (by simp), st.bnd j0 (.inr (by simp))⟩
      · exact ⟨fun y => (st.ow k i' z).1 (.inl y), (st.ow k i' z).2⟩
    · simp only [own'] at z
      split at z
      · cases z; exact .inr (by simp)
      · exact .inl ⟨k, z⟩
theorem setSls_ok : ∀ {ts : List T} {sls : List Sl} {ds : List D} {ns : List Nat} {own : Nat → Option Nat} {env env1 : UEnv} {denv : Env}, St SP sr (AN A ns) own s env denv → (∀ j, sc sr j → A j) → (∀ j ∈ ns, ¬ A j) → ns.Nodup → SlsAt sr (XX (AN A ns) own) s sls ds ns → setSls ts sls env = some env1 →
    ∃ denv1 own', Ev.setTs s ts ds denv = some denv1 ∧ St SP sr A own' s env1 denv1 ∧ ∀ j, ow own' j → ow own j ∨ j ∈ ns
  | [], [], ds, ns, own, env, env1, denv, st, hsr, hn, hd, h, e => by
    cases h
    rw [setSls] at e
    cases e
    exact ⟨denv, own, by rw [Ev.setTs], st.congrA fun j => (an_nil j).symm, fun j z => .inl z⟩
  | .nm i :: ts, sl :: sls, ds, ns, own, env, env1, denv, st, hsr, hn, hd, h, e => by
    cases h with
    | cons h t =>
      rename_i d n1 n2 ds
      rw [setSls] at e
      have iff : ∀ j, AN (AN A n2) n1 j ↔ AN A (n1 ++ n2) j := fun j => by simp only [AN, List.mem_append]; exact ⟨fun z => z.elim (fun z => z.elim .inl fun z => .inr (.inr z)) fun z => .inr (.inl z), fun z => z.elim (fun z => .inl (.inl z)) fun z => z.elim .inr fun z => .inl (.inr z)⟩
      have ixx : ∀ j, XX (AN (AN A n2) n1) own j → XX (AN A (n1 ++ n2)) own j := fun j z => by rcases z with z | z; (· exact .inl ((iff j).1 z)); exact .inr z
      have h' : SlAt sr (XX (AN (AN A n2) n1) own) s sl d n1 := by
        cases sl with
        | no => exact h
        | val u => exact ⟨h.1, h.2.weak ixx⟩
        | own u => obtain ⟨i, e1, e2, r⟩ := h; exact ⟨i, e1, e2, r.move (fun j z => .inl (ixx j z)) (fun j c _ e => ⟨c, e, rfl⟩) rfl⟩
      rw [List.nodup_append] at hd
      obtain ⟨own1, st1, o1⟩ := setSl (st.congrA (A' := AN (AN A n2) n1) iff) (fun j z => .inl (hsr j z)) (fun j z w => by
        rcases w with w | w
        · exact hn j (List.mem_append_left _ z) w
        · exact hd.2.2 j z j w rfl) h' i
      have t' : SlsAt sr (XX (AN A n2) own1) s sls ds n2 := t.move (fun j z => .inl (by
        rcases z with (z | z) | z
        · exact .inl (.inl z)
        · exact .inl (.inr (List.mem_append_right _ z))
        · rcases o1 j z with z | z
          · exact .inr z
          · exact .inl (.inr (List.mem_append_left _ z)))) (fun j c _ e => ⟨c, e, rfl⟩) fun _ _ => rfl
      obtain ⟨denv2, own2, f1, f2, f3⟩ := setSls_ok st1 hsr (fun j z => hn j (List.mem_append_right _ z)) hd.2.1 t' e
      refine ⟨denv2, own2, by rw [Ev.setTs, Ev.setT]; exact f1, f2, fun j z => ?_⟩
      rcases f3 j z with z | z
      · rcases o1 j z with z | z
        · exact .inl z
        · exact .inr (List.mem_append_left _ z)
      · exact .inr (List.mem_append_right _ z)
  | .tp _ :: ts, sl :: sls, ds, ns, own, env, env1, denv, st, hsr, hn, hd, h, e => by simp [setSls] at e
  | [], _ :: _, ds, ns, own, env, env1, denv, st, hsr, hn, hd, h, e => by simp [setSls] at e
  | .nm _ :: _, [], ds, ns, own, env, env1, denv, st, hsr, hn, hd, h, e => by simp [setSls] at e
  | .tp _ :: _, [], ds, ns, own, env, env1, denv, st, hsr, hn, hd, h, e => by simp [setSls] at e
theorem evEs_len {cl : Str → List D → Sto → Option (D × Sto)} {gl : Str → Option D} : ∀ {es : List E} {ds : List D} {s s' : Sto}, evEs cl gl es denv s = some (ds, s') → es.any (·.isStar) = false → ds.length = es.length
  | [], ds, s, s', e, _ => by rw [evEs] at e; cases e; rfl
  | a :: es, ds, s, s', e, h => by
    rw [List.any_cons, Bool.or_eq_false_iff] at h
    rw [evEs, bnd_eq_some] at e
    obtain ⟨d, s1, e1, e⟩ := e
    rw [bnd_eq_some] at e
    obtain ⟨ds1, s2, e2, e⟩ := e
    rw [h.1] at e
    simp only [Bool.false_eq_true, if_false] at e
    cases e
    simp [evEs_len e2 h.2]
variable (SP) (cw : Str → List U → PT) (gu : Str → Option U) (cl : Str → List D → Sto → Option (D × Sto)) (gl : Str → Option D)
def SB (run : Env → Sto → Option ((Fl × Env) × Sto)) (w : UEnv → (FU → UEnv → Prop) → Prop) : Prop := ∀ (sr : Option (Nat × Nat)) (A : Nat → Prop) (own : Nat → Option Nat) (s : Sto) (env : UEnv) (denv : Env) (Q : FU → UEnv → Prop), St SP sr A own s env denv → w env Q →
  ∃ f fl env' denv' s' own', run denv s = some ((fl, denv'), s') ∧ Q f env' ∧ St SP sr A own' s' env' denv' ∧ FlAt sr (XX A own') s' f fl ∧ OutS sr own own' s s'
def SS (st : S) : Prop := SB SP (fun env s => evS cl gl st env s) (fun env Q => wS cw gu st env Q)
def SSs (sts : List S) : Prop := SB SP (fun env s => evSs cl gl sts env s) (fun env Q => wSs cw gu sts env Q)
variable {SP cw gu cl gl}
theorem FlAt.move {X X' : Nat → Prop} {f : FU} {fl : Fl} (h : FlAt sr X s f fl) (h1 : ∀ j, X' j → X j ∨ s.length ≤ j) (h2 : ∀ j c, ¬ X j → s[j]? = some c → ∃ c', s'[j]? = some c' ∧ c'.core = c.core) : FlAt sr X' s' f fl := by
  cases h with
  | nx => exact .nx
  | bk => exact .bk
  | ct => exact .ct
  | rt r => exact .rt (r.mono h1 h2)
theorem OutS.xx (o : OutS sr own own' s s') {A : Nat → Prop} (j : Nat) (z : XX A own' j) : XX A own j ∨ s.length ≤ j := by
  rcases z with z | z
  · exact .inl (.inl z)
  · rcases o.sub j z with z | z
    · exact .inl (.inr z)
    · exact .inr z
theorem OutS.core (o : OutS sr own own' s s') {A : Nat → Prop} (hs : ∀ j, sc sr j → A j) (j : Nat) (c : C) (hx : ¬ XX A own j) (e : s[j]? = some c) : ∃ c', s'[j]? = some c' ∧ c'.core = c.core :=
  ⟨c, by rw [o.keep j (List.getElem?_eq_some_iff.1 e).1 (fun z => hx (.inl (hs j z))) fun z => hx (.inr z)]; exact e, rfl⟩
theorem for_ok {body : Env → Sto → Option ((Fl × Env) × Sto)} {w : UEnv → (FU → UEnv → Prop) → Prop} (hb : SB SP body w) {t : T} {g : Src} {Q : FU → UEnv → Prop} : ∀ {us : List U} {ds : List D} {s : Sto} {own : Nat → Option Nat} {env : UEnv} {denv : Env},
    St SP sr A own s env denv → Rps sr (XX A own) s us ds → (∀ p ∈ g.keep, s[p.1]? = some p.2 ∧ ¬ XX A own p.1) → wFor w t us env Q →
    ∃ f fl env' denv' s' own', forL body t g ds denv s = some ((fl, denv'), s') ∧ Q f env' ∧ St SP sr A own' s' env' denv' ∧ FlAt sr (XX A own') s' f fl ∧ OutS sr own own' s s'
  | [], ds, s, own, env, denv, st, r, hg, h => by
    cases r
    have hok : g.ok s = true := by
      unfold Src.ok
      rw [List.all_eq_true]
      exact fun p hp => by simpa using (hg p hp).1
    exact ⟨.nx, .nx, env, denv, s, own, by rw [forL, if_pos hok], h, st, .nx, .refl⟩
  | u :: us, ds, s, own, env, denv, st, r, hg, h => by
    cases r with
    | cons r rs =>
      rename_i d ds
      have hok : g.ok s = true := by
        unfold Src.ok
        rw [List.all_eq_true]
        exact fun p hp => by simpa using (hg p hp).1
      rw [wFor] at h
      obtain ⟨env1, e1, h⟩ := h
      obtain ⟨denv1, f1, st1⟩ := st.setT r e1
      obtain ⟨f, fl, env2, denv2, s2, own2, g1, g2, g3, g4, g5⟩ := hb sr A own s env1 denv1 _ st1 h
      have again : wFor w t us env2 Q → ∃ f fl env' denv' s' own', forL body t g ds denv2 s2 = some ((fl, denv'), s') ∧ Q f env' ∧ St SP sr A own' s' env' denv' ∧ FlAt sr (XX A own') s' f fl ∧ OutS sr own own' s s' := fun h => by
        obtain ⟨f, fl, env', denv', s', own', q1, q2, q3, q4, q5⟩ := for_ok hb (g := g) g3 (rs.mono g5.xx (g5.core st.srA)) (fun p hp => by
          obtain ⟨a1, a2⟩ := hg p hp
          have lt := (List.getElem?_eq_some_iff.1 a1).1
          exact ⟨by rw [g5.keep p.1 lt (fun z => a2 (.inl (st.srA _ z))) fun z => a2 (.inr z)]; exact a1, fun z => by
            rcases g5.xx p.1 z with z | z
            · exact a2 z
            · omega⟩) h
        exact ⟨f, fl, env', denv', s', own', q1, q2, q3, q4, g5.trans q5⟩
      cases g4 with
      | nx =>
        obtain ⟨f, fl, env', denv', s', own', q1, q⟩ := again g2
        exact ⟨f, fl, env', denv', s', own', by rw [forL, if_pos hok, f1]; simp only [Option.bind_some, g1, bnd_some]; exact q1, q⟩
      | ct =>
        obtain ⟨f, fl, env', denv', s', own', q1, q⟩ := again g2
        exact ⟨f, fl, env', denv', s', own', by rw [forL, if_pos hok, f1]; simp only [Option.bind_some, g1, bnd_some]; exact q1, q⟩
      | bk => exact ⟨.nx, .nx, env2, denv2, s2, own2, by rw [forL, if_pos hok, f1]; simp only [Option.bind_some, g1, bnd_some], g2, g3, .nx, g5⟩
      | rt rr => exact ⟨_, _, env2, denv2, s2, own2, by rw [forL, if_pos hok, f1]; simp only [Option.bind_some, g1, bnd_some], g2, g3, .rt rr, g5⟩
theorem whl_ok {test : E} {body : Env → Sto → Option ((Fl × Env) × Sto)} {w : UEnv → (FU → UEnv → Prop) → Prop} (ht : SK SP cw gu cl gl test) (hb : SB SP body w) {Q : FU → UEnv → Prop} : ∀ (n : Nat) {s : Sto} {own : Nat → Option Nat} {env : UEnv} {denv : Env},
    St SP sr A own s env denv → wWhl (fun env Q => wE cw gu true test env Q) w n env Q →
    ∃ f fl env' denv' s' own', whlL (fun env s => evE cl gl test env s) body n denv s = some ((fl, denv'), s') ∧ Q f env' ∧ St SP sr A own' s' env' denv' ∧ FlAt sr (XX A own') s' f fl ∧ OutS sr own own' s s'
  | 0, s, own, env, denv, st, h => by rw [wWhl] at h; cases h
  | n + 1, s, own, env, denv, st, h => by
    rw [wWhl] at h
    obtain ⟨d, s1, b, env1, own1, h1, h2, h3, h4, h5, h6⟩ := ht st h
    have o1 := h6.os h5
    split at h2
    · rename_i hx
      rw [hx] at h4
      have := h4.bl
      subst this
      obtain ⟨f, fl, env2, denv2, s2, own2, g1, g2, g3, g4, g5⟩ := hb sr A own1 s1 env1 denv _ h3 h2
      cases g4 with
      | nx =>
        obtain ⟨f, fl, env', denv', s', own', q1, q2, q3, q4, q5⟩ := whl_ok ht hb n g3 g2
        exact ⟨f, fl, env', denv', s', own', by rw [whlL]; simp only [h1, bnd_some, g1]; exact q1, q2, q3, q4, (o1.trans g5).trans q5⟩
      | ct =>
        obtain ⟨f, fl, env', denv', s', own', q1, q2, q3, q4, q5⟩ := whl_ok ht hb n g3 g2
        exact ⟨f, fl, env', denv', s', own', by rw [whlL]; simp only [h1, bnd_some, g1]; exact q1, q2, q3, q4, (o1.trans g5).trans q5⟩
      | bk => exact ⟨.nx, .nx, env2, denv2, s2, own2, by rw [whlL]; simp only [h1, bnd_some, g1], g2, g3, .nx, o1.trans g5⟩
      | rt rr => exact ⟨_, _, env2, denv2, s2, own2, by rw [whlL]; simp only [h1, bnd_some, g1], g2, g3, .rt rr, o1.trans g5⟩
    · rename_i hx
      rw [hx] at h4
      have := h4.bl
      subst this
      exact ⟨.nx, .nx, env1, denv, s1, own1, by rw [whlL]; simp only [h1, bnd_some], h2, h3, .nx, o1⟩
    · cases h2
theorem asg_gen (hc : SC SP cw cl) (hg : GU gu gl) {t : T} {e : E} (hs : e.safe = true) (st : St SP sr A own s env denv) {Q : FU → UEnv → Prop} (h : wE cw gu false e env fun d env => ok (setTU t d env) fun env => Q .nx env) :
    ∃ f fl env' denv' s' own', evS cl gl (.asg t e) denv s = some ((fl, denv'), s') ∧ Q f env' ∧ St SP sr A own' s' env' denv' ∧ FlAt sr (XX A own') s' f fl ∧ OutS sr own own' s s' := by
  obtain ⟨d, s1, sl, env1, own1, ns, h1, ⟨env2, e2, hq⟩, h3, h4, h5, h6, h7⟩ := sE hc hg e hs st h
  have hn : ∀ j ∈ ns, ¬ A j := fun j z1 z2 => by have := h7 j z1; have := st.bnd j z2; omega
  cases t with
  | nm i =>
    rw [setTU] at e2
    cases e2
    obtain ⟨own2, st2, o2⟩ := setSl h3 st.srA hn h4 i
    refine ⟨.nx, .nx, _, _, s1, own2, by rw [evS, h1]; simp only [bnd_some, Ev.setT, Option.map_some], hq, st2, .nx, h6.len, fun j a b c => h6.keep j a b (.inr c), fun j z => ?_⟩
    rcases o2 j z with z | z
    · exact .inl (h5.subO j z)
    · exact .inr (h7 j z)
  | tp ts =>
    have st2 := h3.drop st.srA
    have r := h4.rp h3 hn
    have e3 : setTU (.tp ts) (.val sl.u) env1 = some env2 := by rw [setTU] at e2 ⊢; exact e2
    obtain ⟨denv1, f1, st3⟩ := st2.setT r e3
    exact ⟨.nx, .nx, _, _, s1, own1, by rw [evS, h1]; simp only [bnd_some, f1, Option.map_some], hq, st3, .nx, h6.os h5⟩
theorem wS_asg_nm {i : Nat} {e : E} {Q : FU → UEnv → Prop} : wS cw gu (.asg (.nm i) e) env Q = wE cw gu false e env fun d env => ok (setTU (.nm i) d env) fun env => Q .nx env := by
  rw [wS]; exact fun _ _ z => (nomatch z)
mutual
theorem sS (hc : SC SP cw cl) (hg : GU gu gl) : ∀ st : S, st.safe = true → SS SP cw gu cl gl st
  | .asg t e, hs => by
    intro sr A own s env denv Q st hw
    change wS cw gu _ env Q at hw
    rw [S.safe] at hs
    rw [wS.eq_def] at hw
    simp only at hw
    split at hw
    · rename_i ts es
      split at hw
      · rename_i hcond
        simp only [Bool.and_eq_true, Bool.not_eq_true', decide_eq_true_eq] at hcond
        rw [E.safe] at hs
        obtain ⟨ds, s1, sls, env1, own1, ns, h1, ⟨env2, e2, hq⟩, h3, h4, h5, h6, h7, h8⟩ := sEs hc hg es hs st hw
        have hn : ∀ j ∈ ns, ¬ A j := fun j z1 z2 => by have := h8 j z1; have := st.bnd j z2; omega
        obtain ⟨denv1, own2, f1, st2, o2⟩ := setSls_ok h3 st.srA hn h5 h4 e2
        have hl := evEs_len h1 hcond.1.2
        have hl' : ds.length ≤ L := by have := hcond.2; unfold L; omega
        refine ⟨.nx, .nx, _, denv1, s1, own2, ?_, hq, st2, .nx, h7.len, fun j a b c => h7.keep j a b (.inr c), fun j z => ?_⟩
        · change evS cl gl _ denv s = _
          rw [evS, evE, h1, bnd_some, newT, if_pos hl', bnd_some, Ev.setT]
          simp only [itemsD, f1]
          rfl
        · rcases o2 j z with z | z
          · exact .inl (h6.subO j z)
          · exact .inr (h8 j z)
      · exact asg_gen hc hg hs st hw
    · exact asg_gen hc hg hs st hw
  | .seti o i v, hs => by
    intro sr A own s env denv Q st hw
    change wS cw gu _ env Q at hw
    simp only [S.safe, Bool.and_eq_true, Bool.not_eq_true'] at hs
    obtain ⟨⟨⟨ho, hi⟩, hv⟩, mi⟩ := hs
    rw [wS.eq_def] at hw
    simp only at hw
    obtain ⟨d, s1, sl, env1, own1, ns, h1, h2, h3, h4, h5, h6, h7⟩ := sE hc hg v hv st hw
    have r := h4.rp h3 fun j z1 z2 => by have := h7 j z1; have := st.bnd j z2; omega
    have st1 := h3.drop st.srA
    split at h2
    rotate_left
    · cases h2
    rename_i j
    obtain ⟨dk, s2, k, env2, own2, k1, k2, k3, k4, k5, k6⟩ := SK.of (sE hc hg i hi) st1 h2
    rw [mi] at k6
    have r2 := r.step st.srA k5 k6
    split at k2
    rotate_left
    · cases k2
    rename_i x ej
    obtain ⟨x', e0, hq⟩ := k2
    obtain ⟨c, p1, p2, p3⟩ := k3.slot j _ ej
    have ev0 : evE cl gl (.var j) denv s1 = some (.ref c, s1) := by rw [evE, p2]
    have hres : ∃ nc, setD (.ref c) dk d s2 = some (s2.set c nc) ∧ RootC sr (XX A own2) s2 nc x' := by
      unfold setU at e0
      split at e0
      · rename_i us ii hk
        rw [hk] at k4
        have := k4.int
        subst this
        rw [Option.map_eq_some_iff] at e0
        obtain ⟨jj, e1, rfl⟩ := e0
        cases p3 with
        | lst q1 q2 q3 =>
          rw [q3.length] at e1
          exact ⟨_, by simp only [setD, q1, e1, Option.map_some], .lst (by simpa using q2) (q3.set r2 jj)⟩
      · rename_i kus hk
        rw [Option.bind_eq_some_iff] at e0
        obtain ⟨kd, e1, e0⟩ := e0
        obtain ⟨rfl, rk⟩ := k4.toD e1
        split at e0
        rotate_left
        · cases e0
        rename_i hf
        cases e0
        cases p3 with
        | dct q1 q2 q3 =>
          rw [← q3.fits, q3.length] at hf
          refine ⟨_, by simp only [setD, q1, hf, if_true], .dct ?_ (q3.put rk r2)⟩
          rw [Bool.and_eq_true, decide_eq_true_eq] at hf
          exact Nat.le_trans (dput_len ..) (by omega)
      · cases e0
    obtain ⟨nc, f1, f2⟩ := hres
    have st3 := k3.write p1 p2 f2
    have o1 := h6.os h5
    have o2 := k6.os k5
    have o3 : OutS sr own2 own2 s2 (s2.set c nc) := ⟨by simp, fun jj _ _ z => List.getElem?_set_ne fun w => z ⟨j, by rw [p1, w]⟩, fun jj z => .inl z⟩
    refine ⟨.nx, .nx, _, denv, _, own2, ?_, hq, st3, .nx, (o1.trans o2).trans o3⟩
    simp only [evS, h1, bnd_some, ev0, k1, f1, Option.map_some]
  | .ex e, hs => by
    intro sr A own s env denv Q st hw
    change wS cw gu _ env Q at hw
    rw [S.safe] at hs
    rw [wS] at hw
    obtain ⟨d, s1, x, env1, own1, h1, h2, h3, h4, h5, h6⟩ := SK.of (sE hc hg e hs) st hw
    exact ⟨.nx, .nx, env1, denv, s1, own1, by simp only [evS, h1, bnd_some], h2, h3, .nx, h6.os h5⟩
  | .ret none, hs => by
    intro sr A own s env denv Q st hw
    change wS cw gu _ env Q at hw
    rw [wS] at hw
    exact ⟨_, _, env, denv, s, own, by simp only [evS], hw, st, .rt .non, .refl⟩
  | .ret (some e), hs => by
    intro sr A own s env denv Q st hw
    change wS cw gu _ env Q at hw
    rw [S.safe] at hs
    rw [wS] at hw
    obtain ⟨d, s1, sl, env1, own1, ns, h1, h2, h3, h4, h5, h6, h7⟩ := sE hc hg e hs st hw
    have r := h4.rp h3 fun j z1 z2 => by have := h7 j z1; have := st.bnd j z2; omega
    exact ⟨_, _, env1, denv, s1, own1, by simp only [evS, h1, bnd_some], h2, h3.drop st.srA, .rt r, h6.os h5⟩
  | .ite c a b, hs => by
    intro sr A own s env denv Q st hw
    change wS cw gu _ env Q at hw
    simp only [S.safe, Bool.and_eq_true] at hs
    rw [wS] at hw
    obtain ⟨d, s1, x, env1, own1, h1, h2, h3, h4, h5, h6⟩ := SK.of (sE hc hg c hs.1.1) st hw
    have o1 := h6.os h5
    split at h2
    · rename_i hx
      rw [hx] at h4
      have := h4.bl
      subst this
      obtain ⟨f, fl, env', denv', s', own', q1, q2, q3, q4, q5⟩ := sSs hc hg a hs.1.2 sr A own1 s1 env1 denv Q h3 h2
      exact ⟨f, fl, env', denv', s', own', by simp only [evS, h1, bnd_some]; exact q1, q2, q3, q4, o1.trans q5⟩
    · rename_i hx
      rw [hx] at h4
      have := h4.bl
      subst this
      obtain ⟨f, fl, env', denv', s', own', q1, q2, q3, q4, q5⟩ := sSs hc hg b hs.2 sr A own1 s1 env1 denv Q h3 h2
      exact ⟨f, fl, env', denv', s', own', by simp only [evS, h1, bnd_some]; exact q1, q2, q3, q4, o1.trans q5⟩
    · cases h2
  | .whl c b, hs => by
    intro sr A own s env denv Q st hw
    change wS cw gu _ env Q at hw
    simp only [S.safe, Bool.and_eq_true] at hs
    rw [wS] at hw
    obtain ⟨f, fl, env', denv', s', own', q1, q⟩ := whl_ok (SK.of (sE hc hg c hs.1)) (sSs hc hg b hs.2) turnsMost st hw
    exact ⟨f, fl, env', denv', s', own', by simp only [evS]; exact q1, q⟩
  | .for t it b, hs => by
    intro sr A own s env denv Q st hw
    change wS cw gu _ env Q at hw
    simp only [S.safe, Bool.and_eq_true] at hs
    rw [wS] at hw
    obtain ⟨g, s1, us, env1, own1, k1, k2, k3, k4, k5, k6⟩ := sI hc hg it hs.1 st hw
    obtain ⟨lk1, lk2, lk3⟩ := lock_core (g := g) s1
    have nolock : ∀ j, XX A own1 j → g.lock ≠ some j := fun j z e => by obtain ⟨_, _, _, _, w⟩ := k4.lock j e; exact w z
    have nosc : ∀ j, g.lock = some j → ¬ sc sr j := fun j e z => nolock j (.inl (st.srA j z)) e
    have stL := k3.recore lk1 lk2 fun j z => lk3 j (nolock j z)
    have keepL : ∀ p ∈ g.keep, (lockS g s1)[p.1]? = some p.2 ∧ ¬ XX A own1 p.1 := fun p hp => by
      obtain ⟨q1, q2, ds, q3⟩ := k4.keep p hp
      refine ⟨?_, q2⟩
      obtain ⟨c', e1, e2⟩ := lk2 p.1 _ q1
      rw [q3] at e2
      rw [e1, core_lst (c := c') e2, q3]
    obtain ⟨f, fl, env', denv', s2, own2, q1, q2, q3, q4, q5⟩ := for_ok (sSs hc hg b hs.2) (g := g) stL (k4.its.mono (fun j z => .inl z) fun j c _ e => lk2 j c e) keepL k2
    have l6 : s1.length ≤ s2.length := by have := q5.len; rw [lk1] at this; exact this
    have hlk : ∀ r, g.lock = some r → s2[r]? = (lockS g s1)[r]? ∧ r < s1.length := fun r e => by
      obtain ⟨c, kvs, w1, w2, w3⟩ := k4.lock r e
      have hr := (List.getElem?_eq_some_iff.1 w1).1
      exact ⟨q5.keep r (by rw [lk1]; exact hr) (nosc r e) fun z => w3 (.inr z), hr⟩
    obtain ⟨u1, u2, u3, u4⟩ := unlock_core (g := g) (s := s1) l6 hlk
    have nolock2 : ∀ j, XX A own2 j → g.lock ≠ some j := fun j z e => by
      rcases q5.xx j z with z | z
      · exact nolock j z e
      · have := (hlk j e).2; rw [lk1] at z; omega
    have stU := q3.recore (s' := unlockS g s1 s2) u1 u2 fun j z => u3 j (nolock2 j z)
    have o2 : OutS sr own1 own2 s1 (unlockS g s1 s2) := ⟨by rw [u1]; exact l6, fun j z1 z2 z3 => by
      by_cases hj : g.lock = some j
      · exact u4 j hj
      · rw [u3 j hj, q5.keep j (by rw [lk1]; exact z1) z2 z3, lk3 j hj], fun j z => by have := q5.sub j z; rw [lk1] at this; exact this⟩
    refine ⟨f, fl, env', denv', unlockS g s1 s2, own2, ?_, q2, stU, q4.move (fun j z => .inl z) (fun j c _ e => u2 j c e), (k6.os k5).trans o2⟩
    simp only [evS, k1, bnd_some, q1]
  | .brk, hs => by
    intro sr A own s env denv Q st hw
    change wS cw gu _ env Q at hw
    rw [wS] at hw
    exact ⟨_, _, env, denv, s, own, by simp only [evS], hw, st, .bk, .refl⟩
  | .cnt, hs => by
    intro sr A own s env denv Q st hw
    change wS cw gu _ env Q at hw
    rw [wS] at hw
    exact ⟨_, _, env, denv, s, own, by simp only [evS], hw, st, .ct, .refl⟩
  | .pass, hs => by
    intro sr A own s env denv Q st hw
    change wS cw gu _ env Q at hw
    rw [wS] at hw
    exact ⟨_, _, env, denv, s, own, by simp only [evS], hw, st, .nx, .refl⟩
  | .stuck, hs => by
    intro sr A own s env denv Q st hw
    change wS cw gu _ env Q at hw
    rw [wS] at hw
    cases hw
theorem sSs (hc : SC SP cw cl) (hg : GU gu gl) : ∀ sts : List S, S.safes sts = true → SSs SP cw gu cl gl sts
  | [], hs => by
    intro sr A own s env denv Q st hw
    change wSs cw gu _ env Q at hw
    rw [wSs] at hw
    exact ⟨_, _, env, denv, s, own, by simp only [evSs], hw, st, .nx, .refl⟩
  | a :: sts, hs => by
    intro sr A own s env denv Q st hw
    change wSs cw gu _ env Q at hw
    simp only [S.safes, Bool.and_eq_true] at hs
    rw [wSs] at hw
    obtain ⟨f, fl, env2, denv2, s2, own2, g1, g2, g3, g4, g5⟩ := sS hc hg a hs.1 sr A own s env denv _ st hw
    simp only at g1
    cases g4 with
    | nx =>
      obtain ⟨f, fl, env', denv', s', own', q1, q2, q3, q4, q5⟩ := sSs hc hg sts hs.2 sr A own2 s2 env2 denv2 Q g3 g2
      exact ⟨f, fl, env', denv', s', own', by simp only [evSs, g1, bnd_some]; exact q1, q2, q3, q4, g5.trans q5⟩
    | ct => exact ⟨_, _, env2, denv2, s2, own2, by simp only [evSs, g1, bnd_some], g2, g3, .ct, g5⟩
    | bk => exact ⟨_, _, env2, denv2, s2, own2, by simp only [evSs, g1, bnd_some], g2, g3, .bk, g5⟩
    | rt rr => exact ⟨_, _, env2, denv2, s2, own2, by simp only [evSs, g1, bnd_some], g2, g3, .rt rr, g5⟩
end
end
/-! ### defs -/
section
variable {SP : SPr} {tb : Str → Option Fd} {gu : Str → Option U} {gl : Str → Option D} {prim : Str → Option (Nat → List U → PT)}
/-- what is known by other roads holds -/
def PrimOk (SP : SPr) (tb : Str → Option Fd) (gl : Str → Option D) (prim : Str → Option (Nat → List U → PT)) : Prop := ∀ f P, prim f = some P → ∀ (n : Nat) (us : List U) (Q : U → Prop), P n us Q → ∀ (sr : Option (Nat × Nat)) (A : Nat → Prop) (s : Sto) (ds : List D), Rps sr A s us ds → (∀ j, sc sr j → A j) → (∀ j, A j → j < s.length) → SrcOk SP sr s →
  ∃ d s' u, callD tb gl (n + 1) f ds s = some (d, s') ∧ Q u ∧ Rp sr A s' u d ∧ SrcOk SP sr s' ∧ s.length ≤ s'.length ∧ ∀ j, j < s.length → ¬ sc sr j → s'[j]? = s[j]?
theorem start_st {sr : Option (Nat × Nat)} {A : Nat → Prop} {s : Sto} {us : List U} {ds : List D} (h : Rps sr A s us ds) (hsr : ∀ j, sc sr j → A j) (hb : ∀ j, A j → j < s.length) (hs : SrcOk SP sr s) (k : Nat) :
    St SP sr A (fun _ => none) s (us.map Sl.val ++ List.replicate k .no) (ds.map some ++ List.replicate k none) := by
  refine ⟨by simp [h.length], hs, hb, hsr, fun i sl e => ?_, nofun, nofun⟩
  by_cases hi : i < us.length
  · rw [List.getElem?_append_left (by simpa using hi), List.getElem?_map, Option.map_eq_some_iff] at e
    obtain ⟨u, e1, rfl⟩ := e
    obtain ⟨d, e2, r⟩ := h.get e1
    refine ⟨d, by rw [List.getElem?_append_left (by simpa [← h.length] using hi), List.getElem?_map, e2]; rfl, r.weak fun j z => ?_⟩
    rcases z with z | ⟨k, z⟩
    · exact z
    · cases z
  · rw [List.getElem?_append_right (by simpa using hi), List.getElem?_replicate] at e
    split at e
    · cases e; trivial
    · cases e
theorem body_ok {cw : Str → List U → PT} {cl : Str → List D → Sto → Option (D × Sto)} (hc : SC SP cw cl) (hg : GU gu gl) {fd : Fd} (hsafe : S.safes fd.body = true) {us : List U} {Q : U → Prop} (hw : wBody cw gu fd us Q) {sr : Option (Nat × Nat)} {A : Nat → Prop} {s : Sto} {ds : List D} (h : Rps sr A s us ds) (hsr : ∀ j, sc sr j → A j) (hb : ∀ j, A j → j < s.length) (hs : SrcOk SP sr s) :
    ∃ d s' u, bodyD cl gl fd ds s = some (d, s') ∧ Q u ∧ Rp sr A s' u d ∧ SrcOk SP sr s' ∧ s.length ≤ s'.length ∧ ∀ j, j < s.length → ¬ sc sr j → s'[j]? = s[j]? := by
  unfold wBody at hw
  have st := start_st (SP := SP) h hsr hb hs (fd.slots - us.length)
  rw [show ds.map some ++ List.replicate (fd.slots - us.length) none = ds.map some ++ List.replicate (fd.slots - ds.length) none by rw [h.length]] at st
  obtain ⟨f, fl, env', denv', s', own', q1, q2, q3, q4, q5⟩ := sSs hc hg fd.body hsafe sr A _ s _ _ _ st hw
  have k : ∀ j, j < s.length → ¬ sc sr j → s'[j]? = s[j]? := fun j a b => q5.keep j a b fun ⟨_, z⟩ => (nomatch z)
  simp only at q1
  cases q4 with
  | nx => exact ⟨.non, s', .non, by unfold bodyD; rw [q1], q2, .non, q3.src, q5.len, k⟩
  | rt r => exact ⟨_, s', _, by unfold bodyD; rw [q1], q2, r.weak fun j z => .inl z, q3.src, q5.len, k⟩
  | bk => cases q2
  | ct => cases q2
theorem sc_all (hsafe : ∀ f fd, tb f = some fd → S.safes fd.body = true) (hg : GU gu gl) (hp : PrimOk SP tb gl prim) : ∀ n, SC SP (callW tb gu prim n) (callD tb gl n)
  | 0 => fun f us Q h => by rw [callW] at h; cases h
  | n + 1 => fun f us Q h sr A s ds r hsr hb hs => by
    have ih := sc_all hsafe hg hp n
    rw [callW] at h
    split at h
    · rename_i P e
      exact hp f P e n us Q h sr A s ds r hsr hb hs
    · split at h
      · cases h
      · rename_i fd e
        obtain ⟨hl, h⟩ := h
        rw [callD, e]
        simp only
        rw [if_pos (by rw [← r.length]; exact hl)]
        by_cases hpu : D.pures ds = true
        · rw [if_pos hpu]
          have r0 : Rps none (fun _ => False) [] us ds := r.anywhere hpu
          obtain ⟨d, sub, u, q1, q2, q3, _⟩ := body_ok ih hg (hsafe f fd e) h r0 (fun j ⟨_, _, z, _⟩ => (nomatch z)) (fun j z => False.elim z) (fun _ _ z => nomatch z)
          rw [q1]
          simp only
          by_cases hv : d.pure = true
          · rw [if_pos hv]
            exact ⟨d, s, u, rfl, q2, q3.anywhere hv, hs, Nat.le_refl _, fun _ _ _ => rfl⟩
          · rw [if_neg hv]
            have lt : ∀ {a b}, sr = some (a, b) → a < s.length ∧ b < s.length := fun {a b} e => ⟨hb _ (hsr _ ⟨a, b, e, .inl rfl⟩), hb _ (hsr _ ⟨a, b, e, .inr rfl⟩)⟩
            refine ⟨_, _, u, rfl, q2, q3.shift (pre := s) (X' := A) fun j z => by have := hb _ z; omega, fun a b e => SP.loc ?_ ?_ (hs a b e), by simp, fun j a _ => List.getElem?_append_left a⟩
            · exact List.getElem?_append_left (lt e).1
            · exact List.getElem?_append_left (lt e).2
        · rw [if_neg hpu]
          exact body_ok ih hg (hsafe f fd e) h r hsr hb hs
end
end Ev
end

section
set_option autoImplicit false
set_option linter.unusedVariables false
set_option linter.unusedSimpArgs false
/-! U8: a run's outcomes are a set: from a spec by outcome to an equation -/
namespace Ev
open PySem

/-- no outcome promised, or just what all of some outcomes have -/
def Hl {α : Type} (T : (α → Prop) → Prop) : Prop := (∀ Q, ¬ T Q) ∨ ∃ R : α → Prop, (∃ r, R r) ∧ ∀ Q, T Q ↔ ∀ r, R r → Q r
theorem Hl.no {α : Type} : Hl (α := α) fun _ => False := .inl fun _ h => h
theorem Hl.one {α : Type} (a : α) : Hl (α := α) fun Q => Q a := .inr ⟨fun r => r = a, ⟨a, rfl⟩, fun Q => ⟨fun h r e => e ▸ h, fun h => h a rfl⟩⟩
theorem Hl.congr {α : Type} {T T' : (α → Prop) → Prop} (h : ∀ Q, T Q ↔ T' Q) (h' : Hl T') : Hl T := by
  have : T = T' := funext fun Q => propext (h Q)
  rw [this]; exact h'
theorem Hl.bind {α β : Type} {T : (α → Prop) → Prop} {f : α → (β → Prop) → Prop} (h : Hl T) (h' : ∀ a, Hl (f a)) : Hl fun Q => T fun a => f a Q := by
  rcases h with h | ⟨R, ⟨r0, hr0⟩, h⟩
  · exact .inl fun Q => h _
  · by_cases hx : ∃ r, R r ∧ ∀ Q, ¬ f r Q
    · obtain ⟨r, h1, h2⟩ := hx
      exact .inl fun Q z => h2 Q ((h _).1 z r h1)
    · have hy : ∀ r, R r → ∃ S : β → Prop, (∃ b, S b) ∧ ∀ Q, f r Q ↔ ∀ b, S b → Q b := fun r hr => by
        rcases h' r with z | z
        · exact absurd ⟨r, hr, z⟩ hx
        · exact z
      refine .inr ⟨fun b => ∃ r, ∃ hr : R r, ∃ S : β → Prop, (∀ Q, f r Q ↔ ∀ b, S b → Q b) ∧ S b, ?_, fun Q => ?_⟩
      · obtain ⟨S, ⟨b, hb⟩, hS⟩ := hy r0 hr0
        exact ⟨b, r0, hr0, S, hS, hb⟩
      · refine (h _).trans ?_
        constructor
        · rintro z b ⟨r, hr, S, hS, hb⟩
          exact (hS Q).1 (z r hr) b hb
        · intro z r hr
          obtain ⟨S, _, hS⟩ := hy r hr
          exact (hS Q).2 fun b hb => z b ⟨r, hr, S, hS, hb⟩
theorem Hl.ok {α β : Type} {o : Option α} {f : α → (β → Prop) → Prop} (h : ∀ a, Hl (f a)) : Hl fun Q => ok o fun a => f a Q := by
  cases o with
  | none => exact .inl fun Q z => by simp at z
  | some a => exact (h a).congr fun Q => by simp
theorem Hl.and {β : Type} {p : Prop} {T : (β → Prop) → Prop} (h : Hl T) : Hl fun Q => p ∧ T Q := by
  by_cases hp : p
  · exact h.congr fun Q => by simp [hp]
  · exact .inl fun Q z => hp z.1
/-- all outcomes of a known one are it -/
theorem Hl.eq {α : Type} {T : (α → Prop) → Prop} (h : Hl T) {a : α} (k : T fun r => r = a) (Q : α → Prop) : T Q = Q a := by
  rcases h with h | ⟨R, ⟨r0, hr0⟩, h⟩
  · exact absurd k (h _)
  · have k := (h _).1 k
    have := k r0 hr0
    subst this
    refine propext ⟨fun z => (h Q).1 z _ hr0, fun z => (h Q).2 fun r hr => ?_⟩
    rw [k r hr]; exact z
theorem Hl.mono {α : Type} {T : (α → Prop) → Prop} (h : Hl T) {Q Q' : α → Prop} (k : T Q) (hq : ∀ a, Q a → Q' a) : T Q' := by
  rcases h with h | ⟨R, _, h⟩
  · exact absurd k (h _)
  · exact (h Q').2 fun r hr => hq r ((h Q).1 k r hr)
def Hl2 {α β : Type} (T : (α → β → Prop) → Prop) : Prop := Hl fun Q : α × β → Prop => T fun a b => Q (a, b)
theorem Hl2.bind {α β γ : Type} {T : (α → β → Prop) → Prop} {f : α → β → (γ → Prop) → Prop} (h : Hl2 T) (h' : ∀ a b, Hl (f a b)) : Hl fun Q => T fun a b => f a b Q :=
  Hl.bind (f := fun (p : α × β) Q => f p.1 p.2 Q) h fun p => h' p.1 p.2

section
variable {cw : Str → List U → PT} {gu : Str → Option U}
theorem hComp {elt c : UEnv → (Sl → UEnv → Prop) → Prop} {t : T} {env : UEnv} (he : ∀ env, Hl2 (elt env)) (hc : ∀ env, Hl2 (c env)) : ∀ (us acc : List U), Hl fun Q => wComp elt c t env us acc Q
  | [], acc => (Hl.one acc).congr fun Q => by rw [wComp]
  | u :: us, acc => by
    refine Hl.congr (fun Q => by rw [wComp]) (Hl.ok fun env1 => Hl2.bind (hc env1) fun b env2 => Hl.and ?_)
    split
    · exact Hl2.bind (he env1) fun x env3 => Hl.and (hComp he hc us _)
    · exact hComp he hc us _
    · exact .no
mutual
theorem hE (hc : ∀ f us, Hl (cw f us)) : ∀ (pk : Bool) (e : E) (env : UEnv), Hl2 (wE cw gu pk e env)
  | pk, .var i, env => by
    refine Hl.congr (fun Q => by rw [wE]) ?_
    split
    · exact .one _
    · split <;> exact .one _
    · exact .no
  | pk, .lit d, env => Hl.congr (fun Q => by rw [wE]) (.one _)
  | pk, .gl x, env => Hl.congr (fun Q => by rw [wE]) (Hl.ok fun u => .one _)
  | pk, .tup es, env => Hl.congr (fun Q => by rw [wE]) (Hl2.bind (hEs hc false es env) fun ds env => Hl.ok fun r => .one _)
  | pk, .lst es, env => Hl.congr (fun Q => by rw [wE]) (Hl2.bind (hEs hc false es env) fun ds env => Hl.ok fun r => .one _)
  | pk, .star e, env => Hl.congr (fun Q => by rw [wE]) (Hl2.bind (hE hc true e env) fun ds env => Hl.ok fun r => .one _)
  | pk, .dct es, env => Hl.congr (fun Q => by rw [wE]) (Hl2.bind (hEs hc false es env) fun ds env => Hl.ok fun r => .one _)
  | pk, .bin op a b, env => Hl.congr (fun Q => by rw [wE]) (Hl2.bind (hE hc true a env) fun x env => Hl2.bind (hE hc true b env) fun y env => Hl.ok fun r => .one _)
  | pk, .neg a, env => Hl.congr (fun Q => by rw [wE]) (Hl2.bind (hE hc true a env) fun x env => by split; (· exact .one _); exact .no)
  | pk, .not a, env => Hl.congr (fun Q => by rw [wE]) (Hl2.bind (hE hc true a env) fun x env => by split; (· exact .one _); exact .no)
  | pk, .cmp op a b, env => Hl.congr (fun Q => by rw [wE]) (Hl2.bind (hE hc true a env) fun x env => Hl2.bind (hE hc true b env) fun y env => Hl.ok fun r => .one _)
  | pk, .cmp2 op op' a b c, env => Hl.congr (fun Q => by rw [wE]) (Hl2.bind (hE hc true a env) fun x env => Hl2.bind (hE hc true b env) fun y env => Hl.ok fun r => by
      split
      · exact Hl2.bind (hE hc true c env) fun z env => Hl.ok fun k => .one _
      · exact .one _)
  | pk, .and a b, env => Hl.congr (fun Q => by rw [wE]) (Hl2.bind (hE hc true a env) fun x env => by
      split
      · exact hE hc false b env
      · exact .one _
      · exact .no)
  | pk, .or a b, env => Hl.congr (fun Q => by rw [wE]) (Hl2.bind (hE hc true a env) fun x env => by
      split
      · exact .one _
      · exact hE hc false b env
      · exact .no)
  | pk, .ite c a b, env => Hl.congr (fun Q => by rw [wE]) (Hl2.bind (hE hc true c env) fun x env => by
      split
      · exact hE hc false a env
      · exact hE hc false b env
      · exact .no)
  | pk, .idx a b, env => Hl.congr (fun Q => by rw [wE]) (Hl2.bind (hE hc true a env) fun x env => Hl2.bind (hE hc true b env) fun y env => Hl.ok fun r => .one _)
  | pk, .slc a lo hi, env => Hl.congr (fun Q => by rw [wE]) (Hl2.bind (hE hc true a env) fun x env => Hl2.bind (hO hc lo env) fun l env => Hl2.bind (hO hc hi env) fun h env => Hl.ok fun r => .one _)
  | pk, .rev a, env => Hl.congr (fun Q => by rw [wE]) (Hl2.bind (hE hc true a env) fun x env => Hl.ok fun r => .one _)
  | pk, .call f es, env => Hl.congr (fun Q => by rw [wE]) (Hl2.bind (hEs hc false es env) fun ds env => Hl.bind (hc f _) fun u => .one _)
  | pk, .bif f es, env => Hl.congr (fun Q => by rw [wE]) (Hl2.bind (hEs hc true es env) fun ds env => Hl.ok fun r => .one _)
  | pk, .mth m o es, env => by
    refine Hl.congr (fun Q => by rw [wE.eq_def]) ?_
    simp only
    split
    · refine Hl2.bind (hE hc true o env) fun x env => Hl2.bind (hEs hc false es env) fun ds env => ?_
      split
      · split
        · exact Hl.ok fun u => .one _
        · exact .no
      · exact .no
    · exact .no
    · split
      · split
        · refine Hl2.bind (hEs hc _ es env) fun ds env => ?_
          split
          · exact Hl.ok fun r => .one _
          · exact .no
        · exact .no
      · exact .no
  | pk, .isi _ _, env => Hl.congr (fun Q => by rw [wE]) .no
  | pk, .bifI _ _, env => Hl.congr (fun Q => by rw [wE]) .no
  | pk, .comp own t it elt c, env => Hl.congr (fun Q => by rw [wE]) (Hl2.bind (hI hc it env) fun us env => Hl.bind (hComp (fun env => hE hc false elt env) (fun env => hC hc c env) us []) fun acc => .one _)
theorem hEs (hc : ∀ f us, Hl (cw f us)) : ∀ (pk : Bool) (es : List E) (env : UEnv), Hl2 (wEs cw gu pk es env)
  | pk, [], env => Hl.congr (fun Q => by rw [wEs]) (.one _)
  | pk, e :: es, env => Hl.congr (fun Q => by rw [wEs]) (Hl2.bind (hE hc pk e env) fun x env => Hl2.bind (hEs hc pk es env) fun ds env => .one _)
theorem hO (hc : ∀ f us, Hl (cw f us)) : ∀ (e : Option E) (env : UEnv), Hl2 (wO cw gu e env)
  | none, env => Hl.congr (fun Q => by rw [wO]) (.one _)
  | some e, env => Hl.congr (fun Q => by rw [wO]) (Hl2.bind (hE hc true e env) fun x env => by split; (· exact .one _); exact .no)
theorem hC (hc : ∀ f us, Hl (cw f us)) : ∀ (e : Option E) (env : UEnv), Hl2 (wC cw gu e env)
  | none, env => Hl.congr (fun Q => by rw [wC]) (.one _)
  | some e, env => Hl.congr (fun Q => by rw [wC]) (hE hc false e env)
theorem hI (hc : ∀ f us, Hl (cw f us)) : ∀ (it : Ev.It) (env : UEnv), Hl2 (wI cw gu it env)
  | .range1 a, env => Hl.congr (fun Q => by rw [wI]) (Hl2.bind (hE hc true a env) fun x env => by split; (· exact Hl.ok fun u => .one _); exact .no)
  | .range2 a b, env => Hl.congr (fun Q => by rw [wI]) (Hl2.bind (hE hc true a env) fun x env => Hl2.bind (hE hc true b env) fun y env => by split; (· exact Hl.ok fun u => .one _); exact .no)
  | .items a, env => Hl.congr (fun Q => by rw [wI]) (Hl2.bind (hE hc false a env) fun x env => Hl.ok fun u => .one _)
  | .zip _ _, env => Hl.congr (fun Q => by rw [wI]) .no
  | .enum _, env => Hl.congr (fun Q => by rw [wI]) .no
  | .seq a, env => Hl.congr (fun Q => by rw [wI]) (Hl2.bind (hE hc false a env) fun x env => Hl.ok fun u => .one _)
end
theorem hFor {body : UEnv → (FU → UEnv → Prop) → Prop} {t : T} (hb : ∀ env, Hl2 (body env)) : ∀ (us : List U) (env : UEnv), Hl2 (wFor body t us env)
  | [], env => Hl.congr (fun Q => by rw [wFor]) (.one _)
  | u :: us, env => Hl.congr (fun Q => by rw [wFor]) (Hl.ok fun env1 => Hl2.bind (hb env1) fun r env2 => by
      split
      · exact hFor hb us env2
      · exact hFor hb us env2
      · exact .one _
      · exact .one _)
theorem hWhl {test : UEnv → (Sl → UEnv → Prop) → Prop} {body : UEnv → (FU → UEnv → Prop) → Prop} (ht : ∀ env, Hl2 (test env)) (hb : ∀ env, Hl2 (body env)) : ∀ (n : Nat) (env : UEnv), Hl2 (wWhl test body n env)
  | 0, env => Hl.congr (fun Q => by rw [wWhl]) .no
  | n + 1, env => Hl.congr (fun Q => by rw [wWhl]) (Hl2.bind (ht env) fun b env1 => by
      split
      · refine Hl2.bind (hb env1) fun r env2 => ?_
        split
        · exact hWhl ht hb n env2
        · exact hWhl ht hb n env2
        · exact .one _
        · exact .one _
      · exact .one _
      · exact .no)
mutual
theorem hS (hc : ∀ f us, Hl (cw f us)) : ∀ (st : S) (env : UEnv), Hl2 (wS cw gu st env)
  | .asg t e, env => by
    refine Hl.congr (fun Q => by rw [wS.eq_def]) ?_
    simp only
    split
    · split
      · exact Hl2.bind (hEs hc false _ env) fun ds env => Hl.ok fun env1 => .one _
      · exact Hl2.bind (hE hc false _ env) fun ds env => Hl.ok fun env1 => .one _
    · exact Hl2.bind (hE hc false _ env) fun ds env => Hl.ok fun env1 => .one _
  | .seti o i v, env => by
    refine Hl.congr (fun Q => by rw [wS.eq_def]) ?_
    simp only
    refine Hl2.bind (hE hc false _ env) fun d env => ?_
    split
    · refine Hl2.bind (hE hc true _ env) fun k env => ?_
      split
      · exact Hl.ok fun x => .one _
      · exact .no
    · exact .no
  | .ex e, env => Hl.congr (fun Q => by rw [wS]) (Hl2.bind (hE hc true e env) fun x env => .one _)
  | .ret none, env => Hl.congr (fun Q => by rw [wS]) (.one _)
  | .ret (some e), env => Hl.congr (fun Q => by rw [wS]) (Hl2.bind (hE hc false e env) fun x env => .one _)
  | .ite c a b, env => Hl.congr (fun Q => by rw [wS]) (Hl2.bind (hE hc true c env) fun x env => by
      split
      · exact hSs hc a env
      · exact hSs hc b env
      · exact .no)
  | .whl c b, env => Hl.congr (fun Q => by rw [wS]) (hWhl (fun env => hE hc true c env) (fun env => hSs hc b env) _ env)
  | .for t it b, env => Hl.congr (fun Q => by rw [wS]) (Hl2.bind (hI hc it env) fun us env => hFor (fun env => hSs hc b env) us env)
  | .brk, env => Hl.congr (fun Q => by rw [wS]) (.one _)
  | .cnt, env => Hl.congr (fun Q => by rw [wS]) (.one _)
  | .pass, env => Hl.congr (fun Q => by rw [wS]) (.one _)
  | .stuck, env => Hl.congr (fun Q => by rw [wS]) .no
theorem hSs (hc : ∀ f us, Hl (cw f us)) : ∀ (sts : List S) (env : UEnv), Hl2 (wSs cw gu sts env)
  | [], env => Hl.congr (fun Q => by rw [wSs]) (.one _)
  | st :: sts, env => Hl.congr (fun Q => by rw [wSs]) (Hl2.bind (hS hc st env) fun r env => by
      split
      · exact hSs hc sts env
      · exact .one _)
end
theorem hBody (hc : ∀ f us, Hl (cw f us)) (fd : Fd) (us : List U) : Hl (wBody cw gu fd us) := by
  unfold wBody
  exact Hl2.bind (hSs hc _ _) fun r env => by
    split
    · exact .one _
    · exact .one _
    · exact .no
end
theorem hCall {tb : Str → Option Fd} {gu : Str → Option U} {prim : Str → Option (Nat → List U → PT)} (hp : ∀ f P, prim f = some P → ∀ n us, Hl (P n us)) : ∀ (n : Nat) (f : Str) (us : List U), Hl (callW tb gu prim n f us)
  | 0, f, us => Hl.congr (fun Q => by rw [callW]) .no
  | n + 1, f, us => by
    refine Hl.congr (fun Q => by rw [callW]) ?_
    split
    · rename_i P e; exact hp f P e n us
    · split
      · exact .no
      · exact Hl.and (hBody (hCall hp n) _ us)
end Ev
end

section
set_option autoImplicit false
set_option linter.unusedVariables false
set_option linter.unusedSimpArgs false
/-! U9: to reckon with values -/
namespace Ev
open PySem L2

@[simp] theorem u_val {u : U} : (Sl.val u).u = u := rfl
@[simp] theorem u_own {u : U} : (Sl.own u).u = u := rfl
@[simp] theorem u_comp_val : Sl.u ∘ Sl.val = id := rfl
@[simp] theorem u_comp_val' {α : Type} {f : α → U} : (Sl.u ∘ Sl.val) ∘ f = f := rfl
@[simp] theorem spl_tup {us : List U} : (U.tup us).spl = us := rfl
@[simp] theorem nn_non : isNonU .non = true := rfl
@[simp] theorem nn_int {i : Int} : isNonU (.int i) = false := rfl
@[simp] theorem nn_bl {i : Bool} : isNonU (.bl i) = false := rfl
@[simp] theorem nn_str {i : Str} : isNonU (.str i) = false := rfl
@[simp] theorem nn_tup {i : List U} : isNonU (.tup i) = false := rfl
@[simp] theorem nn_lst {i : List U} : isNonU (.lst i) = false := rfl
@[simp] theorem nn_dct {i : List (D × U)} : isNonU (.dct i) = false := rfl
@[simp] theorem is_var {i : Nat} : (E.var i).isStar = false := rfl
@[simp] theorem is_lit {d : D} : (E.lit d).isStar = false := rfl
@[simp] theorem is_gl {x : Str} : (E.gl x).isStar = false := rfl
@[simp] theorem is_tup {es : List E} : (E.tup es).isStar = false := rfl
@[simp] theorem is_lst {es : List E} : (E.lst es).isStar = false := rfl
@[simp] theorem is_dct {es : List E} : (E.dct es).isStar = false := rfl
@[simp] theorem is_bin {o : Operator} {a b : E} : (E.bin o a b).isStar = false := rfl
@[simp] theorem is_neg {a : E} : (E.neg a).isStar = false := rfl
@[simp] theorem is_not {a : E} : (E.not a).isStar = false := rfl
@[simp] theorem is_cmp {o : CmpOp} {a b : E} : (E.cmp o a b).isStar = false := rfl
@[simp] theorem is_and {a b : E} : (E.and a b).isStar = false := rfl
@[simp] theorem is_or {a b : E} : (E.or a b).isStar = false := rfl
@[simp] theorem is_ite {c a b : E} : (E.ite c a b).isStar = false := rfl
@[simp] theorem is_idx {a b : E} : (E.idx a b).isStar = false := rfl
@[simp] theorem is_slc {a : E} {l h : Option E} : (E.slc a l h).isStar = false := rfl
@[simp] theorem is_rev {a : E} : (E.rev a).isStar = false := rfl
@[simp] theorem is_call {f : Str} {es : List E} : (E.call f es).isStar = false := rfl
@[simp] theorem is_bif {f : B} {es : List E} : (E.bif f es).isStar = false := rfl
@[simp] theorem is_mth {m : Mt} {o : E} {es : List E} : (E.mth m o es).isStar = false := rfl
@[simp] theorem is_comp {ow : List Nat} {t : T} {it : Ev.It} {x : E} {c : Option E} : (E.comp ow t it x c).isStar = false := rfl
@[simp] theorem is_star {a : E} : (E.star a).isStar = true := rfl
@[simp] theorem nma_nil : nmAll [] = true := rfl
@[simp] theorem nma_nm {i : Nat} {ts : List T} : nmAll (.nm i :: ts) = nmAll ts := rfl
@[simp] theorem nma_tp {us ts : List T} : nmAll (.tp us :: ts) = false := rfl
section
variable {cw : Str → List U → PT} {gu : Str → Option U} {env : UEnv} {pk : Bool} {Q : Sl → UEnv → Prop}
def lk (env : UEnv) (i : Nat) : Sl := (env[i]?).getD .no
@[simp] theorem lk_zero {d : Sl} {r : UEnv} : lk (d :: r) 0 = d := rfl
@[simp] theorem lk_succ {o : Sl} {r : UEnv} {i : Nat} : lk (o :: r) (i + 1) = lk r i := rfl
def vr (pk : Bool) (sl : Sl) (i : Nat) (env : UEnv) (Q : Sl → UEnv → Prop) : Prop := match sl with
  | .no => False
  | .val u => Q (.val u) env
  | .own u => if pk then Q (.val u) env else Q (.val u) (env.set i (.val u))
@[simp] theorem vr_val {u : U} {i : Nat} : vr pk (.val u) i env Q = Q (.val u) env := rfl
@[simp] theorem vr_ownT {u : U} {i : Nat} : vr true (.own u) i env Q = Q (.val u) env := rfl
@[simp] theorem vr_ownF {u : U} {i : Nat} : vr false (.own u) i env Q = Q (.val u) (env.set i (.val u)) := rfl
@[simp] theorem w_var {i : Nat} : wE cw gu pk (.var i) env Q = vr pk (lk env i) i env Q := by
  rw [wE]; unfold lk vr
  cases h : env[i]? with
  | none => rfl
  | some o => cases o <;> rfl
@[simp] theorem w_lit {d : D} : wE cw gu pk (.lit d) env Q = Q (.val d.toU) env := by rw [wE]
@[simp] theorem w_gl {x : Str} : wE cw gu pk (.gl x) env Q = ok (gu x) fun u => Q (.val u) env := by rw [wE]
@[simp] theorem w_tup {es : List E} : wE cw gu pk (.tup es) env Q = wEs cw gu false es env fun ds env => ok (newTU (ds.map Sl.u)) fun r => Q r env := by rw [wE]
@[simp] theorem w_lst {es : List E} : wE cw gu pk (.lst es) env Q = wEs cw gu false es env fun ds env => ok (newLU (ds.map Sl.u)) fun r => Q r env := by rw [wE]
@[simp] theorem w_star {e : E} : wE cw gu pk (.star e) env Q = wE cw gu true e env fun x env => ok (itemsU x.u) fun us => Q (.val (.tup us)) env := by rw [wE]
@[simp] theorem w_dct {es : List E} : wE cw gu pk (.dct es) env Q = wEs cw gu false es env fun ds env => ok (pairUpU [] (ds.map Sl.u)) fun kvs => Q (.own (.dct kvs)) env := by rw [wE]
@[simp] theorem w_bin {op : Operator} {a b : E} : wE cw gu pk (.bin op a b) env Q = wE cw gu true a env fun x env => wE cw gu true b env fun y env => ok (binU op x.u y.u) fun r => Q r env := by rw [wE]
@[simp] theorem w_neg {a : E} : wE cw gu pk (.neg a) env Q = wE cw gu true a env fun x env => match x.u with
    | .int i => Q (.val (.int (-i))) env
    | _ => False := by first | (rw [wE]; done) | (rw [wE]; rfl)
@[simp] theorem w_not {a : E} : wE cw gu pk (.not a) env Q = wE cw gu true a env fun x env => match x.u with
    | .bl b => Q (.val (.bl (!b))) env
    | _ => False := by first | (rw [wE]; done) | (rw [wE]; rfl)
@[simp] theorem w_cmp {op : CmpOp} {a b : E} : wE cw gu pk (.cmp op a b) env Q = wE cw gu true a env fun x env => wE cw gu true b env fun y env => ok (cmpU op x.u y.u) fun k => Q (.val (.bl k)) env := by rw [wE]
@[simp] theorem w_cmp2 {op op' : CmpOp} {a b c : E} : wE cw gu pk (.cmp2 op op' a b c) env Q = wE cw gu true a env fun x env => wE cw gu true b env fun y env => ok (cmpU op x.u y.u) fun k =>
      if k then wE cw gu true c env fun z env => ok (cmpU op' y.u z.u) fun k => Q (.val (.bl k)) env else Q (.val (.bl false)) env := by rw [wE]
/-- two ways by a truth value -/
def br (x : U) (a b : Prop) : Prop := match x with
  | .bl true => a
  | .bl false => b
  | _ => False
@[simp] theorem br_bl {k : Bool} {a b : Prop} : br (.bl k) a b = if k = true then a else b := by cases k <;> rfl
@[simp] theorem w_and {a b : E} : wE cw gu pk (.and a b) env Q = wE cw gu true a env fun x env => br x.u (wE cw gu false b env Q) (Q (.val (.bl false)) env) := by rw [wE]; rfl
@[simp] theorem w_or {a b : E} : wE cw gu pk (.or a b) env Q = wE cw gu true a env fun x env => br x.u (Q (.val (.bl true)) env) (wE cw gu false b env Q) := by rw [wE]; rfl
@[simp] theorem w_ite {c a b : E} : wE cw gu pk (.ite c a b) env Q = wE cw gu true c env fun x env => br x.u (wE cw gu false a env Q) (wE cw gu false b env Q) := by rw [wE]; rfl
@[simp] theorem w_idx {a i : E} : wE cw gu pk (.idx a i) env Q = wE cw gu true a env fun x env => wE cw gu true i env fun y env => ok (idxU x.u y.u) fun u => Q (.val u) env := by rw [wE]
@[simp] theorem w_slc {a : E} {lo hi : Option E} : wE cw gu pk (.slc a lo hi) env Q = wE cw gu true a env fun x env => wO cw gu lo env fun l env => wO cw gu hi env fun h env => ok (slcU x.u l h) fun r => Q r env := by rw [wE]
@[simp] theorem w_rev {a : E} : wE cw gu pk (.rev a) env Q = wE cw gu true a env fun x env => ok (revU x.u) fun r => Q r env := by rw [wE]
@[simp] theorem w_call {f : Str} {es : List E} : wE cw gu pk (.call f es) env Q = wEs cw gu false es env fun ds env => cw f (ds.map Sl.u) fun u => Q (.val u) env := by rw [wE]
@[simp] theorem w_bif {f : B} {es : List E} : wE cw gu pk (.bif f es) env Q = wEs cw gu true es env fun ds env => ok (bifU f (ds.map Sl.u)) fun r => Q r env := by rw [wE]
/-- d.get(k, v) -/
def gt (x : U) (ds : List Sl) (env : UEnv) (Q : Sl → UEnv → Prop) : Prop := match ds with
  | [k, d] => ok (getU x k.u d.u) fun u => Q (.val u) env
  | _ => False
@[simp] theorem gt_two {x : U} {k d : Sl} : gt x [k, d] env Q = ok (getU x k.u d.u) fun u => Q (.val u) env := rfl
@[simp] theorem w_get {o : E} {es : List E} : wE cw gu pk (.mth .get o es) env Q = wE cw gu true o env fun x env => wEs cw gu false es env fun ds env => gt x.u ds env Q := by
  rw [wE]
  congr 1
  funext x env
  congr 1
  funext ds env
  unfold gt
  split
  · rfl
  · rename_i h
    split
    · cases hx : x.u with
      | dct _ => exact absurd hx (h _)
      | _ => simp [getU]
    · rfl
/-- one of a list's own methods -/
def mv (m : Mt) (sl : Sl) (i : Nat) (xs : List U) (env : UEnv) (Q : Sl → UEnv → Prop) : Prop := match sl with
  | .own (.lst us) => ok (mutU m us xs) fun r => Q (.val r.1) (env.set i (.own (.lst r.2)))
  | _ => False
@[simp] theorem mv_own {m : Mt} {i : Nat} {us xs : List U} : mv m (.own (.lst us)) i xs env Q = ok (mutU m us xs) fun r => Q (.val r.1) (env.set i (.own (.lst r.2))) := rfl
def isL : Sl → Bool
  | .own (.lst _) => true
  | _ => false
@[simp] theorem isL_own {us : List U} : isL (.own (.lst us)) = true := rfl
theorem w_mut {m : Mt} {i : Nat} {es : List E} (h1 : m ≠ .get) (h2 : m ≠ .index) : wE cw gu pk (.mth m (.var i) es) env Q = (isL (lk env i) = true ∧ wEs cw gu m.pk es env fun ds env => mv m (lk env i) i (ds.map Sl.u) env Q) := by
  have e1 : ∀ env : UEnv, (match env[i]? with | some (.own (.lst _)) => True | _ => False) = (isL (lk env i) = true) := fun env => by
    unfold lk
    cases h : env[i]? with
    | none => simp [isL]
    | some o => cases o with
      | no => simp [isL]
      | val u => simp [isL]
      | own u => cases u <;> simp [isL]
  have e2 : ∀ (env : UEnv) (ds : List Sl), (match env[i]? with
          | some (.own (.lst us)) => ok (mutU m us (ds.map Sl.u)) fun r => Q (.val r.1) (env.set i (.own (.lst r.2)))
          | _ => False) = mv m (lk env i) i (ds.map Sl.u) env Q := fun env ds => by
    unfold lk mv
    cases h : env[i]? with
    | none => rfl
    | some o => cases o with
      | no => rfl
      | val u => rfl
      | own u => cases u <;> rfl
  have e3 : wE cw gu pk (.mth m (.var i) es) env Q = match env[i]? with
        | some (.own (.lst _)) => wEs cw gu (Mt.pk m) es env fun ds env => match env[i]? with
          | some (.own (.lst us)) => ok (mutU m us (ds.map Sl.u)) fun r => Q (.val r.1) (env.set i (.own (.lst r.2)))
          | _ => False
        | _ => False := by
    rw [wE.eq_def]
    cases m <;> first | exact absurd rfl h1 | exact absurd rfl h2 | rfl
  rw [e3, ← e1]
  simp only [e2]
  cases h : env[i]? with
  | none => simp
  | some o => cases o with
    | no => simp
    | val u => simp
    | own u => cases u <;> simp
@[simp] theorem w_append {i : Nat} {es : List E} : wE cw gu pk (.mth .append (.var i) es) env Q = (isL (lk env i) = true ∧ wEs cw gu false es env fun ds env => mv .append (lk env i) i (ds.map Sl.u) env Q) := w_mut nofun nofun
@[simp] theorem w_extend {i : Nat} {es : List E} : wE cw gu pk (.mth .extend (.var i) es) env Q = (isL (lk env i) = true ∧ wEs cw gu true es env fun ds env => mv .extend (lk env i) i (ds.map Sl.u) env Q) := w_mut nofun nofun
@[simp] theorem w_pop {i : Nat} {es : List E} : wE cw gu pk (.mth .pop (.var i) es) env Q = (isL (lk env i) = true ∧ wEs cw gu false es env fun ds env => mv .pop (lk env i) i (ds.map Sl.u) env Q) := w_mut nofun nofun
/-- a comprehension's turns, a for's, a while's: by their code -/
def wCm (cw : Str → List U → PT) (gu : Str → Option U) (elt : E) (c : Option E) (t : T) (env : UEnv) (us acc : List U) (Q : List U → Prop) : Prop := wComp (fun env Q => wE cw gu false elt env Q) (fun env Q => wC cw gu c env Q) t env us acc Q
def wF (cw : Str → List U → PT) (gu : Str → Option U) (b : List S) (t : T) (us : List U) (env : UEnv) (K : FU → UEnv → Prop) : Prop := wFor (fun env Q => wSs cw gu b env Q) t us env K
def wW (cw : Str → List U → PT) (gu : Str → Option U) (c : E) (b : List S) (n : Nat) (env : UEnv) (K : FU → UEnv → Prop) : Prop := wWhl (fun env Q => wE cw gu true c env Q) (fun env Q => wSs cw gu b env Q) n env K
@[simp] theorem w_comp {own : List Nat} {t : T} {it : Ev.It} {elt : E} {c : Option E} : wE cw gu pk (.comp own t it elt c) env Q = wI cw gu it env fun us env =>
      wCm cw gu elt c t (wipeU env own) us [] fun acc => Q (.own (.lst acc)) env := by rw [wE]; rfl
@[simp] theorem ws_nil {Q : List Sl → UEnv → Prop} : wEs cw gu pk [] env Q = Q [] env := by rw [wEs]
@[simp] theorem ws_cons {e : E} {es : List E} {Q : List Sl → UEnv → Prop} : wEs cw gu pk (e :: es) env Q = wE cw gu pk e env fun d env => wEs cw gu pk es env fun ds env => Q (if e.isStar then d.u.spl.map Sl.val ++ ds else d :: ds) env := by rw [wEs]
@[simp] theorem wo_none {Q : Option Int → UEnv → Prop} : wO cw gu none env Q = Q none env := by rw [wO]
@[simp] theorem wo_some {e : E} {Q : Option Int → UEnv → Prop} : wO cw gu (some e) env Q = wE cw gu true e env fun x env => match x.u with
    | .int i => Q (some i) env
    | _ => False := by first | (rw [wO]; done) | (rw [wO]; rfl)
@[simp] theorem wc_none : wC cw gu none env Q = Q (.val (.bl true)) env := by rw [wC]
@[simp] theorem wc_some {e : E} : wC cw gu (some e) env Q = wE cw gu false e env Q := by rw [wC]
@[simp] theorem wi_range1 {a : E} {Q : List U → UEnv → Prop} : wI cw gu (.range1 a) env Q = wE cw gu true a env fun x env => match x.u with
    | .int hi => ok (rangeU 0 hi) fun us => Q us env
    | _ => False := by first | (rw [wI]; done) | (rw [wI]; rfl)
@[simp] theorem wi_range2 {a b : E} {Q : List U → UEnv → Prop} : wI cw gu (.range2 a b) env Q = wE cw gu true a env fun x env => wE cw gu true b env fun y env => match x.u, y.u with
    | .int lo, .int hi => ok (rangeU lo hi) fun us => Q us env
    | _, _ => False := by first | (rw [wI]; done) | (rw [wI]; rfl)
@[simp] theorem wi_items {a : E} {Q : List U → UEnv → Prop} : wI cw gu (.items a) env Q = wE cw gu false a env fun x env => ok (itemsOfU x.u) fun us => Q us env := by rw [wI]
@[simp] theorem wi_seq {a : E} {Q : List U → UEnv → Prop} : wI cw gu (.seq a) env Q = wE cw gu false a env fun x env => ok (seqU x.u) fun us => Q us env := by rw [wI]

variable {K : FU → UEnv → Prop}
/-- one behind the other; a loop's turn; a def's end -/
def sq (k : UEnv → Prop) (K : FU → UEnv → Prop) (r : FU) (env : UEnv) : Prop := match r with
  | .nx => k env
  | f => K f env
def lp (k : UEnv → Prop) (K : FU → UEnv → Prop) (r : FU) (env : UEnv) : Prop := match r with
  | .nx => k env
  | .ct => k env
  | .bk => K .nx env
  | .rt v => K (.rt v) env
def rtn (Q : U → Prop) (r : FU) (_ : UEnv) : Prop := match r with
  | .rt u => Q u
  | .nx => Q .non
  | _ => False
@[simp] theorem sq_nx {k : UEnv → Prop} : sq k K .nx env = k env := rfl
@[simp] theorem sq_rt {k : UEnv → Prop} {u : U} : sq k K (.rt u) env = K (.rt u) env := rfl
@[simp] theorem sq_bk {k : UEnv → Prop} : sq k K .bk env = K .bk env := rfl
@[simp] theorem sq_ct {k : UEnv → Prop} : sq k K .ct env = K .ct env := rfl
@[simp] theorem lp_nx {k : UEnv → Prop} : lp k K .nx env = k env := rfl
@[simp] theorem lp_rt {k : UEnv → Prop} {u : U} : lp k K (.rt u) env = K (.rt u) env := rfl
@[simp] theorem lp_bk {k : UEnv → Prop} : lp k K .bk env = K .nx env := rfl
@[simp] theorem lp_ct {k : UEnv → Prop} : lp k K .ct env = k env := rfl
@[simp] theorem rtn_rt {Q : U → Prop} {u : U} : rtn Q (.rt u) env = Q u := rfl
@[simp] theorem rtn_nx {Q : U → Prop} : rtn Q .nx env = Q .non := rfl
/-- assigned -/
def asg (t : T) (r : Sl) (env : UEnv) (K : FU → UEnv → Prop) : Prop := ok (setTU t r env) fun env => K .nx env
@[simp] theorem asg_nm {i : Nat} {r : Sl} : asg (.nm i) r env K = K .nx (env.set i r) := by simp [asg, setTU]
@[simp] theorem asg_tp {ts : List T} {us : List U} : asg (.tp ts) (.val (.tup us)) env K = ok (setTsU ts us env) fun env => K .nx env := by simp [asg, setTU, itemsU]
@[simp] theorem asg_tl {ts : List T} {us : List U} : asg (.tp ts) (.own (.lst us)) env K = ok (setTsU ts us env) fun env => K .nx env := by simp [asg, setTU, itemsU]
@[simp] theorem asg_tv {ts : List T} {us : List U} : asg (.tp ts) (.val (.lst us)) env K = ok (setTsU ts us env) fun env => K .nx env := by simp [asg, setTU, itemsU]
@[simp] theorem asg_tI {ts : List T} {xs : List Int} : asg (.tp ts) (.val (.tup (xs.map U.int))) env K = ok (setTsU ts (xs.map U.int) env) fun env => K .nx env := asg_tp
@[simp] theorem st_nil : setTsU [] [] env = some env := by rw [setTsU]
@[simp] theorem st_cons {t : T} {ts : List T} {u : U} {us : List U} : setTsU (t :: ts) (u :: us) env = (setTU t (.val u) env).bind fun env => setTsU ts us env := by rw [setTsU]
@[simp] theorem st_nm {i : Nat} {r : Sl} : setTU (.nm i) r env = some (env.set i r) := by rw [setTU]
@[simp] theorem st_tp {ts : List T} {us : List U} : setTU (.tp ts) (.val (.tup us)) env = setTsU ts us env := by rw [setTU]; rfl
@[simp] theorem st_tpl {ts : List T} {us : List U} : setTU (.tp ts) (.val (.lst us)) env = setTsU ts us env := by rw [setTU]; rfl
@[simp] theorem sl_nil : setSls [] [] env = some env := by rw [setSls]
@[simp] theorem sl_cons {i : Nat} {ts : List T} {r : Sl} {rs : List Sl} : setSls (.nm i :: ts) (r :: rs) env = setSls ts rs (env.set i r) := by rw [setSls]
@[simp] theorem z_nm {i : Nat} {e : E} : wS cw gu (.asg (.nm i) e) env K = wE cw gu false e env fun d env => K .nx (env.set i d) := by
  rw [wS_asg_nm]; simp
def isTp : E → Bool
  | .tup _ => true
  | _ => false
theorem z_tp {ts : List T} {e : E} (h : isTp e = false) : wS cw gu (.asg (.tp ts) e) env K = wE cw gu false e env fun d env => asg (.tp ts) d env K := by
  rw [wS.eq_def]
  cases e <;> first | rfl | cases h
@[simp] theorem z_tp_call {ts : List T} {f : Str} {es : List E} : wS cw gu (.asg (.tp ts) (.call f es)) env K = wE cw gu false (.call f es) env fun d env => asg (.tp ts) d env K := z_tp rfl
@[simp] theorem z_tp_var {ts : List T} {i : Nat} : wS cw gu (.asg (.tp ts) (.var i)) env K = wE cw gu false (.var i) env fun d env => asg (.tp ts) d env K := z_tp rfl
@[simp] theorem z_tp_idx {ts : List T} {a b : E} : wS cw gu (.asg (.tp ts) (.idx a b)) env K = wE cw gu false (.idx a b) env fun d env => asg (.tp ts) d env K := z_tp rfl
@[simp] theorem z_tp_comp {ts : List T} {own : List Nat} {t : T} {it : Ev.It} {elt : E} {c : Option E} : wS cw gu (.asg (.tp ts) (.comp own t it elt c)) env K = wE cw gu false (.comp own t it elt c) env fun d env => asg (.tp ts) d env K := z_tp rfl
@[simp] theorem z_tps {ts : List T} {es : List E} (h : (nmAll ts && !es.any (·.isStar) && decide (es.length ≤ 1000)) = true) : wS cw gu (.asg (.tp ts) (.tup es)) env K = wEs cw gu false es env fun ds env => ok (setSls ts ds env) fun env => K .nx env := by
  rw [wS, if_pos h]
/-- stored at a place -/
def sti (sl : Sl) (j : Nat) (k d : U) (env : UEnv) (K : FU → UEnv → Prop) : Prop := match sl with
  | .own x => ok (setU x k d) fun x => K .nx (env.set j (.own x))
  | _ => False
@[simp] theorem sti_own {x k d : U} {j : Nat} : sti (.own x) j k d env K = ok (setU x k d) fun x => K .nx (env.set j (.own x)) := rfl
@[simp] theorem z_seti {j : Nat} {i v : E} : wS cw gu (.seti (.var j) i v) env K = wE cw gu false v env fun d env => wE cw gu true i env fun k env => sti (lk env j) j k.u d.u env K := by
  rw [wS]
  show (wE cw gu false v env fun d env => wE cw gu true i env fun k env => match env[j]? with
      | some (.own x) => ok (setU x k.u d.u) fun x => K .nx (env.set j (.own x))
      | _ => False) = _
  congr 1
  funext d env
  congr 1
  funext k env
  unfold lk sti
  cases h : env[j]? with
  | none => rfl
  | some o => cases o <;> rfl
@[simp] theorem z_ex {e : E} : wS cw gu (.ex e) env K = wE cw gu true e env fun _ env => K .nx env := by rw [wS]
@[simp] theorem z_ret {e : E} : wS cw gu (.ret (some e)) env K = wE cw gu false e env fun d env => K (.rt d.u) env := by rw [wS]
@[simp] theorem z_retN : wS cw gu (.ret none) env K = K (.rt .non) env := by rw [wS]
@[simp] theorem z_ite {c : E} {a b : List S} : wS cw gu (.ite c a b) env K = wE cw gu true c env fun x env => br x.u (wSs cw gu a env K) (wSs cw gu b env K) := by rw [wS]; rfl
@[simp] theorem z_whl {c : E} {b : List S} : wS cw gu (.whl c b) env K = wW cw gu c b turnsMost env K := by rw [wS]; rfl
@[simp] theorem z_for {t : T} {it : Ev.It} {b : List S} : wS cw gu (.for t it b) env K = wI cw gu it env fun us env => wF cw gu b t us env K := by rw [wS]; rfl
@[simp] theorem z_brk : wS cw gu .brk env K = K .bk env := by rw [wS]
@[simp] theorem z_cnt : wS cw gu .cnt env K = K .ct env := by rw [wS]
@[simp] theorem z_pass : wS cw gu .pass env K = K .nx env := by rw [wS]
@[simp] theorem zs_nil : wSs cw gu [] env K = K .nx env := by rw [wSs]
@[simp] theorem zs_cons {st : S} {sts : List S} : wSs cw gu (st :: sts) env K = wS cw gu st env (sq (fun env => wSs cw gu sts env K) K) := by rw [wSs]; rfl
end
/-! ops -/
section
variable {i j : Int} {a b us : List U} {x y : U} {kvs : List (D × U)}
@[simp] theorem b_add : binU .Add (.int i) (.int j) = some (.val (.int (i + j))) := rfl
@[simp] theorem b_sub : binU .Sub (.int i) (.int j) = some (.val (.int (i - j))) := rfl
@[simp] theorem b_mul : binU .Mult (.int i) (.int j) = if mulOk i j = true then some (.val (.int (i * j))) else none := rfl
@[simp] theorem b_fdiv : binU .FloorDiv (.int i) (.int j) = if divOk j = true then some (.val (.int (i.fdiv j))) else none := rfl
@[simp] theorem b_mod : binU .Mod (.int i) (.int j) = if divOk j = true then some (.val (.int (i.fmod j))) else none := rfl
@[simp] theorem b_tup : binU .Add (.tup a) (.tup b) = newTU (a ++ b) := rfl
@[simp] theorem b_lst : binU .Add (.lst a) (.lst b) = newLU (a ++ b) := rfl
theorem newTU_le (h : us.length ≤ L) : newTU us = some (.val (.tup us)) := by rw [newTU, if_pos h]
theorem newLU_le (h : us.length ≤ L) : newLU us = some (.own (.lst us)) := by rw [newLU, if_pos h]
@[simp] theorem newTU_0 : newTU [] = some (.val (.tup [])) := rfl
@[simp] theorem newTU_1 : newTU [x] = some (.val (.tup [x])) := rfl
@[simp] theorem newTU_2 : newTU [x, y] = some (.val (.tup [x, y])) := rfl
@[simp] theorem newTU_3 {z : U} : newTU [x, y, z] = some (.val (.tup [x, y, z])) := rfl
@[simp] theorem newTU_4 {z w : U} : newTU [x, y, z, w] = some (.val (.tup [x, y, z, w])) := rfl
@[simp] theorem newLU_0 : newLU [] = some (.own (.lst [])) := rfl
@[simp] theorem newLU_1 : newLU [x] = some (.own (.lst [x])) := rfl
@[simp] theorem newLU_2 : newLU [x, y] = some (.own (.lst [x, y])) := rfl
@[simp] theorem newLU_3 {z : U} : newLU [x, y, z] = some (.own (.lst [x, y, z])) := rfl
@[simp] theorem newLU_4 {z w : U} : newLU [x, y, z, w] = some (.own (.lst [x, y, z, w])) := rfl
@[simp] theorem pairUpU_0 : pairUpU [] [] = some [] := by rw [pairUpU]
@[simp] theorem toU_int : (D.int i).toU = .int i := by rw [D.toU]
@[simp] theorem toU_bl {b : Bool} : (D.bl b).toU = .bl b := by rw [D.toU]
@[simp] theorem toU_str {t : Str} : (D.str t).toU = .str t := by rw [D.toU]
@[simp] theorem toU_non : D.non.toU = .non := by rw [D.toU]
@[simp] theorem c_lt : cmpU .Lt (.int i) (.int j) = some (decide (i < j)) := rfl
@[simp] theorem c_le : cmpU .LtE (.int i) (.int j) = some (decide (i ≤ j)) := rfl
@[simp] theorem c_gt : cmpU .Gt (.int i) (.int j) = some (decide (j < i)) := rfl
@[simp] theorem c_ge : cmpU .GtE (.int i) (.int j) = some (decide (j ≤ i)) := rfl
@[simp] theorem c_eq : cmpU .Eq x y = eqU x y := rfl
@[simp] theorem c_ne : cmpU .NotEq x y = (eqU x y).map (!·) := rfl
@[simp] theorem c_in : cmpU .In x y = inU x y := rfl
@[simp] theorem c_nin : cmpU .NotIn x y = (inU x y).map (!·) := rfl
@[simp] theorem c_is : cmpU .Is x .non = some (isNonU x) := rfl
@[simp] theorem c_isn : cmpU .IsNot x .non = some (!isNonU x) := rfl
@[simp] theorem l_tup : bifU .len [.tup us] = some (.val (.int us.length)) := rfl
@[simp] theorem l_lst : bifU .len [.lst us] = some (.val (.int us.length)) := rfl
@[simp] theorem l_dct : bifU .len [.dct kvs] = some (.val (.int kvs.length)) := rfl
@[simp] theorem l_int : bifU .int [.int i] = some (.val (.int i)) := rfl
@[simp] theorem l_bl {b : Bool} : bifU .int [.bl b] = some (.val (.int (if b then 1 else 0))) := rfl
@[simp] theorem l_abs : bifU .abs [.int i] = some (.val (.int i.natAbs)) := rfl
@[simp] theorem l_tt : bifU .tuple [.tup us] = some (.val (.tup us)) := rfl
@[simp] theorem l_tl : bifU .tuple [.lst us] = some (.val (.tup us)) := rfl
@[simp] theorem l_lt : bifU .list [.tup us] = some (.own (.lst us)) := rfl
@[simp] theorem l_ll : bifU .list [.lst us] = some (.own (.lst us)) := rfl
@[simp] theorem l_sl : bifU .sorted [.lst us] = (sortU us).map fun us => .own (.lst us) := rfl
@[simp] theorem l_st : bifU .sorted [.tup us] = (sortU us).map fun us => .own (.lst us) := rfl
@[simp] theorem l_sd : bifU .sorted [.dct kvs] = (sortU (keysU kvs)).map fun us => .own (.lst us) := rfl
@[simp] theorem l_sum : bifU .sum [.lst us] = (intsU us).map fun is => .val (.int is.sum) := rfl
@[simp] theorem l_all : bifU .all [.lst us] = (boolsU us).map fun bs => .val (.bl (bs.all id)) := rfl
@[simp] theorem l_any : bifU .any [.lst us] = (boolsU us).map fun bs => .val (.bl (bs.any id)) := rfl
@[simp] theorem l_max : bifU .max [.int i, .int j] = some (.val (.int (if i < j then j else i))) := rfl
@[simp] theorem l_min : bifU .min [.int i, .int j] = some (.val (.int (if j < i then j else i))) := rfl
@[simp] theorem l_repr : bifU .repr [x] = (reprU x).map fun t => .val (.str t) := rfl
@[simp] theorem l_dt : bifU .dict [.tup us] = dictOfU us := rfl
@[simp] theorem l_dl : bifU .dict [.lst us] = dictOfU us := rfl
@[simp] theorem ix_tup : idxU (.tup us) (.int i) = L2.atI us i := rfl
@[simp] theorem ix_lst : idxU (.lst us) (.int i) = L2.atI us i := rfl
@[simp] theorem sl_tup {lo hi : Option Int} : slcU (.tup us) lo hi = some (.val (.tup (cutU us lo hi))) := rfl
@[simp] theorem sl_lst {lo hi : Option Int} : slcU (.lst us) lo hi = some (.own (.lst (cutU us lo hi))) := rfl
@[simp] theorem rv_tup : revU (.tup us) = some (.val (.tup us.reverse)) := rfl
@[simp] theorem rv_lst : revU (.lst us) = some (.own (.lst us.reverse)) := rfl
@[simp] theorem it_tup : itemsU (.tup us) = some us := rfl
@[simp] theorem it_lst : itemsU (.lst us) = some us := rfl
@[simp] theorem sq_tup : seqU (.tup us) = some us := rfl
@[simp] theorem sq_lst : seqU (.lst us) = some us := rfl
@[simp] theorem sq_dct : seqU (.dct kvs) = some (keysU kvs) := rfl
@[simp] theorem io_dct : itemsOfU (.dct kvs) = some (kvs.map fun kv => .tup [kv.1.toU, kv.2]) := rfl
@[simp] theorem m_app : mutU .append us [x] = if us.length < L then some (.non, us ++ [x]) else none := rfl
@[simp] theorem m_ext : mutU .extend us [.lst a] = if us.length + a.length ≤ L then some (.non, us ++ a) else none := rfl
@[simp] theorem m_pop : mutU .pop us [] = us.getLast?.map fun u => (u, us.dropLast) := rfl
@[simp] theorem m_popi : mutU .pop us [.int i] = (ixD us.length i).bind fun j => us[j]?.map fun u => (u, us.eraseIdx j) := rfl
@[simp] theorem mpk_a : Mt.append.pk = false := rfl
@[simp] theorem mpk_e : Mt.extend.pk = true := rfl
@[simp] theorem mpk_p : Mt.pop.pk = false := rfl
/-! tuples of ints -/
def tI (xs : List Int) : U := .tup (xs.map .int)
@[simp high] theorem newTU_n : newTU [] = some (.val (tI [])) := rfl
@[simp high] theorem newTU_i {i : Int} : newTU [.int i] = some (.val (tI [i])) := rfl
@[simp] theorem tup_nil : U.tup [] = tI [] := rfl
@[simp] theorem tup_one {i : Int} : U.tup [.int i] = tI [i] := rfl
theorem dataFs_ints (n : Nat) : ∀ xs : List Int, U.dataFs n (xs.map .int) = some (xs.map .int)
  | [] => by rw [List.map_nil, U.dataFs]; rfl
  | x :: xs => by rw [List.map_cons, U.dataFs, dataFs_ints n xs, U.dataF]; rfl
@[simp] theorem data_tI (xs : List Int) : (tI xs).data = some (.tuple (xs.map .int)) := by
  rw [tI, U.data, U.dataF, dataFs_ints]; rfl
@[simp] theorem toDs_ints : ∀ xs : List Int, U.toDs (xs.map .int) = some (xs.map .int)
  | [] => by rw [List.map_nil, U.toDs]; rfl
  | x :: xs => by rw [List.map_cons, U.toDs, toDs_ints xs, U.toD]; rfl
@[simp] theorem toD_tI (xs : List Int) : (tI xs).toD = some (tupI xs) := by rw [tI, U.toD, toDs_ints]; rfl
@[simp] theorem toD_int (i : Int) : (U.int i).toD = some (.int i) := by rw [U.toD]
@[simp] theorem toD_str (i : Str) : (U.str i).toD = some (.str i) := by rw [U.toD]
theorem toUs_ints : ∀ xs : List Int, D.toUs (xs.map .int) = xs.map .int
  | [] => by rw [List.map_nil, D.toUs]; rfl
  | x :: xs => by rw [List.map_cons, D.toUs, toUs_ints xs, D.toU]; rfl
@[simp] theorem toU_tupI (xs : List Int) : (tupI xs).toU = tI xs := by rw [tupI, D.toU, toUs_ints]; rfl
@[simp] theorem eqU_int : eqU (.int i) (.int j) = some (decide (i = j)) := by
  unfold eqU
  simp [twoStrU, farU, U.data, U.dataF, PyData.canLay0, PyData.depth, PyData.eqv, deepMost]
  rfl
@[simp] theorem eqU_str {s t : Str} : eqU (.str s) (.str t) = some (decide (s = t)) := rfl
@[simp] theorem eqU_tI (a b : List Int) : eqU (tI a) (tI b) = some (decide (a = b)) := by
  unfold eqU
  have h0 : twoStrU (tI a) (tI b) = none := rfl
  have h : farU (tI a) (tI b) = false := rfl
  rw [h0, h]
  simp only [Bool.false_eq_true, if_false, data_tI, Option.bind_some]
  have h1 : (PyData.tuple (a.map .int)).canLay0 = true := by rw [PyData.canLay0, canLay_ints]
  have h2 : (PyData.tuple (b.map .int)).canLay0 = true := by rw [PyData.canLay0, canLay_ints]
  have h3 : (PyData.tuple (a.map .int)).depth = 1 := by rw [PyData.depth, depth_ints]
  have h4 : (PyData.tuple (b.map .int)).depth = 1 := by rw [PyData.depth, depth_ints]
  rw [h1, h2, h3, h4]
  simp [deepMost, PyData.eqv, eqv_ints]
@[simp] theorem ix_tI {xs : List Int} : idxU (tI xs) (.int i) = L2.atI (xs.map U.int) i := rfl
@[simp] theorem l_tI {xs : List Int} : bifU .len [tI xs] = some (.val (.int xs.length)) := by
  show some (Sl.val (.int ((xs.map U.int).length : Nat))) = _
  rw [List.length_map]
theorem sq_tI {xs : List Int} : seqU (tI xs) = some (xs.map .int) := rfl
theorem it_tI {xs : List Int} : itemsU (tI xs) = some (xs.map .int) := rfl
theorem rv_tI {xs : List Int} : revU (tI xs) = some (.val (tI xs.reverse)) := by
  show some (Sl.val (.tup (xs.map U.int).reverse)) = _
  rw [← List.map_reverse]; rfl
theorem cutU_map {xs : List Int} {lo hi : Option Int} : cutU (xs.map .int) lo hi = ((xs.drop (HT.sIx xs.length 0 lo)).take (HT.sIx xs.length xs.length hi - HT.sIx xs.length 0 lo)).map .int := by
  simp [cutU, List.map_take, List.map_drop]
theorem sl_tI {xs : List Int} {lo hi : Option Int} : slcU (tI xs) lo hi = some (.val (tI ((xs.drop (HT.sIx xs.length 0 lo)).take (HT.sIx xs.length xs.length hi - HT.sIx xs.length 0 lo)))) := by
  show some (Sl.val (.tup (cutU (xs.map U.int) lo hi))) = _
  rw [cutU_map]; rfl
theorem add_tI {a b : List Int} (h : a.length + b.length ≤ L) : binU .Add (tI a) (tI b) = some (.val (tI (a ++ b))) := by
  show newTU (a.map U.int ++ b.map U.int) = _
  rw [newTU_le (by simpa using h), ← List.map_append]; rfl
theorem dataFs_tIs (n : Nat) : ∀ l : List (List Int), U.dataFs n (l.map tI) = some (l.map fun a => .tuple (a.map .int))
  | [] => by rw [List.map_nil, U.dataFs]; rfl
  | a :: l => by
    rw [List.map_cons, U.dataFs, dataFs_tIs n l, tI, U.dataF, dataFs_ints]
    rfl
theorem tI_inj {a b : List Int} (h : tI a = tI b) : a = b := by
  unfold tI at h
  exact List.map_inj_right (fun x y e => U.int.inj e) |>.mp (U.tup.inj h)
theorem sortU_tIs (l : List (List Int)) : sortU (l.map tI) = some ((sortI l).map tI) := by
  have h := sortD_tups [] l
  unfold sortD dataAll at h
  unfold sortU dataAllU
  rw [dataWs_tups] at h
  rw [dataFs_tIs]
  simp only [Option.bind_some] at h ⊢
  split at h
  rotate_left
  · cases h
  rename_i hc
  rw [if_pos hc]
  congr 1
  have hz : (l.map tI).zip (l.map fun a => PyData.tuple (a.map .int)) = l.map fun a => (tI a, PyData.tuple (a.map .int)) := by
    clear h hc
    induction l with
    | nil => rfl
    | cons a l ih => rw [List.map_cons, List.map_cons, List.zip_cons_cons, ih, List.map_cons]
  rw [hz, sortI]
  rw [← List.map_mergeSort (r := leI) (s := fun p q : U × PyData => !PySem.W.dataLt q.2 p.2) (f := fun a => (tI a, PyData.tuple (a.map .int)))]
  · rw [List.map_map]
    rfl
  · intro a _ b _
    show leI a b = !PySem.W.dataLt (.tuple (b.map .int)) (.tuple (a.map .int))
    rw [PySem.W.dataLt_tuple]
    have := PySem.W.dataLt_ints b a
    unfold PySem.W.rowLt at this
    rw [this]
    unfold leI
    by_cases h : b < a
    · have h' : ¬ a ≤ b := fun z => List.not_lt.mpr z h
      simp [h, h']
    · have h' : a ≤ b := List.not_lt.mp h
      simp [h, h']
theorem intsU_map (xs : List Int) : intsU (xs.map .int) = some xs := by
  induction xs with
  | nil => rfl
  | cons x xs ih => rw [List.map_cons, intsU, ih]; rfl
theorem boolsU_map (xs : List Bool) : boolsU (xs.map .bl) = some xs := by
  induction xs with
  | nil => rfl
  | cons x xs ih => rw [List.map_cons, boolsU, ih]; rfl
theorem atI_map {α β : Type} (f : α → β) {xs : List α} {i : Int} : L2.atI (xs.map f) i = (L2.atI xs i).map f := by
  unfold L2.atI
  rw [List.length_map]
  cases L2.ixN xs.length i <;> simp
theorem atI_get {α : Type} {xs : List α} {n : Nat} (h : n < xs.length) : L2.atI xs (n : Int) = some xs[n] := L2.atI_nat (List.getElem?_eq_getElem h)
end
/-! dicts keyed by tuples of ints -/
section
variable {α : Type} (f : α → U) (m : List (List Int × α)) (x : List Int)
def uI : List (D × U) := m.map fun p => (tupI p.1, f p.2)
theorem keyFits_uI : keyFitsU (uI f m) (tupI x) = true := by
  have := keyFits_dI (fun _ : α => D.non) m x
  rw [keyFits_kf] at this
  unfold keyFitsU
  rw [← this]
  simp only [uI, dI, List.map_map]
  rfl
theorem dgetU_uI : dgetU (uI f m) (tupI x) = (lkI m x).map f := by
  unfold dgetU lkI uI
  induction m with
  | nil => rfl
  | cons p m ih =>
    rw [List.map_cons]
    by_cases h : p.1 = x
    · simp [h]
    · have h' : ¬ tupI p.1 = tupI x := fun z => h (tupI_inj z)
      simp only [List.find?_cons, decide_eq_false h, decide_eq_false h']
      exact ih
theorem dputU_uI (c : α) : dputU (uI f m) (tupI x) (f c) = uI f (puI m x c) := by
  have hany : ((uI f m).any fun kv => decide (kv.1 = tupI x)) = (m.any fun p => decide (p.1 = x)) := by
    unfold uI
    rw [List.any_map]
    congr 1
    funext p
    simp only [Function.comp]
    by_cases h : p.1 = x
    · simp [h]
    · rw [decide_eq_false h, decide_eq_false fun z => h (tupI_inj z)]
  unfold dputU puI
  rw [hany]
  split
  · unfold uI
    rw [List.map_map, List.map_map]
    refine List.map_congr_left fun p _ => ?_
    simp only [Function.comp]
    by_cases h : p.1 = x
    · rw [if_pos h, if_pos (by rw [h])]
    · rw [if_neg h, if_neg fun z => h (tupI_inj z)]
  · unfold uI
    rw [List.map_append]
    rfl
theorem uI_len : (uI f m).length = m.length := by simp [uI]
@[simp] theorem get_uI {d : U} : getU (.dct (uI f m)) (tI x) d = some (((lkI m x).map f).getD d) := by
  rw [getU, toD_tI, Option.bind_some, keyFits_uI, if_pos rfl, dgetU_uI]
@[simp] theorem idx_uI : idxU (.dct (uI f m)) (tI x) = (lkI m x).map f := by
  show ((tI x).toD.bind fun k => if keyFitsU (uI f m) k = true then dgetU (uI f m) k else none) = _
  rw [toD_tI, Option.bind_some, keyFits_uI, if_pos rfl, dgetU_uI]
theorem set_uI {c : α} (h : m.length < L) : setU (.dct (uI f m)) (tI x) (f c) = some (.dct (uI f (puI m x c))) := by
  show ((tI x).toD.bind fun k => if (keyFitsU (uI f m) k && decide ((uI f m).length < L)) = true then some (U.dct (dputU (uI f m) k (f c))) else none) = _
  rw [toD_tI, Option.bind_some, keyFits_uI, uI_len, decide_eq_true h, Bool.and_self, if_pos rfl, dputU_uI]
@[simp] theorem in_uI : inU (tI x) (.dct (uI f m)) = some (lkI m x).isSome := by
  rw [inU, toD_tI, Option.bind_some, keyFits_uI, if_pos rfl, dgetU_uI]
  cases lkI m x <;> rfl
theorem keys_uI : keysU (uI f m) = m.map fun p => tI p.1 := by
  simp only [keysU, uI, List.map_map]
  refine List.map_congr_left fun p _ => ?_
  simp
end
/-! loops -/
section
variable {cw : Str → List U → PT} {gu : Str → Option U} {elt e : E} {c : Option E} {b : List S} {t : T} {env : UEnv}
theorem cm_nil {acc : List U} {Q : List U → Prop} : wCm cw gu elt c t env [] acc Q = Q acc := by rw [wCm, wComp]
theorem cm_cons {u : U} {us acc : List U} {Q : List U → Prop} : wCm cw gu elt c t env (u :: us) acc Q = ok (setTU t (.val u) env) fun env1 => wC cw gu c env1 fun b env2 => env2 = env1 ∧ br b.u (wE cw gu false elt env1 fun x env2 => env2 = env1 ∧ wCm cw gu elt c t env us (acc ++ [x.u]) Q) (wCm cw gu elt c t env us acc Q) := by
  rw [wCm, wComp]; rfl
theorem f_nil {K : FU → UEnv → Prop} : wF cw gu b t [] env K = K .nx env := by rw [wF, wFor]
theorem f_cons {u : U} {us : List U} {K : FU → UEnv → Prop} : wF cw gu b t (u :: us) env K = ok (setTU t (.val u) env) fun env => wSs cw gu b env (lp (fun env => wF cw gu b t us env K) K) := by
  rw [wF, wFor]; rfl
theorem w_step {n : Nat} {K : FU → UEnv → Prop} : wW cw gu e b (n + 1) env K = wE cw gu true e env fun x env => br x.u (wSs cw gu b env (lp (fun env => wW cw gu e b n env K) K)) (K .nx env) := by
  rw [wW, wWhl]; rfl
theorem comp_det {α : Type} (it val : α → U) (keep : α → Bool) {Q : List U → Prop} : ∀ (xs : List α) (acc : List U),
    (∀ x ∈ xs, ∃ env1, setTU t (.val (it x)) env = some env1 ∧ (∀ R : Sl → UEnv → Prop, wC cw gu c env1 R = R (.val (.bl (keep x))) env1) ∧ (keep x = true → ∃ sl : Sl, sl.u = val x ∧ ∀ R : Sl → UEnv → Prop, wE cw gu false elt env1 R = R sl env1)) →
    wCm cw gu elt c t env (xs.map it) acc Q = Q (acc ++ (xs.filter keep).map val)
  | [], acc, _ => by simp [cm_nil]
  | x :: xs, acc, h => by
    obtain ⟨env1, h1, h2, h3⟩ := h x (List.mem_cons_self ..)
    rw [List.map_cons, cm_cons, h1, ok_some, h2]
    simp only [true_and, u_val, br_bl]
    cases hk : keep x with
    | false =>
      simp only [Bool.false_eq_true, if_false]
      rw [comp_det it val keep xs acc fun y hy => h y (List.mem_cons_of_mem _ hy)]
      simp [hk]
    | true =>
      obtain ⟨sl, h4, h5⟩ := h3 hk
      simp only [if_true]
      rw [h5]
      simp only [true_and]
      rw [comp_det it val keep xs _ fun y hy => h y (List.mem_cons_of_mem _ hy), h4]
      simp [hk]
/-- all are kept -/
theorem comp_map {α : Type} (it val : α → U) {Q : List U → Prop} (xs : List α) (acc : List U)
    (h : ∀ x ∈ xs, ∃ env1, setTU t (.val (it x)) env = some env1 ∧ (∀ R : Sl → UEnv → Prop, wC cw gu c env1 R = R (.val (.bl true)) env1) ∧ (∃ sl : Sl, sl.u = val x ∧ ∀ R : Sl → UEnv → Prop, wE cw gu false elt env1 R = R sl env1)) :
    wCm cw gu elt c t env (xs.map it) acc Q = Q (acc ++ xs.map val) := by
  rw [comp_det it val (fun _ => true) xs acc fun x hx => by
    obtain ⟨env1, a, b, d⟩ := h x hx
    exact ⟨env1, a, b, fun _ => d⟩]
  rw [List.filter_eq_self.2 fun _ _ => rfl]
/-- by what holds of what is left and what is made -/
theorem comp_inv (I : List U → List U → Prop) {Q : List U → Prop} : ∀ (us acc : List U), I us acc → (∀ acc, I [] acc → Q acc) →
    (∀ u us acc (R : List U → Prop), I (u :: us) acc → (∀ acc', I us acc' → R acc') → ok (setTU t (.val u) env) fun env1 => wC cw gu c env1 fun b env2 => env2 = env1 ∧ br b.u (wE cw gu false elt env1 fun x env2 => env2 = env1 ∧ R (acc ++ [x.u])) (R acc)) →
    wCm cw gu elt c t env us acc Q
  | [], acc, h, hq, _ => by rw [cm_nil]; exact hq acc h
  | u :: us, acc, h, hq, hs => by
    rw [cm_cons]
    exact hs u us acc (fun acc => wCm cw gu elt c t env us acc Q) h fun acc' h' => comp_inv I us acc' h' hq hs
theorem for_inv (I : List U → UEnv → Prop) {Q : FU → UEnv → Prop} : ∀ (us : List U) (env : UEnv), I us env → (∀ env, I [] env → Q .nx env) →
    (∀ u us env (R : FU → UEnv → Prop), I (u :: us) env → (∀ env', I us env' → R .nx env') → (∀ env', I us env' → R .ct env') → ok (setTU t (.val u) env) fun env => wSs cw gu b env R) →
    wF cw gu b t us env Q
  | [], env, h, hq, _ => by rw [f_nil]; exact hq env h
  | u :: us, env, h, hq, hs => by
    rw [f_cons]
    exact hs u us env _ h (fun env' h' => for_inv I us env' h' hq hs) fun env' h' => for_inv I us env' h' hq hs
theorem whl_inv (I : Nat → UEnv → Prop) {Q : FU → UEnv → Prop} (hs : ∀ n env (R : UEnv → Prop), I n env → (∀ m env', m < n → I m env' → R env') → wE cw gu true e env fun x env => br x.u (wSs cw gu b env (lp R Q)) (Q .nx env)) : ∀ (f n : Nat) (env : UEnv), n < f → I n env → wW cw gu e b f env Q
  | 0, n, env, hf, _ => by omega
  | f + 1, n, env, hf, h => by
    rw [w_step]
    exact hs n env (fun env => wW cw gu e b f env Q) h fun m env' hm hi => whl_inv I hs f m env' (by omega) hi
end
/-! calls -/
section
variable {tb : Str → Option Fd} {gu : Str → Option U} {prim : Str → Option (Nat → List U → PT)} {n : Nat} {f : Str} {fd : Fd} {us : List U} {Q : U → Prop}
theorem callT (h : prim f = none) (h' : tb f = some fd) (hl : us.length = fd.params) : callW tb gu prim (n + 1) f us Q = wSs (callW tb gu prim n) gu fd.body (us.map Sl.val ++ List.replicate (fd.slots - us.length) .no) (rtn Q) := by
  rw [callW, h]
  simp only [h', hl, true_and, wBody]
  rfl
theorem callPr {P : Nat → List U → PT} (h : prim f = some P) : callW tb gu prim (n + 1) f us Q = P n us Q := by
  rw [callW, h]
end
end Ev
end

section
set_option autoImplicit false
set_option linter.unusedVariables false
set_option linter.unusedSimpArgs false
/-! U10: a law -/
namespace Ev
open PySem

/-- the law's first step makes the source; then the rest is a run of values -/
theorem law_of {SP : SPr} {tb : Str → Option Fd} {gu : Str → Option U} {gl : Str → Option D} {prim : Str → Option (Nat → List U → PT)} (hsafe : ∀ f fd, tb f = some fd → S.safes fd.body = true) (hg : GU gu gl) (hp : PrimOk SP tb gl prim)
    {n slots : Nat} {opn : Str} {rest : List S} (htb : tb "law" = some ⟨1, slots + 2, .asg (.nm 1) (.call opn [.var 0]) :: rest⟩) {ns : List Int} {r i : Nat} {sub : Sto} (hr : r < sub.length) (hi : i < sub.length)
    (hop : callD tb gl n opn [.scr ns] [] = some (.ref r, sub)) (hs : SP.P r i sub)
    (hw : wSs (callW tb gu prim n) gu rest (.val (.scr ns) :: .val .src :: List.replicate slots .no) fun f _ => f = .rt (.bl true)) :
    callD tb gl (n + 1) "law" [.scr ns] [] = some (.bl true, []) := by
  have hsf := hsafe _ _ htb
  simp only [S.safes, Bool.and_eq_true] at hsf
  have st : St SP (some (r, i)) (fun j => j < sub.length) (fun _ => none) sub (.val (.scr ns) :: .val .src :: List.replicate slots .no) (some (.scr ns) :: some (.ref r) :: List.replicate slots none) := by
    refine ⟨by simp, fun a b e => by cases e; exact hs, fun j z => z, fun j ⟨a, b, e, z⟩ => by cases e; rcases z with rfl | rfl <;> assumption, fun k sl e => ?_, nofun, nofun⟩
    match k with
    | 0 => simp only [List.getElem?_cons_zero] at e; cases e; exact ⟨_, rfl, .scr⟩
    | 1 => simp only [List.getElem?_cons_succ, List.getElem?_cons_zero] at e; cases e; exact ⟨_, rfl, .src rfl⟩
    | k + 2 =>
      simp only [List.getElem?_cons_succ, List.getElem?_replicate] at e
      split at e
      · cases e; trivial
      · cases e
  obtain ⟨f, fl, env', denv', s', own', q1, rfl, q3, q4, q5⟩ := sSs (sc_all hsafe hg hp n) hg rest hsf.2 _ _ _ _ _ _ _ st hw
  cases q4 with
  | rt rr =>
    cases rr
    rw [callD, htb]
    simp only [List.length_singleton, if_true]
    have hpu : D.pures [.scr ns] = true := rfl
    rw [if_pos hpu]
    have e1 : evS (callD tb gl n) gl (.asg (.nm 1) (.call opn [.var 0])) (some (.scr ns) :: none :: List.replicate slots none) [] = some ((.nx, some (.scr ns) :: some (.ref r) :: List.replicate slots none), sub) := by
      simp [E.isStar, hop]
    have e2 : evSs (callD tb gl n) gl (.asg (.nm 1) (.call opn [.var 0]) :: rest) (some (.scr ns) :: none :: List.replicate slots none) [] = some ((.rt (.bl true), denv'), s') := by
      rw [q_step e1]; exact q1
    have e3 : bodyD (callD tb gl n) gl ⟨1, slots + 2, .asg (.nm 1) (.call opn [.var 0]) :: rest⟩ [.scr ns] [] = some (.bl true, s') := body_rt e2
    rw [e3]
    rfl
/-- a number below another one: whichever -/
def pickP (us : List U) (Q : U → Prop) : Prop := ∃ k : Int, us = [.src, .int k] ∧ 1 ≤ k ∧ k < 2 ^ 40 ∧ ∀ v : Int, 0 ≤ v → v < k → Q (.int v)
theorem pick_hl (us : List U) : Hl (pickP us) := by
  by_cases h : ∃ k : Int, us = [.src, .int k] ∧ 1 ≤ k ∧ k < 2 ^ 40
  · obtain ⟨k, rfl, h1, h2⟩ := h
    refine .inr ⟨fun r => ∃ v : Int, r = .int v ∧ 0 ≤ v ∧ v < k, ⟨.int 0, 0, rfl, by omega, by omega⟩, fun Q => ⟨?_, fun z => ⟨k, rfl, h1, h2, fun v a b => z _ ⟨v, rfl, a, b⟩⟩⟩⟩
    rintro ⟨k', e, _, _, z⟩ r ⟨v, rfl, a, b⟩
    cases e
    exact z v a b
  · exact .inl fun Q ⟨k, e, a, b, _⟩ => h ⟨k, e, a, b⟩
theorem gu_none {gl : Str → Option D} : GU (fun _ => none) gl := fun _ _ e => by cases e
end Ev
end

section
set_option autoImplicit false
set_option linter.unusedVariables false
/-! U11: shown -/
namespace Ev
open PySem

/-- has a text, of at most n signs; k lists and tuples within one another -/
def Sh (k n : Nat) (u : U) : Prop := ∃ x : PyData, (∀ f, k ≤ f → u.dataF f = some x) ∧ x.showable = true ∧ x.hasDict = false ∧ x.depth ≤ k ∧ x.shown.length ≤ n ∧ x.canLay0 = true ∧ x.eqv x = true
theorem Sh.more {k k' n n' : Nat} {u : U} (h : Sh k n u) (hk : k ≤ k') (hn : n ≤ n') : Sh k' n' u := by
  obtain ⟨x, a, b, c, d, e, g⟩ := h
  exact ⟨x, fun f hf => a f (by omega), b, c, by omega, by omega, g⟩
theorem Sh.repr {k n : Nat} {u : U} (h : Sh k n u) (hk : k ≤ 40) (hn : n ≤ 16777216) : ∃ t, reprU u = some t := by
  obtain ⟨x, a, b, c, d, e, _⟩ := h
  refine ⟨x.shown, ?_⟩
  unfold reprU U.data
  rw [a 40 hk]
  simp only [Option.bind_some]
  have h1 : x.depth ≤ deepMost := by unfold deepMost; omega
  have h2 : x.shown.length ≤ L := by unfold L; omega
  rw [b, c, decide_eq_true h1, decide_eq_true h2]
  rfl
theorem sh_int {i : Int} (h : i.natAbs < 10 ^ 60) : Sh 0 61 (.int i) := by
  refine ⟨.int i, fun f _ => by rw [U.dataF], ?_, ?_, ?_, ?_, by rw [PyData.canLay0] <;> simp, by rw [PyData.eqv]; simp⟩
  · rw [PyData.showable]
    have h2 : i.natAbs.log2 < 1920 := by
      by_cases h0 : i.natAbs = 0
      · rw [h0]; decide
      · rw [Nat.log2_lt h0]
        exact Nat.lt_of_lt_of_le h (Nat.le_trans (show 10 ^ 60 ≤ 2 ^ 200 by decide) (Nat.pow_le_pow_right (by decide) (by decide)))
    simp [h2]
  · rw [PyData.hasDict] <;> simp
  · rw [PyData.depth] <;> simp
  · rw [PyData.shown]
    have := int_text_length_le10 (a := i) (k := 60) (by decide) h
    rw [ofString_length]
    exact this
theorem sh_bl {b : Bool} : Sh 0 61 (.bl b) := by
  refine ⟨.bool b, fun f _ => by rw [U.dataF], ?_, ?_, ?_, ?_, by rw [PyData.canLay0] <;> simp, by rw [PyData.eqv]; simp⟩
  · rw [PyData.showable] <;> simp
  · rw [PyData.hasDict] <;> simp
  · rw [PyData.depth] <;> simp
  · rw [PyData.shown]; cases b <;> decide +kernel
theorem sh_non : Sh 0 61 .non := by
  refine ⟨.none, fun f _ => by rw [U.dataF], ?_, ?_, ?_, ?_, by rw [PyData.canLay0] <;> simp, by rw [PyData.eqv]⟩
  · rw [PyData.showable] <;> simp
  · rw [PyData.hasDict] <;> simp
  · rw [PyData.depth] <;> simp
  · rw [PyData.shown]; decide +kernel
theorem sh_all {k B : Nat} : ∀ {us : List U}, (∀ u ∈ us, Sh k B u) → ∃ xs : List PyData, (∀ f, k ≤ f → U.dataFs f us = some xs) ∧ xs.length = us.length ∧ PyData.showableAll xs = true ∧ PyData.hasDictAll xs = false ∧ PyData.depthAll xs ≤ k ∧ (∀ x ∈ xs, x.shown.length ≤ B) ∧ PyData.canLayAll0 xs = true ∧ PyData.eqvAll xs xs = true
  | [], _ => ⟨[], fun f _ => by rw [U.dataFs], rfl, rfl, rfl, by rw [PyData.depthAll]; omega, nofun, rfl, by rw [PyData.eqvAll]⟩
  | u :: us, h => by
    obtain ⟨x, a, b, c, d, e, g1, g2⟩ := h u (List.mem_cons_self ..)
    obtain ⟨xs, a', l, b', c', d', e', g1', g2'⟩ := sh_all (us := us) fun v hv => h v (List.mem_cons_of_mem _ hv)
    refine ⟨x :: xs, fun f hf => by rw [U.dataFs, a f hf, Option.bind_some, a' f hf]; rfl, by simp [l], by rw [PyData.showableAll, b, b']; rfl, by rw [PyData.hasDictAll, c, c']; rfl, by rw [PyData.depthAll]; omega, fun y hy => ?_, by rw [PyData.canLayAll0, g1, g1']; rfl, by rw [PyData.eqvAll, g2, g2']; rfl⟩
    rcases List.mem_cons.1 hy with rfl | hy
    · exact e
    · exact e' y hy
theorem shown_list {xs : List PyData} {B n : Nat} (hB : ∀ x ∈ xs, x.shown.length ≤ B) (hn : xs.length ≤ n) : (PyData.shown (.list xs)).length ≤ (B + 2) * n + 3 := by
  rw [PyData.shown]
  have h1 := listText_len_le (PyData.shownAll xs)
  have h2 : ((PyData.shownAll xs).map (·.length)).sum ≤ B * ((PyData.shownAll xs).map (·.length)).length := sum_le fun m hm => by
    obtain ⟨t, ht, rfl⟩ := List.mem_map.mp hm
    obtain ⟨x, hx, rfl⟩ := mem_shownAll ht
    exact hB x hx
  rw [List.length_map, shownAll_length] at h2
  rw [shownAll_length] at h1
  have h3 : B * xs.length ≤ B * n := Nat.mul_le_mul_left B hn
  have h4 : (B + 2) * n = B * n + 2 * n := Nat.add_mul ..
  omega
theorem sh_tup {k B m : Nat} {us : List U} (h : ∀ u ∈ us, Sh k B u) (hm : us.length ≤ m) : Sh (k + 1) ((B + 2) * m + 3) (.tup us) := by
  obtain ⟨xs, a, l, b, c, d, e, g1, g2⟩ := sh_all h
  refine ⟨.tuple xs, fun f hf => by rw [U.dataF, a f (by omega)]; rfl, by rw [PyData.showable]; exact b, by rw [PyData.hasDict]; exact c, by rw [PyData.depth]; omega, shown_tuple e (by omega), by rw [PyData.canLay0]; exact g1, by rw [PyData.eqv]; exact g2⟩
theorem sh_lst {k B m : Nat} {us : List U} (h : ∀ u ∈ us, Sh k B u) (hm : us.length ≤ m) : Sh (k + 1) ((B + 2) * m + 3) (.lst us) := by
  obtain ⟨xs, a, l, b, c, d, e, g1, g2⟩ := sh_all h
  refine ⟨.list xs, fun f hf => ?_, by rw [PyData.showable]; exact b, by rw [PyData.hasDict]; exact c, by rw [PyData.depth]; omega, shown_list e (by omega), by rw [PyData.canLay0]; exact g1, by rw [PyData.eqv]; exact g2⟩
  obtain ⟨g, rfl⟩ : ∃ g, f = g + 1 := ⟨f - 1, by omega⟩
  rw [U.dataF]
  simp only [a g (by omega), Option.map_some]
theorem sh_tI {m : Nat} {xs : List Int} (h : ∀ i ∈ xs, i.natAbs < 10 ^ 60) (hm : xs.length ≤ m) : Sh 1 (63 * m + 3) (tI xs) := by
  refine sh_tup (k := 0) (B := 61) (fun u hu => ?_) (by simpa using hm)
  obtain ⟨i, hi, rfl⟩ := List.mem_map.1 hu
  exact sh_int (h i hi)
/-- a thing is itself -/
theorem Sh.self {k n : Nat} {u : U} (h : Sh k n u) (hk : k ≤ 40) : eqU u u = some true := by
  obtain ⟨x, a, b, c, d, e, g1, g2⟩ := h
  have h1 : min x.depth x.depth ≤ deepMost := by unfold deepMost; omega
  unfold eqU
  split
  · rename_i p q hpq
    unfold twoStrU at hpq
    split at hpq
    · cases hpq; simp_all
    · cases hpq
  · have hf : farU u u = false := by cases u <;> simp [farU]
    rw [hf]
    unfold U.data
    rw [a 40 hk]
    simp only [Bool.false_eq_true, if_false, Option.bind_some, g1, g2, decide_eq_true h1, Bool.and_self, if_true]
theorem repr_same {u : U} {k n : Nat} (h : Sh k n u) (hk : k ≤ 40) (hn : n ≤ 16777216) (f : Str → Str → Prop) (hf : ∀ t, f t t) : ok (reprU u) fun s => ok (reprU u) fun t => f s t := by
  obtain ⟨t, e⟩ := h.repr hk hn
  rw [e]; simpa using hf t
end Ev
end

section
set_option autoImplicit false
set_option maxRecDepth 100000
set_option linter.unusedVariables false
open PySem L2 PySem.SeqAt PyProof.Rows PySem.Calls
namespace Ev
/-! the program by its code -/
namespace K
def top (i : Nat) : Stmt := PySem.Challenge.pw_ruledtrees_k10_whole_counts_of_left_tree.main.body.getD i (.Pass ⟨0, 0, 0, 0⟩)
def c_put : List S := [.ite (.or (.cmp .Eq (.var 0) (.tup [])) (.cmp .Eq (.var 1) (.tup []))) [.ret (some (.tup [(.star (.var 0)), (.star (.var 1))]))] [],
  .ret (some (.tup [(.neg (.lit (.int (1)))), (.star (.var 0)), (.star (.var 1))]))]
def c_end_at : List S := [.asg (.nm 2) (.lit (.int (1))),
  .whl (.cmp .Gt (.var 2) (.lit (.int (0)))) [.asg (.nm 2) (.bin .Add (.var 2) (.ite (.cmp .Eq (.idx (.var 0) (.var 1)) (.neg (.lit (.int (1))))) (.lit (.int (1))) (.neg (.lit (.int (1)))))),
  .asg (.nm 1) (.bin .Add (.var 1) (.lit (.int (1))))],
  .ret (some (.var 1))]
def c_sides_of : List S := [.asg (.nm 1) (.call (Str.ofString "end_at") [(.var 0), (.lit (.int (1)))]),
  .ret (some (.tup [(.slc (.var 0) (some (.lit (.int (1)))) (some (.var 1))), (.slc (.var 0) (some (.var 1)) none)]))]
def c_leaves_of : List S := [.ret (some (.bif .len [(.comp [1] (.nm 1) (.seq (.var 0)) (.var 1) (some (.cmp .NotEq (.var 1) (.neg (.lit (.int (1)))))))]))]
def c_left_tree : List S := [.asg (.tp [(.nm 3), (.nm 4)]) (.tup [(.lst []), (.call (Str.ofString "leaves_of") [(.var 0)])]),
  .for (.nm 2) (.seq (.rev (.var 0))) [.ite (.cmp .Eq (.var 2) (.neg (.lit (.int (1))))) [.asg (.nm 5) (.mth .pop (.var 3) []),
  .ex (.mth .append (.var 3) [(.call (Str.ofString "put") [(.var 5), (.mth .pop (.var 3) [])])])] [.asg (.nm 4) (.bin .Sub (.var 4) (.lit (.int (1)))),
  .ex (.mth .append (.var 3) [(.ite (.cmp .In (.var 4) (.var 1)) (.tup [(.var 2)]) (.tup []))])]],
  .ret (some (.ite (.cmp .NotEq (.var 3) (.lst [])) (.idx (.var 3) (.lit (.int (0)))) (.tup [])))]
def c_all_lots : List S := [.asg (.tp [(.nm 2), (.nm 3)]) (.tup [(.lst [(.tup [])]), (.lst [(.tup [])])]),
  .for (.nm 1) (.range1 (.var 0)) [.asg (.nm 4) (.lst []),
  .for (.nm 5) (.seq (.var 3)) [.ex (.mth .extend (.var 4) [(.comp [6] (.nm 6) (.range2 (.ite (.cmp .NotEq (.var 5) (.tup [])) (.bin .Add (.idx (.var 5) (.neg (.lit (.int (1))))) (.lit (.int (1)))) (.lit (.int (0)))) (.var 0)) (.tup [(.star (.var 5)), (.var 6)]) none)])],
  .asg (.nm 3) (.slc (.var 4) none none),
  .ex (.mth .extend (.var 2) [(.var 3)])],
  .ret (some (.var 2))]
def c_lots_of : List S := [.asg (.nm 2) (.comp [3] (.nm 3) (.seq (.call (Str.ofString "all_lots") [(.call (Str.ofString "leaves_of") [(.var 1)])])) (.var 3) (some (.cmp .Eq (.bif .len [(.var 3)]) (.call (Str.ofString "leaves_of") [(.var 0)])))),
  .ret (some (.bif .tuple [(.comp [3] (.nm 3) (.seq (.var 2)) (.var 3) (some (.cmp .Eq (.call (Str.ofString "left_tree") [(.var 1), (.var 3)]) (.var 0))))]))]
def c_count_of : List S := [.ite (.or (.cmp .Eq (.var 0) (.tup [])) (.cmp .Eq (.var 1) (.tup []))) [.ret (some (.bif .int [(.cmp .Eq (.var 0) (.tup []))]))] [],
  .ite (.cmp .NotEq (.idx (.var 1) (.lit (.int (0)))) (.neg (.lit (.int (1))))) [.ret (some (.bif .int [(.cmp .Eq (.var 0) (.var 1))]))] [],
  .asg (.tp [(.nm 3), (.nm 4)]) (.call (Str.ofString "sides_of") [(.var 1)]),
  .asg (.nm 2) (.bin .Add (.call (Str.ofString "count_of") [(.var 0), (.var 3)]) (.call (Str.ofString "count_of") [(.var 0), (.var 4)])),
  .ite (.cmp .Eq (.idx (.var 0) (.lit (.int (0)))) (.neg (.lit (.int (1))))) [.asg (.tp [(.nm 5), (.nm 6)]) (.call (Str.ofString "sides_of") [(.var 0)]),
  .asg (.nm 2) (.bin .Add (.var 2) (.bin .Mult (.call (Str.ofString "count_of") [(.var 5), (.var 3)]) (.call (Str.ofString "count_of") [(.var 6), (.var 4)])))] [],
  .ret (some (.var 2))]
def c_rows_put : List S := [.asg (.nm 3) (.dct []),
  .for (.tp [(.nm 4), (.nm 5)]) (.items (.var 1)) [.for (.tp [(.nm 6), (.nm 7)]) (.items (.var 2)) [.ite (.cmp .LtE (.bin .Add (.call (Str.ofString "leaves_of") [(.var 4)]) (.call (Str.ofString "leaves_of") [(.var 6)])) (.var 0)) [.asg (.nm 8) (.call (Str.ofString "put") [(.var 4), (.var 6)]),
  .seti (.var 3) (.var 8) (.bin .Add (.mth .get (.var 3) [(.var 8), (.lit (.int (0)))]) (.bin .Mult (.var 5) (.var 7)))] []]],
  .ret (some (.var 3))]
def c_row_of : List S := [.asg (.nm 2) (.lst []),
  .for (.nm 3) (.seq (.rev (.var 1))) [.ite (.cmp .Eq (.var 3) (.neg (.lit (.int (1))))) [.asg (.nm 5) (.mth .pop (.var 2) []),
  .ex (.mth .append (.var 2) [(.call (Str.ofString "rows_put") [(.var 0), (.var 5), (.mth .pop (.var 2) [])])])] [.ex (.mth .append (.var 2) [(.ite (.cmp .Gt (.var 0) (.lit (.int (0)))) (.dct [(.tup []), (.lit (.int (1))), (.tup [(.var 3)]), (.lit (.int (1)))]) (.dct [(.tup []), (.lit (.int (1)))]))])]],
  .asg (.nm 4) (.ite (.cmp .NotEq (.var 2) (.lst [])) (.idx (.var 2) (.lit (.int (0)))) (.dct [(.tup []), (.lit (.int (1)))])),
  .ret (some (.bif .tuple [(.comp [6] (.nm 6) (.seq (.bif .sorted [(.var 4)])) (.tup [(.var 6), (.idx (.var 4) (.var 6))]) none)]))]
def c_form_of_pairs : List S := [.asg (.nm 1) (.dct []),
  .for (.tp [(.nm 2), (.nm 3)]) (.seq (.var 0)) [.seti (.var 1) (.var 2) (.bin .Add (.mth .get (.var 1) [(.var 2), (.lit (.int (0)))]) (.var 3))],
  .ret (some (.bif .tuple [(.comp [2] (.nm 2) (.seq (.bif .sorted [(.var 1)])) (.tup [(.var 2), (.idx (.var 1) (.var 2))]) (some (.cmp .NotEq (.idx (.var 1) (.var 2)) (.lit (.int (0))))))]))]
def c_form_worth : List S := [.ret (some (.bif .sum [(.comp [2, 3] (.tp [(.nm 2), (.nm 3)]) (.seq (.var 0)) (.bin .Mult (.var 3) (.call (Str.ofString "count_of") [(.var 2), (.var 1)])) none)]))]
def c_row_times : List S := [.asg (.nm 3) (.lst []),
  .for (.tp [(.nm 4), (.nm 5)]) (.seq (.var 1)) [.ex (.mth .extend (.var 3) [(.comp [6, 7] (.tp [(.nm 6), (.nm 7)]) (.seq (.var 2)) (.tup [(.call (Str.ofString "put") [(.var 4), (.var 6)]), (.bin .Mult (.var 5) (.var 7))]) (some (.cmp .LtE (.bin .Add (.call (Str.ofString "leaves_of") [(.var 4)]) (.call (Str.ofString "leaves_of") [(.var 6)])) (.var 0))))])],
  .ret (some (.call (Str.ofString "form_of_pairs") [(.var 3)]))]
def l_open_cells : List S := [.asg (.nm 1) (.lit (.int (11))),
  .for (.nm 2) (.seq (.var 0)) [.asg (.nm 1) (.bin .Mod (.bif .int [(.bin .Add (.bin .Add (.bin .Mult (.var 1) (.lit (.int (69069)))) (.bin .Mult (.var 2) (.lit (.int (31))))) (.lit (.int (5))))]) (.lit (.int (2147483629))))],
  .asg (.nm 3) (.comp [2] (.nm 2) (.seq (.var 0)) (.bif .abs [(.var 2)]) none),
  .ret (some (.dct [(.lit (.str (Str.ofString "cells"))), (.rev (.var 3)), (.lit (.str (Str.ofString "left"))), (.lit (.int (1))), (.lit (.str (Str.ofString "mixed"))), (.var 1), (.lit (.str (Str.ofString "turn"))), (.lit (.int (0)))]))]
def l_pick : List S := [.ite (.cmp .Lt (.var 1) (.lit (.int (2)))) [.ret (some (.lit (.int (0))))] [],
  .asg (.nm 2) (.idx (.var 0) (.lit (.str (Str.ofString "cells")))),
  .whl (.and (.cmp .Lt (.idx (.var 0) (.lit (.str (Str.ofString "left")))) (.lit (.int (2)))) (.cmp .Gt (.bif .len [(.var 2)]) (.lit (.int (0))))) [.seti (.var 0) (.lit (.str (Str.ofString "left"))) (.mth .pop (.var 2) [])],
  .asg (.nm 3) (.idx (.var 0) (.lit (.str (Str.ofString "left")))),
  .ite (.cmp .Gt (.var 3) (.lit (.int (1)))) [.seti (.var 0) (.lit (.str (Str.ofString "left"))) (.bin .FloorDiv (.var 3) (.var 1)),
  .ret (some (.bin .Mod (.bif .int [(.var 3)]) (.var 1)))] [],
  .seti (.var 0) (.lit (.str (Str.ofString "turn"))) (.bin .Add (.idx (.var 0) (.lit (.str (Str.ofString "turn")))) (.lit (.int (1)))),
  .asg (.nm 4) (.idx (.var 0) (.lit (.str (Str.ofString "turn")))),
  .asg (.nm 5) (.bin .Mod (.bif .int [(.bin .Add (.idx (.var 0) (.lit (.str (Str.ofString "mixed")))) (.bin .Mult (.var 4) (.lit (.int (104729)))))]) (.lit (.int (998244353)))),
  .asg (.nm 5) (.bin .Mod (.bif .int [(.bin .Add (.bin .Mult (.var 5) (.var 5)) (.bin .Mult (.var 4) (.lit (.int (17)))))]) (.lit (.int (2147483647)))),
  .ret (some (.bin .Mod (.bif .int [(.bin .FloorDiv (.var 5) (.lit (.int (16))))]) (.var 1)))]
def l_of : List S := [.ret (some (.idx (.var 1) (.call (Str.ofString "_law_pick") [(.var 0), (.bif .len [(.var 1)])])))]
def l_tree : List S := [.asg (.nm 3) (.comp [5] (.nm 5) (.range1 (.var 2)) (.tup [(.call (Str.ofString "_law_pick") [(.var 0), (.var 1)])]) none),
  .whl (.cmp .Gt (.bif .len [(.var 3)]) (.lit (.int (1)))) [.asg (.nm 4) (.call (Str.ofString "_law_pick") [(.var 0), (.bin .Sub (.bif .len [(.var 3)]) (.lit (.int (1))))]),
  .asg (.nm 3) (.bin .Add (.bin .Add (.slc (.var 3) none (some (.var 4))) (.lst [(.bin .Add (.bin .Add (.tup [(.neg (.lit (.int (1))))]) (.idx (.var 3) (.var 4))) (.idx (.var 3) (.bin .Add (.var 4) (.lit (.int (1))))))])) (.slc (.var 3) (some (.bin .Add (.var 4) (.lit (.int (2))))) none))],
  .ret (some (.idx (.var 3) (.lit (.int (0)))))]
def l_put : List S := [.ret (some (.ite (.or (.cmp .Eq (.var 0) (.tup [])) (.cmp .Eq (.var 1) (.tup []))) (.bin .Add (.var 0) (.var 1)) (.bin .Add (.bin .Add (.tup [(.neg (.lit (.int (1))))]) (.var 0)) (.var 1))))]
def l_end : List S := [.ite (.cmp .NotEq (.idx (.var 0) (.var 1)) (.neg (.lit (.int (1))))) [.ret (some (.bin .Add (.var 1) (.lit (.int (1)))))] [],
  .ret (some (.call (Str.ofString "_law_end") [(.var 0), (.call (Str.ofString "_law_end") [(.var 0), (.bin .Add (.var 1) (.lit (.int (1))))])]))]
def l_sides : List S := [.asg (.nm 1) (.call (Str.ofString "_law_end") [(.var 0), (.lit (.int (1)))]),
  .ret (some (.tup [(.slc (.var 0) (some (.lit (.int (1)))) (some (.var 1))), (.slc (.var 0) (some (.var 1)) none)]))]
def l_leaves : List S := [.ret (some (.bif .len [(.comp [1] (.nm 1) (.seq (.var 0)) (.var 1) (some (.cmp .NotEq (.var 1) (.neg (.lit (.int (1)))))))]))]
def l_lots : List S := [.asg (.nm 2) (.lst [(.tup [])]),
  .for (.nm 3) (.range1 (.var 1)) [.asg (.nm 4) (.lst []),
  .for (.nm 5) (.seq (.var 2)) [.ex (.mth .extend (.var 4) [(.comp [6] (.nm 6) (.range1 (.var 0)) (.bin .Add (.var 5) (.tup [(.var 6)])) (some (.or (.cmp .Eq (.var 5) (.tup [])) (.cmp .Gt (.var 6) (.idx (.var 5) (.neg (.lit (.int (1)))))))))])],
  .asg (.nm 2) (.bif .list [(.var 4)])],
  .ret (some (.var 2))]
def l_left : List S := [.ite (.cmp .NotEq (.idx (.var 0) (.lit (.int (0)))) (.neg (.lit (.int (1))))) [.ret (some (.ite (.cmp .In (.lit (.int (0))) (.var 1)) (.var 0) (.tup [])))] [],
  .asg (.tp [(.nm 3), (.nm 4)]) (.call (Str.ofString "_law_sides") [(.var 0)]),
  .asg (.nm 2) (.call (Str.ofString "_law_leaves") [(.var 3)]),
  .ret (some (.call (Str.ofString "_law_put") [(.call (Str.ofString "_law_left") [(.var 3), (.var 1)]), (.call (Str.ofString "_law_left") [(.var 4), (.comp [5] (.nm 5) (.seq (.var 1)) (.bin .Sub (.var 5) (.var 2)) (some (.cmp .GtE (.var 5) (.var 2))))])]))]
def l_lots_of : List S := [.ret (some (.comp [2] (.nm 2) (.seq (.call (Str.ofString "_law_lots") [(.call (Str.ofString "_law_leaves") [(.var 1)]), (.call (Str.ofString "_law_leaves") [(.var 0)])])) (.var 2) (some (.cmp .Eq (.call (Str.ofString "_law_left") [(.var 1), (.var 2)]) (.var 0)))))]
def l_row : List S := [.asg (.tp [(.nm 3), (.nm 4)]) (.tup [(.dct []), (.call (Str.ofString "_law_leaves") [(.var 1)])]),
  .for (.nm 2) (.range1 (.bin .Add (.bif .min [(.var 0), (.var 4)]) (.lit (.int (1))))) [.for (.nm 5) (.seq (.call (Str.ofString "_law_lots") [(.var 4), (.var 2)])) [.asg (.nm 6) (.call (Str.ofString "_law_left") [(.var 1), (.var 5)]),
  .seti (.var 3) (.var 6) (.bin .Add (.mth .get (.var 3) [(.var 6), (.lit (.int (0)))]) (.lit (.int (1))))]],
  .ret (some (.bif .tuple [(.comp [6] (.nm 6) (.seq (.bif .sorted [(.var 3)])) (.tup [(.var 6), (.idx (.var 3) (.var 6))]) none)]))]
def l_choose : List S := [.asg (.tp [(.nm 3), (.nm 4)]) (.tup [(.lit (.int (1))), (.lit (.int (1)))]),
  .for (.nm 2) (.range1 (.var 1)) [.asg (.tp [(.nm 3), (.nm 4)]) (.tup [(.bin .Mult (.var 3) (.bin .Sub (.var 0) (.var 2))), (.bin .Mult (.var 4) (.bin .Add (.var 2) (.lit (.int (1)))))])],
  .ret (some (.bin .FloorDiv (.var 3) (.var 4)))]
def c_law : List S := [.asg (.nm 1) (.call (Str.ofString "_law_open_cells") [(.var 0)]),
  .for (.nm 2) (.range1 (.lit (.int (3)))) [.asg (.nm 3) (.bin .Add (.lit (.int (1))) (.call (Str.ofString "_law_pick") [(.var 1), (.lit (.int (2)))])),
  .asg (.tp [(.nm 9), (.nm 10)]) (.comp [5] (.nm 5) (.range1 (.lit (.int (2)))) (.call (Str.ofString "_law_tree") [(.var 1), (.var 3), (.bin .Add (.lit (.int (1))) (.call (Str.ofString "_law_pick") [(.var 1), (.lit (.int (6)))]))]) none),
  .asg (.nm 4) (.call (Str.ofString "_law_leaves") [(.var 9)]),
  .for (.nm 5) (.range1 (.lit (.int (3)))) [.asg (.nm 8) (.call (Str.ofString "_law_pick") [(.var 1), (.bin .Add (.bif .min [(.var 4), (.lit (.int (4)))]) (.lit (.int (1))))]),
  .asg (.nm 11) (.call (Str.ofString "_law_left") [(.var 9), (.call (Str.ofString "_law_of") [(.var 1), (.call (Str.ofString "_law_lots") [(.var 4), (.var 8)])])]),
  .ite (.and (.cmp .Eq (.call (Str.ofString "_law_pick") [(.var 1), (.lit (.int (3)))]) (.lit (.int (0)))) (.cmp .Gt (.var 8) (.lit (.int (0))))) [.asg (.nm 11) (.call (Str.ofString "_law_tree") [(.var 1), (.var 3), (.var 8)])] [],
  .asg (.nm 12) (.call (Str.ofString "_law_lots_of") [(.var 11), (.var 9)]),
  .ite (.cmp .NotEq (.bif .repr [(.lst [(.call (Str.ofString "lots_of") [(.var 11), (.var 9)]), (.call (Str.ofString "count_of") [(.var 11), (.var 9)])])]) (.bif .repr [(.lst [(.bif .tuple [(.var 12)]), (.bif .len [(.var 12)])])])) [.ret (some (.lit (.bl false)))] [],
  .asg (.tp [(.nm 17), (.nm 18)]) (.tup [(.bif .len [(.call (Str.ofString "_law_lots_of") [(.var 11), (.var 10)])]), (.lit (.int (0)))]),
  .ite (.cmp .Gt (.call (Str.ofString "_law_leaves") [(.var 11)]) (.lit (.int (1)))) [.asg (.tp [(.nm 19), (.nm 20)]) (.call (Str.ofString "_law_sides") [(.var 11)]),
  .asg (.nm 18) (.bin .Mult (.call (Str.ofString "count_of") [(.var 19), (.var 9)]) (.call (Str.ofString "count_of") [(.var 20), (.var 10)]))] [],
  .ite (.and (.cmp .NotEq (.var 11) (.tup [])) (.cmp .NotEq (.call (Str.ofString "count_of") [(.var 11), (.call (Str.ofString "_law_put") [(.var 9), (.var 10)])]) (.bin .Add (.bin .Add (.bif .len [(.var 12)]) (.var 17)) (.var 18)))) [.ret (some (.lit (.bl false)))] [],
  .asg (.nm 13) (.call (Str.ofString "_law_tree") [(.var 1), (.var 3), (.bif .max [(.lit (.int (1))), (.var 8)])]),
  .ite (.and (.cmp .NotEq (.var 11) (.tup [])) (.and (.cmp .GtE (.call (Str.ofString "_law_leaves") [(.var 13)]) (.call (Str.ofString "_law_leaves") [(.var 11)])) (.cmp .NotEq (.bif .repr [(.call (Str.ofString "count_of") [(.var 13), (.var 11)])]) (.bif .repr [(.bif .int [(.cmp .Eq (.var 13) (.var 11))])])))) [.ret (some (.lit (.bl false)))] []],
  .ite (.cmp .NotEq (.bif .repr [(.lst [(.call (Str.ofString "count_of") [(.tup []), (.var 9)]), (.call (Str.ofString "lots_of") [(.tup []), (.var 9)]), (.call (Str.ofString "count_of") [(.var 9), (.var 9)])])]) (.bif .repr [(.lst [(.lit (.int (1))), (.tup [(.tup [])]), (.lit (.int (1)))])])) [.ret (some (.lit (.bl false)))] [],
  .asg (.nm 6) (.call (Str.ofString "_law_pick") [(.var 1), (.lit (.int (5)))]),
  .asg (.nm 7) (.call (Str.ofString "_law_row") [(.var 6), (.var 9)]),
  .ite (.cmp .NotEq (.bif .repr [(.call (Str.ofString "row_of") [(.var 6), (.var 9)])]) (.bif .repr [(.var 7)])) [.ret (some (.lit (.bl false)))] [],
  .for (.nm 8) (.range1 (.bin .Add (.var 6) (.lit (.int (1))))) [.ite (.cmp .NotEq (.bif .sum [(.comp [11, 21] (.tp [(.nm 11), (.nm 21)]) (.seq (.var 7)) (.var 21) (some (.cmp .Eq (.call (Str.ofString "_law_leaves") [(.var 11)]) (.var 8))))]) (.call (Str.ofString "_law_choose") [(.var 4), (.var 8)])) [.ret (some (.lit (.bl false)))] []],
  .ite (.and (.cmp .LtE (.var 4) (.var 6)) (.cmp .NotEq (.comp [11, 21] (.tp [(.nm 11), (.nm 21)]) (.seq (.var 7)) (.var 11) (some (.cmp .Eq (.call (Str.ofString "_law_leaves") [(.var 11)]) (.var 4)))) (.lst [(.var 9)]))) [.ret (some (.lit (.bl false)))] [],
  .ite (.cmp2 .Lt .Lt (.lit (.int (0))) (.var 6) (.lit (.int (4)))) [.asg (.nm 14) (.call (Str.ofString "row_of") [(.var 6), (.var 10)]),
  .ite (.cmp .NotEq (.bif .repr [(.call (Str.ofString "row_times") [(.var 6), (.var 7), (.var 14)])]) (.bif .repr [(.call (Str.ofString "_law_row") [(.var 6), (.call (Str.ofString "_law_put") [(.var 9), (.var 10)])])])) [.ret (some (.lit (.bl false)))] [],
  .asg (.nm 15) (.bif .tuple [(.comp [11, 21] (.tp [(.nm 11), (.nm 21)]) (.seq (.var 7)) (.tup [(.var 11), (.call (Str.ofString "_law_of") [(.var 1), (.lst [(.lit (.int (1))), (.neg (.lit (.int (1)))), (.lit (.int (5)))])])]) none)]),
  .asg (.nm 16) (.bif .dict [(.bif .list [(.var 7)])]),
  .ite (.cmp .NotEq (.bif .repr [(.call (Str.ofString "form_worth") [(.var 15), (.var 9)])]) (.bif .repr [(.bif .sum [(.comp [11, 22] (.tp [(.nm 11), (.nm 22)]) (.seq (.var 15)) (.bin .Mult (.var 22) (.idx (.var 16) (.var 11))) none)])])) [.ret (some (.lit (.bl false)))] []] []],
  .ret (some (.cmp .Eq (.call (Str.ofString "row_of") [(.lit (.int (2))), (.tup [(.neg (.lit (.int (1)))), (.lit (.int (0))), (.lit (.int (0)))])]) (.tup [(.tup [(.tup []), (.lit (.int (1)))]), (.tup [(.tup [(.neg (.lit (.int (1)))), (.lit (.int (0))), (.lit (.int (0)))]), (.lit (.int (1)))]), (.tup [(.tup [(.lit (.int (0)))]), (.lit (.int (2)))])])))]
def tbl : List (Str × Fd) := [
  ("put", ⟨2, 2, c_put⟩),
  ("end_at", ⟨2, 3, c_end_at⟩),
  ("sides_of", ⟨1, 2, c_sides_of⟩),
  ("leaves_of", ⟨1, 2, c_leaves_of⟩),
  ("left_tree", ⟨2, 6, c_left_tree⟩),
  ("all_lots", ⟨1, 7, c_all_lots⟩),
  ("lots_of", ⟨2, 4, c_lots_of⟩),
  ("count_of", ⟨2, 7, c_count_of⟩),
  ("rows_put", ⟨3, 9, c_rows_put⟩),
  ("row_of", ⟨2, 7, c_row_of⟩),
  ("form_of_pairs", ⟨1, 4, c_form_of_pairs⟩),
  ("form_worth", ⟨2, 4, c_form_worth⟩),
  ("row_times", ⟨3, 8, c_row_times⟩),
  ("_law_open_cells", ⟨1, 4, l_open_cells⟩),
  ("_law_pick", ⟨2, 6, l_pick⟩),
  ("_law_of", ⟨2, 2, l_of⟩),
  ("_law_tree", ⟨3, 6, l_tree⟩),
  ("_law_put", ⟨2, 2, l_put⟩),
  ("_law_end", ⟨2, 2, l_end⟩),
  ("_law_sides", ⟨1, 2, l_sides⟩),
  ("_law_leaves", ⟨1, 2, l_leaves⟩),
  ("_law_lots", ⟨2, 7, l_lots⟩),
  ("_law_left", ⟨2, 6, l_left⟩),
  ("_law_lots_of", ⟨2, 3, l_lots_of⟩),
  ("_law_row", ⟨2, 7, l_row⟩),
  ("_law_choose", ⟨2, 5, l_choose⟩),
  ("law", ⟨1, 23, c_law⟩)
]
def tb (x : Str) : Option Fd := tbl.lookup x
def own (x : Str) : Bool := tbl.any fun d => decide (d.1 = x)
def gls : Str → Bool := fun _ => false
def gl : Str → Option D := fun _ => none
def gu : Str → Option U := fun _ => none
theorem tb_safe (f : Str) (fd : Fd) (h : tb f = some fd) : S.safes fd.body = true := by
  have h1 : tbl.all (fun p => S.safes p.2.body) = true := by decide +kernel
  exact List.all_eq_true.1 h1 (f, fd) (PySem.mem_of_lookup h)
end K
/-! the table is what the program's text says -/
namespace K
theorem cs_c_put : cSs ⟨["one", "other"], own, gls, true⟩ (defScope (top 1)) 60 (defBody (top 1)) = c_put := by kernel_rfl
theorem tb_c_put : tb "put" = some ⟨2, 2, c_put⟩ := by kernel_rfl
theorem sc_c_put : FnScope ["one", "other"] ["one", "other"] (defScope (top 1)) := ⟨rfl, rfl, rfl, by decide +kernel, rfl, by decide +kernel, by decide +kernel⟩
theorem cs_c_end_at : cSs ⟨["tree", "place", "lacking"], own, gls, true⟩ (defScope (top 2)) 60 (defBody (top 2)) = c_end_at := by kernel_rfl
theorem tb_c_end_at : tb "end_at" = some ⟨2, 3, c_end_at⟩ := by kernel_rfl
theorem sc_c_end_at : FnScope ["tree", "place", "lacking"] ["tree", "place"] (defScope (top 2)) := ⟨rfl, rfl, rfl, by decide +kernel, rfl, by decide +kernel, by decide +kernel⟩
theorem cs_c_sides_of : cSs ⟨["tree", "middle"], own, gls, true⟩ (defScope (top 3)) 60 (defBody (top 3)) = c_sides_of := by kernel_rfl
theorem tb_c_sides_of : tb "sides_of" = some ⟨1, 2, c_sides_of⟩ := by kernel_rfl
theorem sc_c_sides_of : FnScope ["tree", "middle"] ["tree"] (defScope (top 3)) := ⟨rfl, rfl, rfl, by decide +kernel, rfl, by decide +kernel, by decide +kernel⟩
theorem cs_c_leaves_of : cSs ⟨["tree", "part"], own, gls, true⟩ (defScope (top 4)) 60 (defBody (top 4)) = c_leaves_of := by kernel_rfl
theorem tb_c_leaves_of : tb "leaves_of" = some ⟨1, 2, c_leaves_of⟩ := by kernel_rfl
theorem sc_c_leaves_of : FnScope ["tree", "part"] ["tree"] (defScope (top 4)) := ⟨rfl, rfl, rfl, by decide +kernel, rfl, by decide +kernel, by decide +kernel⟩
theorem cs_c_left_tree : cSs ⟨["tree", "lot", "part", "found", "number", "one"], own, gls, true⟩ (defScope (top 5)) 60 (defBody (top 5)) = c_left_tree := by kernel_rfl
theorem tb_c_left_tree : tb "left_tree" = some ⟨2, 6, c_left_tree⟩ := by kernel_rfl
theorem sc_c_left_tree : FnScope ["tree", "lot", "part", "found", "number", "one"] ["tree", "lot"] (defScope (top 5)) := ⟨rfl, rfl, rfl, by decide +kernel, rfl, by decide +kernel, by decide +kernel⟩
theorem cs_c_all_lots : cSs ⟨["many", "turn", "found", "line", "late", "lot", "number"], own, gls, true⟩ (defScope (top 6)) 60 (defBody (top 6)) = c_all_lots := by kernel_rfl
theorem tb_c_all_lots : tb "all_lots" = some ⟨1, 7, c_all_lots⟩ := by kernel_rfl
theorem sc_c_all_lots : FnScope ["many", "turn", "found", "line", "late", "lot", "number"] ["many"] (defScope (top 6)) := ⟨rfl, rfl, rfl, by decide +kernel, rfl, by decide +kernel, by decide +kernel⟩
theorem cs_c_lots_of : cSs ⟨["p", "tree", "lots", "lot"], own, gls, true⟩ (defScope (top 7)) 60 (defBody (top 7)) = c_lots_of := by kernel_rfl
theorem tb_c_lots_of : tb "lots_of" = some ⟨2, 4, c_lots_of⟩ := by kernel_rfl
theorem sc_c_lots_of : FnScope ["p", "tree", "lots", "lot"] ["p", "tree"] (defScope (top 7)) := ⟨rfl, rfl, rfl, by decide +kernel, rfl, by decide +kernel, by decide +kernel⟩
theorem cs_c_count_of : cSs ⟨["p", "tree", "found", "one", "other", "left", "right"], own, gls, true⟩ (defScope (top 8)) 60 (defBody (top 8)) = c_count_of := by kernel_rfl
theorem tb_c_count_of : tb "count_of" = some ⟨2, 7, c_count_of⟩ := by kernel_rfl
theorem sc_c_count_of : FnScope ["p", "tree", "found", "one", "other", "left", "right"] ["p", "tree"] (defScope (top 8)) := ⟨rfl, rfl, rfl, by decide +kernel, rfl, by decide +kernel, by decide +kernel⟩
theorem cs_c_rows_put : cSs ⟨["degree", "one", "other", "found", "p", "c", "q", "d", "late"], own, gls, true⟩ (defScope (top 9)) 60 (defBody (top 9)) = c_rows_put := by kernel_rfl
theorem tb_c_rows_put : tb "rows_put" = some ⟨3, 9, c_rows_put⟩ := by kernel_rfl
theorem sc_c_rows_put : FnScope ["degree", "one", "other", "found", "p", "c", "q", "d", "late"] ["degree", "one", "other"] (defScope (top 9)) := ⟨rfl, rfl, rfl, by decide +kernel, rfl, by decide +kernel, by decide +kernel⟩
theorem cs_c_row_of : cSs ⟨["degree", "tree", "found", "part", "row", "one", "p"], own, gls, true⟩ (defScope (top 10)) 60 (defBody (top 10)) = c_row_of := by kernel_rfl
theorem tb_c_row_of : tb "row_of" = some ⟨2, 7, c_row_of⟩ := by kernel_rfl
theorem sc_c_row_of : FnScope ["degree", "tree", "found", "part", "row", "one", "p"] ["degree", "tree"] (defScope (top 10)) := ⟨rfl, rfl, rfl, by decide +kernel, rfl, by decide +kernel, by decide +kernel⟩
theorem cs_c_form_of_pairs : cSs ⟨["pairs", "found", "p", "c"], own, gls, true⟩ (defScope (top 12)) 60 (defBody (top 12)) = c_form_of_pairs := by kernel_rfl
theorem tb_c_form_of_pairs : tb "form_of_pairs" = some ⟨1, 4, c_form_of_pairs⟩ := by kernel_rfl
theorem sc_c_form_of_pairs : FnScope ["pairs", "found", "p", "c"] ["pairs"] (defScope (top 12)) := ⟨rfl, rfl, rfl, by decide +kernel, rfl, by decide +kernel, by decide +kernel⟩
theorem cs_c_form_worth : cSs ⟨["form", "tree", "p", "c"], own, gls, true⟩ (defScope (top 13)) 60 (defBody (top 13)) = c_form_worth := by kernel_rfl
theorem tb_c_form_worth : tb "form_worth" = some ⟨2, 4, c_form_worth⟩ := by kernel_rfl
theorem sc_c_form_worth : FnScope ["form", "tree", "p", "c"] ["form", "tree"] (defScope (top 13)) := ⟨rfl, rfl, rfl, by decide +kernel, rfl, by decide +kernel, by decide +kernel⟩
theorem cs_c_row_times : cSs ⟨["degree", "a", "b", "pairs", "p", "c", "q", "d"], own, gls, true⟩ (defScope (top 15)) 60 (defBody (top 15)) = c_row_times := by kernel_rfl
theorem tb_c_row_times : tb "row_times" = some ⟨3, 8, c_row_times⟩ := by kernel_rfl
theorem sc_c_row_times : FnScope ["degree", "a", "b", "pairs", "p", "c", "q", "d"] ["degree", "a", "b"] (defScope (top 15)) := ⟨rfl, rfl, rfl, by decide +kernel, rfl, by decide +kernel, by decide +kernel⟩
theorem cs_l_open_cells : cSs ⟨["script", "stirred", "cell", "cells"], own, gls, true⟩ (defScope (top 17)) 60 (defBody (top 17)) = l_open_cells := by kernel_rfl
theorem tb_l_open_cells : tb "_law_open_cells" = some ⟨1, 4, l_open_cells⟩ := by kernel_rfl
theorem sc_l_open_cells : FnScope ["script", "stirred", "cell", "cells"] ["script"] (defScope (top 17)) := ⟨rfl, rfl, rfl, by decide +kernel, rfl, by decide +kernel, by decide +kernel⟩
theorem cs_l_pick : cSs ⟨["source", "most", "cells", "others", "lap", "stirred"], own, gls, true⟩ (defScope (top 18)) 60 (defBody (top 18)) = l_pick := by kernel_rfl
theorem tb_l_pick : tb "_law_pick" = some ⟨2, 6, l_pick⟩ := by kernel_rfl
theorem sc_l_pick : FnScope ["source", "most", "cells", "others", "lap", "stirred"] ["source", "most"] (defScope (top 18)) := ⟨rfl, rfl, rfl, by decide +kernel, rfl, by decide +kernel, by decide +kernel⟩
theorem cs_l_of : cSs ⟨["source", "some"], own, gls, true⟩ (defScope (top 19)) 60 (defBody (top 19)) = l_of := by kernel_rfl
theorem tb_l_of : tb "_law_of" = some ⟨2, 2, l_of⟩ := by kernel_rfl
theorem sc_l_of : FnScope ["source", "some"] ["source", "some"] (defScope (top 19)) := ⟨rfl, rfl, rfl, by decide +kernel, rfl, by decide +kernel, by decide +kernel⟩
theorem cs_l_tree : cSs ⟨["source", "k", "leaves", "line", "i", "turn"], own, gls, true⟩ (defScope (top 20)) 60 (defBody (top 20)) = l_tree := by kernel_rfl
theorem tb_l_tree : tb "_law_tree" = some ⟨3, 6, l_tree⟩ := by kernel_rfl
theorem sc_l_tree : FnScope ["source", "k", "leaves", "line", "i", "turn"] ["source", "k", "leaves"] (defScope (top 20)) := ⟨rfl, rfl, rfl, by decide +kernel, rfl, by decide +kernel, by decide +kernel⟩
theorem cs_l_put : cSs ⟨["one", "other"], own, gls, true⟩ (defScope (top 21)) 60 (defBody (top 21)) = l_put := by kernel_rfl
theorem tb_l_put : tb "_law_put" = some ⟨2, 2, l_put⟩ := by kernel_rfl
theorem sc_l_put : FnScope ["one", "other"] ["one", "other"] (defScope (top 21)) := ⟨rfl, rfl, rfl, by decide +kernel, rfl, by decide +kernel, by decide +kernel⟩
theorem cs_l_end : cSs ⟨["tree", "place"], own, gls, true⟩ (defScope (top 22)) 60 (defBody (top 22)) = l_end := by kernel_rfl
theorem tb_l_end : tb "_law_end" = some ⟨2, 2, l_end⟩ := by kernel_rfl
theorem sc_l_end : FnScope ["tree", "place"] ["tree", "place"] (defScope (top 22)) := ⟨rfl, rfl, rfl, by decide +kernel, rfl, by decide +kernel, by decide +kernel⟩
theorem cs_l_sides : cSs ⟨["tree", "middle"], own, gls, true⟩ (defScope (top 23)) 60 (defBody (top 23)) = l_sides := by kernel_rfl
theorem tb_l_sides : tb "_law_sides" = some ⟨1, 2, l_sides⟩ := by kernel_rfl
theorem sc_l_sides : FnScope ["tree", "middle"] ["tree"] (defScope (top 23)) := ⟨rfl, rfl, rfl, by decide +kernel, rfl, by decide +kernel, by decide +kernel⟩
theorem cs_l_leaves : cSs ⟨["tree", "part"], own, gls, true⟩ (defScope (top 24)) 60 (defBody (top 24)) = l_leaves := by kernel_rfl
theorem tb_l_leaves : tb "_law_leaves" = some ⟨1, 2, l_leaves⟩ := by kernel_rfl
theorem sc_l_leaves : FnScope ["tree", "part"] ["tree"] (defScope (top 24)) := ⟨rfl, rfl, rfl, by decide +kernel, rfl, by decide +kernel, by decide +kernel⟩
theorem cs_l_lots : cSs ⟨["n", "k", "found", "turn", "late", "lot", "a"], own, gls, true⟩ (defScope (top 25)) 60 (defBody (top 25)) = l_lots := by kernel_rfl
theorem tb_l_lots : tb "_law_lots" = some ⟨2, 7, l_lots⟩ := by kernel_rfl
theorem sc_l_lots : FnScope ["n", "k", "found", "turn", "late", "lot", "a"] ["n", "k"] (defScope (top 25)) := ⟨rfl, rfl, rfl, by decide +kernel, rfl, by decide +kernel, by decide +kernel⟩
theorem cs_l_left : cSs ⟨["tree", "lot", "many", "one", "other", "number"], own, gls, true⟩ (defScope (top 26)) 60 (defBody (top 26)) = l_left := by kernel_rfl
theorem tb_l_left : tb "_law_left" = some ⟨2, 6, l_left⟩ := by kernel_rfl
theorem sc_l_left : FnScope ["tree", "lot", "many", "one", "other", "number"] ["tree", "lot"] (defScope (top 26)) := ⟨rfl, rfl, rfl, by decide +kernel, rfl, by decide +kernel, by decide +kernel⟩
theorem cs_l_lots_of : cSs ⟨["p", "tree", "lot"], own, gls, true⟩ (defScope (top 27)) 60 (defBody (top 27)) = l_lots_of := by kernel_rfl
theorem tb_l_lots_of : tb "_law_lots_of" = some ⟨2, 3, l_lots_of⟩ := by kernel_rfl
theorem sc_l_lots_of : FnScope ["p", "tree", "lot"] ["p", "tree"] (defScope (top 27)) := ⟨rfl, rfl, rfl, by decide +kernel, rfl, by decide +kernel, by decide +kernel⟩
theorem cs_l_row : cSs ⟨["degree", "tree", "j", "found", "many", "lot", "p"], own, gls, true⟩ (defScope (top 28)) 60 (defBody (top 28)) = l_row := by kernel_rfl
theorem tb_l_row : tb "_law_row" = some ⟨2, 7, l_row⟩ := by kernel_rfl
theorem sc_l_row : FnScope ["degree", "tree", "j", "found", "many", "lot", "p"] ["degree", "tree"] (defScope (top 28)) := ⟨rfl, rfl, rfl, by decide +kernel, rfl, by decide +kernel, by decide +kernel⟩
theorem cs_l_choose : cSs ⟨["n", "j", "i", "top", "bottom"], own, gls, true⟩ (defScope (top 29)) 60 (defBody (top 29)) = l_choose := by kernel_rfl
theorem tb_l_choose : tb "_law_choose" = some ⟨2, 5, l_choose⟩ := by kernel_rfl
theorem sc_l_choose : FnScope ["n", "j", "i", "top", "bottom"] ["n", "j"] (defScope (top 29)) := ⟨rfl, rfl, rfl, by decide +kernel, rfl, by decide +kernel, by decide +kernel⟩
theorem cs_c_law : cSs ⟨["script", "source", "lap", "k", "many", "turn", "degree", "row", "j", "tree", "other", "p", "due", "twin", "late", "form", "numbers", "both", "parted", "q", "r", "n", "c"], own, gls, true⟩ (defScope (top 30)) 60 (defBody (top 30)) = c_law := by kernel_rfl
theorem tb_c_law : tb "law" = some ⟨1, 23, c_law⟩ := by kernel_rfl
theorem sc_c_law : FnScope ["script", "source", "lap", "k", "many", "turn", "degree", "row", "j", "tree", "other", "p", "due", "twin", "late", "form", "numbers", "both", "parted", "q", "r", "n", "c"] ["script"] (defScope (top 30)) := ⟨rfl, rfl, rfl, by decide +kernel, rfl, by decide +kernel, by decide +kernel⟩
theorem tab_mk {l : PySem.W.OpenLaw} {w : World} {K : PySem.W.Frag} {h : Heap} {mg : Str → Option Value} (X : K.In h) (G : h.Ns mainGlobals mg)
    {f0 f1 f2 f3 f4 f5 f6 f7 f8 f9 f10 f11 f12 f13 f14 f15 f16 f17 f18 f19 f20 f21 f22 f23 f24 f25 f26 : Addr} {od0 an0 od1 an1 od2 an2 od3 an3 od4 an4 od5 an5 od6 an6 od7 an7 od8 an8 od9 an9 od10 an10 od11 an11 od12 an12 od13 an13 od14 an14 od15 an15 od16 an16 od17 an17 od18 an18 od19 an19 od20 an20 od21 an21 od22 an22 od23 an23 od24 an24 od25 an25 od26 an26 : Option Addr} {sl0 sl1 sl2 sl3 sl4 sl5 sl6 sl7 sl8 sl9 sl10 sl11 sl12 sl13 sl14 sl15 sl16 sl17 sl18 sl19 sl20 sl21 sl22 sl23 sl24 sl25 sl26 : Array (Option Value)} {oc0 kV0 dc0 pm0 cd0 ct0 oc1 kV1 dc1 pm1 cd1 ct1 oc2 kV2 dc2 pm2 cd2 ct2 oc3 kV3 dc3 pm3 cd3 ct3 oc4 kV4 dc4 pm4 cd4 ct4 oc5 kV5 dc5 pm5 cd5 ct5 oc6 kV6 dc6 pm6 cd6 ct6 oc7 kV7 dc7 pm7 cd7 ct7 oc8 kV8 dc8 pm8 cd8 ct8 oc9 kV9 dc9 pm9 cd9 ct9 oc10 kV10 dc10 pm10 cd10 ct10 oc11 kV11 dc11 pm11 cd11 ct11 oc12 kV12 dc12 pm12 cd12 ct12 oc13 kV13 dc13 pm13 cd13 ct13 oc14 kV14 dc14 pm14 cd14 ct14 oc15 kV15 dc15 pm15 cd15 ct15 oc16 kV16 dc16 pm16 cd16 ct16 oc17 kV17 dc17 pm17 cd17 ct17 oc18 kV18 dc18 pm18 cd18 ct18 oc19 kV19 dc19 pm19 cd19 ct19 oc20 kV20 dc20 pm20 cd20 ct20 oc21 kV21 dc21 pm21 cd21 ct21 oc22 kV22 dc22 pm22 cd22 ct22 oc23 kV23 dc23 pm23 cd23 ct23 oc24 kV24 dc24 pm24 cd24 ct24 oc25 kV25 dc25 pm25 cd25 ct25 oc26 kV26 dc26 pm26 cd26 ct26 : Value}
    (a0 : PySem.W.nsIn K mainGlobals "put" = some (some (.ref f0))) (l0 : K.lookup f0 = some ⟨oc0, od0, .func (PySem.W.fnOf "put" "put" (defArgs (top 1)) (defBody (top 1)) (defScope (top 1)) .none kV0 dc0 pm0 an0 cd0 ct0), sl0⟩) (c0 : PySem.W.codeIn K cd0 "put" = true) (k0 : PySem.W.keepIn K (.ref f0) = true)
    (a1 : PySem.W.nsIn K mainGlobals "end_at" = some (some (.ref f1))) (l1 : K.lookup f1 = some ⟨oc1, od1, .func (PySem.W.fnOf "end_at" "end_at" (defArgs (top 2)) (defBody (top 2)) (defScope (top 2)) .none kV1 dc1 pm1 an1 cd1 ct1), sl1⟩) (c1 : PySem.W.codeIn K cd1 "end_at" = true) (k1 : PySem.W.keepIn K (.ref f1) = true)
    (a2 : PySem.W.nsIn K mainGlobals "sides_of" = some (some (.ref f2))) (l2 : K.lookup f2 = some ⟨oc2, od2, .func (PySem.W.fnOf "sides_of" "sides_of" (defArgs (top 3)) (defBody (top 3)) (defScope (top 3)) .none kV2 dc2 pm2 an2 cd2 ct2), sl2⟩) (c2 : PySem.W.codeIn K cd2 "sides_of" = true) (k2 : PySem.W.keepIn K (.ref f2) = true)
    (a3 : PySem.W.nsIn K mainGlobals "leaves_of" = some (some (.ref f3))) (l3 : K.lookup f3 = some ⟨oc3, od3, .func (PySem.W.fnOf "leaves_of" "leaves_of" (defArgs (top 4)) (defBody (top 4)) (defScope (top 4)) .none kV3 dc3 pm3 an3 cd3 ct3), sl3⟩) (c3 : PySem.W.codeIn K cd3 "leaves_of" = true) (k3 : PySem.W.keepIn K (.ref f3) = true)
    (a4 : PySem.W.nsIn K mainGlobals "left_tree" = some (some (.ref f4))) (l4 : K.lookup f4 = some ⟨oc4, od4, .func (PySem.W.fnOf "left_tree" "left_tree" (defArgs (top 5)) (defBody (top 5)) (defScope (top 5)) .none kV4 dc4 pm4 an4 cd4 ct4), sl4⟩) (c4 : PySem.W.codeIn K cd4 "left_tree" = true) (k4 : PySem.W.keepIn K (.ref f4) = true)
    (a5 : PySem.W.nsIn K mainGlobals "all_lots" = some (some (.ref f5))) (l5 : K.lookup f5 = some ⟨oc5, od5, .func (PySem.W.fnOf "all_lots" "all_lots" (defArgs (top 6)) (defBody (top 6)) (defScope (top 6)) .none kV5 dc5 pm5 an5 cd5 ct5), sl5⟩) (c5 : PySem.W.codeIn K cd5 "all_lots" = true) (k5 : PySem.W.keepIn K (.ref f5) = true)
    (a6 : PySem.W.nsIn K mainGlobals "lots_of" = some (some (.ref f6))) (l6 : K.lookup f6 = some ⟨oc6, od6, .func (PySem.W.fnOf "lots_of" "lots_of" (defArgs (top 7)) (defBody (top 7)) (defScope (top 7)) .none kV6 dc6 pm6 an6 cd6 ct6), sl6⟩) (c6 : PySem.W.codeIn K cd6 "lots_of" = true) (k6 : PySem.W.keepIn K (.ref f6) = true)
    (a7 : PySem.W.nsIn K mainGlobals "count_of" = some (some (.ref f7))) (l7 : K.lookup f7 = some ⟨oc7, od7, .func (PySem.W.fnOf "count_of" "count_of" (defArgs (top 8)) (defBody (top 8)) (defScope (top 8)) .none kV7 dc7 pm7 an7 cd7 ct7), sl7⟩) (c7 : PySem.W.codeIn K cd7 "count_of" = true) (k7 : PySem.W.keepIn K (.ref f7) = true)
    (a8 : PySem.W.nsIn K mainGlobals "rows_put" = some (some (.ref f8))) (l8 : K.lookup f8 = some ⟨oc8, od8, .func (PySem.W.fnOf "rows_put" "rows_put" (defArgs (top 9)) (defBody (top 9)) (defScope (top 9)) .none kV8 dc8 pm8 an8 cd8 ct8), sl8⟩) (c8 : PySem.W.codeIn K cd8 "rows_put" = true) (k8 : PySem.W.keepIn K (.ref f8) = true)
    (a9 : PySem.W.nsIn K mainGlobals "row_of" = some (some (.ref f9))) (l9 : K.lookup f9 = some ⟨oc9, od9, .func (PySem.W.fnOf "row_of" "row_of" (defArgs (top 10)) (defBody (top 10)) (defScope (top 10)) .none kV9 dc9 pm9 an9 cd9 ct9), sl9⟩) (c9 : PySem.W.codeIn K cd9 "row_of" = true) (k9 : PySem.W.keepIn K (.ref f9) = true)
    (a10 : PySem.W.nsIn K mainGlobals "form_of_pairs" = some (some (.ref f10))) (l10 : K.lookup f10 = some ⟨oc10, od10, .func (PySem.W.fnOf "form_of_pairs" "form_of_pairs" (defArgs (top 12)) (defBody (top 12)) (defScope (top 12)) .none kV10 dc10 pm10 an10 cd10 ct10), sl10⟩) (c10 : PySem.W.codeIn K cd10 "form_of_pairs" = true) (k10 : PySem.W.keepIn K (.ref f10) = true)
    (a11 : PySem.W.nsIn K mainGlobals "form_worth" = some (some (.ref f11))) (l11 : K.lookup f11 = some ⟨oc11, od11, .func (PySem.W.fnOf "form_worth" "form_worth" (defArgs (top 13)) (defBody (top 13)) (defScope (top 13)) .none kV11 dc11 pm11 an11 cd11 ct11), sl11⟩) (c11 : PySem.W.codeIn K cd11 "form_worth" = true) (k11 : PySem.W.keepIn K (.ref f11) = true)
    (a12 : PySem.W.nsIn K mainGlobals "row_times" = some (some (.ref f12))) (l12 : K.lookup f12 = some ⟨oc12, od12, .func (PySem.W.fnOf "row_times" "row_times" (defArgs (top 15)) (defBody (top 15)) (defScope (top 15)) .none kV12 dc12 pm12 an12 cd12 ct12), sl12⟩) (c12 : PySem.W.codeIn K cd12 "row_times" = true) (k12 : PySem.W.keepIn K (.ref f12) = true)
    (a13 : PySem.W.nsIn K mainGlobals "_law_open_cells" = some (some (.ref f13))) (l13 : K.lookup f13 = some ⟨oc13, od13, .func (PySem.W.fnOf "_law_open_cells" "_law_open_cells" (defArgs (top 17)) (defBody (top 17)) (defScope (top 17)) .none kV13 dc13 pm13 an13 cd13 ct13), sl13⟩) (c13 : PySem.W.codeIn K cd13 "_law_open_cells" = true) (k13 : PySem.W.keepIn K (.ref f13) = true)
    (a14 : PySem.W.nsIn K mainGlobals "_law_pick" = some (some (.ref f14))) (l14 : K.lookup f14 = some ⟨oc14, od14, .func (PySem.W.fnOf "_law_pick" "_law_pick" (defArgs (top 18)) (defBody (top 18)) (defScope (top 18)) .none kV14 dc14 pm14 an14 cd14 ct14), sl14⟩) (c14 : PySem.W.codeIn K cd14 "_law_pick" = true) (k14 : PySem.W.keepIn K (.ref f14) = true)
    (a15 : PySem.W.nsIn K mainGlobals "_law_of" = some (some (.ref f15))) (l15 : K.lookup f15 = some ⟨oc15, od15, .func (PySem.W.fnOf "_law_of" "_law_of" (defArgs (top 19)) (defBody (top 19)) (defScope (top 19)) .none kV15 dc15 pm15 an15 cd15 ct15), sl15⟩) (c15 : PySem.W.codeIn K cd15 "_law_of" = true) (k15 : PySem.W.keepIn K (.ref f15) = true)
    (a16 : PySem.W.nsIn K mainGlobals "_law_tree" = some (some (.ref f16))) (l16 : K.lookup f16 = some ⟨oc16, od16, .func (PySem.W.fnOf "_law_tree" "_law_tree" (defArgs (top 20)) (defBody (top 20)) (defScope (top 20)) .none kV16 dc16 pm16 an16 cd16 ct16), sl16⟩) (c16 : PySem.W.codeIn K cd16 "_law_tree" = true) (k16 : PySem.W.keepIn K (.ref f16) = true)
    (a17 : PySem.W.nsIn K mainGlobals "_law_put" = some (some (.ref f17))) (l17 : K.lookup f17 = some ⟨oc17, od17, .func (PySem.W.fnOf "_law_put" "_law_put" (defArgs (top 21)) (defBody (top 21)) (defScope (top 21)) .none kV17 dc17 pm17 an17 cd17 ct17), sl17⟩) (c17 : PySem.W.codeIn K cd17 "_law_put" = true) (k17 : PySem.W.keepIn K (.ref f17) = true)
    (a18 : PySem.W.nsIn K mainGlobals "_law_end" = some (some (.ref f18))) (l18 : K.lookup f18 = some ⟨oc18, od18, .func (PySem.W.fnOf "_law_end" "_law_end" (defArgs (top 22)) (defBody (top 22)) (defScope (top 22)) .none kV18 dc18 pm18 an18 cd18 ct18), sl18⟩) (c18 : PySem.W.codeIn K cd18 "_law_end" = true) (k18 : PySem.W.keepIn K (.ref f18) = true)
    (a19 : PySem.W.nsIn K mainGlobals "_law_sides" = some (some (.ref f19))) (l19 : K.lookup f19 = some ⟨oc19, od19, .func (PySem.W.fnOf "_law_sides" "_law_sides" (defArgs (top 23)) (defBody (top 23)) (defScope (top 23)) .none kV19 dc19 pm19 an19 cd19 ct19), sl19⟩) (c19 : PySem.W.codeIn K cd19 "_law_sides" = true) (k19 : PySem.W.keepIn K (.ref f19) = true)
    (a20 : PySem.W.nsIn K mainGlobals "_law_leaves" = some (some (.ref f20))) (l20 : K.lookup f20 = some ⟨oc20, od20, .func (PySem.W.fnOf "_law_leaves" "_law_leaves" (defArgs (top 24)) (defBody (top 24)) (defScope (top 24)) .none kV20 dc20 pm20 an20 cd20 ct20), sl20⟩) (c20 : PySem.W.codeIn K cd20 "_law_leaves" = true) (k20 : PySem.W.keepIn K (.ref f20) = true)
    (a21 : PySem.W.nsIn K mainGlobals "_law_lots" = some (some (.ref f21))) (l21 : K.lookup f21 = some ⟨oc21, od21, .func (PySem.W.fnOf "_law_lots" "_law_lots" (defArgs (top 25)) (defBody (top 25)) (defScope (top 25)) .none kV21 dc21 pm21 an21 cd21 ct21), sl21⟩) (c21 : PySem.W.codeIn K cd21 "_law_lots" = true) (k21 : PySem.W.keepIn K (.ref f21) = true)
    (a22 : PySem.W.nsIn K mainGlobals "_law_left" = some (some (.ref f22))) (l22 : K.lookup f22 = some ⟨oc22, od22, .func (PySem.W.fnOf "_law_left" "_law_left" (defArgs (top 26)) (defBody (top 26)) (defScope (top 26)) .none kV22 dc22 pm22 an22 cd22 ct22), sl22⟩) (c22 : PySem.W.codeIn K cd22 "_law_left" = true) (k22 : PySem.W.keepIn K (.ref f22) = true)
    (a23 : PySem.W.nsIn K mainGlobals "_law_lots_of" = some (some (.ref f23))) (l23 : K.lookup f23 = some ⟨oc23, od23, .func (PySem.W.fnOf "_law_lots_of" "_law_lots_of" (defArgs (top 27)) (defBody (top 27)) (defScope (top 27)) .none kV23 dc23 pm23 an23 cd23 ct23), sl23⟩) (c23 : PySem.W.codeIn K cd23 "_law_lots_of" = true) (k23 : PySem.W.keepIn K (.ref f23) = true)
    (a24 : PySem.W.nsIn K mainGlobals "_law_row" = some (some (.ref f24))) (l24 : K.lookup f24 = some ⟨oc24, od24, .func (PySem.W.fnOf "_law_row" "_law_row" (defArgs (top 28)) (defBody (top 28)) (defScope (top 28)) .none kV24 dc24 pm24 an24 cd24 ct24), sl24⟩) (c24 : PySem.W.codeIn K cd24 "_law_row" = true) (k24 : PySem.W.keepIn K (.ref f24) = true)
    (a25 : PySem.W.nsIn K mainGlobals "_law_choose" = some (some (.ref f25))) (l25 : K.lookup f25 = some ⟨oc25, od25, .func (PySem.W.fnOf "_law_choose" "_law_choose" (defArgs (top 29)) (defBody (top 29)) (defScope (top 29)) .none kV25 dc25 pm25 an25 cd25 ct25), sl25⟩) (c25 : PySem.W.codeIn K cd25 "_law_choose" = true) (k25 : PySem.W.keepIn K (.ref f25) = true)
    (a26 : PySem.W.nsIn K mainGlobals "law" = some (some (.ref f26))) (l26 : K.lookup f26 = some ⟨oc26, od26, .func (PySem.W.fnOf "law" "law" (defArgs (top 30)) (defBody (top 30)) (defScope (top 30)) .none kV26 dc26 pm26 an26 cd26 ct26), sl26⟩) (c26 : PySem.W.codeIn K cd26 "law" = true) (k26 : PySem.W.keepIn K (.ref f26) = true)
    (z0 : PySem.W.nsIn K mainGlobals "len" = some none)
    (z1 : PySem.W.nsIn K mainGlobals "int" = some none)
    (z2 : PySem.W.nsIn K mainGlobals "abs" = some none)
    (z3 : PySem.W.nsIn K mainGlobals "tuple" = some none)
    (z4 : PySem.W.nsIn K mainGlobals "list" = some none)
    (z5 : PySem.W.nsIn K mainGlobals "sorted" = some none)
    (z6 : PySem.W.nsIn K mainGlobals "sum" = some none)
    (z7 : PySem.W.nsIn K mainGlobals "all" = some none)
    (z8 : PySem.W.nsIn K mainGlobals "any" = some none)
    (z9 : PySem.W.nsIn K mainGlobals "max" = some none)
    (z10 : PySem.W.nsIn K mainGlobals "min" = some none)
    (z11 : PySem.W.nsIn K mainGlobals "repr" = some none)
    (z12 : PySem.W.nsIn K mainGlobals "range" = some none)
    (z13 : PySem.W.nsIn K mainGlobals "dict" = some none)
    : Tab l.prog w K mg tb gl own gls := by
  refine ⟨fun x hx => ?_, fun x hx => (nomatch hx), fun f hf => ?_⟩
  · simp only [bltns, List.mem_cons, List.not_mem_nil, or_false] at hx
    rcases hx with rfl | rfl | rfl | rfl | rfl | rfl | rfl | rfl | rfl | rfl | rfl | rfl | rfl | rfl
    · exact PySem.W.mg_none_of X G z0
    · exact PySem.W.mg_none_of X G z1
    · exact PySem.W.mg_none_of X G z2
    · exact PySem.W.mg_none_of X G z3
    · exact PySem.W.mg_none_of X G z4
    · exact PySem.W.mg_none_of X G z5
    · exact PySem.W.mg_none_of X G z6
    · exact PySem.W.mg_none_of X G z7
    · exact PySem.W.mg_none_of X G z8
    · exact PySem.W.mg_none_of X G z9
    · exact PySem.W.mg_none_of X G z10
    · exact PySem.W.mg_none_of X G z11
    · exact PySem.W.mg_none_of X G z12
    · exact PySem.W.mg_none_of X G z13
  · simp only [own, tbl, List.any_cons, List.any_nil, Bool.or_false, Bool.or_eq_true, decide_eq_true_eq] at hf
    rcases hf with rfl | rfl | rfl | rfl | rfl | rfl | rfl | rfl | rfl | rfl | rfl | rfl | rfl | rfl | rfl | rfl | rfl | rfl | rfl | rfl | rfl | rfl | rfl | rfl | rfl | rfl | rfl
    · have F := fun_mk (st := top 1) l0 c0 k0
      exact ⟨f0, _, top 1, ["one", "other"], ["one", "other"], PySem.W.mg_of X G a0, F, F.binds fun _ _ _ _ _ _ us hl => match us, hl with | [_, _], _ => rfl, sc_c_put, by rw [cs_c_put]; exact tb_c_put⟩
    · have F := fun_mk (st := top 2) l1 c1 k1
      exact ⟨f1, _, top 2, ["tree", "place", "lacking"], ["tree", "place"], PySem.W.mg_of X G a1, F, F.binds fun _ _ _ _ _ _ us hl => match us, hl with | [_, _], _ => rfl, sc_c_end_at, by rw [cs_c_end_at]; exact tb_c_end_at⟩
    · have F := fun_mk (st := top 3) l2 c2 k2
      exact ⟨f2, _, top 3, ["tree", "middle"], ["tree"], PySem.W.mg_of X G a2, F, F.binds fun _ _ _ _ _ _ us hl => match us, hl with | [_], _ => rfl, sc_c_sides_of, by rw [cs_c_sides_of]; exact tb_c_sides_of⟩
    · have F := fun_mk (st := top 4) l3 c3 k3
      exact ⟨f3, _, top 4, ["tree", "part"], ["tree"], PySem.W.mg_of X G a3, F, F.binds fun _ _ _ _ _ _ us hl => match us, hl with | [_], _ => rfl, sc_c_leaves_of, by rw [cs_c_leaves_of]; exact tb_c_leaves_of⟩
    · have F := fun_mk (st := top 5) l4 c4 k4
      exact ⟨f4, _, top 5, ["tree", "lot", "part", "found", "number", "one"], ["tree", "lot"], PySem.W.mg_of X G a4, F, F.binds fun _ _ _ _ _ _ us hl => match us, hl with | [_, _], _ => rfl, sc_c_left_tree, by rw [cs_c_left_tree]; exact tb_c_left_tree⟩
    · have F := fun_mk (st := top 6) l5 c5 k5
      exact ⟨f5, _, top 6, ["many", "turn", "found", "line", "late", "lot", "number"], ["many"], PySem.W.mg_of X G a5, F, F.binds fun _ _ _ _ _ _ us hl => match us, hl with | [_], _ => rfl, sc_c_all_lots, by rw [cs_c_all_lots]; exact tb_c_all_lots⟩
    · have F := fun_mk (st := top 7) l6 c6 k6
      exact ⟨f6, _, top 7, ["p", "tree", "lots", "lot"], ["p", "tree"], PySem.W.mg_of X G a6, F, F.binds fun _ _ _ _ _ _ us hl => match us, hl with | [_, _], _ => rfl, sc_c_lots_of, by rw [cs_c_lots_of]; exact tb_c_lots_of⟩
    · have F := fun_mk (st := top 8) l7 c7 k7
      exact ⟨f7, _, top 8, ["p", "tree", "found", "one", "other", "left", "right"], ["p", "tree"], PySem.W.mg_of X G a7, F, F.binds fun _ _ _ _ _ _ us hl => match us, hl with | [_, _], _ => rfl, sc_c_count_of, by rw [cs_c_count_of]; exact tb_c_count_of⟩
    · have F := fun_mk (st := top 9) l8 c8 k8
      exact ⟨f8, _, top 9, ["degree", "one", "other", "found", "p", "c", "q", "d", "late"], ["degree", "one", "other"], PySem.W.mg_of X G a8, F, F.binds fun _ _ _ _ _ _ us hl => match us, hl with | [_, _, _], _ => rfl, sc_c_rows_put, by rw [cs_c_rows_put]; exact tb_c_rows_put⟩
    · have F := fun_mk (st := top 10) l9 c9 k9
      exact ⟨f9, _, top 10, ["degree", "tree", "found", "part", "row", "one", "p"], ["degree", "tree"], PySem.W.mg_of X G a9, F, F.binds fun _ _ _ _ _ _ us hl => match us, hl with | [_, _], _ => rfl, sc_c_row_of, by rw [cs_c_row_of]; exact tb_c_row_of⟩
    · have F := fun_mk (st := top 12) l10 c10 k10
      exact ⟨f10, _, top 12, ["pairs", "found", "p", "c"], ["pairs"], PySem.W.mg_of X G a10, F, F.binds fun _ _ _ _ _ _ us hl => match us, hl with | [_], _ => rfl, sc_c_form_of_pairs, by rw [cs_c_form_of_pairs]; exact tb_c_form_of_pairs⟩
    · have F := fun_mk (st := top 13) l11 c11 k11
      exact ⟨f11, _, top 13, ["form", "tree", "p", "c"], ["form", "tree"], PySem.W.mg_of X G a11, F, F.binds fun _ _ _ _ _ _ us hl => match us, hl with | [_, _], _ => rfl, sc_c_form_worth, by rw [cs_c_form_worth]; exact tb_c_form_worth⟩
    · have F := fun_mk (st := top 15) l12 c12 k12
      exact ⟨f12, _, top 15, ["degree", "a", "b", "pairs", "p", "c", "q", "d"], ["degree", "a", "b"], PySem.W.mg_of X G a12, F, F.binds fun _ _ _ _ _ _ us hl => match us, hl with | [_, _, _], _ => rfl, sc_c_row_times, by rw [cs_c_row_times]; exact tb_c_row_times⟩
    · have F := fun_mk (st := top 17) l13 c13 k13
      exact ⟨f13, _, top 17, ["script", "stirred", "cell", "cells"], ["script"], PySem.W.mg_of X G a13, F, F.binds fun _ _ _ _ _ _ us hl => match us, hl with | [_], _ => rfl, sc_l_open_cells, by rw [cs_l_open_cells]; exact tb_l_open_cells⟩
    · have F := fun_mk (st := top 18) l14 c14 k14
      exact ⟨f14, _, top 18, ["source", "most", "cells", "others", "lap", "stirred"], ["source", "most"], PySem.W.mg_of X G a14, F, F.binds fun _ _ _ _ _ _ us hl => match us, hl with | [_, _], _ => rfl, sc_l_pick, by rw [cs_l_pick]; exact tb_l_pick⟩
    · have F := fun_mk (st := top 19) l15 c15 k15
      exact ⟨f15, _, top 19, ["source", "some"], ["source", "some"], PySem.W.mg_of X G a15, F, F.binds fun _ _ _ _ _ _ us hl => match us, hl with | [_, _], _ => rfl, sc_l_of, by rw [cs_l_of]; exact tb_l_of⟩
    · have F := fun_mk (st := top 20) l16 c16 k16
      exact ⟨f16, _, top 20, ["source", "k", "leaves", "line", "i", "turn"], ["source", "k", "leaves"], PySem.W.mg_of X G a16, F, F.binds fun _ _ _ _ _ _ us hl => match us, hl with | [_, _, _], _ => rfl, sc_l_tree, by rw [cs_l_tree]; exact tb_l_tree⟩
    · have F := fun_mk (st := top 21) l17 c17 k17
      exact ⟨f17, _, top 21, ["one", "other"], ["one", "other"], PySem.W.mg_of X G a17, F, F.binds fun _ _ _ _ _ _ us hl => match us, hl with | [_, _], _ => rfl, sc_l_put, by rw [cs_l_put]; exact tb_l_put⟩
    · have F := fun_mk (st := top 22) l18 c18 k18
      exact ⟨f18, _, top 22, ["tree", "place"], ["tree", "place"], PySem.W.mg_of X G a18, F, F.binds fun _ _ _ _ _ _ us hl => match us, hl with | [_, _], _ => rfl, sc_l_end, by rw [cs_l_end]; exact tb_l_end⟩
    · have F := fun_mk (st := top 23) l19 c19 k19
      exact ⟨f19, _, top 23, ["tree", "middle"], ["tree"], PySem.W.mg_of X G a19, F, F.binds fun _ _ _ _ _ _ us hl => match us, hl with | [_], _ => rfl, sc_l_sides, by rw [cs_l_sides]; exact tb_l_sides⟩
    · have F := fun_mk (st := top 24) l20 c20 k20
      exact ⟨f20, _, top 24, ["tree", "part"], ["tree"], PySem.W.mg_of X G a20, F, F.binds fun _ _ _ _ _ _ us hl => match us, hl with | [_], _ => rfl, sc_l_leaves, by rw [cs_l_leaves]; exact tb_l_leaves⟩
    · have F := fun_mk (st := top 25) l21 c21 k21
      exact ⟨f21, _, top 25, ["n", "k", "found", "turn", "late", "lot", "a"], ["n", "k"], PySem.W.mg_of X G a21, F, F.binds fun _ _ _ _ _ _ us hl => match us, hl with | [_, _], _ => rfl, sc_l_lots, by rw [cs_l_lots]; exact tb_l_lots⟩
    · have F := fun_mk (st := top 26) l22 c22 k22
      exact ⟨f22, _, top 26, ["tree", "lot", "many", "one", "other", "number"], ["tree", "lot"], PySem.W.mg_of X G a22, F, F.binds fun _ _ _ _ _ _ us hl => match us, hl with | [_, _], _ => rfl, sc_l_left, by rw [cs_l_left]; exact tb_l_left⟩
    · have F := fun_mk (st := top 27) l23 c23 k23
      exact ⟨f23, _, top 27, ["p", "tree", "lot"], ["p", "tree"], PySem.W.mg_of X G a23, F, F.binds fun _ _ _ _ _ _ us hl => match us, hl with | [_, _], _ => rfl, sc_l_lots_of, by rw [cs_l_lots_of]; exact tb_l_lots_of⟩
    · have F := fun_mk (st := top 28) l24 c24 k24
      exact ⟨f24, _, top 28, ["degree", "tree", "j", "found", "many", "lot", "p"], ["degree", "tree"], PySem.W.mg_of X G a24, F, F.binds fun _ _ _ _ _ _ us hl => match us, hl with | [_, _], _ => rfl, sc_l_row, by rw [cs_l_row]; exact tb_l_row⟩
    · have F := fun_mk (st := top 29) l25 c25 k25
      exact ⟨f25, _, top 29, ["n", "j", "i", "top", "bottom"], ["n", "j"], PySem.W.mg_of X G a25, F, F.binds fun _ _ _ _ _ _ us hl => match us, hl with | [_, _], _ => rfl, sc_l_choose, by rw [cs_l_choose]; exact tb_l_choose⟩
    · have F := fun_mk (st := top 30) l26 c26 k26
      exact ⟨f26, _, top 30, ["script", "source", "lap", "k", "many", "turn", "degree", "row", "j", "tree", "other", "p", "due", "twin", "late", "form", "numbers", "both", "parted", "q", "r", "n", "c"], ["script"], PySem.W.mg_of X G a26, F, F.binds fun _ _ _ _ _ _ us hl => match us, hl with | [_], _ => rfl, sc_c_law, by rw [cs_c_law]; exact tb_c_law⟩
end K
end Ev
end

section
set_option autoImplicit false
set_option maxRecDepth 100000
set_option linter.unusedVariables false
set_option linter.unusedSimpArgs false
open PySem L2
namespace Ev
/-- a comprehension whose turns leave the store alone -/
theorem compL_gen {α : Type} {elt c : Env → Sto → Option (D × Sto)} {t : T} {env : Env} {g : Src} {S : Sto} (hok : g.ok S = true) (it val : α → D) (keep : α → Bool) : ∀ (xs : List α) (acc : List D),
    (∀ x ∈ xs, ∃ env1, setT S t (it x) env = some env1 ∧ c env1 S = some (.bl (keep x), S) ∧ (keep x = true → elt env1 S = some (val x, S))) → xs.length + acc.length ≤ 1000000 →
    compL elt c t env g (xs.map it) acc S = some (acc ++ (xs.filter keep).map val, S)
  | [], acc, _, _ => by simp [compL, hok]
  | x :: xs, acc, h, hl => by
    obtain ⟨env1, h1, h2, h3⟩ := h x (List.mem_cons_self ..)
    rw [List.length_cons] at hl
    rw [List.map_cons, compL, if_pos hok, h1, Option.bind_some, h2, bnd_some]
    cases hk : keep x with
    | false =>
      have := compL_gen hok it val keep xs acc (fun y hy => h y (List.mem_cons_of_mem _ hy)) (by omega)
      simp only
      rw [this]
      simp [hk]
    | true =>
      have := compL_gen hok it val keep xs (acc ++ [val x]) (fun y hy => h y (List.mem_cons_of_mem _ hy)) (by simp; omega)
      simp only
      rw [h3 hk, bnd_some, if_pos (by simp [L]; omega), this]
      simp [hk]
theorem newL_le' {s : Sto} {ds : List D} (h : ds.length ≤ L) : newL s ds = some (.ref s.length, s ++ [.lst ds]) := by rw [newL, if_pos h]
namespace K
theorem get_set {S : Sto} {f : Nat} {X Y : C} (h : S[f]? = some Y) : (S.set f X)[f]? = some X := by
  have := (List.getElem?_eq_some_iff.1 h).1
  rw [List.getElem?_set_self this]
/-! the source of picks -/
def srcK (i : Nat) (lf mx tn : Int) : List (D × D) := [(.str (Str.ofString "cells"), .ref i), (.str (Str.ofString "left"), .int lf), (.str (Str.ofString "mixed"), .int mx), (.str (Str.ofString "turn"), .int tn)]
structure Src (r i : Nat) (s : Sto) (cs : List Int) (lf mx tn : Int) : Prop where
  d : s[r]? = some (C.dct (srcK i lf mx tn))
  c : s[i]? = some (C.lst (cs.map .int))
  ne : i ≠ r
  le : cs.length ≤ 100
def SrcE (r i : Nat) (s : Sto) : Prop := ∃ cs lf mx tn, Src r i s cs lf mx tn
def Fr (r i : Nat) (s s' : Sto) : Prop := s.length ≤ s'.length ∧ ∀ j, j < s.length → j ≠ r → j ≠ i → s'[j]? = s[j]?
theorem Fr.rfl' {r i : Nat} {s : Sto} : Fr r i s s := ⟨Nat.le_refl _, fun _ _ _ _ => rfl⟩
theorem Fr.trans {r i : Nat} {s s' s'' : Sto} (h : Fr r i s s') (h' : Fr r i s' s'') : Fr r i s s'' :=
  ⟨Nat.le_trans h.1 h'.1, fun j h1 h2 h3 => (h'.2 j (Nat.lt_of_lt_of_le h1 h.1) h2 h3).trans (h.2 j h1 h2 h3)⟩
theorem fr_set_r {r i : Nat} {s : Sto} {X : C} : Fr r i s (s.set r X) := ⟨by simp, fun j _ h _ => by rw [List.getElem?_set_ne (fun z => h z.symm)]⟩
theorem fr_set_i {r i : Nat} {s : Sto} {X : C} : Fr r i s (s.set i X) := ⟨by simp, fun j _ _ h => by rw [List.getElem?_set_ne (fun z => h z.symm)]⟩
theorem fr_app {r i : Nat} {s u : Sto} : Fr r i s (s ++ u) := ⟨by simp, fun j h _ _ => by rw [List.getElem?_append_left h]⟩
theorem Src.app {r i : Nat} {s u : Sto} {cs : List Int} {lf mx tn : Int} (h : Src r i s cs lf mx tn) : Src r i (s ++ u) cs lf mx tn :=
  ⟨by rw [List.getElem?_append_left (List.getElem?_eq_some_iff.1 h.d).1]; exact h.d, by rw [List.getElem?_append_left (List.getElem?_eq_some_iff.1 h.c).1]; exact h.c, h.ne, h.le⟩
theorem SrcE.app {r i : Nat} {s u : Sto} : SrcE r i s → SrcE r i (s ++ u) := fun ⟨a, b, c, d, h⟩ => ⟨a, b, c, d, h.app⟩
theorem kne1 : (D.str (Str.ofString "cells") = D.str (Str.ofString "left")) = False := by simp only [eq_iff_iff, iff_false]; decide +kernel
theorem kne2 : (D.str (Str.ofString "cells") = D.str (Str.ofString "mixed")) = False := by simp only [eq_iff_iff, iff_false]; decide +kernel
theorem kne3 : (D.str (Str.ofString "cells") = D.str (Str.ofString "turn")) = False := by simp only [eq_iff_iff, iff_false]; decide +kernel
theorem kne4 : (D.str (Str.ofString "left") = D.str (Str.ofString "mixed")) = False := by simp only [eq_iff_iff, iff_false]; decide +kernel
theorem kne5 : (D.str (Str.ofString "left") = D.str (Str.ofString "turn")) = False := by simp only [eq_iff_iff, iff_false]; decide +kernel
theorem kne6 : (D.str (Str.ofString "mixed") = D.str (Str.ofString "turn")) = False := by simp only [eq_iff_iff, iff_false]; decide +kernel
theorem kne1' : (D.str (Str.ofString "left") = D.str (Str.ofString "cells")) = False := by simp only [eq_iff_iff, iff_false]; decide +kernel
theorem kne2' : (D.str (Str.ofString "mixed") = D.str (Str.ofString "cells")) = False := by simp only [eq_iff_iff, iff_false]; decide +kernel
theorem kne3' : (D.str (Str.ofString "turn") = D.str (Str.ofString "cells")) = False := by simp only [eq_iff_iff, iff_false]; decide +kernel
theorem kne4' : (D.str (Str.ofString "mixed") = D.str (Str.ofString "left")) = False := by simp only [eq_iff_iff, iff_false]; decide +kernel
theorem kne5' : (D.str (Str.ofString "turn") = D.str (Str.ofString "left")) = False := by simp only [eq_iff_iff, iff_false]; decide +kernel
theorem kne6' : (D.str (Str.ofString "turn") = D.str (Str.ofString "mixed")) = False := by simp only [eq_iff_iff, iff_false]; decide +kernel
section
variable {n r i : Nat} {s : Sto} {cs : List Int} {lf mx tn : Int}
theorem Src.fits (x : Str) : keyFits (srcK i lf mx tn) (.str x) = true := by simp [keyFits, srcK, atomK]
theorem Src.at (h : Src r i s cs lf mx tn) (x : Str) : idxD (.ref r) (.str x) s = (dget (srcK i lf mx tn) (.str x)).map fun d => (d, s) := by
  simp [idxD, h.d, C.kvs, Src.fits]
theorem g_cells : dget (srcK i lf mx tn) (.str (Str.ofString "cells")) = some (.ref i) := by simp [dget, srcK]
theorem g_left : dget (srcK i lf mx tn) (.str (Str.ofString "left")) = some (.int lf) := by simp only [dget, srcK, List.find?, kne1, decide_false, decide_true, Option.map_some]
theorem g_mixed : dget (srcK i lf mx tn) (.str (Str.ofString "mixed")) = some (.int mx) := by simp only [dget, srcK, List.find?, kne2, kne4, decide_false, decide_true, Option.map_some]
theorem g_turn : dget (srcK i lf mx tn) (.str (Str.ofString "turn")) = some (.int tn) := by simp only [dget, srcK, List.find?, kne3, kne5, kne6, decide_false, decide_true, Option.map_some]
theorem p_left (v : Int) : dput (srcK i lf mx tn) (.str (Str.ofString "left")) (.int v) = srcK i v mx tn := by
  simp only [dput, srcK, List.any_cons, List.any_nil, kne1, kne4', kne5', decide_false, decide_true, Bool.false_or, Bool.true_or, if_true, List.map_cons, List.map_nil, if_false]
theorem p_turn (v : Int) : dput (srcK i lf mx tn) (.str (Str.ofString "turn")) (.int v) = srcK i lf mx v := by
  simp only [dput, srcK, List.any_cons, List.any_nil, kne3, kne5, kne6, decide_false, decide_true, Bool.false_or, Bool.true_or, if_true, List.map_cons, List.map_nil, if_false]
theorem srcK_len : (srcK i lf mx tn).length < L := by simp [srcK, L]
theorem Src.set_left (h : Src r i s cs lf mx tn) (v : Int) : setD (.ref r) (.str (Str.ofString "left")) (.int v) s = some (s.set r (C.dct (srcK i v mx tn))) := by
  simp only [setD, h.d, Src.fits, srcK_len, decide_true, Bool.and_true, if_true, p_left]
theorem Src.set_turn (h : Src r i s cs lf mx tn) (v : Int) : setD (.ref r) (.str (Str.ofString "turn")) (.int v) s = some (s.set r (C.dct (srcK i lf mx v))) := by
  simp only [setD, h.d, Src.fits, srcK_len, decide_true, Bool.and_true, if_true, p_turn]
theorem Src.setR (h : Src r i s cs lf mx tn) (lf' mx' tn' : Int) : Src r i (s.set r (C.dct (srcK i lf' mx' tn'))) cs lf' mx' tn' :=
  ⟨get_set h.d, by rw [List.getElem?_set_ne h.ne.symm]; exact h.c, h.ne, h.le⟩
def pkTest : E := .and (.cmp .Lt (.idx (.var 0) (.lit (.str (Str.ofString "left")))) (.lit (.int (2)))) (.cmp .Gt (.bif .len [(.var 2)]) (.lit (.int (0))))
def pkBody : List Ev.S := [.seti (.var 0) (.lit (.str (Str.ofString "left"))) (.mth .pop (.var 2) [])]
theorem pk_loop {cl : Str → List D → Sto → Option (D × Sto)} {gl : Str → Option D} {most : Option D} {o3 o4 o5 : Option D} {i : Nat} : ∀ (f : Nat) (cs : List Int) (s : Sto) (lf : Int), Src r i s cs lf mx tn → cs.length < f →
    ∃ s' cs' lf', whlL (evE cl gl pkTest) (evSs cl gl pkBody) f [some (.ref r), most, some (.ref i), o3, o4, o5] s = some ((.nx, [some (.ref r), most, some (.ref i), o3, o4, o5]), s') ∧ Src r i s' cs' lf' mx tn ∧ Fr r i s s' ∧ s'.length = s.length
  | 0, cs, s, lf, h, hf => by omega
  | f + 1, cs, s, lf, h, hf => by
    have e1 := h.at (Str.ofString "left")
    rw [g_left] at e1
    have e2 : bifD .len [.ref i] s = some (.int (cs.length : Nat), s) := by simp [bifD, h.c]
    have ht : evE cl gl pkTest [some (.ref r), most, some (.ref i), o3, o4, o5] s = some (.bl (decide (lf < 2) && decide (0 < cs.length)), s) := by
      by_cases h1 : lf < 2 <;> simp [pkTest, e1, e2, cmpD, cmpI, h1, E.isStar]
    rw [whlL, ht, bnd_some]
    by_cases hc : lf < 2 ∧ 0 < cs.length
    · simp only [hc.1, hc.2, decide_true, Bool.and_self]
      obtain ⟨cs0, c0, rfl⟩ : ∃ l x, cs = l ++ [x] := ⟨cs.dropLast, cs.getLast (by intro z; rw [z] at hc; simp at hc), (List.dropLast_concat_getLast _).symm⟩
      have p1 : mthOk .pop (.ref i) s = true := by simp [mthOk, h.c]
      have p2 : mthD .pop (.ref i) [] s = some (.int c0, s.set i (C.lst (cs0.map .int))) := by simp [mthD, h.c]
      have h2 : Src r i (s.set i (C.lst (cs0.map .int))) cs0 lf mx tn := ⟨by rw [List.getElem?_set_ne h.ne]; exact h.d, get_set h.c, h.ne, by have := h.le; simp at this; omega⟩
      have p3 := h2.set_left c0
      have h3 := h2.setR c0 mx tn
      obtain ⟨s', cs', lf', w, h4, h5, h6⟩ := pk_loop (cl := cl) (gl := gl) (most := most) (o3 := o3) (o4 := o4) (o5 := o5) f cs0 _ c0 h3 (by simp at hf; omega)
      refine ⟨s', cs', lf', ?_, h4, (Fr.trans fr_set_i fr_set_r).trans h5, by rw [h6]; simp⟩
      have hb : evSs cl gl pkBody [some (.ref r), most, some (.ref i), o3, o4, o5] s = some ((.nx, [some (.ref r), most, some (.ref i), o3, o4, o5]), (s.set i (C.lst (cs0.map .int))).set r (C.dct (srcK i c0 mx tn))) := by
        simp only [pkBody, q_cons, q_seti, r_mth, r_var, look_succ, look_zero, Option.map_some, bnd_some, p1, if_true, r_nil, p2, r_lit, p3, q_nil]
      rw [hb]
      exact w
    · refine ⟨s, cs, lf, ?_, h, Fr.rfl', rfl⟩
      have : (decide (lf < 2) && decide (0 < cs.length)) = false := by
        simp only [Bool.and_eq_false_iff, decide_eq_false_iff_not]
        by_cases h1 : lf < 2
        · exact Or.inr fun z => hc ⟨h1, z⟩
        · exact Or.inl h1
      rw [this]
theorem mul_okr {a b : Int} (h : b.natAbs < 2 ^ 64) : mulOk a b = true := by
  unfold mulOk
  rw [decide_eq_true h, Bool.or_true]
theorem div_ok {j : Int} (h : 0 < j) (h' : j < 2 ^ 40) : divOk j = true := by
  have h1 : j ≠ 0 := by omega
  have h2 : j.natAbs < 2 ^ 40 := by omega
  have h3 : j.natAbs.log2 < 40 := (Nat.log2_lt (by omega)).2 h2
  unfold divOk
  simp [h1]
  omega
theorem pick_run {most : Int} (h1 : 1 ≤ most) (h2 : most < 2 ^ 40) (hs : SrcE r i s) : ∃ v s', callD tb gl (n + 1) "_law_pick" [.ref r, .int most] s = some (.int v, s') ∧ 0 ≤ v ∧ v < most ∧ SrcE r i s' ∧ Fr r i s s' ∧ s'.length = s.length := by
  obtain ⟨cs, lf, mx, tn, hs⟩ := hs
  by_cases h3 : most < 2
  · refine ⟨0, s, ?_, by omega, by omega, ⟨cs, lf, mx, tn, hs⟩, Fr.rfl', rfl⟩
    rw [callR' tb_l_pick rfl rfl]
    refine body_rt (env := [some (.ref r), some (.int most), none, none, none, none]) ?_
    simp [l_pick, cmpD, cmpI, h3]
  · obtain ⟨s1, cs1, lf1, w, hs1, f1, len1⟩ := pk_loop (cl := callD tb gl n) (gl := gl) (most := some (.int most)) (o3 := none) (o4 := none) (o5 := none) turnsMost cs s lf hs (by have := hs.le; simp only [turnsMost]; omega)
    have e1 := hs.at (Str.ofString "cells")
    rw [g_cells] at e1
    have e2 := hs1.at (Str.ofString "left")
    rw [g_left] at e2
    have hd := div_ok (j := most) (by omega) h2
    have start : ∀ rest, evSs (callD tb gl n) gl (.ite (.cmp .Lt (.var 1) (.lit (.int (2)))) [.ret (some (.lit (.int (0))))] [] :: .asg (.nm 2) (.idx (.var 0) (.lit (.str (Str.ofString "cells")))) :: .whl pkTest pkBody :: .asg (.nm 3) (.idx (.var 0) (.lit (.str (Str.ofString "left")))) :: rest) [some (.ref r), some (.int most), none, none, none, none] s =
        evSs (callD tb gl n) gl rest [some (.ref r), some (.int most), some (.ref i), some (.int lf1), none, none] s1 := fun rest => by
      rw [q_step (env' := [some (.ref r), some (.int most), none, none, none, none]) (s' := s) (by simp [cmpD, cmpI, h3]),
        q_step (env' := [some (.ref r), some (.int most), some (.ref i), none, none, none]) (s' := s) (by simp [e1]),
        q_step (by rw [q_whl]; exact w), q_step (env' := [some (.ref r), some (.int most), some (.ref i), some (.int lf1), none, none]) (s' := s1) (by simp [e2])]
    by_cases h4 : 1 < lf1
    · have e3 := hs1.set_left (lf1.fdiv most)
      refine ⟨lf1.fmod most, _, ?_, Int.fmod_nonneg_of_pos _ (by omega), Int.fmod_lt_of_pos _ (by omega), ⟨cs1, _, _, _, hs1.setR (lf1.fdiv most) mx tn⟩, f1.trans fr_set_r, by simp [len1]⟩
      rw [callR' tb_l_pick rfl rfl]
      refine body_rt (env := [some (.ref r), some (.int most), some (.ref i), some (.int lf1), none, none]) ?_
      refine (start _).trans ?_
      simp [cmpD, cmpI, h4, binD, hd, e3, bifD, E.isStar]
    · have e3 := hs1.at (Str.ofString "turn")
      rw [g_turn] at e3
      have e4 := hs1.set_turn (tn + 1)
      have hs2 := hs1.setR lf1 mx (tn + 1)
      have e5 := hs2.at (Str.ofString "turn")
      rw [g_turn] at e5
      have e6 := hs2.at (Str.ofString "mixed")
      rw [g_mixed] at e6
      have m1 : mulOk (tn + 1) 104729 = true := mul_okr (by decide)
      have m2 : mulOk (tn + 1) 17 = true := mul_okr (by decide)
      have d1 : divOk 998244353 = true := div_ok (by decide) (by decide)
      have d2 : divOk 2147483647 = true := div_ok (by decide) (by decide)
      have d3 : divOk 16 = true := div_ok (by decide) (by decide)
      have b1 := Int.fmod_nonneg_of_pos (mx + (tn + 1) * 104729) (show (0 : Int) < 998244353 by decide)
      have b2 := Int.fmod_lt_of_pos (mx + (tn + 1) * 104729) (show (0 : Int) < 998244353 by decide)
      have m3 : mulOk ((mx + (tn + 1) * 104729).fmod 998244353) ((mx + (tn + 1) * 104729).fmod 998244353) = true := mul_okr (by omega)
      refine ⟨((((mx + (tn + 1) * 104729).fmod 998244353 * (mx + (tn + 1) * 104729).fmod 998244353 + (tn + 1) * 17).fmod 2147483647).fdiv 16).fmod most, _, ?_, Int.fmod_nonneg_of_pos _ (by omega), Int.fmod_lt_of_pos _ (by omega), ⟨cs1, _, _, _, hs2⟩, f1.trans fr_set_r, by simp [len1]⟩
      rw [callR' tb_l_pick rfl rfl]
      refine body_rt (env := [some (.ref r), some (.int most), some (.ref i), some (.int lf1), some (.int (tn + 1)), some (.int (((mx + (tn + 1) * 104729).fmod 998244353 * (mx + (tn + 1) * 104729).fmod 998244353 + (tn + 1) * 17).fmod 2147483647))]) ?_
      refine (start _).trans ?_
      simp [cmpD, cmpI, h4, binD, hd, e3, e4, e5, e6, bifD, E.isStar, m1, m2, m3, d1, d2, d3]
def ocBody : List Ev.S := [.asg (.nm 1) (.bin .Mod (.bif .int [(.bin .Add (.bin .Add (.bin .Mult (.var 1) (.lit (.int (69069)))) (.bin .Mult (.var 2) (.lit (.int (31))))) (.lit (.int (5))))]) (.lit (.int (2147483629))))]
theorem oc_loop {cl : Str → List D → Sto → Option (D × Sto)} {gl : Str → Option D} {g : Ev.Src} {o : Option D} (hg : g.keep = []) : ∀ (ns : List Int) (m : Int) (o2 : Option D), ∃ m' o2', forL (evSs cl gl ocBody) (.nm 2) g (ns.map .int) [o, some (.int m), o2, none] s = some ((.nx, [o, some (.int m'), o2', none]), s)
  | [], m, o2 => ⟨m, o2, by simp [forL, Src.ok, hg, Ev.Src.ok]⟩
  | x :: ns, m, o2 => by
    obtain ⟨m', o2', ih⟩ := oc_loop (cl := cl) (gl := gl) (o := o) hg ns ((m * 69069 + x * 31 + 5).fmod 2147483629) (some (.int x))
    refine ⟨m', o2', ?_⟩
    have m1 : mulOk m 69069 = true := mul_okr (by decide)
    have m2 : mulOk x 31 = true := mul_okr (by decide)
    have d1 : divOk 2147483629 = true := div_ok (by decide) (by decide)
    have hb : evSs cl gl ocBody [o, some (.int m), some (.int x), none] s = some ((.nx, [o, some (.int ((m * 69069 + x * 31 + 5).fmod 2147483629)), some (.int x), none]), s) := by
      simp [ocBody, binD, bifD, m1, m2, d1, E.isStar]
    rw [List.map_cons, forL]
    simp only [Ev.Src.ok, hg, List.all_nil, if_true, t_nm, Option.bind_some, List.set_cons_succ, List.set_cons_zero]
    rw [hb]
    exact ih
theorem pair_src (m : Int) : pairUp [] [.str (Str.ofString "cells"), .ref 1, .str (Str.ofString "left"), .int 1, .str (Str.ofString "mixed"), .int m, .str (Str.ofString "turn"), .int 0] = some (srcK 1 1 m 0) := by
  simp only [pairUp, keyFits, atomK, List.all_nil, List.all_cons, Bool.and_true, Bool.true_or, List.length_nil, dput, List.any_nil, List.any_cons, Bool.false_eq_true, if_false, List.nil_append, kne1, kne2, kne3, kne4, kne5, kne6, decide_false, Bool.false_or, Bool.or_false, List.length_cons, List.cons_append, Bool.or_self]
  rfl
theorem open_run {ns : List Int} (h : ns.length ≤ 63) : ∃ sub, callD tb gl (n + 1) "_law_open_cells" [.scr ns] [] = some (.ref 2, sub) ∧ SrcE 2 1 sub ∧ sub.length = 3 := by
  obtain ⟨m, o2, hl⟩ := oc_loop (s := []) (cl := callD tb gl n) (gl := gl) (o := some (.scr ns)) (g := ⟨ns.map .int, [], none⟩) rfl ns 11 none
  have hfor : evS (callD tb gl n) gl (.for (.nm 2) (.seq (.var 0)) ocBody) [some (.scr ns), some (.int 11), none, none] [] = some ((.nx, [some (.scr ns), some (.int m), o2, none]), []) := by
    rw [q_for, r_seq, r_var]
    simp only [look_succ, look_zero, Option.map_some, bnd_some, srcOf, lockS, unlockS]
    rw [hl, bnd_some]
  have hcomp := compL_gen (elt := evE (callD tb gl n) gl (.bif .abs [(.var 2)])) (c := evC (callD tb gl n) gl none) (t := .nm 2) (env := [some (.scr ns), some (.int m), none, none])
    (g := ⟨ns.map .int, [], none⟩) (S := []) rfl (fun x : Int => D.int x) (fun x => D.int (x.natAbs : Nat)) (fun _ => true) ns [] (fun x hx => ⟨_, t_nm, r_cnone, fun _ => by simp [bifD, E.isStar]⟩) (by simp; omega)
  have hfil : ns.filter (fun _ => true) = ns := List.filter_eq_self.2 fun _ _ => rfl
  rw [hfil, List.nil_append] at hcomp
  have hb : bodyD (callD tb gl n) gl ⟨1, 4, l_open_cells⟩ [.scr ns] [] = some (.ref 2, [C.lst (ns.map fun x => D.int (x.natAbs : Nat)), C.lst (ns.map fun x => D.int (x.natAbs : Nat)).reverse, C.dct (srcK 1 1 m 0)]) := by
    refine body_rt (env := [some (.scr ns), some (.int m), o2, some (.ref 0)]) ?_
    show evSs _ _ [.asg (.nm 1) (.lit (.int (11))), .for (.nm 2) (.seq (.var 0)) ocBody, .asg (.nm 3) (.comp [2] (.nm 2) (.seq (.var 0)) (.bif .abs [(.var 2)]) none),
      .ret (some (.dct [(.lit (.str (Str.ofString "cells"))), (.rev (.var 3)), (.lit (.str (Str.ofString "left"))), (.lit (.int (1))), (.lit (.str (Str.ofString "mixed"))), (.var 1), (.lit (.str (Str.ofString "turn"))), (.lit (.int (0)))]))] [some (.scr ns), none, none, none] [] = _
    rw [q_step (env' := [some (.scr ns), some (.int 11), none, none]) (s' := []) (by simp), q_step hfor,
      q_step (env' := [some (.scr ns), some (.int m), o2, some (.ref 0)]) (s' := [C.lst (ns.map fun x => D.int (x.natAbs : Nat))]) (by
        have hw : wipeD [some (.scr ns), some (.int m), o2, none] [2] = [some (.scr ns), some (.int m), none, none] := rfl
        simp only [q_asg, r_comp, r_seq, r_var, look_succ, look_zero, Option.map_some, bnd_some, srcOf, lockS, unlockS, hw, hcomp, t_nm]
        rfl)]
    have e1 : revD (.ref 0) [C.lst (ns.map fun x => D.int (x.natAbs : Nat))] = some (.ref 1, [C.lst (ns.map fun x => D.int (x.natAbs : Nat)), C.lst (ns.map fun x => D.int (x.natAbs : Nat)).reverse]) := by
      show newL _ _ = _
      rw [newL_le' (by simp [L]; omega)]
      rfl
    simp only [q_cons, q_ret, r_dct, r_cons, r_lit, bnd_some, r_rev, r_var, look_succ, look_zero, Option.map_some, e1, r_nil, E.isStar, Bool.false_eq_true, if_false, pair_src]
    rfl
  have hq := callQ (n := n) (tb := tb) (gl := gl) (s := []) tb_l_open_cells rfl rfl hb rfl
  refine ⟨_, hq, ⟨(ns.map fun x => (x.natAbs : Int)).reverse, 1, m, 0, ?_, ?_, by decide, by simp; omega⟩, rfl⟩
  · rfl
  · show some (C.shift 0 (C.lst (ns.map fun x => D.int (x.natAbs : Nat)).reverse)) = _
    rw [C.shift, List.map_reverse, List.map_reverse, List.map_map, List.map_map]
    rfl
end

def SPk : SPr := ⟨SrcE, fun {r i s s'} h1 h2 ⟨cs, lf, mx, tn, h⟩ => ⟨cs, lf, mx, tn, by rw [h1]; exact h.d, by rw [h2]; exact h.c, h.ne, h.le⟩⟩
theorem pick_prim (n : Nat) (us : List U) (Q : U → Prop) (h : pickP us Q) (sr : Option (Nat × Nat)) (A : Nat → Prop) (s : Sto) (ds : List D) (hr : Rps sr A s us ds) (hsr : ∀ j, sc sr j → A j) (hb : ∀ j, A j → j < s.length) (hs : SrcOk SPk sr s) :
    ∃ d s' u, callD tb gl (n + 1) "_law_pick" ds s = some (d, s') ∧ Q u ∧ Rp sr A s' u d ∧ SrcOk SPk sr s' ∧ s.length ≤ s'.length ∧ ∀ j, j < s.length → ¬ sc sr j → s'[j]? = s[j]? := by
  obtain ⟨k, rfl, h1, h2, hq⟩ := h
  obtain _ | ⟨ra, rb⟩ := hr
  obtain _ | ⟨rb, rc⟩ := rb
  cases rc
  cases rb
  cases ra with
  | src e =>
    rename_i r i
    obtain ⟨v, s', hp, v0, v1, hs', hf, hl⟩ := pick_run (n := n) (most := k) h1 h2 (hs r i e)
    refine ⟨_, s', _, hp, hq v v0 v1, .int, fun a b e' => by rw [e] at e'; cases e'; exact hs', Nat.le_of_eq hl.symm, fun j a b => hf.2 j a (fun z => b ⟨r, i, e, .inl z⟩) fun z => b ⟨r, i, e, .inr z⟩⟩
end K
end Ev
end

section
set_option autoImplicit false
set_option maxRecDepth 100000
set_option linter.unusedVariables false
set_option linter.unusedSimpArgs false
open PySem L2
namespace Ev
namespace K
/-! trees -/
structure Lf where
  v : Int
  h : v ≠ -1
deriving DecidableEq
theorem Lf.ext' {a b : Lf} (h : a.v = b.v) : a = b := by cases a; cases b; cases h; rfl
inductive Tr where
  | leaf (a : Lf)
  | node (l r : Tr)
deriving DecidableEq
def Tr.code : Tr → List Int
  | .leaf a => [a.v]
  | .node l r => -1 :: (l.code ++ r.code)
def Tr.size : Tr → Nat
  | .leaf _ => 1
  | .node l r => l.size + r.size
def pc : Option Tr → List Int
  | none => []
  | some t => t.code
def nl : Option Tr → Nat
  | none => 0
  | some t => t.size
def pt : Option Tr → Option Tr → Option Tr
  | none, q => q
  | some p, none => some p
  | some p, some q => some (.node p q)
theorem code_ne (t : Tr) : t.code ≠ [] := by cases t <;> simp [Tr.code]
theorem pc_nil (p : Option Tr) : pc p = [] ↔ p = none := by
  cases p with
  | none => simp [pc]
  | some t => simp [pc, code_ne]
theorem size_pos : ∀ t : Tr, 0 < t.size
  | .leaf _ => Nat.one_pos
  | .node l r => by have := size_pos l; simp only [Tr.size]; omega
theorem code_len : ∀ t : Tr, t.code.length + 1 = 2 * t.size
  | .leaf _ => rfl
  | .node l r => by
    have := code_len l
    have := code_len r
    simp only [Tr.code, Tr.size, List.length_cons, List.length_append]
    omega
theorem pc_len (p : Option Tr) : (pc p).length ≤ 2 * nl p := by
  cases p with
  | none => simp [pc, nl]
  | some t => have := code_len t; simp only [pc, nl]; omega
theorem code_inj : ∀ {p t : Tr} {u v : List Int}, p.code ++ u = t.code ++ v → p = t ∧ u = v
  | .leaf a, .leaf b, u, v, h => by
    simp [Tr.code] at h
    obtain ⟨h, rfl⟩ := h
    exact ⟨congrArg Tr.leaf (Lf.ext' h), rfl⟩
  | .leaf a, .node l r, u, v, h => by
    simp [Tr.code] at h
    exact absurd h.1 a.h
  | .node l r, .leaf a, u, v, h => by
    simp [Tr.code] at h
    exact absurd h.1.symm a.h
  | .node l r, .node l' r', u, v, h => by
    simp only [Tr.code, List.cons_append, List.append_assoc, List.cons.injEq, true_and] at h
    obtain ⟨rfl, h2⟩ := code_inj h
    obtain ⟨rfl, h3⟩ := code_inj h2
    exact ⟨rfl, h3⟩
theorem code_inj' {p t : Tr} (e : p.code = t.code) : p = t := (code_inj (u := []) (v := []) (by simpa using e)).1
theorem pc_inj {p q : Option Tr} (e : pc p = pc q) : p = q := by
  cases p with
  | none => cases q with
    | none => rfl
    | some t => exact absurd e.symm (code_ne t)
  | some s => cases q with
    | none => exact absurd e (code_ne s)
    | some t => rw [code_inj' e]
theorem code_eq {p t : Tr} : (p.code = t.code) = (p = t) := propext ⟨code_inj', fun h => by rw [h]⟩
theorem pc_eq {p t : Option Tr} : (pc p = pc t) = (p = t) := propext ⟨pc_inj, fun h => by rw [h]⟩
theorem nl_pt (p q : Option Tr) : nl (pt p q) = nl p + nl q := by cases p <;> cases q <;> simp [pt, nl, Tr.size]
/-- a tree, or no tree, as a value -/
def tU (p : Option Tr) : U := tI (pc p)
/-! what is known by other roads -/
def prim (f : Str) : Option (Nat → List U → PT) := if f = "_law_pick" then some fun _ us Q => pickP us Q else none
theorem prim_ok : PrimOk SPk tb gl prim := fun f P e n us Q h sr A s ds => by
  unfold prim at e
  split at e
  · rename_i hf; subst hf; cases e; exact pick_prim n us Q h sr A s ds
  · cases e
theorem prim_hl (f : Str) (P : Nat → List U → PT) (e : prim f = some P) (n : Nat) (us : List U) : Hl (P n us) := by
  unfold prim at e
  split at e
  · cases e; exact pick_hl us
  · cases e
abbrev cw (n : Nat) : Str → List U → PT := callW tb gu prim n
theorem hcw (n : Nat) (f : Str) (us : List U) : Hl (cw n f us) := hCall prim_hl n f us
/-- from an outcome to an equation -/
theorem cw_eq {n : Nat} {f : Str} {us : List U} {u : U} (h : ∀ Q : U → Prop, Q u → cw n f us Q) (Q : U → Prop) : cw n f us Q = Q u := (hcw n f us).eq (h _ rfl) Q
theorem L_eq' : L = 16777216 := rfl
section
variable {n : Nat} {Q : U → Prop}
theorem put_eq {p q : Option Tr} (h : nl p + nl q ≤ 1000) : cw (n + 1) "put" [tU p, tU q] Q = Q (tU (pt p q)) := by
  have h1 := pc_len p
  have h2 := pc_len q
  unfold cw
  rw [callT rfl tb_c_put rfl]
  have e : ∀ a b : List Int, a.length + b.length ≤ 3000 → newTU (a.map U.int ++ b.map U.int) = some (.val (tI (a ++ b))) := fun a b h => add_tI (by rw [L_eq']; omega)
  have e2 := e (pc p) (pc q) (by omega)
  have e3 : newTU (U.int (-1) :: ((pc p).map U.int ++ (pc q).map U.int)) = some (.val (tI (-1 :: (pc p ++ pc q)))) := by
    have := e (-1 :: pc p) (pc q) (by simp; omega)
    simpa using this
  simp [c_put, tU, it_tI, pc_nil]
  cases p <;> cases q <;> simp [e2, e3, pt, pc] <;> simp_all [pc, Tr.code]
end
end K
end Ev
end

section
set_option autoImplicit false
set_option maxRecDepth 100000
set_option linter.unusedVariables false
set_option linter.unusedSimpArgs false
open PySem L2
namespace Ev
namespace K
def flat (ts : List Tr) : List Int := ts.flatMap Tr.code
@[simp] theorem flat_nil : flat [] = [] := rfl
@[simp] theorem flat_cons (t : Tr) (ts : List Tr) : flat (t :: ts) = t.code ++ flat ts := rfl
theorem ix_at {xs pre post : List Int} {x : Int} (e : xs = pre ++ x :: post) : L2.atI (xs.map U.int) (pre.length : Int) = some (.int x) := by
  rw [atI_map, atI_get (by rw [e]; simp)]
  simp [e]
theorem cut_mid {xs pre mid post : List Int} (e : xs = pre ++ (mid ++ post)) {a b : Int} (ha : a = pre.length) (hb : b = pre.length + mid.length) : slcU (tI xs) (some a) (some b) = some (.val (tI mid)) := by
  rw [sl_tI]
  have hb' : b = ((pre.length + mid.length : Nat) : Int) := by omega
  subst ha hb'
  have hl : xs.length = pre.length + (mid.length + post.length) := by rw [e]; simp
  rw [HT.sIx_nat, HT.sIx_nat, Nat.min_eq_left (by omega), Nat.min_eq_left (by omega), e, List.drop_left, Nat.add_sub_cancel_left, List.take_left]
theorem cut_tail {xs pre mid : List Int} (e : xs = pre ++ mid) {a : Int} (ha : a = pre.length) : slcU (tI xs) (some a) none = some (.val (tI mid)) := by
  rw [sl_tI]
  subst ha
  have hl : xs.length = pre.length + mid.length := by rw [e]; simp
  rw [HT.sIx_nat, HT.sIx_none, Nat.min_eq_left (by omega), e, List.drop_left, List.take_of_length_le (by simp)]
section
variable {n : Nat} {Q : U → Prop}
def endTest : E := (.cmp .Gt (.var 2) (.lit (.int (0))))
def endBody : List S := [.asg (.nm 2) (.bin .Add (.var 2) (.ite (.cmp .Eq (.idx (.var 0) (.var 1)) (.neg (.lit (.int (1))))) (.lit (.int (1))) (.neg (.lit (.int (1)))))),
  .asg (.nm 1) (.bin .Add (.var 1) (.lit (.int (1))))]
theorem end_loop {cw : Str → List U → PT} {gu : Str → Option U} {xs post : List Int} {K : FU → UEnv → Prop} : ∀ (f : Nat) (ts : List Tr) (pre : List Int) {a b : Int}, xs = pre ++ flat ts ++ post → (flat ts).length < f → a = pre.length → b = ts.length →
    wW cw gu endTest endBody f [.val (tI xs), .val (.int a), .val (.int b)] K =
      K .nx [.val (tI xs), .val (.int ((pre.length + (flat ts).length : Nat) : Int)), .val (.int 0)]
  | 0, ts, pre, _, _, _, hf, _, _ => by omega
  | f + 1, [], pre, a, b, e, hf, ha, hb => by
    subst ha hb
    rw [w_step]
    simp [endTest]
  | f + 1, .leaf c :: ts, pre, a, b, e, hf, ha, hb => by
    have hx := ix_at (xs := xs) (pre := pre) (x := c.v) (post := flat ts ++ post) (by rw [e]; simp [Tr.code])
    have ih := end_loop (cw := cw) (gu := gu) (xs := xs) (post := post) (K := K) f ts (pre ++ [c.v]) (a := pre.length + 1) (b := ts.length) (by rw [e]; simp [Tr.code]) (by simp only [flat_cons, Tr.code, List.length_append, List.length_cons, List.length_nil] at hf; omega) (by simp) rfl
    subst ha hb
    have h0 : (0 : Int) < ts.length + 1 := by omega
    have h1 : (ts.length : Int) + 1 + -1 = ts.length := by omega
    rw [w_step]
    simp [endTest, endBody, hx, c.h, h0, h1] at ih ⊢
    rw [ih]
    simp [Tr.code, Int.add_assoc]
  | f + 1, .node l r :: ts, pre, a, b, e, hf, ha, hb => by
    have hx := ix_at (xs := xs) (pre := pre) (x := -1) (post := l.code ++ r.code ++ flat ts ++ post) (by rw [e]; simp [Tr.code])
    have ih := end_loop (cw := cw) (gu := gu) (xs := xs) (post := post) (K := K) f (l :: r :: ts) (pre ++ [-1]) (a := pre.length + 1) (b := ts.length + 2) (by rw [e]; simp [Tr.code]) (by simp only [flat_cons, Tr.code, List.length_append, List.length_cons, List.length_nil] at hf ⊢; omega) (by simp) (by simp; omega)
    subst ha hb
    have h0 : (0 : Int) < ts.length + 1 := by omega
    have h1 : (ts.length : Int) + 1 + 1 = ts.length + 2 := by omega
    rw [w_step]
    simp [endTest, endBody, hx, h0, h1] at ih ⊢
    rw [ih]
    simp [Tr.code]
    rw [show (pre.length : Int) + 1 + (l.code.length + (r.code.length + (flat ts).length)) = pre.length + (l.code.length + r.code.length + 1 + (flat ts).length) by omega]
theorem end_eq {t : Tr} {xs pre post : List Int} {a : Int} (e : xs = pre ++ t.code ++ post) (ha : a = pre.length) (h : t.size ≤ 1000) : cw (n + 1) "end_at" [tI xs, .int a] Q = Q (.int (pre.length + t.code.length : Nat)) := by
  have h1 := code_len t
  have := @end_loop (cw n) gu xs post
  unfold cw at this ⊢
  rw [callT rfl tb_c_end_at rfl]
  simp only [endTest, endBody] at this
  simp [c_end_at]
  rw [this turnsMost [t] pre (a := a) (b := 1) (by simpa using e) (by simp [turnsMost]; omega) ha rfl]
  simp
theorem sides_eq {l r : Tr} (h : l.size + r.size ≤ 1000) : cw (n + 2) "sides_of" [tI (Tr.node l r).code] Q = Q (.tup [tI l.code, tI r.code]) := by
  unfold cw
  rw [callT rfl tb_c_sides_of rfl]
  have h1 := fun Q => end_eq (n := n) (Q := Q) (t := l) (xs := (Tr.node l r).code) (pre := [-1]) (post := r.code) (a := 1) (by simp [Tr.code]) rfl (by omega)
  have e1 : slcU (tI (Tr.node l r).code) (some 1) (some ((1 + l.code.length : Nat) : Int)) = some (.val (tI l.code)) := cut_mid (pre := [-1]) (mid := l.code) (post := r.code) (by simp [Tr.code]) rfl (by simp)
  have e2 : slcU (tI (Tr.node l r).code) (some ((1 + l.code.length : Nat) : Int)) none = some (.val (tI r.code)) := cut_tail (pre := -1 :: l.code) (mid := r.code) (by simp [Tr.code]) (by simp; omega)
  unfold cw at h1
  simp only [List.length_singleton] at h1
  simp only [Int.natCast_add, Int.natCast_one] at h1 e1 e2
  simp [c_sides_of, h1, e1, e2]
end
end K
end Ev
end

section
set_option autoImplicit false
set_option maxRecDepth 100000
set_option linter.unusedVariables false
set_option linter.unusedSimpArgs false
open PySem L2
namespace Ev
namespace K
theorem filt_code : ∀ t : Tr, (t.code.filter fun x => !decide (x = -1)).length = t.size
  | .leaf a => by simp [Tr.code, a.h, Tr.size]
  | .node l r => by
    have := filt_code l
    have := filt_code r
    simp [Tr.code, Tr.size] at *
    omega
theorem filt_pc (p : Option Tr) : ((pc p).filter fun x => !decide (x = -1)).length = nl p := by
  cases p with
  | none => rfl
  | some t => exact filt_code t
section
variable {n : Nat} {Q : U → Prop}
theorem leaves_comp {cw : Str → List U → PT} {gu : Str → Option U} {o : Sl} {xs : List Int} {Q : List U → Prop} : wCm cw gu (.var 1) (some (.cmp .NotEq (.var 1) (.neg (.lit (.int 1))))) (.nm 1) [o, .no] (xs.map .int) [] Q = Q ((xs.filter fun x => !decide (x = -1)).map .int) := by
  rw [comp_det U.int U.int (fun x => !decide (x = -1)) xs []]
  · simp
  · intro x _
    exact ⟨[o, .val (.int x)], by simp, fun R => by simp, fun _ => ⟨.val (.int x), rfl, fun R => by simp⟩⟩
theorem leaves_eq {p : Option Tr} : cw (n + 1) "leaves_of" [tU p] Q = Q (.int (nl p : Nat)) := by
  unfold cw
  rw [callT rfl tb_c_leaves_of rfl]
  simp [c_leaves_of, tU, sq_tI, wipeU]
  rw [leaves_comp]
  simp [filt_pc]
/-- how often one tree stands within another -/
def cn : Tr → Tr → Nat
  | p, .leaf a => if p = .leaf a then 1 else 0
  | p, .node l r => cn p l + cn p r + match p with
    | .leaf _ => 0
    | .node pl pr => cn pl l * cn pr r
def cnt : Option Tr → Tr → Nat
  | none, _ => 1
  | some p, t => cn p t
theorem cn_leaf (p : Tr) (a : Lf) : cn p (.leaf a) = if p = .leaf a then 1 else 0 := by cases p <;> rfl
theorem cn_node (p l r : Tr) : cn p (.node l r) = cn p l + cn p r + match p with
    | .leaf _ => 0
    | .node pl pr => cn pl l * cn pr r := by cases p <;> rfl
theorem cn_lt : ∀ p t : Tr, cn p t < 2 ^ t.size
  | p, .leaf a => by
    simp only [cn, Tr.size]
    split <;> decide
  | p, .node l r => by
    have h1 := cn_lt p l
    have h2 := cn_lt p r
    simp only [cn, Tr.size, Nat.pow_add]
    have h0 : (match p with
      | .leaf _ => 0
      | .node pl pr => cn pl l * cn pr r) ≤ (2 ^ l.size - 1) * (2 ^ r.size - 1) := by
      cases p with
      | leaf _ => exact Nat.zero_le _
      | node pl pr =>
        have h3 := cn_lt pl l
        have h4 := cn_lt pr r
        exact Nat.mul_le_mul (by omega) (by omega)
    generalize (match p with
      | .leaf _ => 0
      | .node pl pr => cn pl l * cn pr r) = z at h0 ⊢
    obtain ⟨a, ha⟩ : ∃ a, 2 ^ l.size = a + 1 := ⟨2 ^ l.size - 1, by omega⟩
    obtain ⟨b, hb⟩ : ∃ b, 2 ^ r.size = b + 1 := ⟨2 ^ r.size - 1, by omega⟩
    rw [ha] at h1 h0
    rw [hb] at h2 h0
    rw [ha, hb, Nat.add_mul, Nat.mul_add]
    simp only [Nat.add_sub_cancel] at h0
    generalize a * b = ab at *
    omega
theorem mul_ok {a b : Nat} (h : a < 2 ^ 64) : mulOk (a : Int) (b : Int) = true := by
  unfold mulOk
  have : (decide ((a : Int).natAbs < 2 ^ 64)) = true := by simpa using h
  rw [this]
  simp
theorem head_node (l r : Tr) : L2.atI ((Tr.node l r).code.map U.int) 0 = some (.int (-1)) := by
  have := ix_at (xs := (Tr.node l r).code) (pre := []) (x := -1) (post := l.code ++ r.code) rfl
  simpa using this
theorem head_leaf (a : Lf) : L2.atI ((Tr.leaf a).code.map U.int) 0 = some (.int a.v) := by
  have := ix_at (xs := (Tr.leaf a).code) (pre := []) (x := a.v) (post := []) rfl
  simpa using this
theorem tI_nil' : (tI [] : U) = tU none := rfl
theorem tI_code (t : Tr) : tI t.code = tU (some t) := rfl
theorem count_eq : ∀ (t : Tr) {n : Nat} {p : Tr} {Q : U → Prop}, t.size ≤ 20 → p.size ≤ 20 → t.size + 2 ≤ n → cw n "count_of" [tI p.code, tI t.code] Q = Q (.int (cn p t : Nat))
  | t, 0, p, Q, ht, hp, hn => by omega
  | .leaf a, n + 1, p, Q, ht, hp, hn => by
    unfold cw
    rw [callT rfl tb_c_count_of rfl]
    have e : ((p.code = (Tr.leaf a).code) = (p = .leaf a)) := code_eq
    simp [c_count_of, code_ne, head_leaf, a.h, e, cn_leaf]
    by_cases h : p = .leaf a <;> simp [h, e, a.h]
  | .node l r, n + 1, p, Q, ht, hp, hn => by
    have hl := size_pos l
    have hr := size_pos r
    simp only [Tr.size] at ht hn
    obtain ⟨n, rfl⟩ : ∃ m, n = m + 2 := ⟨n - 2, by omega⟩
    have e2 := fun Q => sides_eq (n := n) (Q := Q) (l := l) (r := r) (by omega)
    have c1 := fun Q => count_eq l (n := n + 2) (p := p) (Q := Q) (by omega) hp (by omega)
    have c2 := fun Q => count_eq r (n := n + 2) (p := p) (Q := Q) (by omega) hp (by omega)
    unfold cw at *
    rw [callT rfl tb_c_count_of rfl]
    cases p with
    | leaf b =>
      simp [c_count_of, head_node, head_leaf, b.h, cn_node, tU, pc, code_ne, e2, c1, c2]
    | node pl pr =>
      simp only [Tr.size] at hp
      have hpl := size_pos pl
      have hpr := size_pos pr
      have e3 := fun Q => sides_eq (n := n) (Q := Q) (l := pl) (r := pr) (by omega)
      have c3 := fun Q => count_eq l (n := n + 2) (p := pl) (Q := Q) (by omega) (by omega) (by omega)
      have c4 := fun Q => count_eq r (n := n + 2) (p := pr) (Q := Q) (by omega) (by omega) (by omega)
      have hm : mulOk (cn pl l : Nat) (cn pr r : Nat) = true := mul_ok (Nat.lt_of_lt_of_le (cn_lt pl l) (Nat.pow_le_pow_right (by decide) (by omega)))
      unfold cw at *
      simp [c_count_of, head_node, cn_node, tU, pc, code_ne, e2, e3, c1, c2, c3, c4, hm]
theorem count_eq' {t : Tr} {p : Option Tr} (hp : nl p ≤ 20) (ht : t.size ≤ 20) (hn : t.size + 2 ≤ n) : cw n "count_of" [tU p, tI t.code] Q = Q (.int (cnt p t : Nat)) := by
  cases p with
  | some q => exact count_eq t ht hp hn
  | none =>
    obtain ⟨n, rfl⟩ : ∃ m, n = m + 1 := ⟨n - 1, by omega⟩
    unfold cw
    rw [callT rfl tb_c_count_of rfl]
    simp [c_count_of, tU, pc, cnt]
end
end K
end Ev
end

section
set_option autoImplicit false
set_option maxRecDepth 100000
set_option linter.unusedVariables false
set_option linter.unusedSimpArgs false
open PySem L2
namespace Ev
namespace K
/-! left trees, lots -/
def leftP (S : Nat → Bool) : Nat → Tr → Option Tr
  | k, .leaf a => if S k then some (.leaf a) else none
  | k, .node l r => pt (leftP S k l) (leftP S (k + l.size) r)
theorem leftP_congr {S S' : Nat → Bool} : ∀ (t : Tr) (k : Nat), (∀ i, k ≤ i → i < k + t.size → S i = S' i) → leftP S k t = leftP S' k t
  | .leaf a, k, h => by simp only [leftP]; rw [h k (Nat.le_refl _) (by simp [Tr.size])]
  | .node l r, k, h => by
    simp only [Tr.size] at h
    simp only [leftP]
    rw [leftP_congr l k fun i h1 h2 => h i h1 (by omega), leftP_congr r (k + l.size) fun i h1 h2 => h i (by omega) (by omega)]
theorem leftP_shift {S : Nat → Bool} (d : Nat) : ∀ (t : Tr) (k : Nat), leftP S (k + d) t = leftP (fun i => S (i + d)) k t
  | .leaf a, k => rfl
  | .node l r, k => by
    simp only [leftP]
    rw [leftP_shift d l k, show k + d + l.size = (k + l.size) + d by omega, leftP_shift d r]
def subs : List Nat → List (List Nat)
  | [] => [[]]
  | x :: xs => subs xs ++ (subs xs).map (x :: ·)
theorem subs_append : ∀ xs ys : List Nat, subs (xs ++ ys) = (subs xs).flatMap fun u => (subs ys).map (u ++ ·)
  | [], ys => by simp [subs]
  | x :: xs, ys => by
    rw [List.cons_append, subs, subs_append xs ys, subs, List.flatMap_append, List.flatMap_map, List.map_flatMap]
    simp [List.map_map, Function.comp_def]
theorem mem_subs : ∀ {xs u : List Nat}, u ∈ subs xs → ∀ i ∈ u, i ∈ xs
  | [], u, h, i, hi => by simp [subs] at h; subst h; cases hi
  | x :: xs, u, h, i, hi => by
    rw [subs, List.mem_append] at h
    rcases h with h | h
    · exact List.mem_cons_of_mem _ (mem_subs h i hi)
    · obtain ⟨v, hv, rfl⟩ := List.mem_map.1 h
      rcases List.mem_cons.1 hi with rfl | hi
      · exact List.mem_cons_self ..
      · exact List.mem_cons_of_mem _ (mem_subs hv i hi)
def LT : Tr → List (Option Tr)
  | .leaf a => [none, some (.leaf a)]
  | .node l r => (LT l).flatMap fun u => (LT r).map (pt u)
abbrev has (lot : List Nat) (i : Nat) : Bool := decide (i ∈ lot)
theorem left_parts {l r : Tr} {k : Nat} {u v : List Nat} (hu : u ∈ subs (List.range' k l.size)) (hv : v ∈ subs (List.range' (k + l.size) r.size)) : leftP (has (u ++ v)) k (.node l r) = pt (leftP (has u) k l) (leftP (has v) (k + l.size) r) := by
  simp only [leftP]
  congr 1
  · refine leftP_congr l k fun i h1 h2 => ?_
    have : i ∉ v := fun z => by have := mem_subs hv i z; rw [List.mem_range'_1] at this; omega
    simp [has, this]
  · refine leftP_congr r _ fun i h1 h2 => ?_
    have : i ∉ u := fun z => by have := mem_subs hu i z; rw [List.mem_range'_1] at this; omega
    simp [has, this]
theorem range_two (k a b : Nat) : List.range' k (a + b) = List.range' k a ++ List.range' (k + a) b := by
  rw [List.range'_append_1]
theorem map_flat {α β γ : Type} {xs : List α} {ys : List β} {g : α → β → γ} {h : γ → Option Tr} {f1 : α → Option Tr} {f2 : β → Option Tr} (e : ∀ u ∈ xs, ∀ v ∈ ys, h (g u v) = pt (f1 u) (f2 v)) :
    (xs.flatMap fun u => ys.map (g u)).map h = (xs.map f1).flatMap fun u => (ys.map f2).map (pt u) := by
  induction xs with
  | nil => rfl
  | cons x xs ih =>
    rw [List.flatMap_cons, List.map_append, ih fun u hu => e u (List.mem_cons_of_mem _ hu), List.map_cons, List.flatMap_cons]
    congr 1
    rw [List.map_map, List.map_map]
    exact List.map_congr_left fun v hv => e x (List.mem_cons_self ..) v hv
theorem subs_left : ∀ (t : Tr) (k : Nat), (subs (List.range' k t.size)).map (fun lot => leftP (has lot) k t) = LT t
  | .leaf a, k => by simp [Tr.size, subs, leftP, LT, has]
  | .node l r, k => by
    simp only [Tr.size]
    rw [range_two, subs_append, map_flat (f1 := fun u => leftP (has u) k l) (f2 := fun v => leftP (has v) (k + l.size) r) fun u hu v hv => left_parts hu hv, subs_left l k, subs_left r (k + l.size)]
    rfl
theorem subs_nl : ∀ (t : Tr) (k : Nat), ∀ lot ∈ subs (List.range' k t.size), nl (leftP (has lot) k t) = lot.length
  | .leaf a, k, lot, h => by
    simp [Tr.size, subs] at h
    rcases h with rfl | rfl <;> simp [leftP, has, nl, Tr.size]
  | .node l r, k, lot, h => by
    simp only [Tr.size] at h
    rw [range_two, subs_append, List.mem_flatMap] at h
    obtain ⟨u, hu, h⟩ := h
    obtain ⟨v, hv, rfl⟩ := List.mem_map.1 h
    rw [left_parts hu hv, nl_pt, subs_nl l k u hu, subs_nl r _ v hv, List.length_append]
theorem sum_three {xs : List (Option Tr)} {a b c : Option Tr} {A B C : Nat} : (xs.map fun u => (if u = a then A else 0) + (if u = b then B else 0) + (if u = c then C else 0)).sum = xs.count a * A + xs.count b * B + xs.count c * C := by
  induction xs with
  | nil => simp
  | cons x xs ih =>
    rw [List.map_cons, List.sum_cons, ih, List.count_cons, List.count_cons, List.count_cons]
    simp only [beq_iff_eq, Nat.add_mul]
    split <;> split <;> split <;> simp <;> omega
theorem count_flat {xs ys : List (Option Tr)} {p : Option Tr} : (xs.flatMap fun u => ys.map (pt u)).count p = (xs.map fun u => (ys.map (pt u)).count p).sum := by
  induction xs with
  | nil => rfl
  | cons x xs ih => rw [List.flatMap_cons, List.count_append, ih, List.map_cons, List.sum_cons]
theorem count_map {ys : List (Option Tr)} {f : Option Tr → Option Tr} {p q : Option Tr} (h : ∀ v, f v = p ↔ v = q) : (ys.map f).count p = ys.count q := by
  induction ys with
  | nil => rfl
  | cons y ys ih =>
    rw [List.map_cons, List.count_cons, List.count_cons, ih]
    congr 1
    by_cases e : y = q
    · simp [e, (h q).2 rfl]
    · have : ¬ f y = p := fun z => e ((h y).1 z)
      simp [e, this]
theorem count_map0 {ys : List (Option Tr)} {f : Option Tr → Option Tr} {p : Option Tr} (h : ∀ v, ¬ f v = p) : (ys.map f).count p = 0 := by
  rw [List.count_eq_zero]
  intro z
  obtain ⟨v, _, e⟩ := List.mem_map.1 z
  exact h v e
theorem LT_count : ∀ (t : Tr) (p : Option Tr), (LT t).count p = cnt p t
  | .leaf a, p => by
    cases p with
    | none => simp [LT, cnt]
    | some p =>
      simp only [LT, cnt, cn_leaf, List.count_cons, List.count_nil]
      by_cases h : p = .leaf a
      · simp [h]
      · have : ¬ Tr.leaf a = p := fun z => h z.symm
        simp [h, this]
  | .node l r, p => by
    rw [LT, count_flat]
    cases p with
    | none =>
      have : ∀ u, ((LT r).map (pt u)).count none = (if u = none then 1 else 0) + (if u = none then 0 else 0) + (if u = none then 0 else 0) := fun u => by
        cases u with
        | none =>
          rw [count_map (q := none) fun v => by simp [pt], LT_count r]
          rfl
        | some u => rw [count_map0 fun v => by cases v <;> simp [pt]]; rfl
      simp only [this]
      rw [sum_three, LT_count l]
      rfl
    | some q =>
      cases q with
      | leaf b =>
        have : ∀ u, ((LT r).map (pt u)).count (some (.leaf b)) = (if u = none then cn (.leaf b) r else 0) + (if u = some (.leaf b) then 1 else 0) + (if u = none then 0 else 0) := fun u => by
          cases u with
          | none => rw [count_map (q := some (.leaf b)) fun v => by simp [pt], LT_count r]; simp [cnt]
          | some u =>
            by_cases e : u = .leaf b
            · subst e
              rw [count_map (q := none) fun v => by cases v <;> simp [pt], LT_count r]; simp [cnt]
            · rw [count_map0 fun v => by cases v <;> simp [pt, e]]; simp [e]
        simp only [this]
        rw [sum_three, LT_count l, LT_count l]
        simp [cnt, cn_node]
        omega
      | node ql qr =>
        have : ∀ u, ((LT r).map (pt u)).count (some (.node ql qr)) = (if u = none then cn (.node ql qr) r else 0) + (if u = some (.node ql qr) then 1 else 0) + (if u = some ql then cn qr r else 0) := fun u => by
          cases u with
          | none => rw [count_map (q := some (.node ql qr)) fun v => by simp [pt], LT_count r]; simp [cnt]
          | some u =>
            have hne : ¬ Tr.node ql qr = ql := fun z => by have := congrArg Tr.size z; have := size_pos qr; simp [Tr.size] at *; omega
            by_cases e : u = .node ql qr
            · subst e
              rw [count_map (q := none) fun v => by
                cases v with
                | none => simp [pt]
                | some v => simp [pt]; exact fun z => absurd z hne, LT_count r]
              simp [cnt, hne]
            · by_cases e2 : u = ql
              · subst e2
                rw [count_map (q := some qr) fun v => by cases v <;> simp [pt, e], LT_count r]
                simp [cnt, e]
              · rw [count_map0 fun v => by cases v <;> simp [pt, e, e2]]; simp [e, e2]
        simp only [this]
        rw [sum_three, LT_count l, LT_count l, LT_count l]
        simp [cnt, cn_node]
        omega
/-! lots of j of n, ascending -/
def stL (lot : List Nat) : Nat := match lot.getLast? with
  | none => 0
  | some a => a + 1
def nextL (n : Nat) (lot : List Nat) : List (List Nat) := (List.range' (stL lot) (n - stL lot)).map (lot ++ [·])
def lots (n : Nat) : Nat → List (List Nat)
  | 0 => [[]]
  | j + 1 => (lots n j).flatMap (nextL n)
theorem stL_nil : stL [] = 0 := rfl
theorem stL_app (u : List Nat) (a : Nat) : stL (u ++ [a]) = a + 1 := by simp [stL]
def Lot (n j : Nat) (u : List Nat) : Prop := u.length = j ∧ u.Pairwise (· < ·) ∧ ∀ i ∈ u, i < n
theorem st_le {n j : Nat} {u : List Nat} (h : Lot n j u) : ∀ i ∈ u, i < stL u := by
  intro i hi
  obtain ⟨_, h2, _⟩ := h
  rcases List.eq_nil_or_concat u with rfl | ⟨v, a, rfl⟩
  · cases hi
  · rw [List.concat_eq_append] at *
    rw [stL_app]
    rw [List.pairwise_append] at h2
    rw [List.mem_append] at hi
    rcases hi with hi | hi
    · have := h2.2.2 i hi a (by simp); omega
    · simp only [List.mem_singleton] at hi; omega
theorem mem_lots : ∀ {n j : Nat} {u : List Nat}, u ∈ lots n j ↔ Lot n j u
  | n, 0, u => by
    simp only [lots, List.mem_singleton, Lot]
    constructor
    · rintro rfl; exact ⟨rfl, .nil, nofun⟩
    · intro h; exact List.length_eq_zero_iff.1 h.1
  | n, j + 1, u => by
    simp only [lots, List.mem_flatMap, nextL, List.mem_map]
    constructor
    · rintro ⟨v, hv, a, ha, rfl⟩
      have hv := mem_lots.1 hv
      rw [List.mem_range'_1] at ha
      refine ⟨by simp [hv.1], List.pairwise_append.2 ⟨hv.2.1, by simp, fun x hx y hy => ?_⟩, fun i hi => ?_⟩
      · simp only [List.mem_singleton] at hy
        have := st_le hv x hx
        omega
      · rw [List.mem_append] at hi
        rcases hi with hi | hi
        · exact hv.2.2 i hi
        · simp only [List.mem_singleton] at hi; omega
    · intro h
      rcases List.eq_nil_or_concat u with rfl | ⟨v, a, rfl⟩
      · simp [Lot] at h
      · rw [List.concat_eq_append] at *
        obtain ⟨h1, h2, h3⟩ := h
        rw [List.pairwise_append] at h2
        have hv : Lot n j v := ⟨by simp at h1; omega, h2.1, fun i hi => h3 i (List.mem_append_left _ hi)⟩
        refine ⟨v, mem_lots.2 hv, a, ?_, rfl⟩
        have ha := h3 a (by simp)
        rw [List.mem_range'_1]
        have : stL v ≤ a := by
          rcases List.eq_nil_or_concat v with rfl | ⟨w, b, rfl⟩
          · simp [stL]
          · rw [List.concat_eq_append, stL_app]
            have := h2.2.2 b (by simp) a (by simp)
            omega
        omega
theorem nodup_flat {α β : Type} {f : α → List β} : ∀ {xs : List α}, xs.Nodup → (∀ x ∈ xs, (f x).Nodup) → (∀ x ∈ xs, ∀ y ∈ xs, ∀ b, b ∈ f x → b ∈ f y → x = y) → (xs.flatMap f).Nodup
  | [], _, _, _ => by simp
  | x :: xs, h, h1, h2 => by
    rw [List.nodup_cons] at h
    rw [List.flatMap_cons, List.nodup_append]
    refine ⟨h1 x (List.mem_cons_self ..), nodup_flat h.2 (fun y hy => h1 y (List.mem_cons_of_mem _ hy)) fun y hy z hz => h2 y (List.mem_cons_of_mem _ hy) z (List.mem_cons_of_mem _ hz), fun a ha b hb e => ?_⟩
    subst e
    obtain ⟨y, hy, hb⟩ := List.mem_flatMap.1 hb
    have := h2 x (List.mem_cons_self ..) y (List.mem_cons_of_mem _ hy) a ha hb
    subst this
    exact h.1 hy
theorem nodup_lots (n : Nat) : ∀ j, (lots n j).Nodup
  | 0 => by simp [lots]
  | j + 1 => by
    rw [lots]
    refine nodup_flat (nodup_lots n j) (fun u hu => ?_) fun u hu v hv b hb hb' => ?_
    · rw [nextL]
      refine List.pairwise_map.2 ((List.nodup_range' (step := 1)).imp fun h e => h ?_)
      simpa using e
    · obtain ⟨a, _, rfl⟩ := List.mem_map.1 hb
      obtain ⟨a', _, e⟩ := List.mem_map.1 hb'
      exact ((List.append_inj' e rfl).1).symm
theorem mem_subs_range : ∀ {m k : Nat} {u : List Nat}, u ∈ subs (List.range' k m) ↔ u.Pairwise (· < ·) ∧ ∀ i ∈ u, k ≤ i ∧ i < k + m
  | 0, k, u => by
    simp only [List.range'_zero, subs, List.mem_singleton]
    constructor
    · rintro rfl; exact ⟨.nil, nofun⟩
    · intro h
      cases u with
      | nil => rfl
      | cons x u => have := h.2 x (List.mem_cons_self ..); omega
  | m + 1, k, u => by
    rw [List.range'_succ, subs, List.mem_append, List.mem_map]
    constructor
    · rintro (h | ⟨v, h, rfl⟩)
      · have h := mem_subs_range.1 h
        exact ⟨h.1, fun i hi => by have := h.2 i hi; omega⟩
      · have h := mem_subs_range.1 h
        exact ⟨List.pairwise_cons.2 ⟨fun i hi => by have := h.2 i hi; omega, h.1⟩, fun i hi => by
          rcases List.mem_cons.1 hi with rfl | hi
          · omega
          · have := h.2 i hi; omega⟩
    · intro h
      cases u with
      | nil => exact .inl (mem_subs_range.2 ⟨.nil, nofun⟩)
      | cons x u =>
        rw [List.pairwise_cons] at h
        have hx := h.2 x (List.mem_cons_self ..)
        by_cases e : x = k
        · subst e
          exact .inr ⟨u, mem_subs_range.2 ⟨h.1.2, fun i hi => by have := h.1.1 i hi; have := h.2 i (List.mem_cons_of_mem _ hi); omega⟩, rfl⟩
        · exact .inl (mem_subs_range.2 ⟨List.pairwise_cons.2 h.1, fun i hi => by
            rcases List.mem_cons.1 hi with rfl | hi
            · omega
            · have := h.1.1 i hi; have := h.2 i (List.mem_cons_of_mem _ hi); omega⟩)
theorem nodup_subs : ∀ {xs : List Nat}, xs.Nodup → (subs xs).Nodup
  | [], _ => by simp [subs]
  | x :: xs, h => by
    rw [List.nodup_cons] at h
    have ih := nodup_subs h.2
    rw [subs, List.nodup_append]
    refine ⟨ih, List.pairwise_map.2 (ih.imp fun h e => h (List.cons.inj e).2), fun a ha b hb e => ?_⟩
    subst e
    obtain ⟨v, hv, rfl⟩ := List.mem_map.1 hb
    exact h.1 (mem_subs ha x (List.mem_cons_self ..))
theorem lots_perm (n j : Nat) : (lots n j).Perm ((subs (List.range' 0 n)).filter fun u => decide (u.length = j)) := by
  refine (List.perm_ext_iff_of_nodup (nodup_lots n j) ((nodup_subs (List.nodup_range' (step := 1))).filter _)).2 fun u => ?_
  rw [mem_lots, List.mem_filter, mem_subs_range, decide_eq_true_eq, Lot]
  constructor
  · rintro ⟨a, b, c⟩; exact ⟨⟨b, fun i hi => by have := c i hi; omega⟩, a⟩
  · rintro ⟨⟨b, c⟩, a⟩; exact ⟨a, b, fun i hi => by have := c i hi; omega⟩
/-- THE COUNT BY LOTS -/
theorem lots_left (t : Tr) (p : Option Tr) : ((lots t.size (nl p)).filter fun u => decide (leftP (has u) 0 t = p)).length = cnt p t := by
  rw [((lots_perm t.size (nl p)).filter _).length_eq, List.filter_filter]
  have e : (subs (List.range' 0 t.size)).filter (fun u => decide (leftP (has u) 0 t = p) && decide (u.length = nl p)) = (subs (List.range' 0 t.size)).filter fun u => decide (leftP (has u) 0 t = p) := by
    refine List.filter_congr fun u hu => ?_
    by_cases h : leftP (has u) 0 t = p
    · have := subs_nl t 0 u hu
      rw [h] at this
      simp [h, this]
    · simp [h]
  rw [e, ← LT_count, ← subs_left t 0, List.count_eq_countP, List.countP_map, List.countP_eq_length_filter]
  congr 1
  refine List.filter_congr fun u _ => ?_
  by_cases h : leftP (has u) 0 t = p <;> simp [h]
theorem left_nl {t : Tr} {j : Nat} {u : List Nat} (h : u ∈ lots t.size j) : nl (leftP (has u) 0 t) = j := by
  have h := mem_lots.1 h
  rw [subs_nl t 0 u (mem_subs_range.2 ⟨h.2.1, fun i hi => by have := h.2.2 i hi; omega⟩), h.1]
theorem lots_left0 (t : Tr) (p : Option Tr) {j : Nat} (hj : nl p ≠ j) : ((lots t.size j).filter fun u => decide (leftP (has u) 0 t = p)) = [] := by
  rw [List.filter_eq_nil_iff]
  intro u hu z
  rw [decide_eq_true_eq] at z
  have := left_nl hu
  rw [z] at this
  exact hj this
theorem lots_len (n : Nat) : ∀ j, (lots n j).length ≤ n ^ j
  | 0 => by simp [lots]
  | j + 1 => by
    have ih := lots_len n j
    rw [lots]
    have : ∀ l : List (List Nat), (l.flatMap (nextL n)).length ≤ l.length * n := fun l => by
      induction l with
      | nil => simp
      | cons u l ih =>
        rw [List.flatMap_cons, List.length_append, List.length_cons, Nat.add_mul, nextL, List.length_map, List.length_range']
        omega
    exact Nat.le_trans (this _) (by rw [Nat.pow_succ]; exact Nat.mul_le_mul_right _ ih)
end K
end Ev
end

section
set_option autoImplicit false
set_option maxRecDepth 100000
set_option linter.unusedVariables false
set_option linter.unusedSimpArgs false
open PySem L2
namespace Ev
theorem inSeqU_ints (i : Int) (xs : List Int) : inSeqU (.int i) (xs.map .int) = some (decide (i ∈ xs)) := by
  unfold inSeqU dataAllU
  rw [dataFs_ints]
  have h1 : (U.int i).data = some (.int i) := by rw [U.data, U.dataF]
  rw [h1]
  simp only [Option.bind_some]
  have h2 : ((PyData.int i).canLay0 && (xs.map PyData.int).all fun y => y.canLay0 && decide (min y.depth (PyData.int i).depth ≤ deepMost)) = true := by
    have e0 : ∀ j : Int, (PyData.int j).canLay0 = true := fun j => by rw [PyData.canLay0] <;> simp
    have e1 : ∀ j : Int, (PyData.int j).depth = 0 := fun j => by rw [PyData.depth] <;> simp
    simp [e0, e1, deepMost]
  rw [if_pos h2]
  congr 1
  induction xs with
  | nil => rfl
  | cons x xs ih =>
    have ih := ih (by rw [List.map_cons, List.all_cons] at h2; simp only [Bool.and_eq_true] at h2 ⊢; exact ⟨h2.1, h2.2.2⟩)
    have e2 : PyData.eqv (.int x) (.int i) = decide (x = i) := by rw [PyData.eqv]; rfl
    rw [List.map_cons, List.any_cons, ih, e2]
    by_cases h : x = i
    · simp [h]
    · have : ¬ i = x := fun z => h z.symm
      simp [h, this]
@[simp] theorem in_tI (i : Int) (xs : List Int) : inU (.int i) (tI xs) = some (decide (i ∈ xs)) := inSeqU_ints i xs
@[simp] theorem in_lst (i : Int) (xs : List Int) : inU (.int i) (.lst (xs.map .int)) = some (decide (i ∈ xs)) := inSeqU_ints i xs
@[simp] theorem eqU_nil (us : List U) : eqU (.lst us) (.lst []) = some us.isEmpty := by
  cases us with
  | nil =>
    unfold eqU
    have : (U.lst []).data = some (.list []) := by rw [U.data, U.dataF]; simp [U.dataFs]
    simp [twoStrU, farU, this, PyData.canLay0, PyData.canLayAll0, PyData.depth, PyData.depthAll, deepMost, PyData.eqv, PyData.eqvAll]
  | cons u us => simp [eqU, twoStrU, farU]
theorem atI_last {α : Type} (xs : List α) (x : α) : L2.atI (xs ++ [x]) (-1) = some x := by
  have h : L2.ixN (xs.length + 1) (-1) = some xs.length := by
    unfold L2.ixN
    rw [if_neg (by omega), if_pos (by omega)]
    congr 1; omega
  simp [L2.atI, h]
theorem atI_zero {α : Type} (x : α) (xs : List α) : L2.atI (x :: xs) 0 = some x := atI_get (n := 0) (by simp)
theorem rangeU_nat {a b : Nat} (ha : a ≤ 1000000) (hb : b ≤ 1000000) : rangeU (a : Int) (b : Int) = some ((List.range' a (b - a)).map fun i : Nat => U.int i) := by
  rw [rangeU, if_pos (by omega)]
  congr 1
  rw [List.range'_eq_map_range, List.map_map]
  have : ((b : Int) - a).toNat = b - a := by omega
  rw [this]
  exact List.map_congr_left fun i _ => by simp
theorem rangeU_0 {b : Nat} (hb : b ≤ 1000000) : rangeU 0 (b : Int) = some ((List.range' 0 b).map fun i : Nat => U.int i) := rangeU_nat (a := 0) (by omega) hb
theorem newTU_snoc {xs : List Int} {i : Int} (h : xs.length < L) : newTU (xs.map U.int ++ [U.int i]) = some (.val (tI (xs ++ [i]))) := by
  have : xs.map U.int ++ [U.int i] = (xs ++ [i]).map U.int := by simp
  rw [this, newTU_le (by simp; omega)]; rfl
namespace K
/-- a lot as a value -/
def lI (u : List Nat) : List Int := u.map fun i : Nat => (i : Int)
def lU (u : List Nat) : U := tI (lI u)
theorem mem_lI {i : Nat} {u : List Nat} : ((i : Int) ∈ lI u) = (i ∈ u) := by
  unfold lI
  rw [List.mem_map]
  refine propext ⟨fun ⟨j, hj, e⟩ => ?_, fun h => ⟨i, h, rfl⟩⟩
  have : j = i := by omega
  subst this; exact hj
theorem lI_inj {u v : List Nat} : (lI u = lI v) = (u = v) := propext ⟨fun h => (List.map_inj_right fun x y e => by omega).1 h, fun h => by rw [h]⟩
theorem nl_left_le {S : Nat → Bool} : ∀ (t : Tr) (k : Nat), nl (leftP S k t) ≤ t.size
  | .leaf a, k => by simp only [leftP]; split <;> simp [nl, Tr.size]
  | .node l r, k => by
    have := nl_left_le (S := S) l k
    have := nl_left_le (S := S) r (k + l.size)
    simp only [leftP, nl_pt, Tr.size]; omega
section
variable {n : Nat} {Q : U → Prop}
def lfBody : List S := [.ite (.cmp .Eq (.var 2) (.neg (.lit (.int (1))))) [.asg (.nm 5) (.mth .pop (.var 3) []),
  .ex (.mth .append (.var 3) [(.call (Str.ofString "put") [(.var 5), (.mth .pop (.var 3) [])])])] [.asg (.nm 4) (.bin .Sub (.var 4) (.lit (.int (1)))),
  .ex (.mth .append (.var 3) [(.ite (.cmp .In (.var 4) (.var 1)) (.tup [(.var 2)]) (.tup []))])]]
theorem lf_loop {S : Nat → Bool} {x : U} (hin : ∀ i : Nat, inU (.int i) x = some (S i)) {o0 : Sl} : ∀ (t : Tr) (k : Nat) (st : List (Option Tr)) (rest : List U) (o2 o5 : Sl), st.length + t.size ≤ 1000 →
    ∃ o2' o5', ∀ K : FU → UEnv → Prop, wF (cw (n + 1)) gu lfBody (.nm 2) (t.code.reverse.map U.int ++ rest) [o0, .val x, o2, .own (.lst (st.map tU)), .val (.int ((k + t.size : Nat) : Int)), o5] K =
      wF (cw (n + 1)) gu lfBody (.nm 2) rest [o0, .val x, o2', .own (.lst ((st ++ [leftP S k t]).map tU)), .val (.int (k : Nat)), o5'] K
  | .leaf a, k, st, rest, o2, o5, h => by
    refine ⟨.val (.int a.v), o5, fun K => ?_⟩
    simp only [Tr.size] at h
    have hl : st.length < L := by rw [L_eq']; omega
    have e := hin k
    simp only [Tr.code, List.reverse_singleton, List.map_cons, List.map_nil, List.cons_append, List.nil_append, f_cons]
    simp [lfBody, a.h, Tr.size, e, hl, leftP]
    cases S k <;> simp [tU, pc, Tr.code]
  | .node l r, k, st, rest, o2, o5, h => by
    simp only [Tr.size] at h
    have hl := size_pos l
    have hr := size_pos r
    obtain ⟨p2, p5, h1⟩ := lf_loop hin (o0 := o0) r (k + l.size) st (l.code.reverse.map U.int ++ ([U.int (-1)] ++ rest)) o2 o5 (by omega)
    obtain ⟨q2, q5, h2⟩ := lf_loop hin (o0 := o0) l k (st ++ [leftP S (k + l.size) r]) ([U.int (-1)] ++ rest) p2 p5 (by simp; omega)
    refine ⟨.val (.int (-1)), .val (tU (leftP S k l)), fun K => ?_⟩
    have e1 : (Tr.node l r).code.reverse.map U.int ++ rest = r.code.reverse.map U.int ++ (l.code.reverse.map U.int ++ ([U.int (-1)] ++ rest)) := by simp [Tr.code]
    rw [e1, show k + (Tr.node l r).size = k + l.size + r.size by simp [Tr.size]; omega, h1, h2]
    have b1 := nl_left_le (S := S) l k
    have b2 := nl_left_le (S := S) r (k + l.size)
    have hp := fun Q => put_eq (n := n) (Q := Q) (p := leftP S k l) (q := leftP S (k + l.size) r) (by omega)
    have hlt : st.length < L := by rw [L_eq']; omega
    rw [List.cons_append, List.nil_append, f_cons]
    simp [lfBody, leftP, hp, hlt]
theorem left_eq {S : Nat → Bool} {x : U} (hin : ∀ i : Nat, inU (.int i) x = some (S i)) {t : Tr} (h : t.size ≤ 500) : cw (n + 2) "left_tree" [tI t.code, x] Q = Q (tU (leftP S 0 t)) := by
  obtain ⟨o2, o5, hl⟩ := lf_loop (n := n) hin (o0 := .val (tI t.code)) t 0 [] [] .no .no (by simp; omega)
  have h1 := fun Q => leaves_eq (n := n) (Q := Q) (p := some t)
  rw [show tU (some t) = tI t.code from rfl] at h1
  simp only [lfBody, List.append_nil, List.map_nil, Nat.zero_add, List.nil_append, List.map_cons, nl] at hl h1
  unfold cw at *
  rw [callT rfl tb_c_left_tree rfl]
  simp [c_left_tree, h1, rv_tI, sq_tI]
  simp only [List.map_reverse] at hl
  rw [hl, f_nil]
  simp [atI_zero]
end
end K
end Ev
end

section
set_option autoImplicit false
set_option maxRecDepth 100000
set_option linter.unusedVariables false
set_option linter.unusedSimpArgs false
open PySem L2
namespace Ev
namespace K
theorem lI_snoc (u : List Nat) (a : Nat) : lI (u ++ [a]) = lI u ++ [(a : Int)] := by simp [lI]
theorem lI_nil (u : List Nat) : (lI u = []) = (u = []) := by simp [lI]
theorem lI_len (u : List Nat) : (lI u).length = u.length := by simp [lI]
theorem last_lI {u : List Nat} (h : u ≠ []) : L2.atI ((lI u).map U.int) (-1) = some (.int ((stL u : Nat) - 1 : Int)) := by
  rcases List.eq_nil_or_concat u with rfl | ⟨v, a, rfl⟩
  · exact absurd rfl h
  · rw [List.concat_eq_append, lI_snoc, List.map_append, List.map_cons, List.map_nil, atI_last, stL_app]
    congr 2
    omega
theorem next_map (n : Nat) (u : List Nat) : (List.range' (stL u) (n - stL u)).map (fun i => lU (u ++ [i])) = (nextL n u).map lU := by
  rw [nextL, List.map_map]; rfl
section
variable {n : Nat} {Q : U → Prop}
def alBody : List S := [.ex (.mth .extend (.var 4) [(.comp [6] (.nm 6) (.range2 (.ite (.cmp .NotEq (.var 5) (.tup [])) (.bin .Add (.idx (.var 5) (.neg (.lit (.int (1))))) (.lit (.int (1)))) (.lit (.int (0)))) (.var 0)) (.tup [(.star (.var 5)), (.var 6)]) none)])]
theorem al_comp {cw : Str → List U → PT} {gu : Str → Option U} {o0 o1 o2 o3 o4 : Sl} {u : List Nat} (hu : u.length ≤ 1000) (xs : List Nat) {Q : List U → Prop} : wCm cw gu (.tup [(.star (.var 5)), (.var 6)]) none (.nm 6) [o0, o1, o2, o3, o4, .val (lU u), .no] (xs.map fun i : Nat => U.int i) [] Q = Q (xs.map fun i => lU (u ++ [i])) := by
  have e : ∀ x : Nat, newTU ((lI u).map U.int ++ [U.int x]) = some (.val (lU (u ++ [x]))) := fun x => by
    rw [newTU_snoc (by rw [lI_len, L_eq']; omega), lU, lI_snoc]
  rw [comp_map (fun i : Nat => U.int i) (fun i => lU (u ++ [i])) xs []]
  · simp
  · intro x _
    refine ⟨[o0, o1, o2, o3, o4, .val (lU u), .val (.int x)], by simp, fun R => by simp, .val (lU (u ++ [x])), rfl, fun R => ?_⟩
    simp [lU, it_tI, e]
theorem al_loop {cw : Str → List U → PT} {gu : Str → Option U} {m : Nat} (hm : m ≤ 1000) {o1 o2 o3 : Sl} : ∀ (ls acc : List (List Nat)) (o5 : Sl), (∀ u ∈ ls, u.length ≤ 1000 ∧ stL u ≤ 1000) → (acc ++ ls.flatMap (nextL m)).length ≤ 1000000 →
    ∃ o5', ∀ K : FU → UEnv → Prop, wF cw gu alBody (.nm 5) (ls.map lU) [.val (.int (m : Nat)), o1, o2, o3, .own (.lst (acc.map lU)), o5, .no] K = K .nx [.val (.int (m : Nat)), o1, o2, o3, .own (.lst ((acc ++ ls.flatMap (nextL m)).map lU)), o5', .no]
  | [], acc, o5, _, _ => ⟨o5, fun K => by simp [f_nil]⟩
  | u :: ls, acc, o5, h, hl => by
    obtain ⟨o5', ih⟩ := al_loop (cw := cw) (gu := gu) hm (o1 := o1) (o2 := o2) (o3 := o3) ls (acc ++ nextL m u) (.val (lU u)) (fun v hv => h v (List.mem_cons_of_mem _ hv)) (by simpa using hl)
    refine ⟨o5', fun K => ?_⟩
    have ih := ih K
    obtain ⟨h1, h2⟩ := h u (List.mem_cons_self ..)
    have hc := fun Q => al_comp (cw := cw) (gu := gu) (o0 := .val (.int (m : Nat))) (o1 := o1) (o2 := o2) (o3 := o3) (o4 := .own (.lst (acc.map lU))) h1 (List.range' (stL u) (m - stL u)) (Q := Q)
    have hr := rangeU_nat (a := stL u) (b := m) (by omega) (by omega)
    rw [next_map] at hc
    have hL : acc.length + (nextL m u).length ≤ L := by
      rw [L_eq']; simp at hl; omega
    rw [List.map_cons, f_cons]
    simp only [alBody] at ih ⊢
    by_cases hu : u = []
    · subst hu
      simp only [stL_nil, Int.natCast_zero] at hr
      simp [hr, wipeU, lU, lI]
      have e0 : lU [] = tI [] := rfl
      rw [stL_nil, Nat.sub_zero, e0] at hc
      rw [e0] at ih
      rw [hc]
      simpa [hL] using ih
    · have hla := last_lI hu
      have e1 : ((stL u : Int) - 1 + 1) = stL u := by omega
      simp [lU, lI_nil, hu, hla, e1, hr, wipeU]
      rw [← lU]
      simp [hc, hL]
      simpa using ih
/-- all lots, fewer first -/
def allL (n : Nat) : List (List Nat) := (List.range (n + 1)).flatMap (lots n)
theorem allL_step (m j : Nat) : (List.range (j + 1)).flatMap (lots m) = (List.range j).flatMap (lots m) ++ lots m j := by
  rw [List.range_succ, List.flatMap_append]; simp
theorem lot_bd {m j : Nat} {u : List Nat} (h : u ∈ lots m j) : u.length = j ∧ stL u ≤ m := by
  have h := mem_lots.1 h
  refine ⟨h.1, ?_⟩
  rcases List.eq_nil_or_concat u with rfl | ⟨v, a, rfl⟩
  · exact Nat.zero_le _
  · rw [List.concat_eq_append] at *
    rw [stL_app]
    have := h.2.2 a (by simp)
    omega
theorem pow_bd {m j k : Nat} (hm : m ≤ k) (hj : j ≤ k) (hk : 0 < k) : m ^ j ≤ k ^ k := Nat.le_trans (Nat.pow_le_pow_left hm j) (Nat.pow_le_pow_right hk hj)
def aoBody : List S := [.asg (.nm 4) (.lst []), .for (.nm 5) (.seq (.var 3)) alBody, .asg (.nm 3) (.slc (.var 4) none none), .ex (.mth .extend (.var 2) [(.var 3)])]
theorem cut_all {us : List U} : cutU us none none = us := by simp [cutU, HT.sIx_none]
theorem ao_loop {cw : Str → List U → PT} {gu : Str → Option U} {m : Nat} (hm : m ≤ 7) : ∀ (us : List U) (j : Nat) (o1 o4 o5 : Sl), j + us.length ≤ m → 
    ∃ o1' o4' o5', ∀ K : FU → UEnv → Prop, wF cw gu aoBody (.nm 1) us [.val (.int (m : Nat)), o1, .own (.lst (((List.range (j + 1)).flatMap (lots m)).map lU)), .own (.lst ((lots m j).map lU)), o4, o5, .no] K =
      K .nx [.val (.int (m : Nat)), o1', .own (.lst (((List.range (j + us.length + 1)).flatMap (lots m)).map lU)), .own (.lst ((lots m (j + us.length)).map lU)), o4', o5', .no]
  | [], j, o1, o4, o5, _ => ⟨o1, o4, o5, fun K => by simp [f_nil]⟩
  | x :: us, j, o1, o4, o5, h => by
    rw [List.length_cons] at h
    have b1 : ∀ i, i ≤ 7 → (lots m i).length ≤ 7 ^ 7 := fun i hi => Nat.le_trans (lots_len m i) (pow_bd hm hi (by decide))
    have b2 : ∀ i, i ≤ 8 → ((List.range i).flatMap (lots m)).length ≤ i * 7 ^ 7 := fun i => by
      induction i with
      | zero => intro _; simp
      | succ i ih => intro hi; rw [allL_step, List.length_append, Nat.succ_mul]; have := ih (by omega); have := b1 i (by omega); omega
    obtain ⟨o5', hl⟩ := al_loop (cw := cw) (gu := gu) (m := m) (by omega) (o1 := .val x) (o2 := .own (.lst (((List.range (j + 1)).flatMap (lots m)).map lU))) (o3 := .val (.lst ((lots m j).map lU)))
      (lots m j) [] o5 (fun u hu => by have := lot_bd hu; omega) (by
        have : (lots m j).flatMap (nextL m) = lots m (j + 1) := rfl
        rw [List.nil_append, this]
        exact Nat.le_trans (b1 (j + 1) (by omega)) (by decide))
    obtain ⟨p1, p4, p5, ih⟩ := ao_loop (cw := cw) (gu := gu) hm us (j + 1) (.val x) (.own (.lst ((lots m (j + 1)).map lU))) o5' (by omega)
    refine ⟨p1, p4, p5, fun K => ?_⟩
    have e1 : (lots m j).flatMap (nextL m) = lots m (j + 1) := rfl
    have hL : ((List.range (j + 1)).flatMap (lots m)).length + (lots m (j + 1)).length ≤ L := by
      have := b2 (j + 1) (by omega); have := b1 (j + 1) (by omega)
      have : (j + 1) * 7 ^ 7 ≤ 8 * 7 ^ 7 := Nat.mul_le_mul_right _ (by omega)
      rw [L_eq']; omega
    rw [f_cons, List.length_cons, show j + (us.length + 1) = j + 1 + us.length by omega, ← ih K, allL_step m (j + 1), List.map_append]
    simp only [aoBody, alBody] at hl ⊢
    simp only [List.map_nil, List.nil_append, e1] at hl
    simp [hl, cut_all, -List.length_flatMap, hL]
theorem all_eq {m : Nat} (hm : m ≤ 7) : cw (n + 1) "all_lots" [.int (m : Nat)] Q = Q (.lst ((allL m).map lU)) := by
  have hr := rangeU_0 (b := m) (by omega)
  have h0 : ([lU []] : List U) = (lots m 0).map lU := rfl
  have h1 : (List.range (0 + 1)).flatMap (lots m) = lots m 0 := by simp
  unfold cw
  rw [callT rfl tb_c_all_lots rfl]
  obtain ⟨o1, o4, o5, hl⟩ := ao_loop (cw := callW tb gu prim n) (gu := gu) hm ((List.range' 0 m).map fun i : Nat => U.int i) 0 .no .no .no (by simp)
  rw [h1, ← h0] at hl
  simp only [aoBody, alBody] at hl
  simp [c_all_lots, hr]
  rw [show (tI [] : U) = lU [] from rfl, hl]
  simp [allL]
end
end K
end Ev
end

section
set_option autoImplicit false
set_option maxRecDepth 100000
set_option linter.unusedVariables false
set_option linter.unusedSimpArgs false
open PySem L2
namespace Ev
namespace K
theorem in_lU (u : List Nat) (i : Nat) : inU (.int (i : Int)) (lU u) = some (has u i) := by
  rw [lU, in_tI]; simp only [mem_lI]
theorem eq_tU (p q : Option Tr) : eqU (tU p) (tU q) = some (decide (p = q)) := by
  rw [tU, tU, eqU_tI]; simp only [pc_eq]
theorem eq_tU0 (p : Option Tr) : eqU (tU p) (tI []) = some (decide (p = none)) := eq_tU p none
theorem len_lU (u : List Nat) : bifU .len [lU u] = some (.val (.int (u.length : Nat))) := by rw [lU, l_tI, lI_len]
theorem filter_all {m j : Nat} (h : j ≤ m) : (allL m).filter (fun u => decide (u.length = j)) = lots m j := by
  have h1 : ∀ i, (lots m i).filter (fun u => decide (u.length = j)) = if i = j then lots m j else [] := fun i => by
    split
    · rename_i e; subst e
      exact List.filter_eq_self.2 fun u hu => by simpa using (lot_bd hu).1
    · rename_i e
      exact List.filter_eq_nil_iff.2 fun u hu z => e (by rw [← (lot_bd hu).1]; simpa using z)
  have h2 : ∀ k, ((List.range k).flatMap (lots m)).filter (fun u => decide (u.length = j)) = if j < k then lots m j else [] := fun k => by
    induction k with
    | zero => rfl
    | succ k ih =>
      rw [allL_step, List.filter_append, ih, h1]
      by_cases e : k = j
      · subst e; simp
      · by_cases e2 : j < k
        · have : j < k + 1 := by omega
          simp [e, e2, this]
        · have : ¬ j < k + 1 := by omega
          simp [e, e2, this]
  rw [allL, h2, if_pos (by omega)]
/-- the lots with a left tree -/
def lotsP (t : Tr) (p : Option Tr) : List (List Nat) := (lots t.size (nl p)).filter fun u => decide (leftP (has u) 0 t = p)
section
variable {n : Nat} {Q : U → Prop}
theorem lots_of_eq {p : Option Tr} {t : Tr} (h : t.size ≤ 7) (hp : nl p ≤ t.size) : cw (n + 3) "lots_of" [tU p, tI t.code] Q = Q (.tup ((lotsP t p).map lU)) := by
  have h1 := fun Q => leaves_eq (n := n + 1) (Q := Q) (p := p)
  have h2 := fun Q => leaves_eq (n := n + 1) (Q := Q) (p := some t)
  have h3 := fun Q => all_eq (n := n + 1) (Q := Q) h
  have h4 := fun Q u => left_eq (n := n) (Q := Q) (x := lU u) (t := t) (in_lU u) (by omega)
  rw [show tU (some t) = tI t.code from rfl] at h2
  simp only [nl] at h2
  have c1 : ∀ Q, wCm (cw (n + 2)) gu (.var 3) (some (.cmp .Eq (.bif .len [(.var 3)]) (.call (Str.ofString "leaves_of") [(.var 0)]))) (.nm 3) [.val (tU p), .val (tI t.code), .no, .no] ((allL t.size).map lU) [] Q = Q (((allL t.size).filter fun u => decide (u.length = nl p)).map lU) := fun Q => by
    rw [comp_det lU lU (fun u => decide (u.length = nl p)) (allL t.size) []]
    · simp
    · intro u _
      exact ⟨[.val (tU p), .val (tI t.code), .no, .val (lU u)], by simp, fun R => by simp [len_lU, h1, Int.ofNat_inj], fun _ => ⟨.val (lU u), rfl, fun R => by simp⟩⟩
  have c2 : ∀ Q (o : Sl) (ls : List (List Nat)), wCm (cw (n + 2)) gu (.var 3) (some (.cmp .Eq (.call (Str.ofString "left_tree") [(.var 1), (.var 3)]) (.var 0))) (.nm 3) [.val (tU p), .val (tI t.code), o, .no] (ls.map lU) [] Q = Q ((ls.filter fun u => decide (leftP (has u) 0 t = p)).map lU) := fun Q o ls => by
    rw [comp_det lU lU (fun u => decide (leftP (has u) 0 t = p)) ls []]
    · simp
    · intro u _
      exact ⟨[.val (tU p), .val (tI t.code), o, .val (lU u)], by simp, fun R => by simp [h4, eq_tU], fun _ => ⟨.val (lU u), rfl, fun R => by simp⟩⟩
  unfold cw at *
  rw [callT rfl tb_c_lots_of rfl]
  simp [c_lots_of, h1, h2, h3, wipeU, c1]
  simp [c2, -List.filter_filter]
  rw [filter_all hp]
  rfl
/-! the law's own -/
theorem lput_eq {p q : Option Tr} (h : nl p + nl q ≤ 1000) : cw (n + 1) "_law_put" [tU p, tU q] Q = Q (tU (pt p q)) := by
  have h1 := pc_len p
  have h2 := pc_len q
  unfold cw
  rw [callT rfl tb_l_put rfl]
  have e1 : binU .Add (tI (pc p)) (tI (pc q)) = some (.val (tI (pc p ++ pc q))) := add_tI (by rw [L_eq']; omega)
  have e2 : binU .Add (tI [-1]) (tI (pc p)) = some (.val (tI (-1 :: pc p))) := add_tI (by rw [L_eq']; simp; omega)
  have e3 : binU .Add (tI (-1 :: pc p)) (tI (pc q)) = some (.val (tI (-1 :: pc p ++ pc q))) := add_tI (by rw [L_eq']; simp; omega)
  simp [l_put, tU, pc_nil]
  cases p <;> cases q <;> simp [pt, pc, Tr.code] at * <;> simp [e1, e2, e3]
theorem lleaves_eq {p : Option Tr} : cw (n + 1) "_law_leaves" [tU p] Q = Q (.int (nl p : Nat)) := by
  unfold cw
  rw [callT rfl tb_l_leaves rfl]
  simp [l_leaves, tU, sq_tI, wipeU]
  rw [leaves_comp]
  simp [filt_pc]
theorem lend_eq : ∀ (t : Tr) {n : Nat} {xs pre post : List Int} {a : Int} {Q : U → Prop}, xs = pre ++ t.code ++ post → a = pre.length → t.size ≤ n → cw n "_law_end" [tI xs, .int a] Q = Q (.int (pre.length + t.code.length : Nat))
  | t, 0, xs, pre, post, a, Q, e, ha, hn => by have := size_pos t; omega
  | .leaf b, n + 1, xs, pre, post, a, Q, e, ha, hn => by
    have hx := ix_at (xs := xs) (pre := pre) (x := b.v) (post := post) (by rw [e]; simp [Tr.code])
    subst ha
    unfold cw
    rw [callT rfl tb_l_end rfl]
    simp [l_end, hx, b.h, Tr.code]
  | .node l r, n + 1, xs, pre, post, a, Q, e, ha, hn => by
    have hl := size_pos l
    have hr := size_pos r
    simp only [Tr.size] at hn
    have hx := ix_at (xs := xs) (pre := pre) (x := -1) (post := l.code ++ r.code ++ post) (by rw [e]; simp [Tr.code])
    have h1 := fun Q => lend_eq l (n := n) (xs := xs) (pre := pre ++ [-1]) (post := r.code ++ post) (a := a + 1) (Q := Q) (by rw [e]; simp [Tr.code]) (by simp [ha]) (by omega)
    have h2 := fun Q => lend_eq r (n := n) (xs := xs) (pre := pre ++ [-1] ++ l.code) (post := post) (a := ((pre ++ [-1]).length + l.code.length : Nat)) (Q := Q) (by rw [e]; simp [Tr.code]) (by simp; omega) (by omega)
    subst ha
    unfold cw at *
    rw [callT rfl tb_l_end rfl]
    simp [l_end, hx, Tr.code] at h1 h2 ⊢
    simp [h1, h2]
    rw [show (pre.length : Int) + (l.code.length + 1) + r.code.length = pre.length + (l.code.length + r.code.length + 1) by omega]
theorem lsides_eq {l r : Tr} (h : l.size ≤ n) : cw (n + 1) "_law_sides" [tI (Tr.node l r).code] Q = Q (.tup [tI l.code, tI r.code]) := by
  unfold cw
  rw [callT rfl tb_l_sides rfl]
  have h1 := fun Q => lend_eq l (n := n) (Q := Q) (xs := (Tr.node l r).code) (pre := [-1]) (post := r.code) (a := 1) (by simp [Tr.code]) rfl h
  have e1 : slcU (tI (Tr.node l r).code) (some 1) (some ((1 + l.code.length : Nat) : Int)) = some (.val (tI l.code)) := cut_mid (pre := [-1]) (mid := l.code) (post := r.code) (by simp [Tr.code]) rfl (by simp)
  have e2 : slcU (tI (Tr.node l r).code) (some ((1 + l.code.length : Nat) : Int)) none = some (.val (tI r.code)) := cut_tail (pre := -1 :: l.code) (mid := r.code) (by simp [Tr.code]) (by simp; omega)
  unfold cw at h1
  simp only [List.length_singleton] at h1
  simp only [Int.natCast_add, Int.natCast_one] at h1 e1 e2
  simp [l_sides, h1, e1, e2]
end
end K
end Ev
end

section
set_option autoImplicit false
set_option maxRecDepth 100000
set_option linter.unusedVariables false
set_option linter.unusedSimpArgs false
open PySem L2
namespace Ev
@[simp] theorem pickP_eq {k : Int} {Q : U → Prop} : pickP [.src, .int k] Q = (1 ≤ k ∧ k < 2 ^ 40 ∧ ∀ v : Int, 0 ≤ v → v < k → Q (.int v)) := by
  unfold pickP
  refine propext ⟨fun ⟨k', e, a, b, c⟩ => ?_, fun ⟨a, b, c⟩ => ⟨k, rfl, a, b, c⟩⟩
  cases e; exact ⟨a, b, c⟩
namespace K
theorem pick_eq {n : Nat} {k : Int} {Q : U → Prop} : cw (n + 1) "_law_pick" [.src, .int k] Q = (1 ≤ k ∧ k < 2 ^ 40 ∧ ∀ v : Int, 0 ≤ v → v < k → Q (.int v)) := by
  rw [cw, callPr (P := fun _ us Q => pickP us Q) rfl, pickP_eq]
theorem pick_eq' {n : Nat} {k : Int} {Q : U → Prop} : callW tb gu prim (n + 1) (Str.ofString "_law_pick") [.src, .int k] Q = (1 ≤ k ∧ k < 2 ^ 40 ∧ ∀ v : Int, 0 ≤ v → v < k → Q (.int v)) := pick_eq
def Tr.Lab (k : Int) : Tr → Prop
  | .leaf a => 0 ≤ a.v ∧ a.v < k
  | .node l r => l.Lab k ∧ r.Lab k
def tc (t : Tr) : U := tI t.code
def tsz (ts : List Tr) : Nat := (ts.map Tr.size).sum
theorem tsz_cons (t : Tr) (ts : List Tr) : tsz (t :: ts) = t.size + tsz ts := by simp [tsz]
theorem tsz_append (a b : List Tr) : tsz (a ++ b) = tsz a + tsz b := by simp [tsz]
theorem len_tsz : ∀ ts : List Tr, ts.length ≤ tsz ts
  | [] => Nat.zero_le _
  | t :: ts => by have := len_tsz ts; have := size_pos t; rw [tsz_cons, List.length_cons]; omega
section
variable {n : Nat} {Q : U → Prop}
theorem of_eq {us : List U} (h0 : us ≠ []) (hl : us.length ≤ 1000000) (h : ∀ u ∈ us, Q u) : cw (n + 2) "_law_of" [.src, .lst us] Q ∧ cw (n + 2) "_law_of" [.src, .tup us] Q := by
  have hp : 0 < us.length := List.length_pos_iff.2 h0
  have key : ∀ v : Int, 0 ≤ v → v < us.length → ok (L2.atI us v) fun u => Q u := fun v h1 h2 => by
    obtain ⟨m, rfl⟩ : ∃ m : Nat, v = m := ⟨v.toNat, by omega⟩
    rw [atI_get (by omega), ok_some]
    exact h _ (List.getElem_mem ..)
  constructor <;>
  · unfold cw
    rw [callT rfl tb_l_of rfl]
    simp [l_of, pick_eq']
    exact ⟨by omega, by omega, key⟩
def lnTest : E := (.cmp .Gt (.bif .len [(.var 3)]) (.lit (.int (1))))
def lnBody : List S := [.asg (.nm 4) (.call (Str.ofString "_law_pick") [(.var 0), (.bin .Sub (.bif .len [(.var 3)]) (.lit (.int (1))))]),
  .asg (.nm 3) (.bin .Add (.bin .Add (.slc (.var 3) none (some (.var 4))) (.lst [(.bin .Add (.bin .Add (.tup [(.neg (.lit (.int (1))))]) (.idx (.var 3) (.var 4))) (.idx (.var 3) (.bin .Add (.var 4) (.lit (.int (1))))))])) (.slc (.var 3) (some (.bin .Add (.var 4) (.lit (.int (2))))) none))]
theorem split_two {α : Type} {ts : List α} {i : Nat} (h : i + 1 < ts.length) : ∃ a x y b, ts = a ++ x :: y :: b ∧ a.length = i := by
  refine ⟨ts.take i, ts[i], ts[i + 1], ts.drop (i + 2), ?_, by rw [List.length_take]; omega⟩
  rw [← List.drop_eq_getElem_cons (by omega), ← List.drop_eq_getElem_cons (by omega), List.take_append_drop]
theorem tree_spec {k lv : Int} (hk : 1 ≤ k) (hk' : k < 1000) (h1 : 1 ≤ lv) (h2 : lv ≤ 100) (h : ∀ t : Tr, (t.size : Int) = lv → t.Lab k → Q (tI t.code)) : cw (n + 2) "_law_tree" [.src, .int k, .int lv] Q := by
  have hr : rangeU 0 lv = some ((List.range' 0 lv.toNat).map fun i : Nat => U.int i) := by
    have := rangeU_0 (b := lv.toNat) (by omega)
    rwa [show ((lv.toNat : Nat) : Int) = lv by omega] at this
  unfold cw
  rw [callT rfl tb_l_tree rfl]
  simp [l_tree, hr, wipeU]
  refine comp_inv (fun us acc => ∃ ts : List Tr, acc = ts.map tc ∧ (∀ t ∈ ts, t.Lab k) ∧ tsz ts = ts.length ∧ ts.length + us.length = lv.toNat) _ _ ⟨[], rfl, nofun, rfl, by simp⟩ ?_ ?_
  · rintro acc ⟨ts, rfl, hL, hs, hn⟩
    simp at hn
    refine whl_inv (fun m env => ∃ (ts : List Tr) (o4 : Sl), env = [.val .src, .val (.int k), .val (.int lv), .own (.lst (ts.map tc)), o4, .no] ∧ (∀ t ∈ ts, t.Lab k) ∧ (tsz ts : Int) = lv ∧ ts.length = m ∧ 0 < ts.length) ?_ turnsMost ts.length _ (by simp only [turnsMost]; omega) ⟨ts, .no, rfl, hL, by omega, rfl, by omega⟩
    rintro m env R ⟨ts, o4, rfl, hL, hs, hm, hp⟩ hR
    have hlen := len_tsz ts
    by_cases hc : 1 < ts.length
    · have hc' : (1 : Int) < ts.length := by omega
      simp [hc', pick_eq']
      refine ⟨by omega, by omega, fun v v0 v1 => ?_⟩
      obtain ⟨i, rfl⟩ : ∃ i : Nat, v = i := ⟨v.toNat, by omega⟩
      obtain ⟨a, x, y, b, rfl, ha⟩ := split_two (ts := ts) (i := i) (by omega)
      have hx := size_pos x
      have hy := size_pos y
      simp only [tsz_append, tsz_cons] at hs
      have la := len_tsz a
      have lb := len_tsz b
      have cx := code_len x
      have cy := code_len y
      have e1 : L2.atI (a.map tc ++ tc x :: tc y :: b.map tc) (i : Int) = some (tc x) := by rw [atI_get (by simp; omega)]; simp [← ha]
      have e2 : L2.atI (a.map tc ++ tc x :: tc y :: b.map tc) ((i : Int) + 1) = some (tc y) := by
        rw [show (i : Int) + 1 = ((i + 1 : Nat) : Int) by omega, atI_get (by simp; omega)]; simp [← ha]
      have e3 : binU .Add (tI [-1]) (tc x) = some (.val (tI (-1 :: x.code))) := add_tI (by rw [L_eq']; simp; omega)
      have e4 : binU .Add (tI (-1 :: x.code)) (tc y) = some (.val (tc (.node x y))) := add_tI (by rw [L_eq']; simp; omega)
      have e5 : cutU (a.map tc ++ tc x :: tc y :: b.map tc) none (some (i : Int)) = a.map tc := by
        simp [cutU, HT.sIx_nat, HT.sIx_none]
        rw [Nat.min_eq_left (by omega), List.take_left' (by simpa using ha)]
      have e6 : cutU (a.map tc ++ tc x :: tc y :: b.map tc) (some ((i : Int) + 2)) none = b.map tc := by
        rw [show (i : Int) + 2 = ((i + 2 : Nat) : Int) by omega]
        simp only [cutU, HT.sIx_nat, HT.sIx_none]
        rw [Nat.min_eq_left (by simp; omega)]
        have : (a.map tc ++ tc x :: tc y :: b.map tc).drop (i + 2) = b.map tc := by
          rw [← ha, show a.length + 2 = (a.map tc).length + 2 by simp, List.drop_append]
          simp
        rw [this, List.take_of_length_le (by simp; omega)]
      have e7 : newLU (a.map tc ++ [tc (.node x y)]) = some (.own (.lst (a.map tc ++ [tc (.node x y)]))) := newLU_le (by rw [L_eq']; simp; omega)
      have e8 : newLU (a.map tc ++ tc (.node x y) :: b.map tc) = some (.own (.lst (a.map tc ++ tc (.node x y) :: b.map tc))) := newLU_le (by rw [L_eq']; simp; omega)
      simp [e1, e2, e3, e4, e5, e6, e7, e8]
      refine hR (a.length + b.length + 1) _ (by simp at hm; omega) ?_
      refine ⟨a ++ .node x y :: b, .val (.int i), by simp, fun t ht => ?_, by simp only [tsz_append, tsz_cons, Tr.size]; omega, by simp; omega, by simp; omega⟩
      simp only [List.mem_append, List.mem_cons] at ht hL
      rcases ht with ht | rfl | ht
      · exact hL t (.inl ht)
      · exact ⟨hL x (.inr (.inl rfl)), hL y (.inr (.inr (.inl rfl)))⟩
      · exact hL t (.inr (.inr (.inr ht)))
    · obtain ⟨t, rfl⟩ : ∃ t, ts = [t] := by
        match ts, hp, hc with
        | [t], _, _ => exact ⟨t, rfl⟩
        | a :: b :: c, _, hc => simp at hc
      simp [atI_zero]
      exact h t (by simpa [tsz] using hs) (hL t (by simp))
  · rintro u us acc R ⟨ts, rfl, hL, hs, hn⟩ hR
    simp [pick_eq']
    refine ⟨by omega, by omega, fun v v0 v1 => ?_⟩
    refine hR _ ?_
    refine ⟨ts ++ [.leaf ⟨v, by omega⟩], by simp [tc, Tr.code], fun t ht => ?_, by simp [tsz_append, tsz, Tr.size] at hs ⊢; omega, by simp at hn ⊢; omega⟩
    simp only [List.mem_append, List.mem_singleton] at ht
    rcases ht with ht | rfl
    · exact hL t ht
    · exact ⟨v0, v1⟩
end
end K
end Ev
end

section
set_option autoImplicit false
set_option maxRecDepth 100000
set_option linter.unusedVariables false
set_option linter.unusedSimpArgs false
open PySem L2
namespace Ev
namespace K
/-- the leaves' numbers behind the first m -/
def cutL (m : Nat) (u : List Nat) : List Nat := (u.filter fun i => decide (m ≤ i)).map (· - m)
theorem has_cut (m : Nat) (u : List Nat) (i : Nat) : has (cutL m u) i = has u (i + m) := by
  have h : i ∈ cutL m u ↔ i + m ∈ u := by
    unfold cutL
    rw [List.mem_map]
    simp only [List.mem_filter, decide_eq_true_eq]
    exact ⟨fun ⟨a, ⟨h1, h2⟩, h3⟩ => by rwa [show i + m = a by omega], fun h => ⟨i + m, ⟨h, by omega⟩, by omega⟩⟩
  simp only [has, h]
theorem left_node (u : List Nat) (l r : Tr) : leftP (has u) 0 (.node l r) = pt (leftP (has u) 0 l) (leftP (has (cutL l.size u)) 0 r) := by
  simp only [leftP]
  rw [leftP_shift]
  congr 1
  exact leftP_congr r 0 fun i _ _ => (has_cut l.size u i).symm
section
variable {n : Nat} {Q : U → Prop}
theorem ll_comp {cw : Str → List U → PT} {gu : Str → Option U} {o0 o1 o3 o4 : Sl} {m : Nat} (u : List Nat) {Q : List U → Prop} : wCm cw gu (.bin .Sub (.var 5) (.var 2)) (some (.cmp .GtE (.var 5) (.var 2))) (.nm 5) [o0, o1, .val (.int (m : Nat)), o3, o4, .no] ((lI u).map U.int) [] Q = Q ((lI (cutL m u)).map U.int) := by
  rw [show (lI u).map U.int = u.map fun i : Nat => U.int i by simp [lI], comp_det (fun i : Nat => U.int i) (fun i : Nat => U.int ((i - m : Nat) : Int)) (fun i => decide (m ≤ i)) u []]
  · simp [lI, cutL]
    exact Iff.rfl
  · intro x _
    refine ⟨[o0, o1, .val (.int (m : Nat)), o3, o4, .val (.int x)], by simp, fun R => by simp, fun h => ⟨.val (.int ((x - m : Nat) : Int)), rfl, fun R => ?_⟩⟩
    rw [decide_eq_true_eq] at h
    simp
    rw [show (x : Int) - m = ((x - m : Nat) : Int) by omega]
theorem lleft_eq : ∀ (t : Tr) {n : Nat} (u : List Nat) {x : U} {Q : U → Prop}, (x = lU u ∨ x = .lst ((lI u).map U.int)) → t.size ≤ 500 → t.size + 1 ≤ n → cw n "_law_left" [tI t.code, x] Q = Q (tU (leftP (has u) 0 t))
  | t, 0, u, x, Q, hx, ht, hn => by omega
  | .leaf a, n + 1, u, x, Q, hx, ht, hn => by
    have e : inU (.int 0) x = some (has u 0) := by
      rcases hx with rfl | rfl
      · exact in_lU u 0
      · rw [in_lst]; have := @mem_lI 0 u; simp only [Int.natCast_zero] at this; simp only [this]
    unfold cw
    rw [callT rfl tb_l_left rfl]
    simp [l_left, head_leaf, a.h, e, leftP]
    by_cases h : 0 ∈ u <;> simp [h, tU, pc]
  | .node l r, n + 1, u, x, Q, hx, ht, hn => by
    have hl := size_pos l
    have hr := size_pos r
    simp only [Tr.size] at ht hn
    obtain ⟨n, rfl⟩ : ∃ m, n = m + 1 := ⟨n - 1, by omega⟩
    have h1 := fun Q => lsides_eq (n := n) (Q := Q) (l := l) (r := r) (by omega)
    have h2 := fun Q => lleaves_eq (n := n) (Q := Q) (p := some l)
    rw [show tU (some l) = tI l.code from rfl] at h2
    simp only [nl] at h2
    have h3 := fun Q => lleft_eq l (n := n + 1) u (x := x) (Q := Q) hx (by omega) (by omega)
    have h4 := fun Q => lleft_eq r (n := n + 1) (cutL l.size u) (x := .lst ((lI (cutL l.size u)).map U.int)) (Q := Q) (.inr rfl) (by omega) (by omega)
    have b1 := nl_left_le (S := has u) l 0
    have b2 := nl_left_le (S := has (cutL l.size u)) r 0
    have h5 := fun Q => lput_eq (n := n) (Q := Q) (p := leftP (has u) 0 l) (q := leftP (has (cutL l.size u)) 0 r) (by omega)
    have hs : seqU x = some ((lI u).map U.int) := by
      rcases hx with rfl | rfl
      · exact sq_tI
      · rfl
    unfold cw at *
    rw [callT rfl tb_l_left rfl]
    simp [l_left, head_node, h1, h2, h3, hs, wipeU]
    rw [ll_comp]
    simp [h4, h5, left_node]
/-! lots -/
def ltBody : List S := [.ex (.mth .extend (.var 4) [(.comp [6] (.nm 6) (.range1 (.var 0)) (.bin .Add (.var 5) (.tup [(.var 6)])) (some (.or (.cmp .Eq (.var 5) (.tup [])) (.cmp .Gt (.var 6) (.idx (.var 5) (.neg (.lit (.int (1)))))))))])]
theorem filt_range (m : Nat) (u : List Nat) : (List.range' 0 m).filter (fun a => decide (u = []) || decide (stL u ≤ a)) = List.range' (stL u) (m - stL u) := by
  have e : (fun a : Nat => decide (u = []) || decide (stL u ≤ a)) = fun a => decide (stL u ≤ a) := by
    funext a
    by_cases h : u = []
    · subst h; simp [stL]
    · simp [h]
  rw [e]
  generalize stL u = k
  have : ∀ (m s : Nat), (List.range' s m).filter (fun a => decide (k ≤ a)) = List.range' (max k s) (m - (k - s)) := fun m => by
    induction m with
    | zero => intro s; simp
    | succ m ih =>
      intro s
      rw [List.range'_succ, List.filter_cons, ih]
      by_cases h : k ≤ s
      · simp only [h, decide_true, if_true]
        rw [Nat.max_eq_right (by omega), Nat.max_eq_right (by omega), show m - (k - (s + 1)) = m by omega, show m + 1 - (k - s) = m + 1 by omega, List.range'_succ]
      · simp only [h, decide_false]
        rw [Nat.max_eq_left (by omega), Nat.max_eq_left (by omega), show m - (k - (s + 1)) = m + 1 - (k - s) by omega]
        rfl
  rw [this, Nat.max_eq_left (by omega), Nat.sub_zero]
theorem lt_comp {cw : Str → List U → PT} {gu : Str → Option U} {o0 o1 o2 o3 o4 : Sl} {u : List Nat} (hu : u.length ≤ 1000) (m : Nat) {Q : List U → Prop} : wCm cw gu (.bin .Add (.var 5) (.tup [(.var 6)])) (some (.or (.cmp .Eq (.var 5) (.tup [])) (.cmp .Gt (.var 6) (.idx (.var 5) (.neg (.lit (.int (1)))))))) (.nm 6) [o0, o1, o2, o3, o4, .val (lU u), .no] ((List.range' 0 m).map fun i : Nat => U.int i) [] Q = Q ((nextL m u).map lU) := by
  rw [comp_det (fun i : Nat => U.int i) (fun i => lU (u ++ [i])) (fun a => decide (u = []) || decide (stL u ≤ a)) (List.range' 0 m) [], filt_range, next_map]
  · simp
  · intro x _
    refine ⟨[o0, o1, o2, o3, o4, .val (lU u), .val (.int x)], by simp, fun R => ?_, fun h => ⟨.val (lU (u ++ [x])), rfl, fun R => ?_⟩⟩
    · by_cases h : u = []
      · subst h; simp [lU, lI]
      · have hla := last_lI h
        have e0 : lI u ≠ [] := by simpa [lI] using h
        have : ((stL u : Int) - 1 < x) = (stL u ≤ x) := propext (by omega)
        simp [lU, e0, hla, h, this]
    · have e : binU .Add (tI (lI u)) (tI [(x : Int)]) = some (.val (tI (lI u ++ [(x : Int)]))) := add_tI (by rw [L_eq', lI_len]; simp; omega)
      simp [lU, e, lI_snoc]
theorem lt_loop {cw : Str → List U → PT} {gu : Str → Option U} {m : Nat} (hm : m ≤ 1000) {o1 o2 o3 : Sl} : ∀ (ls acc : List (List Nat)) (o5 : Sl), (∀ u ∈ ls, u.length ≤ 1000) → (acc ++ ls.flatMap (nextL m)).length ≤ 1000000 →
    ∃ o5', ∀ K : FU → UEnv → Prop, wF cw gu ltBody (.nm 5) (ls.map lU) [.val (.int (m : Nat)), o1, o2, o3, .own (.lst (acc.map lU)), o5, .no] K = K .nx [.val (.int (m : Nat)), o1, o2, o3, .own (.lst ((acc ++ ls.flatMap (nextL m)).map lU)), o5', .no]
  | [], acc, o5, _, _ => ⟨o5, fun K => by simp [f_nil]⟩
  | u :: ls, acc, o5, h, hl => by
    obtain ⟨o5', ih⟩ := lt_loop (cw := cw) (gu := gu) hm (o1 := o1) (o2 := o2) (o3 := o3) ls (acc ++ nextL m u) (.val (lU u)) (fun v hv => h v (List.mem_cons_of_mem _ hv)) (by simpa using hl)
    refine ⟨o5', fun K => ?_⟩
    have ih := ih K
    have hr := rangeU_0 (b := m) (by omega)
    have hL : acc.length + (nextL m u).length ≤ L := by
      rw [L_eq']; simp at hl; omega
    rw [List.map_cons, f_cons]
    simp only [ltBody] at ih ⊢
    simp [hr, wipeU]
    rw [lt_comp (h u (List.mem_cons_self ..))]
    simpa [hL] using ih
def loBody : List S := [.asg (.nm 4) (.lst []), .for (.nm 5) (.seq (.var 2)) ltBody, .asg (.nm 2) (.bif .list [(.var 4)])]
theorem lo_loop {cw : Str → List U → PT} {gu : Str → Option U} {m : Nat} (hm : m ≤ 1000) {o1 : Sl} : ∀ (us : List U) (j : Nat) (o3 o4 o5 : Sl), j + us.length ≤ 1000 → (∀ i, i ≤ j + us.length → (lots m i).length ≤ 1000000) →
    ∃ o3' o4' o5', ∀ K : FU → UEnv → Prop, wF cw gu loBody (.nm 3) us [.val (.int (m : Nat)), o1, .own (.lst ((lots m j).map lU)), o3, o4, o5, .no] K =
      K .nx [.val (.int (m : Nat)), o1, .own (.lst ((lots m (j + us.length)).map lU)), o3', o4', o5', .no]
  | [], j, o3, o4, o5, _, _ => ⟨o3, o4, o5, fun K => by simp [f_nil]⟩
  | x :: us, j, o3, o4, o5, h, hb' => by
    rw [List.length_cons] at h hb'
    have e1 : (lots m j).flatMap (nextL m) = lots m (j + 1) := rfl
    obtain ⟨o5', hl⟩ := lt_loop (cw := cw) (gu := gu) hm (o1 := o1) (o2 := .val (.lst ((lots m j).map lU))) (o3 := .val x) (lots m j) [] o5 (fun u hu => by have := lot_bd hu; omega) (by rw [List.nil_append, e1]; exact hb' (j + 1) (by omega))
    obtain ⟨p3, p4, p5, ih⟩ := lo_loop (cw := cw) (gu := gu) hm (o1 := o1) us (j + 1) (.val x) (.own (.lst ((lots m (j + 1)).map lU))) o5' (by omega) (fun i hi => hb' i (by omega))
    refine ⟨p3, p4, p5, fun K => ?_⟩
    rw [f_cons, List.length_cons, show j + (us.length + 1) = j + 1 + us.length by omega, ← ih K]
    simp only [loBody, ltBody] at hl ⊢
    simp only [List.map_nil, List.nil_append, e1] at hl
    simp [hl]
theorem llots_eq {m j : Nat} (hm : m ≤ 1000) (hj : j ≤ 1000) (hb : ∀ i, i ≤ j → (lots m i).length ≤ 1000000) : cw (n + 1) "_law_lots" [.int (m : Nat), .int (j : Nat)] Q = Q (.lst ((lots m j).map lU)) := by
  have hr := rangeU_0 (b := j) (by omega)
  unfold cw
  rw [callT rfl tb_l_lots rfl]
  obtain ⟨o3, o4, o5, hl⟩ := lo_loop (cw := callW tb gu prim n) (gu := gu) hm (o1 := .val (.int (j : Nat))) ((List.range' 0 j).map fun i : Nat => U.int i) 0 .no .no .no (by simpa using hj) (by simpa using hb)
  simp only [loBody, ltBody] at hl
  have e0 : (lots m 0).map lU = [tI []] := rfl
  rw [e0] at hl
  simp [l_lots, hr, hl]
theorem llots_of_eq {p : Option Tr} {t : Tr} (h : t.size ≤ 20) (hp : nl p ≤ 1000) (hb : ∀ i, i ≤ nl p → (lots t.size i).length ≤ 1000000) (hn : 30 ≤ n) : cw (n + 1) "_law_lots_of" [tU p, tI t.code] Q = Q (.lst ((lotsP t p).map lU)) := by
  obtain ⟨n, rfl⟩ : ∃ m, n = m + 1 := ⟨n - 1, by omega⟩
  have h1 := fun Q => lleaves_eq (n := n) (Q := Q) (p := p)
  have h2 := fun Q => lleaves_eq (n := n) (Q := Q) (p := some t)
  have h3 := fun Q => llots_eq (n := n) (Q := Q) (m := t.size) (j := nl p) (by omega) hp hb
  have h4 := fun Q u => lleft_eq t (n := n + 1) u (x := lU u) (Q := Q) (.inl rfl) (by omega) (by omega)
  rw [show tU (some t) = tI t.code from rfl] at h2
  simp only [nl] at h2
  have c2 : ∀ Q (ls : List (List Nat)), wCm (cw (n + 1)) gu (.var 2) (some (.cmp .Eq (.call (Str.ofString "_law_left") [(.var 1), (.var 2)]) (.var 0))) (.nm 2) [.val (tU p), .val (tI t.code), .no] (ls.map lU) [] Q = Q ((ls.filter fun u => decide (leftP (has u) 0 t = p)).map lU) := fun Q ls => by
    rw [comp_det lU lU (fun u => decide (leftP (has u) 0 t = p)) ls []]
    · simp
    · intro u _
      exact ⟨[.val (tU p), .val (tI t.code), .val (lU u)], by simp, fun R => by simp [h4, eq_tU], fun _ => ⟨.val (lU u), rfl, fun R => by simp⟩⟩
  unfold cw at *
  rw [callT rfl tb_l_lots_of rfl]
  simp [l_lots_of, h1, h2, h3, wipeU, c2]
  rfl
end
end K
end Ev
end

section
set_option autoImplicit false
set_option maxRecDepth 100000
set_option linter.unusedVariables false
set_option linter.unusedSimpArgs false
open PySem L2
namespace Ev
namespace K
/-! numbers put together by keys -/
section
variable {κ : Type} [DecidableEq κ]
def lkG (m : List (κ × Int)) (x : κ) : Option Int := (m.find? fun p => decide (p.1 = x)).map (·.2)
def puG (m : List (κ × Int)) (x : κ) (c : Int) : List (κ × Int) :=
  if (m.any fun p => decide (p.1 = x)) = true then m.map (fun p => if p.1 = x then (p.1, c) else p) else m ++ [(x, c)]
def addG (m : List (κ × Int)) (p : κ × Int) : List (κ × Int) := puG m p.1 ((lkG m p.1).getD 0 + p.2)
def accG (m ps : List (κ × Int)) : List (κ × Int) := ps.foldl addG m
def tot (ps : List (κ × Int)) (x : κ) : Int := ((ps.filter fun p => decide (p.1 = x)).map (·.2)).sum
def kys (m : List (κ × Int)) : List κ := m.map (·.1)
@[simp] theorem tot_nil (x : κ) : tot [] x = 0 := rfl
theorem tot_cons (p : κ × Int) (ps : List (κ × Int)) (x : κ) : tot (p :: ps) x = (if p.1 = x then p.2 else 0) + tot ps x := by
  unfold tot
  by_cases h : p.1 = x <;> simp [h]
theorem tot_append (a b : List (κ × Int)) (x : κ) : tot (a ++ b) x = tot a x + tot b x := by simp [tot]
theorem any_kys (m : List (κ × Int)) (x : κ) : (m.any fun p => decide (p.1 = x)) = decide (x ∈ kys m) := by
  rw [Bool.eq_iff_iff, List.any_eq_true, decide_eq_true_eq, kys, List.mem_map]
  simp only [decide_eq_true_eq]
theorem lk_none {m : List (κ × Int)} {x : κ} : lkG m x = none ↔ x ∉ kys m := by
  unfold lkG kys
  rw [Option.map_eq_none_iff, List.find?_eq_none]
  simp only [decide_eq_true_eq, List.mem_map, not_exists, not_and]
theorem kys_pu (m : List (κ × Int)) (x : κ) (c : Int) : kys (puG m x c) = if x ∈ kys m then kys m else kys m ++ [x] := by
  unfold puG
  rw [any_kys]
  by_cases h : x ∈ kys m
  · simp only [h, decide_true, if_true]
    unfold kys
    rw [List.map_map]
    exact List.map_congr_left fun p _ => by simp only [Function.comp]; split <;> rfl
  · rw [if_neg h, decide_eq_false h]
    simp [kys]
theorem nodup_pu {m : List (κ × Int)} (h : (kys m).Nodup) (x : κ) (c : Int) : (kys (puG m x c)).Nodup := by
  rw [kys_pu]
  split
  · exact h
  · rename_i hx
    exact List.nodup_append.2 ⟨h, List.nodup_cons.2 ⟨by simp, .nil⟩, fun a ha b hb e => by simp only [List.mem_singleton] at hb; subst hb; subst e; exact hx ha⟩
theorem tot_not {m : List (κ × Int)} {x : κ} (h : x ∉ kys m) : tot m x = 0 := by
  induction m with
  | nil => rfl
  | cons p m ih =>
    simp only [kys, List.map_cons, List.mem_cons, not_or] at h
    rw [tot_cons, if_neg fun z => h.1 z.symm, ih h.2]; rfl
theorem lk_tot {m : List (κ × Int)} (h : (kys m).Nodup) (x : κ) : (lkG m x).getD 0 = tot m x := by
  induction m with
  | nil => rfl
  | cons p m ih =>
    simp only [kys, List.map_cons, List.nodup_cons] at h
    rw [tot_cons]
    by_cases e : p.1 = x
    · have : tot m x = 0 := tot_not (by rw [← e]; exact h.1)
      simp [lkG, e, this]
    · rw [if_neg e, Int.zero_add, ← ih h.2]
      simp [lkG, e]
theorem lk_some {m : List (κ × Int)} (h : (kys m).Nodup) {x : κ} (hx : x ∈ kys m) : lkG m x = some (tot m x) := by
  have := lk_tot h x
  cases e : lkG m x with
  | none => exact absurd hx (lk_none.1 e)
  | some c => rw [e] at this; rw [← this]; rfl
def gsum (f : κ → Int) (ps : List (κ × Int)) : Int := (ps.map fun p => f p.1 * p.2).sum
@[simp] theorem gsum_nil (f : κ → Int) : gsum f [] = 0 := rfl
theorem gsum_cons (f : κ → Int) (p : κ × Int) (ps : List (κ × Int)) : gsum f (p :: ps) = f p.1 * p.2 + gsum f ps := by simp [gsum]
theorem gsum_append (f : κ → Int) (a b : List (κ × Int)) : gsum f (a ++ b) = gsum f a + gsum f b := by simp [gsum]
theorem tot_gsum (ps : List (κ × Int)) (x : κ) : tot ps x = gsum (fun y => if y = x then 1 else 0) ps := by
  induction ps with
  | nil => rfl
  | cons p ps ih => rw [tot_cons, gsum_cons, ih]; split <;> simp
theorem gsum_pu {m : List (κ × Int)} (h : (kys m).Nodup) (f : κ → Int) (x : κ) (c : Int) : gsum f (puG m x c) = gsum f m + f x * (c - tot m x) := by
  unfold puG
  rw [any_kys]
  by_cases hx : x ∈ kys m
  · simp only [hx, decide_true, if_true]
    induction m with
    | nil => simp [kys] at hx
    | cons p m ih =>
      simp only [kys, List.map_cons, List.nodup_cons] at h
      rw [List.map_cons, gsum_cons, gsum_cons, tot_cons]
      by_cases e : p.1 = x
      · have hn : x ∉ kys m := by rw [← e]; exact h.1
        have : (m.map fun p => if p.1 = x then (p.1, c) else p) = m := by
          conv => rhs; rw [← List.map_id m]
          exact List.map_congr_left fun q hq => by rw [if_neg fun z => hn (by rw [← z]; exact List.mem_map_of_mem hq)]; rfl
        rw [this, tot_not hn]
        simp only [e, if_true]
        rw [Int.mul_sub, Int.mul_add]; omega
      · have hx' : x ∈ kys m := by
          simp only [kys, List.map_cons, List.mem_cons] at hx
          rcases hx with hx | hx
          · exact absurd hx.symm e
          · exact hx
        simp only [e, if_false]
        rw [ih h.2 hx', Int.zero_add]; omega
  · simp only [hx, decide_false]
    rw [if_neg (by simp), gsum_append, gsum_cons, tot_not hx]
    simp
theorem gsum_add {m : List (κ × Int)} (h : (kys m).Nodup) (f : κ → Int) (p : κ × Int) : gsum f (addG m p) = gsum f m + f p.1 * p.2 := by
  rw [addG, gsum_pu h, lk_tot h]
  congr 2; omega
theorem acc_nodup : ∀ {ps m : List (κ × Int)}, (kys m).Nodup → (kys (accG m ps)).Nodup
  | [], m, h => h
  | p :: ps, m, h => acc_nodup (ps := ps) (nodup_pu h _ _)
theorem gsum_acc (f : κ → Int) : ∀ {ps m : List (κ × Int)}, (kys m).Nodup → gsum f (accG m ps) = gsum f m + gsum f ps
  | [], m, h => by simp [accG]
  | p :: ps, m, h => by
    show gsum f (accG (addG m p) ps) = _
    rw [gsum_acc f (m := addG m p) (nodup_pu h _ _), gsum_add h, gsum_cons]; omega
theorem tot_acc {ps m : List (κ × Int)} (h : (kys m).Nodup) (x : κ) : tot (accG m ps) x = tot m x + tot ps x := by
  simp only [tot_gsum]; exact gsum_acc _ h
theorem mem_acc {x : κ} : ∀ {ps m : List (κ × Int)}, x ∈ kys (accG m ps) ↔ x ∈ kys m ∨ x ∈ kys ps
  | [], m => by simp [accG, kys]
  | p :: ps, m => by
    show x ∈ kys (accG (addG m p) ps) ↔ _
    rw [mem_acc, addG, kys_pu]
    have : kys (p :: ps) = p.1 :: kys ps := rfl
    rw [this, List.mem_cons]
    split
    · rename_i h
      constructor
      · rintro (z | z); (· exact .inl z); exact .inr (.inr z)
      · rintro (z | rfl | z); (· exact .inl z); (· exact .inl h); exact .inr z
    · simp only [List.mem_append, List.mem_singleton, or_assoc]
theorem len_pu (m : List (κ × Int)) (x : κ) (c : Int) : (puG m x c).length ≤ m.length + 1 := by
  unfold puG; split <;> simp
theorem len_acc : ∀ (ps m : List (κ × Int)), (accG m ps).length ≤ m.length + ps.length
  | [], m => by simp [accG]
  | p :: ps, m => by
    have := len_acc ps (addG m p)
    have := len_pu m p.1 ((lkG m p.1).getD 0 + p.2)
    show (accG (addG m p) ps).length ≤ _
    simp only [addG, List.length_cons] at *
    omega
end
/-! keyed by trees -/
abbrev Rw := List (Option Tr × Int)
def cd (m : Rw) : List (List Int × Int) := m.map fun p => (pc p.1, p.2)
theorem lk_cd (m : Rw) (p : Option Tr) : lkI (cd m) (pc p) = lkG m p := by
  unfold lkI lkG cd
  induction m with
  | nil => rfl
  | cons q m ih =>
    rw [List.map_cons]
    by_cases h : q.1 = p
    · simp [h]
    · have h' : ¬ pc q.1 = pc p := fun z => h (pc_inj z)
      simp only [List.find?_cons, decide_eq_false h, decide_eq_false h']
      exact ih
theorem pu_cd (m : Rw) (p : Option Tr) (c : Int) : puI (cd m) (pc p) c = cd (puG m p c) := by
  have hany : ((cd m).any fun q => decide (q.1 = pc p)) = (m.any fun q => decide (q.1 = p)) := by
    unfold cd
    rw [List.any_map]
    congr 1
    funext q
    simp only [Function.comp, pc_eq]
  unfold puI puG
  rw [hany]
  split
  · unfold cd
    rw [List.map_map, List.map_map]
    refine List.map_congr_left fun q _ => ?_
    simp only [Function.comp, pc_eq]
    split <;> rfl
  · simp [cd]
def uT (m : Rw) : List (D × U) := uI U.int (cd m)
theorem uT_len (m : Rw) : (uT m).length = m.length := by rw [uT, uI_len]; simp [cd]
@[simp] theorem get_uT {m : Rw} {p : Option Tr} {d : U} : getU (.dct (uT m)) (tU p) d = some (((lkG m p).map U.int).getD d) := by
  rw [uT, tU, get_uI, lk_cd]
@[simp] theorem idx_uT {m : Rw} {p : Option Tr} : idxU (.dct (uT m)) (tU p) = (lkG m p).map U.int := by
  rw [uT, tU, idx_uI, lk_cd]
theorem set_uT {m : Rw} {p : Option Tr} {c : Int} (h : m.length < L) : setU (.dct (uT m)) (tU p) (.int c) = some (.dct (uT (puG m p c))) := by
  rw [uT, tU, set_uI _ _ _ (by simpa [cd] using h), pu_cd]; rfl
theorem keys_uT (m : Rw) : keysU (uT m) = (kys m).map tU := by
  rw [uT, keys_uI, cd, kys, List.map_map, List.map_map]; rfl
def prU (p : Option Tr × Int) : U := .tup [tU p.1, .int p.2]
theorem items_uT (m : Rw) : ((uT m).map fun kv => U.tup [kv.1.toU, kv.2]) = m.map prU := by
  simp only [uT, uI, cd, List.map_map]
  exact List.map_congr_left fun p _ => by simp [prU, tU]
/-- a row or form as a value: what is told of a dict -/
def rowL (m : Rw) : List (List Int × Int) := (sortI ((kys m).map pc)).map fun x => (x, tot (cd m) x)
def rowV (l : List (List Int × Int)) : U := .tup (l.map fun p => .tup [tI p.1, .int p.2])
theorem sort_kys (m : Rw) : sortU ((kys m).map tU) = some ((sortI ((kys m).map pc)).map tI) := by
  have : (kys m).map tU = ((kys m).map pc).map tI := by rw [List.map_map]; rfl
  rw [this, sortU_tIs]
theorem tot_cd (m : Rw) (p : Option Tr) : tot (cd m) (pc p) = tot m p := by
  unfold tot cd
  rw [List.filter_map, List.map_map]
  congr 2
  refine List.filter_congr fun q _ => ?_
  simp only [Function.comp, pc_eq]
theorem nodup_pc {m : Rw} (h : (kys m).Nodup) : ((kys m).map pc).Nodup := List.pairwise_map.2 (h.imp fun h e => h (pc_inj e))
/-- the same numbers: the same row -/
theorem rowL_congr {m m' : Rw} (h : (kys m).Nodup) (h' : (kys m').Nodup) (hk : ∀ p, p ∈ kys m ↔ p ∈ kys m') (ht : ∀ p, tot m p = tot m' p) : rowL m = rowL m' := by
  have e : sortI ((kys m).map pc) = sortI ((kys m').map pc) := by
    refine sorted_uniq (sortI_sorted _) (sortI_sorted _) ((sortI_perm _).trans (((List.perm_ext_iff_of_nodup (nodup_pc h) (nodup_pc h')).2 fun x => ?_).trans (sortI_perm _).symm))
    simp only [List.mem_map]
    exact ⟨fun ⟨p, hp, e⟩ => ⟨p, (hk p).1 hp, e⟩, fun ⟨p, hp, e⟩ => ⟨p, (hk p).2 hp, e⟩⟩
  unfold rowL
  rw [e]
  refine List.map_congr_left fun x hx => ?_
  obtain ⟨p, _, rfl⟩ := List.mem_map.1 ((sortI_perm _).mem_iff.1 hx)
  rw [tot_cd, tot_cd, ht]
/-! rows of trees -/
def prs (deg : Nat) (m1 m2 : Rw) : Rw := m1.flatMap fun p => (m2.filter fun q => decide (nl p.1 + nl q.1 ≤ deg)).map fun q => (pt p.1 q.1, p.2 * q.2)
def rowT (deg : Nat) : Tr → Rw
  | .leaf a => if 0 < deg then [(none, 1), (some (.leaf a), 1)] else [(none, 1)]
  | .node l r => accG [] (prs deg (rowT deg l) (rowT deg r))
theorem rowT_nodup (deg : Nat) : ∀ t, (kys (rowT deg t)).Nodup
  | .leaf a => by rw [rowT]; split <;> simp [kys]
  | .node l r => acc_nodup (by simp [kys])
theorem gsum_ind {κ : Type} [DecidableEq κ] (ps : List (κ × Int)) (a : κ) (A : Int) : gsum (fun y => if y = a then A else 0) ps = tot ps a * A := by
  induction ps with
  | nil => simp
  | cons p ps ih => rw [gsum_cons, tot_cons, ih, Int.add_mul]; split <;> simp [Int.mul_comm]
theorem gsum_plus {κ : Type} [DecidableEq κ] (f g : κ → Int) (ps : List (κ × Int)) : gsum (fun y => f y + g y) ps = gsum f ps + gsum g ps := by
  induction ps with
  | nil => simp
  | cons p ps ih => rw [gsum_cons, gsum_cons, gsum_cons, ih, Int.add_mul]; omega
theorem tot_map {ps : Rw} {f : Option Tr → Option Tr} {c : Int} {p q : Option Tr} (h : ∀ v, f v = p ↔ v = q) : tot (ps.map fun v => (f v.1, c * v.2)) p = c * tot ps q := by
  induction ps with
  | nil => simp
  | cons v ps ih =>
    rw [List.map_cons, tot_cons, tot_cons, ih, Int.mul_add]
    by_cases e : v.1 = q
    · simp [e, (h q).2 rfl]
    · have : ¬ f v.1 = p := fun z => e ((h _).1 z)
      simp [e, this]
theorem tot_map0 {ps : Rw} {f : Option Tr → Option Tr} {c : Int} {p : Option Tr} (h : ∀ v, ¬ f v = p) : tot (ps.map fun v => (f v.1, c * v.2)) p = 0 := by
  induction ps with
  | nil => simp
  | cons v ps ih => rw [List.map_cons, tot_cons, ih, if_neg (h _)]; rfl
theorem tot_filter {ps : Rw} {u p : Option Tr} {deg : Nat} {c : Int} (hp : nl p ≤ deg) : tot ((ps.filter fun q => decide (nl u + nl q.1 ≤ deg)).map fun q => (pt u q.1, c * q.2)) p = tot (ps.map fun q => (pt u q.1, c * q.2)) p := by
  induction ps with
  | nil => rfl
  | cons v ps ih =>
    rw [List.filter_cons]
    by_cases h : nl u + nl v.1 ≤ deg
    · simp only [h, decide_true, if_true, List.map_cons]
      rw [tot_cons, tot_cons, ih]
    · simp only [h, decide_false, Bool.false_eq_true, if_false, List.map_cons]
      rw [tot_cons, ih, if_neg (fun z => by simp only at z; rw [← z, nl_pt] at hp; omega)]
      omega
theorem tot_flat {α : Type} (f : α → Rw) (p : Option Tr) : ∀ xs : List α, tot (xs.flatMap f) p = (xs.map fun x => tot (f x) p).sum
  | [] => rfl
  | x :: xs => by rw [List.flatMap_cons, tot_append, tot_flat f p xs]; simp
/-- a product of rows, number by number -/
theorem tot_prs {deg : Nat} {m1 m2 : Rw} {p : Option Tr} (hp : nl p ≤ deg) : tot (prs deg m1 m2) p = match p with
    | none => tot m1 none * tot m2 none
    | some (.leaf b) => tot m1 none * tot m2 (some (.leaf b)) + tot m1 (some (.leaf b)) * tot m2 none
    | some (.node ql qr) => tot m1 none * tot m2 (some (.node ql qr)) + tot m1 (some (.node ql qr)) * tot m2 none + tot m1 (some ql) * tot m2 (some qr) := by
  unfold prs
  rw [tot_flat]
  simp only [tot_filter hp]
  have key : ∀ F : Option Tr → Int, (∀ u c, tot (m2.map fun q => (pt u q.1, c * q.2)) p = F u * c) → ((m1.map fun x => tot (m2.map fun q => (pt x.1 q.1, x.2 * q.2)) p).sum = gsum F m1) := fun F h => by
    unfold gsum
    congr 1
    exact List.map_congr_left fun x _ => h x.1 x.2
  cases p with
  | none =>
    simp only
    rw [key (fun u => if u = none then tot m2 none else 0) fun u c => by
      cases u with
      | none => rw [tot_map (q := none) fun v => by simp [pt]]; simp [Int.mul_comm]
      | some u => rw [tot_map0 fun v => by cases v <;> simp [pt]]; simp, gsum_ind]
  | some q =>
    cases q with
    | leaf b =>
      simp only
      rw [key (fun u => (if u = none then tot m2 (some (.leaf b)) else 0) + (if u = some (.leaf b) then tot m2 none else 0)) fun u c => by
        cases u with
        | none => rw [tot_map (q := some (.leaf b)) fun v => by simp [pt]]; simp [Int.mul_comm]
        | some u =>
          by_cases e : u = .leaf b
          · subst e
            rw [tot_map (q := none) fun v => by cases v <;> simp [pt]]; simp [Int.mul_comm]
          · rw [tot_map0 fun v => by cases v <;> simp [pt, e]]; simp [e], gsum_plus, gsum_ind, gsum_ind]
    | node ql qr =>
      simp only
      rw [key (fun u => (if u = none then tot m2 (some (.node ql qr)) else 0) + (if u = some (.node ql qr) then tot m2 none else 0) + (if u = some ql then tot m2 (some qr) else 0)) fun u c => by
        cases u with
        | none => rw [tot_map (q := some (.node ql qr)) fun v => by simp [pt]]; simp [Int.mul_comm]
        | some u =>
          have hne : ¬ Tr.node ql qr = ql := fun z => by have := congrArg Tr.size z; have := size_pos qr; simp [Tr.size] at *; omega
          by_cases e : u = .node ql qr
          · subst e
            rw [tot_map (q := none) fun v => by
              cases v with
              | none => simp [pt]
              | some v => simp [pt]; exact fun z => absurd z hne]
            simp [Int.mul_comm, hne]
          · by_cases e2 : u = ql
            · subst e2
              rw [tot_map (q := some qr) fun v => by cases v <;> simp [pt, e]]
              simp [e, Int.mul_comm]
            · rw [tot_map0 fun v => by cases v <;> simp [pt, e, e2]]; simp [e, e2], gsum_plus, gsum_plus, gsum_ind, gsum_ind, gsum_ind]
theorem prs_nl {deg : Nat} {m1 m2 : Rw} {p : Option Tr} (h : p ∈ kys (prs deg m1 m2)) : nl p ≤ deg := by
  obtain ⟨q, hq, rfl⟩ := List.mem_map.1 h
  obtain ⟨u, _, hq⟩ := List.mem_flatMap.1 hq
  obtain ⟨v, hv, rfl⟩ := List.mem_map.1 hq
  have := (List.mem_filter.1 hv).2
  rw [decide_eq_true_eq] at this
  rw [nl_pt]; exact this
theorem rowT_nl {deg : Nat} {p : Option Tr} : ∀ {t : Tr}, p ∈ kys (rowT deg t) → nl p ≤ deg
  | .leaf a, h => by
    rw [rowT] at h
    split at h
    · simp [kys] at h; rcases h with rfl | rfl <;> simp [nl, Tr.size]; omega
    · simp [kys] at h; subst h; simp [nl]
  | .node l r, h => by
    rw [rowT, mem_acc] at h
    rcases h with h | h
    · simp [kys] at h
    · exact prs_nl h
/-- THE ROW OF A TREE -/
theorem tot_row (deg : Nat) : ∀ (t : Tr) (p : Option Tr), tot (rowT deg t) p = if nl p ≤ deg then (cnt p t : Int) else 0
  | .leaf a, p => by
    rw [rowT]
    by_cases hd : 0 < deg
    · rw [if_pos hd, tot_cons, tot_cons, tot_nil]
      cases p with
      | none => simp [nl, cnt]
      | some p =>
        simp only [cnt, cn_leaf]
        by_cases h : p = .leaf a
        · subst h
          have : 1 ≤ deg := hd
          simp [nl, Tr.size, this]
        · have : ¬ Tr.leaf a = p := fun z => h z.symm
          simp [h, this]
    · rw [if_neg hd, tot_cons, tot_nil]
      cases p with
      | none => simp [nl, cnt]
      | some p =>
        have := size_pos p
        have h : ¬ nl (some p) ≤ deg := by simp only [nl]; omega
        simp [h]
  | .node l r, p => by
    by_cases hp : nl p ≤ deg
    · rw [rowT, tot_acc (by simp [kys]), tot_prs hp, if_pos hp, tot_nil]
      cases p with
      | none => simp [tot_row deg l, tot_row deg r, nl, cnt]
      | some q =>
        cases q with
        | leaf b =>
          have h0 : nl none ≤ deg := Nat.zero_le _
          simp only [tot_row deg l, tot_row deg r, if_pos hp, if_pos h0, cnt, cn_node]
          simp; omega
        | node ql qr =>
          have h0 : nl none ≤ deg := Nat.zero_le _
          have h1 : nl (some ql) ≤ deg := by simp only [nl, Tr.size] at *; omega
          have h2 : nl (some qr) ≤ deg := by simp only [nl, Tr.size] at *; omega
          simp only [tot_row deg l, tot_row deg r, if_pos hp, if_pos h0, if_pos h1, if_pos h2, cnt, cn_node]
          simp; omega
    · rw [if_neg hp]
      exact tot_not fun z => hp (rowT_nl z)
theorem rowT_mem {deg : Nat} {p : Option Tr} : ∀ {t : Tr}, p ∈ kys (rowT deg t) ↔ nl p ≤ deg ∧ 0 < cnt p t := by
  intro t
  have pos : ∀ {t : Tr} {q : Option Tr × Int}, q ∈ rowT deg t → 0 < q.2 := by
    intro t
    induction t with
    | leaf a => intro q h; rw [rowT] at h; split at h <;> simp at h; (· rcases h with rfl | rfl <;> exact Int.one_pos); (· subst h; exact Int.one_pos)
    | node l r hl hr =>
      have hprs : ∀ q ∈ prs deg (rowT deg l) (rowT deg r), 0 < q.2 := fun q h => by
        obtain ⟨u, hu, hq⟩ := List.mem_flatMap.1 h
        obtain ⟨v, hv, rfl⟩ := List.mem_map.1 hq
        exact Int.mul_pos (hl hu) (hr (List.mem_filter.1 hv).1)
      have : ∀ (ps m : Rw), (∀ q ∈ m, 0 < q.2) → (∀ q ∈ ps, 0 < q.2) → ∀ q ∈ accG m ps, 0 < q.2 := fun ps => by
        induction ps with
        | nil => intro m h _ q hq; exact h q hq
        | cons p ps ih =>
          intro m h h' q hq
          refine ih (addG m p) (fun q hq => ?_) (fun q hq => h' q (List.mem_cons_of_mem _ hq)) q hq
          have hg : 0 ≤ (lkG m p.1).getD 0 := by
            unfold lkG
            cases e : m.find? (fun q => decide (q.1 = p.1)) with
            | none => simp
            | some z => have := h z (List.mem_of_find?_eq_some e); simp; omega
          have hp := h' p (List.mem_cons_self ..)
          unfold addG puG at hq
          split at hq
          · obtain ⟨z, hz, rfl⟩ := List.mem_map.1 hq
            split
            · simp only; omega
            · exact h z hz
          · rw [List.mem_append, List.mem_singleton] at hq
            rcases hq with hq | rfl
            · exact h q hq
            · simp only; omega
      intro q hq
      rw [rowT] at hq
      exact this _ [] (by simp) hprs q hq
  have hpos : ∀ {m : Rw}, (∀ q ∈ m, 0 < q.2) → ∀ p, p ∈ kys m → 0 < tot m p := by
    intro m
    induction m with
    | nil => intro _ p h; simp [kys] at h
    | cons q m ih =>
      intro h p hp
      have hnn : ∀ {m : Rw}, (∀ q ∈ m, 0 < q.2) → 0 ≤ tot m p := fun {m} => by
        induction m with
        | nil => intro _; simp
        | cons z m ih => intro h; rw [tot_cons]; have := h z (List.mem_cons_self ..); have := ih fun q hq => h q (List.mem_cons_of_mem _ hq); split <;> omega
      rw [tot_cons]
      have h1 := h q (List.mem_cons_self ..)
      have h2 := hnn fun q hq => h q (List.mem_cons_of_mem _ hq)
      by_cases e : q.1 = p
      · rw [if_pos e]; omega
      · rw [if_neg e]
        have : p ∈ kys m := by
          simp only [kys, List.map_cons, List.mem_cons] at hp
          rcases hp with hp | hp
          · exact absurd hp.symm e
          · exact hp
        have := ih (fun q hq => h q (List.mem_cons_of_mem _ hq)) p this
        omega
  constructor
  · intro h
    have h1 := rowT_nl h
    have h2 := hpos (fun q => pos (t := t)) p h
    rw [tot_row, if_pos h1] at h2
    exact ⟨h1, by omega⟩
  · rintro ⟨h1, h2⟩
    refine Classical.byContradiction fun z => ?_
    have := tot_not z
    rw [tot_row, if_pos h1] at this
    omega
end K
end Ev
end

section
set_option autoImplicit false
set_option maxRecDepth 100000
set_option linter.unusedVariables false
set_option linter.unusedSimpArgs false
set_option linter.unusedSectionVars false
open PySem L2
namespace Ev
theorem pairUp_uI (m : List (List Int × Int)) (x : List Int) (c : Int) (r : List U) (h : m.length < 15) : pairUpU (uI U.int m) (tI x :: .int c :: r) = pairUpU (uI U.int (puI m x c)) r := by
  rw [pairUpU, toD_tI, Option.bind_some, keyFits_uI, uI_len, decide_eq_true h, Bool.and_self, if_pos rfl, dputU_uI]
theorem pairUp_one (x : List Int) (c : Int) : pairUpU [] [tI x, .int c] = some (uI U.int [(x, c)]) := by
  have := pairUp_uI [] x c [] (by simp)
  rw [show uI U.int [] = [] from rfl] at this
  rw [this, pairUpU]; rfl
theorem pairUp_two (x y : List Int) (c d : Int) : pairUpU [] [tI x, .int c, tI y, .int d] = some (uI U.int (puI [(x, c)] y d)) := by
  have := pairUp_uI [] x c [tI y, .int d] (by simp)
  rw [show uI U.int [] = [] from rfl] at this
  rw [this, show puI [] x c = [(x, c)] from rfl, pairUp_uI _ _ _ _ (by simp), pairUpU]
namespace K
/-- in ascending sequence -/
def sortT (ks : List (Option Tr)) : List (Option Tr) := ks.mergeSort fun p q => leI (pc p) (pc q)
theorem sortT_pc (ks : List (Option Tr)) : (sortT ks).map pc = sortI (ks.map pc) := List.map_mergeSort fun _ _ _ _ => rfl
theorem sortT_perm (ks : List (Option Tr)) : (sortT ks).Perm ks := List.mergeSort_perm _ _
theorem sort_kys' (ks : List (Option Tr)) : sortU (ks.map tU) = some ((sortT ks).map tU) := by
  have h1 : ks.map tU = (ks.map pc).map tI := by rw [List.map_map]; rfl
  have h2 : (sortT ks).map tU = ((sortT ks).map pc).map tI := by rw [List.map_map]; rfl
  rw [h1, sortU_tIs, h2, sortT_pc]
def rowO (m : Rw) : Rw := (sortT (kys m)).map fun p => (p, tot m p)
def rwV (m : Rw) : U := .tup (m.map prU)
theorem kys_rowO (m : Rw) : kys (rowO m) = sortT (kys m) := by
  unfold rowO kys; rw [List.map_map]; exact List.map_id _
theorem tot_fn {ks : List (Option Tr)} (h : ks.Nodup) (f : Option Tr → Int) (p : Option Tr) : tot (ks.map fun p => (p, f p)) p = if p ∈ ks then f p else 0 := by
  induction ks with
  | nil => rfl
  | cons k ks ih =>
    rw [List.nodup_cons] at h
    rw [List.map_cons, tot_cons, ih h.2]
    by_cases e : k = p
    · subst e; simp [h.1]
    · have : ¬ p = k := fun z => e z.symm
      simp [e, this]
theorem nodup_rowO {m : Rw} (h : (kys m).Nodup) : (kys (rowO m)).Nodup := by rw [kys_rowO]; exact (sortT_perm _).nodup_iff.2 h
theorem tot_rowO {m : Rw} (h : (kys m).Nodup) (p : Option Tr) : tot (rowO m) p = tot m p := by
  rw [rowO, tot_fn ((sortT_perm _).nodup_iff.2 h)]
  split
  · rfl
  · rename_i z
    exact (tot_not fun w => z ((sortT_perm _).mem_iff.2 w)).symm
theorem mem_rowO {m : Rw} {p : Option Tr} : p ∈ kys (rowO m) ↔ p ∈ kys m := by rw [kys_rowO]; exact (sortT_perm _).mem_iff
theorem sortT_sorted (ks : List (Option Tr)) : (sortT ks).Pairwise fun p q => leI (pc p) (pc q) = true := by
  have := sortI_sorted (ks.map pc)
  rw [← sortT_pc, List.pairwise_map] at this
  exact this
theorem sortT_uniq {l m : List (Option Tr)} (hl : l.Pairwise fun p q => leI (pc p) (pc q) = true) (hm : m.Pairwise fun p q => leI (pc p) (pc q) = true) (h : l.Perm m) : l = m :=
  List.Perm.eq_of_pairwise (fun _ _ _ _ h h' => pc_inj (leI_anti h h')) hl hm h
/-- the same numbers: the same row -/
theorem rowO_congr {m m' : Rw} (h : (kys m).Nodup) (h' : (kys m').Nodup) (hk : ∀ p, p ∈ kys m ↔ p ∈ kys m') (ht : ∀ p, tot m p = tot m' p) : rowO m = rowO m' := by
  have e : sortT (kys m) = sortT (kys m') := sortT_uniq (sortT_sorted _) (sortT_sorted _) ((sortT_perm _).trans (((List.perm_ext_iff_of_nodup h h').2 hk).trans (sortT_perm _).symm))
  unfold rowO
  rw [e]
  exact List.map_congr_left fun p _ => by rw [ht]
def frm (m : Rw) : Rw := (rowO m).filter fun p => decide (p.2 ≠ 0)
theorem frm_row {m m' : Rw} (h : (kys m).Nodup) (h' : (kys m').Nodup) (hk : ∀ p, p ∈ kys m' ↔ tot m' p ≠ 0) (ht : ∀ p, tot m p = tot m' p) : frm m = rowO m' := by
  have e : (sortT (kys m)).filter (fun p => decide (tot m p ≠ 0)) = sortT (kys m') := by
    refine sortT_uniq ((sortT_sorted _).filter _) (sortT_sorted _) (((List.perm_ext_iff_of_nodup (((sortT_perm _).nodup_iff.2 h).filter _) h').2 fun p => ?_).trans (sortT_perm _).symm)
    rw [List.mem_filter, (sortT_perm _).mem_iff, decide_eq_true_eq, hk, ht]
    constructor
    · exact fun z => z.2
    · intro z
      refine ⟨Classical.byContradiction fun w => z ?_, z⟩
      rw [← ht]; exact tot_not w
  unfold frm rowO
  rw [List.filter_map, ← e]
  exact List.map_congr_left fun p _ => by rw [ht]
section
variable {n : Nat} {Q : U → Prop}
theorem mul_okl {a b : Int} (h : a.natAbs < 2 ^ 64) : mulOk a b = true := by
  unfold mulOk
  rw [decide_eq_true h, Bool.or_true, Bool.true_or]
/-! rows put together -/
def prs1 (deg : Nat) (p : Option Tr × Int) (m2 : Rw) : Rw := (m2.filter fun q => decide (nl p.1 + nl q.1 ≤ deg)).map fun q => (pt p.1 q.1, p.2 * q.2)
def rpIn : List S := [.ite (.cmp .LtE (.bin .Add (.call (Str.ofString "leaves_of") [(.var 4)]) (.call (Str.ofString "leaves_of") [(.var 6)])) (.var 0)) [.asg (.nm 8) (.call (Str.ofString "put") [(.var 4), (.var 6)]),
  .seti (.var 3) (.var 8) (.bin .Add (.mth .get (.var 3) [(.var 8), (.lit (.int (0)))]) (.bin .Mult (.var 5) (.var 7)))] []]
theorem acc_cons (m : Rw) (p : Option Tr × Int) (ps : Rw) : accG m (p :: ps) = accG (addG m p) ps := rfl
theorem acc_app (m ps qs : Rw) : accG m (ps ++ qs) = accG (accG m ps) qs := List.foldl_append
theorem getD_map (o : Option Int) : ((o.map U.int).getD (.int 0)) = .int (o.getD 0) := by cases o <;> rfl
theorem rp_in {deg : Nat} {o1 o2 : Sl} {p : Option Tr} {c : Int} (hp : nl p ≤ 500) (hc : c.natAbs < 2 ^ 64) : ∀ (qs acc : Rw) (o6 o7 o8 : Sl), (∀ q ∈ qs, nl q.1 ≤ 500) → acc.length + qs.length < 1000000 →
    ∃ o6' o7' o8', ∀ K : FU → UEnv → Prop, wF (cw (n + 1)) gu rpIn (.tp [.nm 6, .nm 7]) (qs.map prU) [.val (.int (deg : Nat)), o1, o2, .own (.dct (uT acc)), .val (tU p), .val (.int c), o6, o7, o8] K =
      K .nx [.val (.int (deg : Nat)), o1, o2, .own (.dct (uT (accG acc (prs1 deg (p, c) qs)))), .val (tU p), .val (.int c), o6', o7', o8']
  | [], acc, o6, o7, o8, _, _ => ⟨o6, o7, o8, fun K => by simp [f_nil, prs1, accG]⟩
  | q :: qs, acc, o6, o7, o8, hq, hl => by
    rw [List.length_cons] at hl
    have h1 := fun Q => leaves_eq (n := n) (Q := Q) (p := p)
    have h2 := fun Q => leaves_eq (n := n) (Q := Q) (p := q.1)
    have hq1 := hq q (List.mem_cons_self ..)
    have h3 := fun Q => put_eq (n := n) (Q := Q) (p := p) (q := q.1) (by omega)
    have hm : mulOk c q.2 = true := mul_okl hc
    by_cases hg : nl p + nl q.1 ≤ deg
    · have hg' : (nl p : Int) + nl q.1 ≤ deg := by omega
      have hs := set_uT (m := acc) (p := pt p q.1) (c := (lkG acc (pt p q.1)).getD 0 + c * q.2) (by rw [L_eq']; omega)
      obtain ⟨a, b, d, ih⟩ := rp_in hp hc (deg := deg) (o1 := o1) (o2 := o2) qs (addG acc (pt p q.1, c * q.2)) (.val (tU q.1)) (.val (.int q.2)) (.val (tU (pt p q.1))) (fun q' h' => hq q' (List.mem_cons_of_mem _ h')) (by have := len_pu acc (pt p q.1) ((lkG acc (pt p q.1)).getD 0 + c * q.2); simp only [addG]; omega)
      refine ⟨a, b, d, fun K => ?_⟩
      have e : prs1 deg (p, c) (q :: qs) = (pt p q.1, c * q.2) :: prs1 deg (p, c) qs := by simp [prs1, hg]
      rw [e, acc_cons, ← ih K, List.map_cons, f_cons]
      simp only [rpIn] at ih ⊢
      simp [prU, h1, h2, h3, hg', hm, getD_map, hs, addG]
    · have hg' : ¬ (nl p : Int) + nl q.1 ≤ deg := by omega
      obtain ⟨a, b, d, ih⟩ := rp_in hp hc (deg := deg) (o1 := o1) (o2 := o2) qs acc (.val (tU q.1)) (.val (.int q.2)) o8 (fun q' h' => hq q' (List.mem_cons_of_mem _ h')) (by omega)
      refine ⟨a, b, d, fun K => ?_⟩
      have e : prs1 deg (p, c) (q :: qs) = prs1 deg (p, c) qs := by simp [prs1, hg]
      rw [e, ← ih K, List.map_cons, f_cons]
      simp only [rpIn] at ih ⊢
      simp [prU, h1, h2, hg']
theorem prs_cons (deg : Nat) (p : Option Tr × Int) (ps m2 : Rw) : prs deg (p :: ps) m2 = prs1 deg p m2 ++ prs deg ps m2 := rfl
theorem prs1_len (deg : Nat) (p : Option Tr × Int) (m2 : Rw) : (prs1 deg p m2).length ≤ m2.length := by
  unfold prs1; rw [List.length_map]; exact List.length_filter_le ..
theorem rp_out {deg : Nat} {o1 : Sl} {m2 : Rw} (h2 : ∀ q ∈ m2, nl q.1 ≤ 500) : ∀ (ps acc : Rw) (o4 o5 o6 o7 o8 : Sl), (∀ p ∈ ps, nl p.1 ≤ 500 ∧ p.2.natAbs < 2 ^ 64) → acc.length + ps.length * m2.length < 1000000 →
    ∃ o4' o5' o6' o7' o8', ∀ K : FU → UEnv → Prop, wF (cw (n + 1)) gu [.for (.tp [(.nm 6), (.nm 7)]) (.items (.var 2)) rpIn] (.tp [.nm 4, .nm 5]) (ps.map prU) [.val (.int (deg : Nat)), o1, .val (.dct (uT m2)), .own (.dct (uT acc)), o4, o5, o6, o7, o8] K =
      K .nx [.val (.int (deg : Nat)), o1, .val (.dct (uT m2)), .own (.dct (uT (accG acc (prs deg ps m2)))), o4', o5', o6', o7', o8']
  | [], acc, o4, o5, o6, o7, o8, _, _ => ⟨o4, o5, o6, o7, o8, fun K => by simp [f_nil, prs, accG]⟩
  | p :: ps, acc, o4, o5, o6, o7, o8, hp, hl => by
    rw [List.length_cons, Nat.succ_mul] at hl
    have hp1 := hp p (List.mem_cons_self ..)
    have hlen := len_acc (prs1 deg p m2) acc
    have hlen2 := prs1_len deg p m2
    obtain ⟨a, b, d, hi⟩ := rp_in (n := n) (deg := deg) (o1 := o1) (o2 := .val (.dct (uT m2))) hp1.1 hp1.2 m2 acc o6 o7 o8 h2 (by omega)
    obtain ⟨x4, x5, x6, x7, x8, ih⟩ := rp_out (deg := deg) (o1 := o1) h2 ps (accG acc (prs1 deg p m2)) (.val (tU p.1)) (.val (.int p.2)) a b d (fun q h' => hp q (List.mem_cons_of_mem _ h')) (by omega)
    refine ⟨x4, x5, x6, x7, x8, fun K => ?_⟩
    rw [prs_cons, acc_app, ← ih K, List.map_cons, f_cons]
    simp only [rpIn] at hi ⊢
    simp [prU, items_uT, hi]
theorem rows_put_eq {deg : Nat} {m1 m2 : Rw} (h1 : ∀ p ∈ m1, nl p.1 ≤ 500 ∧ p.2.natAbs < 2 ^ 64) (h2 : ∀ q ∈ m2, nl q.1 ≤ 500) (hl : m1.length * m2.length < 1000000) : cw (n + 2) "rows_put" [.int (deg : Nat), .dct (uT m1), .dct (uT m2)] Q = Q (.dct (uT (accG [] (prs deg m1 m2)))) := by
  obtain ⟨o4, o5, o6, o7, o8, h⟩ := rp_out (n := n) (deg := deg) (o1 := .val (.dct (uT m1))) h2 m1 [] .no .no .no .no .no h1 (by simpa using hl)
  unfold cw at *
  rw [callT rfl tb_c_rows_put rfl]
  simp only [rpIn] at h
  simp [c_rows_put, items_uT]
  rw [show ([] : List (D × U)) = uT [] from rfl, h]
  simp
end
end K
end Ev
end

section
set_option autoImplicit false
set_option maxRecDepth 100000
set_option linter.unusedVariables false
set_option linter.unusedSimpArgs false
set_option linter.unusedSectionVars false
open PySem L2
namespace Ev
namespace K
theorem nodup_len {α : Type} [DecidableEq α] : ∀ {l m : List α}, l.Nodup → (∀ x ∈ l, x ∈ m) → l.length ≤ m.length
  | [], _, _, _ => Nat.zero_le _
  | x :: l, m, h, hs => by
    rw [List.nodup_cons] at h
    have hx := hs x (List.mem_cons_self ..)
    have := nodup_len (l := l) (m := m.erase x) h.2 fun y hy => (List.mem_erase_of_ne (fun z => h.1 (by rw [← z]; exact hy))).2 (hs y (List.mem_cons_of_mem _ hy))
    rw [List.length_erase_of_mem hx] at this
    have : 0 < m.length := List.length_pos_of_mem hx
    simp only [List.length_cons]; omega
theorem LT_len : ∀ t : Tr, (LT t).length = 2 ^ t.size
  | .leaf a => rfl
  | .node l r => by
    have : ∀ (xs ys : List (Option Tr)), (xs.flatMap fun u => ys.map (pt u)).length = xs.length * ys.length := fun xs ys => by
      induction xs with
      | nil => simp
      | cons x xs ih => rw [List.flatMap_cons, List.length_append, ih, List.length_map, List.length_cons, Nat.succ_mul]; omega
    rw [LT, this, LT_len l, LT_len r, Tr.size, Nat.pow_add]
theorem cnt_lt (p : Option Tr) (t : Tr) : cnt p t ≤ 2 ^ t.size := by rw [← LT_count, ← LT_len]; exact List.count_le_length
theorem rowT_len (deg : Nat) (t : Tr) : (rowT deg t).length ≤ 2 ^ t.size := by
  rw [← LT_len, ← List.length_map (f := fun p : Option Tr × Int => p.1)]
  refine nodup_len (rowT_nodup deg t) fun p hp => ?_
  have := (rowT_mem.1 hp).2
  rw [← LT_count] at this
  exact List.count_pos_iff.1 this
theorem mem_val {m : Rw} (h : (kys m).Nodup) {q : Option Tr × Int} (hq : q ∈ m) : q.2 = tot m q.1 := by
  induction m with
  | nil => cases hq
  | cons p m ih =>
    simp only [kys, List.map_cons, List.nodup_cons] at h
    rw [tot_cons]
    rcases List.mem_cons.1 hq with rfl | hq
    · rw [if_pos rfl, tot_not h.1]; omega
    · rw [if_neg fun z => h.1 (by rw [z]; exact List.mem_map_of_mem hq), ← ih h.2 hq]; omega
theorem rowT_val {deg : Nat} {t : Tr} {q : Option Tr × Int} (hq : q ∈ rowT deg t) : nl q.1 ≤ deg ∧ q.2 = cnt q.1 t ∧ 0 < cnt q.1 t := by
  have h1 := mem_val (rowT_nodup deg t) hq
  have h2 := rowT_mem.1 (List.mem_map_of_mem (f := fun p : Option Tr × Int => p.1) hq)
  rw [tot_row, if_pos h2.1] at h1
  exact ⟨h2.1, h1, h2.2⟩
theorem small_pow {m k : Nat} (h : m ≤ k) : 2 ^ m ≤ 2 ^ k := Nat.pow_le_pow_right (by decide) h
theorem rowT_ok {deg : Nat} {t : Tr} (hd : deg ≤ 100) (ht : t.size ≤ 16) : ∀ q ∈ rowT deg t, nl q.1 ≤ 500 ∧ q.2.natAbs < 2 ^ 64 := fun q hq => by
  obtain ⟨a, b, c⟩ := rowT_val hq
  have := cnt_lt q.1 t
  have := small_pow ht
  refine ⟨by omega, ?_⟩
  rw [b]; simp; omega
section
variable {n : Nat} {Q : U → Prop}
def roBody : List S := [.ite (.cmp .Eq (.var 3) (.neg (.lit (.int (1))))) [.asg (.nm 5) (.mth .pop (.var 2) []),
  .ex (.mth .append (.var 2) [(.call (Str.ofString "rows_put") [(.var 0), (.var 5), (.mth .pop (.var 2) [])])])] [.ex (.mth .append (.var 2) [(.ite (.cmp .Gt (.var 0) (.lit (.int (0)))) (.dct [(.tup []), (.lit (.int (1))), (.tup [(.var 3)]), (.lit (.int (1)))]) (.dct [(.tup []), (.lit (.int (1)))]))])]]
def dU (m : Rw) : U := .dct (uT m)
theorem leaf_one : pairUpU [] [tI [], .int 1] = some (uT [(none, 1)]) := pairUp_one [] 1
theorem leaf_two (a : Lf) : pairUpU [] [tI [], .int 1, tI [a.v], .int 1] = some (uT [(none, 1), (some (.leaf a), 1)]) := by
  rw [pairUp_two]; rfl
theorem ro_loop {deg : Nat} (hd : deg ≤ 100) {o1 o4 o6 : Sl} : ∀ (t : Tr) (st : List Rw) (rest : List U) (o3 o5 : Sl), st.length + t.size ≤ 1000 → t.size ≤ 16 →
    ∃ o3' o5', ∀ K : FU → UEnv → Prop, wF (cw (n + 2)) gu roBody (.nm 3) (t.code.reverse.map U.int ++ rest) [.val (.int (deg : Nat)), o1, .own (.lst (st.map dU)), o3, o4, o5, o6] K =
      wF (cw (n + 2)) gu roBody (.nm 3) rest [.val (.int (deg : Nat)), o1, .own (.lst ((st ++ [rowT deg t]).map dU)), o3', o4, o5', o6] K
  | .leaf a, st, rest, o3, o5, h, ht => by
    refine ⟨.val (.int a.v), o5, fun K => ?_⟩
    simp only [Tr.size] at h
    have hl : st.length < L := by rw [L_eq']; omega
    simp only [Tr.code, List.reverse_singleton, List.map_cons, List.map_nil, List.cons_append, List.nil_append, f_cons]
    by_cases hd0 : 0 < deg
    · have hd1 : (0 : Int) < deg := by omega
      simp [roBody, a.h, hd1, hl, leaf_two, rowT, hd0, dU]
    · have hd1 : ¬ (0 : Int) < deg := by omega
      simp [roBody, a.h, hd1, hl, leaf_one, rowT, hd0, dU]
  | .node l r, st, rest, o3, o5, h, ht => by
    simp only [Tr.size] at h ht
    have hl := size_pos l
    have hr := size_pos r
    obtain ⟨p3, p5, h1⟩ := ro_loop hd (o1 := o1) (o4 := o4) (o6 := o6) r st (l.code.reverse.map U.int ++ ([U.int (-1)] ++ rest)) o3 o5 (by omega) (by omega)
    obtain ⟨q3, q5, h2⟩ := ro_loop hd (o1 := o1) (o4 := o4) (o6 := o6) l (st ++ [rowT deg r]) ([U.int (-1)] ++ rest) p3 p5 (by simp; omega) (by omega)
    refine ⟨.val (.int (-1)), .val (dU (rowT deg l)), fun K => ?_⟩
    have e1 : (Tr.node l r).code.reverse.map U.int ++ rest = r.code.reverse.map U.int ++ (l.code.reverse.map U.int ++ ([U.int (-1)] ++ rest)) := by simp [Tr.code]
    rw [e1, h1, h2]
    have hm : (rowT deg l).length * (rowT deg r).length < 1000000 := by
      have a := rowT_len deg l
      have b := rowT_len deg r
      have c := Nat.mul_le_mul a b
      rw [← Nat.pow_add] at c
      have := small_pow ht
      omega
    have hp := fun Q => rows_put_eq (n := n) (Q := Q) (deg := deg) (m1 := rowT deg l) (m2 := rowT deg r) (rowT_ok hd (by omega)) (fun q hq => (rowT_ok hd (t := r) (by omega) q hq).1) hm
    have hlt : st.length < L := by rw [L_eq']; omega
    rw [List.cons_append, List.nil_append, f_cons]
    simp [roBody, dU, hp, hlt, rowT]
/-- a dict told as a row -/
theorem tell_comp {cw : Str → List U → PT} {gu : Str → Option U} {o0 o1 o2 o3 o5 : Sl} {m : Rw} (h : (kys m).Nodup) {Q : List U → Prop} : wCm cw gu (.tup [(.var 6), (.idx (.var 4) (.var 6))]) none (.nm 6) [o0, o1, o2, o3, .val (.dct (uT m)), o5, .no] ((sortT (kys m)).map tU) [] Q = Q ((rowO m).map prU) := by
  rw [comp_map tU (fun p => prU (p, tot m p)) (sortT (kys m)) []]
  · simp [rowO]; exact Iff.rfl
  · intro p hp
    have hk : p ∈ kys m := (sortT_perm _).mem_iff.1 hp
    exact ⟨[o0, o1, o2, o3, .val (.dct (uT m)), o5, .val (tU p)], by simp, fun R => by simp, .val (prU (p, tot m p)), rfl, fun R => by simp [lk_some h hk, prU]⟩
theorem row_of_eq {deg : Nat} {t : Tr} (hd : deg ≤ 100) (ht : t.size ≤ 16) : cw (n + 3) "row_of" [.int (deg : Nat), tI t.code] Q = Q (rwV (rowO (rowT deg t))) := by
  obtain ⟨o3, o5, hl⟩ := ro_loop (n := n) hd (o1 := .val (tI t.code)) (o4 := .no) (o6 := .no) t [] [] .no .no (by simp; omega) ht
  simp only [roBody, List.append_nil, List.map_nil, List.nil_append, List.map_cons] at hl
  unfold cw at *
  rw [callT rfl tb_c_row_of rfl]
  simp [c_row_of, rv_tI, sq_tI]
  simp only [List.map_reverse] at hl
  rw [hl, f_nil]
  simp [atI_zero, dU, keys_uT, sort_kys', wipeU]
  rw [tell_comp (rowT_nodup deg t)]
  rfl
/-! forms -/
def foBody : List S := [.seti (.var 1) (.var 2) (.bin .Add (.mth .get (.var 1) [(.var 2), (.lit (.int (0)))]) (.var 3))]
theorem fo_loop {cw : Str → List U → PT} {gu : Str → Option U} {o0 : Sl} : ∀ (ps acc : Rw) (o2 o3 : Sl), acc.length + ps.length < 1000000 →
    ∃ o2' o3', ∀ K : FU → UEnv → Prop, wF cw gu foBody (.tp [.nm 2, .nm 3]) (ps.map prU) [o0, .own (.dct (uT acc)), o2, o3] K = K .nx [o0, .own (.dct (uT (accG acc ps))), o2', o3']
  | [], acc, o2, o3, _ => ⟨o2, o3, fun K => by simp [f_nil, accG]⟩
  | p :: ps, acc, o2, o3, h => by
    rw [List.length_cons] at h
    obtain ⟨a, b, ih⟩ := fo_loop (cw := cw) (gu := gu) (o0 := o0) ps (addG acc p) (.val (tU p.1)) (.val (.int p.2)) (by have := len_pu acc p.1 ((lkG acc p.1).getD 0 + p.2); simp only [addG]; omega)
    refine ⟨a, b, fun K => ?_⟩
    have hs := set_uT (m := acc) (p := p.1) (c := (lkG acc p.1).getD 0 + p.2) (by rw [L_eq']; omega)
    rw [acc_cons, ← ih K, List.map_cons, f_cons]
    simp only [foBody]
    simp [prU, getD_map, hs, addG]
theorem form_comp {cw : Str → List U → PT} {gu : Str → Option U} {o0 o3 : Sl} {m : Rw} (h : (kys m).Nodup) {Q : List U → Prop} : wCm cw gu (.tup [(.var 2), (.idx (.var 1) (.var 2))]) (some (.cmp .NotEq (.idx (.var 1) (.var 2)) (.lit (.int (0))))) (.nm 2) [o0, .own (.dct (uT m)), .no, o3] ((sortT (kys m)).map tU) [] Q = Q ((frm m).map prU) := by
  rw [comp_det tU (fun p => prU (p, tot m p)) (fun p => decide (tot m p ≠ 0)) (sortT (kys m)) []]
  · simp only [frm, rowO, List.filter_map, List.map_map]; simp; exact Iff.rfl
  · intro p hp
    have hk : p ∈ kys m := (sortT_perm _).mem_iff.1 hp
    exact ⟨[o0, .own (.dct (uT m)), .val (tU p), o3], by simp, fun R => by simp [lk_some h hk], fun _ => ⟨.val (prU (p, tot m p)), rfl, fun R => by simp [lk_some h hk, prU]⟩⟩
theorem form_eq {ps : Rw} (h : ps.length < 1000000) : cw (n + 1) "form_of_pairs" [.lst (ps.map prU)] Q = Q (rwV (frm (accG [] ps))) := by
  obtain ⟨o2, o3, hl⟩ := fo_loop (cw := cw n) (gu := gu) (o0 := .val (.lst (ps.map prU))) ps [] .no .no (by simpa using h)
  simp only [foBody] at hl
  unfold cw at *
  rw [callT rfl tb_c_form_of_pairs rfl]
  simp [c_form_of_pairs]
  rw [show ([] : List (D × U)) = uT [] from rfl, hl]
  simp [keys_uT, sort_kys', wipeU]
  rw [form_comp (acc_nodup (by simp [kys]))]
  rfl
def rtBody : List S := [.ex (.mth .extend (.var 3) [(.comp [6, 7] (.tp [(.nm 6), (.nm 7)]) (.seq (.var 2)) (.tup [(.call (Str.ofString "put") [(.var 4), (.var 6)]), (.bin .Mult (.var 5) (.var 7))]) (some (.cmp .LtE (.bin .Add (.call (Str.ofString "leaves_of") [(.var 4)]) (.call (Str.ofString "leaves_of") [(.var 6)])) (.var 0))))])]
theorem rt_comp {deg : Nat} {o1 o2 o3 : Sl} {p : Option Tr} {c : Int} (hp : nl p ≤ 500) (hc : c.natAbs < 2 ^ 64) (m2 : Rw) (h2 : ∀ q ∈ m2, nl q.1 ≤ 500) {Q : List U → Prop} :
    wCm (cw (n + 1)) gu (.tup [(.call (Str.ofString "put") [(.var 4), (.var 6)]), (.bin .Mult (.var 5) (.var 7))]) (some (.cmp .LtE (.bin .Add (.call (Str.ofString "leaves_of") [(.var 4)]) (.call (Str.ofString "leaves_of") [(.var 6)])) (.var 0))) (.tp [(.nm 6), (.nm 7)]) [.val (.int (deg : Nat)), o1, o2, o3, .val (tU p), .val (.int c), .no, .no] (m2.map prU) [] Q = Q ((prs1 deg (p, c) m2).map prU) := by
  rw [comp_det prU (fun q => prU (pt p q.1, c * q.2)) (fun q => decide (nl p + nl q.1 ≤ deg)) m2 []]
  · simp [prs1]; exact Iff.rfl
  · intro q hq
    have h1 := fun Q => leaves_eq (n := n) (Q := Q) (p := p)
    have h2' := fun Q => leaves_eq (n := n) (Q := Q) (p := q.1)
    have h3 := fun Q => put_eq (n := n) (Q := Q) (p := p) (q := q.1) (by have := h2 q hq; omega)
    have hm : mulOk c q.2 = true := mul_okl hc
    have e : ((nl p : Int) + nl q.1 ≤ deg) = (nl p + nl q.1 ≤ deg) := propext (by omega)
    exact ⟨[.val (.int (deg : Nat)), o1, o2, o3, .val (tU p), .val (.int c), .val (tU q.1), .val (.int q.2)], by simp [prU], fun R => by simp [h1, h2', e], fun _ => ⟨.val (prU (pt p q.1, c * q.2)), rfl, fun R => by simp [h3, hm, prU]⟩⟩
theorem rt_loop {deg : Nat} {o1 : Sl} {m2 : Rw} (h2 : ∀ q ∈ m2, nl q.1 ≤ 500) : ∀ (ps acc : Rw) (o4 o5 : Sl), (∀ p ∈ ps, nl p.1 ≤ 500 ∧ p.2.natAbs < 2 ^ 64) → acc.length + ps.length * m2.length < 1000000 →
    ∃ o4' o5', ∀ K : FU → UEnv → Prop, wF (cw (n + 1)) gu rtBody (.tp [.nm 4, .nm 5]) (ps.map prU) [.val (.int (deg : Nat)), o1, .val (rwV m2), .own (.lst (acc.map prU)), o4, o5, .no, .no] K =
      K .nx [.val (.int (deg : Nat)), o1, .val (rwV m2), .own (.lst ((acc ++ prs deg ps m2).map prU)), o4', o5', .no, .no]
  | [], acc, o4, o5, _, _ => ⟨o4, o5, fun K => by simp [f_nil, prs]⟩
  | p :: ps, acc, o4, o5, hp, hl => by
    rw [List.length_cons, Nat.succ_mul] at hl
    have hp1 := hp p (List.mem_cons_self ..)
    have hlen2 := prs1_len deg p m2
    obtain ⟨a, b, ih⟩ := rt_loop (deg := deg) (o1 := o1) h2 ps (acc ++ prs1 deg p m2) (.val (tU p.1)) (.val (.int p.2)) (fun q h' => hp q (List.mem_cons_of_mem _ h')) (by simp; omega)
    refine ⟨a, b, fun K => ?_⟩
    have hL : acc.length + (prs1 deg p m2).length ≤ L := by rw [L_eq']; omega
    rw [prs_cons, ← List.append_assoc, ← ih K, List.map_cons, f_cons]
    simp only [rtBody]
    simp [prU, rwV, wipeU]
    have := fun Q => rt_comp (n := n) (deg := deg) (o1 := o1) (o2 := .val (rwV m2)) (o3 := .own (.lst (acc.map prU))) hp1.1 hp1.2 m2 h2 (Q := Q)
    simp only [rwV] at this
    rw [this]
    simp [hL]
theorem row_times_eq {deg : Nat} {m1 m2 : Rw} (h1 : ∀ p ∈ m1, nl p.1 ≤ 500 ∧ p.2.natAbs < 2 ^ 64) (h2 : ∀ q ∈ m2, nl q.1 ≤ 500) (hl : m1.length * m2.length < 1000000) : cw (n + 2) "row_times" [.int (deg : Nat), rwV m1, rwV m2] Q = Q (rwV (frm (accG [] (prs deg m1 m2)))) := by
  obtain ⟨o4, o5, h⟩ := rt_loop (n := n) (deg := deg) (o1 := .val (rwV m1)) h2 m1 [] .no .no h1 (by simpa using hl)
  have hlen : (prs deg m1 m2).length < 1000000 := by
    have : ∀ m1 : Rw, (prs deg m1 m2).length ≤ m1.length * m2.length := fun m1 => by
      induction m1 with
      | nil => simp [prs]
      | cons p m1 ih => rw [prs_cons, List.length_append, List.length_cons, Nat.succ_mul]; have := prs1_len deg p m2; omega
    have := this m1
    omega
  have hf := fun Q => form_eq (n := n) (Q := Q) hlen
  simp only [rtBody] at h
  unfold cw at *
  rw [callT rfl tb_c_row_times rfl]
  simp only [rwV] at h ⊢
  simp [c_row_times]
  rw [show ([] : List U) = List.map prU [] from rfl, h]
  simp [hf]
  rfl
end
end K
end Ev
end

section
set_option autoImplicit false
set_option maxRecDepth 100000
set_option linter.unusedVariables false
set_option linter.unusedSimpArgs false
set_option linter.unusedSectionVars false
open PySem L2
namespace Ev
namespace K
section
variable {n : Nat} {Q : U → Prop}
def worth (m : Rw) (t : Tr) : Int := (m.map fun p => p.2 * (cnt p.1 t : Int)).sum
theorem worth_eq {m : Rw} {t : Tr} (hm : ∀ p ∈ m, nl p.1 ≤ 20) (ht : t.size ≤ 16) (hn : 20 ≤ n) : cw (n + 1) "form_worth" [rwV m, tI t.code] Q = Q (.int (worth m t)) := by
  have c : ∀ Q, wCm (cw n) gu (.bin .Mult (.var 3) (.call (Str.ofString "count_of") [(.var 2), (.var 1)])) none (.tp [(.nm 2), (.nm 3)]) [.val (rwV m), .val (tI t.code), .no, .no] (m.map prU) [] Q = Q ((m.map fun p => p.2 * (cnt p.1 t : Int)).map U.int) := fun Q => by
    rw [comp_map prU (fun p => U.int (p.2 * (cnt p.1 t : Int))) m []]
    · simp; exact Iff.rfl
    · intro p hp
      have h1 := fun Q => count_eq' (n := n) (Q := Q) (p := p.1) (t := t) (hm p hp) (by omega) (by omega)
      have h2 : mulOk p.2 (cnt p.1 t : Int) = true := mul_okr (by have := cnt_lt p.1 t; have := small_pow ht; simp; omega)
      exact ⟨[.val (rwV m), .val (tI t.code), .val (tU p.1), .val (.int p.2)], by simp [prU], fun R => by simp, .val (.int (p.2 * (cnt p.1 t : Int))), rfl, fun R => by simp [h1, h2]⟩
  unfold cw at *
  rw [callT rfl tb_c_form_worth rfl]
  simp only [rwV] at c ⊢
  simp [c_form_worth, wipeU]
  rw [c]
  simp only [l_sum, intsU_map]
  simp [worth]
/-! the law's row -/
def lotsTo (m d : Nat) : List (List Nat) := (List.range d).flatMap (lots m)
def lrPairs (t : Tr) (ls : List (List Nat)) : Rw := ls.map fun u => (leftP (has u) 0 t, 1)
def lrIn : List S := [.asg (.nm 6) (.call (Str.ofString "_law_left") [(.var 1), (.var 5)]),
  .seti (.var 3) (.var 6) (.bin .Add (.mth .get (.var 3) [(.var 6), (.lit (.int (0)))]) (.lit (.int (1))))]
theorem lr_in {t : Tr} (ht : t.size ≤ 20) (hn : 21 ≤ n) {o0 o2 o4 : Sl} : ∀ (ls : List (List Nat)) (acc : Rw) (o5 o6 : Sl), acc.length + ls.length < 1000000 →
    ∃ o5' o6', ∀ K : FU → UEnv → Prop, wF (cw n) gu lrIn (.nm 5) (ls.map lU) [o0, .val (tI t.code), o2, .own (.dct (uT acc)), o4, o5, o6] K = K .nx [o0, .val (tI t.code), o2, .own (.dct (uT (accG acc (lrPairs t ls)))), o4, o5', o6']
  | [], acc, o5, o6, _ => ⟨o5, o6, fun K => by simp [f_nil, accG, lrPairs]⟩
  | u :: ls, acc, o5, o6, h => by
    rw [List.length_cons] at h
    obtain ⟨a, b, ih⟩ := lr_in ht hn (o0 := o0) (o2 := o2) (o4 := o4) ls (addG acc (leftP (has u) 0 t, 1)) (.val (lU u)) (.val (tU (leftP (has u) 0 t))) (by have := len_pu acc (leftP (has u) 0 t) ((lkG acc (leftP (has u) 0 t)).getD 0 + 1); simp only [addG]; omega)
    refine ⟨a, b, fun K => ?_⟩
    have h1 := fun Q => lleft_eq t (n := n) u (x := lU u) (Q := Q) (.inl rfl) (by omega) (by omega)
    have hs := set_uT (m := acc) (p := leftP (has u) 0 t) (c := (lkG acc (leftP (has u) 0 t)).getD 0 + 1) (by rw [L_eq']; omega)
    have e : lrPairs t (u :: ls) = (leftP (has u) 0 t, 1) :: lrPairs t ls := rfl
    rw [e, acc_cons, ← ih K, List.map_cons, f_cons]
    simp only [lrIn]
    simp [h1, getD_map, hs, addG]
theorem lr_out {t : Tr} (ht : t.size ≤ 20) (hn : 30 ≤ n) {o0 : Sl} (d : Nat) (hd : d ≤ 20) (hb : ∀ j, j ≤ d → (lotsTo t.size j).length < 1000000) : ∀ (k j : Nat) (o2 o5 o6 : Sl), j + k = d →
    ∃ o2' o5' o6', ∀ K : FU → UEnv → Prop, wF (cw (n + 1)) gu [.for (.nm 5) (.seq (.call (Str.ofString "_law_lots") [(.var 4), (.var 2)])) lrIn] (.nm 2) ((List.range' j k).map fun i : Nat => U.int i) [o0, .val (tI t.code), o2, .own (.dct (uT (accG [] (lrPairs t (lotsTo t.size j))))), .val (.int (t.size : Nat)), o5, o6] K =
      K .nx [o0, .val (tI t.code), o2', .own (.dct (uT (accG [] (lrPairs t (lotsTo t.size d))))), .val (.int (t.size : Nat)), o5', o6']
  | 0, j, o2, o5, o6, h => ⟨o2, o5, o6, fun K => by rw [← h]; simp [f_nil]⟩
  | k + 1, j, o2, o5, o6, h => by
    have hstep : lotsTo t.size (j + 1) = lotsTo t.size j ++ lots t.size j := allL_step t.size j
    have hlen := hb (j + 1) (by omega)
    rw [hstep, List.length_append] at hlen
    have hacc := len_acc (lrPairs t (lotsTo t.size j)) []
    have hl1 : (lrPairs t (lotsTo t.size j)).length = (lotsTo t.size j).length := by simp [lrPairs]
    have hlj : ∀ i, i ≤ j → (lots t.size i).length ≤ 1000000 := fun i hi => by
      have := hb (i + 1) (by omega)
      rw [show lotsTo t.size (i + 1) = lotsTo t.size i ++ lots t.size i from allL_step t.size i, List.length_append] at this
      omega
    obtain ⟨a, b, hin⟩ := lr_in (n := n + 1) ht (by omega) (o0 := o0) (o2 := .val (.int (j : Nat))) (o4 := .val (.int (t.size : Nat))) (lots t.size j) (accG [] (lrPairs t (lotsTo t.size j))) o5 o6 (by simp only [List.length_nil] at hacc; omega)
    obtain ⟨x, y, z, ih⟩ := lr_out ht hn (o0 := o0) d hd hb k (j + 1) (.val (.int (j : Nat))) a b (by omega)
    refine ⟨x, y, z, fun K => ?_⟩
    have h1 := fun Q => llots_eq (n := n) (Q := Q) (m := t.size) (j := j) (by omega) (by omega) hlj
    rw [← ih K, List.range'_succ, List.map_cons, f_cons, hstep]
    have e : lrPairs t (lotsTo t.size j ++ lots t.size j) = lrPairs t (lotsTo t.size j) ++ lrPairs t (lots t.size j) := by simp [lrPairs]
    rw [e, acc_app]
    simp only [lrIn] at hin ⊢
    simp [h1, hin]
theorem lrow_eq {deg : Nat} {t : Tr} (ht : t.size ≤ 12) (hb : ∀ j, j ≤ min deg t.size + 1 → (lotsTo t.size j).length < 1000000) (hn : 32 ≤ n) : cw (n + 2) "_law_row" [.int (deg : Nat), tI t.code] Q = Q (rwV (rowO (accG [] (lrPairs t (lotsTo t.size (min deg t.size + 1)))))) := by
  have h0 := fun Q => lleaves_eq (n := n) (Q := Q) (p := some t)
  rw [show tU (some t) = tI t.code from rfl] at h0
  simp only [nl] at h0
  obtain ⟨o2, o5, o6, h⟩ := lr_out (n := n) (t := t) (by omega) (by omega) (o0 := .val (.int (deg : Nat))) (min deg t.size + 1) (by omega) hb (min deg t.size + 1) 0 .no .no .no (by omega)
  have hr := rangeU_0 (b := min deg t.size + 1) (by omega)
  have e : ((if t.size < deg then (t.size : Int) else deg) + 1) = ((min deg t.size + 1 : Nat) : Int) := by split <;> omega
  simp only [lrIn] at h
  unfold cw at *
  rw [callT rfl tb_l_row rfl]
  simp [l_row, h0]
  rw [e, hr]
  simp only [ok_some]
  rw [show ([] : List (D × U)) = uT (accG [] (lrPairs t (lotsTo t.size 0))) from rfl, h]
  simp [keys_uT, sort_kys', wipeU]
  have hk := acc_nodup (ps := lrPairs t (lotsTo t.size (min deg t.size + 1))) (m := []) (by simp [kys])
  generalize accG [] (lrPairs t (lotsTo t.size (min deg t.size + 1))) = m at hk ⊢
  rw [comp_map tU (fun p => prU (p, tot m p)) (sortT (kys m)) []]
  · simp [rowO, rwV]; exact Iff.rfl
  · intro p hp
    have hk' : p ∈ kys m := (sortT_perm _).mem_iff.1 hp
    exact ⟨[.val (.int (deg : Nat)), .val (tI t.code), o2, .own (.dct (uT m)), .val (.int (t.size : Nat)), o5, .val (tU p)], by simp, fun R => by simp, .val (prU (p, tot m p)), rfl, fun R => by simp [lk_some hk hk', prU]⟩
theorem lr_tot (t : Tr) (ls : List (List Nat)) (p : Option Tr) : tot (lrPairs t ls) p = ((ls.filter fun u => decide (leftP (has u) 0 t = p)).length : Nat) := by
  induction ls with
  | nil => rfl
  | cons u ls ih =>
    have e : lrPairs t (u :: ls) = (leftP (has u) 0 t, 1) :: lrPairs t ls := rfl
    rw [e, tot_cons, ih, List.filter_cons]
    split <;> simp_all
    omega
theorem lots_tot (t : Tr) (p : Option Tr) : ∀ d, ((lotsTo t.size d).filter fun u => decide (leftP (has u) 0 t = p)).length = if nl p < d then cnt p t else 0
  | 0 => rfl
  | d + 1 => by
    rw [show lotsTo t.size (d + 1) = lotsTo t.size d ++ lots t.size d from allL_step t.size d, List.filter_append, List.length_append, lots_tot t p d]
    by_cases h : nl p = d
    · subst h
      rw [lots_left]
      simp
    · rw [lots_left0 t p h]
      by_cases h2 : nl p < d
      · have : nl p < d + 1 := by omega
        simp [h2, this]
      · have : ¬ nl p < d + 1 := by omega
        simp [h2, this]
theorem cn_big : ∀ {t p : Tr}, t.size < p.size → cn p t = 0
  | .leaf a, p, h => by
    rw [cn_leaf, if_neg]
    rintro rfl
    exact absurd h (Nat.lt_irrefl _)
  | .node l r, p, h => by
    have hl := size_pos l
    have hr := size_pos r
    simp only [Tr.size] at h
    rw [cn_node, cn_big (t := l) (by omega), cn_big (t := r) (by omega)]
    cases p with
    | leaf _ => rfl
    | node pl pr =>
      simp only [Tr.size] at h
      by_cases h1 : l.size < pl.size
      · simp [cn_big h1]
      · simp [cn_big (t := r) (p := pr) (by omega)]
theorem cn_same : ∀ {t p : Tr}, p.size = t.size → cn p t = if p = t then 1 else 0
  | .leaf a, p, h => by rw [cn_leaf]
  | .node l r, p, h => by
    have hl := size_pos l
    have hr := size_pos r
    simp only [Tr.size] at h
    rw [cn_node, cn_big (t := l) (p := p) (by omega), cn_big (t := r) (p := p) (by omega)]
    cases p with
    | leaf _ => simp
    | node pl pr =>
      simp only [Tr.size] at h
      by_cases h1 : l.size < pl.size
      · have : ¬ pl = l := by rintro rfl; omega
        simp [cn_big h1, this]
      · by_cases h2 : r.size < pr.size
        · have : ¬ pr = r := by rintro rfl; omega
          simp [cn_big h2, this]
        · simp only
          rw [cn_same (t := l) (p := pl) (by omega), cn_same (t := r) (p := pr) (by omega)]
          by_cases h3 : pl = l <;> by_cases h4 : pr = r <;> simp [h3, h4]
theorem cnt_big {p : Option Tr} {t : Tr} (h : t.size < nl p) : cnt p t = 0 := by
  cases p with
  | none => simp [nl] at h
  | some p => exact cn_big h
/-- the law's row is the row -/
theorem lrow_row (deg : Nat) (t : Tr) : rowO (accG [] (lrPairs t (lotsTo t.size (min deg t.size + 1)))) = rowO (rowT deg t) := by
  have hk := acc_nodup (ps := lrPairs t (lotsTo t.size (min deg t.size + 1))) (m := []) (by simp [kys])
  have ht : ∀ p, tot (accG [] (lrPairs t (lotsTo t.size (min deg t.size + 1)))) p = tot (rowT deg t) p := fun p => by
    rw [tot_acc (by simp [kys]), tot_nil, lr_tot, lots_tot, tot_row]
    by_cases h : nl p ≤ deg
    · by_cases h2 : nl p ≤ t.size
      · rw [if_pos (by omega), if_pos h]; omega
      · rw [if_neg (by omega), if_pos h, cnt_big (by omega)]; rfl
    · rw [if_neg (by omega), if_neg h]; rfl
  refine rowO_congr hk (rowT_nodup deg t) (fun p => ?_) ht
  rw [mem_acc, rowT_mem]
  simp only [kys, List.map_nil, List.not_mem_nil, false_or]
  have h1 := ht p
  rw [tot_acc (by simp [kys]), tot_nil, lr_tot, tot_row] at h1
  constructor
  · intro h
    simp only [lrPairs, List.map_map, List.mem_map, Function.comp] at h
    obtain ⟨u, hu, rfl⟩ := h
    have : 0 < ((lotsTo t.size (min deg t.size + 1)).filter fun v => decide (leftP (has v) 0 t = leftP (has u) 0 t)).length := List.length_pos_of_mem (List.mem_filter.2 ⟨hu, by simp⟩)
    split at h1
    · rename_i hd; exact ⟨hd, by omega⟩
    · omega
  · rintro ⟨hd, hc⟩
    rw [if_pos hd] at h1
    have : 0 < ((lotsTo t.size (min deg t.size + 1)).filter fun v => decide (leftP (has v) 0 t = p)).length := by omega
    obtain ⟨u, hu⟩ := List.exists_mem_of_length_pos this
    rw [List.mem_filter, decide_eq_true_eq] at hu
    simp only [lrPairs, List.map_map, List.mem_map, Function.comp]
    exact ⟨u, hu.1, hu.2⟩
end
end K
end Ev
end

section
set_option autoImplicit false
set_option maxRecDepth 100000
set_option linter.unusedVariables false
set_option linter.unusedSimpArgs false
set_option linter.unusedSectionVars false
open PySem L2
namespace Ev
namespace K
theorem lots_ne {m j : Nat} (h : j ≤ m) : lots m j ≠ [] := by
  have : List.range j ∈ lots m j := mem_lots.2 ⟨by simp, List.pairwise_lt_range, fun i hi => by rw [List.mem_range] at hi; omega⟩
  exact List.ne_nil_of_mem this
theorem lots_sm {m j : Nat} (hm : m ≤ 6) (hj : j ≤ 6) : (lots m j).length ≤ 100000 := Nat.le_trans (lots_len m j) (Nat.le_trans (pow_bd hm hj (by decide)) (by decide))
theorem lotsP_len (t : Tr) (p : Option Tr) : (lotsP t p).length = cnt p t := lots_left t p
section
variable {n : Nat} {Q : U → Prop}
def fall (m : Int) : Nat → Int
  | 0 => 1
  | i + 1 => fall m i * (m - i)
def fac : Nat → Int
  | 0 => 1
  | i + 1 => fac i * (i + 1)
theorem fall_bd {m : Int} (h0 : 0 ≤ m) (h1 : m ≤ 12) : ∀ i : Nat, i ≤ 12 → (fall m i).natAbs ≤ 12 ^ i
  | 0, _ => by simp [fall]
  | i + 1, h => by
    have := fall_bd h0 h1 i (by omega)
    rw [fall, Int.natAbs_mul, Nat.pow_succ]
    exact Nat.mul_le_mul this (by omega)
theorem fac_bd : ∀ i : Nat, i ≤ 12 → 0 < fac i ∧ (fac i).natAbs ≤ 12 ^ i
  | 0, _ => by decide
  | i + 1, h => by
    have := fac_bd i (by omega)
    rw [fac, Int.natAbs_mul, Nat.pow_succ]
    exact ⟨Int.mul_pos this.1 (by omega), Nat.mul_le_mul this.2 (by omega)⟩
def chBody : List S := [.asg (.tp [(.nm 3), (.nm 4)]) (.tup [(.bin .Mult (.var 3) (.bin .Sub (.var 0) (.var 2))), (.bin .Mult (.var 4) (.bin .Add (.var 2) (.lit (.int (1)))))])]
theorem ch_loop {cw : Str → List U → PT} {gu : Str → Option U} {m : Int} (h0 : 0 ≤ m) (h1 : m ≤ 12) {o1 : Sl} : ∀ (k i : Nat) (o2 : Sl), i + k ≤ 12 →
    ∃ o2', ∀ K : FU → UEnv → Prop, wF cw gu chBody (.nm 2) ((List.range' i k).map fun i : Nat => U.int i) [.val (.int m), o1, o2, .val (.int (fall m i)), .val (.int (fac i))] K = K .nx [.val (.int m), o1, o2', .val (.int (fall m (i + k))), .val (.int (fac (i + k)))]
  | 0, i, o2, _ => ⟨o2, fun K => by simp [f_nil]⟩
  | k + 1, i, o2, h => by
    obtain ⟨a, ih⟩ := ch_loop (cw := cw) (gu := gu) h0 h1 (o1 := o1) k (i + 1) (.val (.int i)) (by omega)
    refine ⟨a, fun K => ?_⟩
    have b1 := fall_bd h0 h1 i (by omega)
    have b2 := (fac_bd i (by omega)).2
    have b3 : 12 ^ i ≤ 12 ^ 12 := Nat.pow_le_pow_right (by decide) (by omega)
    have m1 : mulOk (fall m i) (m - i) = true := mul_okl (by omega)
    have m2 : mulOk (fac i) ((i : Int) + 1) = true := mul_okl (by omega)
    rw [show i + (k + 1) = i + 1 + k by omega, ← ih K, List.range'_succ, List.map_cons, f_cons]
    simp only [chBody]
    simp [m1, m2, fall, fac]
theorem ch_fin : ∀ m ∈ List.range 7, ∀ j ∈ List.range 6, (fall (m : Nat) j).fdiv (fac j) = ((lots m j).length : Nat) := by decide +kernel
theorem choose_eq {m j : Nat} (hm : m ≤ 6) (hj : j ≤ 5) : cw (n + 1) "_law_choose" [.int (m : Nat), .int (j : Nat)] Q = Q (.int ((lots m j).length : Nat)) := by
  have hr := rangeU_0 (b := j) (by omega)
  obtain ⟨a, h⟩ := ch_loop (cw := cw n) (gu := gu) (m := m) (by omega) (by omega) (o1 := .val (.int (j : Nat))) j 0 .no (by omega)
  have b := fac_bd j (by omega)
  have b3 : 12 ^ j ≤ 12 ^ 5 := Nat.pow_le_pow_right (by decide) (by omega)
  have hd : divOk (fac j) = true := div_ok b.1 (by omega)
  have hf := ch_fin m (List.mem_range.2 (by omega)) j (List.mem_range.2 (by omega))
  simp only [chBody, fall, fac, Nat.zero_add] at h
  unfold cw at *
  rw [callT rfl tb_l_choose rfl]
  simp [l_choose, hr, h, hd, hf]
theorem lab_code {k : Int} (hk : k ≤ 1000) : ∀ {t : Tr}, t.Lab k → ∀ x ∈ t.code, x.natAbs < 10 ^ 60
  | .leaf a, h, x, hx => by
    simp only [Tr.code, List.mem_singleton] at hx
    subst hx
    have := h.1
    have := h.2
    have : a.v.natAbs < 1000 := by omega
    exact Nat.lt_of_lt_of_le this (by decide)
  | .node l r, h, x, hx => by
    simp only [Tr.code, List.mem_cons, List.mem_append] at hx
    rcases hx with rfl | hx | hx
    · decide
    · exact lab_code hk h.1 x hx
    · exact lab_code hk h.2 x hx
theorem lab_cn : ∀ {k : Int} {t p : Tr}, t.Lab k → 0 < cn p t → p.Lab k
  | k, .leaf a, p, h, hc => by
    rw [cn_leaf] at hc
    split at hc
    next e => rw [e]; exact h
    · omega
  | k, .node l r, p, h, hc => by
    rw [cn_node] at hc
    by_cases h1 : 0 < cn p l
    · exact lab_cn h.1 h1
    · by_cases h2 : 0 < cn p r
      · exact lab_cn h.2 h2
      · have h1 : cn p l = 0 := by omega
        have h2 : cn p r = 0 := by omega
        rw [h1, h2] at hc
        cases p with
        | leaf a => simp at hc
        | node pl pr =>
          simp only [Nat.zero_add] at hc
          have h3 : 0 < cn pl l := Nat.pos_of_ne_zero fun z => by rw [z] at hc; simp at hc
          have h4 : 0 < cn pr r := Nat.pos_of_ne_zero fun z => by rw [z] at hc; simp at hc
          exact ⟨lab_cn h.1 h3, lab_cn h.2 h4⟩
def Lab' (k : Int) (p : Option Tr) : Prop := ∀ t, p = some t → t.Lab k
theorem lab_cnt {k : Int} {t : Tr} {p : Option Tr} (h : t.Lab k) (hc : 0 < cnt p t) : Lab' k p := fun q e => by
  subst e; exact lab_cn h hc
theorem lab_pc {k : Int} (hk : k ≤ 1000) {p : Option Tr} (h : Lab' k p) : ∀ x ∈ pc p, x.natAbs < 10 ^ 60 := by
  cases p with
  | none => intro x hx; cases hx
  | some t => exact lab_code hk (h t rfl)
theorem left_cnt {t : Tr} {j : Nat} {u : List Nat} (h : u ∈ lots t.size j) : 0 < cnt (leftP (has u) 0 t) t := by
  rw [← lots_left]
  have := left_nl h
  exact List.length_pos_of_mem (List.mem_filter.2 ⟨by rw [this]; exact h, by simp⟩)
theorem sh_tU {k : Int} (hk : k ≤ 1000) {p : Option Tr} (h : Lab' k p) (hn : nl p ≤ 20) : Sh 1 2523 (tU p) :=
  (sh_tI (m := 40) (lab_pc hk h) (by have := pc_len p; omega)).more (Nat.le_refl _) (by omega)
theorem sh_lU {m j : Nat} {u : List Nat} (h : u ∈ lots m j) (hm : m ≤ 20) (hj : j ≤ 20) : Sh 1 1263 (lU u) := by
  have h := mem_lots.1 h
  refine (sh_tI (m := 20) (fun i hi => ?_) (by rw [lI_len]; have := h.1; omega)).more (Nat.le_refl _) (by omega)
  obtain ⟨a, ha, rfl⟩ := List.mem_map.1 hi
  have := h.2.2 a ha
  have : (a : Int).natAbs < 100 := by omega
  exact Nat.lt_of_lt_of_le this (by decide)
theorem sh_cnt {p : Option Tr} {t : Tr} (h : t.size ≤ 20) : Sh 0 61 (.int (cnt p t : Nat)) := sh_int (by
  have := cnt_lt p t
  have := small_pow h
  have : (cnt p t : Int).natAbs < 2 ^ 21 := by simp; omega
  exact Nat.lt_of_lt_of_le this (by decide))
theorem sh_lotsP {p : Option Tr} {t : Tr} (h : t.size ≤ 6) (hp : nl p ≤ 6) : Sh 2 6000000 (.tup ((lotsP t p).map lU)) := by
  refine (sh_tup (k := 1) (B := 1263) (m := 4096) (fun u hu => ?_) ?_).more (by omega) (by omega)
  · obtain ⟨v, hv, rfl⟩ := List.mem_map.1 hu
    exact sh_lU (List.mem_filter.1 hv).1 (by omega) (by omega)
  · rw [List.length_map, lotsP_len]
    have := cnt_lt p t
    have := small_pow h
    omega
theorem sh_row {k : Int} (hk : k ≤ 1000) {deg : Nat} {t : Tr} (hL : t.Lab k) (hd : deg ≤ 5) (ht : t.size ≤ 12) : Sh 3 6000000 (rwV (rowO (rowT deg t))) := by
  refine (sh_tup (k := 2) (B := 1273) (m := 4096) (fun u hu => ?_) ?_).more (by omega) (by omega)
  · obtain ⟨p, hp, rfl⟩ := List.mem_map.1 hu
    obtain ⟨q, hq, rfl⟩ := List.mem_map.1 hp
    have hq := rowT_mem.1 ((sortT_perm _).mem_iff.1 hq)
    refine (sh_tup (k := 1) (B := 633) (m := 2) (fun v hv => ?_) (by simp)).more (by omega) (by omega)
    simp only [List.mem_cons, List.not_mem_nil, or_false] at hv
    rcases hv with rfl | rfl
    · exact (sh_tI (m := 10) (lab_pc hk (lab_cnt hL hq.2)) (by have := pc_len q; omega)).more (by omega) (by omega)
    · rw [tot_row, if_pos hq.1]
      exact (sh_cnt (by omega)).more (by omega) (by omega)
  · have h1 := rowT_len deg t
    have h2 := small_pow ht
    simp only [rowO, List.length_map]
    rw [(sortT_perm _).length_eq]
    simp only [kys, List.length_map]
    omega
end
end K
end Ev
end

section
set_option autoImplicit false
set_option maxRecDepth 100000
set_option linter.unusedVariables false
set_option linter.unusedSimpArgs false
set_option linter.unusedSectionVars false
open PySem L2
namespace Ev
namespace K
theorem gsum_perm {κ : Type} [DecidableEq κ] (f : κ → Int) {a b : List (κ × Int)} (h : a.Perm b) : gsum f a = gsum f b := by
  induction h with
  | nil => rfl
  | cons x _ ih => rw [gsum_cons, gsum_cons, ih]
  | swap x y l => rw [gsum_cons, gsum_cons, gsum_cons, gsum_cons]; omega
  | trans _ _ h1 h2 => rw [h1, h2]
theorem gsum_rowO {m : Rw} (h : (kys m).Nodup) (f : Option Tr → Int) : gsum f (rowO m) = gsum f m := by
  have e : m = (kys m).map fun p => (p, tot m p) := by
    unfold kys
    rw [List.map_map]
    conv => lhs; rw [← List.map_id m]
    exact List.map_congr_left fun q hq => by simp only [id, Function.comp]; rw [← mem_val h hq]
  conv => rhs; rw [e]
  exact gsum_perm f ((sortT_perm _).map _)
theorem lots_none {m j : Nat} (h : m < j) : lots m j = [] := by
  rw [List.eq_nil_iff_forall_not_mem]
  intro u hu
  have hu := mem_lots.1 hu
  have := nodup_len (l := u) (m := List.range m) (hu.2.1.imp fun h => Nat.ne_of_lt h) fun i hi => List.mem_range.2 (hu.2.2 i hi)
  rw [List.length_range, hu.1] at this
  omega
theorem lotsTo_filter (m j : Nat) : ∀ d, ((lotsTo m d).filter fun u => decide (u.length = j)).length = if j < d then (lots m j).length else 0
  | 0 => rfl
  | d + 1 => by
    rw [show lotsTo m (d + 1) = lotsTo m d ++ lots m d from allL_step m d, List.filter_append, List.length_append, lotsTo_filter m j d]
    by_cases h : j = d
    · subst h
      have : (lots m j).filter (fun u => decide (u.length = j)) = lots m j := List.filter_eq_self.2 fun u hu => by simpa using (lot_bd hu).1
      rw [this]; simp
    · have : (lots m d).filter (fun u => decide (u.length = j)) = [] := List.filter_eq_nil_iff.2 fun u hu z => h (by have := of_decide_eq_true z; have := (lot_bd hu).1; omega)
      rw [this]
      by_cases h2 : j < d
      · have : j < d + 1 := by omega
        simp [h2, this]
      · have : ¬ j < d + 1 := by omega
        simp [h2, this]
theorem mem_lotsTo {m d : Nat} {u : List Nat} (h : u ∈ lotsTo m d) : ∃ j, j < d ∧ u ∈ lots m j := by
  obtain ⟨j, hj, hu⟩ := List.mem_flatMap.1 h
  exact ⟨j, List.mem_range.1 hj, hu⟩
/-- how many lots of so many leaves: all counts of trees of so many -/
theorem row_sum {deg j : Nat} {t : Tr} (hj : j ≤ deg) : (((rowO (rowT deg t)).filter fun p => decide (nl p.1 = j)).map (·.2)).sum = ((lots t.size j).length : Nat) := by
  have e1 : ∀ l : Rw, ((l.filter fun p => decide (nl p.1 = j)).map (·.2)).sum = gsum (fun p => if nl p = j then 1 else 0) l := fun l => by
    induction l with
    | nil => rfl
    | cons p l ih =>
      rw [gsum_cons, ← ih, List.filter_cons]
      by_cases h : nl p.1 = j <;> simp [h]
  have hk := acc_nodup (ps := lrPairs t (lotsTo t.size (min deg t.size + 1))) (m := []) (by simp [kys])
  rw [e1, ← lrow_row, gsum_rowO hk, gsum_acc _ (by simp [kys]), gsum_nil, Int.zero_add]
  have e2 : ∀ ls : List (List Nat), (∀ u ∈ ls, nl (leftP (has u) 0 t) = u.length) → gsum (fun p => if nl p = j then 1 else 0) (lrPairs t ls) = ((ls.filter fun u => decide (u.length = j)).length : Nat) := fun ls => by
    induction ls with
    | nil => intro _; rfl
    | cons u ls ih =>
      intro h
      have e : lrPairs t (u :: ls) = (leftP (has u) 0 t, 1) :: lrPairs t ls := rfl
      rw [e, gsum_cons, ih fun v hv => h v (List.mem_cons_of_mem _ hv), List.filter_cons, h u (List.mem_cons_self ..)]
      by_cases h : u.length = j
      · simp [h]; omega
      · simp [h]
  rw [e2 _ fun u hu => by
    obtain ⟨i, _, hi⟩ := mem_lotsTo hu
    rw [left_nl hi, (lot_bd hi).1], lotsTo_filter]
  split
  · rfl
  · rw [lots_none (by omega)]; rfl
theorem one_of {α : Type} [DecidableEq α] {l : List α} {a : α} (h : l.Nodup) (hm : ∀ x, x ∈ l ↔ x = a) : l = [a] :=
  List.perm_singleton.1 ((List.perm_ext_iff_of_nodup h (by simp)).2 fun x => by rw [hm]; simp)
/-- the tree itself is the one as great -/
theorem row_self {deg : Nat} {t : Tr} (h : t.size ≤ deg) : ((rowO (rowT deg t)).filter fun p => decide (nl p.1 = t.size)).map (·.1) = [some t] := by
  refine one_of ?_ fun x => ?_
  · have := nodup_rowO (rowT_nodup deg t)
    exact List.Pairwise.sublist (List.Sublist.map _ List.filter_sublist) this
  · rw [List.mem_map]
    constructor
    · rintro ⟨q, hq, rfl⟩
      rw [List.mem_filter, decide_eq_true_eq] at hq
      have := rowT_mem.1 (mem_rowO.1 (List.mem_map_of_mem (f := fun p : Option Tr × Int => p.1) hq.1))
      have hs := hq.2
      cases hx : q.1 with
      | none => rw [hx] at hs; have := size_pos t; simp only [nl] at hs; omega
      | some p =>
        rw [hx] at this hs
        simp only [cnt, nl] at this hs
        rw [cn_same hs] at this
        split at this
        · rename_i e; rw [e]
        · omega
    · rintro rfl
      have : some t ∈ kys (rowO (rowT deg t)) := mem_rowO.2 (rowT_mem.2 ⟨h, by simp only [cnt]; rw [cn_same rfl]; simp⟩)
      obtain ⟨q, hq, e⟩ := List.mem_map.1 this
      exact ⟨q, List.mem_filter.2 ⟨hq, by rw [e]; simp [nl]⟩, e⟩
theorem rowT_key {deg : Nat} {t : Tr} (p : Option Tr) : p ∈ kys (rowT deg t) ↔ tot (rowT deg t) p ≠ 0 := by
  rw [rowT_mem, tot_row]
  by_cases h : nl p ≤ deg
  · rw [if_pos h]
    exact ⟨fun z => by omega, fun z => ⟨h, by omega⟩⟩
  · rw [if_neg h]
    exact ⟨fun z => absurd z.1 h, fun z => absurd rfl z⟩
/-- THE ROW OF TREES PUT TOGETHER -/
theorem row_prod (deg : Nat) (t o : Tr) : frm (accG [] (prs deg (rowO (rowT deg t)) (rowO (rowT deg o)))) = rowO (rowT deg (.node t o)) := by
  refine frm_row (acc_nodup (by simp [kys])) (rowT_nodup deg _) rowT_key fun p => ?_
  rw [tot_acc (by simp [kys]), tot_nil, Int.zero_add]
  by_cases hp : nl p ≤ deg
  · rw [rowT, tot_acc (by simp [kys]), tot_nil, Int.zero_add, tot_prs hp, tot_prs hp]
    simp only [tot_rowO (rowT_nodup deg _)]
  · rw [tot_not fun z => hp (prs_nl z), tot_not fun z => hp (rowT_nl z)]
theorem lotsTo_len {m d : Nat} (hm : m ≤ 12) (hd : d ≤ 5) : (lotsTo m d).length < 1000000 := by
  have h1 : ∀ i, i ≤ 4 → (lots m i).length ≤ 20736 := fun i hi => Nat.le_trans (lots_len m i) (Nat.le_trans (Nat.pow_le_pow_left hm i) (Nat.le_trans (Nat.pow_le_pow_right (by decide) hi) (by decide)))
  have : ∀ d, d ≤ 5 → (lotsTo m d).length ≤ d * 20736 := fun d => by
    induction d with
    | zero => intro _; simp [lotsTo]
    | succ d ih =>
      intro h
      rw [show lotsTo m (d + 1) = lotsTo m d ++ lots m d from allL_step m d, List.length_append, Nat.succ_mul]
      have := ih (by omega)
      have := h1 d (by omega)
      omega
  have := this d hd
  omega
/-! a dict of pairs -/
theorem pu_new {m : Rw} {p : Option Tr} (h : p ∉ kys m) (c : Int) : puG m p c = m ++ [(p, c)] := by
  unfold puG; rw [any_kys]; simp [h]
theorem pairs_prU : ∀ l : Rw, pairsU (l.map prU) = some (uT l)
  | [] => rfl
  | p :: l => by
    rw [List.map_cons]
    show ((tU p.1).toD.bind fun k => (pairsU (l.map prU)).map ((k, U.int p.2) :: ·)) = _
    rw [pairs_prU l, tU, toD_tI]; rfl
theorem putAll_uT : ∀ (l acc : Rw), (kys (acc ++ l)).Nodup → putAllU (uT acc) (uT l) = some (uT (acc ++ l))
  | [], acc, _ => by rw [show uT [] = [] from rfl, putAllU]; simp
  | p :: l, acc, h => by
    have e0 : uT (p :: l) = (tupI (pc p.1), U.int p.2) :: uT l := rfl
    have hn : p.1 ∉ kys acc := by
      simp only [kys, List.map_append, List.map_cons, List.nodup_append] at h
      exact fun z => h.2.2 p.1 z p.1 (by simp) rfl
    have e1 : keyFitsU (uT acc) (tupI (pc p.1)) = true := keyFits_uI _ _ _
    have e2 : dputU (uT acc) (tupI (pc p.1)) (U.int p.2) = uT (acc ++ [p]) := by
      rw [uT, dputU_uI, pu_cd, pu_new hn]; rfl
    rw [e0, putAllU, e1, if_pos rfl, e2, putAll_uT l (acc ++ [p]) (by simpa using h)]
    simp
theorem dict_rw {l : Rw} (h : (kys l).Nodup) : dictOfU (l.map prU) = some (.own (.dct (uT l))) := by
  rw [dictOfU, pairs_prU, Option.bind_some]
  have := putAll_uT l [] (by simpa using h)
  rw [show uT [] = [] from rfl] at this
  rw [this]; rfl
theorem sum_bd {B : Nat} : ∀ {l : List Int}, (∀ x ∈ l, x.natAbs ≤ B) → l.sum.natAbs ≤ B * l.length
  | [], _ => by simp
  | x :: l, h => by
    have h1 := h x (List.mem_cons_self ..)
    have h2 := sum_bd (l := l) fun y hy => h y (List.mem_cons_of_mem _ hy)
    rw [List.sum_cons, List.length_cons, Nat.mul_succ]
    have := Int.natAbs_add_le x l.sum
    omega
end K
end Ev
end

section
set_option autoImplicit false
set_option maxRecDepth 100000
set_option maxHeartbeats 1000000
set_option linter.unusedVariables false
set_option linter.unusedSimpArgs false
set_option linter.unusedSectionVars false
open PySem L2
namespace Ev
namespace K
def tnHead : List S := [.asg (.nm 8) (.call (Str.ofString "_law_pick") [(.var 1), (.bin .Add (.bif .min [(.var 4), (.lit (.int (4)))]) (.lit (.int (1))))]),
  .asg (.nm 11) (.call (Str.ofString "_law_left") [(.var 9), (.call (Str.ofString "_law_of") [(.var 1), (.call (Str.ofString "_law_lots") [(.var 4), (.var 8)])])]),
  .ite (.and (.cmp .Eq (.call (Str.ofString "_law_pick") [(.var 1), (.lit (.int (3)))]) (.lit (.int (0)))) (.cmp .Gt (.var 8) (.lit (.int (0))))) [.asg (.nm 11) (.call (Str.ofString "_law_tree") [(.var 1), (.var 3), (.var 8)])] []]
def tnMid : List S := [.asg (.nm 12) (.call (Str.ofString "_law_lots_of") [(.var 11), (.var 9)]),
  .ite (.cmp .NotEq (.bif .repr [(.lst [(.call (Str.ofString "lots_of") [(.var 11), (.var 9)]), (.call (Str.ofString "count_of") [(.var 11), (.var 9)])])]) (.bif .repr [(.lst [(.bif .tuple [(.var 12)]), (.bif .len [(.var 12)])])])) [.ret (some (.lit (.bl false)))] [],
  .asg (.tp [(.nm 17), (.nm 18)]) (.tup [(.bif .len [(.call (Str.ofString "_law_lots_of") [(.var 11), (.var 10)])]), (.lit (.int (0)))]),
  .ite (.cmp .Gt (.call (Str.ofString "_law_leaves") [(.var 11)]) (.lit (.int (1)))) [.asg (.tp [(.nm 19), (.nm 20)]) (.call (Str.ofString "_law_sides") [(.var 11)]),
  .asg (.nm 18) (.bin .Mult (.call (Str.ofString "count_of") [(.var 19), (.var 9)]) (.call (Str.ofString "count_of") [(.var 20), (.var 10)]))] [],
  .ite (.and (.cmp .NotEq (.var 11) (.tup [])) (.cmp .NotEq (.call (Str.ofString "count_of") [(.var 11), (.call (Str.ofString "_law_put") [(.var 9), (.var 10)])]) (.bin .Add (.bin .Add (.bif .len [(.var 12)]) (.var 17)) (.var 18)))) [.ret (some (.lit (.bl false)))] []]
def tnTail : List S := [.asg (.nm 13) (.call (Str.ofString "_law_tree") [(.var 1), (.var 3), (.bif .max [(.lit (.int (1))), (.var 8)])]),
  .ite (.and (.cmp .NotEq (.var 11) (.tup [])) (.and (.cmp .GtE (.call (Str.ofString "_law_leaves") [(.var 13)]) (.call (Str.ofString "_law_leaves") [(.var 11)])) (.cmp .NotEq (.bif .repr [(.call (Str.ofString "count_of") [(.var 13), (.var 11)])]) (.bif .repr [(.bif .int [(.cmp .Eq (.var 13) (.var 11))])])))) [.ret (some (.lit (.bl false)))] []]
def lapHead : List S := [.asg (.nm 3) (.bin .Add (.lit (.int (1))) (.call (Str.ofString "_law_pick") [(.var 1), (.lit (.int (2)))])),
  .asg (.tp [(.nm 9), (.nm 10)]) (.comp [5] (.nm 5) (.range1 (.lit (.int (2)))) (.call (Str.ofString "_law_tree") [(.var 1), (.var 3), (.bin .Add (.lit (.int (1))) (.call (Str.ofString "_law_pick") [(.var 1), (.lit (.int (6)))]))]) none),
  .asg (.nm 4) (.call (Str.ofString "_law_leaves") [(.var 9)])]
def r0 : List S := [.ite (.cmp .NotEq (.bif .repr [(.lst [(.call (Str.ofString "count_of") [(.tup []), (.var 9)]), (.call (Str.ofString "lots_of") [(.tup []), (.var 9)]), (.call (Str.ofString "count_of") [(.var 9), (.var 9)])])]) (.bif .repr [(.lst [(.lit (.int (1))), (.tup [(.tup [])]), (.lit (.int (1)))])])) [.ret (some (.lit (.bl false)))] [],
  .asg (.nm 6) (.call (Str.ofString "_law_pick") [(.var 1), (.lit (.int (5)))])]
def r1 : List S := [.asg (.nm 7) (.call (Str.ofString "_law_row") [(.var 6), (.var 9)]),
  .ite (.cmp .NotEq (.bif .repr [(.call (Str.ofString "row_of") [(.var 6), (.var 9)])]) (.bif .repr [(.var 7)])) [.ret (some (.lit (.bl false)))] []]
def smBody : List S := [.ite (.cmp .NotEq (.bif .sum [(.comp [11, 21] (.tp [(.nm 11), (.nm 21)]) (.seq (.var 7)) (.var 21) (some (.cmp .Eq (.call (Str.ofString "_law_leaves") [(.var 11)]) (.var 8))))]) (.call (Str.ofString "_law_choose") [(.var 4), (.var 8)])) [.ret (some (.lit (.bl false)))] []]
def r2 : List S := [.ite (.and (.cmp .LtE (.var 4) (.var 6)) (.cmp .NotEq (.comp [11, 21] (.tp [(.nm 11), (.nm 21)]) (.seq (.var 7)) (.var 11) (some (.cmp .Eq (.call (Str.ofString "_law_leaves") [(.var 11)]) (.var 4)))) (.lst [(.var 9)]))) [.ret (some (.lit (.bl false)))] []]
def r3 : List S := [.ite (.cmp2 .Lt .Lt (.lit (.int (0))) (.var 6) (.lit (.int (4)))) [.asg (.nm 14) (.call (Str.ofString "row_of") [(.var 6), (.var 10)]),
  .ite (.cmp .NotEq (.bif .repr [(.call (Str.ofString "row_times") [(.var 6), (.var 7), (.var 14)])]) (.bif .repr [(.call (Str.ofString "_law_row") [(.var 6), (.call (Str.ofString "_law_put") [(.var 9), (.var 10)])])])) [.ret (some (.lit (.bl false)))] [],
  .asg (.nm 15) (.bif .tuple [(.comp [11, 21] (.tp [(.nm 11), (.nm 21)]) (.seq (.var 7)) (.tup [(.var 11), (.call (Str.ofString "_law_of") [(.var 1), (.lst [(.lit (.int (1))), (.neg (.lit (.int (1)))), (.lit (.int (5)))])])]) none)]),
  .asg (.nm 16) (.bif .dict [(.bif .list [(.var 7)])]),
  .ite (.cmp .NotEq (.bif .repr [(.call (Str.ofString "form_worth") [(.var 15), (.var 9)])]) (.bif .repr [(.bif .sum [(.comp [11, 22] (.tp [(.nm 11), (.nm 22)]) (.seq (.var 15)) (.bin .Mult (.var 22) (.idx (.var 16) (.var 11))) none)])])) [.ret (some (.lit (.bl false)))] []] []]
theorem zs_app {cw : Str → List U → PT} {gu : Str → Option U} {K : FU → UEnv → Prop} : ∀ (a b : List S) (env : UEnv), wSs cw gu (a ++ b) env K = wSs cw gu a env (sq (fun env => wSs cw gu b env K) K)
  | [], b, env => by simp
  | x :: a, b, env => by
    rw [List.cons_append, zs_cons, zs_cons]
    congr 1
    funext r env
    cases r <;> simp [zs_app a b]
theorem turn_rest {k : Int} (hk : 1 ≤ k) (hk2 : k ≤ 2) {t o : Tr} (ht : t.size ≤ 6) (ho : o.size ≤ 6) {p : Option Tr} {j : Nat} (hp : nl p = j) (hj : j ≤ 4) (hj' : j ≤ t.size)
    {o0 o2 o5 o6 o7 o12 o13 o14 o15 o16 o17 o18 o19 o20 o21 o22 : Sl} {K : FU → UEnv → Prop} (hK : ∀ o12 o13 o17 o18 o19 o20, K .nx [o0, .val .src, o2, .val (.int k), .val (.int (t.size : Nat)), o5, o6, o7, .val (.int (j : Nat)), .val (tI t.code), .val (tI o.code), .val (tU p), o12, o13, o14, o15, o16, o17, o18, o19, o20, o21, o22]) :
    wSs (callW tb gu prim 59) gu (tnMid ++ tnTail) [o0, .val .src, o2, .val (.int k), .val (.int (t.size : Nat)), o5, o6, o7, .val (.int (j : Nat)), .val (tI t.code), .val (tI o.code), .val (tU p), o12, o13, o14, o15, o16, o17, o18, o19, o20, o21, o22] K := by
  have e1 : ∀ Q, callW tb gu prim 59 "_law_lots_of" [tU p, tI t.code] Q = Q (.lst ((lotsP t p).map lU)) := fun Q => llots_of_eq (n := 58) (by omega) (by omega) (fun i hi => Nat.le_trans (lots_sm ht (by omega)) (by decide)) (by decide)
  have e1' : ∀ Q, callW tb gu prim 59 "_law_lots_of" [tU p, tI o.code] Q = Q (.lst ((lotsP o p).map lU)) := fun Q => llots_of_eq (n := 58) (by omega) (by omega) (fun i hi => Nat.le_trans (lots_sm ho (by omega)) (by decide)) (by decide)
  have e2 : ∀ Q, callW tb gu prim 59 "lots_of" [tU p, tI t.code] Q = Q (.tup ((lotsP t p).map lU)) := fun Q => lots_of_eq (n := 56) (by omega) (by omega)
  have e3 : ∀ Q, callW tb gu prim 59 "count_of" [tU p, tI t.code] Q = Q (.int (cnt p t : Nat)) := fun Q => count_eq' (by omega) (by omega) (by omega)
  have e4 : ∀ Q, callW tb gu prim 59 "_law_leaves" [tU p] Q = Q (.int (nl p : Nat)) := fun Q => lleaves_eq (n := 58)
  have e5 : ∀ Q, callW tb gu prim 59 "_law_put" [tI t.code, tI o.code] Q = Q (tI (Tr.node t o).code) := fun Q => lput_eq (n := 58) (p := some t) (q := some o) (by simp only [nl]; omega)
  have e6 : ∀ Q, callW tb gu prim 59 "count_of" [tU p, tI (Tr.node t o).code] Q = Q (.int (cnt p (.node t o) : Nat)) := fun Q => count_eq' (by omega) (by simp only [Tr.size]; omega) (by simp only [Tr.size]; omega)
  obtain ⟨tx, hr⟩ := (sh_lst (k := 2) (B := 6000000) (m := 2) (us := [.tup ((lotsP t p).map lU), .int (cnt p t : Nat)]) (fun u hu => by
    simp only [List.mem_cons, List.not_mem_nil, or_false] at hu
    rcases hu with rfl | rfl
    · exact sh_lotsP (by omega) (by omega)
    · exact (sh_cnt (by omega)).more (by omega) (by omega)) (by simp)).repr (by omega) (by omega)
  have l1 := lotsP_len t p
  have l2 := lotsP_len o p
  have htw' : ∀ tw : Tr, ((tw.size : Int) = if (1 : Int) < j then (j : Int) else 1) → ∀ Q, callW tb gu prim 59 "_law_leaves" [tI tw.code] Q = Q (.int (tw.size : Nat)) := fun tw _ Q => lleaves_eq (n := 58) (p := some tw)
  rw [zs_app]
  cases p with
  | none =>
    simp only [nl] at hp
    subst hp
    simp [tnMid, e1, e1', e2, e3, e4, l1, l2, hr, nl, eq_tU0]
    simp [tnTail]
    refine tree_spec (n := 57) hk (by omega) (by omega) (by omega) fun tw htw hLw => ?_
    simp [eq_tU0]
    exact hK ..
  | some p =>
    have hpp := size_pos p
    simp only [nl] at hp
    have tail : ∀ (o17 o18 o19 o20 : Sl), wSs (callW tb gu prim 59) gu tnTail [o0, .val .src, o2, .val (.int k), .val (.int (t.size : Nat)), o5, o6, o7, .val (.int (j : Nat)), .val (tI t.code), .val (tI o.code), .val (tU (some p)), .val (.lst ((lotsP t (some p)).map lU)), o13, o14, o15, o16, o17, o18, o19, o20, o21, o22] K := fun o17 o18 o19 o20 => by
      simp [tnTail]
      refine tree_spec (n := 57) (lv := if (1 : Int) < j then (j : Int) else 1) hk (by omega) (by split <;> omega) (by split <;> omega) fun tw htw hLw => ?_
      have hts : tw.size = p.size := by split at htw <;> omega
      have c1 : ∀ Q, callW tb gu prim 59 "count_of" [tI tw.code, tU (some p)] Q = Q (.int (if tw = p then 1 else 0)) := fun Q => by
        have := count_eq p (n := 59) (p := tw) (Q := Q) (by omega) (by omega) (by omega)
        rw [cn_same hts] at this
        have e : (((if tw = p then 1 else 0 : Nat) : Nat) : Int) = if tw = p then 1 else 0 := by split <;> rfl
        rw [e] at this
        exact this
      obtain ⟨ty, hy⟩ := (sh_int (i := if tw = p then 1 else 0) (by split <;> decide)).repr (by omega) (by omega)
      have eq : eqU (tI tw.code) (tU (some p)) = some (decide (tw = p)) := by rw [tU, eqU_tI]; simp only [pc, code_eq]
      simp [eq_tU0, htw' tw htw, e4, nl, hts, c1, eq, hy]
      exact hK ..
    cases p with
    | leaf a =>
      simp only [Tr.size] at hp
      subst hp
      simp [tnMid, e1, e1', e2, e3, e4, e5, e6, l1, l2, hr, nl, eq_tU0, Tr.size]
      simp [cnt, cn_node]
      exact tail ..
    | node q r =>
      simp only [Tr.size] at hp
      have hq := size_pos q
      have hr' := size_pos r
      have f1 : ∀ Q, callW tb gu prim 59 "_law_sides" [tU (some (.node q r))] Q = Q (.tup [tI q.code, tI r.code]) := fun Q => lsides_eq (n := 58) (by omega)
      have f2 : ∀ Q, callW tb gu prim 59 "count_of" [tI q.code, tI t.code] Q = Q (.int (cn q t : Nat)) := fun Q => count_eq t (by omega) (by omega) (by omega)
      have f3 : ∀ Q, callW tb gu prim 59 "count_of" [tI r.code, tI o.code] Q = Q (.int (cn r o : Nat)) := fun Q => count_eq o (by omega) (by omega) (by omega)
      have hm : mulOk (cn q t : Int) (cn r o : Int) = true := mul_ok (Nat.lt_of_lt_of_le (cn_lt q t) (Nat.pow_le_pow_right (by decide) (by omega)))
      have hgt : (1 : Int) < q.size + r.size := by omega
      simp [tnMid, e1, e1', e2, e3, e4, e5, e6, l1, l2, hr, nl, eq_tU0, Tr.size, hgt, f1, f2, f3, hm]
      simp [cnt, cn_node]
      exact tail ..
theorem turn_step {k : Int} (hk : 1 ≤ k) (hk2 : k ≤ 2) {t o : Tr} (ht : t.size ≤ 6) (ho : o.size ≤ 6)
    {o0 o2 o5 o6 o7 o8 o11 o12 o13 o14 o15 o16 o17 o18 o19 o20 o21 o22 : Sl} {K : FU → UEnv → Prop} (hK : ∀ o8 o11 o12 o13 o17 o18 o19 o20, K .nx [o0, .val .src, o2, .val (.int k), .val (.int (t.size : Nat)), o5, o6, o7, o8, .val (tI t.code), .val (tI o.code), o11, o12, o13, o14, o15, o16, o17, o18, o19, o20, o21, o22]) :
    wSs (callW tb gu prim 59) gu (tnHead ++ (tnMid ++ tnTail)) [o0, .val .src, o2, .val (.int k), .val (.int (t.size : Nat)), o5, o6, o7, o8, .val (tI t.code), .val (tI o.code), o11, o12, o13, o14, o15, o16, o17, o18, o19, o20, o21, o22] K := by
  rw [zs_app]
  generalize hrest : tnMid ++ tnTail = rest
  simp [tnHead, pick_eq']
  refine ⟨by split <;> omega, by split <;> omega, fun v v0 v1 => ?_⟩
  obtain ⟨j, rfl⟩ : ∃ j : Nat, v = j := ⟨v.toNat, by omega⟩
  have hj : j ≤ 4 := by split at v1 <;> omega
  have hj' : j ≤ t.size := by split at v1 <;> omega
  have e1 : ∀ Q, callW tb gu prim 59 "_law_lots" [.int (t.size : Nat), .int (j : Nat)] Q = Q (.lst ((lots t.size j).map lU)) := fun Q => llots_eq (n := 58) (by omega) (by omega) fun i hi => Nat.le_trans (lots_sm ht (by omega)) (by decide)
  simp only [e1]
  refine (of_eq (n := 57) (us := (lots t.size j).map lU) (by simpa using lots_ne hj') (by rw [List.length_map]; have := lots_sm ht (j := j) (by omega); omega) fun u hu => ?_).1
  obtain ⟨lot, hlot, rfl⟩ := List.mem_map.1 hu
  have e2 : ∀ Q, callW tb gu prim 59 "_law_left" [tI t.code, lU lot] Q = Q (tU (leftP (has lot) 0 t)) := fun Q => lleft_eq t lot (.inl rfl) (by omega) (by omega)
  simp [e2, pick_eq']
  intro v v0' v1'
  have hn := left_nl hlot
  subst hrest
  by_cases h0 : v = 0 ∧ 0 < j
  · simp [h0.1, h0.2]
    refine tree_spec (n := 57) hk (by omega) (by omega) (by omega) fun tw htw hLw => ?_
    exact turn_rest hk hk2 ht ho (p := some tw) (by simp only [nl]; omega) hj hj' fun _ _ _ _ _ _ => hK ..
  · have : wSs (callW tb gu prim 59) gu (tnMid ++ tnTail) [o0, .val .src, o2, .val (.int k), .val (.int (t.size : Nat)), o5, o6, o7, .val (.int (j : Nat)), .val (tI t.code), .val (tI o.code), .val (tU (leftP (has lot) 0 t)), o12, o13, o14, o15, o16, o17, o18, o19, o20, o21, o22] K := turn_rest hk hk2 ht ho hn hj hj' fun _ _ _ _ _ _ => hK ..
    by_cases hv : v = 0
    · have hj0 : ¬ 0 < j := fun z => h0 ⟨hv, z⟩
      simp [hv, hj0]
      exact this
    · simp [hv]
      exact this
theorem lotsP_none (t : Tr) : lotsP t none = [[]] := by
  have : (lotsP t none).length = 1 := by rw [lotsP_len]; rfl
  obtain ⟨u, hu⟩ := List.length_eq_one_iff.1 this
  have hm : u ∈ lotsP t none := by rw [hu]; simp
  have := (List.mem_filter.1 hm).1
  have := (lot_bd this).1
  have h0 : u = [] := List.length_eq_zero_iff.1 (by simpa [nl] using this)
  rw [hu, h0]
theorem intsU_comp {α : Type} (f : α → Int) (l : List α) : intsU (l.map (U.int ∘ f)) = some (l.map f) := by
  rw [← List.map_map, intsU_map]
/-- the sums of a degree -/
theorem sm_comp {n : Nat} {deg j : Nat} {t : Tr} (o0 o1 o2 o3 o4 o5 o6 o7 o9 o10 o12 o13 o14 o15 o16 o17 o18 o19 o20 o22 : Sl) {Q : List U → Prop} (m : Rw) :
    wCm (callW tb gu prim 59) gu (.var 21) (some (.cmp .Eq (.call (Str.ofString "_law_leaves") [(.var 11)]) (.var 8))) (.tp [(.nm 11), (.nm 21)]) [o0, o1, o2, o3, o4, o5, o6, o7, .val (.int (j : Nat)), o9, o10, .no, o12, o13, o14, o15, o16, o17, o18, o19, o20, .no, o22] (m.map prU) [] Q = Q (((m.filter fun p => decide (nl p.1 = j)).map (·.2)).map U.int) := by
  rw [comp_det prU (fun p => U.int p.2) (fun p => decide (nl p.1 = j)) m []]
  · simp; exact Iff.rfl
  · intro p hp
    have h1 : ∀ Q, callW tb gu prim 59 "_law_leaves" [tU p.1] Q = Q (.int (nl p.1 : Nat)) := fun Q => lleaves_eq (n := 58)
    exact ⟨[o0, o1, o2, o3, o4, o5, o6, o7, .val (.int (j : Nat)), o9, o10, .val (tU p.1), o12, o13, o14, o15, o16, o17, o18, o19, o20, .val (.int p.2), o22], by simp [prU], fun R => by simp [h1, Int.ofNat_inj], fun _ => ⟨.val (.int p.2), rfl, fun R => by simp⟩⟩
theorem self_comp {j : Nat} (o0 o1 o2 o3 o5 o6 o7 o8 o9 o10 o12 o13 o14 o15 o16 o17 o18 o19 o20 o22 : Sl) {Q : List U → Prop} (m : Rw) :
    wCm (callW tb gu prim 59) gu (.var 11) (some (.cmp .Eq (.call (Str.ofString "_law_leaves") [(.var 11)]) (.var 4))) (.tp [(.nm 11), (.nm 21)]) [o0, o1, o2, o3, .val (.int (j : Nat)), o5, o6, o7, o8, o9, o10, .no, o12, o13, o14, o15, o16, o17, o18, o19, o20, .no, o22] (m.map prU) [] Q = Q (((m.filter fun p => decide (nl p.1 = j)).map (·.1)).map tU) := by
  rw [comp_det prU (fun p => tU p.1) (fun p => decide (nl p.1 = j)) m []]
  · simp; exact Iff.rfl
  · intro p hp
    have h1 : ∀ Q, callW tb gu prim 59 "_law_leaves" [tU p.1] Q = Q (.int (nl p.1 : Nat)) := fun Q => lleaves_eq (n := 58)
    exact ⟨[o0, o1, o2, o3, .val (.int (j : Nat)), o5, o6, o7, o8, o9, o10, .val (tU p.1), o12, o13, o14, o15, o16, o17, o18, o19, o20, .val (.int p.2), o22], by simp [prU], fun R => by simp [h1, Int.ofNat_inj], fun _ => ⟨.val (tU p.1), rfl, fun R => by simp⟩⟩
section
variable {k : Int} {t o : Tr} {o0 o2 o5 o6 o7 o8 o11 o12 o13 o14 o15 o16 o17 o18 o19 o20 o21 o22 : Sl} {K : FU → UEnv → Prop}
theorem r0_ok (ht : t.size ≤ 6) (hK : ∀ deg : Nat, deg ≤ 4 → K .nx [o0, .val .src, o2, .val (.int k), .val (.int (t.size : Nat)), o5, .val (.int (deg : Nat)), o7, o8, .val (tI t.code), .val (tI o.code), o11, o12, o13, o14, o15, o16, o17, o18, o19, o20, o21, o22]) :
    wSs (callW tb gu prim 59) gu r0 [o0, .val .src, o2, .val (.int k), .val (.int (t.size : Nat)), o5, o6, o7, o8, .val (tI t.code), .val (tI o.code), o11, o12, o13, o14, o15, o16, o17, o18, o19, o20, o21, o22] K := by
  have e1 : ∀ Q, callW tb gu prim 59 "count_of" [tI [], tI t.code] Q = Q (.int 1) := fun Q => count_eq' (p := none) (by decide) (by omega) (by omega)
  have e2 : ∀ Q, callW tb gu prim 59 "lots_of" [tI [], tI t.code] Q = Q (.tup [lU []]) := fun Q => by
    have := lots_of_eq (n := 56) (p := none) (t := t) (Q := Q) (by omega) (Nat.zero_le _)
    rw [lotsP_none] at this
    exact this
  have e3 : ∀ Q, callW tb gu prim 59 "count_of" [tI t.code, tI t.code] Q = Q (.int 1) := fun Q => by
    have := count_eq t (n := 59) (p := t) (Q := Q) (by omega) (by omega) (by omega)
    rw [cn_same rfl, if_pos rfl] at this
    exact this
  have e0 : lU [] = tI [] := rfl
  obtain ⟨tx, hr⟩ := (sh_lst (k := 2) (B := 1000) (m := 3) (us := [.int 1, .tup [tI []], .int 1]) (fun u hu => by
    simp only [List.mem_cons, List.not_mem_nil, or_false] at hu
    rcases hu with rfl | rfl | rfl
    · exact (sh_int (by decide)).more (by omega) (by omega)
    · exact (sh_tup (k := 1) (B := 3) (m := 1) (fun v hv => by rw [List.mem_singleton] at hv; subst hv; exact sh_tI (m := 0) nofun (by simp)) (by simp)).more (by omega) (by omega)
    · exact (sh_int (by decide)).more (by omega) (by omega)) (by simp)).repr (by omega) (by omega)
  simp [r0, e1, e2, e3, e0, hr, pick_eq']
  intro v v0 v1
  have := hK v.toNat (by omega)
  rwa [show ((v.toNat : Nat) : Int) = v by omega] at this
theorem r1_ok (hk : k ≤ 1000) (ht : t.size ≤ 6) (hL : t.Lab k) {deg : Nat} (hd : deg ≤ 4) (hK : K .nx [o0, .val .src, o2, .val (.int k), .val (.int (t.size : Nat)), o5, .val (.int (deg : Nat)), .val (rwV (rowO (rowT deg t))), o8, .val (tI t.code), .val (tI o.code), o11, o12, o13, o14, o15, o16, o17, o18, o19, o20, o21, o22]) :
    wSs (callW tb gu prim 59) gu r1 [o0, .val .src, o2, .val (.int k), .val (.int (t.size : Nat)), o5, .val (.int (deg : Nat)), o7, o8, .val (tI t.code), .val (tI o.code), o11, o12, o13, o14, o15, o16, o17, o18, o19, o20, o21, o22] K := by
  have e1 : ∀ Q, callW tb gu prim 59 "_law_row" [.int (deg : Nat), tI t.code] Q = Q (rwV (rowO (rowT deg t))) := fun Q => by
    rw [← lrow_row]
    exact lrow_eq (n := 57) (by omega) (fun j hj => lotsTo_len (by omega) (by omega)) (by decide)
  have e2 : ∀ Q, callW tb gu prim 59 "row_of" [.int (deg : Nat), tI t.code] Q = Q (rwV (rowO (rowT deg t))) := fun Q => row_of_eq (n := 56) (by omega) (by omega)
  obtain ⟨tx, hr⟩ := (sh_row (deg := deg) hk hL (by omega) (by omega)).repr (by omega) (by omega)
  simp [r1, e1, e2, hr]
  exact hK
theorem sm_ok (ht : t.size ≤ 6) {deg : Nat} (hd : deg ≤ 4) : ∀ (c j : Nat) (o8 : Sl), j + c = deg + 1 → (∀ o8, K .nx [o0, .val .src, o2, .val (.int k), .val (.int (t.size : Nat)), o5, .val (.int (deg : Nat)), .val (rwV (rowO (rowT deg t))), o8, .val (tI t.code), .val (tI o.code), o11, o12, o13, o14, o15, o16, o17, o18, o19, o20, o21, o22]) →
    wF (callW tb gu prim 59) gu smBody (.nm 8) ((List.range' j c).map fun i : Nat => U.int i) [o0, .val .src, o2, .val (.int k), .val (.int (t.size : Nat)), o5, .val (.int (deg : Nat)), .val (rwV (rowO (rowT deg t))), o8, .val (tI t.code), .val (tI o.code), o11, o12, o13, o14, o15, o16, o17, o18, o19, o20, o21, o22] K
  | 0, j, o8, _, hK => by simp [f_nil]; exact hK _
  | c + 1, j, o8, h, hK => by
    have e1 : ∀ Q, callW tb gu prim 59 "_law_choose" [.int (t.size : Nat), .int (j : Nat)] Q = Q (.int ((lots t.size j).length : Nat)) := fun Q => choose_eq (n := 58) ht (by omega)
    have hs := row_sum (deg := deg) (j := j) (t := t) (by omega)
    have ih := sm_ok ht hd c (j + 1) (.val (.int (j : Nat))) (by omega) hK
    rw [List.range'_succ, List.map_cons, f_cons]
    simp only [smBody] at ih ⊢
    simp [rwV, wipeU]
    rw [sm_comp (deg := deg) (t := t) (n := 0)]
    simp [intsU_comp, hs, e1]
    exact ih
theorem r2_ok (hk : k ≤ 1000) (ht : t.size ≤ 6) (hL : t.Lab k) {deg : Nat} (hK : K .nx [o0, .val .src, o2, .val (.int k), .val (.int (t.size : Nat)), o5, .val (.int (deg : Nat)), .val (rwV (rowO (rowT deg t))), o8, .val (tI t.code), .val (tI o.code), o11, o12, o13, o14, o15, o16, o17, o18, o19, o20, o21, o22]) :
    wSs (callW tb gu prim 59) gu r2 [o0, .val .src, o2, .val (.int k), .val (.int (t.size : Nat)), o5, .val (.int (deg : Nat)), .val (rwV (rowO (rowT deg t))), o8, .val (tI t.code), .val (tI o.code), o11, o12, o13, o14, o15, o16, o17, o18, o19, o20, o21, o22] K := by
  by_cases h : t.size ≤ deg
  · have hs := row_self h
    have hq : eqU (.lst [tU (some t)]) (.lst [tI t.code]) = some true := (sh_lst (k := 1) (B := 2523) (m := 1) (us := [tU (some t)]) (fun u hu => by
      rw [List.mem_singleton] at hu
      subst hu
      exact sh_tU hk (fun x e => by cases e; exact hL) (by simp only [nl]; omega)) (by simp)).self (by omega)
    simp [r2, h, rwV, wipeU]
    rw [self_comp, hs]
    simp [hq]
    exact hK
  · simp [r2, h]
    exact hK
theorem w_comp' {m : Rw} {o1 o2 o3 o4 o5 o6 o7 o8 o9 o10 o12 o13 o14 o15 o17 o18 o19 o20 o21 : Sl} {cs : Rw} (hcs : ∀ q ∈ cs, q.1 ∈ kys m ∧ q.2.natAbs ≤ 5) (hm : (kys m).Nodup) {Q : List U → Prop} :
    wCm (callW tb gu prim 59) gu (.bin .Mult (.var 22) (.idx (.var 16) (.var 11))) none (.tp [(.nm 11), (.nm 22)]) [o0, o1, o2, o3, o4, o5, o6, o7, o8, o9, o10, .no, o12, o13, o14, o15, .own (.dct (uT m)), o17, o18, o19, o20, o21, .no] (cs.map prU) [] Q = Q ((cs.map fun p => p.2 * tot m p.1).map U.int) := by
  rw [comp_map prU (fun p => U.int (p.2 * tot m p.1)) cs []]
  · simp; exact Iff.rfl
  · intro p hp
    have h := hcs p hp
    have hl := lk_some hm h.1
    have hmul : mulOk p.2 (tot m p.1) = true := mul_okl (by omega)
    exact ⟨[o0, o1, o2, o3, o4, o5, o6, o7, o8, o9, o10, .val (tU p.1), o12, o13, o14, o15, .own (.dct (uT m)), o17, o18, o19, o20, o21, .val (.int p.2)], by simp [prU], fun R => by simp, .val (.int (p.2 * tot m p.1)), rfl, fun R => by simp [hl, hmul]⟩
theorem r3_ok (hk : k ≤ 1000) (ht : t.size ≤ 6) (ho : o.size ≤ 6) (hL : t.Lab k) (hLo : o.Lab k) {deg : Nat} (hd : deg ≤ 4) (hK : ∀ o14 o15 o16, K .nx [o0, .val .src, o2, .val (.int k), .val (.int (t.size : Nat)), o5, .val (.int (deg : Nat)), .val (rwV (rowO (rowT deg t))), o8, .val (tI t.code), .val (tI o.code), o11, o12, o13, o14, o15, o16, o17, o18, o19, o20, o21, o22]) :
    wSs (callW tb gu prim 59) gu r3 [o0, .val .src, o2, .val (.int k), .val (.int (t.size : Nat)), o5, .val (.int (deg : Nat)), .val (rwV (rowO (rowT deg t))), o8, .val (tI t.code), .val (tI o.code), o11, o12, o13, o14, o15, o16, o17, o18, o19, o20, o21, o22] K := by
  by_cases h : 0 < deg ∧ deg < 4
  · have e1 : ∀ Q, callW tb gu prim 59 "row_of" [.int (deg : Nat), tI o.code] Q = Q (rwV (rowO (rowT deg o))) := fun Q => row_of_eq (n := 56) (by omega) (by omega)
    have nd := rowT_nodup deg t
    have ndO := nodup_rowO nd
    have val : ∀ {x : Tr}, x.size ≤ 6 → ∀ q ∈ rowO (rowT deg x), nl q.1 ≤ 500 ∧ q.2.natAbs < 2 ^ 64 := fun {x} hx q hq => by
      have h1 := mem_val (nodup_rowO (rowT_nodup deg x)) hq
      have h2 := rowT_mem.1 (mem_rowO.1 (List.mem_map_of_mem (f := fun p : Option Tr × Int => p.1) hq))
      rw [tot_rowO (rowT_nodup deg x), tot_row, if_pos h2.1] at h1
      have := cnt_lt q.1 x
      have := small_pow hx
      refine ⟨by omega, ?_⟩
      rw [h1]; simp; omega
    have len : ∀ {x : Tr}, x.size ≤ 6 → (rowO (rowT deg x)).length ≤ 64 := fun {x} hx => by
      have h1 := rowT_len deg x
      have h2 := small_pow hx
      simp only [rowO, List.length_map]
      rw [(sortT_perm _).length_eq]
      simp only [kys, List.length_map]
      omega
    have e2 : ∀ Q, callW tb gu prim 59 "row_times" [.int (deg : Nat), rwV (rowO (rowT deg t)), rwV (rowO (rowT deg o))] Q = Q (rwV (rowO (rowT deg (.node t o)))) := fun Q => by
      rw [← row_prod]
      exact row_times_eq (n := 57) (val ht) (fun q hq => (val ho q hq).1) (by have := Nat.mul_le_mul (len ht) (len ho); omega)
    have e3 : ∀ Q, callW tb gu prim 59 "_law_put" [tI t.code, tI o.code] Q = Q (tI (Tr.node t o).code) := fun Q => lput_eq (n := 58) (p := some t) (q := some o) (by simp only [nl]; omega)
    have e4 : ∀ Q, callW tb gu prim 59 "_law_row" [.int (deg : Nat), tI (Tr.node t o).code] Q = Q (rwV (rowO (rowT deg (.node t o)))) := fun Q => by
      rw [← lrow_row]
      exact lrow_eq (n := 57) (by simp only [Tr.size]; omega) (fun j hj => lotsTo_len (by simp only [Tr.size]; omega) (by omega)) (by decide)
    obtain ⟨tx, hr⟩ := (sh_row (t := .node t o) (deg := deg) hk ⟨hL, hLo⟩ (by omega) (by simp only [Tr.size]; omega)).repr (by omega) (by omega)
    have h1 : (0 : Int) < deg := by omega
    have h2 : (deg : Int) < 4 := by omega
    simp [r3, h.1, h.2, h1, h2, e1, e2, e3, e4, hr]
    simp only [rwV, sq_tup, ok_some]
    refine comp_inv (fun us acc => ∃ dn td cs : Rw, rowO (rowT deg t) = dn ++ td ∧ us = td.map prU ∧ acc = cs.map prU ∧ kys cs = kys dn ∧ ∀ q ∈ cs, q.2.natAbs ≤ 5) _ _ ⟨[], _, [], rfl, rfl, rfl, rfl, nofun⟩ ?_ ?_
    · rintro acc ⟨dn, td, cs, e, e', rfl, hkc, hb⟩
      have : td = [] := by
        cases td with
        | nil => rfl
        | cons => simp at e'
      subst this
      rw [List.append_nil] at e
      subst e
      have hcs : ∀ q ∈ cs, q.1 ∈ kys (rowO (rowT deg t)) ∧ q.2.natAbs ≤ 5 := fun q hq => ⟨by rw [← hkc]; exact List.mem_map_of_mem hq, hb q hq⟩
      have hnl : ∀ q ∈ cs, nl q.1 ≤ deg := fun q hq => (rowT_mem.1 (mem_rowO.1 (hcs q hq).1)).1
      have e5 : ∀ Q, callW tb gu prim 59 "form_worth" [rwV cs, tI t.code] Q = Q (.int (worth cs t)) := fun Q => worth_eq (n := 58) (fun p hp => by have := hnl p hp; omega) (by omega) (by decide)
      have ew : (cs.map fun p => p.2 * tot (rowO (rowT deg t)) p.1).sum = worth cs t := by
        unfold worth
        congr 1
        refine List.map_congr_left fun q hq => ?_
        rw [tot_rowO nd, tot_row, if_pos (hnl q hq)]
      have hlen : cs.length ≤ 64 := by
        have := congrArg List.length hkc
        simp only [kys, List.length_map] at this
        have := len ht
        omega
      have hw : (worth cs t).natAbs ≤ 400 * cs.length := by
        have := sum_bd (B := 400) (l := cs.map fun p => p.2 * (cnt p.1 t : Int)) (fun x hx => by
          obtain ⟨q, hq, rfl⟩ := List.mem_map.1 hx
          have h1 := hb q hq
          have h2 := cnt_lt q.1 t
          have h3 := small_pow ht
          rw [Int.natAbs_mul]
          have : (cnt q.1 t : Int).natAbs ≤ 64 := by simp; omega
          exact Nat.le_trans (Nat.mul_le_mul h1 this) (by decide))
        simpa [worth] using this
      have hwb : (worth cs t).natAbs < 10 ^ 60 := Nat.lt_of_le_of_lt (Nat.le_trans hw (Nat.mul_le_mul_left 400 hlen)) (by decide)
      obtain ⟨ty, hy⟩ := (sh_int hwb).repr (by omega) (by omega)
      simp only [rwV] at e5
      simp [dict_rw ndO, e5, hy, wipeU]
      rw [w_comp' hcs ndO]
      simp [intsU_comp, ew, hy]
      exact hK ..
    · rintro u us acc R ⟨dn, td, cs, e, e', rfl, hkc, hb⟩ hR
      obtain ⟨q, td, rfl⟩ : ∃ q t', td = q :: t' := by
        cases td with
        | nil => simp at e'
        | cons q t' => exact ⟨q, t', rfl⟩
      rw [List.map_cons, List.cons.injEq] at e'
      obtain ⟨rfl, rfl⟩ := e'
      simp [prU, wipeU]
      refine (of_eq (n := 57) (us := [.int 1, .int (-1), .int 5]) (by simp) (by simp) fun u hu => ?_).1
      have hx : ∃ c : Int, u = .int c ∧ c.natAbs ≤ 5 := by
        simp only [List.mem_cons, List.not_mem_nil, or_false] at hu
        rcases hu with rfl | rfl | rfl
        · exact ⟨1, rfl, by decide⟩
        · exact ⟨-1, rfl, by decide⟩
        · exact ⟨5, rfl, by decide⟩
      obtain ⟨c, rfl, hc⟩ := hx
      refine hR _ ?_
      refine ⟨dn ++ [q], td, cs ++ [(q.1, c)], by rw [e]; simp, rfl, by simp [prU], by simp only [kys, List.map_append] at hkc ⊢; rw [hkc]; rfl, fun q' hq' => ?_⟩
      rw [List.mem_append, List.mem_singleton] at hq'
      rcases hq' with hq' | rfl
      · exact hb q' hq'
      · exact hc
  · have h' : ¬ ((0 : Int) < deg ∧ (deg : Int) < 4) := by omega
    by_cases h1 : 0 < deg
    · have h2 : ¬ deg < 4 := fun z => h ⟨h1, z⟩
      have h3 : ¬ (deg : Int) < 4 := by omega
      simp [r3, h1, h2, h3]
      exact hK ..
    · simp [r3, h1]
      exact hK ..
end
theorem lap_ok {o0 o2 o3 o4 o5 o6 o7 o8 o9 o10 o11 o12 o13 o14 o15 o16 o17 o18 o19 o20 o21 o22 : Sl} {K : FU → UEnv → Prop} (hK : ∀ o3 o4 o5 o6 o7 o8 o9 o10 o11 o12 o13 o14 o15 o16 o17 o18 o19 o20, K .nx [o0, .val .src, o2, o3, o4, o5, o6, o7, o8, o9, o10, o11, o12, o13, o14, o15, o16, o17, o18, o19, o20, o21, o22]) :
    wSs (callW tb gu prim 59) gu (lapHead ++ (.for (.nm 5) (.range1 (.lit (.int (3)))) (tnHead ++ (tnMid ++ tnTail)) :: (r0 ++ (r1 ++ (.for (.nm 8) (.range1 (.bin .Add (.var 6) (.lit (.int (1))))) smBody :: (r2 ++ r3)))))) [o0, .val .src, o2, o3, o4, o5, o6, o7, o8, o9, o10, o11, o12, o13, o14, o15, o16, o17, o18, o19, o20, o21, o22] K := by
  rw [zs_app]
  generalize hrest : (Ev.S.for (.nm 5) (.range1 (.lit (.int (3)))) (tnHead ++ (tnMid ++ tnTail)) :: (r0 ++ (r1 ++ (.for (.nm 8) (.range1 (.bin .Add (.var 6) (.lit (.int (1))))) smBody :: (r2 ++ r3))))) = rest
  have hr2 : rangeU 0 2 = some ((List.range' 0 2).map fun i : Nat => U.int i) := rangeU_0 (b := 2) (by decide)
  simp [lapHead, pick_eq', hr2, wipeU]
  intro v v0 v1
  refine comp_inv (fun us acc => ∃ ts : List Tr, acc = ts.map tc ∧ (∀ t ∈ ts, t.size ≤ 6 ∧ t.Lab (1 + v)) ∧ ts.length + us.length = 2) _ _ ⟨[], rfl, nofun, by simp⟩ ?_ ?_
  · rintro acc ⟨ts, rfl, hts, hl⟩
    obtain ⟨t, o, rfl⟩ : ∃ t o, ts = [t, o] := by
      match ts, hl with
      | [a, b], _ => exact ⟨a, b, rfl⟩
    have ht := hts t (by simp)
    have ho := hts o (by simp)
    have e1 : ∀ Q, callW tb gu prim 59 "_law_leaves" [tI t.code] Q = Q (.int (t.size : Nat)) := fun Q => lleaves_eq (n := 58) (p := some t)
    simp [tc, e1]
    subst hrest
    have hr3 : rangeU 0 3 = some ((List.range' 0 3).map fun i : Nat => U.int i) := rangeU_0 (b := 3) (by decide)
    rw [zs_cons, z_for, wi_range1, w_lit]
    simp only [u_val, toU_int, hr3, ok_some]
    refine for_inv (fun us env => ∃ o5 o8 o11 o12 o13 o17 o18 o19 o20, env = [o0, .val .src, o2, .val (.int (1 + v)), .val (.int (t.size : Nat)), o5, o6, o7, o8, .val (tI t.code), .val (tI o.code), o11, o12, o13, o14, o15, o16, o17, o18, o19, o20, o21, o22]) _ _ ⟨_, _, _, _, _, _, _, _, _, rfl⟩ ?_ ?_
    · rintro env ⟨o5, o8, o11, o12, o13, o17, o18, o19, o20, rfl⟩
      rw [sq_nx, zs_app]
      refine r0_ok ht.1 fun deg hd => ?_
      rw [sq_nx, zs_app]
      refine r1_ok (by omega) ht.1 ht.2 hd ?_
      rw [sq_nx]
      have hrd : rangeU 0 ((deg : Int) + 1) = some ((List.range' 0 (deg + 1)).map fun i : Nat => U.int i) := rangeU_0 (b := deg + 1) (by omega)
      rw [zs_cons, z_for, wi_range1]
      simp [hrd]
      refine sm_ok ht.1 hd (deg + 1) 0 _ (by omega) fun o8 => ?_
      rw [sq_nx, zs_app]
      refine r2_ok (by omega) ht.1 ht.2 ?_
      rw [sq_nx]
      exact r3_ok (by omega) ht.1 ho.1 ht.2 ho.2 hd fun _ _ _ => hK ..
    · rintro u us env R ⟨o5, o8, o11, o12, o13, o17, o18, o19, o20, rfl⟩ hR _
      simp only [st_nm, ok_some, List.set_cons_succ, List.set_cons_zero]
      exact turn_step (by omega) (by omega) ht.1 ho.1 fun _ _ _ _ _ _ _ _ => hR _ ⟨_, _, _, _, _, _, _, _, _, rfl⟩
  · rintro u us acc R ⟨ts, rfl, hts, hl⟩ hR
    simp [pick_eq']
    intro w w0 w1
    refine tree_spec (n := 57) (by omega) (by omega) (by omega) (by omega) fun tw htw hLw => ?_
    refine hR _ ?_
    refine ⟨ts ++ [tw], by simp [tc], fun t ht => ?_, by simp at hl ⊢; omega⟩
    rw [List.mem_append, List.mem_singleton] at ht
    rcases ht with ht | rfl
    · exact hts t ht
    · exact ⟨by omega, hLw⟩
def twoT : Tr := .node (.leaf ⟨0, by decide⟩) (.leaf ⟨0, by decide⟩)
theorem two_row : rwV (rowO (rowT 2 twoT)) = .tup [.tup [tI [], .int 1], .tup [tI [-1, 0, 0], .int 1], .tup [tI [0], .int 2]] := by
  have e : sortT (kys (rowT 2 twoT)) = [none, some twoT, some (.leaf ⟨0, by decide⟩)] := sortT_uniq (sortT_sorted _) (by decide) ((sortT_perm _).trans (by decide))
  unfold rowO
  rw [e]
  rfl
def deep : Nat := 60
theorem law_true (ns : List Int) (hns : ns.length ≤ 63) : callD tb gl deep "law" [.scr ns] [] = some (.bl true, []) := by
  obtain ⟨sub, hop, hs, hl⟩ := open_run (n := 58) hns
  refine law_of (SP := SPk) (prim := prim) (gu := gu) tb_safe gu_none prim_ok (n := 59) (slots := 21) tb_c_law (r := 2) (i := 1) (by omega) (by omega) hop hs ?_
  have hr3 : rangeU 0 3 = some ((List.range' 0 3).map fun i : Nat => U.int i) := rangeU_0 (b := 3) (by decide)
  rw [zs_cons, z_for, wi_range1, w_lit]
  simp only [u_val, toU_int, hr3, ok_some]
  refine for_inv (fun us env => ∃ o2 o3 o4 o5 o6 o7 o8 o9 o10 o11 o12 o13 o14 o15 o16 o17 o18 o19 o20 o21 o22, env = [.val (.scr ns), .val .src, o2, o3, o4, o5, o6, o7, o8, o9, o10, o11, o12, o13, o14, o15, o16, o17, o18, o19, o20, o21, o22]) _ _ ⟨_, _, _, _, _, _, _, _, _, _, _, _, _, _, _, _, _, _, _, _, _, rfl⟩ ?_ ?_
  · rintro env ⟨o2, o3, o4, o5, o6, o7, o8, o9, o10, o11, o12, o13, o14, o15, o16, o17, o18, o19, o20, o21, o22, rfl⟩
    have e1 : ∀ Q, callW tb gu prim 59 "row_of" [.int 2, .tup [.int (-1), .int 0, .int 0]] Q = Q (.tup [.tup [tI [], .int 1], .tup [tI [-1, 0, 0], .int 1], .tup [tI [0], .int 2]]) := fun Q => by
      rw [← two_row]
      exact row_of_eq (n := 56) (deg := 2) (t := twoT) (by decide) (by decide)
    have e2 := (sh_row (k := 1) (deg := 2) (t := twoT) (by decide) ⟨⟨by decide, by decide⟩, ⟨by decide, by decide⟩⟩ (by decide) (by decide)).self (by decide)
    rw [two_row] at e2
    have e3 : tI [-1, 0, 0] = U.tup [.int (-1), .int 0, .int 0] := rfl
    rw [e3] at e1 e2
    rw [sq_nx]
    simp [e1, e2]
  · rintro u us env R ⟨o2, o3, o4, o5, o6, o7, o8, o9, o10, o11, o12, o13, o14, o15, o16, o17, o18, o19, o20, o21, o22, rfl⟩ hR _
    simp only [st_nm, ok_some, List.set_cons_succ, List.set_cons_zero]
    exact lap_ok fun _ _ _ _ _ _ _ _ _ _ _ _ _ _ _ _ _ _ => hR _ ⟨_, _, _, _, _, _, _, _, _, _, _, _, _, _, _, _, _, _, _, _, _, rfl⟩
end K
end Ev
end

open PySem PySem.W PyProof.Rows
set_option maxRecDepth 100000 in
set_option maxHeartbeats 0 in
theorem PySem.Challenge.cw_ruledtrees_k10_whole_counts_of_left_tree_holds : PySem.Challenge.rw_ruledtrees_k10_whole_counts_of_left_tree.Holds := by
  w_on; o_law; k_head; (case hw => w_witness2)
  k_fill
  refine Ev.walkEv (tb := Ev.K.tb) (gl := Ev.K.gl) (own := Ev.K.own) (gls := Ev.K.gls) (n := Ev.K.deep) (l := PySem.Challenge.rw_ruledtrees_k10_whole_counts_of_left_tree) rfl rfl rfl (fun w h Y => PySem.W.kIn_of Y) ?T (by decide +kernel) ⟨rfl, by decide, by decide⟩ Ev.K.law_true
  case T =>
    intro w mg h KX G
    refine' Ev.K.tab_mk KX G ?a0 ?l0 ?c0 ?k0 ?a1 ?l1 ?c1 ?k1 ?a2 ?l2 ?c2 ?k2 ?a3 ?l3 ?c3 ?k3 ?a4 ?l4 ?c4 ?k4 ?a5 ?l5 ?c5 ?k5 ?a6 ?l6 ?c6 ?k6 ?a7 ?l7 ?c7 ?k7 ?a8 ?l8 ?c8 ?k8 ?a9 ?l9 ?c9 ?k9 ?a10 ?l10 ?c10 ?k10 ?a11 ?l11 ?c11 ?k11 ?a12 ?l12 ?c12 ?k12 ?a13 ?l13 ?c13 ?k13 ?a14 ?l14 ?c14 ?k14 ?a15 ?l15 ?c15 ?k15 ?a16 ?l16 ?c16 ?k16 ?a17 ?l17 ?c17 ?k17 ?a18 ?l18 ?c18 ?k18 ?a19 ?l19 ?c19 ?k19 ?a20 ?l20 ?c20 ?k20 ?a21 ?l21 ?c21 ?k21 ?a22 ?l22 ?c22 ?k22 ?a23 ?l23 ?c23 ?k23 ?a24 ?l24 ?c24 ?k24 ?a25 ?l25 ?c25 ?k25 ?a26 ?l26 ?c26 ?k26 ?z0 ?z1 ?z2 ?z3 ?z4 ?z5 ?z6 ?z7 ?z8 ?z9 ?z10 ?z11 ?z12 ?z13
    (case a0 => k_is); (case l0 => k_is); (case c0 => k_is); (case k0 => k_is)
    (case a1 => k_is); (case l1 => k_is); (case c1 => k_is); (case k1 => k_is)
    (case a2 => k_is); (case l2 => k_is); (case c2 => k_is); (case k2 => k_is)
    (case a3 => k_is); (case l3 => k_is); (case c3 => k_is); (case k3 => k_is)
    (case a4 => k_is); (case l4 => k_is); (case c4 => k_is); (case k4 => k_is)
    (case a5 => k_is); (case l5 => k_is); (case c5 => k_is); (case k5 => k_is)
    (case a6 => k_is); (case l6 => k_is); (case c6 => k_is); (case k6 => k_is)
    (case a7 => k_is); (case l7 => k_is); (case c7 => k_is); (case k7 => k_is)
    (case a8 => k_is); (case l8 => k_is); (case c8 => k_is); (case k8 => k_is)
    (case a9 => k_is); (case l9 => k_is); (case c9 => k_is); (case k9 => k_is)
    (case a10 => k_is); (case l10 => k_is); (case c10 => k_is); (case k10 => k_is)
    (case a11 => k_is); (case l11 => k_is); (case c11 => k_is); (case k11 => k_is)
    (case a12 => k_is); (case l12 => k_is); (case c12 => k_is); (case k12 => k_is)
    (case a13 => k_is); (case l13 => k_is); (case c13 => k_is); (case k13 => k_is)
    (case a14 => k_is); (case l14 => k_is); (case c14 => k_is); (case k14 => k_is)
    (case a15 => k_is); (case l15 => k_is); (case c15 => k_is); (case k15 => k_is)
    (case a16 => k_is); (case l16 => k_is); (case c16 => k_is); (case k16 => k_is)
    (case a17 => k_is); (case l17 => k_is); (case c17 => k_is); (case k17 => k_is)
    (case a18 => k_is); (case l18 => k_is); (case c18 => k_is); (case k18 => k_is)
    (case a19 => k_is); (case l19 => k_is); (case c19 => k_is); (case k19 => k_is)
    (case a20 => k_is); (case l20 => k_is); (case c20 => k_is); (case k20 => k_is)
    (case a21 => k_is); (case l21 => k_is); (case c21 => k_is); (case k21 => k_is)
    (case a22 => k_is); (case l22 => k_is); (case c22 => k_is); (case k22 => k_is)
    (case a23 => k_is); (case l23 => k_is); (case c23 => k_is); (case k23 => k_is)
    (case a24 => k_is); (case l24 => k_is); (case c24 => k_is); (case k24 => k_is)
    (case a25 => k_is); (case l25 => k_is); (case c25 => k_is); (case k25 => k_is)
    (case a26 => k_is); (case l26 => k_is); (case c26 => k_is); (case k26 => k_is)
    (case z0 => k_is)
    (case z1 => k_is)
    (case z2 => k_is)
    (case z3 => k_is)
    (case z4 => k_is)
    (case z5 => k_is)
    (case z6 => k_is)
    (case z7 => k_is)
    (case z8 => k_is)
    (case z9 => k_is)
    (case z10 => k_is)
    (case z11 => k_is)
    (case z12 => k_is)
    (case z13 => k_is)
